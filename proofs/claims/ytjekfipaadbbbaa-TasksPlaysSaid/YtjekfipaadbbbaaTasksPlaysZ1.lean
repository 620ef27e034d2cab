/- Part of the proof of TasksPlays: see the last text. (Words laid by the print, as far as they are named here; walks written by a program of this project; plain laws.) -/
import Derived.Test.YtjekfipaadbbbaaTasksPlaysZ0
namespace Go.Proofs.Ytjekfipaadbbbaa.Fn
open Go.RowKit Go.Proofs.YtjekfipaadbbbaaW.PrintWords Go.Proofs.YtjekfipaadbbbaaW.PrintLast Go.Proofs.YtjekfipaadbbbaaW.PrintMore
abbrev bn := @blk_drewN
abbrev bd := @blk_drew
abbrev ba := @blk_alloc
abbrev asd := @Aside0.mk
abbrev wa := @below_alloc
abbrev wn := @pw_below_drewN
abbrev wd := @below_drew1
abbrev ws := @below_set
theorem sB : (∀ (l : List Value) (i : Nat) (a : Value), l.toArray.setIfInBounds i a = (l.set i a).toArray) ∧ (∀ (a b : Value) (l : List Value), (a :: l).set 0 b = b :: l) ∧ (∀ (a b : Value) (l : List Value) (n : Nat), (a :: l).set (n + 1) b = a :: l.set n b) := ⟨fun _ _ _ => List.setIfInBounds_toArray .., fun _ _ _ => rfl, fun _ _ _ _ => rfl⟩
end Go.Proofs.Ytjekfipaadbbbaa.Fn

namespace Go.Proofs.Ytjekfipaadbbbaa.Fn
open Go.RowKit Go.Proofs.YtjekfipaadbbbaaW.PrintWords Go.Proofs.YtjekfipaadbbbaaW.PrintLast Go.Proofs.YtjekfipaadbbbaaW.PrintMore
attribute [local go_sem] max2_int min2_int max_two min_two max_three min_three max_four min_four
set_option linter.unusedVariables false
set_option linter.unusedSimpArgs false
def errW : Option Int → Value
 | none => .nilIface
 | some c => .iface 0 (.int .i64 c)
theorem errW_none : errW none = .nilIface := rfl
theorem errW_some (c : Int) : errW (some c) = .iface 0 (.int .i64 c) := rfl
theorem info3 : (Try.prog.info? 3).map (fun i => (i.zero, i.size, i.bytes)) = some (some (.int .i64 0), 1, 8) := by kernel_rfl
theorem info76 : (Try.prog.info? 76).map (fun i => (i.zero, i.size, i.bytes)) = some (some (.agg #[(.int .i64 0), (.int .i64 0), (.int .i64 0)]), 3, 24) := by kernel_rfl
theorem info134 : (Try.prog.info? 134).map (fun i => (i.zero, i.size, i.bytes)) = some (some (.agg #[(.int .i64 0), (.int .i64 0), (.int .i64 0)]), 3, 24) := by kernel_rfl
structure S44 where
 f0 : Bool
 f1 : Int
 f2 : Int
 f3 : Int
 f4 : Int
 f5 : Int
def z44 : S44 := ⟨false, (0 : Int), (0 : Int), (0 : Int), (0 : Int), (0 : Int)⟩
def k44 : Kd S44 := Kd.iso (Kd.pair Kd.bool (Kd.pair (Kd.int .i64) (Kd.pair (Kd.int .i64) (Kd.pair (Kd.int .i64) (Kd.pair (Kd.int .i64) (Kd.int .i64)))))) (fun x : S44 => (x.f0, x.f1, x.f2, x.f3, x.f4, x.f5))
theorem k44_open {w : World} {x : S44} {cs : List Value} (h : k44.K w x cs) : cs = [.bool x.f0, .int .i64 x.f1, .int .i64 x.f2, .int .i64 x.f3, .int .i64 x.f4, .int .i64 x.f5] := by
 obtain ⟨_, _, rfl, rfl, ⟨_, _, rfl, rfl, ⟨_, _, rfl, rfl, ⟨_, _, rfl, rfl, ⟨_, _, rfl, rfl, rfl⟩⟩⟩⟩⟩ := h
 exact rfl
theorem k44_mk (w : World) (x : S44)  : k44.K w x [.bool x.f0, .int .i64 x.f1, .int .i64 x.f2, .int .i64 x.f3, .int .i64 x.f4, .int .i64 x.f5] := ⟨[.bool x.f0], [.int .i64 x.f1, .int .i64 x.f2, .int .i64 x.f3, .int .i64 x.f4, .int .i64 x.f5], rfl, rfl, ⟨[.int .i64 x.f1], [.int .i64 x.f2, .int .i64 x.f3, .int .i64 x.f4, .int .i64 x.f5], rfl, rfl, ⟨[.int .i64 x.f2], [.int .i64 x.f3, .int .i64 x.f4, .int .i64 x.f5], rfl, rfl, ⟨[.int .i64 x.f3], [.int .i64 x.f4, .int .i64 x.f5], rfl, rfl, ⟨[.int .i64 x.f4], [.int .i64 x.f5], rfl, rfl, rfl⟩⟩⟩⟩⟩
theorem k44_mkM (w : World) (base : Nat) (ok : Nat → Prop) (x : S44)  : k44.M w base ok x [.bool x.f0, .int .i64 x.f1, .int .i64 x.f2, .int .i64 x.f3, .int .i64 x.f4, .int .i64 x.f5] := ⟨[.bool x.f0], [.int .i64 x.f1, .int .i64 x.f2, .int .i64 x.f3, .int .i64 x.f4, .int .i64 x.f5], rfl, rfl, ⟨[.int .i64 x.f1], [.int .i64 x.f2, .int .i64 x.f3, .int .i64 x.f4, .int .i64 x.f5], rfl, rfl, ⟨[.int .i64 x.f2], [.int .i64 x.f3, .int .i64 x.f4, .int .i64 x.f5], rfl, rfl, ⟨[.int .i64 x.f3], [.int .i64 x.f4, .int .i64 x.f5], rfl, rfl, ⟨[.int .i64 x.f4], [.int .i64 x.f5], rfl, rfl, rfl⟩⟩⟩⟩⟩
def rd_T44 (xs : List S44) (i : Int) : S44 := xs.getD i.toNat z44
theorem at_T44 {w : World} {A : Option Addr} {n : Nat} {xs : List S44} (h : Kd.C k44 w A n xs) (i : Int) (h0 : 0 ≤ i) (h1 : i < n) : ∃ ad , A = some ad ∧ w.cell? (ad.add (i.toNat * 6)) = some (.bool (rd_T44 xs i).f0) ∧ w.cell? ⟨(ad.add (i.toNat * 6)).block, (ad.add (i.toNat * 6)).off + 1, none⟩ = some (.int .i64 (rd_T44 xs i).f1) ∧ w.cell? ⟨(ad.add (i.toNat * 6)).block, (ad.add (i.toNat * 6)).off + 2, none⟩ = some (.int .i64 (rd_T44 xs i).f2) ∧ w.cell? ⟨(ad.add (i.toNat * 6)).block, (ad.add (i.toNat * 6)).off + 3, none⟩ = some (.int .i64 (rd_T44 xs i).f3) ∧ w.cell? ⟨(ad.add (i.toNat * 6)).block, (ad.add (i.toNat * 6)).off + 4, none⟩ = some (.int .i64 (rd_T44 xs i).f4) ∧ w.cell? ⟨(ad.add (i.toNat * 6)).block, (ad.add (i.toNat * 6)).off + 5, none⟩ = some (.int .i64 (rd_T44 xs i).f5) := by
 obtain ⟨ad, c, e, _, hK, hc0⟩ := Kd.C_get h z44 i h0 h1
 have hc : ∀ j u, c[j]? = some u → w.cell? (ad.add (i.toNat * 6 + j)) = some u := hc0
 obtain rfl := k44_open hK
 exact ⟨ad, e, hc 0 _ rfl, by rw [← add_field _ _ 1 (by omega)]; exact hc 1 _ rfl, by rw [← add_field _ _ 2 (by omega)]; exact hc 2 _ rfl, by rw [← add_field _ _ 3 (by omega)]; exact hc 3 _ rfl, by rw [← add_field _ _ 4 (by omega)]; exact hc 4 _ rfl, by rw [← add_field _ _ 5 (by omega)]; exact hc 5 _ rfl⟩
structure S134 where
 f0 : Int
 f1 : Int
 f2 : Int
def z134 : S134 := ⟨(0 : Int), (0 : Int), (0 : Int)⟩
def k134 : Kd S134 := Kd.iso (Kd.pair (Kd.int .i64) (Kd.pair (Kd.int .i64) (Kd.int .i64))) (fun x : S134 => (x.f0, x.f1, x.f2))
theorem k134_open {w : World} {x : S134} {cs : List Value} (h : k134.K w x cs) : cs = [.int .i64 x.f0, .int .i64 x.f1, .int .i64 x.f2] := by
 obtain ⟨_, _, rfl, rfl, ⟨_, _, rfl, rfl, rfl⟩⟩ := h
 exact rfl
theorem k134_mkM (w : World) (base : Nat) (ok : Nat → Prop) (x : S134)  : k134.M w base ok x [.int .i64 x.f0, .int .i64 x.f1, .int .i64 x.f2] := ⟨[.int .i64 x.f0], [.int .i64 x.f1, .int .i64 x.f2], rfl, rfl, ⟨[.int .i64 x.f1], [.int .i64 x.f2], rfl, rfl, rfl⟩⟩
def rd_T134 (xs : List S134) (i : Int) : S134 := xs.getD i.toNat z134
theorem at_T134 {w : World} {A : Option Addr} {n : Nat} {xs : List S134} (h : Kd.C k134 w A n xs) (i : Int) (h0 : 0 ≤ i) (h1 : i < n) : ∃ ad , A = some ad ∧ w.cell? (ad.add (i.toNat * 3)) = some (.int .i64 (rd_T134 xs i).f0) ∧ w.cell? ⟨(ad.add (i.toNat * 3)).block, (ad.add (i.toNat * 3)).off + 1, none⟩ = some (.int .i64 (rd_T134 xs i).f1) ∧ w.cell? ⟨(ad.add (i.toNat * 3)).block, (ad.add (i.toNat * 3)).off + 2, none⟩ = some (.int .i64 (rd_T134 xs i).f2) := by
 obtain ⟨ad, c, e, _, hK, hc0⟩ := Kd.C_get h z134 i h0 h1
 have hc : ∀ j u, c[j]? = some u → w.cell? (ad.add (i.toNat * 3 + j)) = some u := hc0
 obtain rfl := k134_open hK
 exact ⟨ad, e, hc 0 _ rfl, by rw [← add_field _ _ 1 (by omega)]; exact hc 1 _ rfl, by rw [← add_field _ _ 2 (by omega)]; exact hc 2 _ rfl⟩
def rd_L4 (xs : List (List S134)) (i : Int) : (List S134) := xs.getD i.toNat ([] : List S134)
structure S63 where
 f0 : Int
 f1 : Int
 f2 : Int
 f3 : Int
 f4 : (List S134)
def z63 : S63 := ⟨(0 : Int), (0 : Int), (0 : Int), (0 : Int), ([] : List S134)⟩
def k63 : Kd S63 := Kd.iso (Kd.pair (Kd.int .i64) (Kd.pair (Kd.int .i64) (Kd.pair (Kd.int .i64) (Kd.pair (Kd.int .i64) (Kd.slice 134 k134))))) (fun x : S63 => (x.f0, x.f1, x.f2, x.f3, x.f4))
theorem k63_open {w : World} {x : S63} {cs : List Value} (h : k63.K w x cs) : ∃ A4 c4, cs = [.int .i64 x.f0, .int .i64 x.f1, .int .i64 x.f2, .int .i64 x.f3, .slice A4 x.f4.length c4] ∧ x.f4.length ≤ c4 ∧ k134.C w A4 x.f4.length x.f4 := by
 obtain ⟨_, _, rfl, rfl, ⟨_, _, rfl, rfl, ⟨_, _, rfl, rfl, ⟨_, _, rfl, rfl, ⟨A4, c4, rfl, l4, g4⟩⟩⟩⟩⟩ := h
 exact ⟨A4, c4, rfl, l4, g4⟩
def rd_T63 (xs : List S63) (i : Int) : S63 := xs.getD i.toNat z63
structure S65 where
 f0 : Int
 f1 : Int
 f2 : S63
def z65 : S65 := ⟨(0 : Int), (0 : Int), z63⟩
def k65 : Kd S65 := Kd.iso (Kd.pair (Kd.int .i64) (Kd.pair (Kd.int .i64) k63)) (fun x : S65 => (x.f0, x.f1, x.f2))
theorem k65_open {w : World} {x : S65} {cs : List Value} (h : k65.K w x cs) : ∃ A6 c6, cs = [.int .i64 x.f0, .int .i64 x.f1, .int .i64 x.f2.f0, .int .i64 x.f2.f1, .int .i64 x.f2.f2, .int .i64 x.f2.f3, .slice A6 x.f2.f4.length c6] ∧ x.f2.f4.length ≤ c6 ∧ k134.C w A6 x.f2.f4.length x.f2.f4 := by
 obtain ⟨_, _, rfl, rfl, ⟨_, _, rfl, rfl, s2⟩⟩ := h
 obtain ⟨A6, c6, rfl, l6, g6⟩ := k63_open s2
 exact ⟨A6, c6, rfl, l6, g6⟩
def rd_T65 (xs : List S65) (i : Int) : S65 := xs.getD i.toNat z65
theorem at_T65 {w : World} {A : Option Addr} {n : Nat} {xs : List S65} (h : Kd.C k65 w A n xs) (i : Int) (h0 : 0 ≤ i) (h1 : i < n) : ∃ ad A6 c6, A = some ad ∧ w.cell? (ad.add (i.toNat * 7)) = some (.int .i64 (rd_T65 xs i).f0) ∧ w.cell? ⟨(ad.add (i.toNat * 7)).block, (ad.add (i.toNat * 7)).off + 1, none⟩ = some (.int .i64 (rd_T65 xs i).f1) ∧ w.cell? ⟨(ad.add (i.toNat * 7)).block, (ad.add (i.toNat * 7)).off + 2, none⟩ = some (.int .i64 (rd_T65 xs i).f2.f0) ∧ w.cell? ⟨(ad.add (i.toNat * 7)).block, (ad.add (i.toNat * 7)).off + 3, none⟩ = some (.int .i64 (rd_T65 xs i).f2.f1) ∧ w.cell? ⟨(ad.add (i.toNat * 7)).block, (ad.add (i.toNat * 7)).off + 4, none⟩ = some (.int .i64 (rd_T65 xs i).f2.f2) ∧ w.cell? ⟨(ad.add (i.toNat * 7)).block, (ad.add (i.toNat * 7)).off + 5, none⟩ = some (.int .i64 (rd_T65 xs i).f2.f3) ∧ w.cell? ⟨(ad.add (i.toNat * 7)).block, (ad.add (i.toNat * 7)).off + 6, none⟩ = some (.slice A6 (rd_T65 xs i).f2.f4.length c6) ∧ (rd_T65 xs i).f2.f4.length ≤ c6 ∧ k134.C w A6 (rd_T65 xs i).f2.f4.length (rd_T65 xs i).f2.f4 := by
 obtain ⟨ad, c, e, _, hK, hc0⟩ := Kd.C_get h z65 i h0 h1
 have hc : ∀ j u, c[j]? = some u → w.cell? (ad.add (i.toNat * 7 + j)) = some u := hc0
 obtain ⟨A6, c6, rfl, l6, g6⟩ := k65_open hK
 exact ⟨ad, A6, c6, e, hc 0 _ rfl, by rw [← add_field _ _ 1 (by omega)]; exact hc 1 _ rfl, by rw [← add_field _ _ 2 (by omega)]; exact hc 2 _ rfl, by rw [← add_field _ _ 3 (by omega)]; exact hc 3 _ rfl, by rw [← add_field _ _ 4 (by omega)]; exact hc 4 _ rfl, by rw [← add_field _ _ 5 (by omega)]; exact hc 5 _ rfl, by rw [← add_field _ _ 6 (by omega)]; exact hc 6 _ rfl, l6, g6⟩
structure S76 where
 f0 : Int
 f1 : Int
 f2 : Int
def z76 : S76 := ⟨(0 : Int), (0 : Int), (0 : Int)⟩
def k76 : Kd S76 := Kd.iso (Kd.pair (Kd.int .i64) (Kd.pair (Kd.int .i64) (Kd.int .i64))) (fun x : S76 => (x.f0, x.f1, x.f2))
theorem k76_open {w : World} {x : S76} {cs : List Value} (h : k76.K w x cs) : cs = [.int .i64 x.f0, .int .i64 x.f1, .int .i64 x.f2] := by
 obtain ⟨_, _, rfl, rfl, ⟨_, _, rfl, rfl, rfl⟩⟩ := h
 exact rfl
theorem k76_mk (w : World) (x : S76)  : k76.K w x [.int .i64 x.f0, .int .i64 x.f1, .int .i64 x.f2] := ⟨[.int .i64 x.f0], [.int .i64 x.f1, .int .i64 x.f2], rfl, rfl, ⟨[.int .i64 x.f1], [.int .i64 x.f2], rfl, rfl, rfl⟩⟩
theorem k76_mkM (w : World) (base : Nat) (ok : Nat → Prop) (x : S76)  : k76.M w base ok x [.int .i64 x.f0, .int .i64 x.f1, .int .i64 x.f2] := ⟨[.int .i64 x.f0], [.int .i64 x.f1, .int .i64 x.f2], rfl, rfl, ⟨[.int .i64 x.f1], [.int .i64 x.f2], rfl, rfl, rfl⟩⟩
def rd_T76 (xs : List S76) (i : Int) : S76 := xs.getD i.toNat z76
theorem at_T76 {w : World} {A : Option Addr} {n : Nat} {xs : List S76} (h : Kd.C k76 w A n xs) (i : Int) (h0 : 0 ≤ i) (h1 : i < n) : ∃ ad , A = some ad ∧ w.cell? (ad.add (i.toNat * 3)) = some (.int .i64 (rd_T76 xs i).f0) ∧ w.cell? ⟨(ad.add (i.toNat * 3)).block, (ad.add (i.toNat * 3)).off + 1, none⟩ = some (.int .i64 (rd_T76 xs i).f1) ∧ w.cell? ⟨(ad.add (i.toNat * 3)).block, (ad.add (i.toNat * 3)).off + 2, none⟩ = some (.int .i64 (rd_T76 xs i).f2) := by
 obtain ⟨ad, c, e, _, hK, hc0⟩ := Kd.C_get h z76 i h0 h1
 have hc : ∀ j u, c[j]? = some u → w.cell? (ad.add (i.toNat * 3 + j)) = some u := hc0
 obtain rfl := k76_open hK
 exact ⟨ad, e, hc 0 _ rfl, by rw [← add_field _ _ 1 (by omega)]; exact hc 1 _ rfl, by rw [← add_field _ _ 2 (by omega)]; exact hc 2 _ rfl⟩
structure S143 where
 f0 : Int
 f1 : Int
def z143 : S143 := ⟨(0 : Int), (0 : Int)⟩
def k143 : Kd S143 := Kd.iso (Kd.pair (Kd.int .i64) (Kd.int .i64)) (fun x : S143 => (x.f0, x.f1))
def rd_T143 (xs : List S143) (i : Int) : S143 := xs.getD i.toNat z143
end Go.Proofs.Ytjekfipaadbbbaa.Fn
namespace Go.Proofs.Ytjekfipaadbbbaa.Fn
open Go.RowKit Go.Proofs.YtjekfipaadbbbaaW.PrintWords Go.Proofs.YtjekfipaadbbbaaW.PrintLast Go.Proofs.YtjekfipaadbbbaaW.PrintMore
set_option linter.unusedVariables false
set_option linter.unusedSimpArgs false
def Opens (P : Program) (t : TypeId) {α : Type} (d : Kd α) (Q : α → Prop) : Prop :=
 ∀ (H : Type) (enc : TypeId × Value → H) (w : World) (base : Nat) (spare : Nat → Bool) (held : Bool) (fuel : Nat) (cs : List Value) (x : DataW H × List MemPlace),
  DataW.trod enc P w base spare held fuel t cs = some x → ∃ a : α, d.K w a cs ∧ Q a
def qInt (k : IntKind) (n : Int) : Prop := (Lit.int k n).wf = true
def qAny {α : Type} (_ : α) : Prop := True
def qStr (s : ByteArray) : Prop := s.size ≤ maxLen
def qList {α : Type} (Q : α → Prop) (xs : List α) : Prop := xs.length ≤ maxLen ∧ ∀ x ∈ xs, Q x
theorem opens_int {P : Program} {t : TypeId} {k : IntKind} (ht : P.underlying t = some (.int k)) : Opens P t (Kd.int k) (qInt k) := by
 intro H enc w base spare held fuel cs x h
 obtain ⟨n, e, _, hw⟩ := DataW.trod_int ht h
 exact ⟨n, e, hw⟩
theorem opens_bool {P : Program} {t : TypeId} (ht : P.underlying t = some .bool) : Opens P t Kd.bool qAny := by
 intro H enc w base spare held fuel cs x h
 obtain ⟨n, e, _⟩ := DataW.trod_bool ht h
 exact ⟨n, e, trivial⟩
theorem list_of {α : Type} {p : Nat → α → Prop} : ∀ n, (∀ i, i < n → ∃ a, p i a) → ∃ xs : List α, xs.length = n ∧ ∀ i a, xs[i]? = some a → p i a
 | 0, _ => ⟨[], rfl, fun i a h => by simp at h⟩
 | n + 1, h => by
  obtain ⟨xs, hl, hx⟩ := list_of n (fun i hi => h i (by omega))
  obtain ⟨a, ha⟩ := h n (by omega)
  refine ⟨xs ++ [a], by simp [hl], fun i b hb => ?_⟩
  rcases Nat.lt_trichotomy i n with hi | hi | hi
  ·rw [List.getElem?_append_left (by omega)] at hb
   exact hx i b hb
  ·subst hi
   rw [← hl] at hb
   simp at hb
   subst hb
   rw [hl] at *
   exact ha
  ·rw [List.getElem?_eq_none (by simp [hl]; omega)] at hb
   cases hb
theorem opens_slice {P : Program} {t e : TypeId} {α : Type} {d : Kd α} {Q : α → Prop} (ht : P.underlying t = some (.slice e)) (hc : P.cellsOf e = d.sz) (ho : Opens P e d Q) : Opens P t (Kd.slice e d) (qList Q) := by
 intro H enc w base spare held fuel cs x h
 rcases Go.Deep.open_slice ht h with ⟨rfl, _⟩ | ⟨a, len, cap, m, n, D, Pl, rfl, _, hl, hm, hmm, _, hx⟩
 ·exact ⟨[], ⟨none, 0, rfl, Nat.le_refl _, Kd.C_nil _ _⟩, by simp, fun x hx => by cases hx⟩
 ·have hlm : len ≤ m := by rw [hmm]; split <;> omega
  obtain ⟨xs, hxl, hxs⟩ := list_of (p := fun i a' => ∃ cs', w.cells? base (a.add (i * P.cellsOf e)) (P.cellsOf e) = some cs' ∧ d.K w a' cs' ∧ Q a') len (fun i hi => by
   obtain ⟨cs', h1, h2⟩ := hx i (by omega)
   obtain ⟨a', h3, h4⟩ := ho H enc w base spare held n cs' _ h2
   exact ⟨a', cs', h1, h3, h4⟩)
  refine ⟨xs, ⟨some a, cap, by rw [hxl], by omega, ?_⟩, by omega, fun x hx => ?_⟩
  ·refine ⟨rfl, by rw [hxl]; unfold maxLen at hm; omega, fun _ => ⟨a, rfl, ?_⟩⟩
   intro j p hp
   obtain ⟨cs', h1, h2, _⟩ := hxs j p hp
   obtain ⟨_, hcl, hci⟩ := World.cells?_some h1
   refine ⟨cs', by rw [hcl, hc], h2, fun i u hu => ?_⟩
   have hi : i < cs'.length := (List.getElem?_eq_some_iff.1 hu).1
   have h4 := hci i (by omega)
   rw [hu, Go.Deep.add_add, hc] at h4
   exact h4
  ·obtain ⟨i, hi, rfl⟩ := List.mem_iff_getElem.1 hx
   obtain ⟨_, _, _, hq⟩ := hxs i _ (List.getElem?_eq_getElem hi)
   exact hq
end Go.Proofs.Ytjekfipaadbbbaa.Fn
namespace Go.Proofs.Ytjekfipaadbbbaa.Fn
open Go.RowKit Go.Proofs.YtjekfipaadbbbaaW.PrintWords Go.Proofs.YtjekfipaadbbbaaW.PrintLast Go.Proofs.YtjekfipaadbbbaaW.PrintMore
set_option linter.unusedVariables false
set_option linter.unusedSimpArgs false
structure Chg (S : Nat → Prop) (w w' : World) : Prop where
 os : w'.os = w.os
 tape : w'.tape = w.tape
 output : w'.output = w.output
 size : w.heap.size ≤ w'.heap.size
 block : ∀ k, k < w.heap.size → ¬ S k → w'.heap[k]? = w.heap[k]?
section
variable {S S2 : Nat → Prop} {w w1 w2 : World} {B : Nat}
theorem Chg.refl (S : Nat → Prop) (w : World) : Chg S w w := ⟨rfl, rfl, rfl, Nat.le_refl _, fun _ _ _ => rfl⟩
theorem Chg.then_ (h : Chg S w w1) (k : Chg S2 w1 w2) (hs : ∀ k, S2 k → S k ∨ w.heap.size ≤ k) : Chg S w w2 :=
 ⟨k.os.trans h.os, k.tape.trans h.tape, k.output.trans h.output, Nat.le_trans h.size k.size, fun i hi hn => (k.block i (Nat.lt_of_lt_of_le hi h.size) (fun h2 => (hs i h2).elim hn (fun h3 => by omega))).trans (h.block i hi hn)⟩
theorem Chg.trans (h : Chg S w w1) (k : Chg S w1 w2) : Chg S w w2 := h.then_ k (fun _ h => .inl h)
theorem Chg.mono (h : Chg S w w1) (hs : ∀ k, S k → S2 k) : Chg S2 w w1 := ⟨h.os, h.tape, h.output, h.size, fun i hi hn => h.block i hi (fun hk => hn (hs i hk))⟩
theorem Chg.of_below (h : Below w.heap.size w w1) (S : Nat → Prop) : Chg S w w1 := ⟨h.os, h.tape, h.output, h.size, fun i hi _ => h.block i hi⟩
theorem Chg.of_belowB (h : Below B w w1) : Chg (fun k => B ≤ k) w w1 := ⟨h.os, h.tape, h.output, h.size, fun i hi hn => h.block i (by omega)⟩
theorem Chg.to_below (h : Chg S w w1) (hS : ∀ k, S k → B ≤ k) (hB : B ≤ w.heap.size) : Below B w w1 := ⟨h.os, h.tape, h.output, h.size, fun k hk => h.block k (by omega) (fun hs => by have := hS k hs; omega)⟩
theorem Chg.below (h : Chg S w w1) (k : Below w1.heap.size w1 w2) : Chg S w w2 := h.then_ (Chg.of_below k (fun _ => False)) (fun _ hk => hk.elim)
theorem Chg.alloc (h : Chg S w w1) (o : Obj) : Chg S w (w1.alloc o) := h.below (below_alloc (Below.refl _ _) o)
theorem Chg.drew (h : Chg S w w1) : Chg S w w1.drew := ⟨h.os, h.tape, h.output, h.size, h.block⟩
theorem Chg.drewN (h : Chg S w w1) (n : Nat) : Chg S w (w1.drewN n) := ⟨h.os, h.tape, h.output, h.size, h.block⟩
theorem Chg.set_ (h : Chg S w w1) {p : Addr} (hp : S p.block ∨ w.heap.size ≤ p.block) (u : Value) : Chg S w (w1.setCell p u) :=
 h.then_ (S2 := fun k => k = p.block) ⟨rfl, rfl, rfl, by simp [World.setCell], fun i _ hn => Below.heap_setCell w1 p u i hn⟩ (fun k hk => by rw [hk]; exact hp)
theorem Chg.grown (h : Chg S w w1) {row : Option Nat} (hg : w1.grownBy w2 row) (hr : ∀ k, row = some k → S k ∨ w.heap.size ≤ k) : Chg S w w2 :=
 h.then_ (S2 := fun k => row = some k) ⟨hg.os, hg.tape, hg.output, hg.size, fun i hi hn => hg.block i hi (fun he => hn he.symm)⟩ hr
theorem blk_chg {g : Nat} {o : Obj} (hb : w.heap[g]? = some o) (hk : Chg S w w1) (hne : ¬ S g) : w1.heap[g]? = some o := (hk.block g (blk_lt hb) hne).trans hb
theorem R_chg {α : Type} {d : Kd α} {e base : Nat} {ok : Nat → Prop} {v : Value} {xs : List α} (h : d.R e w base ok v xs) (hk : Chg S w w1) (hne : ∀ k, ok k → ¬ S k) : d.R e w1 base ok v xs := Kd.R_step h (fun k ho hlt => hk.block k hlt (hne k ho))
theorem R_chgB {α : Type} {d : Kd α} {e base : Nat} {ok : Nat → Prop} {v : Value} {xs : List α} (h : d.R e w base ok v xs) (hk : Chg S w w1) (hne : ∀ k, S k → k < base) : d.R e w1 base ok v xs :=
 Kd.R_mono (R_chg (Kd.R_bound h) hk (fun k hk hs => by have := hne k hs; have := hk.2.1; omega)) (fun _ h => h.1)
theorem R_chgT {α : Type} {d : Kd α} {e base : Nat} {ok : Nat → Prop} {v : Value} {xs : List α} (hE : d.E = []) (h : d.R e w base ok v xs) (hk : Chg S w w1) (hn : ∀ k cells, w.heap[k]? = some (.cells cells e (0, 0)) → ¬ S k) : d.R e w1 base ok v xs :=
 Kd.R_mono (R_chg (Kd.R_tight2 hE h) hk (fun k hk => by obtain ⟨cells, hc⟩ := Kd.R_typed h k hk.1.symm; exact hn k cells hc)) (fun _ h => h.2)
def OfTypes (ts : List Nat) (w : World) (S : Nat → Prop) : Prop := ∀ k, S k → k < w.heap.size → ∃ t cells, t ∈ ts ∧ w.heap[k]? = some (.cells cells t (0, 0))
theorem C_ofR {α : Type} {d : Kd α} {e base n c : Nat} {ok : Nat → Prop} {A : Option Addr} {xs : List α} (h : d.R e w base ok (.slice A n c) xs) : d.C w A xs.length xs := (Kd.R_reads' h).2.2
theorem below_drewN1 (w : World) (n : Nat) : Below w.heap.size w (w.drewN n) := pw_below_drewN (Below.refl _ _) n
theorem getD_lt {α : Type} (l : List α) (z : α) {n : Nat} (h : n < l.length) : l.getD n z = l[n] := by simp [List.getD, h]
theorem take_one {α : Type} (l : List α) (z : α) (x : Int) (h0 : 0 ≤ x) (h1 : x < l.length) : l.take x.toNat ++ [l.getD x.toNat z] = l.take (x + 1).toNat := by
 have e : (x + 1).toNat = x.toNat + 1 := by omega
 have hl : x.toNat < l.length := by omega
 rw [e, List.take_succ_eq_append_getElem hl]
 simp [List.getD, hl]
theorem max2_mx (k k' : IntKind) (x y : Int) : Builtin.max2 (.int k x) (.int k' y) = pure (.int k (mx x y)) := by rw [max2_int]; rfl
theorem min2_mn (k k' : IntKind) (x y : Int) : Builtin.min2 (.int k x) (.int k' y) = pure (.int k (mn x y)) := by rw [min2_int]; rfl
theorem Ev.some_ {α : Type} {g : Nat → Option α} {r : α} (h : ∀ k, g k = some r) : Ev g r := ⟨0, fun k _ => h k⟩
end
end Go.Proofs.Ytjekfipaadbbbaa.Fn
namespace Go.Proofs.Ytjekfipaadbbbaa.Fn
open Go.RowKit Go.Proofs.YtjekfipaadbbbaaW.PrintWords Go.Proofs.YtjekfipaadbbbaaW.PrintLast Go.Proofs.YtjekfipaadbbbaaW.PrintMore
set_option linter.unusedVariables false
set_option linter.unusedSimpArgs false
theorem getD_set {α : Type} (l : List α) (i j : Nat) (x z : α) : (l.set i x).getD j z = if i = j ∧ i < l.length then x else l.getD j z := by
 simp only [List.getD_eq_getElem?_getD, List.getElem?_set]
 by_cases h : i = j
 ·subst h
  by_cases h2 : i < l.length
  ·simp [h2]
  ·simp [h2]
 ·simp [h]
def lessB (dus : List Int) (a b : Int) : Bool := decide (dus.getD a.toNat 0 < dus.getD b.toNat 0 ∨ (dus.getD a.toNat 0 = dus.getD b.toNat 0 ∧ a < b))
def leD (d : List Int) (a b : Int) : Prop := lessB d b a = false
theorem less_iff (d : List Int) (a b : Int) : lessB d a b = true ↔ (d.getD a.toNat 0 < d.getD b.toNat 0 ∨ (d.getD a.toNat 0 = d.getD b.toNat 0 ∧ a < b)) := by unfold lessB; rw [decide_eq_true_iff]
theorem le_iff (d : List Int) (a b : Int) : leD d a b ↔ (d.getD a.toNat 0 < d.getD b.toNat 0 ∨ (d.getD a.toNat 0 = d.getD b.toNat 0 ∧ a ≤ b)) := by unfold leD lessB; rw [decide_eq_false_iff_not]; omega
theorem le_refl' (d : List Int) (a : Int) : leD d a a := by rw [le_iff]; omega
theorem le_trans' {d : List Int} {a b c : Int} (h : leD d a b) (k : leD d b c) : leD d a c := by rw [le_iff] at *; omega
theorem le_of_less {d : List Int} {a b : Int} (h : lessB d a b = true) : leD d a b := by rw [less_iff] at h; rw [le_iff]; omega
def parN (j : Nat) : Nat := (j - 1) / 2
def swapA (ats : List Int) (i k : Nat) : List Int := (ats.set i (ats.getD k 0)).set k (ats.getD i 0)
def swapP (ats pls : List Int) (i k : Nat) : List Int := (pls.set (ats.getD k 0).toNat i).set (ats.getD i 0).toNat k
theorem swapA_length (ats : List Int) (i k : Nat) : (swapA ats i k).length = ats.length := by simp [swapA]
theorem swapP_length (ats pls : List Int) (i k : Nat) : (swapP ats pls i k).length = pls.length := by simp [swapP]
theorem swapA_get (ats : List Int) (i k j : Nat) (hi : i < ats.length) (hk : k < ats.length) : (swapA ats i k).getD j 0 = if j = k then ats.getD i 0 else if j = i then ats.getD k 0 else ats.getD j 0 := by
 unfold swapA
 rw [getD_set, getD_set, List.length_set]
 by_cases h1 : k = j
 ·rw [if_pos ⟨h1, hk⟩, if_pos h1.symm]
 ·have n1 : ¬ (k = j ∧ k < ats.length) := fun q => h1 q.1
  have n2 : ¬ (j = k) := fun e => h1 e.symm
  rw [if_neg n1, if_neg n2]
  by_cases h2 : i = j
  ·rw [if_pos ⟨h2, hi⟩, if_pos h2.symm]
  ·have n3 : ¬ (i = j ∧ i < ats.length) := fun q => h2 q.1
   have n4 : ¬ (j = i) := fun e => h2 e.symm
   rw [if_neg n3, if_neg n4]
structure Linked (ats pls dus : List Int) : Prop where
 len : pls.length = dus.length
 rng : ∀ i, i < ats.length → 0 ≤ ats.getD i 0 ∧ ats.getD i 0 < dus.length
 fwd : ∀ i, i < ats.length → pls.getD (ats.getD i 0).toNat 0 = (i : Int)
 bwd : ∀ id : Nat, id < pls.length → pls.getD id 0 = -1 ∨ ∃ i : Nat, i < ats.length ∧ pls.getD id 0 = (i : Int) ∧ ats.getD i 0 = (id : Int)
def SameIn (p q : List Int) : Prop := ∀ id : Nat, id < p.length → (q.getD id 0 = -1 ↔ p.getD id 0 = -1)
theorem Linked.inj {ats pls dus : List Int} (h : Linked ats pls dus) {i k : Nat} (hi : i < ats.length) (hk : k < ats.length) (e : ats.getD i 0 = ats.getD k 0) : i = k := by
 have h1 := h.fwd i hi
 have h2 := h.fwd k hk
 rw [e, h2] at h1
 omega
theorem swapP_get {ats pls dus : List Int} (h : Linked ats pls dus) (i k id : Nat) (hi : i < ats.length) (hk : k < ats.length) : (swapP ats pls i k).getD id 0 = if (id : Int) = ats.getD i 0 then (k : Int) else if (id : Int) = ats.getD k 0 then (i : Int) else pls.getD id 0 := by
 have ri := h.rng i hi
 have rk := h.rng k hk
 have hl := h.len
 unfold swapP
 rw [getD_set, getD_set, List.length_set]
 by_cases h1 : (id : Int) = ats.getD i 0
 ·rw [if_pos ⟨by omega, by omega⟩, if_pos h1]
 ·rw [if_neg (fun q => h1 (by omega)), if_neg h1]
  by_cases h2 : (id : Int) = ats.getD k 0
  ·rw [if_pos ⟨by omega, by omega⟩, if_pos h2]
  ·rw [if_neg (fun q => h2 (by omega)), if_neg h2]
theorem Linked.swap {ats pls dus : List Int} (h : Linked ats pls dus) {i k : Nat} (hi : i < ats.length) (hk : k < ats.length) : Linked (swapA ats i k) (swapP ats pls i k) dus ∧ SameIn pls (swapP ats pls i k) := by
 have ri := h.rng i hi
 have rk := h.rng k hk
 have hl := h.len
 refine ⟨⟨by rw [swapP_length]; exact hl, ?_, ?_, ?_⟩, ?_⟩
 ·intro j hj
  rw [swapA_length] at hj
  rw [swapA_get ats i k j hi hk]
  repeat' split
  ·exact ri
  ·exact rk
  ·exact h.rng j hj
 ·intro j hj
  rw [swapA_length] at hj
  rw [swapA_get ats i k j hi hk, swapP_get h i k _ hi hk]
  by_cases h1 : j = k
  ·subst h1
   rw [if_pos rfl, if_pos (by omega)]
  ·rw [if_neg h1]
   by_cases h2 : j = i
   ·subst h2
    rw [if_pos rfl]
    have hne : ats.getD k 0 ≠ ats.getD j 0 := fun e => h1 (h.inj hk hi e).symm
    rw [if_neg (by omega), if_pos (by omega)]
   ·rw [if_neg h2]
    have rj := h.rng j hj
    have n1 : ats.getD j 0 ≠ ats.getD i 0 := fun e => h2 (h.inj hj hi e)
    have n2 : ats.getD j 0 ≠ ats.getD k 0 := fun e => h1 (h.inj hj hk e)
    rw [if_neg (by omega), if_neg (by omega)]
    exact h.fwd j hj
 ·intro id hid
  rw [swapP_length] at hid
  rw [swapP_get h i k id hi hk]
  by_cases h1 : (id : Int) = ats.getD i 0
  ·rw [if_pos h1]
   exact .inr ⟨k, by rw [swapA_length]; exact hk, rfl, by rw [swapA_get ats i k k hi hk, if_pos rfl, h1]⟩
  ·rw [if_neg h1]
   by_cases h2 : (id : Int) = ats.getD k 0
   ·rw [if_pos h2]
    have hne : i ≠ k := fun e => h1 (by rw [e]; exact h2)
    exact .inr ⟨i, by rw [swapA_length]; exact hi, rfl, by rw [swapA_get ats i k i hi hk, if_neg hne, if_pos rfl, h2]⟩
   ·rw [if_neg h2]
    rcases h.bwd id hid with hb | ⟨j, hj, hp, ha⟩
    ·exact .inl hb
    ·have n1 : j ≠ k := fun e => h2 (by rw [← e]; exact ha.symm)
     have n2 : j ≠ i := fun e => h1 (by rw [← e]; exact ha.symm)
     exact .inr ⟨j, by rw [swapA_length]; exact hj, hp, by rw [swapA_get ats i k j hi hk, if_neg n1, if_neg n2]; exact ha⟩
 ·intro id hid
  rw [swapP_get h i k id hi hk]
  by_cases h1 : (id : Int) = ats.getD i 0
  ·rw [if_pos h1]
   have h3 := h.fwd i hi
   have e : (ats.getD i 0).toNat = id := by omega
   rw [e] at h3
   omega
  ·rw [if_neg h1]
   by_cases h2 : (id : Int) = ats.getD k 0
   ·rw [if_pos h2]
    have h3 := h.fwd k hk
    have e : (ats.getD k 0).toNat = id := by omega
    rw [e] at h3
    omega
   ·rw [if_neg h2]
theorem SameIn.trans {p q r : List Int} (h : SameIn p q) (hl : q.length = p.length) (k : SameIn q r) : SameIn p r := fun id hid => (k id (by omega)).trans (h id hid)
def HeapP (d ats : List Int) : Prop := ∀ j, 0 < j → j < ats.length → leD d (ats.getD (parN j) 0) (ats.getD j 0)
def UpInv (moved : Bool) (d ats : List Int) (i : Nat) : Prop := (∀ j, 0 < j → j < ats.length → j ≠ i → (moved = true ∨ parN j ≠ i) → leD d (ats.getD (parN j) 0) (ats.getD j 0)) ∧ (0 < i → ∀ j, 0 < j → j < ats.length → parN j = i → leD d (ats.getD (parN i) 0) (ats.getD j 0))
def DownInv (d ats : List Int) (i : Nat) : Prop := (∀ j, 0 < j → j < ats.length → parN j ≠ i → leD d (ats.getD (parN j) 0) (ats.getD j 0)) ∧ (0 < i → ∀ j, 0 < j → j < ats.length → parN j = i → leD d (ats.getD (parN i) 0) (ats.getD j 0))
theorem parN_lt {j : Nat} (h : 0 < j) : parN j < j := by unfold parN; omega
theorem heap_down {d ats : List Int} (h : HeapP d ats) (i : Nat) (hi : i < ats.length) : DownInv d ats i :=
 ⟨fun j h0 hj _ => h j h0 hj, fun h0 j hj0 hj hp => le_trans' (h i h0 hi) (by have := h j hj0 hj; rwa [hp] at this)⟩
theorem up_step {m : Bool} {d ats : List Int} {i : Nat} (h : UpInv m d ats i) (h0 : 0 < i) (hi : i < ats.length) (hl : lessB d (ats.getD i 0) (ats.getD (parN i) 0) = true) : UpInv true d (swapA ats i (parN i)) (parN i) := by
 have hp := parN_lt h0
 have hpl : parN i < ats.length := by omega
 refine ⟨?_, ?_⟩
 ·intro j hj0 hj hne _
  rw [swapA_length] at hj
  rw [swapA_get ats i _ _ hi hpl, swapA_get ats i _ _ hi hpl, if_neg hne]
  by_cases h1 : parN j = parN i
  ·rw [if_pos h1]
   by_cases h2 : j = i
   ·rw [if_pos h2]; exact le_of_less hl
   ·rw [if_neg h2]
    have h3 := h.1 j hj0 hj h2 (.inr (by omega))
    rw [h1] at h3
    exact le_trans' (le_of_less hl) h3
  ·rw [if_neg h1]
   by_cases h2 : j = i
   ·subst h2; exact absurd rfl h1
   ·rw [if_neg h2]
    by_cases h3 : parN j = i
    ·rw [if_pos h3]; exact h.2 h0 j hj0 hj h3
    ·rw [if_neg h3]; exact h.1 j hj0 hj h2 (.inr h3)
 ·intro hp0 j hj0 hj hjp
  rw [swapA_length] at hj
  have hpp := parN_lt hp0
  have hpi := h.1 (parN i) hp0 hpl (by omega) (.inr (by omega))
  rw [swapA_get ats i _ _ hi hpl, swapA_get ats i _ _ hi hpl, if_neg (by omega), if_neg (by omega), if_neg (by have := parN_lt hj0; omega)]
  by_cases h2 : j = i
  ·rw [if_pos h2]; exact hpi
  ·rw [if_neg h2]
   have h3 := h.1 j hj0 hj h2 (.inr (by omega))
   rw [hjp] at h3
   exact le_trans' hpi h3
theorem up_end {d ats : List Int} {i : Nat} (h : UpInv true d ats i) (he : i = 0 ∨ lessB d (ats.getD i 0) (ats.getD (parN i) 0) = false) : HeapP d ats := by
 intro j h0 hj
 by_cases h1 : j = i
 ·subst h1
  rcases he with he | he
  ·omega
  ·exact he
 ·exact h.1 j h0 hj h1 (.inl rfl)
theorem up_still {d ats : List Int} {i : Nat} (h : UpInv false d ats i) (he : i = 0 ∨ lessB d (ats.getD i 0) (ats.getD (parN i) 0) = false) : DownInv d ats i := by
 refine ⟨fun j h0 hj hp => ?_, h.2⟩
 by_cases h1 : j = i
 ·subst h1
  rcases he with he | he
  ·omega
  ·exact he
 ·exact h.1 j h0 hj h1 (.inr hp)
def leastF (d ats : List Int) (i : Nat) : Nat :=
 if 2 * i + 2 < ats.length ∧ lessB d (ats.getD (2 * i + 2) 0) (ats.getD (if 2 * i + 1 < ats.length ∧ lessB d (ats.getD (2 * i + 1) 0) (ats.getD i 0) = true then 2 * i + 1 else i) 0) = true then 2 * i + 2
 else if 2 * i + 1 < ats.length ∧ lessB d (ats.getD (2 * i + 1) 0) (ats.getD i 0) = true then 2 * i + 1 else i
theorem least_spec (d ats : List Int) (i : Nat) (hi : i < ats.length) : leastF d ats i < ats.length ∧ i ≤ leastF d ats i ∧ (∀ c, 0 < c → c < ats.length → parN c = i → leD d (ats.getD (leastF d ats i) 0) (ats.getD c 0)) ∧ leD d (ats.getD (leastF d ats i) 0) (ats.getD i 0) ∧ (leastF d ats i ≠ i → parN (leastF d ats i) = i) := by
 have tot : ∀ a b, lessB d a b = false → leD d b a := fun a b h => h
 unfold leastF
 by_cases c1 : 2 * i + 1 < ats.length ∧ lessB d (ats.getD (2 * i + 1) 0) (ats.getD i 0) = true
 ·simp only [if_pos c1]
  by_cases c2 : 2 * i + 2 < ats.length ∧ lessB d (ats.getD (2 * i + 2) 0) (ats.getD (2 * i + 1) 0) = true
  ·rw [if_pos c2]
   refine ⟨c2.1, by omega, ?_, le_trans' (le_of_less c2.2) (le_of_less c1.2), fun _ => by unfold parN; omega⟩
   intro c h0 hc hp
   unfold parN at hp
   rcases (by omega : c = 2 * i + 1 ∨ c = 2 * i + 2) with rfl | rfl
   ·exact le_of_less c2.2
   ·exact le_refl' _ _
  ·rw [if_neg c2]
   refine ⟨c1.1, by omega, ?_, le_of_less c1.2, fun _ => by unfold parN; omega⟩
   intro c h0 hc hp
   unfold parN at hp
   rcases (by omega : c = 2 * i + 1 ∨ c = 2 * i + 2) with rfl | rfl
   ·exact le_refl' _ _
   ·exact tot _ _ (by cases e : lessB d (ats.getD (2 * i + 2) 0) (ats.getD (2 * i + 1) 0) with
     | false => rfl
     | true => exact absurd ⟨hc, e⟩ c2)
 ·simp only [if_neg c1]
  by_cases c2 : 2 * i + 2 < ats.length ∧ lessB d (ats.getD (2 * i + 2) 0) (ats.getD i 0) = true
  ·rw [if_pos c2]
   refine ⟨c2.1, by omega, ?_, le_of_less c2.2, fun _ => by unfold parN; omega⟩
   intro c h0 hc hp
   unfold parN at hp
   rcases (by omega : c = 2 * i + 1 ∨ c = 2 * i + 2) with rfl | rfl
   ·exact le_trans' (le_of_less c2.2) (tot _ _ (by cases e : lessB d (ats.getD (2 * i + 1) 0) (ats.getD i 0) with
     | false => rfl
     | true => exact absurd ⟨hc, e⟩ c1))
   ·exact le_refl' _ _
  ·rw [if_neg c2]
   refine ⟨hi, by omega, ?_, le_refl' _ _, fun h => absurd rfl h⟩
   intro c h0 hc hp
   unfold parN at hp
   rcases (by omega : c = 2 * i + 1 ∨ c = 2 * i + 2) with rfl | rfl
   ·exact tot _ _ (by cases e : lessB d (ats.getD (2 * i + 1) 0) (ats.getD i 0) with
     | false => rfl
     | true => exact absurd ⟨hc, e⟩ c1)
   ·exact tot _ _ (by cases e : lessB d (ats.getD (2 * i + 2) 0) (ats.getD i 0) with
     | false => rfl
     | true => exact absurd ⟨hc, e⟩ c2)
theorem down_step {d ats : List Int} {i : Nat} (h : DownInv d ats i) (hi : i < ats.length) (hne : leastF d ats i ≠ i) : DownInv d (swapA ats i (leastF d ats i)) (leastF d ats i) := by
 obtain ⟨hk, hik, hc, hki, hpar⟩ := least_spec d ats i hi
 have hp := hpar hne
 generalize leastF d ats i = k at *
 refine ⟨?_, ?_⟩
 ·intro j hj0 hj hjp
  rw [swapA_length] at hj
  rw [swapA_get ats i k _ hi hk, swapA_get ats i k _ hi hk, if_neg hjp]
  by_cases h1 : parN j = i
  ·rw [if_pos h1]
   by_cases h2 : j = k
   ·rw [if_pos h2]; exact hki
   ·rw [if_neg h2, if_neg (by have := parN_lt hj0; omega)]
    exact hc j hj0 hj h1
  ·rw [if_neg h1]
   by_cases h2 : j = k
   ·subst h2; exact absurd hp h1
   ·rw [if_neg h2]
    by_cases h3 : j = i
    ·rw [if_pos h3]
     subst h3
     exact h.2 hj0 k (by omega) hk hp
    ·rw [if_neg h3]
     exact h.1 j hj0 hj h1
 ·intro h0 j hj0 hj hjp
  rw [swapA_length] at hj
  have hjk := parN_lt hj0
  rw [swapA_get ats i k _ hi hk, swapA_get ats i k _ hi hk, hp, if_neg (by omega), if_pos rfl, if_neg (by omega), if_neg (by omega)]
  have h3 := h.1 j hj0 hj (by omega)
  rwa [hjp] at h3
theorem down_end {d ats : List Int} {i : Nat} (h : DownInv d ats i) (hi : i < ats.length) (he : leastF d ats i = i) : HeapP d ats := by
 obtain ⟨_, _, hc, _, _⟩ := least_spec d ats i hi
 rw [he] at hc
 intro j h0 hj
 by_cases h1 : parN j = i
 ·rw [h1]; exact hc j h0 hj h1
 ·exact h.1 j h0 hj h1
theorem heap_min {d ats : List Int} (h : HeapP d ats) : ∀ i, i < ats.length → leD d (ats.getD 0 0) (ats.getD i 0) := by
 intro i
 induction i using Nat.strongRecOn with
 | ind i ih =>
  intro hi
  rcases Nat.eq_zero_or_pos i with rfl | h0
  ·exact le_refl' _ _
  ·have hp := parN_lt h0
   exact le_trans' (ih _ hp (by omega)) (h i h0 hi)
end Go.Proofs.Ytjekfipaadbbbaa.Fn
namespace Go.Proofs.Ytjekfipaadbbbaa.Fn
open Go.RowKit Go.Proofs.YtjekfipaadbbbaaW.PrintWords Go.Proofs.YtjekfipaadbbbaaW.PrintLast Go.Proofs.YtjekfipaadbbbaaW.PrintMore
set_option linter.unusedVariables false
set_option linter.unusedSimpArgs false
def hord1T : Bool × List (List Nat × List Nat) := (true, [([], []), ([0], [0]), ([1], [1]), ([2], [2]), ([], []), ([3, 4], [3, 4]), ([5], [5]), ([], []), ([7], [7]), ([8], [8]), ([9], [9]), ([], []), ([10, 11], [10, 11]), ([12], [12]), ([6, 13], [6, 13]), ([], []), ([], []), ([15, 16, 14], [15, 16]), ([14, 17], [14, 17]), ([18, 17], [18]), ([19, 19, 0, 1, 2, 3, 4, 5, 6, 7, 8, 9, 10, 11, 12, 13, 14, 15, 16, 17, 18, 19], [19])])
def hord1B : List Nat := [0, 1, 3, 7, 0, 31, 63, 0, 128, 384, 896, 0, 3968, 8064, 16383, 0, 0, 131071, 262143, 524287, 1048575]
theorem hord1_tab : rtab .any (opsOf Try.f106 1) = hord1T := by kernel_rfl
theorem hord1_bits : waitsOk hord1T.2 hord1B = true := by kernel_rfl
def hless1T : Bool × List (List Nat × List Nat) := (true, [([], []), ([], []), ([1], [1]), ([2], [2]), ([3], [3]), ([], []), ([4, 5], [4, 5]), ([6], [6]), ([], []), ([8], [8]), ([9], [9]), ([10], [10]), ([], []), ([11, 12], [11, 12]), ([13], [13]), ([0, 7, 14], [0, 7, 14]), ([15], [15]), ([16, 15, 0, 1, 2, 3, 4, 5, 6, 7, 8, 9, 10, 11, 12, 13, 14, 15, 16], [16])])
def hless1B : List Nat := [0, 0, 2, 6, 14, 0, 62, 126, 0, 256, 768, 1792, 0, 7936, 16128, 32767, 65535, 131071]
theorem hless1_tab : rtab .any (opsOf Try.f109 1) = hless1T := by kernel_rfl
theorem hless1_bits : waitsOk hless1T.2 hless1B = true := by kernel_rfl
def hset0T : Bool × List (List Nat × List Nat) := (true, [([], []), ([0], [0]), ([1], [1]), ([2], [2]), ([], []), ([], []), ([5], [5]), ([6], [6]), ([7], [7]), ([], []), ([], []), ([], []), ([3, 4, 0, 1, 2, 3, 4, 8, 10], [3, 4]), ([12, 10, 0, 1, 2, 3, 4, 8, 10], [10, 12]), ([8, 9, 0, 1, 2, 3, 4, 5, 6, 7, 8, 9, 10, 11, 12, 13], [8, 9]), ([14, 11, 13, 0, 1, 2, 3, 4, 5, 6, 7, 8, 9, 10, 11, 12, 13], [11, 14])])
def hset0B : List Nat := [0, 1, 3, 7, 0, 0, 32, 96, 224, 0, 0, 0, 1535, 5631, 16383, 32767]
theorem hset0_tab : rtab .any (opsOf Try.f75 0) = hset0T := by kernel_rfl
theorem hset0_bits : waitsOk hset0T.2 hset0B = true := by kernel_rfl
structure IsHeap (w : World) (base g : Nat) (A : Option Addr) (ca : Nat) (ats : List Int) (gp cp : Nat) (pls : List Int) (gd cd : Nat) (dus : List Int) : Prop where
 blk : w.heap[g]? = some (.cells #[.slice A ats.length ca, .slice (some ⟨gp, 0, none⟩) pls.length cp, .slice (some ⟨gd, 0, none⟩) dus.length cd, .bool true] 108 (0, 0))
 lo : base ≤ g
 n1 : gp ≠ g
 n2 : gd ≠ g
 n3 : gp ≠ gd
 ra : (Kd.int .i64).R 3 w base (fun k => k ≠ g ∧ k ≠ gp ∧ k ≠ gd) (.slice A ats.length ca) ats
 rp : (Kd.int .i64).R 3 w base (fun k => k = gp) (.slice (some ⟨gp, 0, none⟩) pls.length cp) pls
 rd : (Kd.int .i64).R 3 w base (fun k => k = gd) (.slice (some ⟨gd, 0, none⟩) dus.length cd) dus
def heapS (g : Nat) (A : Option Addr) (gp gd k : Nat) : Prop := k = g ∨ (∃ a, A = some a ∧ k = a.block) ∨ k = gp ∨ k = gd
theorem hat_int {w : World} {A : Option Addr} {n : Nat} {ys : List Int} (h : Kd.C (Kd.int .i64) w A n ys) (i : Int) (h0 : 0 ≤ i) (h1 : i < n) : ∃ ad, A = some ad ∧ w.cell? (ad.add i.toNat) = some (.int .i64 (ys.getD i.toNat 0)) := by
 obtain ⟨ad, cc, rfl, _, hK, hc0⟩ := Kd.C_get h 0 i h0 h1
 have ee : cc = [.int .i64 (ys.getD i.toNat 0)] := hK
 subst ee
 refine ⟨ad, rfl, ?_⟩
 have h := hc0 0 _ rfl
 rwa [show i.toNat * (Kd.int .i64).sz + 0 = i.toNat from Nat.mul_one _] at h
theorem Kd.R_elem_frozen {e base g n cap : Nat} {ok : Nat → Prop} {w : World} {xs : List Int} (h : (Kd.int .i64).R e w base ok (.slice (some ⟨g, 0, none⟩) n cap) xs) (i : Nat) (h1 : i < n) : w.frozen? ⟨g, i, none⟩ = false := by
 have h2 := (Kd.R_celln (enc := Value.int .i64) (h1 := fun _ => rfl) (0 : Int) h (i : Int) (by omega) (by omega)).2
 rwa [Int.toNat_natCast] at h2
section
variable {w w1 : World} {base g ca gp cp gd cd ga : Nat} {A : Option Addr} {ats pls dus : List Int}
theorem IsHeap.below (h : IsHeap w base g A ca ats gp cp pls gd cd dus) (hb : Below w.heap.size w w1) : IsHeap w1 base g A ca ats gp cp pls gd cd dus :=
 ⟨blk_below h.blk hb, h.lo, h.n1, h.n2, h.n3, Kd.R_below h.ra hb, Kd.R_below h.rp hb, Kd.R_below h.rd hb⟩
theorem IsHeap.at_ (h : IsHeap w base g (some ⟨ga, 0, none⟩) ca ats gp cp pls gd cd dus) (i : Nat) (hi : i < ats.length) : w.cell? ⟨ga, i, none⟩ = some (.int .i64 (ats.getD i 0)) := by
 obtain ⟨ad, e, hc⟩ := hat_int (C_ofR h.ra) (i : Int) (by omega) (by omega)
 obtain rfl := Option.some.inj e
 rwa [add_plain, Int.toNat_natCast] at hc
theorem IsHeap.pl_ (h : IsHeap w base g A ca ats gp cp pls gd cd dus) (i : Int) (h0 : 0 ≤ i) (h1 : i < pls.length) : w.cell? ⟨gp, i.toNat, none⟩ = some (.int .i64 (pls.getD i.toNat 0)) := by
 obtain ⟨ad, e, hc⟩ := hat_int (C_ofR h.rp) i h0 h1
 obtain rfl := Option.some.inj e
 rwa [add_plain] at hc
theorem IsHeap.due_ (h : IsHeap w base g A ca ats gp cp pls gd cd dus) (i : Int) (h0 : 0 ≤ i) (h1 : i < dus.length) : w.cell? ⟨gd, i.toNat, none⟩ = some (.int .i64 (dus.getD i.toNat 0)) := by
 obtain ⟨ad, e, hc⟩ := hat_int (C_ofR h.rd) i h0 h1
 obtain rfl := Option.some.inj e
 rwa [add_plain] at hc
theorem IsHeap.ane (h : IsHeap w base g (some ⟨ga, 0, none⟩) ca ats gp cp pls gd cd dus) : ga ≠ g ∧ ga ≠ gp ∧ ga ≠ gd := h.ra.1 ga (by simp [Value.ownBlock])
theorem IsHeap.putA (h : IsHeap w base g (some ⟨ga, 0, none⟩) ca ats gp cp pls gd cd dus) (i : Nat) (x : Int) : IsHeap (w.setCell ⟨ga, i, none⟩ (.int .i64 x)) base g (some ⟨ga, 0, none⟩) ca (ats.set i x) gp cp pls gd cd dus := by
 have hn := h.ane
 have hp := Kd.R_putn (enc := Value.int .i64) (h1 := fun _ => rfl) h.ra (i : Int) x
 rw [Int.toNat_natCast] at hp
 refine ⟨?_, h.lo, h.n1, h.n2, h.n3, ?_, ?_, ?_⟩
 ·rw [List.length_set]; exact blk_far h.blk (p := ⟨ga, i, none⟩) (fun e => hn.1 e.symm) _
 ·rw [List.length_set]; exact hp
 ·exact Kd.R_far h.rp (p := ⟨ga, i, none⟩) (fun k hk e => hn.2.1 (by rw [← hk]; exact e.symm)) _
 ·exact Kd.R_far h.rd (p := ⟨ga, i, none⟩) (fun k hk e => hn.2.2 (by rw [← hk]; exact e.symm)) _
theorem IsHeap.putP (h : IsHeap w base g A ca ats gp cp pls gd cd dus) (i : Int) (x : Int) : IsHeap (w.setCell ⟨gp, i.toNat, none⟩ (.int .i64 x)) base g A ca ats gp cp (pls.set i.toNat x) gd cd dus := by
 have hp := Kd.R_putn (enc := Value.int .i64) (h1 := fun _ => rfl) h.rp i x
 refine ⟨?_, h.lo, h.n1, h.n2, h.n3, ?_, ?_, ?_⟩
 ·rw [List.length_set]; exact blk_far h.blk (p := ⟨gp, i.toNat, none⟩) (fun e => h.n1 e.symm) _
 ·exact Kd.R_far h.ra (p := ⟨gp, i.toNat, none⟩) (fun k hk e => hk.2.1 e) _
 ·rw [List.length_set]; exact hp
 ·exact Kd.R_far h.rd (p := ⟨gp, i.toNat, none⟩) (fun k hk e => h.n3 (by rw [← hk]; exact e.symm)) _
theorem IsHeap.putD (h : IsHeap w base g A ca ats gp cp pls gd cd dus) (i : Int) (x : Int) : IsHeap (w.setCell ⟨gd, i.toNat, none⟩ (.int .i64 x)) base g A ca ats gp cp pls gd cd (dus.set i.toNat x) := by
 have hp := Kd.R_putn (enc := Value.int .i64) (h1 := fun _ => rfl) h.rd i x
 refine ⟨?_, h.lo, h.n1, h.n2, h.n3, ?_, ?_, ?_⟩
 ·rw [List.length_set]; exact blk_far h.blk (p := ⟨gd, i.toNat, none⟩) (fun e => h.n2 e.symm) _
 ·exact Kd.R_far h.ra (p := ⟨gd, i.toNat, none⟩) (fun k hk e => hk.2.2 e) _
 ·exact Kd.R_far h.rp (p := ⟨gd, i.toNat, none⟩) (fun k hk e => h.n3 (by rw [← hk]; exact e)) _
 ·rw [List.length_set]; exact hp
theorem IsHeap.low (h : IsHeap w base g A ca ats gp cp pls gd cd dus) : ∀ k, heapS g A gp gd k → base ≤ k ∧ k < w.heap.size := by
 rintro k (rfl | ⟨a, rfl, rfl⟩ | rfl | rfl)
 ·exact ⟨h.lo, blk_lt h.blk⟩
 ·exact ⟨Kd.R_base h.ra _ (by simp [Value.ownBlock]), Kd.R_lt h.ra _ (by simp [Value.ownBlock])⟩
 ·exact ⟨Kd.R_base h.rp _ (by simp [Value.ownBlock]), Kd.R_lt h.rp _ (by simp [Value.ownBlock])⟩
 ·exact ⟨Kd.R_base h.rd _ (by simp [Value.ownBlock]), Kd.R_lt h.rd _ (by simp [Value.ownBlock])⟩
theorem IsHeap.som (h : IsHeap w base g A ca ats gp cp pls gd cd dus) (hp : 0 < ats.length) : ∃ ga, A = some ⟨ga, 0, none⟩ := by
 obtain ⟨g2, cap, hv, _⟩ := Kd.R_form h.ra hp
 injection hv with ha
 exact ⟨g2, ha⟩
end
def cmpI (a b : Int) : Int := if a < b then -1 else if b < a then 1 else 0
def orI (a b : Int) : Int := if a = 0 then b else a
def ordV (dus : List Int) (a b : Int) : Int := orI (cmpI (dus.getD a.toNat 0) (dus.getD b.toNat 0)) (cmpI a b)
theorem ordV_less (dus : List Int) (a b : Int) : decide (ordV dus a b < 0) = lessB dus a b := by
 unfold ordV orI lessB cmpI
 refine decide_eq_decide.2 ?_
 repeat' split
 all_goals omega
set_option maxHeartbeats 2000000 in
set_option maxRecDepth 100000 in
theorem isNaN_calls (a : Int) (w : World) : Calls Try.prog 127 #[.int .i64 a] w fun e w' => e = .returned (.bool false) ∧ w = w' := by
 go_enter Try.func127, Try.ntmps127
 go_wp2
 go_ret
 simp
set_option maxHeartbeats 2000000 in
set_option maxRecDepth 100000 in
theorem compare_calls (a b : Int) (w : World) : Calls Try.prog 115 #[.int .i64 a, .int .i64 b] w fun e w' => e = .returned (.int .i64 (cmpI a b)) ∧ w = w' := by
 unfold cmpI
 by_cases h1 : a < b
 ·rw [if_pos h1]
  go_enter Try.func115, Try.ntmps115
  go_wp2_with (first | (go_at_call 127; refine (isNaN_calls _ _).mono ?_; rintro e w1 ⟨rfl, rfl⟩))
  go_ret
  simp
 ·rw [if_neg h1]
  by_cases h2 : b < a
  ·rw [if_pos h2]
   go_enter Try.func115, Try.ntmps115
   go_wp2_with (first | (go_at_call 127; refine (isNaN_calls _ _).mono ?_; rintro e w1 ⟨rfl, rfl⟩))
   go_ret
   simp
  ·rw [if_neg h2]
   go_enter Try.func115, Try.ntmps115
   go_wp2_with (first | (go_at_call 127; refine (isNaN_calls _ _).mono ?_; rintro e w1 ⟨rfl, rfl⟩))
   go_ret
   simp
set_option maxHeartbeats 4000000 in
set_option maxRecDepth 100000 in
theorem or2_calls (a b : Int) {g t : Nat} (w : World) (h : w.heap[g]? = some (.cells #[.int .i64 a, .int .i64 b] t (0, 0))) : Calls Try.prog 114 #[.slice (some ⟨g, 0, none⟩) 2 2] w fun e w' => e = .returned (.int .i64 (orI a b)) ∧ w = w' := by
 unfold orI
 have hx0 := (blk_cell h 0).trans rfl
 have hx1 := (blk_cell h 1).trans rfl
 clear h
 by_cases ha : a = 0
 ·subst ha
  rw [if_pos rfl]
  by_cases hb : b = 0
  ·subst hb
   go_enter Try.func114, Try.ntmps114
   go_wp2
   refine wp_loop_rounds 3 ?_
   rw [rounds_succ]
   go_wp2
   rw [rounds_succ]
   go_wp2
   rw [rounds_succ]
   go_wp2
   go_ret
   simp
  ·have d : (b == 0) = false := by simpa using hb
   have d2 : decide (b = 0) = false := decide_eq_false hb
   go_enter Try.func114, Try.ntmps114
   go_wp2
   refine wp_loop_rounds 2 ?_
   rw [rounds_succ]
   go_wp2
   rw [rounds_succ]
   go_wp2
   go_ret
   simp
 ·rw [if_neg ha]
  have d : (a == 0) = false := by simpa using ha
  have d2 : decide (a = 0) = false := decide_eq_false ha
  clear ha
  go_enter Try.func114, Try.ntmps114
  go_wp2
  refine wp_loop_rounds 1 ?_
  rw [rounds_succ]
  go_wp2
  go_ret
  simp
section
variable {w : World} {base g ca gp cp gd cd ga : Nat} {A : Option Addr} {ats pls dus : List Int}
set_option maxHeartbeats 4000000 in
set_option maxRecDepth 100000 in
theorem order_calls (h : IsHeap w base g A ca ats gp cp pls gd cd dus) (a b : Int) (ha : 0 ≤ a ∧ a < dus.length) (hb : 0 ≤ b ∧ b < dus.length) :
  Calls Try.prog 106 #[.pointer (some ⟨g, 0, none⟩), .int .i64 a, .int .i64 b] w fun e w' => e = .returned (.int .i64 (ordV dus a b)) ∧ Below w.heap.size w w' := by
 have hu := Try.underlying106
 have HS := asd h
 have HA := asd ha
 have HBd := asd hb
 have p0 : (0 ≤ a) = True := eq_true ha.1
 have p1 : (a < (dus.length : Int)) = True := eq_true ha.2
 have p2 : (0 ≤ b) = True := eq_true hb.1
 have p3 : (b < (dus.length : Int)) = True := eq_true hb.2
 have hx2 := (blk_cell h.blk 2).trans rfl
 have DA := asd (fun w' (h' : IsHeap w' base g A ca ats gp cp pls gd cd dus) => h'.due_ a ha.1 ha.2)
 have DB := asd (fun w' (h' : IsHeap w' base g A ca ats gp cp pls gd cd dus) => h'.due_ b hb.1 hb.2)
 unfold ordV
 generalize dus.getD a.toNat 0 = va at DA ⊢
 generalize dus.getD b.toNat 0 = vb at DB ⊢
 replace ha := DA.out _ h
 replace hb := DB.out _ h
 clear h
 go_enter Try.func106, Try.ntmps106
 go_wp2
 refine start_ (n := 21) (S := fun w' => w'.cell? ⟨g, 2, none⟩ = some (.slice (some ⟨gd, 0, none⟩) dus.length cd) ∧ w'.cell? ⟨gd, a.toNat, none⟩ = some (.int .i64 (va)) ∧ w'.cell? ⟨gd, b.toNat, none⟩ = some (.int .i64 (vb))) (ds := []) #[false, false, false, false, false, false, false, false, false, false, false, false, false, false, false, false, false, false, false, false, false] (by kernel_rfl) rfl rfl ⟨hx2, ha, hb⟩ (fun hHeld => ?_); refine with_tabW hord1_tab hord1_bits (fun HT_ HW_ => ?_)
 have H2 := asd (HS.out.below (below_drew1 (Below.refl _ _)))
 clear HS hx2 ha hb
 have HB := asd (below_drew1 (Below.refl w.heap.size w))
 generalize w.drew = w1 at H2 HB hHeld ⊢
 refine pure_ (i := 0) (N := (some 7)) (v := ?_) (a' := ?_) #[true, false, false, false, false, false, false, false, false, false, false, false, false, false, false, false, false, false, false, false, false] rfl rfl (any_of HT_.out (by kernel_rfl)) (fun _ _ _ h => h) (Or.inl ⟨by rfl, ?_⟩) ?_ ?_
 rotate_left
 ·intro w'
  go_simp
  with_reducible rfl
 rotate_left
 ·simp only [Act.put, sB, i64_w, i32_w]
  rfl
 refine pure_ (i := 1) (N := (some 8)) (v := ?_) (a' := ?_) #[true, true, false, false, false, false, false, false, false, false, false, false, false, false, false, false, false, false, false, false, false] rfl rfl (any_of HT_.out (by kernel_rfl)) (fun _ _ _ h => h) (Or.inl ⟨by rfl, ?_⟩) ?_ ?_
 rotate_left
 ·intro w'
  go_simp
  with_reducible rfl
 rotate_left
 ·simp only [Act.put, sB, i64_w, i32_w]
  rfl
 refine pure_ (i := 2) (N := (some 9)) (v := ?_) (a' := ?_) #[true, true, true, false, false, false, false, false, false, false, false, false, false, false, false, false, false, false, false, false, false] rfl rfl (any_of HT_.out (by kernel_rfl)) (fun _ _ _ h => h) (Or.inl ⟨by rfl, ?_⟩) ?_ ?_
 rotate_left
 ·intro w'
  go_simp
  with_reducible rfl
 rotate_left
 ·simp only [Act.put, sB, i64_w, i32_w]
  rfl
 refine take_ (i := 3) (N := (some 10)) (v := ?_) (a' := ?_) #[true, true, true, true, false, false, false, false, false, false, false, false, false, false, false, false, false, false, false, false, false] rfl rfl (take_ofW HT_.out HW_.out (by kernel_rfl)) (fun _ _ _ h => h) (Or.inl ⟨by rfl, ?_⟩) hHeld ?_ ?_
 rotate_left
 ·rintro w' ⟨s0, s1, s2⟩
  go_simp
  with_reducible rfl
 rotate_left
 ·simp only [Act.put, sB, i64_w, i32_w]
  rfl
 refine pure_ (i := 4) (N := (some 11)) (v := ?_) (a' := ?_) #[true, true, true, true, true, false, false, false, false, false, false, false, false, false, false, false, false, false, false, false, false] rfl rfl (any_of HT_.out (by kernel_rfl)) (fun _ _ _ h => h) (Or.inl ⟨by rfl, ?_⟩) ?_ ?_
 rotate_left
 ·intro w'
  go_simp
  with_reducible rfl
 rotate_left
 ·simp only [Act.put, sB, i64_w, i32_w]
  rfl
 refine pure_ (i := 5) (N := (some 12)) (v := ?_) (a' := ?_) #[true, true, true, true, true, true, false, false, false, false, false, false, false, false, false, false, false, false, false, false, false] rfl rfl (any_of HT_.out (by kernel_rfl)) (fun _ _ _ h => h) (Or.inl ⟨by rfl, ?_⟩) ?_ ?_
 rotate_left
 ·intro w'
  go_simp
  with_reducible rfl
 rotate_left
 ·simp only [Act.put, sB, i64_w, i32_w]
  rfl
 refine take_ (i := 6) (N := (some 13)) (v := ?_) (a' := ?_) #[true, true, true, true, true, true, true, false, false, false, false, false, false, false, false, false, false, false, false, false, false] rfl rfl (take_ofW HT_.out HW_.out (by kernel_rfl)) (fun _ _ _ h => h) (Or.inl ⟨by rfl, ?_⟩) hHeld ?_ ?_
 rotate_left
 ·rintro w' ⟨s0, s1, s2⟩
  go_simp
  with_reducible rfl
 rotate_left
 ·simp only [Act.put, sB, i64_w, i32_w]
  rfl
 refine pure_ (i := 7) (N := (some 14)) (v := ?_) (a' := ?_) #[true, true, true, true, true, true, true, true, false, false, false, false, false, false, false, false, false, false, false, false, false] rfl rfl (any_of HT_.out (by kernel_rfl)) (fun _ _ _ h => h) (Or.inl ⟨by rfl, ?_⟩) ?_ ?_
 rotate_left
 ·intro w'
  go_simp
  with_reducible rfl
 rotate_left
 ·simp only [Act.put, sB, i64_w, i32_w]
  rfl
 refine pure_ (i := 8) (N := (some 15)) (v := ?_) (a' := ?_) #[true, true, true, true, true, true, true, true, true, false, false, false, false, false, false, false, false, false, false, false, false] rfl rfl (any_of HT_.out (by kernel_rfl)) (fun _ _ _ h => h) (Or.inl ⟨by rfl, ?_⟩) ?_ ?_
 rotate_left
 ·intro w'
  go_simp
  with_reducible rfl
 rotate_left
 ·simp only [Act.put, sB, i64_w, i32_w]
  rfl
 refine pure_ (i := 9) (N := (some 16)) (v := ?_) (a' := ?_) #[true, true, true, true, true, true, true, true, true, true, false, false, false, false, false, false, false, false, false, false, false] rfl rfl (any_of HT_.out (by kernel_rfl)) (fun _ _ _ h => h) (Or.inl ⟨by rfl, ?_⟩) ?_ ?_
 rotate_left
 ·intro w'
  go_simp
  with_reducible rfl
 rotate_left
 ·simp only [Act.put, sB, i64_w, i32_w]
  rfl
 refine take_ (i := 10) (N := (some 17)) (v := ?_) (a' := ?_) #[true, true, true, true, true, true, true, true, true, true, true, false, false, false, false, false, false, false, false, false, false] rfl rfl (take_ofW HT_.out HW_.out (by kernel_rfl)) (fun _ _ _ h => h) (Or.inl ⟨by rfl, ?_⟩) hHeld ?_ ?_
 rotate_left
 ·rintro w' ⟨s0, s1, s2⟩
  go_simp
  with_reducible rfl
 rotate_left
 ·simp only [Act.put, sB, i64_w, i32_w]
  rfl
 refine pure_ (i := 11) (N := (some 18)) (v := ?_) (a' := ?_) #[true, true, true, true, true, true, true, true, true, true, true, true, false, false, false, false, false, false, false, false, false] rfl rfl (any_of HT_.out (by kernel_rfl)) (fun _ _ _ h => h) (Or.inl ⟨by rfl, ?_⟩) ?_ ?_
 rotate_left
 ·intro w'
  go_simp
  with_reducible rfl
 rotate_left
 ·simp only [Act.put, sB, i64_w, i32_w]
  rfl
 refine pure_ (i := 12) (N := (some 19)) (v := ?_) (a' := ?_) #[true, true, true, true, true, true, true, true, true, true, true, true, true, false, false, false, false, false, false, false, false] rfl rfl (any_of HT_.out (by kernel_rfl)) (fun _ _ _ h => h) (Or.inl ⟨by rfl, ?_⟩) ?_ ?_
 rotate_left
 ·intro w'
  go_simp
  with_reducible rfl
 rotate_left
 ·simp only [Act.put, sB, i64_w, i32_w]
  rfl
 refine take_ (i := 13) (N := (some 20)) (v := ?_) (a' := ?_) #[true, true, true, true, true, true, true, true, true, true, true, true, true, true, false, false, false, false, false, false, false] rfl rfl (take_ofW HT_.out HW_.out (by kernel_rfl)) (fun _ _ _ h => h) (Or.inl ⟨by rfl, ?_⟩) hHeld ?_ ?_
 rotate_left
 ·rintro w' ⟨s0, s1, s2⟩
  go_simp
  with_reducible rfl
 rotate_left
 ·simp only [Act.put, sB, i64_w, i32_w]
  rfl
 refine pure_ (i := 15) (N := (some 22)) (v := ?_) (a' := ?_) #[true, true, true, true, true, true, true, true, true, true, true, true, true, true, false, true, false, false, false, false, false] rfl rfl (any_of HT_.out (by kernel_rfl)) (fun _ _ _ h => h) (Or.inl ⟨by rfl, ?_⟩) ?_ ?_
 rotate_left
 ·intro w'
  go_simp
  with_reducible rfl
 rotate_left
 ·simp only [Act.put, sB, i64_w, i32_w]
  rfl
 refine pure_ (i := 16) (N := (some 23)) (v := ?_) (a' := ?_) #[true, true, true, true, true, true, true, true, true, true, true, true, true, true, false, true, true, false, false, false, false] rfl rfl (any_of HT_.out (by kernel_rfl)) (fun _ _ _ h => h) (Or.inl ⟨by rfl, ?_⟩) ?_ ?_
 rotate_left
 ·intro w'
  go_simp
  with_reducible rfl
 rotate_left
 ·simp only [Act.put, sB, i64_w, i32_w]
  rfl
 refine one_ (i := 14) (N := (some 21)) #[true, true, true, true, true, true, true, true, true, true, true, true, true, true, true, true, true, false, false, false, false] rfl rfl (one_of HT_.out (by kernel_rfl)) (by decide) (fun K hK => ?_)
 refine goes_ Try.func115 (by kernel_rfl) rfl #[.int .i64 (va), .int .i64 (vb)] (by rfl) rfl rfl (by simp [Act.eval]) ?_
 refine (compare_calls _ _ w1).mono ?_
 rintro e w2 ⟨rfl, rfl⟩
 refine ⟨_, rfl, ?_⟩
 refine hK.out _ _ ⟨(blk_cell H2.out.blk 2).trans rfl, DA.out _ H2.out, DB.out _ H2.out⟩ (fun hHeld => ?_)
 clear hK K
 refine norm_ (a' := ?_) ?_ ?_
 rotate_left
 ·show Act.put _ (some 21) _ = _
  simp only [Act.put, sB, i64_w, i32_w]
  rfl
 refine one_ (i := 17) (N := (some 24)) #[true, true, true, true, true, true, true, true, true, true, true, true, true, true, true, true, true, true, false, false, false] rfl rfl (one_of HT_.out (by kernel_rfl)) (by decide) (fun K hK => ?_)
 refine goes_ Try.func115 (by kernel_rfl) rfl #[.int .i64 a, .int .i64 b] (by rfl) rfl rfl (by simp [Act.eval]) ?_
 refine (compare_calls _ _ w1).mono ?_
 rintro e w2 ⟨rfl, rfl⟩
 refine ⟨_, rfl, ?_⟩
 refine hK.out _ _ ⟨(blk_cell H2.out.blk 2).trans rfl, DA.out _ H2.out, DB.out _ H2.out⟩ (fun hHeld => ?_)
 clear hK K
 refine norm_ (a' := ?_) ?_ ?_
 rotate_left
 ·show Act.put _ (some 24) _ = _
  simp only [Act.put, sB, i64_w, i32_w]
  rfl
 have H3 := asd (H2.out.below (below_alloc (Below.refl _ _) (.cells #[.int .i64 (cmpI (va) (vb)), .int .i64 (cmpI a b)] 3)))
 have HB3 := asd (below_alloc HB.out (.cells #[.int .i64 (cmpI (va) (vb)), .int .i64 (cmpI a b)] 3))
 have XB := asd (heap_alloc_new w1 (.cells #[.int .i64 (cmpI (va) (vb)), .int .i64 (cmpI a b)] 3))
 refine one_ (i := 18) (N := (some 25)) #[true, true, true, true, true, true, true, true, true, true, true, true, true, true, true, true, true, true, true, false, false] rfl rfl (one_of HT_.out (by kernel_rfl)) (by decide) (fun K hK => ?_)
 refine value_ (w1 := ?_) (v := ?_) (by rfl) rfl ?_ ?_
 rotate_left 2
 ·go_simp
  constructor
  ·rfl
  ·rfl
 refine hK.out _ _ ⟨(blk_cell H3.out.blk 2).trans rfl, DA.out _ H3.out, DB.out _ H3.out⟩ (fun hHeld => ?_)
 clear hK K
 refine norm_ (a' := ?_) ?_ ?_
 rotate_left
 ·show Act.put _ (some 25) _ = _
  simp only [Act.put, sB, i64_w, i32_w]
  rfl
 generalize w1.alloc (.cells #[.int .i64 (cmpI (va) (vb)), .int .i64 (cmpI a b)] 3) = w3 at H3 HB3 XB hHeld ⊢
 refine one_ (i := 19) (N := (some 26)) #[true, true, true, true, true, true, true, true, true, true, true, true, true, true, true, true, true, true, true, true, false] rfl rfl (one_of HT_.out (by kernel_rfl)) (by decide) (fun K hK => ?_)
 refine goes_ Try.func114 (by kernel_rfl) rfl #[.slice (some ⟨w1.heap.size, 0, none⟩) 2 2] (by rfl) rfl rfl (by simp [Act.eval]) ?_
 refine (or2_calls _ _ w3 XB.out).mono ?_
 rintro e w4 ⟨rfl, rfl⟩
 refine ⟨_, rfl, ?_⟩
 refine hK.out _ _ ⟨(blk_cell H3.out.blk 2).trans rfl, DA.out _ H3.out, DB.out _ H3.out⟩ (fun hHeld => ?_)
 clear hK K
 refine norm_ (a' := ?_) ?_ ?_
 rotate_left
 ·show Act.put _ (some 26) _ = _
  simp only [Act.put, sB, i64_w, i32_w]
  rfl
 refine pure_ (i := 20) (N := (some 6)) (v := ?_) (a' := ?_) #[true, true, true, true, true, true, true, true, true, true, true, true, true, true, true, true, true, true, true, true, true] rfl rfl (any_of HT_.out (by kernel_rfl)) (fun _ _ _ h => h) (Or.inl ⟨by rfl, ?_⟩) ?_ ?_
 rotate_left
 ·intro w'
  go_simp
  with_reducible rfl
 rotate_left
 ·simp only [Act.put, sB, i64_w, i32_w]
  rfl
 refine done_ (done_of HT_.out (by kernel_rfl)) ?_
 try go_wp2
 go_ret
 exact ⟨rfl, HB3.out⟩
set_option maxHeartbeats 4000000 in
set_option maxRecDepth 100000 in
theorem less_calls (h : IsHeap w base g (some ⟨ga, 0, none⟩) ca ats gp cp pls gd cd dus) (i k : Nat) (hi : i < ats.length) (hk : k < ats.length) (ha : 0 ≤ ats.getD i 0 ∧ ats.getD i 0 < dus.length) (hb : 0 ≤ ats.getD k 0 ∧ ats.getD k 0 < dus.length) :
  Calls Try.prog 109 #[.pointer (some ⟨g, 0, none⟩), .int .i64 i, .int .i64 k] w fun e w' => e = .returned (.bool (lessB dus (ats.getD i 0) (ats.getD k 0))) ∧ Below w.heap.size w w' := by
 have hu := Try.underlying106
 have HS := asd h
 have HI := asd ha
 have HK := asd hb
 have HII := asd hi
 have HKK := asd hk
 have p0 : (0 ≤ (i : Int)) = True := eq_true (by omega)
 have p1 : ((i : Int) < (ats.length : Int)) = True := eq_true (by omega)
 have p2 : (0 ≤ (k : Int)) = True := eq_true (by omega)
 have p3 : ((k : Int) < (ats.length : Int)) = True := eq_true (by omega)
 have hx0 := (blk_cell h.blk 0).trans rfl
 have AI := asd (fun w' (h' : IsHeap w' base g (some ⟨ga, 0, none⟩) ca ats gp cp pls gd cd dus) => h'.at_ i HII.out)
 have AK := asd (fun w' (h' : IsHeap w' base g (some ⟨ga, 0, none⟩) ca ats gp cp pls gd cd dus) => h'.at_ k HKK.out)
 generalize ats.getD i 0 = xi at AI HI ⊢ ha
 generalize ats.getD k 0 = xk at AK HK ⊢ hb
 clear hi hk
 have hi := AI.out _ h
 have hk := AK.out _ h
 clear h ha hb
 go_enter Try.func109, Try.ntmps109
 go_wp2
 refine start_ (n := 18) (S := fun w' => w'.cell? ⟨g, 0, none⟩ = some (.slice (some ⟨ga, 0, none⟩) ats.length ca) ∧ w'.cell? ⟨ga, i, none⟩ = some (.int .i64 (xi)) ∧ w'.cell? ⟨ga, k, none⟩ = some (.int .i64 (xk))) (ds := []) #[false, false, false, false, false, false, false, false, false, false, false, false, false, false, false, false, false, false] (by kernel_rfl) rfl rfl ⟨hx0, hi, hk⟩ (fun hHeld => ?_); refine with_tabW hless1_tab hless1_bits (fun HT_ HW_ => ?_)
 have H2 := asd (HS.out.below (below_drew1 (Below.refl _ _)))
 clear HS hx0 hi hk
 have HB := asd (below_drew1 (Below.refl w.heap.size w))
 generalize w.drew = w1 at H2 HB hHeld ⊢
 refine pure_ (i := 0) (N := (some 7)) (v := ?_) (a' := ?_) #[true, false, false, false, false, false, false, false, false, false, false, false, false, false, false, false, false, false] rfl rfl (any_of HT_.out (by kernel_rfl)) (fun _ _ _ h => h) (Or.inl ⟨by rfl, ?_⟩) ?_ ?_
 rotate_left
 ·intro w'
  go_simp
  with_reducible rfl
 rotate_left
 ·simp only [Act.put, sB, i64_w, i32_w]
  rfl
 refine pure_ (i := 1) (N := (some 8)) (v := ?_) (a' := ?_) #[true, true, false, false, false, false, false, false, false, false, false, false, false, false, false, false, false, false] rfl rfl (any_of HT_.out (by kernel_rfl)) (fun _ _ _ h => h) (Or.inl ⟨by rfl, ?_⟩) ?_ ?_
 rotate_left
 ·intro w'
  go_simp
  with_reducible rfl
 rotate_left
 ·simp only [Act.put, sB, i64_w, i32_w]
  rfl
 refine pure_ (i := 2) (N := (some 9)) (v := ?_) (a' := ?_) #[true, true, true, false, false, false, false, false, false, false, false, false, false, false, false, false, false, false] rfl rfl (any_of HT_.out (by kernel_rfl)) (fun _ _ _ h => h) (Or.inl ⟨by rfl, ?_⟩) ?_ ?_
 rotate_left
 ·intro w'
  go_simp
  with_reducible rfl
 rotate_left
 ·simp only [Act.put, sB, i64_w, i32_w]
  rfl
 refine pure_ (i := 3) (N := (some 10)) (v := ?_) (a' := ?_) #[true, true, true, true, false, false, false, false, false, false, false, false, false, false, false, false, false, false] rfl rfl (any_of HT_.out (by kernel_rfl)) (fun _ _ _ h => h) (Or.inl ⟨by rfl, ?_⟩) ?_ ?_
 rotate_left
 ·intro w'
  go_simp
  with_reducible rfl
 rotate_left
 ·simp only [Act.put, sB, i64_w, i32_w]
  rfl
 refine take_ (i := 4) (N := (some 11)) (v := ?_) (a' := ?_) #[true, true, true, true, true, false, false, false, false, false, false, false, false, false, false, false, false, false] rfl rfl (take_ofW HT_.out HW_.out (by kernel_rfl)) (fun _ _ _ h => h) (Or.inl ⟨by rfl, ?_⟩) hHeld ?_ ?_
 rotate_left
 ·rintro w' ⟨s0, s1, s2⟩
  go_simp
  with_reducible rfl
 rotate_left
 ·simp only [Act.put, sB, i64_w, i32_w]
  rfl
 refine pure_ (i := 5) (N := (some 12)) (v := ?_) (a' := ?_) #[true, true, true, true, true, true, false, false, false, false, false, false, false, false, false, false, false, false] rfl rfl (any_of HT_.out (by kernel_rfl)) (fun _ _ _ h => h) (Or.inl ⟨by rfl, ?_⟩) ?_ ?_
 rotate_left
 ·intro w'
  go_simp
  with_reducible rfl
 rotate_left
 ·simp only [Act.put, sB, i64_w, i32_w]
  rfl
 refine pure_ (i := 6) (N := (some 13)) (v := ?_) (a' := ?_) #[true, true, true, true, true, true, true, false, false, false, false, false, false, false, false, false, false, false] rfl rfl (any_of HT_.out (by kernel_rfl)) (fun _ _ _ h => h) (Or.inl ⟨by rfl, ?_⟩) ?_ ?_
 rotate_left
 ·intro w'
  go_simp
  with_reducible rfl
 rotate_left
 ·simp only [Act.put, sB, i64_w, i32_w]
  rfl
 refine take_ (i := 7) (N := (some 14)) (v := ?_) (a' := ?_) #[true, true, true, true, true, true, true, true, false, false, false, false, false, false, false, false, false, false] rfl rfl (take_ofW HT_.out HW_.out (by kernel_rfl)) (fun _ _ _ h => h) (Or.inl ⟨by rfl, ?_⟩) hHeld ?_ ?_
 rotate_left
 ·rintro w' ⟨s0, s1, s2⟩
  go_simp
  with_reducible rfl
 rotate_left
 ·simp only [Act.put, sB, i64_w, i32_w]
  rfl
 refine pure_ (i := 8) (N := (some 15)) (v := ?_) (a' := ?_) #[true, true, true, true, true, true, true, true, true, false, false, false, false, false, false, false, false, false] rfl rfl (any_of HT_.out (by kernel_rfl)) (fun _ _ _ h => h) (Or.inl ⟨by rfl, ?_⟩) ?_ ?_
 rotate_left
 ·intro w'
  go_simp
  with_reducible rfl
 rotate_left
 ·simp only [Act.put, sB, i64_w, i32_w]
  rfl
 refine pure_ (i := 9) (N := (some 16)) (v := ?_) (a' := ?_) #[true, true, true, true, true, true, true, true, true, true, false, false, false, false, false, false, false, false] rfl rfl (any_of HT_.out (by kernel_rfl)) (fun _ _ _ h => h) (Or.inl ⟨by rfl, ?_⟩) ?_ ?_
 rotate_left
 ·intro w'
  go_simp
  with_reducible rfl
 rotate_left
 ·simp only [Act.put, sB, i64_w, i32_w]
  rfl
 refine pure_ (i := 10) (N := (some 17)) (v := ?_) (a' := ?_) #[true, true, true, true, true, true, true, true, true, true, true, false, false, false, false, false, false, false] rfl rfl (any_of HT_.out (by kernel_rfl)) (fun _ _ _ h => h) (Or.inl ⟨by rfl, ?_⟩) ?_ ?_
 rotate_left
 ·intro w'
  go_simp
  with_reducible rfl
 rotate_left
 ·simp only [Act.put, sB, i64_w, i32_w]
  rfl
 refine take_ (i := 11) (N := (some 18)) (v := ?_) (a' := ?_) #[true, true, true, true, true, true, true, true, true, true, true, true, false, false, false, false, false, false] rfl rfl (take_ofW HT_.out HW_.out (by kernel_rfl)) (fun _ _ _ h => h) (Or.inl ⟨by rfl, ?_⟩) hHeld ?_ ?_
 rotate_left
 ·rintro w' ⟨s0, s1, s2⟩
  go_simp
  with_reducible rfl
 rotate_left
 ·simp only [Act.put, sB, i64_w, i32_w]
  rfl
 refine pure_ (i := 12) (N := (some 19)) (v := ?_) (a' := ?_) #[true, true, true, true, true, true, true, true, true, true, true, true, true, false, false, false, false, false] rfl rfl (any_of HT_.out (by kernel_rfl)) (fun _ _ _ h => h) (Or.inl ⟨by rfl, ?_⟩) ?_ ?_
 rotate_left
 ·intro w'
  go_simp
  with_reducible rfl
 rotate_left
 ·simp only [Act.put, sB, i64_w, i32_w]
  rfl
 refine pure_ (i := 13) (N := (some 20)) (v := ?_) (a' := ?_) #[true, true, true, true, true, true, true, true, true, true, true, true, true, true, false, false, false, false] rfl rfl (any_of HT_.out (by kernel_rfl)) (fun _ _ _ h => h) (Or.inl ⟨by rfl, ?_⟩) ?_ ?_
 rotate_left
 ·intro w'
  go_simp
  with_reducible rfl
 rotate_left
 ·simp only [Act.put, sB, i64_w, i32_w]
  rfl
 refine take_ (i := 14) (N := (some 21)) (v := ?_) (a' := ?_) #[true, true, true, true, true, true, true, true, true, true, true, true, true, true, true, false, false, false] rfl rfl (take_ofW HT_.out HW_.out (by kernel_rfl)) (fun _ _ _ h => h) (Or.inl ⟨by rfl, ?_⟩) hHeld ?_ ?_
 rotate_left
 ·rintro w' ⟨s0, s1, s2⟩
  go_simp
  with_reducible rfl
 rotate_left
 ·simp only [Act.put, sB, i64_w, i32_w]
  rfl
 refine one_ (i := 15) (N := (some 22)) #[true, true, true, true, true, true, true, true, true, true, true, true, true, true, true, true, false, false] rfl rfl (one_of HT_.out (by kernel_rfl)) (by decide) (fun K hK => ?_)
 refine goes_ Try.func106 (by kernel_rfl) rfl #[.pointer (some ⟨g, 0, none⟩), .int .i64 (xi), .int .i64 (xk)] (by rfl) rfl rfl (by simp [Act.eval]) ?_
 refine (order_calls H2.out _ _ HI.out HK.out).mono ?_
 rintro e w2 ⟨rfl, hbb⟩
 have H3 := asd (H2.out.below hbb)
 have HB3 := asd (below_step HB.out hbb)
 clear hbb
 refine ⟨_, rfl, ?_⟩
 refine hK.out _ _ ⟨(blk_cell H3.out.blk 0).trans rfl, AI.out _ H3.out, AK.out _ H3.out⟩ (fun hHeld => ?_)
 clear hK K
 refine norm_ (a' := ?_) ?_ ?_
 rotate_left
 ·show Act.put _ (some 22) _ = _
  simp only [Act.put, sB, i64_w, i32_w]
  rfl
 have LL := asd (ordV_less dus (xi) (xk))
 refine pure_ (i := 16) (N := (some 23)) (v := ?_) (a' := ?_) #[true, true, true, true, true, true, true, true, true, true, true, true, true, true, true, true, true, false] rfl rfl (any_of HT_.out (by kernel_rfl)) (fun _ _ _ h => h) (Or.inl ⟨by rfl, ?_⟩) ?_ ?_
 rotate_left
 ·intro w'
  go_simp
  with_reducible rfl
 rotate_left
 ·simp only [Act.put, sB, i64_w, i32_w]
  rfl
 refine pure_ (i := 17) (N := (some 6)) (v := ?_) (a' := ?_) #[true, true, true, true, true, true, true, true, true, true, true, true, true, true, true, true, true, true] rfl rfl (any_of HT_.out (by kernel_rfl)) (fun _ _ _ h => h) (Or.inl ⟨by rfl, ?_⟩) ?_ ?_
 rotate_left
 ·intro w'
  go_simp
  with_reducible rfl
 rotate_left
 ·simp only [Act.put, sB, i64_w, i32_w]
  rfl
 refine done_ (done_of HT_.out (by kernel_rfl)) ?_
 try go_wp2
 go_ret
 exact ⟨by rw [← LL.out]; rfl, HB3.out⟩
set_option maxHeartbeats 4000000 in
set_option maxRecDepth 100000 in
theorem set_calls (h : IsHeap w base g (some ⟨ga, 0, none⟩) ca ats gp cp pls gd cd dus) (i : Nat) (id : Int) (hi : i < ats.length) (hid : 0 ≤ id ∧ id < pls.length) :
  Calls Try.prog 75 #[.pointer (some ⟨g, 0, none⟩), .int .i64 i, .int .i64 id] w fun e w' => e = .returned (.tuple #[]) ∧ IsHeap w' base g (some ⟨ga, 0, none⟩) ca (ats.set i id) gp cp (pls.set id.toNat i) gd cd dus ∧ Chg (heapS g (some ⟨ga, 0, none⟩) gp gd) w w' := by
 have hu := Try.underlying106
 have HS := asd h
 have HI := asd hi
 have HID := asd hid
 have p0 : (0 ≤ (i : Int)) = True := eq_true (by omega)
 have p1 : ((i : Int) < (ats.length : Int)) = True := eq_true (by omega)
 have p2 : (0 ≤ id) = True := eq_true hid.1
 have p3 : (id < (pls.length : Int)) = True := eq_true hid.2
 have hx0 := (blk_cell h.blk 0).trans rfl
 have hx1 := (blk_cell h.blk 1).trans rfl
 clear h hi hid
 go_enter Try.func75, Try.ntmps75
 go_wp2
 refine start_ (n := 16) (S := fun w' => w'.cell? ⟨g, 0, none⟩ = some (.slice (some ⟨ga, 0, none⟩) ats.length ca) ∧ w'.cell? ⟨g, 1, none⟩ = some (.slice (some ⟨gp, 0, none⟩) pls.length cp)) (ds := [15]) #[false, false, false, false, false, false, false, false, false, false, false, false, false, false, false, false] (by kernel_rfl) rfl rfl ⟨hx0, hx1⟩ (fun hHeld => ?_); refine with_tabW hset0_tab hset0_bits (fun HT_ HW_ => ?_)
 have H2 := asd (HS.out.below (below_drew1 (Below.refl _ _)))
 have HC := asd ((Chg.refl (heapS g (some ⟨ga, 0, none⟩) gp gd) w).drew)
 clear HS hx0 hx1
 generalize w.drew = w1 at H2 HC hHeld ⊢
 refine pure_ (i := 0) (N := (some 6)) (v := ?_) (a' := ?_) #[true, false, false, false, false, false, false, false, false, false, false, false, false, false, false, false] rfl rfl (any_of HT_.out (by kernel_rfl)) (fun _ _ _ h => h) (Or.inl ⟨by rfl, ?_⟩) ?_ ?_
 rotate_left
 ·intro w'
  go_simp
  with_reducible rfl
 rotate_left
 ·simp only [Act.put, sB, i64_w, i32_w]
  rfl
 refine pure_ (i := 1) (N := (some 7)) (v := ?_) (a' := ?_) #[true, true, false, false, false, false, false, false, false, false, false, false, false, false, false, false] rfl rfl (any_of HT_.out (by kernel_rfl)) (fun _ _ _ h => h) (Or.inl ⟨by rfl, ?_⟩) ?_ ?_
 rotate_left
 ·intro w'
  go_simp
  with_reducible rfl
 rotate_left
 ·simp only [Act.put, sB, i64_w, i32_w]
  rfl
 refine pure_ (i := 2) (N := (some 8)) (v := ?_) (a' := ?_) #[true, true, true, false, false, false, false, false, false, false, false, false, false, false, false, false] rfl rfl (any_of HT_.out (by kernel_rfl)) (fun _ _ _ h => h) (Or.inl ⟨by rfl, ?_⟩) ?_ ?_
 rotate_left
 ·intro w'
  go_simp
  with_reducible rfl
 rotate_left
 ·simp only [Act.put, sB, i64_w, i32_w]
  rfl
 refine take_ (i := 3) (N := (some 9)) (v := ?_) (a' := ?_) #[true, true, true, true, false, false, false, false, false, false, false, false, false, false, false, false] rfl rfl (take_ofW HT_.out HW_.out (by kernel_rfl)) (fun _ _ _ h => h) (Or.inl ⟨by rfl, ?_⟩) hHeld ?_ ?_
 rotate_left
 ·rintro w' ⟨s0, s1⟩
  go_simp
  with_reducible rfl
 rotate_left
 ·simp only [Act.put, sB, i64_w, i32_w]
  rfl
 refine pure_ (i := 4) (N := (some 10)) (v := ?_) (a' := ?_) #[true, true, true, true, true, false, false, false, false, false, false, false, false, false, false, false] rfl rfl (any_of HT_.out (by kernel_rfl)) (fun _ _ _ h => h) (Or.inl ⟨by rfl, ?_⟩) ?_ ?_
 rotate_left
 ·intro w'
  go_simp
  with_reducible rfl
 rotate_left
 ·simp only [Act.put, sB, i64_w, i32_w]
  rfl
 refine pure_ (i := 5) (N := (some 11)) (v := ?_) (a' := ?_) #[true, true, true, true, true, true, false, false, false, false, false, false, false, false, false, false] rfl rfl (any_of HT_.out (by kernel_rfl)) (fun _ _ _ h => h) (Or.inl ⟨by rfl, ?_⟩) ?_ ?_
 rotate_left
 ·intro w'
  go_simp
  with_reducible rfl
 rotate_left
 ·simp only [Act.put, sB, i64_w, i32_w]
  rfl
 refine pure_ (i := 6) (N := (some 12)) (v := ?_) (a' := ?_) #[true, true, true, true, true, true, true, false, false, false, false, false, false, false, false, false] rfl rfl (any_of HT_.out (by kernel_rfl)) (fun _ _ _ h => h) (Or.inl ⟨by rfl, ?_⟩) ?_ ?_
 rotate_left
 ·intro w'
  go_simp
  with_reducible rfl
 rotate_left
 ·simp only [Act.put, sB, i64_w, i32_w]
  rfl
 refine pure_ (i := 7) (N := (some 13)) (v := ?_) (a' := ?_) #[true, true, true, true, true, true, true, true, false, false, false, false, false, false, false, false] rfl rfl (any_of HT_.out (by kernel_rfl)) (fun _ _ _ h => h) (Or.inl ⟨by rfl, ?_⟩) ?_ ?_
 rotate_left
 ·intro w'
  go_simp
  with_reducible rfl
 rotate_left
 ·simp only [Act.put, sB, i64_w, i32_w]
  rfl
 refine take_ (i := 8) (N := (some 14)) (v := ?_) (a' := ?_) #[true, true, true, true, true, true, true, true, true, false, false, false, false, false, false, false] rfl rfl (take_ofW HT_.out HW_.out (by kernel_rfl)) (fun _ _ _ h => h) (Or.inl ⟨by rfl, ?_⟩) hHeld ?_ ?_
 rotate_left
 ·rintro w' ⟨s0, s1⟩
  go_simp
  with_reducible rfl
 rotate_left
 ·simp only [Act.put, sB, i64_w, i32_w]
  rfl
 refine pure_ (i := 10) (N := (some 16)) (v := ?_) (a' := ?_) #[true, true, true, true, true, true, true, true, true, false, true, false, false, false, false, false] rfl rfl (any_of HT_.out (by kernel_rfl)) (fun _ _ _ h => h) (Or.inl ⟨by rfl, ?_⟩) ?_ ?_
 rotate_left
 ·intro w'
  go_simp
  with_reducible rfl
 rotate_left
 ·simp only [Act.put, sB, i64_w, i32_w]
  rfl
 refine pure_ (i := 12) (N := (some 18)) (v := ?_) (a' := ?_) #[true, true, true, true, true, true, true, true, true, false, true, false, true, false, false, false] rfl rfl (any_of HT_.out (by kernel_rfl)) (fun _ _ _ h => h) (Or.inl ⟨by rfl, ?_⟩) ?_ ?_
 rotate_left
 ·intro w'
  go_simp
  with_reducible rfl
 rotate_left
 ·simp only [Act.put, sB, i64_w, i32_w]
  rfl
 refine pure_ (i := 9) (N := (some 15)) (v := ?_) (a' := ?_) #[true, true, true, true, true, true, true, true, true, true, true, false, true, false, false, false] rfl rfl (any_of HT_.out (by kernel_rfl)) (fun _ _ _ h => h) (Or.inl ⟨by rfl, ?_⟩) ?_ ?_
 rotate_left
 ·intro w'
  go_simp
  with_reducible rfl
 rotate_left
 ·simp only [Act.put, sB, i64_w, i32_w]
  rfl
 refine pure_ (i := 11) (N := (some 17)) (v := ?_) (a' := ?_) #[true, true, true, true, true, true, true, true, true, true, true, true, true, false, false, false] rfl rfl (any_of HT_.out (by kernel_rfl)) (fun _ _ _ h => h) (Or.inl ⟨by rfl, ?_⟩) ?_ ?_
 rotate_left
 ·intro w'
  go_simp
  with_reducible rfl
 rotate_left
 ·simp only [Act.put, sB, i64_w, i32_w]
  rfl
 refine one_ (i := 13) (N := none) #[true, true, true, true, true, true, true, true, true, true, true, true, true, true, false, false] rfl rfl (one_of HT_.out (by kernel_rfl)) (by decide) (fun K hK => ?_)
 have hcc := H2.out.at_ i HI.out
 have hff := Kd.R_elem_frozen H2.out.ra i HI.out
 refine skip_ (w1 := ?_) (by rfl) rfl ?_ ?_
 rotate_left
 ·go_simp
  rfl
 have H3 := asd (H2.out.putA i id)
 have HC3 := asd (HC.out.set_ (p := ⟨ga, i, none⟩) (.inl (.inr (.inl ⟨_, rfl, rfl⟩))) (.int .i64 id))
 generalize w1.setCell ⟨ga, i, none⟩ (.int .i64 id) = w3 at H3 HC3 ⊢
 refine hK.out _ _ ⟨(blk_cell H3.out.blk 0).trans (by rw [List.length_set]; rfl), (blk_cell H3.out.blk 1).trans rfl⟩ (fun hHeld => ?_)
 clear hK K hcc hff
 refine pure_ (i := 14) (N := (some 19)) (v := ?_) (a' := ?_) #[true, true, true, true, true, true, true, true, true, true, true, true, true, true, true, false] rfl rfl (any_of HT_.out (by kernel_rfl)) (fun _ _ _ h => h) (Or.inl ⟨by rfl, ?_⟩) ?_ ?_
 rotate_left
 ·intro w'
  go_simp
  with_reducible rfl
 rotate_left
 ·simp only [Act.put, sB, i64_w, i32_w]
  rfl
 refine last_ (i := 15) (N := none) #[true, true, true, true, true, true, true, true, true, true, true, true, true, true, true, true] rfl rfl (one_of HT_.out (by kernel_rfl)) (by decide) (fun K hK => ?_)
 have hcc := H3.out.pl_ id HID.out.1 HID.out.2
 have hff := Kd.R_elem_frozen H3.out.rp id.toNat (by have := HID.out; omega)
 refine skip_ (w1 := ?_) (by rfl) rfl ?_ ?_
 rotate_left
 ·go_simp
  rfl
 refine hK.out _ _ ?_
 clear hK K
 refine done_ (done_of HT_.out (by kernel_rfl)) ?_
 try go_wp2
 go_end0
 exact ⟨rfl, H3.out.putP id i, HC3.out.set_ (p := ⟨gp, id.toNat, none⟩) (.inl (.inr (.inr (.inl rfl)))) _⟩
end
end Go.Proofs.Ytjekfipaadbbbaa.Fn
namespace Go.Proofs.Ytjekfipaadbbbaa.Fn
open Go.RowKit Go.Proofs.YtjekfipaadbbbaaW.PrintWords Go.Proofs.YtjekfipaadbbbaaW.PrintLast Go.Proofs.YtjekfipaadbbbaaW.PrintMore
set_option linter.unusedVariables false
set_option linter.unusedSimpArgs false
section
variable {w : World} {base g ca gp cp gd cd ga : Nat} {ats pls dus : List Int}
set_option maxHeartbeats 4000000 in
set_option maxRecDepth 100000 in
theorem swap_calls (h : IsHeap w base g (some ⟨ga, 0, none⟩) ca ats gp cp pls gd cd dus) (L : Linked ats pls dus) (i k : Nat) (hi : i < ats.length) (hk : k < ats.length) :
  Calls Try.prog 103 #[.pointer (some ⟨g, 0, none⟩), .int .i64 i, .int .i64 k] w fun e w' => e = .returned (.tuple #[]) ∧ IsHeap w' base g (some ⟨ga, 0, none⟩) ca (swapA ats i k) gp cp (swapP ats pls i k) gd cd dus ∧ Chg (heapS g (some ⟨ga, 0, none⟩) gp gd) w w' := by
 have hu := Try.underlying106
 have HS := asd h
 have RI := asd (show 0 ≤ ats.getD i 0 ∧ ats.getD i 0 < pls.length by rw [L.len]; exact L.rng i hi)
 have RK := asd (show 0 ≤ ats.getD k 0 ∧ ats.getD k 0 < pls.length by rw [L.len]; exact L.rng k hk)
 have p0 : (0 ≤ (i : Int)) = True := eq_true (by omega)
 have p1 : ((i : Int) < (ats.length : Int)) = True := eq_true (by omega)
 have p2 : (0 ≤ (k : Int)) = True := eq_true (by omega)
 have p3 : ((k : Int) < (ats.length : Int)) = True := eq_true (by omega)
 have HII := asd hi
 have HKK := asd hk
 have hx0 := (blk_cell h.blk 0).trans rfl
 have EA : Aside0 (swapA ats i k = (ats.set i (ats.getD k 0)).set k (ats.getD i 0)) := ⟨rfl⟩
 have EP : Aside0 (swapP ats pls i k = (pls.set (ats.getD k 0).toNat i).set (ats.getD i 0).toNat k) := ⟨rfl⟩
 have hci := h.at_ i hi
 have hck := h.at_ k hk
 generalize ats.getD i 0 = a at RI EA EP hci
 generalize ats.getD k 0 = b at RK EA EP hck
 clear h L hi hk
 go_enter Try.func103, Try.ntmps103
 go_wp2
 go_quiet (fail)
 have H2 := asd (HS.out.below (below_drewN1 _ nq))
 have HC2 := asd ((Chg.refl (heapS g (some ⟨ga, 0, none⟩) gp gd) w).drewN nq)
 clear HS hx0 hci hck
 generalize w.drewN nq = w2 at H2 HC2 ⊢
 go_wp2_with fail
 refine (set_calls H2.out i b HII.out RK.out).mono ?_
 rintro e w3 ⟨rfl, h3, hc3⟩
 have H3 := asd h3
 have HC3 := asd (HC2.out.trans hc3)
 clear h3 hc3
 go_wp2_with fail
 refine (set_calls H3.out k a (by rw [List.length_set]; exact HKK.out) (by rw [List.length_set]; exact RI.out)).mono ?_
 rintro e w4 ⟨rfl, h4, hc4⟩
 have H4 := asd h4
 have HC4 := asd (HC3.out.trans hc4)
 clear h4 hc4
 go_wp2
 go_end0
 exact ⟨rfl, by rw [EA.out, EP.out]; exact H4.out, HC4.out⟩
set_option maxHeartbeats 8000000 in
set_option maxRecDepth 100000 in
theorem up_calls (h : IsHeap w base g (some ⟨ga, 0, none⟩) ca ats gp cp pls gd cd dus) (L : Linked ats pls dus) (i : Nat) (hi : i < ats.length) (hl : ats.length ≤ 5000) (U : UpInv false dus ats i) :
  Calls Try.prog 76 #[.pointer (some ⟨g, 0, none⟩), .int .i64 i] w fun e w' => e = .returned (.tuple #[]) ∧ (∃ ats' pls', IsHeap w' base g (some ⟨ga, 0, none⟩) ca ats' gp cp pls' gd cd dus ∧ Linked ats' pls' dus ∧ SameIn pls pls' ∧ ats'.length = ats.length ∧ pls'.length = pls.length ∧ (HeapP dus ats' ∨ (ats' = ats ∧ pls' = pls ∧ DownInv dus ats i))) ∧ Chg (heapS g (some ⟨ga, 0, none⟩) gp gd) w w' := by
 have HS := asd h
 have HL := asd L
 have HN := asd (And.intro hi hl)
 have HU := asd U
 clear h L hi hl U
 go_enter Try.func76, Try.ntmps76
 go_wp2
 go_loopw [1] (fun v wr => ∃ (j : Nat) (a p : List Int) (m : Bool), v = .int .i64 j ∧ Aside0 (j < a.length ∧ a.length = ats.length ∧ p.length = pls.length ∧ SameIn pls p ∧ (m = false → j = i ∧ a = ats ∧ p = pls)) ∧ Aside0 (UpInv m dus a j) ∧ Aside0 (Linked a p dus) ∧ Aside0 (IsHeap wr base g (some ⟨ga, 0, none⟩) ca a gp cp p gd cd dus) ∧ Aside0 (Chg (heapS g (some ⟨ga, 0, none⟩) gp gd) w wr)) (fun v _ => (intOf v).toNat)
 case atStart => exact ⟨i, ats, pls, false, rfl, ⟨HN.out.1, rfl, rfl, fun _ _ => Iff.rfl, fun _ => ⟨rfl, rfl, rfl⟩⟩, HU, HL, HS, ⟨Chg.refl _ _⟩⟩
 case round =>
  clear HU HL HS
  obtain ⟨j, a, p, m, rfl, HX, HU, HL, HS, HC⟩ := hrel
  have j99 : (j : Int) ≤ 5000 := by have := HX.out.1; have := HX.out.2.1; have := HN.out.2; omega
  have DONE : Aside0 ((j = 0 ∨ lessB dus (a.getD j 0) (a.getD (parN j) 0) = false) → HeapP dus a ∨ (a = ats ∧ p = pls ∧ DownInv dus ats i)) := ⟨fun he => by
   cases m with
   | true => exact .inl (up_end HU.out he)
   | false =>
    obtain ⟨e1, e2, e3⟩ := HX.out.2.2.2.2 rfl
    subst e1; subst e2; subst e3
    exact .inr ⟨rfl, rfl, up_still HU.out he⟩⟩
  by_cases h0 : 0 < j
  ·have d0 : decide ((0 : Int) < (j : Int)) = true := decide_eq_true (by omega)
   have d1 : decide (0 < j) = true := decide_eq_true h0
   have jb : (1 : Int) ≤ (j : Int) := by omega
   have e1 : ((j : Int) - 1).tdiv 2 = ((parN j : Nat) : Int) := by rw [Int.tdiv_eq_ediv_of_nonneg (by omega)]; unfold parN; omega
   have e2 : ((j : Int) - 1) / 2 = ((parN j : Nat) : Int) := by unfold parN; omega
   have PL := asd (show parN j < a.length by have := parN_lt h0; have := HX.out.1; omega)
   have LS := asd (less_calls HS.out j (parN j) HX.out.1 PL.out (HL.out.rng j HX.out.1) (HL.out.rng _ PL.out))
   cases hlb : lessB dus (a.getD j 0) (a.getD (parN j) 0) with
   | true =>
    rw [hlb] at LS
    have NU := asd (up_step HU.out h0 HX.out.1 hlb)
    clear hlb DONE h0
    go_wp2_with fail
    refine LS.out.mono ?_
    rintro e w1 ⟨rfl, hb⟩
    have H1 := asd (HS.out.below hb)
    have HC1 := asd (HC.out.below hb)
    clear hb
    go_wp2_with fail
    refine (swap_calls H1.out HL.out j (parN j) HX.out.1 PL.out).mono ?_
    rintro e w2 ⟨rfl, h2, hc2⟩
    have H2 := asd h2
    have HC2 := asd (HC1.out.trans hc2)
    have SW := asd (HL.out.swap HX.out.1 PL.out)
    clear h2 hc2
    go_wp2
    go_roundw
    case rel => exact ⟨parN j, swapA a j (parN j), swapP a p j (parN j), true, rfl, ⟨by rw [swapA_length]; exact PL.out, by rw [swapA_length]; exact HX.out.2.1, by rw [swapP_length]; exact HX.out.2.2.1, SameIn.trans HX.out.2.2.2.1 HX.out.2.2.1 SW.out.2, fun h => by cases h⟩, NU, ⟨SW.out.1⟩, H2, HC2⟩
    case measure =>
     have hp : parN j < j := by (unfold parN; omega)
     simp [intOf]; omega
   | false =>
    rw [hlb] at LS
    have DN := asd (DONE.out (.inr hlb))
    clear hlb DONE h0
    go_wp2_with (first | (go_at_call 109; refine LS.out.mono ?_; rintro e w1 ⟨rfl, hb⟩; have H1 := asd (HS.out.below hb); have HC1 := asd (HC.out.below hb); clear hb))
    go_end0
    exact ⟨rfl, ⟨a, p, H1.out, HL.out, HX.out.2.2.2.1, HX.out.2.1, HX.out.2.2.1, DN.out⟩, HC1.out⟩
  ·have d0 : decide ((0 : Int) < (j : Int)) = false := decide_eq_false (by omega)
   have d1 : decide (0 < j) = false := decide_eq_false h0
   have DN := asd (DONE.out (.inl (by omega)))
   clear DONE h0
   go_wp2
   go_end0
   exact ⟨rfl, ⟨a, p, HS.out, HL.out, HX.out.2.2.2.1, HX.out.2.1, HX.out.2.2.1, DN.out⟩, HC.out⟩
def b1F (d ats : List Int) (i : Nat) : Nat := if 2 * i + 1 < ats.length ∧ lessB d (ats.getD (2 * i + 1) 0) (ats.getD i 0) = true then 2 * i + 1 else i
theorem leastF_b1 (d ats : List Int) (i : Nat) : leastF d ats i = if 2 * i + 2 < ats.length ∧ lessB d (ats.getD (2 * i + 2) 0) (ats.getD (b1F d ats i) 0) = true then 2 * i + 2 else b1F d ats i := rfl
set_option maxHeartbeats 8000000 in
set_option maxRecDepth 100000 in
theorem clos_calls {bx : Nat} (h : IsHeap w base g (some ⟨ga, 0, none⟩) ca ats gp cp pls gd cd dus) (L : Linked ats pls dus) (hb : w.cell? ⟨bx, 0, none⟩ = some (.pointer (some ⟨g, 0, none⟩))) (i : Nat) (hi : i < ats.length) (hl : ats.length ≤ 5000) :
  Calls Try.prog 110 #[.int .i64 i, .pointer (some ⟨bx, 0, none⟩)] w fun e w' => e = .returned (.int .i64 (leastF dus ats i)) ∧ Below w.heap.size w w' := by
 have hu := Try.underlying106
 have HS := asd h
 have HL := asd L
 have HX0 := asd hb
 have HN := asd (And.intro hi hl)
 have i99 : (i : Int) ≤ 5000 := by omega
 clear h L hb hi hl
 go_enter Try.func110, Try.ntmps110
 go_wp2
 go_loopw [4, 5] (fun v4 v5 wr => ∃ (r b : Nat), v4 = .int .i64 b ∧ v5 = .int .i64 (2 * (i : Int) + (r : Int)) ∧ Aside0 (b < ats.length ∧ (r = 1 ∧ b = i ∨ r = 2 ∧ b = b1F dus ats i ∨ r = 3 ∧ b = leastF dus ats i)) ∧ Aside0 (Below w.heap.size w wr)) (fun _ v _ => (2 * i + 4) - (intOf v).toNat)
 case atStart => exact ⟨1, i, rfl, rfl, ⟨HN.out.1, .inl ⟨rfl, rfl⟩⟩, ⟨Below.refl _ _⟩⟩
 case round =>
  obtain ⟨r, b, rfl, rfl, HR, HB⟩ := hrel
  have r99 : (r : Int) ≤ 3 := by have := HR.out.2; omega
  have r0 : (1 : Int) ≤ (r : Int) := by have := HR.out.2; omega
  have hbx := pw_cell_below HB.out HX0.out
  have HS1 := asd (HS.out.below HB.out)
  have hx0 := (blk_cell HS1.out.blk 0).trans rfl
  by_cases hr : (r : Int) ≤ 2 ∧ 2 * (i : Int) + (r : Int) < (ats.length : Int)
  ·have d0 : decide (2 * (i : Int) + (r : Int) ≤ 2 * (i : Int) + 2) = true := decide_eq_true (by omega)
   have d0b : decide ((r : Int) ≤ 2) = true := decide_eq_true (by omega)
   have d1 : decide (2 * (i : Int) + (r : Int) < (ats.length : Int)) = true := decide_eq_true hr.2
   have HK := asd (show 2 * i + r < ats.length by omega)
   have ek : (2 * (i : Int) + (r : Int)) = ((2 * i + r : Nat) : Int) := by omega
   have LS := asd (less_calls HS1.out (2 * i + r) b HK.out HR.out.1 (HL.out.rng _ HK.out) (HL.out.rng _ HR.out.1))
   rw [← ek] at LS
   have R2 := asd (show r = 1 ∨ r = 2 by omega)
   clear ek hr
   cases hlb : lessB dus (ats.getD (2 * i + r) 0) (ats.getD b 0) with
   | true =>
    rw [hlb] at LS
    have NB : Aside0 (r + 1 = 1 ∧ 2 * i + r = i ∨ r + 1 = 2 ∧ 2 * i + r = b1F dus ats i ∨ r + 1 = 3 ∧ 2 * i + r = leastF dus ats i) := ⟨by
     rcases R2.out with rfl | rfl
     ·have hbb : b = i := by have := HR.out.2; omega
      subst hbb
      exact .inr (.inl ⟨rfl, by unfold b1F; rw [if_pos ⟨HK.out, hlb⟩]⟩)
     ·have hbb : b = b1F dus ats i := by have := HR.out.2; omega
      subst hbb
      exact .inr (.inr ⟨rfl, by rw [leastF_b1, if_pos ⟨HK.out, hlb⟩]⟩)⟩
    clear hlb
    go_wp2_with (first | (go_at_call 109; refine LS.out.mono ?_; rintro e w1 ⟨rfl, hb⟩; have HB1 := asd (below_step HB.out hb); clear hb))
    go_roundw
    case rel => exact ⟨r + 1, 2 * i + r, by go_num, by go_num, ⟨HK.out, NB.out⟩, HB1⟩
    case measure => simp [intOf]; omega
   | false =>
    rw [hlb] at LS
    have NB : Aside0 (r + 1 = 1 ∧ b = i ∨ r + 1 = 2 ∧ b = b1F dus ats i ∨ r + 1 = 3 ∧ b = leastF dus ats i) := ⟨by
     rcases R2.out with rfl | rfl
     ·have hbb : b = i := by have := HR.out.2; omega
      subst hbb
      exact .inr (.inl ⟨rfl, by unfold b1F; rw [if_neg (fun q => by rw [hlb] at q; exact absurd q.2 (by decide))]⟩)
     ·have hbb : b = b1F dus ats i := by have := HR.out.2; omega
      subst hbb
      exact .inr (.inr ⟨rfl, by rw [leastF_b1, if_neg (fun q => by rw [hlb] at q; exact absurd q.2 (by decide))]⟩)⟩
    clear hlb
    go_wp2_with (first | (go_at_call 109; refine LS.out.mono ?_; rintro e w1 ⟨rfl, hb⟩; have HB1 := asd (below_step HB.out hb); clear hb))
    go_roundw
    case rel => exact ⟨r + 1, b, rfl, by go_num, ⟨HR.out.1, NB.out⟩, HB1⟩
    case measure => simp [intOf]; omega
  ·have BE : Aside0 (b = leastF dus ats i) := ⟨by
    rcases HR.out.2 with ⟨rfl, rfl⟩ | ⟨rfl, rfl⟩ | ⟨rfl, rfl⟩
    ·rw [leastF_b1]; unfold b1F; rw [if_neg (fun q => by have := q.1; omega), if_neg (fun q => by have := q.1; omega)]
    ·rw [leastF_b1, if_neg (fun q => by have := q.1; omega)]
    ·rfl⟩
   by_cases h2 : (r : Int) ≤ 2
   ·have d0 : decide (2 * (i : Int) + (r : Int) ≤ 2 * (i : Int) + 2) = true := decide_eq_true (by omega)
    have d0b : decide ((r : Int) ≤ 2) = true := decide_eq_true h2
    have d1 : decide (2 * (i : Int) + (r : Int) < (ats.length : Int)) = false := decide_eq_false (fun q => hr ⟨h2, q⟩)
    clear hr h2
    go_wp2
    go_ret
    exact ⟨by rw [← BE.out]; try rfl, HB.out⟩
   ·have d0 : decide (2 * (i : Int) + (r : Int) ≤ 2 * (i : Int) + 2) = false := decide_eq_false (by omega)
    have d0b : decide ((r : Int) ≤ 2) = false := decide_eq_false h2
    clear hr h2
    go_wp2
    go_ret
    exact ⟨by rw [← BE.out]; try rfl, HB.out⟩
set_option maxHeartbeats 8000000 in
set_option maxRecDepth 100000 in
theorem down_calls (h : IsHeap w base g (some ⟨ga, 0, none⟩) ca ats gp cp pls gd cd dus) (L : Linked ats pls dus) (i : Nat) (hi : i < ats.length) (hl : ats.length ≤ 5000) (D : DownInv dus ats i) :
  Calls Try.prog 77 #[.pointer (some ⟨g, 0, none⟩), .int .i64 i] w fun e w' => e = .returned (.tuple #[]) ∧ (∃ ats' pls', IsHeap w' base g (some ⟨ga, 0, none⟩) ca ats' gp cp pls' gd cd dus ∧ Linked ats' pls' dus ∧ SameIn pls pls' ∧ ats'.length = ats.length ∧ pls'.length = pls.length ∧ HeapP dus ats') ∧ Chg (heapS g (some ⟨ga, 0, none⟩) gp gd) w w' := by
 have BX := asd (heap_alloc_new w (.cells #[.pointer (some ⟨g, 0, none⟩)] 148))
 have NS : Aside0 (¬ heapS g (some ⟨ga, 0, none⟩) gp gd w.heap.size) := ⟨fun hs => by have := (h.low _ hs).2; omega⟩
 have HS := asd (h.below (below_alloc (Below.refl _ _) (.cells #[.pointer (some ⟨g, 0, none⟩)] 148)))
 have HC := asd ((Chg.refl (heapS g (some ⟨ga, 0, none⟩) gp gd) w).alloc (.cells #[.pointer (some ⟨g, 0, none⟩)] 148))
 have HL := asd L
 have HN := asd (And.intro hi hl)
 have HD := asd D
 clear h L hi hl D
 go_enter Try.func77, Try.ntmps77
 go_wp2_with fail
 refine (clos_calls HS.out HL.out ((blk_cell BX.out 0).trans rfl) i HN.out.1 HN.out.2).mono ?_
 rintro e w1 ⟨rfl, hb⟩
 have H1 := asd (HS.out.below hb)
 have HC1 := asd (HC.out.below hb)
 have BX1 := asd (blk_below BX.out hb)
 clear hb HS HC BX
 generalize w.heap.size = bx at BX1 NS ⊢
 go_wp2
 go_loopw [1, 5] (fun v1 v5 wr => ∃ (j : Nat) (a p : List Int), v1 = .int .i64 j ∧ v5 = .int .i64 (leastF dus a j) ∧ Aside0 (j < a.length ∧ a.length = ats.length ∧ p.length = pls.length ∧ SameIn pls p) ∧ Aside0 (DownInv dus a j) ∧ Aside0 (Linked a p dus) ∧ Aside0 (IsHeap wr base g (some ⟨ga, 0, none⟩) ca a gp cp p gd cd dus) ∧ Aside0 (Chg (heapS g (some ⟨ga, 0, none⟩) gp gd) w wr) ∧ Aside0 (wr.heap[bx]? = some (.cells #[.pointer (some ⟨g, 0, none⟩)] 148 (0, 0)))) (fun v _ _ => ats.length - (intOf v).toNat)
 case atStart => exact ⟨i, ats, pls, rfl, rfl, ⟨HN.out.1, rfl, rfl, fun _ _ => Iff.rfl⟩, HD, HL, H1, HC1, BX1⟩
 case round =>
  clear HD HL H1 HC1 BX1
  obtain ⟨j, a, p, rfl, rfl, HX, HD, HL, HS, HC, BX⟩ := hrel
  have hbx := (blk_cell BX.out 0).trans rfl
  have LSP := asd (least_spec dus a j HX.out.1)
  by_cases hne : leastF dus a j = j
  ·have DN := asd (down_end HD.out HX.out.1 hne)
   rw [hne]
   clear hne LSP
   go_wp2
   go_end0
   exact ⟨rfl, ⟨a, p, HS.out, HL.out, HX.out.2.2.2, HX.out.2.1, HX.out.2.2.1, DN.out⟩, HC.out⟩
  ·have ND := asd (down_step HD.out HX.out.1 hne)
   have KG := asd (show leastF dus a j < a.length ∧ j < leastF dus a j by have := LSP.out.1; have := LSP.out.2.1; omega)
   have d0 : ((leastF dus a j : Int) == (j : Int)) = false := beq_eq_false_iff_ne.2 (by omega)
   have d1 : decide ((leastF dus a j : Int) = (j : Int)) = false := decide_eq_false (by omega)
   have d2 : decide (leastF dus a j = j) = false := decide_eq_false hne
   have d3 : (leastF dus a j == j) = false := beq_eq_false_iff_ne.2 hne
   generalize leastF dus a j = k at *
   clear hne LSP
   go_wp2_with fail
   refine (swap_calls HS.out HL.out j k HX.out.1 KG.out.1).mono ?_
   rintro e w2 ⟨rfl, h2, hc2⟩
   have H2 := asd h2
   have HC2 := asd (HC.out.trans hc2)
   have SW := asd (HL.out.swap HX.out.1 KG.out.1)
   have BX2 := asd (blk_chg BX.out hc2 NS.out)
   clear h2 hc2 hbx
   go_wp2_with fail
   refine (clos_calls H2.out SW.out.1 ((blk_cell BX2.out 0).trans rfl) k (by rw [swapA_length]; exact KG.out.1) (by rw [swapA_length, HX.out.2.1]; exact HN.out.2)).mono ?_
   rintro e w3 ⟨rfl, hb⟩
   have H3 := asd (H2.out.below hb)
   have HC3 := asd (HC2.out.below hb)
   have BX3 := asd (blk_below BX2.out hb)
   clear hb
   go_wp2
   go_roundw
   case rel => exact ⟨k, swapA a j k, swapP a p j k, rfl, rfl, ⟨by rw [swapA_length]; exact KG.out.1, by rw [swapA_length]; exact HX.out.2.1, by rw [swapP_length]; exact HX.out.2.2.1, SameIn.trans HX.out.2.2.2 HX.out.2.2.1 SW.out.2⟩, ND, ⟨SW.out.1⟩, H3, HC3, BX3⟩
   case measure => have := KG.out; have := HX.out; simp [intOf]; omega
end
end Go.Proofs.Ytjekfipaadbbbaa.Fn
namespace Go.Proofs.Ytjekfipaadbbbaa.Fn
open Go.RowKit Go.Proofs.YtjekfipaadbbbaaW.PrintWords Go.Proofs.YtjekfipaadbbbaaW.PrintLast Go.Proofs.YtjekfipaadbbbaaW.PrintMore
set_option linter.unusedVariables false
set_option linter.unusedSimpArgs false
theorem twoL_ {P : Program} {ops : Array Oper} {Q : Exit → Act → World → Prop} {md : Region.Mode} {S : World → Prop} {ds : List Nat} {i j : Nat} {Ni Nj : Option Tmp} {oi oj : Oper} {fuel : Nat} {l : Array Bool} {a : Act} {w : World} (li lj : Array Bool) (hi : ops[i]? = some oi) (hj : ops[j]? = some oj) (hNi : oi.dst = Ni) (hNj : oj.dst = Nj)
  (hc : (Region.ready md ops l == [i, j] && l.setIfInBounds i true == li && l.setIfInBounds j true == lj) = true) (hdi : i ∈ ds) (hdj : j ∈ ds)
  (h1 : ∀ K : Act → World → Prop, Shut (∀ a' w', wpAnyLast P md ops Q S ds fuel li a' w' → K a' w') → if Region.wanted oi (yielded ops a.tmps) = true then Oper.wp P oi a w K Q else K (a.put Ni undef) w)
  (h2 : ∀ K : Act → World → Prop, Shut (∀ a' w', wpAnyLast P md ops Q S ds fuel lj a' w' → K a' w') → if Region.wanted oj (yielded ops a.tmps) = true then Oper.wp P oj a w K Q else K (a.put Nj undef) w) :
  wpAnyLast P md ops Q S ds (fuel + 1) l a w := by
 subst hNi
 subst hNj
 simp only [Bool.and_eq_true, beq_iff_eq] at hc
 obtain ⟨⟨h3, h4⟩, h5⟩ := hc
 subst h4
 subst h5
 exact wpAnyLast_ready h3 (by simp) (AllReadyL.cons_last hi hdi (fun K hK => h1 K hK) (AllReadyL.cons_last hj hdj (fun K hK => h2 K hK) AllReadyL.nil))
attribute [local go_sem] max2_mx min2_mn max_two min_two
def hnew2T : Bool × List (List Nat × List Nat) := (true, [([], []), ([0, 0], [0]), ([], []), ([2, 2], [2]), ([1, 3], [1, 3]), ([4], [4]), ([5], [5]), ([6, 0, 1, 2, 3, 4, 5, 6], [6])])
def hnew2B : List Nat := [0, 1, 0, 4, 15, 31, 63, 127]
theorem hnew2_tab : rtab .any (opsOf Try.f28 2) = hnew2T := by kernel_rfl
theorem hnew2_bits : waitsOk hnew2T.2 hnew2B = true := by kernel_rfl
structure HOK (w : World) (base g : Nat) (A : Option Addr) (ca : Nat) (ats : List Int) (gp cp : Nat) (pls : List Int) (gd cd : Nat) (dus : List Int) : Prop where
 is : IsHeap w base g A ca ats gp cp pls gd cd dus
 li : Linked ats pls dus
 he : HeapP dus ats
theorem Kd.R_form0 {α : Type} {d : Kd α} {e base b : Nat} {ok : Nat → Prop} {w : World} {v : Value} {xs : List α} (h : d.R e w base ok v xs) (hb : v.ownBlock = some b) : ∃ g cap, v = .slice (some ⟨g, 0, none⟩) xs.length cap ∧ base ≤ g ∧ g < w.heap.size := by
 obtain ⟨inner, _, ho⟩ := Kd.R_own h
 rcases ho with ⟨rfl, _⟩ | ⟨g, cap, cur, hv, hg, hc, _⟩
 ·simp [Value.ownBlock] at hb
 ·exact ⟨g, cap, hv, hg, blk_lt hc⟩
set_option maxHeartbeats 8000000 in
set_option maxRecDepth 100000 in
theorem hnew_calls (n : Nat) (hn : n ≤ 1024) (w : World) : Calls Try.prog 28 #[.int .i64 n] w fun e w' => ∃ g gp cp gd cd pls, e = .returned (.pointer (some ⟨g, 0, none⟩)) ∧ HOK w' w.heap.size g none 0 [] gp cp pls gd cd (List.replicate n 0) ∧ pls.length = n ∧ (∀ k, k < n → pls.getD k 0 = -1) ∧ Below w.heap.size w w' := by
 have hu := Try.underlying106
 have HN := asd hn
 have m0 : mx (n : Int) 0 = n := by unfold mx; split <;> omega
 have m1 : mn (n : Int) 1024 = n := by unfold mn; split <;> omega
 clear hn
 go_enter Try.func28, Try.ntmps28
 go_wp2
 refine start_ (n := 8) (S := fun w' => True) (ds := [1, 3]) #[false, false, false, false, false, false, false, false] (by kernel_rfl) rfl rfl trivial (fun hHeld => ?_); refine with_tabW hnew2_tab hnew2_bits (fun HT_ HW_ => ?_)
 have HB := asd (below_drew1 (Below.refl w.heap.size w))
 clear hHeld
 generalize w.drew = w1 at HB ⊢
 refine pure_ (i := 0) (N := (some 8)) (v := ?_) (a' := ?_) #[true, false, false, false, false, false, false, false] rfl rfl (any_of HT_.out (by kernel_rfl)) (fun _ _ _ h => h) (Or.inl ⟨by rfl, ?_⟩) ?_ ?_
 rotate_left
 ·intro w'
  go_simp
  with_reducible rfl
 rotate_left
 ·simp only [Act.put, sB, i64_w, i32_w]
  rfl
 refine pure_ (i := 2) (N := (some 10)) (v := ?_) (a' := ?_) #[true, false, true, false, false, false, false, false] rfl rfl (any_of HT_.out (by kernel_rfl)) (fun _ _ _ h => h) (Or.inl ⟨by rfl, ?_⟩) ?_ ?_
 rotate_left
 ·intro w'
  go_simp
  with_reducible rfl
 rotate_left
 ·simp only [Act.put, sB, i64_w, i32_w]
  rfl
 refine twoL_ (i := 1) (j := 3) (Ni := (some 9)) (Nj := (some 11)) #[true, true, true, false, false, false, false, false] #[true, false, true, true, false, false, false, false] rfl rfl rfl rfl (two_of HT_.out (by kernel_rfl)) (by decide) (by decide) (fun K hK => ?_) (fun K hK => ?_)
 ·refine Kd.R_make_step (Kd.int .i64) (w0 := w) w.heap.size 3 (by rfl) (N := 9) rfl 36 _ _ rfl (n : Int) rfl rfl Try.underlying36 (.int .i64 0) 8 info3 rfl (by decide) (by omega) (0 : Int) (ok := fun k => w1.heap.size ≤ k) (okp := fun _ => False) rfl (fun _ hk => hk.elim) (Nat.le_refl _) (by omega) (by have := HN.out; simp; omega) HB.out (below_size HB.out) ?_
  intro vp w2 ho hb hg hnew
  rw [Int.toNat_natCast] at ho
  obtain ⟨bp, hbp, _⟩ := hnew
  obtain ⟨gp, cp, rfl, hbgp, hltp⟩ := Kd.R_form0 ho hbp
  rw [List.length_replicate] at ho ⊢
  have HOp := asd ho
  have HBp := asd hb
  have GBp := asd (And.intro (ho.1 gp rfl) hltp)
  have GRp := asd hg
  clear ho hb hg hbp hbgp hltp
  refine hK.out _ _ ?_
  clear hK K
  refine norm_ (a' := ?_) ?_ ?_
  rotate_left
  ·show Act.put _ (some 9) _ = _
   simp only [Act.put, sB, i64_w, i32_w]
   rfl
  refine last_ (i := 3) (N := (some 11)) #[true, true, true, true, false, false, false, false] rfl rfl (one_of HT_.out (by kernel_rfl)) (by decide) (fun K hK => ?_)
  refine Kd.R_make_step (Kd.int .i64) (w0 := w) w.heap.size 3 (by rfl) (N := 11) rfl 36 _ _ rfl (n : Int) rfl rfl Try.underlying36 (.int .i64 0) 8 info3 rfl (by decide) (by omega) (0 : Int) (ok := fun k => w2.heap.size ≤ k) (okp := fun _ => False) rfl (fun _ hk => hk.elim) (Nat.le_refl _) (by omega) (by have := HN.out; simp; omega) HBp.out (below_size HBp.out) ?_
  intro vd w3 ho hb hg hnew
  rw [Int.toNat_natCast] at ho
  obtain ⟨bd, hbd, _⟩ := hnew
  obtain ⟨gd, cd, rfl, hbgd, hltd⟩ := Kd.R_form0 ho hbd
  rw [List.length_replicate] at ho ⊢
  have HOd := asd ho
  have HBd := asd hb
  have GBd := asd (And.intro (ho.1 gd rfl) hltd)
  have GRd := asd hg
  clear ho hb hg hbd hbgd hltd
  refine hK.out _ _ ?_
  clear hK K
  refine norm_ (a' := ?_) ?_ ?_
  rotate_left
  ·show Act.put _ (some 11) _ = _
   simp only [Act.put, sB, i64_w, i32_w]
   rfl
  have HOpb := asd (Kd.R_step HOp.out (fun k _ hlt => GRd.out.block k hlt (by simp)))
  have GLd := asd (Nat.lt_of_lt_of_le GBp.out.2 GRd.out.size)
  refine pure_ (i := 4) (N := (some 12)) (v := ?_) (a' := ?_) #[true, true, true, true, true, false, false, false] rfl rfl (any_of HT_.out (by kernel_rfl)) (fun _ _ _ h => h) (Or.inl ⟨by rfl, ?_⟩) ?_ ?_
  rotate_left
  ·intro w'
   go_simp
   with_reducible rfl
  rotate_left
  ·simp only [Act.put, sB, i64_w, i32_w]
   rfl
  refine pure_ (i := 5) (N := (some 13)) (v := ?_) (a' := ?_) #[true, true, true, true, true, true, false, false] rfl rfl (any_of HT_.out (by kernel_rfl)) (fun _ _ _ h => h) (Or.inl ⟨by rfl, ?_⟩) ?_ ?_
  rotate_left
  ·intro w'
   go_simp
   with_reducible rfl
  rotate_left
  ·simp only [Act.put, sB, i64_w, i32_w]
   rfl
  refine one_ (i := 6) (N := (some 14)) #[true, true, true, true, true, true, true, false] rfl rfl (one_of HT_.out (by kernel_rfl)) (by decide) (fun K hK => ?_)
  refine value_ (w1 := ?_) (v := ?_) (by rfl) rfl ?_ ?_
  rotate_left 2
  ·go_simp
   constructor
   ·rfl
   ·rfl
  refine hK.out _ _ trivial (fun hHeld => ?_)
  clear hK K hHeld
  refine norm_ (a' := ?_) ?_ ?_
  rotate_left
  ·show Act.put _ (some 14) _ = _
   simp only [Act.put, sB, i64_w, i32_w]
   rfl
  refine pure_ (i := 7) (N := (some 3)) (v := ?_) (a' := ?_) #[true, true, true, true, true, true, true, true] rfl rfl (any_of HT_.out (by kernel_rfl)) (fun _ _ _ h => h) (Or.inl ⟨by rfl, ?_⟩) ?_ ?_
  rotate_left
  ·intro w'
   go_simp
   with_reducible rfl
  rotate_left
  ·simp only [Act.put, sB, i64_w, i32_w]
   rfl
  refine done_ (done_of HT_.out (by kernel_rfl)) ?_
  have HP := asd (Kd.R_tight2 rfl HOpb.out)
  have HD := asd (Kd.R_tight2 rfl HOd.out)
  have GN := asd (show w.heap.size ≤ gp ∧ w.heap.size ≤ gd ∧ gp ≠ gd ∧ gp < w3.heap.size ∧ gd < w3.heap.size by have := GBp.out; have := GBd.out; have := GLd.out; have := below_size HB.out; have := below_size HBp.out; omega)
  have HC3 := asd ((Chg.of_belowB HBd.out).alloc (.cells #[.slice none 0 0, .slice (some ⟨gp, 0, none⟩) n cp, .slice (some ⟨gd, 0, none⟩) n cd, .bool true] 108))
  have WB := asd HBd.out
  clear HOp HOd HOpb GBp GBd GRp GRd GLd HBp HBd HB
  have HH : Aside0 (IsHeap (w3.alloc (.cells #[.slice none 0 0, .slice (some ⟨gp, 0, none⟩) n cp, .slice (some ⟨gd, 0, none⟩) n cd, .bool true] 108)) w.heap.size w3.heap.size none 0 [] gp cp (List.replicate n 0) gd cd (List.replicate n 0)) := ⟨by
   have hn := GN.out
   refine ⟨?_, below_size ?_, by omega, by omega, hn.2.2.1, Kd.R_nil _ _ _ _ _, ?_, ?_⟩
   ·rw [List.length_replicate]; exact heap_alloc_new _ _
   ·exact (WB.out : Below w.heap.size w w3)
   ·rw [List.length_replicate]; exact Kd.R_mono (Kd.R_below HP.out (below_alloc (Below.refl _ _) _)) (fun k hk => by have := hk.1; simp [Value.ownBlock] at this; omega)
   ·rw [List.length_replicate]; exact Kd.R_mono (Kd.R_below HD.out (below_alloc (Below.refl _ _) _)) (fun k hk => by have := hk.1; simp [Value.ownBlock] at this; omega)⟩
  have GLO := asd GN.out.1
  clear HP HD GN WB
  generalize w3.heap.size = g at HH ⊢
  generalize w3.alloc (.cells #[.slice none 0 0, .slice (some ⟨gp, 0, none⟩) n cp, .slice (some ⟨gd, 0, none⟩) n cd, .bool true] 108) = w4 at HH HC3 ⊢
  have hx1 := (blk_cell HH.out.blk 1).trans (by rw [List.length_replicate]; try rfl)
  go_wp2
  clear hx1
  go_loopw [21] (fun v wr => ∃ (i : Nat) (zs : List Int), v = .int .i64 i ∧ Aside0 (i ≤ n ∧ zs.length = n ∧ ∀ k, k < i → zs.getD k 0 = -1) ∧ Aside0 (IsHeap wr w.heap.size g none 0 [] gp cp zs gd cd (List.replicate n 0)) ∧ Aside0 (Chg (fun k => w.heap.size ≤ k) w wr)) (fun v _ => n - (intOf v).toNat)
  case atStart => exact ⟨0, _, rfl, ⟨Nat.zero_le _, List.length_replicate, fun k hk => by omega⟩, HH, HC3⟩
  case round =>
   clear HH HC3
   obtain ⟨i, zs, rfl, HX, HH, HC⟩ := hrel
   have i99 : (i : Int) ≤ 1024 := by have := HX.out.1; have := HN.out; omega
   have hx1 := (blk_cell HH.out.blk 1).trans (by rw [HX.out.2.1]; try rfl)
   by_cases hi : i < n
   ·have d0 : decide ((i : Int) < (n : Int)) = true := decide_eq_true (by omega)
    have d1 : decide (i < n) = true := decide_eq_true hi
    have q0 : (0 ≤ (i : Int)) = True := eq_true (by omega)
    have q1 : ((i : Int) < (n : Int)) = True := eq_true (by omega)
    have hcc := HH.out.pl_ (i : Int) (by omega) (by have := HX.out.2.1; omega)
    have hff := Kd.R_elem_frozen HH.out.rp i (by have := HX.out.2.1; omega)
    rw [Int.toNat_natCast] at hcc
    have HII := asd hi
    clear hi
    go_wp2
    go_roundw
    case rel =>
     refine ⟨i + 1, zs.set i (-1), by go_num, ⟨by have := HII.out; omega, by rw [List.length_set]; exact HX.out.2.1, fun k hk => ?_⟩, ⟨?_⟩, ⟨HC.out.set_ (p := ⟨gp, i, none⟩) (.inl GLO.out) _⟩⟩
     ·rw [getD_set]
      by_cases h : i = k
      ·rw [if_pos ⟨h, by have := HX.out; have := HII.out; omega⟩]
      ·rw [if_neg (fun q => h q.1)]; exact HX.out.2.2 k (by omega)
     ·have h := HH.out.putP (i : Int) (-1)
      rwa [Int.toNat_natCast] at h
    case measure => have := HII.out; simp [intOf]; omega
   ·have d0 : decide ((i : Int) < (n : Int)) = false := decide_eq_false (by omega)
    have d1 : decide (i < n) = false := decide_eq_false hi
    have e : i = n := by have := HX.out.1; omega
    clear hi
    go_wp2
    go_ret
    exact ⟨g, gp, cp, gd, cd, zs, rfl, ⟨HH.out, ⟨by rw [List.length_replicate]; exact HX.out.2.1, fun j hj => absurd hj (by simp), fun j hj => absurd hj (by simp), fun id hid => .inl (HX.out.2.2 id (by have := HX.out.2.1; omega))⟩, fun j _ hj => absurd hj (by simp)⟩, HX.out.2.1, fun k hk => HX.out.2.2 k (by omega), HC.out.to_below (fun _ h => h) (Nat.le_refl _)⟩
 ·refine Kd.R_make_step (Kd.int .i64) (w0 := w) w.heap.size 3 (by rfl) (N := 11) rfl 36 _ _ rfl (n : Int) rfl rfl Try.underlying36 (.int .i64 0) 8 info3 rfl (by decide) (by omega) (0 : Int) (ok := fun k => w1.heap.size ≤ k) (okp := fun _ => False) rfl (fun _ hk => hk.elim) (Nat.le_refl _) (by omega) (by have := HN.out; simp; omega) HB.out (below_size HB.out) ?_
  intro vd w2 ho hb hg hnew
  rw [Int.toNat_natCast] at ho
  obtain ⟨bd, hbd, _⟩ := hnew
  obtain ⟨gd, cd, rfl, hbgd, hltd⟩ := Kd.R_form0 ho hbd
  rw [List.length_replicate] at ho ⊢
  have HOd := asd ho
  have HBd := asd hb
  have GBd := asd (And.intro (ho.1 gd rfl) hltd)
  have GRd := asd hg
  clear ho hb hg hbd hbgd hltd
  refine hK.out _ _ ?_
  clear hK K
  refine norm_ (a' := ?_) ?_ ?_
  rotate_left
  ·show Act.put _ (some 11) _ = _
   simp only [Act.put, sB, i64_w, i32_w]
   rfl
  refine last_ (i := 1) (N := (some 9)) #[true, true, true, true, false, false, false, false] rfl rfl (one_of HT_.out (by kernel_rfl)) (by decide) (fun K hK => ?_)
  refine Kd.R_make_step (Kd.int .i64) (w0 := w) w.heap.size 3 (by rfl) (N := 9) rfl 36 _ _ rfl (n : Int) rfl rfl Try.underlying36 (.int .i64 0) 8 info3 rfl (by decide) (by omega) (0 : Int) (ok := fun k => w2.heap.size ≤ k) (okp := fun _ => False) rfl (fun _ hk => hk.elim) (Nat.le_refl _) (by omega) (by have := HN.out; simp; omega) HBd.out (below_size HBd.out) ?_
  intro vp w3 ho hb hg hnew
  rw [Int.toNat_natCast] at ho
  obtain ⟨bp, hbp, _⟩ := hnew
  obtain ⟨gp, cp, rfl, hbgp, hltp⟩ := Kd.R_form0 ho hbp
  rw [List.length_replicate] at ho ⊢
  have HOp := asd ho
  have HBp := asd hb
  have GBp := asd (And.intro (ho.1 gp rfl) hltp)
  have GRp := asd hg
  clear ho hb hg hbp hbgp hltp
  refine hK.out _ _ ?_
  clear hK K
  refine norm_ (a' := ?_) ?_ ?_
  rotate_left
  ·show Act.put _ (some 9) _ = _
   simp only [Act.put, sB, i64_w, i32_w]
   rfl
  have HOdb := asd (Kd.R_step HOd.out (fun k _ hlt => GRp.out.block k hlt (by simp)))
  have GLp := asd (Nat.lt_of_lt_of_le GBd.out.2 GRp.out.size)
  refine pure_ (i := 4) (N := (some 12)) (v := ?_) (a' := ?_) #[true, true, true, true, true, false, false, false] rfl rfl (any_of HT_.out (by kernel_rfl)) (fun _ _ _ h => h) (Or.inl ⟨by rfl, ?_⟩) ?_ ?_
  rotate_left
  ·intro w'
   go_simp
   with_reducible rfl
  rotate_left
  ·simp only [Act.put, sB, i64_w, i32_w]
   rfl
  refine pure_ (i := 5) (N := (some 13)) (v := ?_) (a' := ?_) #[true, true, true, true, true, true, false, false] rfl rfl (any_of HT_.out (by kernel_rfl)) (fun _ _ _ h => h) (Or.inl ⟨by rfl, ?_⟩) ?_ ?_
  rotate_left
  ·intro w'
   go_simp
   with_reducible rfl
  rotate_left
  ·simp only [Act.put, sB, i64_w, i32_w]
   rfl
  refine one_ (i := 6) (N := (some 14)) #[true, true, true, true, true, true, true, false] rfl rfl (one_of HT_.out (by kernel_rfl)) (by decide) (fun K hK => ?_)
  refine value_ (w1 := ?_) (v := ?_) (by rfl) rfl ?_ ?_
  rotate_left 2
  ·go_simp
   constructor
   ·rfl
   ·rfl
  refine hK.out _ _ trivial (fun hHeld => ?_)
  clear hK K hHeld
  refine norm_ (a' := ?_) ?_ ?_
  rotate_left
  ·show Act.put _ (some 14) _ = _
   simp only [Act.put, sB, i64_w, i32_w]
   rfl
  refine pure_ (i := 7) (N := (some 3)) (v := ?_) (a' := ?_) #[true, true, true, true, true, true, true, true] rfl rfl (any_of HT_.out (by kernel_rfl)) (fun _ _ _ h => h) (Or.inl ⟨by rfl, ?_⟩) ?_ ?_
  rotate_left
  ·intro w'
   go_simp
   with_reducible rfl
  rotate_left
  ·simp only [Act.put, sB, i64_w, i32_w]
   rfl
  refine done_ (done_of HT_.out (by kernel_rfl)) ?_
  have HP := asd (Kd.R_tight2 rfl HOp.out)
  have HD := asd (Kd.R_tight2 rfl HOdb.out)
  have GN := asd (show w.heap.size ≤ gp ∧ w.heap.size ≤ gd ∧ gp ≠ gd ∧ gp < w3.heap.size ∧ gd < w3.heap.size by have := GBp.out; have := GBd.out; have := GLp.out; have := below_size HB.out; have := below_size HBd.out; omega)
  have HC3 := asd ((Chg.of_belowB HBp.out).alloc (.cells #[.slice none 0 0, .slice (some ⟨gp, 0, none⟩) n cp, .slice (some ⟨gd, 0, none⟩) n cd, .bool true] 108))
  have WB := asd HBp.out
  clear HOp HOd HOdb GBp GBd GRp GRd GLp HBp HBd HB
  have HH : Aside0 (IsHeap (w3.alloc (.cells #[.slice none 0 0, .slice (some ⟨gp, 0, none⟩) n cp, .slice (some ⟨gd, 0, none⟩) n cd, .bool true] 108)) w.heap.size w3.heap.size none 0 [] gp cp (List.replicate n 0) gd cd (List.replicate n 0)) := ⟨by
   have hn := GN.out
   refine ⟨?_, below_size ?_, by omega, by omega, hn.2.2.1, Kd.R_nil _ _ _ _ _, ?_, ?_⟩
   ·rw [List.length_replicate]; exact heap_alloc_new _ _
   ·exact (WB.out : Below w.heap.size w w3)
   ·rw [List.length_replicate]; exact Kd.R_mono (Kd.R_below HP.out (below_alloc (Below.refl _ _) _)) (fun k hk => by have := hk.1; simp [Value.ownBlock] at this; omega)
   ·rw [List.length_replicate]; exact Kd.R_mono (Kd.R_below HD.out (below_alloc (Below.refl _ _) _)) (fun k hk => by have := hk.1; simp [Value.ownBlock] at this; omega)⟩
  have GLO := asd GN.out.1
  clear HP HD GN WB
  generalize w3.heap.size = g at HH ⊢
  generalize w3.alloc (.cells #[.slice none 0 0, .slice (some ⟨gp, 0, none⟩) n cp, .slice (some ⟨gd, 0, none⟩) n cd, .bool true] 108) = w4 at HH HC3 ⊢
  have hx1 := (blk_cell HH.out.blk 1).trans (by rw [List.length_replicate]; try rfl)
  go_wp2
  clear hx1
  go_loopw [21] (fun v wr => ∃ (i : Nat) (zs : List Int), v = .int .i64 i ∧ Aside0 (i ≤ n ∧ zs.length = n ∧ ∀ k, k < i → zs.getD k 0 = -1) ∧ Aside0 (IsHeap wr w.heap.size g none 0 [] gp cp zs gd cd (List.replicate n 0)) ∧ Aside0 (Chg (fun k => w.heap.size ≤ k) w wr)) (fun v _ => n - (intOf v).toNat)
  case atStart => exact ⟨0, _, rfl, ⟨Nat.zero_le _, List.length_replicate, fun k hk => by omega⟩, HH, HC3⟩
  case round =>
   clear HH HC3
   obtain ⟨i, zs, rfl, HX, HH, HC⟩ := hrel
   have i99 : (i : Int) ≤ 1024 := by have := HX.out.1; have := HN.out; omega
   have hx1 := (blk_cell HH.out.blk 1).trans (by rw [HX.out.2.1]; try rfl)
   by_cases hi : i < n
   ·have d0 : decide ((i : Int) < (n : Int)) = true := decide_eq_true (by omega)
    have d1 : decide (i < n) = true := decide_eq_true hi
    have q0 : (0 ≤ (i : Int)) = True := eq_true (by omega)
    have q1 : ((i : Int) < (n : Int)) = True := eq_true (by omega)
    have hcc := HH.out.pl_ (i : Int) (by omega) (by have := HX.out.2.1; omega)
    have hff := Kd.R_elem_frozen HH.out.rp i (by have := HX.out.2.1; omega)
    rw [Int.toNat_natCast] at hcc
    have HII := asd hi
    clear hi
    go_wp2
    go_roundw
    case rel =>
     refine ⟨i + 1, zs.set i (-1), by go_num, ⟨by have := HII.out; omega, by rw [List.length_set]; exact HX.out.2.1, fun k hk => ?_⟩, ⟨?_⟩, ⟨HC.out.set_ (p := ⟨gp, i, none⟩) (.inl GLO.out) _⟩⟩
     ·rw [getD_set]
      by_cases h : i = k
      ·rw [if_pos ⟨h, by have := HX.out; have := HII.out; omega⟩]
      ·rw [if_neg (fun q => h q.1)]; exact HX.out.2.2 k (by omega)
     ·have h := HH.out.putP (i : Int) (-1)
      rwa [Int.toNat_natCast] at h
    case measure => have := HII.out; simp [intOf]; omega
   ·have d0 : decide ((i : Int) < (n : Int)) = false := decide_eq_false (by omega)
    have d1 : decide (i < n) = false := decide_eq_false hi
    have e : i = n := by have := HX.out.1; omega
    clear hi
    go_wp2
    go_ret
    exact ⟨g, gp, cp, gd, cd, zs, rfl, ⟨HH.out, ⟨by rw [List.length_replicate]; exact HX.out.2.1, fun j hj => absurd hj (by simp), fun j hj => absurd hj (by simp), fun id hid => .inl (HX.out.2.2 id (by have := HX.out.2.1; omega))⟩, fun j _ hj => absurd hj (by simp)⟩, HX.out.2.1, fun k hk => HX.out.2.2 k (by omega), HC.out.to_below (fun _ h => h) (Nat.le_refl _)⟩
def inB (pls : List Int) (id : Int) : Bool := decide (0 ≤ id ∧ id < pls.length ∧ pls.getD id.toNat 0 ≠ -1)
def inC (pls : List Int) (id : Int) : Int := if 0 ≤ id ∧ id < pls.length then 0 else 1
section
variable {w : World} {base g ca gp cp gd cd : Nat} {A : Option Addr} {ats pls dus : List Int}
set_option maxHeartbeats 4000000 in
set_option maxRecDepth 100000 in
theorem none_calls (h : IsHeap w base g A ca ats gp cp pls gd cd dus) : Calls Try.prog 78 #[.pointer (some ⟨g, 0, none⟩)] w fun e w' => e = .returned (.bool false) ∧ w = w' := by
 have hx3 := (blk_cell h.blk 3).trans rfl
 clear h
 go_enter Try.func78, Try.ntmps78
 go_wp2
 go_ret
 simp
set_option maxHeartbeats 4000000 in
set_option maxRecDepth 100000 in
theorem in_calls (h : IsHeap w base g A ca ats gp cp pls gd cd dus) (id : Int) : Calls Try.prog 74 #[.pointer (some ⟨g, 0, none⟩), .int .i64 id] w fun e w' => e = .returned (.tuple #[.bool (inB pls id), .int .i64 (inC pls id)]) ∧ w = w' := by
 have NC := asd (none_calls h)
 have hx1 := (blk_cell h.blk 1).trans rfl
 by_cases h0 : id < 0
 ·have e1 : inB pls id = false := decide_eq_false (fun q => by omega)
  have e2 : inC pls id = 1 := if_neg (fun q => by omega)
  rw [e1, e2]
  have d0 : decide (id < 0) = true := decide_eq_true h0
  clear h e1 e2 h0 hx1
  go_enter Try.func74, Try.ntmps74
  go_wp2_with (first | (go_at_call 78; refine NC.out.mono ?_; rintro e w1 ⟨rfl, rfl⟩))
  go_ret2
  simp
 ·have d0 : decide (id < 0) = false := decide_eq_false h0
  by_cases h1 : (pls.length : Int) ≤ id
  ·have e1 : inB pls id = false := decide_eq_false (fun q => by omega)
   have e2 : inC pls id = 1 := if_neg (fun q => by omega)
   rw [e1, e2]
   have d1 : decide ((pls.length : Int) ≤ id) = true := decide_eq_true h1
   clear h e1 e2 h0 h1
   go_enter Try.func74, Try.ntmps74
   go_wp2_with (first | (go_at_call 78; refine NC.out.mono ?_; rintro e w1 ⟨rfl, rfl⟩))
   go_ret2
   simp
  ·have d1 : decide ((pls.length : Int) ≤ id) = false := decide_eq_false h1
   have hcc := h.pl_ id (by omega) (by omega)
   have e1 : inB pls id = decide (¬ pls.getD id.toNat 0 = -1) := decide_eq_decide.2 ⟨fun q => q.2.2, fun q => ⟨by omega, by omega, q⟩⟩
   have e2 : inC pls id = 0 := if_pos ⟨by omega, by omega⟩
   have p0 : (0 ≤ id) = True := eq_true (by omega)
   have p1 : (id < (pls.length : Int)) = True := eq_true (by omega)
   rw [e1, e2]
   generalize pls.getD id.toNat 0 = x at hcc ⊢
   clear h e1 e2 h0 h1
   by_cases hx : x = -1
   ·have d2 : decide (x = -1) = true := decide_eq_true hx
    have d3 : (x == -1) = true := by simpa using hx
    go_enter Try.func74, Try.ntmps74
    go_wp2_with (first | (go_at_call 78; refine NC.out.mono ?_; rintro e w1 ⟨rfl, rfl⟩))
    go_ret2
    simp [hx]
   ·have d2 : decide (x = -1) = false := decide_eq_false hx
    have d3 : (x == -1) = false := by simpa using hx
    go_enter Try.func74, Try.ntmps74
    go_wp2_with (first | (go_at_call 78; refine NC.out.mono ?_; rintro e w1 ⟨rfl, rfl⟩))
    go_ret2
    simp [hx]
set_option maxHeartbeats 4000000 in
set_option maxRecDepth 100000 in
theorem hlen_calls (h : IsHeap w base g A ca ats gp cp pls gd cd dus) : Calls Try.prog 33 #[.pointer (some ⟨g, 0, none⟩)] w fun e w' => e = .returned (.int .i64 ats.length) ∧ w = w' := by
 have NC := asd (none_calls h)
 have hx0 := (blk_cell h.blk 0).trans rfl
 clear h
 go_enter Try.func33, Try.ntmps33
 go_wp2_with (first | (go_at_call 78; refine NC.out.mono ?_; rintro e w1 ⟨rfl, rfl⟩))
 go_ret
 simp
end
end Go.Proofs.Ytjekfipaadbbbaa.Fn
namespace Go.Proofs.Ytjekfipaadbbbaa.Fn
open Go.RowKit Go.Proofs.YtjekfipaadbbbaaW.PrintWords Go.Proofs.YtjekfipaadbbbaaW.PrintLast Go.Proofs.YtjekfipaadbbbaaW.PrintMore
set_option linter.unusedVariables false
set_option linter.unusedSimpArgs false
def hput8T : Bool × List (List Nat × List Nat) := (true, [([], []), ([0], [0]), ([1], [1]), ([], []), ([3], [3]), ([4], [4]), ([5], [5]), ([6], [6]), ([7], [7]), ([8], [8]), ([], []), ([2, 9, 10], [2, 9, 10])])
def hput8B : List Nat := [0, 1, 3, 0, 8, 24, 56, 120, 248, 504, 0, 2047]
theorem hput8_tab : rtab .any (opsOf Try.f30 8) = hput8T := by kernel_rfl
theorem hput8_bits : waitsOk hput8T.2 hput8B = true := by kernel_rfl
def hput9T : Bool × List (List Nat × List Nat) := (true, [([], []), ([0], [0]), ([1], [1]), ([], []), ([3], [3]), ([4], [4]), ([5], [5]), ([6], [6]), ([7], [7]), ([8], [8]), ([2, 9], [2, 9])])
def hput9B : List Nat := [0, 1, 3, 0, 8, 24, 56, 120, 248, 504, 1023]
theorem hput9_tab : rtab .any (opsOf Try.f30 9) = hput9T := by kernel_rfl
theorem hput9_bits : waitsOk hput9T.2 hput9B = true := by kernel_rfl
theorem own_some {A : Option Addr} {n c k : Nat} (h : (Value.slice A n c).ownBlock = some k) : ∃ a, A = some a ∧ k = a.block := by
 cases A with
 | none => simp [Value.ownBlock] at h
 | some a => exact ⟨a, rfl, by simpa [Value.ownBlock] using h.symm⟩
theorem lessB_far {d : List Int} {a b : Int} {i : Nat} {x : Int} (ha : a.toNat ≠ i) (hb : b.toNat ≠ i) : lessB (d.set i x) a b = lessB d a b := by
 unfold lessB
 rw [getD_set, getD_set, if_neg (fun q => ha q.1.symm), if_neg (fun q => hb q.1.symm)]
theorem getD_app {α : Type} (l : List α) (x z : α) (j : Nat) (h : j < l.length) : (l ++ [x]).getD j z = l.getD j z := by
 simp [List.getD_eq_getElem?_getD, List.getElem?_append_left h]
theorem getD_app_last {α : Type} (l : List α) (x z : α) : (l ++ [x]).getD l.length z = x := by
 simp [List.getD_eq_getElem?_getD]
section
variable {w w1 : World} {base g ca gp cp gd cd : Nat} {A : Option Addr} {ats pls dus : List Int}
theorem Linked.notin (h : Linked ats pls dus) {id : Int} (h0 : 0 ≤ id) (hn : pls.getD id.toNat 0 = -1) (i : Nat) (hi : i < ats.length) : (ats.getD i 0).toNat ≠ id.toNat := fun e => by
 have h1 := h.fwd i hi
 rw [e, hn] at h1
 omega
theorem Linked.set_due (h : Linked ats pls dus) (i : Nat) (x : Int) : Linked ats pls (dus.set i x) :=
 ⟨by rw [List.length_set]; exact h.len, fun j hj => by rw [List.length_set]; exact h.rng j hj, h.fwd, h.bwd⟩
theorem Linked.push (h : Linked ats pls dus) {id : Int} (h0 : 0 ≤ id) (h1 : id < pls.length) (hn : pls.getD id.toNat 0 = -1) : Linked (ats ++ [id]) (pls.set id.toNat (ats.length : Int)) dus := by
 have hl := h.len
 refine ⟨by rw [List.length_set]; exact h.len, ?_, ?_, ?_⟩
 ·intro i hi
  rw [List.length_append, List.length_singleton] at hi
  by_cases he : i = ats.length
  ·subst he; rw [getD_app_last]; omega
  ·rw [getD_app _ _ _ _ (by omega)]; exact h.rng i (by omega)
 ·intro i hi
  rw [List.length_append, List.length_singleton] at hi
  by_cases he : i = ats.length
  ·subst he
   rw [getD_app_last, getD_set, if_pos ⟨rfl, by omega⟩]
  ·rw [getD_app _ _ _ _ (by omega), getD_set, if_neg (fun q => h.notin h0 hn i (by omega) q.1.symm)]
   exact h.fwd i (by omega)
 ·intro k hk
  rw [List.length_set] at hk
  rw [getD_set]
  by_cases he : id.toNat = k
  ·rw [if_pos ⟨he, by omega⟩]
   exact .inr ⟨ats.length, by simp, rfl, by rw [getD_app_last]; omega⟩
  ·rw [if_neg (fun q => he q.1)]
   rcases h.bwd k hk with hb | ⟨j, hj, hp, ha⟩
   ·exact .inl hb
   ·exact .inr ⟨j, by rw [List.length_append]; omega, hp, by rw [getD_app _ _ _ _ hj]; exact ha⟩
theorem Linked.push_up (h : Linked ats pls dus) (P : HeapP dus ats) {id x : Int} (h0 : 0 ≤ id) (hn : pls.getD id.toNat 0 = -1) : UpInv false (dus.set id.toNat x) (ats ++ [id]) ats.length := by
 refine ⟨fun j hj0 hj hne _ => ?_, fun _ j hj0 hj hp => ?_⟩
 ·rw [List.length_append, List.length_singleton] at hj
  have hp := parN_lt hj0
  rw [getD_app _ _ _ _ (by omega), getD_app _ _ _ _ (by omega)]
  unfold leD
  rw [lessB_far (h.notin h0 hn _ (by omega)) (h.notin h0 hn _ (by omega))]
  exact P j hj0 (by omega)
 ·rw [List.length_append, List.length_singleton] at hj
  have := parN_lt hj0
  omega
theorem down_last {d a : List Int} {i : Nat} (h : DownInv d a i) (hi : a.length ≤ i + 1) : HeapP d a := fun j h0 hj => h.1 j h0 hj (by have := parN_lt h0; omega)
theorem IsHeap.grow (h : IsHeap w base g A ca ats gp cp pls gd cd dus) {x : Int} {A2 : Option Addr} {c2 : Nat} (ho : (Kd.int .i64).R 3 w1 base (fun k => k ≠ g ∧ k ≠ gp ∧ k ≠ gd) (.slice A2 (ats ++ [x]).length c2) (ats ++ [x])) (hg : w.grownBy w1 (Value.slice A ats.length ca).ownBlock) :
  IsHeap (w1.setCell ⟨g, 0, none⟩ (.slice A2 (ats ++ [x]).length c2)) base g A2 c2 (ats ++ [x]) gp cp pls gd cd dus := by
 have hne : ∀ k, (k = g ∨ k = gp ∨ k = gd) → ¬ (Value.slice A ats.length ca).ownBlock = some k := fun k hk e => by
  have := h.ra.1 k e
  omega
 have hc : Chg (fun k => (Value.slice A ats.length ca).ownBlock = some k) w w1 := (Chg.refl _ _).grown hg (fun k hk => .inl hk)
 have n1 := h.n1
 have n2 := h.n2
 refine ⟨?_, h.lo, h.n1, h.n2, h.n3, ?_, ?_, ?_⟩
 ·exact blk_put (blk_chg h.blk hc (hne _ (.inl rfl))) 0 _ rfl
 ·exact Kd.R_far ho (p := ⟨g, 0, none⟩) (fun k hk e => hk.1 e) _
 ·exact Kd.R_far (R_chg h.rp hc (fun k hk => by rw [hk]; exact hne _ (.inr (.inl rfl)))) (p := ⟨g, 0, none⟩) (fun k hk e => h.n1 (by rw [← hk]; exact e)) _
 ·exact Kd.R_far (R_chg h.rd hc (fun k hk => by rw [hk]; exact hne _ (.inr (.inr rfl)))) (p := ⟨g, 0, none⟩) (fun k hk e => h.n2 (by rw [← hk]; exact e)) _
theorem IsHeap.grow_blk (h : IsHeap w base g A ca ats gp cp pls gd cd dus) (hg : w.grownBy w1 (Value.slice A ats.length ca).ownBlock) : w1.heap[g]? = some (.cells #[.slice A ats.length ca, .slice (some ⟨gp, 0, none⟩) pls.length cp, .slice (some ⟨gd, 0, none⟩) dus.length cd, .bool true] 108 (0, 0)) :=
 blk_chg h.blk ((Chg.refl (fun k => (Value.slice A ats.length ca).ownBlock = some k) _).grown hg (fun k hk => .inl hk)) (fun e => (h.ra.1 g e).1 rfl)
def NewA (s : Nat) (A A' : Option Addr) : Prop := ∀ a', A' = some a' → (∃ a, A = some a ∧ a.block = a'.block) ∨ s ≤ a'.block
theorem NewA.refl (s : Nat) (A : Option Addr) : NewA s A A := fun a' h => .inl ⟨a', h, rfl⟩
theorem NewA.of {s n m c c' : Nat} {A' : Option Addr} (h : (Value.slice A' m c').ownBlock = (Value.slice A n c).ownBlock ∨ ∃ b, (Value.slice A' m c').ownBlock = some b ∧ s ≤ b) : NewA s A A' := by
 rintro a' rfl
 rcases h with h | ⟨b, hb, hs⟩
 ·cases A with
  | none => simp [Value.ownBlock] at h
  | some a => exact .inl ⟨a, rfl, by simpa [Value.ownBlock] using h.symm⟩
 ·simp [Value.ownBlock] at hb
  exact .inr (by omega)
theorem heapS_new {A' : Option Addr} {s k : Nat} (h : NewA s A A') (hk : heapS g A' gp gd k) : heapS g A gp gd k ∨ s ≤ k := by
 rcases hk with hk | ⟨a, ha, hk⟩ | hk | hk
 ·exact .inl (.inl hk)
 ·rcases h a ha with ⟨a', ha', he⟩ | hs
  ·exact .inl (.inr (.inl ⟨a', ha', by omega⟩))
  ·exact .inr (by omega)
 ·exact .inl (.inr (.inr (.inl hk)))
 ·exact .inl (.inr (.inr (.inr hk)))
set_option maxHeartbeats 8000000 in
set_option maxRecDepth 100000 in
theorem put_calls (h : HOK w base g A ca ats gp cp pls gd cd dus) (id due : Int) (h0 : 0 ≤ id) (h1 : id < pls.length) (hn : pls.getD id.toNat 0 = -1) (hl : ats.length < 5000) :
  Calls Try.prog 30 #[.pointer (some ⟨g, 0, none⟩), .int .i64 id, .int .i64 due] w fun e w' => e = .returned (.int .i64 0) ∧ (∃ A' ca' ats' pls', HOK w' base g A' ca' ats' gp cp pls' gd cd (dus.set id.toNat due) ∧ SameIn (pls.set id.toNat 0) pls' ∧ pls'.length = pls.length ∧ ats'.length = ats.length + 1 ∧ NewA w.heap.size A A') ∧ Chg (heapS g A gp gd) w w' := by
 have hlen := h.li.len
 have hi1 : inB pls id = false := decide_eq_false (fun q => q.2.2 hn)
 have hi2 : inC pls id = 0 := if_pos ⟨h0, h1⟩
 have NC := asd (in_calls h.is id)
 rw [hi1, hi2] at NC
 have hx2 := (blk_cell h.is.blk 2).trans rfl
 have hx0 := (blk_cell h.is.blk 0).trans rfl
 have hcc := h.is.due_ id h0 (by omega)
 have hff := Kd.R_elem_frozen h.is.rd id.toNat (by omega)
 have hf0 := blk_frozen h.is.blk 0
 have p0 : (0 ≤ id) = True := eq_true h0
 have p1 : (id < (dus.length : Int)) = True := eq_true (by omega)
 have GD := asd h.is.n2
 have RI := asd (And.intro h0 h1)
 have HD := asd (h.is.putD id due)
 have HC := asd ((Chg.refl (heapS g A gp gd) w).set_ (p := ⟨gd, id.toNat, none⟩) (.inl (.inr (.inr (.inr rfl)))) (.int .i64 due))
 have HL := asd hl
 have LP := asd ((h.li.push h0 h1 hn).set_due id.toNat due)
 have UI := asd (h.li.push_up h.he (x := due) h0 hn)
 have SI : Aside0 (SameIn (pls.set id.toNat 0) (pls.set id.toNat (ats.length : Int))) := ⟨fun k hk => by
  rw [getD_set, getD_set]
  by_cases q : id.toNat = k ∧ id.toNat < pls.length
  ·rw [if_pos q, if_pos q]; omega
  ·rw [if_neg q, if_neg q]⟩
 have SZ := asd (Nat.le_refl w.heap.size)
 clear h hl hi1 hi2 hlen h0 h1 hn
 go_enter Try.func30, Try.ntmps30
 have hxb := (blk_cell HD.out.blk 0).trans rfl
 go_wp2_with (first | (go_at_call 74; refine NC.out.mono ?_; rintro e w1 ⟨rfl, rfl⟩) | (at_builtin; refine Kd.R_append (Kd.int .i64) (w0 := w.setCell ⟨gd, id.toNat, none⟩ (.int .i64 due)) base rfl (.tmp 34) (.tmp 36) 36 3 (.int .i64 0) 8 rfl Try.underlying36 info3 rfl (by decide) (by omega) (.slice A ats.length ca) ats id [.int .i64 id] (fun k => k ≠ g ∧ k ≠ gp ∧ k ≠ gd) (fun _ => False) rfl (by first | rfl | (simp [Act.eval, World.setCell]; done)) rfl (fun _ hk => hk.elim) (fun k hk => by have h1 := blk_lt HD.out.blk; have h2 := Kd.R_lt HD.out.rp gp rfl; have h3 := Kd.R_lt HD.out.rd gd rfl; omega) HD.out.ra (Below.refl _ _) (by have h1 := blk_lt HD.out.blk; have := HD.out.lo; omega) (by have := HL.out; omega) ?_; intro v1 w1 ho hb hg hat; obtain ⟨A2, c2, rfl⟩ := Kd.R_slice ho; have H8 := asd (HD.out.grow ho hg); have hxw := (blk_cell (HD.out.grow_blk hg) 0).trans rfl; have hfw := blk_frozen (HD.out.grow_blk hg) 0; have NA := asd (NewA.of hat); have HC8 := asd ((HC.out.grown hg (fun k hk => .inl (.inr (.inl (own_some hk))))).set_ (p := ⟨g, 0, none⟩) (.inl (.inl rfl)) (.slice A2 (ats ++ [id]).length c2)); have NA0 : Aside0 (NewA w.heap.size A A2) := ⟨fun a' ha' => (NA.out a' ha').imp (fun q => q) (fun h => Nat.le_trans HC.out.size h)⟩; clear NA ho hb hg hat HD HC hcc hff hx0 hx2 hf0 hxb; generalize hL : (ats ++ [id]).length = L at H8 HC8 ⊢; have HLE := asd hL; clear hL))
 generalize w1.setCell ⟨g, 0, none⟩ (.slice A2 L c2) = w8 at H8 HC8 ⊢
 have NA := asd NA0.out
 obtain ⟨ga, rfl⟩ := H8.out.som (by simp)
 obtain ⟨n, hnn⟩ : ∃ n, n = ats.length := ⟨_, rfl⟩
 have LE : Aside0 ((ats ++ [id]).length = n + 1) := ⟨by rw [hnn]; simp⟩
 have SE : Aside0 ((ats ++ [id]).set n id = ats ++ [id]) := ⟨by rw [hnn]; simp⟩
 have HNN := asd hnn
 have WN : Aside0 (Go.RowKit.wrap64 (n : Int) = n) := ⟨by have := HL.out; unfold Go.RowKit.wrap64; omega⟩
 rw [← hnn] at LP UI SI
 have hx0 : w8.cell? ⟨g, 0, none⟩ = some (.slice (some ⟨ga, 0, none⟩) (n + 1) c2) := (blk_cell H8.out.blk 0).trans (by rw [LE.out]; rfl)
 clear HLE hxw hfw hnn NA0
 refine start_ (n := 12) (S := fun w' => w'.cell? ⟨g, 0, none⟩ = some (.slice (some ⟨ga, 0, none⟩) (n + 1) c2)) (ds := [11]) #[false, false, false, false, false, false, false, false, false, false, false, false] (by kernel_rfl) rfl rfl hx0 (fun hHeld => ?_); refine with_tabW hput8_tab hput8_bits (fun HT_ HW_ => ?_)
 have HSd := asd (H8.out.below (below_drew1 (Below.refl _ _)))
 have HCd := asd HC8.out.drew
 clear hx0 H8 HC8
 generalize (World.drew _) = wd at HSd HCd hHeld ⊢
 refine pure_ (i := 0) (N := (some 41)) (v := ?_) (a' := ?_) #[true, false, false, false, false, false, false, false, false, false, false, false] rfl rfl (any_of HT_.out (by kernel_rfl)) (fun _ _ _ h => h) (Or.inl ⟨by rfl, ?_⟩) ?_ ?_
 rotate_left
 ·intro w'
  go_simp
  with_reducible rfl
 rotate_left
 ·simp only [Act.put, sB, i64_w, i32_w]
  rfl
 refine pure_ (i := 1) (N := (some 42)) (v := ?_) (a' := ?_) #[true, true, false, false, false, false, false, false, false, false, false, false] rfl rfl (any_of HT_.out (by kernel_rfl)) (fun _ _ _ h => h) (Or.inl ⟨by rfl, ?_⟩) ?_ ?_
 rotate_left
 ·intro w'
  go_simp
  with_reducible rfl
 rotate_left
 ·simp only [Act.put, sB, i64_w, i32_w]
  rfl
 refine pure_ (i := 2) (N := (some 43)) (v := ?_) (a' := ?_) #[true, true, true, false, false, false, false, false, false, false, false, false] rfl rfl (any_of HT_.out (by kernel_rfl)) (fun _ _ _ h => h) (Or.inl ⟨by rfl, ?_⟩) ?_ ?_
 rotate_left
 ·intro w'
  go_simp
  with_reducible rfl
 rotate_left
 ·simp only [Act.put, sB, i64_w, i32_w]
  rfl
 refine pure_ (i := 3) (N := (some 44)) (v := ?_) (a' := ?_) #[true, true, true, true, false, false, false, false, false, false, false, false] rfl rfl (any_of HT_.out (by kernel_rfl)) (fun _ _ _ h => h) (Or.inl ⟨by rfl, ?_⟩) ?_ ?_
 rotate_left
 ·intro w'
  go_simp
  with_reducible rfl
 rotate_left
 ·simp only [Act.put, sB, i64_w, i32_w]
  rfl
 refine pure_ (i := 4) (N := (some 45)) (v := ?_) (a' := ?_) #[true, true, true, true, true, false, false, false, false, false, false, false] rfl rfl (any_of HT_.out (by kernel_rfl)) (fun _ _ _ h => h) (Or.inl ⟨by rfl, ?_⟩) ?_ ?_
 rotate_left
 ·intro w'
  go_simp
  with_reducible rfl
 rotate_left
 ·simp only [Act.put, sB, i64_w, i32_w]
  rfl
 refine pure_ (i := 5) (N := (some 46)) (v := ?_) (a' := ?_) #[true, true, true, true, true, true, false, false, false, false, false, false] rfl rfl (any_of HT_.out (by kernel_rfl)) (fun _ _ _ h => h) (Or.inl ⟨by rfl, ?_⟩) ?_ ?_
 rotate_left
 ·intro w'
  go_simp
  with_reducible rfl
 rotate_left
 ·simp only [Act.put, sB, i64_w, i32_w]
  rfl
 refine pure_ (i := 6) (N := (some 47)) (v := ?_) (a' := ?_) #[true, true, true, true, true, true, true, false, false, false, false, false] rfl rfl (any_of HT_.out (by kernel_rfl)) (fun _ _ _ h => h) (Or.inl ⟨by rfl, ?_⟩) ?_ ?_
 rotate_left
 ·intro w'
  go_simp
  with_reducible rfl
 rotate_left
 ·simp only [Act.put, sB, i64_w, i32_w]
  rfl
 refine take_ (i := 7) (N := (some 48)) (v := ?_) (a' := ?_) #[true, true, true, true, true, true, true, true, false, false, false, false] rfl rfl (take_ofW HT_.out HW_.out (by kernel_rfl)) (fun _ _ _ h => h) (Or.inl ⟨by rfl, ?_⟩) hHeld ?_ ?_
 rotate_left
 ·rintro w' s0
  go_simp
  with_reducible rfl
 rotate_left
 ·simp only [Act.put, sB, i64_w, i32_w]
  rfl
 refine pure_ (i := 8) (N := (some 49)) (v := ?_) (a' := ?_) #[true, true, true, true, true, true, true, true, true, false, false, false] rfl rfl (any_of HT_.out (by kernel_rfl)) (fun _ _ _ h => h) (Or.inl ⟨by rfl, ?_⟩) ?_ ?_
 rotate_left
 ·intro w'
  go_simp
  with_reducible rfl
 rotate_left
 ·simp only [Act.put, sB, i64_w, i32_w]
  rfl
 refine pure_ (i := 9) (N := (some 50)) (v := ?_) (a' := ?_) #[true, true, true, true, true, true, true, true, true, true, false, false] rfl rfl (any_of HT_.out (by kernel_rfl)) (fun _ _ _ h => h) (Or.inl ⟨by rfl, ?_⟩) ?_ ?_
 rotate_left
 ·intro w'
  go_simp
  with_reducible rfl
 rotate_left
 ·simp only [Act.put, sB, i64_w, i32_w]
  rfl
 rw [WN.out]
 refine pure_ (i := 10) (N := (some 51)) (v := ?_) (a' := ?_) #[true, true, true, true, true, true, true, true, true, true, true, false] rfl rfl (any_of HT_.out (by kernel_rfl)) (fun _ _ _ h => h) (Or.inl ⟨by rfl, ?_⟩) ?_ ?_
 rotate_left
 ·intro w'
  go_simp
  with_reducible rfl
 rotate_left
 ·simp only [Act.put, sB, i64_w, i32_w]
  rfl
 refine last_ (i := 11) (N := (some 52)) #[true, true, true, true, true, true, true, true, true, true, true, true] rfl rfl (one_of HT_.out (by kernel_rfl)) (by decide) (fun K hK => ?_)
 refine goes_ Try.func75 (by kernel_rfl) rfl #[.pointer (some ⟨g, 0, none⟩), .int .i64 (n : Int), .int .i64 id] (by rfl) rfl rfl (by simp [Act.eval]) ?_
 refine (set_calls HSd.out n id (by have := LE.out; omega) RI.out).mono ?_
 rintro e w9 ⟨rfl, h9, hc9⟩
 have H9 := asd h9
 have HC9 := asd (HCd.out.then_ hc9 (fun k hk => heapS_new NA.out hk))
 clear h9 hc9 HSd HCd
 rw [SE.out] at H9
 refine ⟨_, rfl, ?_⟩
 refine hK.out _ _ ?_
 clear hK K
 refine norm_ (a' := ?_) ?_ ?_
 rotate_left
 ·show Act.put _ (some 52) _ = _
  simp only [Act.put, sB, i64_w, i32_w]
  rfl
 refine done_ (done_of HT_.out (by kernel_rfl)) ?_
 try go_wp2
 have hx0 : w9.cell? ⟨g, 0, none⟩ = some (.slice (some ⟨ga, 0, none⟩) (n + 1) c2) := (blk_cell H9.out.blk 0).trans (by rw [LE.out]; rfl)
 refine start_ (n := 11) (S := fun w' => w'.cell? ⟨g, 0, none⟩ = some (.slice (some ⟨ga, 0, none⟩) (n + 1) c2)) (ds := [10]) #[false, false, false, false, false, false, false, false, false, false, false] (by kernel_rfl) rfl rfl hx0 (fun hHeld => ?_); refine with_tabW hput9_tab hput9_bits (fun HT_ HW_ => ?_)
 have HSd := asd (H9.out.below (below_drew1 (Below.refl _ _)))
 have HCd := asd HC9.out.drew
 clear hx0 H9 HC9
 generalize (World.drew _) = wd at HSd HCd hHeld ⊢
 refine pure_ (i := 0) (N := (some 53)) (v := ?_) (a' := ?_) #[true, false, false, false, false, false, false, false, false, false, false] rfl rfl (any_of HT_.out (by kernel_rfl)) (fun _ _ _ h => h) (Or.inl ⟨by rfl, ?_⟩) ?_ ?_
 rotate_left
 ·intro w'
  go_simp
  with_reducible rfl
 rotate_left
 ·simp only [Act.put, sB, i64_w, i32_w]
  rfl
 refine pure_ (i := 1) (N := (some 54)) (v := ?_) (a' := ?_) #[true, true, false, false, false, false, false, false, false, false, false] rfl rfl (any_of HT_.out (by kernel_rfl)) (fun _ _ _ h => h) (Or.inl ⟨by rfl, ?_⟩) ?_ ?_
 rotate_left
 ·intro w'
  go_simp
  with_reducible rfl
 rotate_left
 ·simp only [Act.put, sB, i64_w, i32_w]
  rfl
 refine pure_ (i := 2) (N := (some 55)) (v := ?_) (a' := ?_) #[true, true, true, false, false, false, false, false, false, false, false] rfl rfl (any_of HT_.out (by kernel_rfl)) (fun _ _ _ h => h) (Or.inl ⟨by rfl, ?_⟩) ?_ ?_
 rotate_left
 ·intro w'
  go_simp
  with_reducible rfl
 rotate_left
 ·simp only [Act.put, sB, i64_w, i32_w]
  rfl
 refine pure_ (i := 3) (N := (some 56)) (v := ?_) (a' := ?_) #[true, true, true, true, false, false, false, false, false, false, false] rfl rfl (any_of HT_.out (by kernel_rfl)) (fun _ _ _ h => h) (Or.inl ⟨by rfl, ?_⟩) ?_ ?_
 rotate_left
 ·intro w'
  go_simp
  with_reducible rfl
 rotate_left
 ·simp only [Act.put, sB, i64_w, i32_w]
  rfl
 refine pure_ (i := 4) (N := (some 57)) (v := ?_) (a' := ?_) #[true, true, true, true, true, false, false, false, false, false, false] rfl rfl (any_of HT_.out (by kernel_rfl)) (fun _ _ _ h => h) (Or.inl ⟨by rfl, ?_⟩) ?_ ?_
 rotate_left
 ·intro w'
  go_simp
  with_reducible rfl
 rotate_left
 ·simp only [Act.put, sB, i64_w, i32_w]
  rfl
 refine pure_ (i := 5) (N := (some 58)) (v := ?_) (a' := ?_) #[true, true, true, true, true, true, false, false, false, false, false] rfl rfl (any_of HT_.out (by kernel_rfl)) (fun _ _ _ h => h) (Or.inl ⟨by rfl, ?_⟩) ?_ ?_
 rotate_left
 ·intro w'
  go_simp
  with_reducible rfl
 rotate_left
 ·simp only [Act.put, sB, i64_w, i32_w]
  rfl
 refine pure_ (i := 6) (N := (some 59)) (v := ?_) (a' := ?_) #[true, true, true, true, true, true, true, false, false, false, false] rfl rfl (any_of HT_.out (by kernel_rfl)) (fun _ _ _ h => h) (Or.inl ⟨by rfl, ?_⟩) ?_ ?_
 rotate_left
 ·intro w'
  go_simp
  with_reducible rfl
 rotate_left
 ·simp only [Act.put, sB, i64_w, i32_w]
  rfl
 refine take_ (i := 7) (N := (some 60)) (v := ?_) (a' := ?_) #[true, true, true, true, true, true, true, true, false, false, false] rfl rfl (take_ofW HT_.out HW_.out (by kernel_rfl)) (fun _ _ _ h => h) (Or.inl ⟨by rfl, ?_⟩) hHeld ?_ ?_
 rotate_left
 ·rintro w' s0
  go_simp
  with_reducible rfl
 rotate_left
 ·simp only [Act.put, sB, i64_w, i32_w]
  rfl
 refine pure_ (i := 8) (N := (some 61)) (v := ?_) (a' := ?_) #[true, true, true, true, true, true, true, true, true, false, false] rfl rfl (any_of HT_.out (by kernel_rfl)) (fun _ _ _ h => h) (Or.inl ⟨by rfl, ?_⟩) ?_ ?_
 rotate_left
 ·intro w'
  go_simp
  with_reducible rfl
 rotate_left
 ·simp only [Act.put, sB, i64_w, i32_w]
  rfl
 refine pure_ (i := 9) (N := (some 62)) (v := ?_) (a' := ?_) #[true, true, true, true, true, true, true, true, true, true, false] rfl rfl (any_of HT_.out (by kernel_rfl)) (fun _ _ _ h => h) (Or.inl ⟨by rfl, ?_⟩) ?_ ?_
 rotate_left
 ·intro w'
  go_simp
  with_reducible rfl
 rotate_left
 ·simp only [Act.put, sB, i64_w, i32_w]
  rfl
 rw [WN.out]
 refine last_ (i := 10) (N := (some 63)) #[true, true, true, true, true, true, true, true, true, true, true] rfl rfl (one_of HT_.out (by kernel_rfl)) (by decide) (fun K hK => ?_)
 refine goes_ Try.func76 (by kernel_rfl) rfl #[.pointer (some ⟨g, 0, none⟩), .int .i64 (n : Int)] (by rfl) rfl rfl (by simp [Act.eval]) ?_
 refine (up_calls HSd.out LP.out n (by have := LE.out; omega) (by have := LE.out; have := HL.out; have := HNN.out; omega) UI.out).mono ?_
 rintro e w11 ⟨rfl, hr, hc⟩
 have HR11 := asd hr
 have HC11 := asd (HCd.out.then_ hc (fun k hk => heapS_new NA.out hk))
 clear hr hc HSd HCd
 refine ⟨_, rfl, ?_⟩
 refine hK.out _ _ ?_
 clear hK K
 refine norm_ (a' := ?_) ?_ ?_
 rotate_left
 ·show Act.put _ (some 63) _ = _
  simp only [Act.put, sB, i64_w, i32_w]
  rfl
 refine done_ (done_of HT_.out (by kernel_rfl)) ?_
 try go_wp2
 go_ret
 obtain ⟨a', p', h1, h2, h3, h4, h5, h6⟩ := HR11.out
 have hhe : HeapP (dus.set id.toNat due) a' := by
  rcases h6 with h6 | ⟨e1, e2, h6⟩
  ·exact h6
  ·rw [e1]; exact down_last h6 (by have := LE.out; omega)
 exact ⟨rfl, ⟨some ⟨ga, 0, none⟩, c2, a', p', ⟨h1, h2, hhe⟩, SI.out.trans (by simp) h3, by rw [h5]; simp, by have := LE.out; have := HNN.out; omega, NA.out⟩, HC11.out⟩
end
end Go.Proofs.Ytjekfipaadbbbaa.Fn
namespace Go.Proofs.Ytjekfipaadbbbaa.Fn
open Go.RowKit Go.Proofs.YtjekfipaadbbbaaW.PrintWords Go.Proofs.YtjekfipaadbbbaaW.PrintLast Go.Proofs.YtjekfipaadbbbaaW.PrintMore
set_option linter.unusedVariables false
set_option linter.unusedSimpArgs false
def hchg7T : Bool × List (List Nat × List Nat) := (true, [([], []), ([0], [0]), ([1], [1]), ([], []), ([3], [3]), ([4], [4]), ([5], [5]), ([6], [6]), ([], []), ([7, 8], [7, 8]), ([9], [9]), ([2, 10], [2, 10])])
def hchg7B : List Nat := [0, 1, 3, 0, 8, 24, 56, 120, 0, 504, 1016, 2047]
theorem hchg7_tab : rtab .any (opsOf Try.f31 7) = hchg7T := by kernel_rfl
theorem hchg7_bits : waitsOk hchg7T.2 hchg7B = true := by kernel_rfl
def hchg8T : Bool × List (List Nat × List Nat) := (true, [([], []), ([0], [0]), ([1], [1]), ([], []), ([3], [3]), ([4], [4]), ([5], [5]), ([6], [6]), ([], []), ([7, 8], [7, 8]), ([9], [9]), ([2, 10], [2, 10])])
def hchg8B : List Nat := [0, 1, 3, 0, 8, 24, 56, 120, 0, 504, 1016, 2047]
theorem hchg8_tab : rtab .any (opsOf Try.f31 8) = hchg8T := by kernel_rfl
theorem hchg8_bits : waitsOk hchg8T.2 hchg8B = true := by kernel_rfl
section
variable {w w1 : World} {base g ca gp cp gd cd : Nat} {A : Option Addr} {ats pls dus : List Int}
theorem Linked.far (h : Linked ats pls dus) {id : Int} {k j : Nat} (hk : k < ats.length) (hj : j < ats.length) (e : ats.getD k 0 = id) (hne : j ≠ k) : (ats.getD j 0).toNat ≠ id.toNat := fun q => hne (h.inj hj hk (by have := h.rng j hj; have := h.rng k hk; omega))
theorem Linked.placed (h : Linked ats pls dus) {id : Int} (h0 : 0 ≤ id) (h1 : id < pls.length) (hn : pls.getD id.toNat 0 ≠ -1) : ∃ k : Nat, k < ats.length ∧ pls.getD id.toNat 0 = (k : Int) ∧ ats.getD k 0 = id := by
 rcases h.bwd id.toNat (by omega) with hb | ⟨k, hk, hp, ha⟩
 ·exact absurd hb hn
 ·exact ⟨k, hk, hp, by omega⟩
theorem Linked.change_up (h : Linked ats pls dus) (P : HeapP dus ats) {id x : Int} {k : Nat} (hk : k < ats.length) (e : ats.getD k 0 = id) : UpInv false (dus.set id.toNat x) ats k := by
 refine ⟨fun j hj0 hj hne hp => ?_, fun h0 j hj0 hj hp => ?_⟩
 ·have hpl := parN_lt hj0
  unfold leD
  rw [lessB_far (h.far hk hj e hne) (h.far hk (by omega) e (hp.resolve_left (by decide)))]
  exact P j hj0 hj
 ·have hpl := parN_lt hj0
  have hpk := parN_lt h0
  unfold leD
  rw [lessB_far (h.far hk hj e (by omega)) (h.far hk (by omega) e (by omega))]
  have h3 := P j hj0 hj
  rw [hp] at h3
  exact le_trans' (P k h0 hk) h3
set_option maxHeartbeats 8000000 in
set_option maxRecDepth 100000 in
theorem change_calls (h : HOK w base g A ca ats gp cp pls gd cd dus) (id due : Int) (h0 : 0 ≤ id) (h1 : id < pls.length) (hn : pls.getD id.toNat 0 ≠ -1) (hl : ats.length ≤ 5000) :
  Calls Try.prog 31 #[.pointer (some ⟨g, 0, none⟩), .int .i64 id, .int .i64 due] w fun e w' => e = .returned (.int .i64 0) ∧ (∃ ats' pls', HOK w' base g A ca ats' gp cp pls' gd cd (dus.set id.toNat due) ∧ SameIn pls pls' ∧ pls'.length = pls.length ∧ ats'.length = ats.length) ∧ Chg (heapS g A gp gd) w w' := by
 obtain ⟨k, hk, hpk, hak⟩ := h.li.placed h0 h1 hn
 obtain ⟨ga, rfl⟩ := h.is.som (by omega)
 have hlen := h.li.len
 have hi1 : inB pls id = true := decide_eq_true ⟨h0, h1, hn⟩
 have hi2 : inC pls id = 0 := if_pos ⟨h0, h1⟩
 have NC := asd (in_calls h.is id)
 rw [hi1, hi2] at NC
 have hx2 := (blk_cell h.is.blk 2).trans rfl
 have hcd := h.is.due_ id h0 (by omega)
 have hff := Kd.R_elem_frozen h.is.rd id.toNat (by omega)
 have p0 : (0 ≤ id) = True := eq_true h0
 have p1 : (id < (dus.length : Int)) = True := eq_true (by omega)
 have RI := asd (And.intro h0 h1)
 have HD := asd (h.is.putD id due)
 have HC := asd ((Chg.refl (heapS g (some ⟨ga, 0, none⟩) gp gd) w).set_ (p := ⟨gd, id.toNat, none⟩) (.inl (.inr (.inr (.inr rfl)))) (.int .i64 due))
 have LP := asd (h.li.set_due id.toNat due)
 have UI := asd (h.li.change_up h.he (x := due) hk hak)
 have KL := asd (And.intro hk hl)
 have PK := asd hpk
 have PN := asd hn
 clear h hl hi1 hi2 hlen h0 h1 hn hk hpk hak
 go_enter Try.func31, Try.ntmps31
 go_wp2_with (first | (go_at_call 74; refine NC.out.mono ?_; rintro e w1 ⟨rfl, rfl⟩))
 have H8 := asd HD.out
 have HC8 := asd HC.out
 clear HD HC hcd hff hx2 p1
 generalize w.setCell ⟨gd, id.toNat, none⟩ (.int .i64 due) = w8 at H8 HC8 ⊢
 have p1 : (id < (pls.length : Int)) = True := eq_true RI.out.2
 have hx1 := (blk_cell H8.out.blk 1).trans rfl
 have hcc := H8.out.pl_ id RI.out.1 RI.out.2
 rw [PK.out] at hcc
 refine start_ (n := 12) (S := fun w' => w'.cell? ⟨g, 1, none⟩ = some (.slice (some ⟨gp, 0, none⟩) pls.length cp) ∧ w'.cell? ⟨gp, id.toNat, none⟩ = some (.int .i64 (k : Int))) (ds := [11]) #[false, false, false, false, false, false, false, false, false, false, false, false] (by kernel_rfl) rfl rfl ⟨hx1, hcc⟩ (fun hHeld => ?_); refine with_tabW hchg7_tab hchg7_bits (fun HT_ HW_ => ?_)
 have HSd := asd (H8.out.below (below_drew1 (Below.refl _ _)))
 have HCd := asd HC8.out.drew
 clear hx1 hcc H8 HC8
 generalize (World.drew _) = wd at HSd HCd hHeld ⊢
 refine pure_ (i := 0) (N := (some 30)) (v := ?_) (a' := ?_) #[true, false, false, false, false, false, false, false, false, false, false, false] rfl rfl (any_of HT_.out (by kernel_rfl)) (fun _ _ _ h => h) (Or.inl ⟨by rfl, ?_⟩) ?_ ?_
 rotate_left
 ·intro w'
  go_simp
  with_reducible rfl
 rotate_left
 ·simp only [Act.put, sB, i64_w, i32_w]
  rfl
 refine pure_ (i := 1) (N := (some 31)) (v := ?_) (a' := ?_) #[true, true, false, false, false, false, false, false, false, false, false, false] rfl rfl (any_of HT_.out (by kernel_rfl)) (fun _ _ _ h => h) (Or.inl ⟨by rfl, ?_⟩) ?_ ?_
 rotate_left
 ·intro w'
  go_simp
  with_reducible rfl
 rotate_left
 ·simp only [Act.put, sB, i64_w, i32_w]
  rfl
 refine pure_ (i := 2) (N := (some 32)) (v := ?_) (a' := ?_) #[true, true, true, false, false, false, false, false, false, false, false, false] rfl rfl (any_of HT_.out (by kernel_rfl)) (fun _ _ _ h => h) (Or.inl ⟨by rfl, ?_⟩) ?_ ?_
 rotate_left
 ·intro w'
  go_simp
  with_reducible rfl
 rotate_left
 ·simp only [Act.put, sB, i64_w, i32_w]
  rfl
 refine pure_ (i := 3) (N := (some 33)) (v := ?_) (a' := ?_) #[true, true, true, true, false, false, false, false, false, false, false, false] rfl rfl (any_of HT_.out (by kernel_rfl)) (fun _ _ _ h => h) (Or.inl ⟨by rfl, ?_⟩) ?_ ?_
 rotate_left
 ·intro w'
  go_simp
  with_reducible rfl
 rotate_left
 ·simp only [Act.put, sB, i64_w, i32_w]
  rfl
 refine pure_ (i := 4) (N := (some 34)) (v := ?_) (a' := ?_) #[true, true, true, true, true, false, false, false, false, false, false, false] rfl rfl (any_of HT_.out (by kernel_rfl)) (fun _ _ _ h => h) (Or.inl ⟨by rfl, ?_⟩) ?_ ?_
 rotate_left
 ·intro w'
  go_simp
  with_reducible rfl
 rotate_left
 ·simp only [Act.put, sB, i64_w, i32_w]
  rfl
 refine pure_ (i := 5) (N := (some 35)) (v := ?_) (a' := ?_) #[true, true, true, true, true, true, false, false, false, false, false, false] rfl rfl (any_of HT_.out (by kernel_rfl)) (fun _ _ _ h => h) (Or.inl ⟨by rfl, ?_⟩) ?_ ?_
 rotate_left
 ·intro w'
  go_simp
  with_reducible rfl
 rotate_left
 ·simp only [Act.put, sB, i64_w, i32_w]
  rfl
 refine pure_ (i := 6) (N := (some 36)) (v := ?_) (a' := ?_) #[true, true, true, true, true, true, true, false, false, false, false, false] rfl rfl (any_of HT_.out (by kernel_rfl)) (fun _ _ _ h => h) (Or.inl ⟨by rfl, ?_⟩) ?_ ?_
 rotate_left
 ·intro w'
  go_simp
  with_reducible rfl
 rotate_left
 ·simp only [Act.put, sB, i64_w, i32_w]
  rfl
 refine take_ (i := 7) (N := (some 37)) (v := ?_) (a' := ?_) #[true, true, true, true, true, true, true, true, false, false, false, false] rfl rfl (take_ofW HT_.out HW_.out (by kernel_rfl)) (fun _ _ _ h => h) (Or.inl ⟨by rfl, ?_⟩) hHeld ?_ ?_
 rotate_left
 ·rintro w' ⟨s0, s1⟩
  go_simp
  with_reducible rfl
 rotate_left
 ·simp only [Act.put, sB, i64_w, i32_w]
  rfl
 refine pure_ (i := 8) (N := (some 38)) (v := ?_) (a' := ?_) #[true, true, true, true, true, true, true, true, true, false, false, false] rfl rfl (any_of HT_.out (by kernel_rfl)) (fun _ _ _ h => h) (Or.inl ⟨by rfl, ?_⟩) ?_ ?_
 rotate_left
 ·intro w'
  go_simp
  with_reducible rfl
 rotate_left
 ·simp only [Act.put, sB, i64_w, i32_w]
  rfl
 refine pure_ (i := 9) (N := (some 39)) (v := ?_) (a' := ?_) #[true, true, true, true, true, true, true, true, true, true, false, false] rfl rfl (any_of HT_.out (by kernel_rfl)) (fun _ _ _ h => h) (Or.inl ⟨by rfl, ?_⟩) ?_ ?_
 rotate_left
 ·intro w'
  go_simp
  with_reducible rfl
 rotate_left
 ·simp only [Act.put, sB, i64_w, i32_w]
  rfl
 refine take_ (i := 10) (N := (some 40)) (v := ?_) (a' := ?_) #[true, true, true, true, true, true, true, true, true, true, true, false] rfl rfl (take_ofW HT_.out HW_.out (by kernel_rfl)) (fun _ _ _ h => h) (Or.inl ⟨by rfl, ?_⟩) hHeld ?_ ?_
 rotate_left
 ·rintro w' ⟨s0, s1⟩
  go_simp
  with_reducible rfl
 rotate_left
 ·simp only [Act.put, sB, i64_w, i32_w]
  rfl
 refine last_ (i := 11) (N := (some 41)) #[true, true, true, true, true, true, true, true, true, true, true, true] rfl rfl (one_of HT_.out (by kernel_rfl)) (by decide) (fun K hK => ?_)
 refine goes_ Try.func76 (by kernel_rfl) rfl #[.pointer (some ⟨g, 0, none⟩), .int .i64 (k : Int)] (by rfl) rfl rfl (by simp [Act.eval]) ?_
 refine (up_calls HSd.out LP.out k KL.out.1 KL.out.2 UI.out).mono ?_
 rintro e w9 ⟨rfl, hr, hc⟩
 obtain ⟨a2, p2, h9, hl9, hs9, hla, hlp, hor⟩ := hr
 have H9 := asd h9
 have HC9 := asd (HCd.out.trans hc)
 have L9 := asd hl9
 have S9 := asd hs9
 have N9 := asd (And.intro hla hlp)
 have O9 := asd hor
 clear hc HSd HCd h9 hl9 hs9 hla hlp hor
 refine ⟨_, rfl, ?_⟩
 refine hK.out _ _ ?_
 clear hK K
 refine norm_ (a' := ?_) ?_ ?_
 rotate_left
 ·show Act.put _ (some 41) _ = _
  simp only [Act.put, sB, i64_w, i32_w]
  rfl
 refine done_ (done_of HT_.out (by kernel_rfl)) ?_
 try go_wp2
 obtain ⟨k2, hk2, hpk2, _⟩ := L9.out.placed RI.out.1 (by have := N9.out.2; have := RI.out.2; omega) (fun q => PN.out ((S9.out id.toNat (by have := RI.out; omega)).1 q))
 have D9 : Aside0 (DownInv (dus.set id.toNat due) a2 k2) := ⟨by
  rcases O9.out with hh | ⟨e1, e2, hh⟩
  ·exact heap_down hh k2 hk2
  ·rw [e2, PK.out] at hpk2
   have e3 : k2 = k := by omega
   rw [e1, e3]; exact hh⟩
 have KL2 := asd hk2
 clear p1
 have p1 : (id < (p2.length : Int)) = True := eq_true (by have := N9.out.2; have := RI.out.2; omega)
 have hx1 := (blk_cell H9.out.blk 1).trans rfl
 have hcc := H9.out.pl_ id RI.out.1 (by have := N9.out.2; have := RI.out.2; omega)
 rw [hpk2] at hcc
 clear hk2 hpk2 O9
 refine start_ (n := 12) (S := fun w' => w'.cell? ⟨g, 1, none⟩ = some (.slice (some ⟨gp, 0, none⟩) p2.length cp) ∧ w'.cell? ⟨gp, id.toNat, none⟩ = some (.int .i64 (k2 : Int))) (ds := [11]) #[false, false, false, false, false, false, false, false, false, false, false, false] (by kernel_rfl) rfl rfl ⟨hx1, hcc⟩ (fun hHeld => ?_); refine with_tabW hchg8_tab hchg8_bits (fun HT_ HW_ => ?_)
 have HSd := asd (H9.out.below (below_drew1 (Below.refl _ _)))
 have HCd := asd HC9.out.drew
 clear hx1 hcc H9 HC9
 generalize (World.drew _) = wd at HSd HCd hHeld ⊢
 refine pure_ (i := 0) (N := (some 42)) (v := ?_) (a' := ?_) #[true, false, false, false, false, false, false, false, false, false, false, false] rfl rfl (any_of HT_.out (by kernel_rfl)) (fun _ _ _ h => h) (Or.inl ⟨by rfl, ?_⟩) ?_ ?_
 rotate_left
 ·intro w'
  go_simp
  with_reducible rfl
 rotate_left
 ·simp only [Act.put, sB, i64_w, i32_w]
  rfl
 refine pure_ (i := 1) (N := (some 43)) (v := ?_) (a' := ?_) #[true, true, false, false, false, false, false, false, false, false, false, false] rfl rfl (any_of HT_.out (by kernel_rfl)) (fun _ _ _ h => h) (Or.inl ⟨by rfl, ?_⟩) ?_ ?_
 rotate_left
 ·intro w'
  go_simp
  with_reducible rfl
 rotate_left
 ·simp only [Act.put, sB, i64_w, i32_w]
  rfl
 refine pure_ (i := 2) (N := (some 44)) (v := ?_) (a' := ?_) #[true, true, true, false, false, false, false, false, false, false, false, false] rfl rfl (any_of HT_.out (by kernel_rfl)) (fun _ _ _ h => h) (Or.inl ⟨by rfl, ?_⟩) ?_ ?_
 rotate_left
 ·intro w'
  go_simp
  with_reducible rfl
 rotate_left
 ·simp only [Act.put, sB, i64_w, i32_w]
  rfl
 refine pure_ (i := 3) (N := (some 45)) (v := ?_) (a' := ?_) #[true, true, true, true, false, false, false, false, false, false, false, false] rfl rfl (any_of HT_.out (by kernel_rfl)) (fun _ _ _ h => h) (Or.inl ⟨by rfl, ?_⟩) ?_ ?_
 rotate_left
 ·intro w'
  go_simp
  with_reducible rfl
 rotate_left
 ·simp only [Act.put, sB, i64_w, i32_w]
  rfl
 refine pure_ (i := 4) (N := (some 46)) (v := ?_) (a' := ?_) #[true, true, true, true, true, false, false, false, false, false, false, false] rfl rfl (any_of HT_.out (by kernel_rfl)) (fun _ _ _ h => h) (Or.inl ⟨by rfl, ?_⟩) ?_ ?_
 rotate_left
 ·intro w'
  go_simp
  with_reducible rfl
 rotate_left
 ·simp only [Act.put, sB, i64_w, i32_w]
  rfl
 refine pure_ (i := 5) (N := (some 47)) (v := ?_) (a' := ?_) #[true, true, true, true, true, true, false, false, false, false, false, false] rfl rfl (any_of HT_.out (by kernel_rfl)) (fun _ _ _ h => h) (Or.inl ⟨by rfl, ?_⟩) ?_ ?_
 rotate_left
 ·intro w'
  go_simp
  with_reducible rfl
 rotate_left
 ·simp only [Act.put, sB, i64_w, i32_w]
  rfl
 refine pure_ (i := 6) (N := (some 48)) (v := ?_) (a' := ?_) #[true, true, true, true, true, true, true, false, false, false, false, false] rfl rfl (any_of HT_.out (by kernel_rfl)) (fun _ _ _ h => h) (Or.inl ⟨by rfl, ?_⟩) ?_ ?_
 rotate_left
 ·intro w'
  go_simp
  with_reducible rfl
 rotate_left
 ·simp only [Act.put, sB, i64_w, i32_w]
  rfl
 refine take_ (i := 7) (N := (some 49)) (v := ?_) (a' := ?_) #[true, true, true, true, true, true, true, true, false, false, false, false] rfl rfl (take_ofW HT_.out HW_.out (by kernel_rfl)) (fun _ _ _ h => h) (Or.inl ⟨by rfl, ?_⟩) hHeld ?_ ?_
 rotate_left
 ·rintro w' ⟨s0, s1⟩
  go_simp
  with_reducible rfl
 rotate_left
 ·simp only [Act.put, sB, i64_w, i32_w]
  rfl
 refine pure_ (i := 8) (N := (some 50)) (v := ?_) (a' := ?_) #[true, true, true, true, true, true, true, true, true, false, false, false] rfl rfl (any_of HT_.out (by kernel_rfl)) (fun _ _ _ h => h) (Or.inl ⟨by rfl, ?_⟩) ?_ ?_
 rotate_left
 ·intro w'
  go_simp
  with_reducible rfl
 rotate_left
 ·simp only [Act.put, sB, i64_w, i32_w]
  rfl
 refine pure_ (i := 9) (N := (some 51)) (v := ?_) (a' := ?_) #[true, true, true, true, true, true, true, true, true, true, false, false] rfl rfl (any_of HT_.out (by kernel_rfl)) (fun _ _ _ h => h) (Or.inl ⟨by rfl, ?_⟩) ?_ ?_
 rotate_left
 ·intro w'
  go_simp
  with_reducible rfl
 rotate_left
 ·simp only [Act.put, sB, i64_w, i32_w]
  rfl
 refine take_ (i := 10) (N := (some 52)) (v := ?_) (a' := ?_) #[true, true, true, true, true, true, true, true, true, true, true, false] rfl rfl (take_ofW HT_.out HW_.out (by kernel_rfl)) (fun _ _ _ h => h) (Or.inl ⟨by rfl, ?_⟩) hHeld ?_ ?_
 rotate_left
 ·rintro w' ⟨s0, s1⟩
  go_simp
  with_reducible rfl
 rotate_left
 ·simp only [Act.put, sB, i64_w, i32_w]
  rfl
 refine last_ (i := 11) (N := (some 53)) #[true, true, true, true, true, true, true, true, true, true, true, true] rfl rfl (one_of HT_.out (by kernel_rfl)) (by decide) (fun K hK => ?_)
 refine goes_ Try.func77 (by kernel_rfl) rfl #[.pointer (some ⟨g, 0, none⟩), .int .i64 (k2 : Int)] (by rfl) rfl rfl (by simp [Act.eval]) ?_
 refine (down_calls HSd.out L9.out k2 KL2.out (by have := N9.out.1; have := KL.out.2; omega) D9.out).mono ?_
 rintro e w11 ⟨rfl, hr, hc⟩
 have HR11 := asd hr
 have HC11 := asd (HCd.out.trans hc)
 clear hr hc HSd HCd
 refine ⟨_, rfl, ?_⟩
 refine hK.out _ _ ?_
 clear hK K
 refine norm_ (a' := ?_) ?_ ?_
 rotate_left
 ·show Act.put _ (some 53) _ = _
  simp only [Act.put, sB, i64_w, i32_w]
  rfl
 refine done_ (done_of HT_.out (by kernel_rfl)) ?_
 try go_wp2
 go_ret
 obtain ⟨a', p', h1, h2, h3, h4, h5, h6⟩ := HR11.out
 exact ⟨rfl, ⟨a', p', ⟨h1, h2, h6⟩, S9.out.trans N9.out.2 h3, by rw [h5]; exact N9.out.2, by rw [h4]; exact N9.out.1⟩, HC11.out⟩
end
end Go.Proofs.Ytjekfipaadbbbaa.Fn
namespace Go.Proofs.Ytjekfipaadbbbaa.Fn
open Go.RowKit Go.Proofs.YtjekfipaadbbbaaW.PrintWords Go.Proofs.YtjekfipaadbbbaaW.PrintLast Go.Proofs.YtjekfipaadbbbaaW.PrintMore
set_option linter.unusedVariables false
set_option linter.unusedSimpArgs false
def hrem4T : Bool × List (List Nat × List Nat) := (true, [([], []), ([0], [0]), ([1], [1]), ([2], [2]), ([3], [3]), ([], []), ([4, 5], [4, 5]), ([6], [6]), ([], []), ([8], [8]), ([9], [9]), ([10], [10]), ([11], [11]), ([12], [12]), ([13], [13]), ([7, 0, 1, 2, 3, 4, 5, 6, 7], [7]), ([14, 15, 0, 1, 2, 3, 4, 5, 6, 7, 8, 9, 10, 11, 12, 13, 14, 15], [14])])
def hrem4B : List Nat := [0, 1, 3, 7, 15, 0, 63, 127, 0, 256, 768, 1792, 3840, 7936, 16128, 255, 65535]
theorem hrem4_tab : rtab .any (opsOf Try.f59 4) = hrem4T := by kernel_rfl
theorem hrem4_bits : waitsOk hrem4T.2 hrem4B = true := by kernel_rfl
def hfst4T : Bool × List (List Nat × List Nat) := (true, [([], []), ([], []), ([1], [1]), ([2], [2]), ([3], [3]), ([4], [4]), ([], []), ([5, 6], [5, 6]), ([7], [7]), ([0, 0], [0]), ([8, 9, 0, 1, 2, 3, 4, 5, 6, 7, 8, 9], [8]), ([10, 0, 1, 2, 3, 4, 5, 6, 7, 8, 9, 10], [])])
def hfst4B : List Nat := [0, 0, 2, 6, 14, 30, 0, 126, 254, 1, 1023, 2047]
theorem hfst4_tab : rtab .any (opsOf Try.f62 4) = hfst4T := by kernel_rfl
theorem hfst4_bits : waitsOk hfst4T.2 hfst4B = true := by kernel_rfl
theorem getD_take {α : Type} (l : List α) (m j : Nat) (z : α) (h : j < m) : (l.take m).getD j z = l.getD j z := by
 simp [List.getD_eq_getElem?_getD, List.getElem?_take, h]
section
variable {w w1 : World} {base g ca gp cp gd cd : Nat} {A : Option Addr} {ats pls dus : List Int}
theorem IsHeap.cut (h : IsHeap w base g A ca ats gp cp pls gd cd dus) (m : Nat) (hm : m ≤ ats.length) : IsHeap (w.setCell ⟨g, 0, none⟩ (.slice A m ca)) base g A ca (ats.take m) gp cp pls gd cd dus := by
 have e : (ats.take m).length = m := by rw [List.length_take]; omega
 refine ⟨?_, h.lo, h.n1, h.n2, h.n3, ?_, ?_, ?_⟩
 ·rw [e]; exact blk_put h.blk 0 _ rfl
 ·rw [e]; exact Kd.R_far (Kd.R_take h.ra hm) (p := ⟨g, 0, none⟩) (fun k hk e => hk.1 e) _
 ·exact Kd.R_far h.rp (p := ⟨g, 0, none⟩) (fun k hk e => h.n1 (by rw [← hk]; exact e)) _
 ·exact Kd.R_far h.rd (p := ⟨g, 0, none⟩) (fun k hk e => h.n2 (by rw [← hk]; exact e)) _
theorem Linked.dropLast (h : Linked ats pls dus) {m : Nat} (hm : ats.length = m + 1) {id : Int} (e : ats.getD m 0 = id) : Linked (ats.take m) (pls.set id.toNat (-1)) dus := by
 have hL : (ats.take m).length = m := by rw [List.length_take]; omega
 refine ⟨by rw [List.length_set]; exact h.len, ?_, ?_, ?_⟩
 ·intro i hi
  rw [hL] at hi
  rw [getD_take _ _ _ _ hi]
  exact h.rng i (by omega)
 ·intro i hi
  rw [hL] at hi
  rw [getD_take _ _ _ _ hi, getD_set, if_neg (fun q => h.far (by omega) (by omega) e (show i ≠ m by omega) q.1.symm)]
  exact h.fwd i (by omega)
 ·intro k hk
  rw [List.length_set] at hk
  rw [getD_set, hL]
  by_cases he : id.toNat = k ∧ id.toNat < pls.length
  ·rw [if_pos he]; exact .inl rfl
  ·rw [if_neg he]
   rcases h.bwd k hk with hb | ⟨j, hj, hp, ha⟩
   ·exact .inl hb
   ·by_cases hjm : j = m
    ·subst hjm
     exact absurd ⟨by omega, by omega⟩ he
    ·exact .inr ⟨j, by omega, hp, by rw [getD_take _ _ _ _ (by omega)]; exact ha⟩
theorem rem_get {k m j : Nat} (hm : ats.length = m + 1) (hk : k < ats.length) (hj : j < m) (hne : j ≠ k) : ((swapA ats k m).take m).getD j 0 = ats.getD j 0 := by
 rw [getD_take _ _ _ _ hj, swapA_get _ _ _ _ hk (by omega), if_neg (by omega), if_neg hne]
theorem rem_up (P : HeapP dus ats) {k m : Nat} (hm : ats.length = m + 1) (hk : k < m) : UpInv false dus ((swapA ats k m).take m) k := by
 have hL : ((swapA ats k m).take m).length = m := by rw [List.length_take, swapA_length]; omega
 refine ⟨fun j hj0 hj hne hp => ?_, fun h0 j hj0 hj hp => ?_⟩
 ·have hpl := parN_lt hj0
  rw [hL] at hj
  rw [rem_get hm (by omega) hj hne, rem_get hm (by omega) (by omega) (hp.resolve_left (by decide))]
  exact P j hj0 (by omega)
 ·have hpl := parN_lt hj0
  have hpk := parN_lt h0
  rw [hL] at hj
  rw [rem_get hm (by omega) hj (by omega), rem_get hm (by omega) (by omega) (by omega)]
  have h3 := P j hj0 (by omega)
  rw [hp] at h3
  exact le_trans' (P k h0 (by omega)) h3
theorem rem_last (P : HeapP dus ats) {k m : Nat} (hm : ats.length = m + 1) (hk : k = m) : HeapP dus ((swapA ats k m).take m) := by
 have hL : ((swapA ats k m).take m).length = m := by rw [List.length_take, swapA_length]; omega
 intro j hj0 hj
 have hpl := parN_lt hj0
 rw [hL] at hj
 rw [rem_get hm (by omega) hj (by omega), rem_get hm (by omega) (by omega) (by omega)]
 exact P j hj0 (by omega)
theorem SameIn.set {p q : List Int} (h : SameIn p q) (hl : q.length = p.length) (i : Nat) (x : Int) : SameIn (p.set i x) (q.set i x) := fun k hk => by
 rw [List.length_set] at hk
 rw [getD_set, getD_set, hl]
 by_cases e : i = k ∧ i < p.length
 ·rw [if_pos e, if_pos e]
 ·rw [if_neg e, if_neg e]; exact h k hk
set_option maxHeartbeats 8000000 in
set_option maxRecDepth 100000 in
theorem remove_calls (h : HOK w base g A ca ats gp cp pls gd cd dus) (id : Int) (h0 : 0 ≤ id) (h1 : id < pls.length) (hn : pls.getD id.toNat 0 ≠ -1) (hl : ats.length ≤ 5000) :
  Calls Try.prog 59 #[.pointer (some ⟨g, 0, none⟩), .int .i64 id] w fun e w' => e = .returned (.bool true) ∧ (∃ ats' pls', HOK w' base g A ca ats' gp cp pls' gd cd dus ∧ SameIn (pls.set id.toNat (-1)) pls' ∧ pls'.length = pls.length ∧ ats'.length + 1 = ats.length) ∧ Chg (heapS g A gp gd) w w' := by
 obtain ⟨k, hk, hpk, hak⟩ := h.li.placed h0 h1 hn
 obtain ⟨ga, rfl⟩ := h.is.som (by omega)
 obtain ⟨m, hm⟩ : ∃ m, ats.length = m + 1 := ⟨ats.length - 1, by omega⟩
 have hlen := h.li.len
 have hi1 : inB pls id = true := decide_eq_true ⟨h0, h1, hn⟩
 have hi2 : inC pls id = 0 := if_pos ⟨h0, h1⟩
 have NC := asd (in_calls h.is id)
 rw [hi1, hi2] at NC
 have hx0 : w.cell? ⟨g, 0, none⟩ = some (.slice (some ⟨ga, 0, none⟩) (m + 1) ca) := (blk_cell h.is.blk 0).trans (by rw [hm]; rfl)
 have hx1 := (blk_cell h.is.blk 1).trans rfl
 have hcc := h.is.pl_ id h0 h1
 rw [hpk] at hcc
 have p0 : (0 ≤ id) = True := eq_true h0
 have p1 : (id < (pls.length : Int)) = True := eq_true h1
 have CAP := asd (show m ≤ ca by obtain ⟨A0, c0, e, hc, _⟩ := Kd.R_reads h.is.ra; injection e with _ _ e3; subst e3; omega)
 have RI := asd (And.intro h0 h1)
 have HS := asd h.is
 have HLI := asd h.li
 have HHE := asd h.he
 have KL := asd (And.intro hk hl)
 have HMM := asd hm
 have AK := asd hak
 have m99 : (m : Int) ≤ 5000 := by omega
 have WN : Aside0 (Go.RowKit.wrap64 (m : Int) = m) := ⟨by unfold Go.RowKit.wrap64; omega⟩
 clear h hl hi1 hi2 hlen h0 h1 hn hk hpk hak hm
 go_enter Try.func59, Try.ntmps59
 go_wp2_with (first | (go_at_call 74; refine NC.out.mono ?_; rintro e w1 ⟨rfl, rfl⟩))
 refine start_ (n := 17) (S := fun w' => w'.cell? ⟨g, 0, none⟩ = some (.slice (some ⟨ga, 0, none⟩) (m + 1) ca) ∧ w'.cell? ⟨g, 1, none⟩ = some (.slice (some ⟨gp, 0, none⟩) pls.length cp) ∧ w'.cell? ⟨gp, id.toNat, none⟩ = some (.int .i64 (k : Int))) (ds := []) #[false, false, false, false, false, false, false, false, false, false, false, false, false, false, false, false, false] (by kernel_rfl) rfl rfl ⟨hx0, hx1, hcc⟩ (fun hHeld => ?_); refine with_tabW hrem4_tab hrem4_bits (fun HT_ HW_ => ?_)
 have H2 := asd (HS.out.below (below_drew1 (Below.refl _ _)))
 have HC2 := asd ((Chg.refl (heapS g (some ⟨ga, 0, none⟩) gp gd) w).drew)
 clear HS hx0 hx1 hcc
 generalize (World.drew _) = w2 at H2 HC2 hHeld ⊢
 refine pure_ (i := 0) (N := (some 17)) (v := ?_) (a' := ?_) #[true, false, false, false, false, false, false, false, false, false, false, false, false, false, false, false, false] rfl rfl (any_of HT_.out (by kernel_rfl)) (fun _ _ _ h => h) (Or.inl ⟨by rfl, ?_⟩) ?_ ?_
 rotate_left
 ·intro w'
  go_simp
  with_reducible rfl
 rotate_left
 ·simp only [Act.put, sB, i64_w, i32_w]
  rfl
 refine pure_ (i := 1) (N := (some 18)) (v := ?_) (a' := ?_) #[true, true, false, false, false, false, false, false, false, false, false, false, false, false, false, false, false] rfl rfl (any_of HT_.out (by kernel_rfl)) (fun _ _ _ h => h) (Or.inl ⟨by rfl, ?_⟩) ?_ ?_
 rotate_left
 ·intro w'
  go_simp
  with_reducible rfl
 rotate_left
 ·simp only [Act.put, sB, i64_w, i32_w]
  rfl
 refine pure_ (i := 2) (N := (some 19)) (v := ?_) (a' := ?_) #[true, true, true, false, false, false, false, false, false, false, false, false, false, false, false, false, false] rfl rfl (any_of HT_.out (by kernel_rfl)) (fun _ _ _ h => h) (Or.inl ⟨by rfl, ?_⟩) ?_ ?_
 rotate_left
 ·intro w'
  go_simp
  with_reducible rfl
 rotate_left
 ·simp only [Act.put, sB, i64_w, i32_w]
  rfl
 refine pure_ (i := 3) (N := (some 20)) (v := ?_) (a' := ?_) #[true, true, true, true, false, false, false, false, false, false, false, false, false, false, false, false, false] rfl rfl (any_of HT_.out (by kernel_rfl)) (fun _ _ _ h => h) (Or.inl ⟨by rfl, ?_⟩) ?_ ?_
 rotate_left
 ·intro w'
  go_simp
  with_reducible rfl
 rotate_left
 ·simp only [Act.put, sB, i64_w, i32_w]
  rfl
 refine take_ (i := 4) (N := (some 21)) (v := ?_) (a' := ?_) #[true, true, true, true, true, false, false, false, false, false, false, false, false, false, false, false, false] rfl rfl (take_ofW HT_.out HW_.out (by kernel_rfl)) (fun _ _ _ h => h) (Or.inl ⟨by rfl, ?_⟩) hHeld ?_ ?_
 rotate_left
 ·rintro w' ⟨s0, s1, s2⟩
  go_simp
  with_reducible rfl
 rotate_left
 ·simp only [Act.put, sB, i64_w, i32_w]
  rfl
 refine pure_ (i := 5) (N := (some 22)) (v := ?_) (a' := ?_) #[true, true, true, true, true, true, false, false, false, false, false, false, false, false, false, false, false] rfl rfl (any_of HT_.out (by kernel_rfl)) (fun _ _ _ h => h) (Or.inl ⟨by rfl, ?_⟩) ?_ ?_
 rotate_left
 ·intro w'
  go_simp
  with_reducible rfl
 rotate_left
 ·simp only [Act.put, sB, i64_w, i32_w]
  rfl
 refine pure_ (i := 6) (N := (some 23)) (v := ?_) (a' := ?_) #[true, true, true, true, true, true, true, false, false, false, false, false, false, false, false, false, false] rfl rfl (any_of HT_.out (by kernel_rfl)) (fun _ _ _ h => h) (Or.inl ⟨by rfl, ?_⟩) ?_ ?_
 rotate_left
 ·intro w'
  go_simp
  with_reducible rfl
 rotate_left
 ·simp only [Act.put, sB, i64_w, i32_w]
  rfl
 refine take_ (i := 7) (N := (some 24)) (v := ?_) (a' := ?_) #[true, true, true, true, true, true, true, true, false, false, false, false, false, false, false, false, false] rfl rfl (take_ofW HT_.out HW_.out (by kernel_rfl)) (fun _ _ _ h => h) (Or.inl ⟨by rfl, ?_⟩) hHeld ?_ ?_
 rotate_left
 ·rintro w' ⟨s0, s1, s2⟩
  go_simp
  with_reducible rfl
 rotate_left
 ·simp only [Act.put, sB, i64_w, i32_w]
  rfl
 refine pure_ (i := 8) (N := (some 25)) (v := ?_) (a' := ?_) #[true, true, true, true, true, true, true, true, true, false, false, false, false, false, false, false, false] rfl rfl (any_of HT_.out (by kernel_rfl)) (fun _ _ _ h => h) (Or.inl ⟨by rfl, ?_⟩) ?_ ?_
 rotate_left
 ·intro w'
  go_simp
  with_reducible rfl
 rotate_left
 ·simp only [Act.put, sB, i64_w, i32_w]
  rfl
 refine pure_ (i := 9) (N := (some 26)) (v := ?_) (a' := ?_) #[true, true, true, true, true, true, true, true, true, true, false, false, false, false, false, false, false] rfl rfl (any_of HT_.out (by kernel_rfl)) (fun _ _ _ h => h) (Or.inl ⟨by rfl, ?_⟩) ?_ ?_
 rotate_left
 ·intro w'
  go_simp
  with_reducible rfl
 rotate_left
 ·simp only [Act.put, sB, i64_w, i32_w]
  rfl
 refine pure_ (i := 10) (N := (some 27)) (v := ?_) (a' := ?_) #[true, true, true, true, true, true, true, true, true, true, true, false, false, false, false, false, false] rfl rfl (any_of HT_.out (by kernel_rfl)) (fun _ _ _ h => h) (Or.inl ⟨by rfl, ?_⟩) ?_ ?_
 rotate_left
 ·intro w'
  go_simp
  with_reducible rfl
 rotate_left
 ·simp only [Act.put, sB, i64_w, i32_w]
  rfl
 refine pure_ (i := 11) (N := (some 28)) (v := ?_) (a' := ?_) #[true, true, true, true, true, true, true, true, true, true, true, true, false, false, false, false, false] rfl rfl (any_of HT_.out (by kernel_rfl)) (fun _ _ _ h => h) (Or.inl ⟨by rfl, ?_⟩) ?_ ?_
 rotate_left
 ·intro w'
  go_simp
  with_reducible rfl
 rotate_left
 ·simp only [Act.put, sB, i64_w, i32_w]
  rfl
 refine take_ (i := 12) (N := (some 29)) (v := ?_) (a' := ?_) #[true, true, true, true, true, true, true, true, true, true, true, true, true, false, false, false, false] rfl rfl (take_ofW HT_.out HW_.out (by kernel_rfl)) (fun _ _ _ h => h) (Or.inl ⟨by rfl, ?_⟩) hHeld ?_ ?_
 rotate_left
 ·rintro w' ⟨s0, s1, s2⟩
  go_simp
  with_reducible rfl
 rotate_left
 ·simp only [Act.put, sB, i64_w, i32_w]
  rfl
 refine pure_ (i := 13) (N := (some 30)) (v := ?_) (a' := ?_) #[true, true, true, true, true, true, true, true, true, true, true, true, true, true, false, false, false] rfl rfl (any_of HT_.out (by kernel_rfl)) (fun _ _ _ h => h) (Or.inl ⟨by rfl, ?_⟩) ?_ ?_
 rotate_left
 ·intro w'
  go_simp
  with_reducible rfl
 rotate_left
 ·simp only [Act.put, sB, i64_w, i32_w]
  rfl
 refine pure_ (i := 15) (N := (some 7)) (v := ?_) (a' := ?_) #[true, true, true, true, true, true, true, true, true, true, true, true, true, true, false, true, false] rfl rfl (any_of HT_.out (by kernel_rfl)) (fun _ _ _ h => h) (Or.inl ⟨by rfl, ?_⟩) ?_ ?_
 rotate_left
 ·intro w'
  go_simp
  with_reducible rfl
 rotate_left
 ·simp only [Act.put, sB, i64_w, i32_w]
  rfl
 refine pure_ (i := 14) (N := (some 31)) (v := ?_) (a' := ?_) #[true, true, true, true, true, true, true, true, true, true, true, true, true, true, true, true, false] rfl rfl (any_of HT_.out (by kernel_rfl)) (fun _ _ _ h => h) (Or.inl ⟨by rfl, ?_⟩) ?_ ?_
 rotate_left
 ·intro w'
  go_simp
  with_reducible rfl
 rotate_left
 ·simp only [Act.put, sB, i64_w, i32_w]
  rfl
 refine pure_ (i := 16) (N := (some 8)) (v := ?_) (a' := ?_) #[true, true, true, true, true, true, true, true, true, true, true, true, true, true, true, true, true] rfl rfl (any_of HT_.out (by kernel_rfl)) (fun _ _ _ h => h) (Or.inl ⟨by rfl, ?_⟩) ?_ ?_
 rotate_left
 ·intro w'
  go_simp
  with_reducible rfl
 rotate_left
 ·simp only [Act.put, sB, i64_w, i32_w]
  rfl
 rw [WN.out]
 refine done_ (done_of HT_.out (by kernel_rfl)) ?_
 clear hHeld
 go_wp2_with fail
 refine (swap_calls H2.out HLI.out k m KL.out.1 (by have := HMM.out; omega)).mono ?_
 rintro e w3 ⟨rfl, h3, hc3⟩
 have SW := asd (HLI.out.swap KL.out.1 (show m < ats.length by have := HMM.out; omega))
 have HL3 : Aside0 ((swapA ats k m).length = m + 1) := ⟨by rw [swapA_length]; exact HMM.out⟩
 have HC3 := asd (HC2.out.trans hc3)
 have hx0 : w3.cell? ⟨g, 0, none⟩ = some (.slice (some ⟨ga, 0, none⟩) (m + 1) ca) := (blk_cell h3.blk 0).trans (by rw [HL3.out]; rfl)
 have hf0 := blk_frozen h3.blk 0
 have H4 := asd (h3.cut m (by have := HL3.out; omega))
 have HC4 := asd (HC3.out.set_ (p := ⟨g, 0, none⟩) (.inl (.inl rfl)) (.slice (some ⟨ga, 0, none⟩) m ca))
 have PLN : Aside0 ((swapP ats pls k m).length = pls.length) := ⟨swapP_length _ _ _ _⟩
 have hx1 : (w3.setCell ⟨g, 0, none⟩ (.slice (some ⟨ga, 0, none⟩) m ca)).cell? ⟨g, 1, none⟩ = some (.slice (some ⟨gp, 0, none⟩) pls.length cp) := (blk_cell H4.out.blk 1).trans (by rw [PLN.out]; rfl)
 have hcc := H4.out.pl_ id RI.out.1 (by rw [PLN.out]; exact RI.out.2)
 have hff := Kd.R_elem_frozen H4.out.rp id.toNat (by rw [PLN.out]; have := RI.out; omega)
 have H5 := asd (H4.out.putP id (-1))
 have HC5 := asd (HC4.out.set_ (p := ⟨gp, id.toNat, none⟩) (.inl (.inr (.inr (.inl rfl)))) (.int .i64 (-1)))
 have c0 : (0 ≤ (m : Int)) = True := eq_true (by omega)
 have c1 : ((m : Int) ≤ (ca : Int)) = True := eq_true (by have := CAP.out; omega)
 have c2 : (m ≤ ca) = True := eq_true CAP.out
 have DL := asd (SW.out.1.dropLast HL3.out (id := id) (by rw [swapA_get _ _ _ _ KL.out.1 (by have := HMM.out; omega), if_pos rfl]; exact AK.out))
 have SI := asd (SW.out.2.set PLN.out id.toNat (-1))
 have PL2 : Aside0 (((swapP ats pls k m).set id.toNat (-1)).length = pls.length) := ⟨by rw [List.length_set]; exact PLN.out⟩
 have HL5 : Aside0 (((swapA ats k m).take m).length = m) := ⟨by rw [List.length_take]; have := HL3.out; omega⟩
 clear h3 hc3 H2 HC2 HC3 H4 HC4 SW PLN
 by_cases hkm : k < m
 ·have d0 : decide ((k : Int) < (m : Int)) = true := decide_eq_true (by omega)
  have d1 : decide (k < m) = true := decide_eq_true hkm
  have UI := asd (rem_up HHE.out HMM.out hkm)
  have HKM := asd hkm
  clear hkm
  go_wp2_with fail
  generalize (World.setCell _ ⟨gp, id.toNat, none⟩ (.int .i64 (-1))) = w5 at H5 HC5 ⊢
  refine (up_calls H5.out DL.out k (by rw [HL5.out]; exact HKM.out) (by rw [HL5.out]; omega) UI.out).mono ?_
  rintro e w6 ⟨rfl, ⟨a2, p2, h6, hl6, hs6, hla, hlp, hor⟩, hc6⟩
  have H6 := asd h6
  have HC6 := asd (HC5.out.trans hc6)
  have L6 := asd hl6
  have S6 := asd hs6
  have N6 := asd (And.intro hla hlp)
  have KA : Aside0 (k < a2.length) := ⟨by rw [hla, HL5.out]; exact HKM.out⟩
  have D6 : Aside0 (DownInv dus a2 k) := ⟨by
   rcases hor with hh | ⟨e1, e2, hh⟩
   ·exact heap_down hh k KA.out
   ·rw [e1]; exact hh⟩
  clear h6 hl6 hs6 hla hlp hor hc6 hx0 hx1 hcc hff hf0 H5 HC5
  go_wp2_with fail
  refine (down_calls H6.out L6.out k KA.out (by rw [N6.out.1, HL5.out]; omega) D6.out).mono ?_
  rintro e w7 ⟨rfl, ⟨a3, p3, h7, hl7, hs7, hla, hlp, hhe⟩, hc7⟩
  have HC7 := asd (HC6.out.trans hc7)
  have FIN : Aside0 (∃ ats' pls', HOK w7 base g (some ⟨ga, 0, none⟩) ca ats' gp cp pls' gd cd dus ∧ SameIn (pls.set id.toNat (-1)) pls' ∧ pls'.length = pls.length ∧ ats'.length + 1 = ats.length) := ⟨a3, p3, ⟨h7, hl7, hhe⟩, (SI.out.trans (by rw [PL2.out, List.length_set]) S6.out).trans (by rw [N6.out.2, PL2.out, List.length_set]) hs7, by rw [hlp, N6.out.2, PL2.out], by rw [hla, N6.out.1, HL5.out, HMM.out]⟩
  clear h7 hl7 hs7 hla hlp hhe hc7
  go_wp2
  go_ret
  exact ⟨rfl, FIN.out, HC7.out⟩
 ·have d0 : decide ((k : Int) < (m : Int)) = false := decide_eq_false (by omega)
  have d1 : decide (k < m) = false := decide_eq_false hkm
  have HE := asd (rem_last HHE.out HMM.out (show k = m by have := KL.out.1; have := HMM.out; omega))
  clear hkm
  go_wp2
  go_ret
  exact ⟨rfl, ⟨_, _, ⟨H5.out, DL.out, HE.out⟩, SI.out, PL2.out, by rw [HL5.out, HMM.out]⟩, HC5.out⟩
set_option maxHeartbeats 8000000 in
set_option maxRecDepth 100000 in
theorem first_calls (h : HOK w base g A ca ats gp cp pls gd cd dus) (hp : 0 < ats.length) :
  Calls Try.prog 62 #[.pointer (some ⟨g, 0, none⟩)] w fun e w' => e = .returned (.tuple #[.int .i64 (ats.getD 0 0), .int .i64 (dus.getD (ats.getD 0 0).toNat 0), .bool true]) ∧ Below w.heap.size w w' := by
 obtain ⟨ga, rfl⟩ := h.is.som hp
 have NC := asd (none_calls h.is)
 have hr := h.li.rng 0 hp
 have hx0 := (blk_cell h.is.blk 0).trans rfl
 have hx2 := (blk_cell h.is.blk 2).trans rfl
 have hca := h.is.at_ 0 hp
 have hcd := h.is.due_ (ats.getD 0 0) hr.1 hr.2
 generalize ats.getD 0 0 = x at *
 generalize dus.getD x.toNat 0 = y at *
 have p0 : (0 ≤ x) = True := eq_true hr.1
 have p1 : (x < (dus.length : Int)) = True := eq_true hr.2
 have p2 : ((0 : Int) < (ats.length : Int)) = True := eq_true (by omega)
 have p3 : (0 < ats.length) = True := eq_true hp
 have d0 : decide ((ats.length : Int) = 0) = false := decide_eq_false (by omega)
 have d1 : ((ats.length : Int) == 0) = false := beq_eq_false_iff_ne.2 (by omega)
 have d2 : decide (ats.length = 0) = false := decide_eq_false (by omega)
 generalize ats.length = n at *
 clear h hr hp
 go_enter Try.func62, Try.ntmps62
 go_wp2_with (first | (go_at_call 78; refine NC.out.mono ?_; rintro e w1 ⟨rfl, rfl⟩))
 refine start_ (n := 12) (S := fun w' => w'.cell? ⟨g, 2, none⟩ = some (.slice (some ⟨gd, 0, none⟩) dus.length cd) ∧ w'.cell? ⟨gd, x.toNat, none⟩ = some (.int .i64 y)) (ds := []) #[false, false, false, false, false, false, false, false, false, false, false, false] (by kernel_rfl) rfl rfl ⟨hx2, hcd⟩ (fun hHeld => ?_); refine with_tabW hfst4_tab hfst4_bits (fun HT_ HW_ => ?_)
 have HB := asd (below_drew1 (Below.refl w.heap.size w))
 clear hx2 hcd
 generalize (World.drew _) = w2 at HB hHeld ⊢
 refine pure_ (i := 0) (N := (some 24)) (v := ?_) (a' := ?_) #[true, false, false, false, false, false, false, false, false, false, false, false] rfl rfl (any_of HT_.out (by kernel_rfl)) (fun _ _ _ h => h) (Or.inl ⟨by rfl, ?_⟩) ?_ ?_
 rotate_left
 ·intro w'
  go_simp
  with_reducible rfl
 rotate_left
 ·simp only [Act.put, sB, i64_w, i32_w]
  rfl
 refine pure_ (i := 9) (N := (some 2)) (v := ?_) (a' := ?_) #[true, false, false, false, false, false, false, false, false, true, false, false] rfl rfl (any_of HT_.out (by kernel_rfl)) (fun _ _ _ h => h) (Or.inl ⟨by rfl, ?_⟩) ?_ ?_
 rotate_left
 ·intro w'
  go_simp
  with_reducible rfl
 rotate_left
 ·simp only [Act.put, sB, i64_w, i32_w]
  rfl
 refine pure_ (i := 1) (N := (some 25)) (v := ?_) (a' := ?_) #[true, true, false, false, false, false, false, false, false, true, false, false] rfl rfl (any_of HT_.out (by kernel_rfl)) (fun _ _ _ h => h) (Or.inl ⟨by rfl, ?_⟩) ?_ ?_
 rotate_left
 ·intro w'
  go_simp
  with_reducible rfl
 rotate_left
 ·simp only [Act.put, sB, i64_w, i32_w]
  rfl
 refine pure_ (i := 2) (N := (some 26)) (v := ?_) (a' := ?_) #[true, true, true, false, false, false, false, false, false, true, false, false] rfl rfl (any_of HT_.out (by kernel_rfl)) (fun _ _ _ h => h) (Or.inl ⟨by rfl, ?_⟩) ?_ ?_
 rotate_left
 ·intro w'
  go_simp
  with_reducible rfl
 rotate_left
 ·simp only [Act.put, sB, i64_w, i32_w]
  rfl
 refine pure_ (i := 3) (N := (some 27)) (v := ?_) (a' := ?_) #[true, true, true, true, false, false, false, false, false, true, false, false] rfl rfl (any_of HT_.out (by kernel_rfl)) (fun _ _ _ h => h) (Or.inl ⟨by rfl, ?_⟩) ?_ ?_
 rotate_left
 ·intro w'
  go_simp
  with_reducible rfl
 rotate_left
 ·simp only [Act.put, sB, i64_w, i32_w]
  rfl
 refine pure_ (i := 4) (N := (some 28)) (v := ?_) (a' := ?_) #[true, true, true, true, true, false, false, false, false, true, false, false] rfl rfl (any_of HT_.out (by kernel_rfl)) (fun _ _ _ h => h) (Or.inl ⟨by rfl, ?_⟩) ?_ ?_
 rotate_left
 ·intro w'
  go_simp
  with_reducible rfl
 rotate_left
 ·simp only [Act.put, sB, i64_w, i32_w]
  rfl
 refine take_ (i := 5) (N := (some 29)) (v := ?_) (a' := ?_) #[true, true, true, true, true, true, false, false, false, true, false, false] rfl rfl (take_ofW HT_.out HW_.out (by kernel_rfl)) (fun _ _ _ h => h) (Or.inl ⟨by rfl, ?_⟩) hHeld ?_ ?_
 rotate_left
 ·rintro w' ⟨s0, s1⟩
  go_simp
  with_reducible rfl
 rotate_left
 ·simp only [Act.put, sB, i64_w, i32_w]
  rfl
 refine pure_ (i := 6) (N := (some 30)) (v := ?_) (a' := ?_) #[true, true, true, true, true, true, true, false, false, true, false, false] rfl rfl (any_of HT_.out (by kernel_rfl)) (fun _ _ _ h => h) (Or.inl ⟨by rfl, ?_⟩) ?_ ?_
 rotate_left
 ·intro w'
  go_simp
  with_reducible rfl
 rotate_left
 ·simp only [Act.put, sB, i64_w, i32_w]
  rfl
 refine pure_ (i := 7) (N := (some 31)) (v := ?_) (a' := ?_) #[true, true, true, true, true, true, true, true, false, true, false, false] rfl rfl (any_of HT_.out (by kernel_rfl)) (fun _ _ _ h => h) (Or.inl ⟨by rfl, ?_⟩) ?_ ?_
 rotate_left
 ·intro w'
  go_simp
  with_reducible rfl
 rotate_left
 ·simp only [Act.put, sB, i64_w, i32_w]
  rfl
 refine take_ (i := 8) (N := (some 32)) (v := ?_) (a' := ?_) #[true, true, true, true, true, true, true, true, true, true, false, false] rfl rfl (take_ofW HT_.out HW_.out (by kernel_rfl)) (fun _ _ _ h => h) (Or.inl ⟨by rfl, ?_⟩) hHeld ?_ ?_
 rotate_left
 ·rintro w' ⟨s0, s1⟩
  go_simp
  with_reducible rfl
 rotate_left
 ·simp only [Act.put, sB, i64_w, i32_w]
  rfl
 refine pure_ (i := 10) (N := (some 3)) (v := ?_) (a' := ?_) #[true, true, true, true, true, true, true, true, true, true, true, false] rfl rfl (any_of HT_.out (by kernel_rfl)) (fun _ _ _ h => h) (Or.inl ⟨by rfl, ?_⟩) ?_ ?_
 rotate_left
 ·intro w'
  go_simp
  with_reducible rfl
 rotate_left
 ·simp only [Act.put, sB, i64_w, i32_w]
  rfl
 refine pure_ (i := 11) (N := (some 4)) (v := ?_) (a' := ?_) #[true, true, true, true, true, true, true, true, true, true, true, true] rfl rfl (any_of HT_.out (by kernel_rfl)) (fun _ _ _ h => h) (Or.inl ⟨by rfl, ?_⟩) ?_ ?_
 rotate_left
 ·intro w'
  go_simp
  with_reducible rfl
 rotate_left
 ·simp only [Act.put, sB, i64_w, i32_w]
  rfl
 refine done_ (done_of HT_.out (by kernel_rfl)) ?_
 try go_wp2
 go_ret3
 exact ⟨rfl, HB.out⟩
set_option maxHeartbeats 4000000 in
set_option maxRecDepth 100000 in
theorem first_none (h : IsHeap w base g A ca [] gp cp pls gd cd dus) :
  Calls Try.prog 62 #[.pointer (some ⟨g, 0, none⟩)] w fun e w' => e = .returned (.tuple #[.int .i64 0, .int .i64 0, .bool false]) ∧ w = w' := by
 have NC := asd (none_calls h)
 have hx0 : w.cell? ⟨g, 0, none⟩ = some (.slice A 0 ca) := (blk_cell h.blk 0).trans rfl
 clear h
 go_enter Try.func62, Try.ntmps62
 go_wp2_with (first | (go_at_call 78; refine NC.out.mono ?_; rintro e w1 ⟨rfl, rfl⟩))
 go_ret3
 simp
end
end Go.Proofs.Ytjekfipaadbbbaa.Fn
namespace Go.Proofs.Ytjekfipaadbbbaa.Fn
open Go.RowKit Go.Proofs.YtjekfipaadbbbaaW.PrintWords Go.Proofs.YtjekfipaadbbbaaW.PrintLast Go.Proofs.YtjekfipaadbbbaaW.PrintMore
set_option linter.unusedVariables false
set_option linter.unusedSimpArgs false
end Go.Proofs.Ytjekfipaadbbbaa.Fn
namespace Go.Proofs.Ytjekfipaadbbbaa.Fn
open Go.RowKit Go.Proofs.YtjekfipaadbbbaaW.PrintWords Go.Proofs.YtjekfipaadbbbaaW.PrintLast Go.Proofs.YtjekfipaadbbbaaW.PrintMore
set_option linter.unusedVariables false
set_option linter.unusedSimpArgs false
def ptrV : Option Nat → Value
 | none => .pointer none
 | some b => .pointer (some ⟨b, 0, none⟩)
def slotC (x : S44 × Option Nat) : List Value := [.bool x.1.f0, .int .i64 x.1.f1, .int .i64 x.1.f2, .int .i64 x.1.f3, .int .i64 x.1.f4, .int .i64 x.1.f5, ptrV x.2]
def zSl : S44 × Option Nat := (z44, none)
def slotsV : List (S44 × Option Nat) → List Value
 | [] => []
 | x :: xs => slotC x ++ slotsV xs
theorem slotsV_len (sl : List (S44 × Option Nat)) : (slotsV sl).length = sl.length * 7 := by
 induction sl with
 | nil => rfl
 | cons x xs ih => show (slotC x ++ slotsV xs).length = _; rw [List.length_append, ih, List.length_cons]; simp only [slotC, List.length_cons, List.length_nil]; omega
theorem slots_get (sl : List (S44 × Option Nat)) : ∀ (k j : Nat), k < sl.length → j < 7 → (slotsV sl)[k * 7 + j]? = (slotC (sl.getD k zSl))[j]? := by
 induction sl with
 | nil => intro k j hk; simp at hk
 | cons x xs ih =>
  intro k j hk hj
  have hl : (slotC x).length = 7 := rfl
  show (slotC x ++ slotsV xs)[k * 7 + j]? = _
  cases k with
  | zero => rw [List.getElem?_append_left (by omega)]; simp
  | succ k =>
   rw [List.getElem?_append_right (by omega), hl, show (k + 1) * 7 + j - 7 = k * 7 + j by omega, ih k j (by simpa using hk) hj]
   simp
theorem slots_set (sl : List (S44 × Option Nat)) : ∀ (k : Nat) (p : Option Nat), k < sl.length → (slotsV sl).set (k * 7 + 6) (ptrV p) = slotsV (sl.set k ((sl.getD k zSl).1, p)) := by
 induction sl with
 | nil => intro k p hk; simp at hk
 | cons x xs ih =>
  intro k p hk
  have hl : (slotC x).length = 7 := rfl
  show (slotC x ++ slotsV xs).set (k * 7 + 6) (ptrV p) = _
  cases k with
  | zero =>
   rw [List.set_append_left _ _ (by omega)]
   simp [slotC, slotsV]
  | succ k =>
   rw [List.set_append_right _ _ (by omega), hl, show (k + 1) * 7 + 6 - 7 = k * 7 + 6 by omega, ih k p (by simpa using hk)]
   simp [slotsV]
end Go.Proofs.Ytjekfipaadbbbaa.Fn
namespace Go.Proofs.Ytjekfipaadbbbaa.Fn
open Go.RowKit Go.Proofs.YtjekfipaadbbbaaW.PrintWords Go.Proofs.YtjekfipaadbbbaaW.PrintLast Go.Proofs.YtjekfipaadbbbaaW.PrintMore
set_option linter.unusedVariables false
set_option linter.unusedSimpArgs false
def Dead (w : World) (v : Value) : Prop := v = .pointer none ∨ ∃ g, v = .pointer (some ⟨g, 0, none⟩) ∧ w.cell? ⟨g, 3, none⟩ = some (.bool false)
section
variable {w : World} {v : Value}
end
end Go.Proofs.Ytjekfipaadbbbaa.Fn
namespace Go.Proofs.Ytjekfipaadbbbaa.Fn
open Go.RowKit Go.Proofs.YtjekfipaadbbbaaW.PrintWords Go.Proofs.YtjekfipaadbbbaaW.PrintLast Go.Proofs.YtjekfipaadbbbaaW.PrintMore
attribute [local go_sem] max2_int min2_int max_two min_two max_three min_three max_four min_four
set_option linter.unusedVariables false
set_option linter.unusedSimpArgs false
def tasks_Job_right.f (a0_0 : Int) (a0_1 : Int) (a0_2 : Int) (a0_3 : Int) (l0_4 : List (S76)) : Option (Bool) := if a0_1 ≥ 0 then (if a0_1 ≤ 4611686018427387904 then (if a0_2 ≥ 1 then (if a0_2 ≤ 1048576 then (if a0_3 = 0 then (some (decide ((l0_4.length : Int) ≤ 64))) else (some false)) else (some false)) else (some false)) else (some false)) else (some false)
set_option maxHeartbeats 8000000 in
set_option maxRecDepth 100000 in
theorem tasks_Job_right.calls (a0_0 : Int) (a0_1 : Int) (a0_2 : Int) (a0_3 : Int) (A0_4 : Option Addr) (c0_4 : Nat) (l0_4 : List (S76)) (r : Bool) (w : World) (hr0_4 : Kd.C k76 w A0_4 l0_4.length l0_4) (hc0_4 : l0_4.length ≤ c0_4) (h : tasks_Job_right.f a0_0 a0_1 a0_2 a0_3 l0_4 = some r) :
  Calls Try.prog 81 #[.agg #[.int .i64 a0_0, .int .i64 a0_1, .int .i64 a0_2, .int .i64 a0_3, .slice A0_4 l0_4.length c0_4]] w fun e w' => e = .returned (.bool r) ∧ Below w.heap.size w w' := by
 have hu69 := Try.underlying69
 have HR0_4 := asd hr0_4
 have HC0_4 := asd hc0_4
 clear hr0_4 hc0_4
 have HB := asd (Below.refl w.heap.size w)
 have H : (if a0_1 ≥ 0 then (if a0_1 ≤ 4611686018427387904 then (if a0_2 ≥ 1 then (if a0_2 ≤ 1048576 then (if a0_3 = 0 then (some (decide ((l0_4.length : Int) ≤ 64))) else (some false)) else (some false)) else (some false)) else (some false)) else (some false)) = some r := h
 clear h
 by_cases c2 : a0_1 ≥ 0
 ·rw [if_pos c2] at H
  have c2b0 : decide (0 ≤ a0_1) = true := decide_eq_true c2
  clear c2
  by_cases c3 : a0_1 ≤ 4611686018427387904
  ·rw [if_pos c3] at H
   have c3b0 : decide (a0_1 ≤ 4611686018427387904) = true := decide_eq_true c3
   clear c3
   by_cases c4 : a0_2 ≥ 1
   ·rw [if_pos c4] at H
    have c4b0 : decide (1 ≤ a0_2) = true := decide_eq_true c4
    clear c4
    by_cases c5 : a0_2 ≤ 1048576
    ·rw [if_pos c5] at H
     have c5b0 : decide (a0_2 ≤ 1048576) = true := decide_eq_true c5
     clear c5
     by_cases c6 : a0_3 = 0
     ·rw [if_pos c6] at H
      have c6b0 : (a0_3 == 0) = true := beq_iff_eq.mpr c6
      have c6b1 : (a0_3 != 0) = false := bne_eq_false_iff_eq.mpr c6
      clear c6
      obtain rfl := Option.some.inj H
      go_enter Try.func81, Try.ntmps81
      go_wp2_with (first | ((with_reducible refine gate_dst (N := 1) rfl ?_); (try (refine gate_guard (by rfl) ?_; dsimp only)); refine box_event ?hg (N := 1) ?hd (cs := #[.int .i64 a0_0, .int .i64 a0_1, .int .i64 a0_2, .int .i64 a0_3, .slice A0_4 l0_4.length c0_4]) (t := 69) ?hr ?_; (case hd => rfl); (case hg => rfl); (case hr => first | (go_simp; done) | (go_simp; rfl)); intro gb146 hg w7 hbox hb; have n0_ := asd (below_step (by repeat (first | (with_reducible first | exact HB.out | apply wa | apply wn | apply wd) | exact HB.out)) hb); have n1_ := asd (hbox); have n2_ := asd ((by rw [hg]; exact (below_size (by repeat (first | (with_reducible first | exact HB.out | apply wa | apply wn | apply wd) | exact HB.out))) : w.heap.size ≤ gb146)); have n3_ := asd ((by rw [hg]; exact (below_size (by repeat (first | (with_reducible first | exact HB.out | apply wa | apply wn | apply wd) | exact HB.out))) : w.heap.size ≤ gb146)); clear HB; have HB := n0_; have BK146 := n1_; have GW146 := n2_; have GE146 := n3_; clear n0_ n1_ n2_ n3_; clear hb hbox hg; have hcz8_0 : w7.cell? ⟨gb146, 0, none⟩ = some (.int .i64 a0_0) := (blk_cell BK146.out 0).trans rfl; have hcz8_1 : w7.cell? ⟨gb146, 1, none⟩ = some (.int .i64 a0_1) := (blk_cell BK146.out 1).trans rfl; have hcz8_2 : w7.cell? ⟨gb146, 2, none⟩ = some (.int .i64 a0_2) := (blk_cell BK146.out 2).trans rfl; have hcz8_3 : w7.cell? ⟨gb146, 3, none⟩ = some (.int .i64 a0_3) := (blk_cell BK146.out 3).trans rfl; have hcz8_4 : w7.cell? ⟨gb146, 4, none⟩ = some (.slice A0_4 l0_4.length c0_4) := (blk_cell BK146.out 4).trans rfl; have hfz8_0 := blk_frozen BK146.out 0; have hfz8_1 := blk_frozen BK146.out 1; have hfz8_2 := blk_frozen BK146.out 2; have hfz8_3 := blk_frozen BK146.out 3; have hfz8_4 := blk_frozen BK146.out 4))
      go_ret
      exact ⟨by first | rfl | (simp [*] <;> rfl), by repeat (first | (with_reducible first | exact HB.out | apply wa | apply wn | apply wd | refine ws ?_ GE146.out) | exact HB.out)⟩
     ·rw [if_neg c6] at H
      have c6b0 : (a0_3 == 0) = false := beq_eq_false_iff_ne.mpr c6
      have c6b1 : (a0_3 != 0) = true := bne_iff_ne.mpr c6
      obtain rfl := Option.some.inj H
      go_enter Try.func81, Try.ntmps81
      go_wp2_with (first | ((with_reducible refine gate_dst (N := 1) rfl ?_); (try (refine gate_guard (by rfl) ?_; dsimp only)); refine box_event ?hg (N := 1) ?hd (cs := #[.int .i64 a0_0, .int .i64 a0_1, .int .i64 a0_2, .int .i64 a0_3, .slice A0_4 l0_4.length c0_4]) (t := 69) ?hr ?_; (case hd => rfl); (case hg => rfl); (case hr => first | (go_simp; done) | (go_simp; rfl)); intro gb146 hg w9 hbox hb; have n0_ := asd (below_step (by repeat (first | (with_reducible first | exact HB.out | apply wa | apply wn | apply wd) | exact HB.out)) hb); have n1_ := asd (hbox); have n2_ := asd ((by rw [hg]; exact (below_size (by repeat (first | (with_reducible first | exact HB.out | apply wa | apply wn | apply wd) | exact HB.out))) : w.heap.size ≤ gb146)); have n3_ := asd ((by rw [hg]; exact (below_size (by repeat (first | (with_reducible first | exact HB.out | apply wa | apply wn | apply wd) | exact HB.out))) : w.heap.size ≤ gb146)); clear HB; have HB := n0_; have BK146 := n1_; have GW146 := n2_; have GE146 := n3_; clear n0_ n1_ n2_ n3_; clear hb hbox hg; have hcz10_0 : w9.cell? ⟨gb146, 0, none⟩ = some (.int .i64 a0_0) := (blk_cell BK146.out 0).trans rfl; have hcz10_1 : w9.cell? ⟨gb146, 1, none⟩ = some (.int .i64 a0_1) := (blk_cell BK146.out 1).trans rfl; have hcz10_2 : w9.cell? ⟨gb146, 2, none⟩ = some (.int .i64 a0_2) := (blk_cell BK146.out 2).trans rfl; have hcz10_3 : w9.cell? ⟨gb146, 3, none⟩ = some (.int .i64 a0_3) := (blk_cell BK146.out 3).trans rfl; have hcz10_4 : w9.cell? ⟨gb146, 4, none⟩ = some (.slice A0_4 l0_4.length c0_4) := (blk_cell BK146.out 4).trans rfl; have hfz10_0 := blk_frozen BK146.out 0; have hfz10_1 := blk_frozen BK146.out 1; have hfz10_2 := blk_frozen BK146.out 2; have hfz10_3 := blk_frozen BK146.out 3; have hfz10_4 := blk_frozen BK146.out 4))
      go_ret
      exact ⟨by first | rfl | (simp [*] <;> rfl), by repeat (first | (with_reducible first | exact HB.out | apply wa | apply wn | apply wd | refine ws ?_ GE146.out) | exact HB.out)⟩
    ·rw [if_neg c5] at H
     have c5b0 : decide (a0_2 ≤ 1048576) = false := decide_eq_false c5
     clear c5
     obtain rfl := Option.some.inj H
     go_enter Try.func81, Try.ntmps81
     go_wp2_with (first | ((with_reducible refine gate_dst (N := 1) rfl ?_); (try (refine gate_guard (by rfl) ?_; dsimp only)); refine box_event ?hg (N := 1) ?hd (cs := #[.int .i64 a0_0, .int .i64 a0_1, .int .i64 a0_2, .int .i64 a0_3, .slice A0_4 l0_4.length c0_4]) (t := 69) ?hr ?_; (case hd => rfl); (case hg => rfl); (case hr => first | (go_simp; done) | (go_simp; rfl)); intro gb146 hg w11 hbox hb; have n0_ := asd (below_step (by repeat (first | (with_reducible first | exact HB.out | apply wa | apply wn | apply wd) | exact HB.out)) hb); have n1_ := asd (hbox); have n2_ := asd ((by rw [hg]; exact (below_size (by repeat (first | (with_reducible first | exact HB.out | apply wa | apply wn | apply wd) | exact HB.out))) : w.heap.size ≤ gb146)); have n3_ := asd ((by rw [hg]; exact (below_size (by repeat (first | (with_reducible first | exact HB.out | apply wa | apply wn | apply wd) | exact HB.out))) : w.heap.size ≤ gb146)); clear HB; have HB := n0_; have BK146 := n1_; have GW146 := n2_; have GE146 := n3_; clear n0_ n1_ n2_ n3_; clear hb hbox hg; have hcz12_0 : w11.cell? ⟨gb146, 0, none⟩ = some (.int .i64 a0_0) := (blk_cell BK146.out 0).trans rfl; have hcz12_1 : w11.cell? ⟨gb146, 1, none⟩ = some (.int .i64 a0_1) := (blk_cell BK146.out 1).trans rfl; have hcz12_2 : w11.cell? ⟨gb146, 2, none⟩ = some (.int .i64 a0_2) := (blk_cell BK146.out 2).trans rfl; have hcz12_3 : w11.cell? ⟨gb146, 3, none⟩ = some (.int .i64 a0_3) := (blk_cell BK146.out 3).trans rfl; have hcz12_4 : w11.cell? ⟨gb146, 4, none⟩ = some (.slice A0_4 l0_4.length c0_4) := (blk_cell BK146.out 4).trans rfl; have hfz12_0 := blk_frozen BK146.out 0; have hfz12_1 := blk_frozen BK146.out 1; have hfz12_2 := blk_frozen BK146.out 2; have hfz12_3 := blk_frozen BK146.out 3; have hfz12_4 := blk_frozen BK146.out 4))
     go_ret
     exact ⟨by first | rfl | (simp [*] <;> rfl), by repeat (first | (with_reducible first | exact HB.out | apply wa | apply wn | apply wd | refine ws ?_ GE146.out) | exact HB.out)⟩
   ·rw [if_neg c4] at H
    have c4b0 : decide (1 ≤ a0_2) = false := decide_eq_false c4
    clear c4
    obtain rfl := Option.some.inj H
    go_enter Try.func81, Try.ntmps81
    go_wp2_with (first | ((with_reducible refine gate_dst (N := 1) rfl ?_); (try (refine gate_guard (by rfl) ?_; dsimp only)); refine box_event ?hg (N := 1) ?hd (cs := #[.int .i64 a0_0, .int .i64 a0_1, .int .i64 a0_2, .int .i64 a0_3, .slice A0_4 l0_4.length c0_4]) (t := 69) ?hr ?_; (case hd => rfl); (case hg => rfl); (case hr => first | (go_simp; done) | (go_simp; rfl)); intro gb146 hg w13 hbox hb; have n0_ := asd (below_step (by repeat (first | (with_reducible first | exact HB.out | apply wa | apply wn | apply wd) | exact HB.out)) hb); have n1_ := asd (hbox); have n2_ := asd ((by rw [hg]; exact (below_size (by repeat (first | (with_reducible first | exact HB.out | apply wa | apply wn | apply wd) | exact HB.out))) : w.heap.size ≤ gb146)); have n3_ := asd ((by rw [hg]; exact (below_size (by repeat (first | (with_reducible first | exact HB.out | apply wa | apply wn | apply wd) | exact HB.out))) : w.heap.size ≤ gb146)); clear HB; have HB := n0_; have BK146 := n1_; have GW146 := n2_; have GE146 := n3_; clear n0_ n1_ n2_ n3_; clear hb hbox hg; have hcz14_0 : w13.cell? ⟨gb146, 0, none⟩ = some (.int .i64 a0_0) := (blk_cell BK146.out 0).trans rfl; have hcz14_1 : w13.cell? ⟨gb146, 1, none⟩ = some (.int .i64 a0_1) := (blk_cell BK146.out 1).trans rfl; have hcz14_2 : w13.cell? ⟨gb146, 2, none⟩ = some (.int .i64 a0_2) := (blk_cell BK146.out 2).trans rfl; have hcz14_3 : w13.cell? ⟨gb146, 3, none⟩ = some (.int .i64 a0_3) := (blk_cell BK146.out 3).trans rfl; have hcz14_4 : w13.cell? ⟨gb146, 4, none⟩ = some (.slice A0_4 l0_4.length c0_4) := (blk_cell BK146.out 4).trans rfl; have hfz14_0 := blk_frozen BK146.out 0; have hfz14_1 := blk_frozen BK146.out 1; have hfz14_2 := blk_frozen BK146.out 2; have hfz14_3 := blk_frozen BK146.out 3; have hfz14_4 := blk_frozen BK146.out 4))
    go_ret
    exact ⟨by first | rfl | (simp [*] <;> rfl), by repeat (first | (with_reducible first | exact HB.out | apply wa | apply wn | apply wd | refine ws ?_ GE146.out) | exact HB.out)⟩
  ·rw [if_neg c3] at H
   have c3b0 : decide (a0_1 ≤ 4611686018427387904) = false := decide_eq_false c3
   clear c3
   obtain rfl := Option.some.inj H
   go_enter Try.func81, Try.ntmps81
   go_wp2_with (first | ((with_reducible refine gate_dst (N := 1) rfl ?_); (try (refine gate_guard (by rfl) ?_; dsimp only)); refine box_event ?hg (N := 1) ?hd (cs := #[.int .i64 a0_0, .int .i64 a0_1, .int .i64 a0_2, .int .i64 a0_3, .slice A0_4 l0_4.length c0_4]) (t := 69) ?hr ?_; (case hd => rfl); (case hg => rfl); (case hr => first | (go_simp; done) | (go_simp; rfl)); intro gb146 hg w15 hbox hb; have n0_ := asd (below_step (by repeat (first | (with_reducible first | exact HB.out | apply wa | apply wn | apply wd) | exact HB.out)) hb); have n1_ := asd (hbox); have n2_ := asd ((by rw [hg]; exact (below_size (by repeat (first | (with_reducible first | exact HB.out | apply wa | apply wn | apply wd) | exact HB.out))) : w.heap.size ≤ gb146)); have n3_ := asd ((by rw [hg]; exact (below_size (by repeat (first | (with_reducible first | exact HB.out | apply wa | apply wn | apply wd) | exact HB.out))) : w.heap.size ≤ gb146)); clear HB; have HB := n0_; have BK146 := n1_; have GW146 := n2_; have GE146 := n3_; clear n0_ n1_ n2_ n3_; clear hb hbox hg; have hcz16_0 : w15.cell? ⟨gb146, 0, none⟩ = some (.int .i64 a0_0) := (blk_cell BK146.out 0).trans rfl; have hcz16_1 : w15.cell? ⟨gb146, 1, none⟩ = some (.int .i64 a0_1) := (blk_cell BK146.out 1).trans rfl; have hcz16_2 : w15.cell? ⟨gb146, 2, none⟩ = some (.int .i64 a0_2) := (blk_cell BK146.out 2).trans rfl; have hcz16_3 : w15.cell? ⟨gb146, 3, none⟩ = some (.int .i64 a0_3) := (blk_cell BK146.out 3).trans rfl; have hcz16_4 : w15.cell? ⟨gb146, 4, none⟩ = some (.slice A0_4 l0_4.length c0_4) := (blk_cell BK146.out 4).trans rfl; have hfz16_0 := blk_frozen BK146.out 0; have hfz16_1 := blk_frozen BK146.out 1; have hfz16_2 := blk_frozen BK146.out 2; have hfz16_3 := blk_frozen BK146.out 3; have hfz16_4 := blk_frozen BK146.out 4))
   go_ret
   exact ⟨by first | rfl | (simp [*] <;> rfl), by repeat (first | (with_reducible first | exact HB.out | apply wa | apply wn | apply wd | refine ws ?_ GE146.out) | exact HB.out)⟩
 ·rw [if_neg c2] at H
  have c2b0 : decide (0 ≤ a0_1) = false := decide_eq_false c2
  clear c2
  obtain rfl := Option.some.inj H
  go_enter Try.func81, Try.ntmps81
  go_wp2_with (first | ((with_reducible refine gate_dst (N := 1) rfl ?_); (try (refine gate_guard (by rfl) ?_; dsimp only)); refine box_event ?hg (N := 1) ?hd (cs := #[.int .i64 a0_0, .int .i64 a0_1, .int .i64 a0_2, .int .i64 a0_3, .slice A0_4 l0_4.length c0_4]) (t := 69) ?hr ?_; (case hd => rfl); (case hg => rfl); (case hr => first | (go_simp; done) | (go_simp; rfl)); intro gb146 hg w17 hbox hb; have n0_ := asd (below_step (by repeat (first | (with_reducible first | exact HB.out | apply wa | apply wn | apply wd) | exact HB.out)) hb); have n1_ := asd (hbox); have n2_ := asd ((by rw [hg]; exact (below_size (by repeat (first | (with_reducible first | exact HB.out | apply wa | apply wn | apply wd) | exact HB.out))) : w.heap.size ≤ gb146)); have n3_ := asd ((by rw [hg]; exact (below_size (by repeat (first | (with_reducible first | exact HB.out | apply wa | apply wn | apply wd) | exact HB.out))) : w.heap.size ≤ gb146)); clear HB; have HB := n0_; have BK146 := n1_; have GW146 := n2_; have GE146 := n3_; clear n0_ n1_ n2_ n3_; clear hb hbox hg; have hcz18_0 : w17.cell? ⟨gb146, 0, none⟩ = some (.int .i64 a0_0) := (blk_cell BK146.out 0).trans rfl; have hcz18_1 : w17.cell? ⟨gb146, 1, none⟩ = some (.int .i64 a0_1) := (blk_cell BK146.out 1).trans rfl; have hcz18_2 : w17.cell? ⟨gb146, 2, none⟩ = some (.int .i64 a0_2) := (blk_cell BK146.out 2).trans rfl; have hcz18_3 : w17.cell? ⟨gb146, 3, none⟩ = some (.int .i64 a0_3) := (blk_cell BK146.out 3).trans rfl; have hcz18_4 : w17.cell? ⟨gb146, 4, none⟩ = some (.slice A0_4 l0_4.length c0_4) := (blk_cell BK146.out 4).trans rfl; have hfz18_0 := blk_frozen BK146.out 0; have hfz18_1 := blk_frozen BK146.out 1; have hfz18_2 := blk_frozen BK146.out 2; have hfz18_3 := blk_frozen BK146.out 3; have hfz18_4 := blk_frozen BK146.out 4))
  go_ret
  exact ⟨by first | rfl | (simp [*] <;> rfl), by repeat (first | (with_reducible first | exact HB.out | apply wa | apply wn | apply wd | refine ws ?_ GE146.out) | exact HB.out)⟩
end Go.Proofs.Ytjekfipaadbbbaa.Fn
namespace Go.Proofs.Ytjekfipaadbbbaa.Fn
open Go.RowKit Go.Proofs.YtjekfipaadbbbaaW.PrintWords Go.Proofs.YtjekfipaadbbbaaW.PrintLast Go.Proofs.YtjekfipaadbbbaaW.PrintMore
attribute [local go_sem] max2_int min2_int max_two min_two max_three min_three max_four min_four
set_option linter.unusedVariables false
set_option linter.unusedSimpArgs false
def parcloselaw19_Job.l0 : Nat → Int → Int → Int → Int → Int → List (S134) → Int → Int → Int → Int → List (S76) → Option (Int × Int × Int × Int × (List (S76)))
 | 0, _, _, _, _, _, _, _, _, _, _, _ => none
 | k + 1, x4, x151000, x151001, x151002, x151003, x151004, x153000, x153001, x153002, x153003, x153004 => if x4 < (x151004.length : Int) then (if 0 ≤ x4 then (if x153004.length < 5864062014805 then (parcloselaw19_Job.l0 k (wrap64 (x4 + 1)) x151000 x151001 x151002 x151003 x151004 x153000 x153001 x153002 x153003 (x153004 ++ [(⟨(rd_T134 x151004 x4).f0, (rd_T134 x151004 x4).f1, (rd_T134 x151004 x4).f2⟩ : S76)])) else (none)) else (none)) else (some (x153000, x153001, x153002, x153003, x153004))
def parcloselaw19_Job.f (k : Nat) (a0_0 : Int) (a0_1 : Int) (a0_2 : Int) (a0_3 : Int) (l0_4 : List (S134)) : Option (Int × Int × Int × Int × (List (S76))) := parcloselaw19_Job.l0 k 0 a0_0 a0_1 a0_2 a0_3 l0_4 a0_0 a0_1 a0_2 a0_3 ([] : List (S76))
def parcloselaw19_Job.T5 : Bool × List (List Nat × List Nat) := (true, [([], []), ([0], [0]), ([], []), ([2], [2]), ([], []), ([3, 4], [3, 4]), ([5], [5]), ([6], [6]), ([1, 7], [1, 7]), ([0, 1, 2, 3, 4, 5, 6, 7, 8], []), ([9, 8, 8, 0, 1, 2, 3, 4, 5, 6, 7, 8], [8, 9])])
def parcloselaw19_Job.B5 : List Nat := [0, 1, 0, 4, 0, 28, 60, 124, 255, 511, 1023]
theorem parcloselaw19_Job.tab5 : rtab .any (opsOf Try.f39 5) = parcloselaw19_Job.T5 := by kernel_rfl
theorem parcloselaw19_Job.bits5 : waitsOk parcloselaw19_Job.T5.2 parcloselaw19_Job.B5 = true := by kernel_rfl
set_option maxHeartbeats 8000000 in
set_option maxRecDepth 100000 in
theorem parcloselaw19_Job.calls (k : Nat) (a0_0 : Int) (a0_1 : Int) (a0_2 : Int) (a0_3 : Int) (A0_4 : Option Addr) (c0_4 : Nat) (l0_4 : List (S134)) (r1 : Int) (r2 : Int) (r3 : Int) (r4 : Int) (r5 : List (S76)) (w : World) (hr0_4 : Kd.C k134 w A0_4 l0_4.length l0_4) (hc0_4 : l0_4.length ≤ c0_4) (h : parcloselaw19_Job.f k a0_0 a0_1 a0_2 a0_3 l0_4 = some (r1, r2, r3, r4, r5)) :
  Calls Try.prog 39 #[.agg #[.int .i64 a0_0, .int .i64 a0_1, .int .i64 a0_2, .int .i64 a0_3, .slice A0_4 l0_4.length c0_4]] w fun e w' => ∃ v4_ : Value, e = .returned (.agg #[.int .i64 r1, .int .i64 r2, .int .i64 r3, .int .i64 r4, v4_]) ∧ Kd.R k76 76 w' w.heap.size (fun _ => True) v4_ r5 ∧ Below w.heap.size w w' := by
 have hu63 := Try.underlying63
 have hu69 := Try.underlying69
 have hu134 := Try.underlying134
 have HR0_4 := asd hr0_4
 have HC0_4 := asd hc0_4
 clear hr0_4 hc0_4
 have HB := asd (Below.refl w.heap.size w)
 have H : (parcloselaw19_Job.l0 k 0 a0_0 a0_1 a0_2 a0_3 l0_4 a0_0 a0_1 a0_2 a0_3 ([] : List (S76))) = some (r1, r2, r3, r4, r5) := h
 clear h
 have H' := asd H
 clear H
 go_enter Try.func39, Try.ntmps39
 go_wp2_with (first | ((with_reducible refine gate_dst (N := 1) rfl ?_); refine box_event ?hg (N := 1) ?hd (cs := #[.int .i64 a0_0, .int .i64 a0_1, .int .i64 a0_2, .int .i64 a0_3, .slice A0_4 l0_4.length c0_4]) (t := 63) ?hr ?_; (case hd => rfl); (case hg => rfl); (case hr => first | (go_simp; done) | (go_simp; rfl)); intro gb150 hg w2 hbox hb; have n0_ := asd (below_step (by repeat (first | (with_reducible first | exact HB.out | apply wa | apply wn | apply wd) | exact HB.out)) hb); have n1_ := asd (hbox); have n2_ := asd ((by rw [hg]; exact (below_size (by repeat (first | (with_reducible first | exact HB.out | apply wa | apply wn | apply wd) | exact HB.out))) : w.heap.size ≤ gb150)); have n3_ := asd ((by rw [hg]; exact (below_size (by repeat (first | (with_reducible first | exact HB.out | apply wa | apply wn | apply wd) | exact HB.out))) : w.heap.size ≤ gb150)); clear HB; have HB := n0_; have BK150 := n1_; have GW150 := n2_; have GE150 := n3_; clear n0_ n1_ n2_ n3_; clear hb hbox hg) | ((with_reducible refine gate_dst (N := 2) rfl ?_); refine box_event ?hg (N := 2) ?hd (cs := #[.int .i64 0, .int .i64 0, .int .i64 0, .int .i64 0, .slice none 0 0]) (t := 69) ?hr ?_; (case hd => rfl); (case hg => rfl); (case hr => first | (go_simp; done) | (go_simp; rfl)); intro gb151 hg w3 hbox hb; have n0_ := asd (blk_below (g := gb150) (o := .cells #[.int .i64 a0_0, .int .i64 a0_1, .int .i64 a0_2, .int .i64 a0_3, .slice A0_4 l0_4.length c0_4] 63 (0, 0)) (by (with_reducible repeat first | apply bn | apply bd | apply ba); exact BK150.out) hb); have n1_ := asd (below_step (by repeat (first | (with_reducible first | exact HB.out | apply wa | apply wn | apply wd | refine ws ?_ GE150.out) | exact HB.out)) hb); have n2_ := asd (hbox); have n3_ := asd ((by rw [hg]; exact (below_size (by repeat (first | (with_reducible first | exact HB.out | apply wa | apply wn | apply wd | refine ws ?_ GE150.out) | exact HB.out))) : w.heap.size ≤ gb151)); have n4_ := asd ((by rw [hg]; exact (below_size (by repeat (first | (with_reducible first | exact HB.out | apply wa | apply wn | apply wd | refine ws ?_ GE150.out) | exact HB.out))) : w.heap.size ≤ gb151)); have n5_ := asd ((by rw [hg]; exact Nat.ne_of_lt (blk_lt (g := gb150) (o := .cells #[.int .i64 a0_0, .int .i64 a0_1, .int .i64 a0_2, .int .i64 a0_3, .slice A0_4 l0_4.length c0_4] 63 (0, 0)) (by (with_reducible repeat first | apply bn | apply bd | apply ba); exact BK150.out)) : gb150 ≠ gb151)); have n6_ := asd ((by rw [hg]; exact Nat.ne_of_gt (blk_lt (g := gb150) (o := .cells #[.int .i64 a0_0, .int .i64 a0_1, .int .i64 a0_2, .int .i64 a0_3, .slice A0_4 l0_4.length c0_4] 63 (0, 0)) (by (with_reducible repeat first | apply bn | apply bd | apply ba); exact BK150.out)) : gb151 ≠ gb150)); clear BK150; clear HB; have BK150 := n0_; have HB := n1_; have BK151 := n2_; have GW151 := n3_; have GE151 := n4_; have NB150_151 := n5_; have NB151_150 := n6_; clear n0_ n1_ n2_ n3_ n4_ n5_ n6_; clear hb hbox hg; have hnb4 := NB150_151.out; have hnc4 := NB151_150.out; have hcz5_0 : w3.cell? ⟨gb150, 0, none⟩ = some (.int .i64 a0_0) := (blk_cell BK150.out 0).trans rfl; have hcz5_1 : w3.cell? ⟨gb150, 1, none⟩ = some (.int .i64 a0_1) := (blk_cell BK150.out 1).trans rfl; have hcz5_2 : w3.cell? ⟨gb150, 2, none⟩ = some (.int .i64 a0_2) := (blk_cell BK150.out 2).trans rfl; have hcz5_3 : w3.cell? ⟨gb150, 3, none⟩ = some (.int .i64 a0_3) := (blk_cell BK150.out 3).trans rfl; have hcz5_4 : w3.cell? ⟨gb150, 4, none⟩ = some (.slice A0_4 l0_4.length c0_4) := (blk_cell BK150.out 4).trans rfl; have hfz5_0 := blk_frozen BK150.out 0; have hfz5_1 := blk_frozen BK150.out 1; have hfz5_2 := blk_frozen BK150.out 2; have hfz5_3 := blk_frozen BK150.out 3; have hfz5_4 := blk_frozen BK150.out 4) | ((with_reducible refine gate_dst (N := 3) rfl ?_); refine box_event ?hg (N := 3) ?hd (cs := #[.int .i64 0, .int .i64 0, .int .i64 0, .int .i64 0, .slice none 0 0]) (t := 69) ?hr ?_; (case hd => rfl); (case hg => rfl); (case hr => first | (go_simp; done) | (go_simp; rfl)); intro gb152 hg w6 hbox hb; have n0_ := asd (blk_below (g := gb150) (o := .cells #[.int .i64 a0_0, .int .i64 a0_1, .int .i64 a0_2, .int .i64 a0_3, .slice A0_4 l0_4.length c0_4] 63 (0, 0)) (by (with_reducible repeat first | apply bn | apply bd | apply ba); exact BK150.out) hb); have n1_ := asd (blk_below (g := gb151) (o := .cells #[.int .i64 0, .int .i64 0, .int .i64 0, .int .i64 0, .slice none 0 0] 69 (0, 0)) (by (with_reducible repeat first | apply bn | apply bd | apply ba); exact BK151.out) hb); have n2_ := asd (below_step (by repeat (first | (with_reducible first | exact HB.out | apply wa | apply wn | apply wd | refine ws ?_ GE150.out | refine ws ?_ GE151.out) | exact HB.out)) hb); have n3_ := asd (hbox); have n4_ := asd ((by rw [hg]; exact (below_size (by repeat (first | (with_reducible first | exact HB.out | apply wa | apply wn | apply wd | refine ws ?_ GE150.out | refine ws ?_ GE151.out) | exact HB.out))) : w.heap.size ≤ gb152)); have n5_ := asd ((by rw [hg]; exact (below_size (by repeat (first | (with_reducible first | exact HB.out | apply wa | apply wn | apply wd | refine ws ?_ GE150.out | refine ws ?_ GE151.out) | exact HB.out))) : w.heap.size ≤ gb152)); have n6_ := asd ((by rw [hg]; exact Nat.ne_of_lt (blk_lt (g := gb150) (o := .cells #[.int .i64 a0_0, .int .i64 a0_1, .int .i64 a0_2, .int .i64 a0_3, .slice A0_4 l0_4.length c0_4] 63 (0, 0)) (by (with_reducible repeat first | apply bn | apply bd | apply ba); exact BK150.out)) : gb150 ≠ gb152)); have n7_ := asd ((by rw [hg]; exact Nat.ne_of_gt (blk_lt (g := gb150) (o := .cells #[.int .i64 a0_0, .int .i64 a0_1, .int .i64 a0_2, .int .i64 a0_3, .slice A0_4 l0_4.length c0_4] 63 (0, 0)) (by (with_reducible repeat first | apply bn | apply bd | apply ba); exact BK150.out)) : gb152 ≠ gb150)); have n8_ := asd ((by rw [hg]; exact Nat.ne_of_lt (blk_lt (g := gb151) (o := .cells #[.int .i64 0, .int .i64 0, .int .i64 0, .int .i64 0, .slice none 0 0] 69 (0, 0)) (by (with_reducible repeat first | apply bn | apply bd | apply ba); exact BK151.out)) : gb151 ≠ gb152)); have n9_ := asd ((by rw [hg]; exact Nat.ne_of_gt (blk_lt (g := gb151) (o := .cells #[.int .i64 0, .int .i64 0, .int .i64 0, .int .i64 0, .slice none 0 0] 69 (0, 0)) (by (with_reducible repeat first | apply bn | apply bd | apply ba); exact BK151.out)) : gb152 ≠ gb151)); clear BK150; clear BK151; clear HB; have BK150 := n0_; have BK151 := n1_; have HB := n2_; have BK152 := n3_; have GW152 := n4_; have GE152 := n5_; have NB150_152 := n6_; have NB152_150 := n7_; have NB151_152 := n8_; have NB152_151 := n9_; clear n0_ n1_ n2_ n3_ n4_ n5_ n6_ n7_ n8_ n9_; clear hb hbox hg; have hnb7 := NB152_150.out; have hnc7 := NB150_152.out; have hnb8 := NB152_151.out; have hnc8 := NB151_152.out; have hcz9_0 : w6.cell? ⟨gb152, 0, none⟩ = some (.int .i64 0) := (blk_cell BK152.out 0).trans rfl; have hcz9_1 : w6.cell? ⟨gb152, 1, none⟩ = some (.int .i64 0) := (blk_cell BK152.out 1).trans rfl; have hcz9_2 : w6.cell? ⟨gb152, 2, none⟩ = some (.int .i64 0) := (blk_cell BK152.out 2).trans rfl; have hcz9_3 : w6.cell? ⟨gb152, 3, none⟩ = some (.int .i64 0) := (blk_cell BK152.out 3).trans rfl; have hcz9_4 : w6.cell? ⟨gb152, 4, none⟩ = some (.slice none 0 0) := (blk_cell BK152.out 4).trans rfl; have hfz9_0 := blk_frozen BK152.out 0; have hfz9_1 := blk_frozen BK152.out 1; have hfz9_2 := blk_frozen BK152.out 2; have hfz9_3 := blk_frozen BK152.out 3; have hfz9_4 := blk_frozen BK152.out 4))
 go_loopg [4] k (fun kq v4 w' => ∃ (x4_1 : Int) (x153004_1 : List (S76)) (u153004 : Value), v4 = .int .i64 x4_1 ∧ Aside0 (parcloselaw19_Job.l0 kq x4_1 a0_0 a0_1 a0_2 a0_3 l0_4 a0_0 a0_1 a0_2 a0_3 x153004_1 = some (r1, r2, r3, r4, r5)) ∧ Aside0 (kq ≤ k) ∧ Aside0 (Kd.R k76 76 w' w.heap.size (fun _ => True) u153004 x153004_1) ∧ Aside0 (w'.heap[gb150]? = some (.cells #[.int .i64 a0_0, .int .i64 a0_1, .int .i64 a0_2, .int .i64 a0_3, (.slice A0_4 l0_4.length c0_4)] 63 (0, 0))) ∧ Aside0 (w'.heap[gb151]? = some (.cells #[.int .i64 0, .int .i64 0, .int .i64 0, .int .i64 0, (.slice none 0 0)] 69 (0, 0))) ∧ Aside0 (w'.heap[gb152]? = some (.cells #[.int .i64 a0_0, .int .i64 a0_1, .int .i64 a0_2, .int .i64 a0_3, u153004] 69 (0, 0))) ∧ Aside0 (Below w.heap.size w w'))
 case atStart => exact ⟨(0), (([] : List (S76))), (.slice none 0 0), (by first | rfl | (simp; done) | (simp [*]; done)), H', ⟨Nat.le_refl _⟩, ⟨by first | exact Kd.R_nil _ _ _ _ _ | exact Kd.N_nil _ _ _ _ _ | exact Kd.V_nil _ _ _ _ _ | exact Kd.Q_nil _ _ _ _ _ | exact Kd.S_nil _ _ _ _ _⟩, ⟨by (with_reducible repeat first | apply bn | apply bd | apply ba); refine blk_far ?_ NB150_152.out _; (with_reducible repeat first | apply bn | apply bd | apply ba); refine blk_far ?_ NB150_152.out _; (with_reducible repeat first | apply bn | apply bd | apply ba); refine blk_far ?_ NB150_152.out _; (with_reducible repeat first | apply bn | apply bd | apply ba); refine blk_far ?_ NB150_152.out _; (with_reducible repeat first | apply bn | apply bd | apply ba); refine blk_far ?_ NB150_152.out _; (with_reducible repeat first | apply bn | apply bd | apply ba); exact BK150.out⟩, ⟨by (with_reducible repeat first | apply bn | apply bd | apply ba); refine blk_far ?_ NB151_152.out _; (with_reducible repeat first | apply bn | apply bd | apply ba); refine blk_far ?_ NB151_152.out _; (with_reducible repeat first | apply bn | apply bd | apply ba); refine blk_far ?_ NB151_152.out _; (with_reducible repeat first | apply bn | apply bd | apply ba); refine blk_far ?_ NB151_152.out _; (with_reducible repeat first | apply bn | apply bd | apply ba); refine blk_far ?_ NB151_152.out _; (with_reducible repeat first | apply bn | apply bd | apply ba); exact BK151.out⟩, ⟨by (with_reducible repeat first | apply bn | apply bd | apply ba); refine blk_put (cs := #[.int .i64 a0_0, .int .i64 a0_1, .int .i64 a0_2, .int .i64 a0_3, .slice none 0 0]) ?_ 4 _ rfl; (with_reducible repeat first | apply bn | apply bd | apply ba); refine blk_put (cs := #[.int .i64 a0_0, .int .i64 a0_1, .int .i64 a0_2, .int .i64 0, .slice none 0 0]) ?_ 3 _ rfl; (with_reducible repeat first | apply bn | apply bd | apply ba); refine blk_put (cs := #[.int .i64 a0_0, .int .i64 a0_1, .int .i64 0, .int .i64 0, .slice none 0 0]) ?_ 2 _ rfl; (with_reducible repeat first | apply bn | apply bd | apply ba); refine blk_put (cs := #[.int .i64 a0_0, .int .i64 0, .int .i64 0, .int .i64 0, .slice none 0 0]) ?_ 1 _ rfl; (with_reducible repeat first | apply bn | apply bd | apply ba); refine blk_put (cs := #[.int .i64 0, .int .i64 0, .int .i64 0, .int .i64 0, .slice none 0 0]) ?_ 0 _ rfl; (with_reducible repeat first | apply bn | apply bd | apply ba); exact BK152.out⟩, ⟨by repeat (first | (with_reducible first | exact HB.out | apply wa | apply wn | apply wd | refine ws ?_ GE150.out | refine ws ?_ GE151.out | refine ws ?_ GE152.out) | exact HB.out)⟩⟩
 case round =>
  clear H'
  try clear p2
  try clear c3
  try clear c4
  try clear c7
  try clear c8
  try clear hcz5_0
  try clear hcz5_1
  try clear hcz5_2
  try clear hcz5_3
  try clear hcz5_4
  try clear hcz9_0
  try clear hcz9_1
  try clear hcz9_2
  try clear hcz9_3
  try clear hcz9_4
  try clear hfz5_0
  try clear hfz5_1
  try clear hfz5_2
  try clear hfz5_3
  try clear hfz5_4
  try clear hfz9_0
  try clear hfz9_1
  try clear hfz9_2
  try clear hfz9_3
  try clear hfz9_4
  obtain ⟨x4_1, x153004_1, u153004, rfl, HA, HK1, HO_153004, BK150, BK151, BK152, HB⟩ := hrel
  cases gk with
  | zero => exact absurd HA.out (by simp [parcloselaw19_Job.l0])
  | succ k1 =>
   have H := HA.out
   clear HA
   simp only [parcloselaw19_Job.l0] at H
   by_cases c10 : x4_1 < (l0_4.length : Int)
   ·rw [if_pos c10] at H
    have c10b0 : decide (x4_1 < (l0_4.length : Int)) = true := decide_eq_true c10
    clear c10
    by_cases c11 : 0 ≤ x4_1
    ·rw [if_pos c11] at H
     have c11b0 : decide (0 ≤ x4_1) = true := decide_eq_true c11
     clear c11
     by_cases c12 : x153004_1.length < 5864062014805
     ·rw [if_pos c12] at H
      have LMc12 := asd c12
      clear c12
      obtain ⟨y154, hy154⟩ : ∃ y_ : List (S76), y_ = (x153004_1 ++ [(⟨(rd_T134 l0_4 x4_1).f0, (rd_T134 l0_4 x4_1).f1, (rd_T134 l0_4 x4_1).f2⟩ : S76)]) := ⟨_, rfl⟩
      replace H : (parcloselaw19_Job.l0 k1 (wrap64 (x4_1 + 1)) a0_0 a0_1 a0_2 a0_3 l0_4 a0_0 a0_1 a0_2 a0_3 y154) = some (r1, r2, r3, r4, r5) := by first | (rw [hy154]; with_reducible exact H) | (have H2_ := (Option.bind_some _ _).symm.trans H; rw [hy154]; with_reducible exact H2_) | (have H2_ := (Option.bind_some _ _).symm.trans H; with_reducible exact H2_) | with_reducible exact H | (rw [hy154]; exact H) | exact H
      have Ny154 := asd hy154
      clear hy154
      have H' := asd H
      clear H
      have hnb13 := NB150_151.out
      have hnc13 := NB151_150.out
      have hnb14 := NB150_152.out
      have hnc14 := NB152_150.out
      have hcz15_0 : wr.cell? ⟨gb150, 0, none⟩ = some (.int .i64 a0_0) := (blk_cell BK150.out 0).trans rfl
      have hcz15_1 : wr.cell? ⟨gb150, 1, none⟩ = some (.int .i64 a0_1) := (blk_cell BK150.out 1).trans rfl
      have hcz15_2 : wr.cell? ⟨gb150, 2, none⟩ = some (.int .i64 a0_2) := (blk_cell BK150.out 2).trans rfl
      have hcz15_3 : wr.cell? ⟨gb150, 3, none⟩ = some (.int .i64 a0_3) := (blk_cell BK150.out 3).trans rfl
      have hcz15_4 : wr.cell? ⟨gb150, 4, none⟩ = some (.slice A0_4 l0_4.length c0_4) := (blk_cell BK150.out 4).trans rfl
      have hfz15_0 := blk_frozen BK150.out 0
      have hfz15_1 := blk_frozen BK150.out 1
      have hfz15_2 := blk_frozen BK150.out 2
      have hfz15_3 := blk_frozen BK150.out 3
      have hfz15_4 := blk_frozen BK150.out 4
      try go_wp2
      have n0_ := asd (Kd.R_drew HO_153004.out)
      have n1_ := asd (blk_drew BK150.out)
      have n2_ := asd (blk_drew BK151.out)
      have n3_ := asd (blk_drew BK152.out)
      have n4_ := asd (below_drew1 HB.out)
      clear HO_153004
      clear BK150
      clear BK151
      clear BK152
      clear HB
      have HO_153004 := n0_
      have BK150 := n1_
      have BK151 := n2_
      have BK152 := n3_
      have HB := n4_
      clear n0_ n1_ n2_ n3_ n4_
      have p153 : 0 ≤ (x4_1 : Int) := of_decide_eq_true (by assumption)
      have q153 : x4_1 < (l0_4.length : Int) := of_decide_eq_true (by assumption)
      obtain ⟨ad153, e153, hx153_0, hx153_1, hx153_2⟩ := at_T134 HR0_4.out x4_1 p153 q153
      have hw153_2 := hx153_2
      have hw153_1 := hx153_1
      have hw153_0 := hx153_0
      cases e153
      replace hx153_0 := (HB.out.cell (World.block_lt_of_cell? w _ hx153_0)).trans hx153_0
      replace hx153_1 := (HB.out.cell (World.block_lt_of_cell? w _ hx153_1)).trans hx153_1
      replace hx153_2 := (HB.out.cell (World.block_lt_of_cell? w _ hx153_2)).trans hx153_2
      replace p153 := eq_true p153
      replace q153 := eq_true q153
      refine start_ (n := 11) (S := fun w' => w'.cell? ⟨gb152, 0, none⟩ = some (.int .i64 a0_0) ∧ w'.cell? ⟨gb152, 1, none⟩ = some (.int .i64 a0_1) ∧ w'.cell? ⟨gb152, 2, none⟩ = some (.int .i64 a0_2) ∧ w'.cell? ⟨gb152, 3, none⟩ = some (.int .i64 a0_3) ∧ w'.cell? ⟨gb152, 4, none⟩ = some (u153004) ∧ w'.cell? ⟨gb150, 0, none⟩ = some (.int .i64 a0_0) ∧ w'.cell? ⟨gb150, 1, none⟩ = some (.int .i64 a0_1) ∧ w'.cell? ⟨gb150, 2, none⟩ = some (.int .i64 a0_2) ∧ w'.cell? ⟨gb150, 3, none⟩ = some (.int .i64 a0_3) ∧ w'.cell? ⟨gb150, 4, none⟩ = some (.slice (some ad153) l0_4.length c0_4) ∧ w'.cell? (ad153.add ((x4_1).toNat * 3)) = some (.int .i64 ((rd_T134 l0_4 x4_1).f0)) ∧ w'.cell? ⟨(ad153.add ((x4_1).toNat * 3)).block, (ad153.add ((x4_1).toNat * 3)).off + 1, none⟩ = some (.int .i64 ((rd_T134 l0_4 x4_1).f1)) ∧ w'.cell? ⟨(ad153.add ((x4_1).toNat * 3)).block, (ad153.add ((x4_1).toNat * 3)).off + 2, none⟩ = some (.int .i64 ((rd_T134 l0_4 x4_1).f2))) (ds := [10]) #[false, false, false, false, false, false, false, false, false, false, false] (by kernel_rfl) rfl rfl ⟨(blk_cell BK152.out 0).trans rfl, (blk_cell BK152.out 1).trans rfl, (blk_cell BK152.out 2).trans rfl, (blk_cell BK152.out 3).trans rfl, (blk_cell BK152.out 4).trans rfl, (blk_cell BK150.out 0).trans rfl, (blk_cell BK150.out 1).trans rfl, (blk_cell BK150.out 2).trans rfl, (blk_cell BK150.out 3).trans rfl, (blk_cell BK150.out 4).trans rfl, ((HB.out.cell (World.block_lt_of_cell? w _ hw153_0)).trans hw153_0), ((HB.out.cell (World.block_lt_of_cell? w _ hw153_1)).trans hw153_1), ((HB.out.cell (World.block_lt_of_cell? w _ hw153_2)).trans hw153_2)⟩ (fun hHeld => ?_); refine with_tabW parcloselaw19_Job.tab5 parcloselaw19_Job.bits5 (fun HT_ HW_ => ?_)
      generalize wr.drew = w16 at HO_153004 BK150 BK151 BK152 HB hx153_0 hx153_1 hx153_2 hHeld ⊢
      refine pure_ (i := 0) (N := some 21) (v := ?_) (a' := ?_) #[true, false, false, false, false, false, false, false, false, false, false] rfl rfl (any_of HT_.out (by kernel_rfl)) (fun _ _ _ h => h) (Or.inl ⟨by rfl, ?_⟩) ?_ ?_
      rotate_left
      ·intro w'
       go_simp
       with_reducible rfl
      rotate_left
      ·simp only [Act.put, sB, i64_w, i32_w]
       rfl
      refine pure_ (i := 2) (N := some 23) (v := ?_) (a' := ?_) #[true, false, true, false, false, false, false, false, false, false, false] rfl rfl (any_of HT_.out (by kernel_rfl)) (fun _ _ _ h => h) (Or.inl ⟨by rfl, ?_⟩) ?_ ?_
      rotate_left
      ·intro w'
       go_simp
       with_reducible rfl
      rotate_left
      ·simp only [Act.put, sB, i64_w, i32_w]
       rfl
      refine pure_ (i := 4) (N := some 25) (v := ?_) (a' := ?_) #[true, false, true, false, true, false, false, false, false, false, false] rfl rfl (any_of HT_.out (by kernel_rfl)) (fun _ _ _ h => h) (Or.inl ⟨by rfl, ?_⟩) ?_ ?_
      rotate_left
      ·intro w'
       go_simp
       with_reducible rfl
      rotate_left
      ·simp only [Act.put, sB, i64_w, i32_w]
       rfl
      refine take_ (i := 1) (N := some 22) (v := ?_) (a' := ?_) #[true, true, true, false, true, false, false, false, false, false, false] rfl rfl (take_ofW HT_.out HW_.out (by kernel_rfl)) (fun _ _ _ h => h) (Or.inl ⟨by rfl, ?_⟩) hHeld ?_ ?_
      rotate_left
      ·rintro w' ⟨s0, s1, s2, s3, s4, s5, s6, s7, s8, s9, s10, s11, s12⟩
       go_simp
       with_reducible rfl
      rotate_left
      ·simp only [Act.put, sB, i64_w, i32_w]
       rfl
      refine take_ (i := 3) (N := some 24) (v := ?_) (a' := ?_) #[true, true, true, true, true, false, false, false, false, false, false] rfl rfl (take_ofW HT_.out HW_.out (by kernel_rfl)) (fun _ _ _ h => h) (Or.inl ⟨by rfl, ?_⟩) hHeld ?_ ?_
      rotate_left
      ·rintro w' ⟨s0, s1, s2, s3, s4, s5, s6, s7, s8, s9, s10, s11, s12⟩
       go_simp
       with_reducible rfl
      rotate_left
      ·simp only [Act.put, sB, i64_w, i32_w]
       rfl
      refine pure_ (i := 5) (N := some 26) (v := ?_) (a' := ?_) #[true, true, true, true, true, true, false, false, false, false, false] rfl rfl (any_of HT_.out (by kernel_rfl)) (fun _ _ _ h => h) (Or.inl ⟨by rfl, ?_⟩) ?_ ?_
      rotate_left
      ·intro w'
       go_simp
       with_reducible rfl
      rotate_left
      ·simp only [Act.put, sB, i64_w, i32_w]
       rfl
      refine take_ (i := 6) (N := some 27) (v := ?_) (a' := ?_) #[true, true, true, true, true, true, true, false, false, false, false] rfl rfl (take_ofW HT_.out HW_.out (by kernel_rfl)) (fun _ _ _ h => h) (Or.inl ⟨by rfl, ?_⟩) hHeld ?_ ?_
      rotate_left
      ·rintro w' ⟨s0, s1, s2, s3, s4, s5, s6, s7, s8, s9, s10, s11, s12⟩
       go_simp
       with_reducible rfl
      rotate_left
      ·simp only [Act.put, sB, i64_w, i32_w]
       rfl
      refine one_ (i := 7) (N := some 28) #[true, true, true, true, true, true, true, true, false, false, false] rfl rfl (one_of HT_.out (by kernel_rfl)) (by decide) (fun K hK => ?_)
      refine value_ (w1 := ?_) (v := ?_) (by rfl) rfl ?_ ?_
      rotate_left 2
      ·go_simp
       constructor
       ·rfl
       ·rfl
      refine hK.out _ _ ⟨(blk_cell (blk_alloc BK152.out _) 0).trans rfl, (blk_cell (blk_alloc BK152.out _) 1).trans rfl, (blk_cell (blk_alloc BK152.out _) 2).trans rfl, (blk_cell (blk_alloc BK152.out _) 3).trans rfl, (blk_cell (blk_alloc BK152.out _) 4).trans rfl, (blk_cell (blk_alloc BK150.out _) 0).trans rfl, (blk_cell (blk_alloc BK150.out _) 1).trans rfl, (blk_cell (blk_alloc BK150.out _) 2).trans rfl, (blk_cell (blk_alloc BK150.out _) 3).trans rfl, (blk_cell (blk_alloc BK150.out _) 4).trans rfl, (World.cell?_alloc_lt _ _ _ (World.block_lt_of_cell? _ _ (((HB.out.cell (World.block_lt_of_cell? w _ hw153_0)).trans hw153_0)))).trans (((HB.out.cell (World.block_lt_of_cell? w _ hw153_0)).trans hw153_0)), (World.cell?_alloc_lt _ _ _ (World.block_lt_of_cell? _ _ (((HB.out.cell (World.block_lt_of_cell? w _ hw153_1)).trans hw153_1)))).trans (((HB.out.cell (World.block_lt_of_cell? w _ hw153_1)).trans hw153_1)), (World.cell?_alloc_lt _ _ _ (World.block_lt_of_cell? _ _ (((HB.out.cell (World.block_lt_of_cell? w _ hw153_2)).trans hw153_2)))).trans (((HB.out.cell (World.block_lt_of_cell? w _ hw153_2)).trans hw153_2))⟩ (fun hHeld => ?_)
      clear hK K
      refine norm_ (a' := ?_) ?_ ?_
      rotate_left
      ·show Act.put _ (some 28) _ = _
       simp only [Act.put, sB, i64_w, i32_w]
       rfl
      refine one_ (i := 8) (N := some 29) #[true, true, true, true, true, true, true, true, true, false, false] rfl rfl (one_of HT_.out (by kernel_rfl)) (by decide) (fun K hK => ?_)
      refine Kd.R_append_step k76 (w0 := w) w.heap.size (by rfl) (.tmp 22) (.tmp 28) 67 76 (.agg #[(.int .i64 0), (.int .i64 0), (.int .i64 0)]) 24 rfl Try.underlying67 info76 rfl (by decide) (by omega) u153004 x153004_1 (⟨(rd_T134 l0_4 x4_1).f0, (rd_T134 l0_4 x4_1).f1, (rd_T134 l0_4 x4_1).f2⟩ : S76) [.int .i64 ((rd_T134 l0_4 x4_1).f0), .int .i64 ((rd_T134 l0_4 x4_1).f1), .int .i64 ((rd_T134 l0_4 x4_1).f2)] (fun _ => True) (fun _ => False) rfl rfl ?aP (fun _ hk => hk.elim) ?aF ?aO ?aB ?aS ?aL ?_
      (case aP => exact k76_mkM _ _ _ (⟨(rd_T134 l0_4 x4_1).f0, (rd_T134 l0_4 x4_1).f1, (rd_T134 l0_4 x4_1).f2⟩ : S76))
      (case aB => exact (by repeat (first | (with_reducible first | exact HB.out | apply wa | apply wn | apply wd | refine ws ?_ GE150.out | refine ws ?_ GE151.out | refine ws ?_ GE152.out) | exact HB.out)))
      (case aF => exact (fun _ _ => trivial))
      (case aO => exact (by (with_reducible repeat (first | apply Kd.R_alloc | apply Kd.R_drewN | apply Kd.R_drew)); exact HO_153004.out))
      (case aS => exact (below_size (by repeat (first | (with_reducible first | exact HB.out | apply wa | apply wn | apply wd | refine ws ?_ GE150.out | refine ws ?_ GE151.out | refine ws ?_ GE152.out) | exact HB.out))))
      (case aL => have := LMc12.out; omega)
      intro v155 w17 ho hb hg hat
      rw [← Ny154.out] at ho
      have n0_ := asd (blk_grown (g := gb150) (o := .cells #[.int .i64 a0_0, .int .i64 a0_1, .int .i64 a0_2, .int .i64 a0_3, .slice (some ad153) l0_4.length c0_4] 63 (0, 0)) (by (with_reducible repeat first | apply bn | apply bd | apply ba); exact BK150.out) hg (Kd.R_ne HO_153004.out BK150.out (by decide)))
      have n1_ := asd (blk_grown (g := gb151) (o := .cells #[.int .i64 0, .int .i64 0, .int .i64 0, .int .i64 0, .slice none 0 0] 69 (0, 0)) (by (with_reducible repeat first | apply bn | apply bd | apply ba); exact BK151.out) hg (Kd.R_ne HO_153004.out BK151.out (by decide)))
      have n2_ := asd (blk_grown (g := gb152) (o := .cells #[.int .i64 a0_0, .int .i64 a0_1, .int .i64 a0_2, .int .i64 a0_3, u153004] 69 (0, 0)) (by (with_reducible repeat first | apply bn | apply bd | apply ba); exact BK152.out) hg (Kd.R_ne HO_153004.out BK152.out (by decide)))
      have n3_ := asd (hb)
      have n4_ := asd (ho)
      clear BK150
      clear BK151
      clear BK152
      clear HB
      clear HO_153004
      have BK150 := n0_
      have BK151 := n1_
      have BK152 := n2_
      have HB := n3_
      have HO156 := n4_
      clear n0_ n1_ n2_ n3_ n4_
      clear ho hb hg hat
      obtain ⟨Ao18, co18, eo18⟩ := Kd.R_slice HO156.out
      (first | subst eo18 | (injection eo18 with f1_ f2_ f3_; have f4_ := f1_.symm; have f5_ := f3_.symm; clear f1_ f2_ f3_; subst f4_; subst f5_))
      refine hK.out _ _ ⟨(blk_cell BK152.out 0).trans rfl, (blk_cell BK152.out 1).trans rfl, (blk_cell BK152.out 2).trans rfl, (blk_cell BK152.out 3).trans rfl, (blk_cell BK152.out 4).trans rfl, (blk_cell BK150.out 0).trans rfl, (blk_cell BK150.out 1).trans rfl, (blk_cell BK150.out 2).trans rfl, (blk_cell BK150.out 3).trans rfl, (blk_cell BK150.out 4).trans rfl, ((HB.out.cell (World.block_lt_of_cell? w _ hw153_0)).trans hw153_0), ((HB.out.cell (World.block_lt_of_cell? w _ hw153_1)).trans hw153_1), ((HB.out.cell (World.block_lt_of_cell? w _ hw153_2)).trans hw153_2)⟩ (fun hHeld => ?_)
      clear hK K
      refine norm_ (a' := ?_) ?_ ?_
      rotate_left
      ·show Act.put _ (some 29) _ = _
       simp only [Act.put, sB, i64_w, i32_w]
       rfl
      refine pure_ (i := 9) (N := some 30) (v := ?_) (a' := ?_) #[true, true, true, true, true, true, true, true, true, true, false] rfl rfl (any_of HT_.out (by kernel_rfl)) (fun _ _ _ h => h) (Or.inl ⟨by rfl, ?_⟩) ?_ ?_
      rotate_left
      ·intro w'
       go_simp
       with_reducible rfl
      rotate_left
      ·simp only [Act.put, sB, i64_w, i32_w]
       rfl
      refine last_ (i := 10) (N := none) #[true, true, true, true, true, true, true, true, true, true, true] rfl rfl (one_of HT_.out (by kernel_rfl)) (by decide) (fun K hK => ?_)
      have hs19 : w17.cell? ⟨gb152, 4, none⟩ = some (u153004) := (blk_cell BK152.out 4).trans rfl
      have hfs19 := blk_frozen BK152.out 4
      have hns19_0 := NB150_152.out
      have hns19_1 := NB151_152.out
      have hms19_0 := NB152_150.out
      have hms19_1 := NB152_151.out
      refine skip_ (w1 := ?_) (by rfl) rfl ?_ ?_
      rotate_left
      ·go_simp
       rfl
      refine hK.out _ _ ?_
      clear hK K
      refine done_ (done_of HT_.out (by kernel_rfl)) ?_
      try go_wp2
      go_roundg k1
      case measure => have := HK1.out; omega
      case rel => exact ⟨(wrap64 (x4_1 + 1)), (y154), (.slice Ao18 y154.length co18), (by first | rfl | (simp; done) | (simp [*]; done)), H', ⟨by have := HK1.out; omega⟩, ⟨by (with_reducible repeat (first | apply Kd.R_alloc | apply Kd.R_drewN | apply Kd.R_drew)); exact Kd.R_mono (Kd.R_far (p := ⟨gb152, 4, none⟩) (Kd.R_types HO156.out BK152.out (by decide)) (fun _ hk => hk.2) (.slice Ao18 y154.length co18)) (fun _ hk => trivial)⟩, ⟨by (with_reducible repeat first | apply bn | apply bd | apply ba); refine blk_far ?_ NB150_152.out _; (with_reducible repeat first | apply bn | apply bd | apply ba); exact BK150.out⟩, ⟨by (with_reducible repeat first | apply bn | apply bd | apply ba); refine blk_far ?_ NB151_152.out _; (with_reducible repeat first | apply bn | apply bd | apply ba); exact BK151.out⟩, ⟨by (with_reducible repeat first | apply bn | apply bd | apply ba); refine blk_put (cs := #[.int .i64 a0_0, .int .i64 a0_1, .int .i64 a0_2, .int .i64 a0_3, u153004]) ?_ 4 _ rfl; (with_reducible repeat first | apply bn | apply bd | apply ba); exact BK152.out⟩, ⟨by repeat (first | (with_reducible first | exact HB.out | apply wa | apply wn | apply wd | refine ws ?_ GE150.out | refine ws ?_ GE151.out | refine ws ?_ GE152.out) | exact HB.out)⟩⟩
     ·rw [if_neg c12] at H
      exact absurd H (by simp)
    ·rw [if_neg c11] at H
     exact absurd H (by simp)
   ·rw [if_neg c10] at H
    have c10b0 : decide (x4_1 < (l0_4.length : Int)) = false := decide_eq_false c10
    clear c10
    simp only [Option.some.injEq, Prod.mk.injEq] at H
    obtain ⟨rfl, rfl, rfl, rfl, rfl⟩ := H
    have hnb20 := NB150_151.out
    have hnc20 := NB151_150.out
    have hnb21 := NB150_152.out
    have hnc21 := NB152_150.out
    have hcz22_0 : wr.cell? ⟨gb150, 0, none⟩ = some (.int .i64 a0_0) := (blk_cell BK150.out 0).trans rfl
    have hcz22_1 : wr.cell? ⟨gb150, 1, none⟩ = some (.int .i64 a0_1) := (blk_cell BK150.out 1).trans rfl
    have hcz22_2 : wr.cell? ⟨gb150, 2, none⟩ = some (.int .i64 a0_2) := (blk_cell BK150.out 2).trans rfl
    have hcz22_3 : wr.cell? ⟨gb150, 3, none⟩ = some (.int .i64 a0_3) := (blk_cell BK150.out 3).trans rfl
    have hcz22_4 : wr.cell? ⟨gb150, 4, none⟩ = some (.slice A0_4 l0_4.length c0_4) := (blk_cell BK150.out 4).trans rfl
    have hfz22_0 := blk_frozen BK150.out 0
    have hfz22_1 := blk_frozen BK150.out 1
    have hfz22_2 := blk_frozen BK150.out 2
    have hfz22_3 := blk_frozen BK150.out 3
    have hfz22_4 := blk_frozen BK150.out 4
    have hnb23 := NB152_151.out
    have hnc23 := NB151_152.out
    have hcz24_0 : wr.cell? ⟨gb152, 0, none⟩ = some (.int .i64 a0_0) := (blk_cell BK152.out 0).trans rfl
    have hcz24_1 : wr.cell? ⟨gb152, 1, none⟩ = some (.int .i64 a0_1) := (blk_cell BK152.out 1).trans rfl
    have hcz24_2 : wr.cell? ⟨gb152, 2, none⟩ = some (.int .i64 a0_2) := (blk_cell BK152.out 2).trans rfl
    have hcz24_3 : wr.cell? ⟨gb152, 3, none⟩ = some (.int .i64 a0_3) := (blk_cell BK152.out 3).trans rfl
    have hcz24_4 : wr.cell? ⟨gb152, 4, none⟩ = some (u153004) := (blk_cell BK152.out 4).trans rfl
    have hfz24_0 := blk_frozen BK152.out 0
    have hfz24_1 := blk_frozen BK152.out 1
    have hfz24_2 := blk_frozen BK152.out 2
    have hfz24_3 := blk_frozen BK152.out 3
    have hfz24_4 := blk_frozen BK152.out 4
    have hcz25_0 : wr.cell? ⟨gb151, 0, none⟩ = some (.int .i64 0) := (blk_cell BK151.out 0).trans rfl
    have hcz25_1 : wr.cell? ⟨gb151, 1, none⟩ = some (.int .i64 0) := (blk_cell BK151.out 1).trans rfl
    have hcz25_2 : wr.cell? ⟨gb151, 2, none⟩ = some (.int .i64 0) := (blk_cell BK151.out 2).trans rfl
    have hcz25_3 : wr.cell? ⟨gb151, 3, none⟩ = some (.int .i64 0) := (blk_cell BK151.out 3).trans rfl
    have hcz25_4 : wr.cell? ⟨gb151, 4, none⟩ = some (.slice none 0 0) := (blk_cell BK151.out 4).trans rfl
    have hfz25_0 := blk_frozen BK151.out 0
    have hfz25_1 := blk_frozen BK151.out 1
    have hfz25_2 := blk_frozen BK151.out 2
    have hfz25_3 := blk_frozen BK151.out 3
    have hfz25_4 := blk_frozen BK151.out 4
    obtain ⟨Ao26, co26, eo26⟩ := Kd.R_slice HO_153004.out
    subst eo26
    go_wp2
    refine bodyPost_ret (results_cell_row rfl _ _ gb151 69 #[.int .i64 a0_0, .int .i64 a0_1, .int .i64 a0_2, .int .i64 a0_3, .slice Ao26 x153004_1.length co26] (0, 0) _ rfl (by (with_reducible repeat first | apply bn | apply bd | apply ba); refine blk_put (cs := #[.int .i64 a0_0, .int .i64 a0_1, .int .i64 a0_2, .int .i64 a0_3, .slice none 0 0]) ?_ 4 _ rfl; (with_reducible repeat first | apply bn | apply bd | apply ba); refine blk_put (cs := #[.int .i64 a0_0, .int .i64 a0_1, .int .i64 a0_2, .int .i64 0, .slice none 0 0]) ?_ 3 _ rfl; (with_reducible repeat first | apply bn | apply bd | apply ba); refine blk_put (cs := #[.int .i64 a0_0, .int .i64 a0_1, .int .i64 0, .int .i64 0, .slice none 0 0]) ?_ 2 _ rfl; (with_reducible repeat first | apply bn | apply bd | apply ba); refine blk_put (cs := #[.int .i64 a0_0, .int .i64 0, .int .i64 0, .int .i64 0, .slice none 0 0]) ?_ 1 _ rfl; (with_reducible repeat first | apply bn | apply bd | apply ba); refine blk_put (cs := #[.int .i64 0, .int .i64 0, .int .i64 0, .int .i64 0, .slice none 0 0]) ?_ 0 _ rfl; (with_reducible repeat first | apply bn | apply bd | apply ba); exact BK151.out) Try.underlying69 rfl (by kernel_rfl)) rfl ?_
    exact ⟨_, by first | rfl | (simp [*] <;> rfl), by (with_reducible repeat (first | apply Kd.R_alloc | apply Kd.R_drewN | apply Kd.R_drew)); exact Kd.R_mono (Kd.R_far (p := ⟨gb151, 4, none⟩) (Kd.R_far (p := ⟨gb151, 3, none⟩) (Kd.R_far (p := ⟨gb151, 2, none⟩) (Kd.R_far (p := ⟨gb151, 1, none⟩) (Kd.R_far (p := ⟨gb151, 0, none⟩) (Kd.R_types HO_153004.out BK151.out (by decide)) (fun _ hk => hk.2) (.int .i64 a0_0)) (fun _ hk => hk.2) (.int .i64 a0_1)) (fun _ hk => hk.2) (.int .i64 a0_2)) (fun _ hk => hk.2) (.int .i64 a0_3)) (fun _ hk => hk.2) (.slice Ao26 x153004_1.length co26)) (fun _ hk => trivial), by repeat (first | (with_reducible first | exact HB.out | apply wa | apply wn | apply wd | refine ws ?_ GE150.out | refine ws ?_ GE151.out | refine ws ?_ GE152.out) | exact HB.out)⟩
end Go.Proofs.Ytjekfipaadbbbaa.Fn
namespace Go.Proofs.Ytjekfipaadbbbaa.Fn
open Go.RowKit Go.Proofs.YtjekfipaadbbbaaW.PrintWords Go.Proofs.YtjekfipaadbbbaaW.PrintLast Go.Proofs.YtjekfipaadbbbaaW.PrintMore
attribute [local go_sem] max2_int min2_int max_two min_two max_three min_three max_four min_four
set_option linter.unusedVariables false
set_option linter.unusedSimpArgs false
mutual
def parcloselaw19_light.l0 : Nat → List (S65) → Int → Option (Bool)
 | 0, _, _ => none
 | k + 1, x0, x3 => if x3 < (x0.length : Int) then (parcloselaw19_light.j1 k x0 x3 (decide (x3 < 150))) else (parcloselaw19_light.j1 k x0 x3 false)
def parcloselaw19_light.j1 : Nat → List (S65) → Int → Bool → Option (Bool)
 | 0, _, _, _ => none
 | k + 1, x0, x3, x11 => if x11 = true then (if 0 ≤ x3 then (if x3 < (x0.length : Int) then (if (((rd_T65 x0 x3).f2.f4).length : Int) > 70 then (some false) else (parcloselaw19_light.l0 k x0 (wrap64 (x3 + 1)))) else (none)) else (none)) else (some (decide ((x0.length : Int) ≤ 120)))
end
def parcloselaw19_light.f (k : Nat) (l0 : List (S65)) : Option (Bool) := parcloselaw19_light.l0 k l0 0
set_option maxHeartbeats 8000000 in
set_option maxRecDepth 100000 in
theorem parcloselaw19_light.calls (k : Nat) (A0 : Option Addr) (c0 : Nat) (l0 : List (S65)) (r : Bool) (w : World) (hr0 : Kd.C k65 w A0 l0.length l0) (hc0 : l0.length ≤ c0) (h : parcloselaw19_light.f k l0 = some r) :
  Calls Try.prog 35 #[.slice A0 l0.length c0] w fun e w' => e = .returned (.bool r) ∧ Drawn0 w w' := by
 have HR0 := asd hr0
 have HC0 := asd hc0
 clear hr0 hc0
 have H : (parcloselaw19_light.l0 k l0 0) = some r := h
 clear h
 have H' := asd H
 clear H
 go_enter Try.func35, Try.ntmps35
 go_wp2
 go_loopg [3] k (fun kq v3 w' => ∃ (x3_1 : Int), v3 = .int .i64 x3_1 ∧ Aside0 (parcloselaw19_light.l0 kq l0 x3_1 = some r) ∧ Aside0 (kq ≤ k) ∧ Drawn0 w w')
 case atStart => exact ⟨(0), (by first | rfl | (simp; done) | (simp [*]; done)), H', ⟨Nat.le_refl _⟩, by repeat (first | exact Drawn0.refl _ | apply Drawn0.step)⟩
 case round =>
  clear H'
  obtain ⟨x3_1, rfl, HA, HK1, ⟨m1, rfl⟩⟩ := hrel
  cases gk with
  | zero => exact absurd HA.out (by simp [parcloselaw19_light.l0])
  | succ k1 =>
   have H := HA.out
   clear HA
   simp only [parcloselaw19_light.l0] at H
   have HC2 := asd H
   clear H
   go_upto_region 2 with (fail)
   go_cut [11] (fun v11 wc => ∃ (kq : Nat) (x11_1 : Bool), v11 = .bool x11_1 ∧ Aside0 (parcloselaw19_light.j1 kq l0 x3_1 x11_1 = some r) ∧ Aside0 (kq ≤ k1) ∧ Drawn0 w wc)
   case first =>
    have H := HC2.out
    clear HC2
    by_cases c3 : x3_1 < (l0.length : Int)
    ·rw [if_pos c3] at H
     have c3b0 : decide (x3_1 < (l0.length : Int)) = true := decide_eq_true c3
     clear c3
     (first | rw [c3b0] | (simp only [i64_w, i32_w]; rw [c3b0]) | skip)
     have H' := asd H
     clear H
     go_wp2
     go_meet
     case rel => exact ⟨_, (decide (x3_1 < 150)), (by first | rfl | (simp; done) | (simp [*]; done)), H', ⟨by have := HK1.out; first | omega | exact Nat.le_refl _⟩, by repeat (first | exact Drawn0.refl _ | apply Drawn0.step)⟩
    ·rw [if_neg c3] at H
     have c3b0 : decide (x3_1 < (l0.length : Int)) = false := decide_eq_false c3
     clear c3
     (first | rw [c3b0] | (simp only [i64_w, i32_w]; rw [c3b0]) | skip)
     have H' := asd H
     clear H
     go_wp2
     go_meet
     case rel => exact ⟨_, (false), (by first | rfl | (simp; done) | (simp [*]; done)), H', ⟨by have := HK1.out; first | omega | exact Nat.le_refl _⟩, by repeat (first | exact Drawn0.refl _ | apply Drawn0.step)⟩
   case rest =>
    clear HC2
    try clear p2
    try clear c3
    try clear c3b0
    obtain ⟨kq, x11_1, rfl, HA, HJ1, ⟨mc1, rfl⟩⟩ := hcut
    cases kq with
    | zero => exact absurd HA.out (by simp [parcloselaw19_light.j1])
    | succ kj1 =>
     have H := HA.out
     clear HA
     simp only [parcloselaw19_light.j1] at H
     by_cases c4 : x11_1 = true
     ·subst c4
      have H1 : (if 0 ≤ x3_1 then (if x3_1 < (l0.length : Int) then (if (((rd_T65 l0 x3_1).f2.f4).length : Int) > 70 then (some false) else (parcloselaw19_light.l0 kj1 l0 (wrap64 (x3_1 + 1)))) else (none)) else (none)) = some r := by rw [if_pos rfl] at H; exact H
      clear H
      have H := H1
      clear H1
      by_cases c5 : 0 ≤ x3_1
      ·rw [if_pos c5] at H
       have c5b0 : decide (0 ≤ x3_1) = true := decide_eq_true c5
       clear c5
       by_cases c6 : x3_1 < (l0.length : Int)
       ·rw [if_pos c6] at H
        have c6b0 : decide (x3_1 < (l0.length : Int)) = true := decide_eq_true c6
        clear c6
        by_cases c7 : (((rd_T65 l0 x3_1).f2.f4).length : Int) > 70
        ·rw [if_pos c7] at H
         have c7b0 : decide (70 < (((rd_T65 l0 x3_1).f2.f4).length : Int)) = true := decide_eq_true c7
         have c7b1 : decide (70 < ((rd_T65 l0 x3_1).f2.f4).length) = true := decide_eq_true (by omega)
         clear c7
         obtain rfl := Option.some.inj H
         have p145 : 0 ≤ (x3_1 : Int) := of_decide_eq_true (by assumption)
         have q145 : x3_1 < (l0.length : Int) := of_decide_eq_true (by assumption)
         obtain ⟨ad145, A145_6, c145_6, e145, hx145_0, hx145_1, hx145_2, hx145_3, hx145_4, hx145_5, hx145_6, hl145_6, hi145_6⟩ := at_T65 HR0.out x3_1 p145 q145
         cases e145
         have HR145_6 := asd hi145_6
         have HC145_6 := asd hl145_6
         clear hi145_6 hl145_6
         replace p145 := eq_true p145
         replace q145 := eq_true q145
         go_wp2
         go_ret
         exact ⟨by first | rfl | (simp; done) | (simp [*]; done), by repeat (first | exact Drawn0.refl _ | apply Drawn0.step)⟩
        ·rw [if_neg c7] at H
         have c7b0 : decide (70 < (((rd_T65 l0 x3_1).f2.f4).length : Int)) = false := decide_eq_false c7
         have c7b1 : decide (70 < ((rd_T65 l0 x3_1).f2.f4).length) = false := decide_eq_false (by omega)
         clear c7
         have H' := asd H
         clear H
         have p145 : 0 ≤ (x3_1 : Int) := of_decide_eq_true (by assumption)
         have q145 : x3_1 < (l0.length : Int) := of_decide_eq_true (by assumption)
         obtain ⟨ad145, A145_6, c145_6, e145, hx145_0, hx145_1, hx145_2, hx145_3, hx145_4, hx145_5, hx145_6, hl145_6, hi145_6⟩ := at_T65 HR0.out x3_1 p145 q145
         cases e145
         have HR145_6 := asd hi145_6
         have HC145_6 := asd hl145_6
         clear hi145_6 hl145_6
         replace p145 := eq_true p145
         replace q145 := eq_true q145
         go_wp2
         go_roundg kj1
         case measure => have := HK1.out; have := HJ1.out; omega
         case rel => exact ⟨(wrap64 (x3_1 + 1)), (by first | rfl | (simp; done) | (simp [*]; done)), H', ⟨by have := HK1.out; have := HJ1.out; omega⟩, by repeat (first | exact Drawn0.refl _ | apply Drawn0.step)⟩
       ·rw [if_neg c6] at H
        exact absurd H (by simp)
      ·rw [if_neg c5] at H
       exact absurd H (by simp)
     ·replace c4 := Bool.eq_false_iff.mpr c4
      subst c4
      have H1 : (some (decide ((l0.length : Int) ≤ 120))) = some r := by rw [if_neg (show ¬ (false = true) by decide)] at H; exact H
      clear H
      have H := H1
      clear H1
      obtain rfl := Option.some.inj H
      go_wp2
      go_ret
      exact ⟨by first | rfl | (simp; done) | (simp [*]; done), by repeat (first | exact Drawn0.refl _ | apply Drawn0.step)⟩
end Go.Proofs.Ytjekfipaadbbbaa.Fn
namespace Go.Proofs.Ytjekfipaadbbbaa.Fn
open Go.RowKit Go.Proofs.YtjekfipaadbbbaaW.PrintWords Go.Proofs.YtjekfipaadbbbaaW.PrintLast Go.Proofs.YtjekfipaadbbbaaW.PrintMore
attribute [local go_sem] max2_int min2_int max_two min_two max_three min_three max_four min_four
set_option linter.unusedVariables false
set_option linter.unusedSimpArgs false
def parcloselaw19_num.f (a0 : Int) : Option (Int) := some a0
set_option maxHeartbeats 8000000 in
set_option maxRecDepth 100000 in
theorem parcloselaw19_num.calls (a0 : Int) (r : Int) (w : World) (h : parcloselaw19_num.f a0 = some r) :
  Calls Try.prog 37 #[.int .i64 a0] w fun e w' => e = .returned (.int .i64 r) ∧ Drawn0 w w' := by
 have H : (some a0) = some r := h
 clear h
 obtain rfl := Option.some.inj H
 go_enter Try.func37, Try.ntmps37
 go_wp2
 go_ret
 exact ⟨by first | rfl | (simp; done) | (simp [*]; done), by repeat (first | exact Drawn0.refl _ | apply Drawn0.step)⟩
end Go.Proofs.Ytjekfipaadbbbaa.Fn
namespace Go.Proofs.Ytjekfipaadbbbaa.Fn
open Go.RowKit Go.Proofs.YtjekfipaadbbbaaW.PrintWords Go.Proofs.YtjekfipaadbbbaaW.PrintLast Go.Proofs.YtjekfipaadbbbaaW.PrintMore
set_option linter.unusedVariables false
set_option linter.unusedSimpArgs false
theorem results_row1 {P : Program} {fn : Func} {p : Tmp} {ty : TypeId} (h : fn.results = #[.cell p ty]) (tmps : Array Value) (w : World) (g : Nat) (t : TypeId) (cs : Array Value) (fr : Nat × Nat) (d : TypeDesc)
  (hp : tmps.getD p undef = .pointer (some ⟨g, 0, none⟩)) (hg : w.heap[g]? = some (.cells cs t fr))
  (hu : P.underlying ty = some d) (hd : (match d with | .struct _ | .array _ _ => true | _ => false) = true) (hi : (P.info? ty).map (·.size) = some cs.size) :
  (results fn tmps).run P w = .ok (.agg cs) w := by
 have hp' : tmps[p]?.getD undef = .pointer (some ⟨g, 0, none⟩) := by simpa using hp
 simp [results, h, hp', asAddr, run_loadVar_row w g t ty cs fr d hg hu hd hi]
theorem results_row2 {P : Program} {fn : Func} {p q : Tmp} {ty : TypeId} (h : fn.results = #[.cell p ty, .tmp q]) (tmps : Array Value) (w : World) (g : Nat) (t : TypeId) (cs : Array Value) (fr : Nat × Nat) (d : TypeDesc) (v : Value)
  (hp : tmps.getD p undef = .pointer (some ⟨g, 0, none⟩)) (hq : tmps.getD q undef = v) (hg : w.heap[g]? = some (.cells cs t fr))
  (hu : P.underlying ty = some d) (hd : (match d with | .struct _ | .array _ _ => true | _ => false) = true) (hi : (P.info? ty).map (·.size) = some cs.size) :
  (results fn tmps).run P w = .ok (.tuple #[.agg cs, v]) w := by
 have hp' : tmps[p]?.getD undef = .pointer (some ⟨g, 0, none⟩) := by simpa using hp
 have hq' : tmps[q]?.getD undef = v := by simpa using hq
 simp [results, h, hp', hq', asAddr, run_loadVar_row w g t ty cs fr d hg hu hd hi]
def DeadT (w : World) (v : Value) : Prop := v = .pointer none ∨ ∃ g, v = .pointer (some ⟨g, 0, none⟩) ∧ w.heap[g]? = some (.cells #[.slice none 0 0, .pointer none, .bool false] 93 (0, 0))
section
variable {w : World} {v : Value}
theorem DeadT.below {w1 : World} (h : DeadT w v) (hb : Below w.heap.size w w1) : DeadT w1 v := by
 rcases h with rfl | ⟨g, rfl, hc⟩
 ·exact .inl rfl
 ·exact .inr ⟨g, rfl, blk_below hc hb⟩
end
end Go.Proofs.Ytjekfipaadbbbaa.Fn
namespace Go.Proofs.Ytjekfipaadbbbaa.Fn
open Go.RowKit Go.Proofs.YtjekfipaadbbbaaW.PrintWords Go.Proofs.YtjekfipaadbbbaaW.PrintLast Go.Proofs.YtjekfipaadbbbaaW.PrintMore
attribute [local go_sem] max2_int min2_int max_two min_two max_three min_three max_four min_four
set_option linter.unusedVariables false
set_option linter.unusedSimpArgs false
def cmp_isNaN_int.f (a0 : Int) : Option (Bool) := some (a0 != a0)
set_option maxHeartbeats 8000000 in
set_option maxRecDepth 100000 in
theorem cmp_isNaN_int.calls (a0 : Int) (r : Bool) (w : World) (h : cmp_isNaN_int.f a0 = some r) :
  Calls Try.prog 127 #[.int .i64 a0] w fun e w' => e = .returned (.bool r) ∧ Drawn0 w w' := by
 have H : (some (a0 != a0)) = some r := h
 clear h
 obtain rfl := Option.some.inj H
 go_enter Try.func127, Try.ntmps127
 go_wp2
 go_ret
 exact ⟨by first | rfl | (simp; done) | (simp [*]; done), by repeat (first | exact Drawn0.refl _ | apply Drawn0.step)⟩
end Go.Proofs.Ytjekfipaadbbbaa.Fn
namespace Go.Proofs.Ytjekfipaadbbbaa.Fn
open Go.RowKit Go.Proofs.YtjekfipaadbbbaaW.PrintWords Go.Proofs.YtjekfipaadbbbaaW.PrintLast Go.Proofs.YtjekfipaadbbbaaW.PrintMore
attribute [local go_sem] max2_int min2_int max_two min_two max_three min_three max_four min_four
set_option linter.unusedVariables false
set_option linter.unusedSimpArgs false
def cmp_Less_int.f (a0 : Int) (a1 : Int) : Option (Bool) := (cmp_isNaN_int.f a0).bind fun t118 => (if t118 = true then ((cmp_isNaN_int.f a1).bind fun t119 => (if t119 = true then (some (decide (a0 < a1))) else (some true))) else (some (decide (a0 < a1))))
set_option maxHeartbeats 8000000 in
set_option maxRecDepth 100000 in
theorem cmp_Less_int.calls (a0 : Int) (a1 : Int) (r : Bool) (w : World) (h : cmp_Less_int.f a0 a1 = some r) :
  Calls Try.prog 116 #[.int .i64 a0, .int .i64 a1] w fun e w' => e = .returned (.bool r) ∧ Drawn0 w w' := by
 have H : ((cmp_isNaN_int.f a0).bind fun t118 => (if t118 = true then ((cmp_isNaN_int.f a1).bind fun t119 => (if t119 = true then (some (decide (a0 < a1))) else (some true))) else (some (decide (a0 < a1))))) = some r := h
 clear h
 replace H := Option.bind_eq_some_iff.mp H
 obtain ⟨t118, A30, H⟩ := H
 replace H : (if t118 = true then ((cmp_isNaN_int.f a1).bind fun t119 => (if t119 = true then (some (decide (a0 < a1))) else (some true))) else (some (decide (a0 < a1)))) = some r := H
 have A3 := asd A30
 clear A30
 by_cases c4 : t118 = true
 ·subst c4
  have H1 : ((cmp_isNaN_int.f a1).bind fun t119 => (if t119 = true then (some (decide (a0 < a1))) else (some true))) = some r := by rw [if_pos rfl] at H; exact H
  clear H
  have H := H1
  clear H1
  replace H := Option.bind_eq_some_iff.mp H
  obtain ⟨t119, A50, H⟩ := H
  replace H : (if t119 = true then (some (decide (a0 < a1))) else (some true)) = some r := H
  have A5 := asd A50
  clear A50
  by_cases c6 : t119 = true
  ·subst c6
   have H1 : (some (decide (a0 < a1))) = some r := by rw [if_pos rfl] at H; exact H
   clear H
   have H := H1
   clear H1
   obtain rfl := Option.some.inj H
   go_enter Try.func116, Try.ntmps116
   go_wp2_with (first | ((with_reducible refine gate_callee (f := 127) rfl ?_); refine goesL_ (some 6) rfl rfl Try.func127 (by kernel_rfl) rfl #[.int .i64 a0] rfl (by (try simp only [List.map_toArray, List.map_cons, List.map_nil]); first | done | rfl | (simp only [List.length_drop, List.length_take]; rfl)) ?_; (with_reducible refine (cmp_isNaN_int.calls a0 true _ A3.out).mono ?_); rintro e w' ⟨rfl, ⟨nd, rfl⟩⟩; refine ⟨_, rfl, ?_⟩) | (go_at_call 127; (with_reducible refine (cmp_isNaN_int.calls a1 true _ A5.out).mono ?_); rintro e w' ⟨rfl, ⟨nd, rfl⟩⟩))
   go_ret
   exact ⟨by first | rfl | (simp; done) | (simp [*]; done), by repeat (first | exact Drawn0.refl _ | apply Drawn0.step)⟩
  ·replace c6 := Bool.eq_false_iff.mpr c6
   subst c6
   have H1 : (some true) = some r := by rw [if_neg (show ¬ (false = true) by decide)] at H; exact H
   clear H
   have H := H1
   clear H1
   obtain rfl := Option.some.inj H
   go_enter Try.func116, Try.ntmps116
   go_wp2_with (first | ((with_reducible refine gate_callee (f := 127) rfl ?_); refine goesL_ (some 6) rfl rfl Try.func127 (by kernel_rfl) rfl #[.int .i64 a0] rfl (by (try simp only [List.map_toArray, List.map_cons, List.map_nil]); first | done | rfl | (simp only [List.length_drop, List.length_take]; rfl)) ?_; (with_reducible refine (cmp_isNaN_int.calls a0 true _ A3.out).mono ?_); rintro e w' ⟨rfl, ⟨nd, rfl⟩⟩; refine ⟨_, rfl, ?_⟩) | (go_at_call 127; (with_reducible refine (cmp_isNaN_int.calls a1 false _ A5.out).mono ?_); rintro e w' ⟨rfl, ⟨nd, rfl⟩⟩))
   go_ret
   exact ⟨by first | rfl | (simp; done) | (simp [*]; done), by repeat (first | exact Drawn0.refl _ | apply Drawn0.step)⟩
 ·replace c4 := Bool.eq_false_iff.mpr c4
  subst c4
  have H1 : (some (decide (a0 < a1))) = some r := by rw [if_neg (show ¬ (false = true) by decide)] at H; exact H
  clear H
  have H := H1
  clear H1
  obtain rfl := Option.some.inj H
  go_enter Try.func116, Try.ntmps116
  go_wp2_with (first | ((with_reducible refine gate_callee (f := 127) rfl ?_); refine goesL_ (some 6) rfl rfl Try.func127 (by kernel_rfl) rfl #[.int .i64 a0] rfl (by (try simp only [List.map_toArray, List.map_cons, List.map_nil]); first | done | rfl | (simp only [List.length_drop, List.length_take]; rfl)) ?_; (with_reducible refine (cmp_isNaN_int.calls a0 false _ A3.out).mono ?_); rintro e w' ⟨rfl, ⟨nd, rfl⟩⟩; refine ⟨_, rfl, ?_⟩))
  go_ret
  exact ⟨by first | rfl | (simp; done) | (simp [*]; done), by repeat (first | exact Drawn0.refl _ | apply Drawn0.step)⟩
end Go.Proofs.Ytjekfipaadbbbaa.Fn
namespace Go.Proofs.Ytjekfipaadbbbaa.Fn
open Go.RowKit Go.Proofs.YtjekfipaadbbbaaW.PrintWords Go.Proofs.YtjekfipaadbbbaaW.PrintLast Go.Proofs.YtjekfipaadbbbaaW.PrintMore
attribute [local go_sem] max2_int min2_int max_two min_two max_three min_three max_four min_four
set_option linter.unusedVariables false
set_option linter.unusedSimpArgs false
def slices_IsSorted_int_int.l0 : Nat → List Int → Int → Option (Bool)
 | 0, _, _ => none
 | k + 1, x0, x3 => if x3 > 0 then (if 0 ≤ x3 then (if x3 < (x0.length : Int) then (if 0 ≤ (wrap64 (x3 - 1)) then (if (wrap64 (x3 - 1)) < (x0.length : Int) then ((cmp_Less_int.f (rd x0 x3) (rd x0 (wrap64 (x3 - 1)))).bind fun t122 => (if t122 = true then (some false) else (slices_IsSorted_int_int.l0 k x0 (wrap64 (x3 - 1))))) else (none)) else (none)) else (none)) else (none)) else (some true)
def slices_IsSorted_int_int.f (k : Nat) (l0 : List Int) : Option (Bool) := slices_IsSorted_int_int.l0 k l0 (wrap64 ((l0.length : Int) - 1))
set_option maxHeartbeats 8000000 in
set_option maxRecDepth 100000 in
theorem slices_IsSorted_int_int.calls (k : Nat) (A0 : Option Addr) (c0 : Nat) (l0 : List Int) (r : Bool) (w : World) (hr0 : Kd.C (Kd.int .i64) w A0 l0.length l0) (hc0 : l0.length ≤ c0) (h : slices_IsSorted_int_int.f k l0 = some r) :
  Calls Try.prog 107 #[.slice A0 l0.length c0] w fun e w' => e = .returned (.bool r) ∧ Drawn0 w w' := by
 have HR0 := asd hr0
 have HC0 := asd hc0
 clear hr0 hc0
 have H : (slices_IsSorted_int_int.l0 k l0 (wrap64 ((l0.length : Int) - 1))) = some r := h
 clear h
 have H' := asd H
 clear H
 go_enter Try.func107, Try.ntmps107
 go_wp2
 repeat (go_quiet (fail); try go_wp2)
 go_loopg [3] k (fun kq v3 w' => ∃ (x3_1 : Int), v3 = .int .i64 x3_1 ∧ Aside0 (slices_IsSorted_int_int.l0 kq l0 x3_1 = some r) ∧ Aside0 (kq ≤ k) ∧ Drawn0 w w')
 case atStart => exact ⟨(wrap64 ((l0.length : Int) - 1)), (by first | rfl | (simp; done) | (simp [*]; done)), H', ⟨Nat.le_refl _⟩, by repeat (first | exact Drawn0.refl _ | apply Drawn0.step)⟩
 case round =>
  clear H'
  try clear c1
  obtain ⟨x3_1, rfl, HA, HK1, ⟨m1, rfl⟩⟩ := hrel
  cases gk with
  | zero => exact absurd HA.out (by simp [slices_IsSorted_int_int.l0])
  | succ k1 =>
   have H := HA.out
   clear HA
   simp only [slices_IsSorted_int_int.l0] at H
   by_cases c2 : x3_1 > 0
   ·rw [if_pos c2] at H
    have c2b0 : decide (0 < x3_1) = true := decide_eq_true c2
    clear c2
    by_cases c3 : 0 ≤ x3_1
    ·rw [if_pos c3] at H
     have c3b0 : decide (0 ≤ x3_1) = true := decide_eq_true c3
     clear c3
     by_cases c4 : x3_1 < (l0.length : Int)
     ·rw [if_pos c4] at H
      have c4b0 : decide (x3_1 < (l0.length : Int)) = true := decide_eq_true c4
      clear c4
      obtain ⟨ji5, hji5⟩ : ∃ j_ : Int, (wrap64 (x3_1 - 1)) = j_ := ⟨_, rfl⟩
      replace H : (if 0 ≤ (ji5) then (if (ji5) < (l0.length : Int) then ((cmp_Less_int.f (rd l0 x3_1) (rd l0 (ji5))).bind fun t122 => (if t122 = true then (some false) else (slices_IsSorted_int_int.l0 k1 l0 ji5))) else (none)) else (none)) = some r := by first | (rw [hji5] at H; exact H) | (simp only [hji5] at H ⊢; exact H)
      have hji5w : (IntKind.i64.wrap (x3_1 - 1)) = ji5 := (i64_w _).trans hji5
      by_cases c6 : 0 ≤ (ji5)
      ·rw [if_pos c6] at H
       have c6b0 : decide (0 ≤ (ji5)) = true := decide_eq_true c6
       clear c6
       by_cases c7 : (ji5) < (l0.length : Int)
       ·rw [if_pos c7] at H
        have c7b0 : decide ((ji5) < (l0.length : Int)) = true := decide_eq_true c7
        clear c7
        replace H := Option.bind_eq_some_iff.mp H
        obtain ⟨t122, A80, H⟩ := H
        replace H : (if t122 = true then (some false) else (slices_IsSorted_int_int.l0 k1 l0 ji5)) = some r := H
        have A8 := asd A80
        clear A80
        by_cases c9 : t122 = true
        ·subst c9
         have H1 : (some false) = some r := by rw [if_pos rfl] at H; exact H
         clear H
         have H := H1
         clear H1
         obtain rfl := Option.some.inj H
         have p120 : 0 ≤ (x3_1 : Int) := of_decide_eq_true (by assumption)
         have q120 : x3_1 < (l0.length : Int) := of_decide_eq_true (by assumption)
         obtain ⟨ad120, e120, hx120_0⟩ := Kd.at_int HR0.out x3_1 p120 q120
         cases e120
         replace p120 := eq_true p120
         replace q120 := eq_true q120
         have p121 : 0 ≤ ((ji5) : Int) := of_decide_eq_true (by assumption)
         have q121 : (ji5) < (l0.length : Int) := of_decide_eq_true (by assumption)
         obtain ⟨ad121, e121, hx121_0⟩ := Kd.at_int HR0.out (ji5) p121 q121
         obtain rfl : ad120 = ad121 := (by injection e121)
         replace p121 := eq_true p121
         replace q121 := eq_true q121
         go_wp2_with (first | (go_at_call 116; (with_reducible refine (cmp_Less_int.calls (rd l0 x3_1) (rd l0 (ji5)) true _ A8.out).mono ?_); rintro e w' ⟨rfl, ⟨nd, rfl⟩⟩; (try first | exact ⟨rfl, _, World.drewN_drewN _ _ _⟩ | exact ⟨rfl, _, Eq.trans (World.drewN_drewN _ _ _) (congrArg (World.drewN _) (Nat.add_assoc _ _ _))⟩)))
         repeat (go_quiet (first | (go_at_call 116; (with_reducible refine (cmp_Less_int.calls (rd l0 x3_1) (rd l0 (ji5)) true _ A8.out).mono ?_); rintro e w' ⟨rfl, ⟨nd, rfl⟩⟩; (try first | exact ⟨rfl, _, World.drewN_drewN _ _ _⟩ | exact ⟨rfl, _, Eq.trans (World.drewN_drewN _ _ _) (congrArg (World.drewN _) (Nat.add_assoc _ _ _))⟩))); try go_wp2_with (first | (go_at_call 116; (with_reducible refine (cmp_Less_int.calls (rd l0 x3_1) (rd l0 (ji5)) true _ A8.out).mono ?_); rintro e w' ⟨rfl, ⟨nd, rfl⟩⟩; (try first | exact ⟨rfl, _, World.drewN_drewN _ _ _⟩ | exact ⟨rfl, _, Eq.trans (World.drewN_drewN _ _ _) (congrArg (World.drewN _) (Nat.add_assoc _ _ _))⟩))))
         go_ret
         exact ⟨by first | rfl | (simp; done) | (simp only [← hji5] <;> (first | rfl | simp)) | (simp [*]; done), by repeat (first | exact Drawn0.refl _ | apply Drawn0.step)⟩
        ·replace c9 := Bool.eq_false_iff.mpr c9
         subst c9
         have H1 : (slices_IsSorted_int_int.l0 k1 l0 ji5) = some r := by rw [if_neg (show ¬ (false = true) by decide)] at H; exact H
         clear H
         have H := H1
         clear H1
         have H' := asd H
         clear H
         have p120 : 0 ≤ (x3_1 : Int) := of_decide_eq_true (by assumption)
         have q120 : x3_1 < (l0.length : Int) := of_decide_eq_true (by assumption)
         obtain ⟨ad120, e120, hx120_0⟩ := Kd.at_int HR0.out x3_1 p120 q120
         cases e120
         replace p120 := eq_true p120
         replace q120 := eq_true q120
         have p121 : 0 ≤ ((ji5) : Int) := of_decide_eq_true (by assumption)
         have q121 : (ji5) < (l0.length : Int) := of_decide_eq_true (by assumption)
         obtain ⟨ad121, e121, hx121_0⟩ := Kd.at_int HR0.out (ji5) p121 q121
         obtain rfl : ad120 = ad121 := (by injection e121)
         replace p121 := eq_true p121
         replace q121 := eq_true q121
         go_wp2_with (first | (go_at_call 116; (with_reducible refine (cmp_Less_int.calls (rd l0 x3_1) (rd l0 (ji5)) false _ A8.out).mono ?_); rintro e w' ⟨rfl, ⟨nd, rfl⟩⟩; (try first | exact ⟨rfl, _, World.drewN_drewN _ _ _⟩ | exact ⟨rfl, _, Eq.trans (World.drewN_drewN _ _ _) (congrArg (World.drewN _) (Nat.add_assoc _ _ _))⟩)))
         repeat (go_quiet (first | (go_at_call 116; (with_reducible refine (cmp_Less_int.calls (rd l0 x3_1) (rd l0 (ji5)) false _ A8.out).mono ?_); rintro e w' ⟨rfl, ⟨nd, rfl⟩⟩; (try first | exact ⟨rfl, _, World.drewN_drewN _ _ _⟩ | exact ⟨rfl, _, Eq.trans (World.drewN_drewN _ _ _) (congrArg (World.drewN _) (Nat.add_assoc _ _ _))⟩))); try go_wp2_with (first | (go_at_call 116; (with_reducible refine (cmp_Less_int.calls (rd l0 x3_1) (rd l0 (ji5)) false _ A8.out).mono ?_); rintro e w' ⟨rfl, ⟨nd, rfl⟩⟩; (try first | exact ⟨rfl, _, World.drewN_drewN _ _ _⟩ | exact ⟨rfl, _, Eq.trans (World.drewN_drewN _ _ _) (congrArg (World.drewN _) (Nat.add_assoc _ _ _))⟩))))
         go_roundg k1
         case measure => have := HK1.out; omega
         case rel => exact ⟨(ji5), (by first | rfl | (simp; done) | (simp only [← hji5] <;> (first | rfl | simp)) | (simp [*]; done)), H', ⟨by have := HK1.out; omega⟩, by repeat (first | exact Drawn0.refl _ | apply Drawn0.step)⟩
       ·rw [if_neg c7] at H
        exact absurd H (by simp)
      ·rw [if_neg c6] at H
       exact absurd H (by simp)
     ·rw [if_neg c4] at H
      exact absurd H (by simp)
    ·rw [if_neg c3] at H
     exact absurd H (by simp)
   ·rw [if_neg c2] at H
    have c2b0 : decide (0 < x3_1) = false := decide_eq_false c2
    clear c2
    obtain rfl := Option.some.inj H
    go_wp2
    repeat (go_quiet (fail); try go_wp2)
    go_ret
    exact ⟨by first | rfl | (simp; done) | (simp [*]; done), by repeat (first | exact Drawn0.refl _ | apply Drawn0.step)⟩
end Go.Proofs.Ytjekfipaadbbbaa.Fn
namespace Go.Proofs.Ytjekfipaadbbbaa.Fn
open Go.RowKit Go.Proofs.YtjekfipaadbbbaaW.PrintWords Go.Proofs.YtjekfipaadbbbaaW.PrintLast Go.Proofs.YtjekfipaadbbbaaW.PrintMore
attribute [local go_sem] max2_int min2_int max_two min_two max_three min_three max_four min_four
set_option linter.unusedVariables false
set_option linter.unusedSimpArgs false
def conf_rise.f (k : Nat) (l0 : List Int) : Option (Bool) := (slices_IsSorted_int_int.f k l0).bind fun t123 => (some t123)
set_option maxHeartbeats 8000000 in
set_option maxRecDepth 100000 in
theorem conf_rise.calls (k : Nat) (A0 : Option Addr) (c0 : Nat) (l0 : List Int) (r : Bool) (w : World) (hr0 : Kd.C (Kd.int .i64) w A0 l0.length l0) (hc0 : l0.length ≤ c0) (h : conf_rise.f k l0 = some r) :
  Calls Try.prog 71 #[.slice A0 l0.length c0] w fun e w' => e = .returned (.bool r) ∧ Drawn0 w w' := by
 have HR0 := asd hr0
 have HC0 := asd hc0
 clear hr0 hc0
 have H : ((slices_IsSorted_int_int.f k l0).bind fun t123 => (some t123)) = some r := h
 clear h
 replace H := Option.bind_eq_some_iff.mp H
 obtain ⟨t123, A20, H⟩ := H
 replace H : (some t123) = some r := H
 have A2 := asd A20
 clear A20
 obtain rfl := Option.some.inj H
 go_enter Try.func71, Try.ntmps71
 go_wp2_with (first | ((with_reducible refine gate_callee (f := 107) rfl ?_); refine goesL_ (some 4) rfl rfl Try.func107 (by kernel_rfl) rfl #[.slice A0 l0.length c0] rfl (by (try simp only [List.map_toArray, List.map_cons, List.map_nil]); first | done | rfl | (simp only [List.length_drop, List.length_take]; rfl)) ?_; (with_reducible refine (slices_IsSorted_int_int.calls k _ _ l0 t123 _ ?side1 ?side2 A2.out).mono ?_); (case side1 => repeat (first | exact HR0.out | (with_reducible refine Kd.C_alloc ?_ _) | (with_reducible refine Kd.C_drewN ?_ _) | (with_reducible refine Kd.C_drew ?_))); (case side2 => exact HC0.out); rintro e w' ⟨rfl, ⟨nd, rfl⟩⟩; refine ⟨_, rfl, ?_⟩))
 go_ret
 exact ⟨by first | rfl | (simp; done) | (simp [*]; done), by repeat (first | exact Drawn0.refl _ | apply Drawn0.step)⟩
end Go.Proofs.Ytjekfipaadbbbaa.Fn
