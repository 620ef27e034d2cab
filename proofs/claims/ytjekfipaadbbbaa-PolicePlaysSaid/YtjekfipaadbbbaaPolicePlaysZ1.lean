/- Part of the proof of PolicePlays: see the last text. (Words laid by the print, as far as they are named here; walks written by a program of this project; plain laws.) -/
import Derived.Test.YtjekfipaadbbbaaPolicePlaysZ0
namespace Go.Proofs.Ytjekfipaadbbbaa.Fn
open Go.RowKit Go.Proofs.YtjekfipaadbbbaaW.PrintWords Go.Proofs.YtjekfipaadbbbaaW.PrintLast Go.Proofs.YtjekfipaadbbbaaW.PrintMore
abbrev bn := @blk_drewN
abbrev bd := @blk_drew
abbrev ba := @blk_alloc
abbrev asd := @Aside0.mk
abbrev wa := @below_alloc
abbrev wn := @pw_below_drewN
abbrev wd := @below_drew1
abbrev ws := @below_set
theorem sB : (∀ (l : List Value) (i : Nat) (a : Value), l.toArray.setIfInBounds i a = (l.set i a).toArray) ∧ (∀ (a b : Value) (l : List Value), (a :: l).set 0 b = b :: l) ∧ (∀ (a b : Value) (l : List Value) (n : Nat), (a :: l).set (n + 1) b = a :: l.set n b) := ⟨fun _ _ _ => List.setIfInBounds_toArray .., fun _ _ _ => rfl, fun _ _ _ _ => rfl⟩
end Go.Proofs.Ytjekfipaadbbbaa.Fn

namespace Go.Proofs.Ytjekfipaadbbbaa.Fn
open Go.RowKit Go.Proofs.YtjekfipaadbbbaaW.PrintWords Go.Proofs.YtjekfipaadbbbaaW.PrintLast Go.Proofs.YtjekfipaadbbbaaW.PrintMore
attribute [local go_sem] max2_int min2_int max_two min_two max_three min_three max_four min_four
set_option linter.unusedVariables false
set_option linter.unusedSimpArgs false
def errW : Option Int → Value
 | none => .nilIface
 | some c => .iface 0 (.int .i64 c)
theorem errW_none : errW none = .nilIface := rfl
theorem errW_some (c : Int) : errW (some c) = .iface 0 (.int .i64 c) := rfl
theorem info3 : (Try.prog.info? 3).map (fun i => (i.zero, i.size, i.bytes)) = some (some (.int .i64 0), 1, 8) := by kernel_rfl
structure S44 where
 f0 : Bool
 f1 : Int
 f2 : Int
 f3 : Int
 f4 : Int
 f5 : Int
def z44 : S44 := ⟨false, (0 : Int), (0 : Int), (0 : Int), (0 : Int), (0 : Int)⟩
def k44 : Kd S44 := Kd.iso (Kd.pair Kd.bool (Kd.pair (Kd.int .i64) (Kd.pair (Kd.int .i64) (Kd.pair (Kd.int .i64) (Kd.pair (Kd.int .i64) (Kd.int .i64)))))) (fun x : S44 => (x.f0, x.f1, x.f2, x.f3, x.f4, x.f5))
theorem k44_open {w : World} {x : S44} {cs : List Value} (h : k44.K w x cs) : cs = [.bool x.f0, .int .i64 x.f1, .int .i64 x.f2, .int .i64 x.f3, .int .i64 x.f4, .int .i64 x.f5] := by
 obtain ⟨_, _, rfl, rfl, ⟨_, _, rfl, rfl, ⟨_, _, rfl, rfl, ⟨_, _, rfl, rfl, ⟨_, _, rfl, rfl, rfl⟩⟩⟩⟩⟩ := h
 exact rfl
theorem k44_mk (w : World) (x : S44)  : k44.K w x [.bool x.f0, .int .i64 x.f1, .int .i64 x.f2, .int .i64 x.f3, .int .i64 x.f4, .int .i64 x.f5] := ⟨[.bool x.f0], [.int .i64 x.f1, .int .i64 x.f2, .int .i64 x.f3, .int .i64 x.f4, .int .i64 x.f5], rfl, rfl, ⟨[.int .i64 x.f1], [.int .i64 x.f2, .int .i64 x.f3, .int .i64 x.f4, .int .i64 x.f5], rfl, rfl, ⟨[.int .i64 x.f2], [.int .i64 x.f3, .int .i64 x.f4, .int .i64 x.f5], rfl, rfl, ⟨[.int .i64 x.f3], [.int .i64 x.f4, .int .i64 x.f5], rfl, rfl, ⟨[.int .i64 x.f4], [.int .i64 x.f5], rfl, rfl, rfl⟩⟩⟩⟩⟩
theorem k44_mkM (w : World) (base : Nat) (ok : Nat → Prop) (x : S44)  : k44.M w base ok x [.bool x.f0, .int .i64 x.f1, .int .i64 x.f2, .int .i64 x.f3, .int .i64 x.f4, .int .i64 x.f5] := ⟨[.bool x.f0], [.int .i64 x.f1, .int .i64 x.f2, .int .i64 x.f3, .int .i64 x.f4, .int .i64 x.f5], rfl, rfl, ⟨[.int .i64 x.f1], [.int .i64 x.f2, .int .i64 x.f3, .int .i64 x.f4, .int .i64 x.f5], rfl, rfl, ⟨[.int .i64 x.f2], [.int .i64 x.f3, .int .i64 x.f4, .int .i64 x.f5], rfl, rfl, ⟨[.int .i64 x.f3], [.int .i64 x.f4, .int .i64 x.f5], rfl, rfl, ⟨[.int .i64 x.f4], [.int .i64 x.f5], rfl, rfl, rfl⟩⟩⟩⟩⟩
def rd_T44 (xs : List S44) (i : Int) : S44 := xs.getD i.toNat z44
theorem at_T44 {w : World} {A : Option Addr} {n : Nat} {xs : List S44} (h : Kd.C k44 w A n xs) (i : Int) (h0 : 0 ≤ i) (h1 : i < n) : ∃ ad , A = some ad ∧ w.cell? (ad.add (i.toNat * 6)) = some (.bool (rd_T44 xs i).f0) ∧ w.cell? ⟨(ad.add (i.toNat * 6)).block, (ad.add (i.toNat * 6)).off + 1, none⟩ = some (.int .i64 (rd_T44 xs i).f1) ∧ w.cell? ⟨(ad.add (i.toNat * 6)).block, (ad.add (i.toNat * 6)).off + 2, none⟩ = some (.int .i64 (rd_T44 xs i).f2) ∧ w.cell? ⟨(ad.add (i.toNat * 6)).block, (ad.add (i.toNat * 6)).off + 3, none⟩ = some (.int .i64 (rd_T44 xs i).f3) ∧ w.cell? ⟨(ad.add (i.toNat * 6)).block, (ad.add (i.toNat * 6)).off + 4, none⟩ = some (.int .i64 (rd_T44 xs i).f4) ∧ w.cell? ⟨(ad.add (i.toNat * 6)).block, (ad.add (i.toNat * 6)).off + 5, none⟩ = some (.int .i64 (rd_T44 xs i).f5) := by
 obtain ⟨ad, c, e, _, hK, hc0⟩ := Kd.C_get h z44 i h0 h1
 have hc : ∀ j u, c[j]? = some u → w.cell? (ad.add (i.toNat * 6 + j)) = some u := hc0
 obtain rfl := k44_open hK
 exact ⟨ad, e, hc 0 _ rfl, by rw [← add_field _ _ 1 (by omega)]; exact hc 1 _ rfl, by rw [← add_field _ _ 2 (by omega)]; exact hc 2 _ rfl, by rw [← add_field _ _ 3 (by omega)]; exact hc 3 _ rfl, by rw [← add_field _ _ 4 (by omega)]; exact hc 4 _ rfl, by rw [← add_field _ _ 5 (by omega)]; exact hc 5 _ rfl⟩
structure S134 where
 f0 : Int
 f1 : Int
 f2 : Int
def z134 : S134 := ⟨(0 : Int), (0 : Int), (0 : Int)⟩
def k134 : Kd S134 := Kd.iso (Kd.pair (Kd.int .i64) (Kd.pair (Kd.int .i64) (Kd.int .i64))) (fun x : S134 => (x.f0, x.f1, x.f2))
theorem k134_open {w : World} {x : S134} {cs : List Value} (h : k134.K w x cs) : cs = [.int .i64 x.f0, .int .i64 x.f1, .int .i64 x.f2] := by
 obtain ⟨_, _, rfl, rfl, ⟨_, _, rfl, rfl, rfl⟩⟩ := h
 exact rfl
def rd_T134 (xs : List S134) (i : Int) : S134 := xs.getD i.toNat z134
theorem at_T134 {w : World} {A : Option Addr} {n : Nat} {xs : List S134} (h : Kd.C k134 w A n xs) (i : Int) (h0 : 0 ≤ i) (h1 : i < n) : ∃ ad , A = some ad ∧ w.cell? (ad.add (i.toNat * 3)) = some (.int .i64 (rd_T134 xs i).f0) ∧ w.cell? ⟨(ad.add (i.toNat * 3)).block, (ad.add (i.toNat * 3)).off + 1, none⟩ = some (.int .i64 (rd_T134 xs i).f1) ∧ w.cell? ⟨(ad.add (i.toNat * 3)).block, (ad.add (i.toNat * 3)).off + 2, none⟩ = some (.int .i64 (rd_T134 xs i).f2) := by
 obtain ⟨ad, c, e, _, hK, hc0⟩ := Kd.C_get h z134 i h0 h1
 have hc : ∀ j u, c[j]? = some u → w.cell? (ad.add (i.toNat * 3 + j)) = some u := hc0
 obtain rfl := k134_open hK
 exact ⟨ad, e, hc 0 _ rfl, by rw [← add_field _ _ 1 (by omega)]; exact hc 1 _ rfl, by rw [← add_field _ _ 2 (by omega)]; exact hc 2 _ rfl⟩
def rd_L4 (xs : List (List S134)) (i : Int) : (List S134) := xs.getD i.toNat ([] : List S134)
structure S63 where
 f0 : Int
 f1 : Int
 f2 : Int
 f3 : Int
 f4 : (List S134)
def z63 : S63 := ⟨(0 : Int), (0 : Int), (0 : Int), (0 : Int), ([] : List S134)⟩
def k63 : Kd S63 := Kd.iso (Kd.pair (Kd.int .i64) (Kd.pair (Kd.int .i64) (Kd.pair (Kd.int .i64) (Kd.pair (Kd.int .i64) (Kd.slice 134 k134))))) (fun x : S63 => (x.f0, x.f1, x.f2, x.f3, x.f4))
def rd_T63 (xs : List S63) (i : Int) : S63 := xs.getD i.toNat z63
structure S65 where
 f0 : Int
 f1 : Int
 f2 : S63
def z65 : S65 := ⟨(0 : Int), (0 : Int), z63⟩
def k65 : Kd S65 := Kd.iso (Kd.pair (Kd.int .i64) (Kd.pair (Kd.int .i64) k63)) (fun x : S65 => (x.f0, x.f1, x.f2))
def rd_T65 (xs : List S65) (i : Int) : S65 := xs.getD i.toNat z65
structure S76 where
 f0 : Int
 f1 : Int
 f2 : Int
def z76 : S76 := ⟨(0 : Int), (0 : Int), (0 : Int)⟩
def k76 : Kd S76 := Kd.iso (Kd.pair (Kd.int .i64) (Kd.pair (Kd.int .i64) (Kd.int .i64))) (fun x : S76 => (x.f0, x.f1, x.f2))
def rd_T76 (xs : List S76) (i : Int) : S76 := xs.getD i.toNat z76
structure S143 where
 f0 : Int
 f1 : Int
def z143 : S143 := ⟨(0 : Int), (0 : Int)⟩
def k143 : Kd S143 := Kd.iso (Kd.pair (Kd.int .i64) (Kd.int .i64)) (fun x : S143 => (x.f0, x.f1))
def rd_T143 (xs : List S143) (i : Int) : S143 := xs.getD i.toNat z143
end Go.Proofs.Ytjekfipaadbbbaa.Fn
namespace Go.Proofs.Ytjekfipaadbbbaa.Fn
open Go.RowKit Go.Proofs.YtjekfipaadbbbaaW.PrintWords Go.Proofs.YtjekfipaadbbbaaW.PrintLast Go.Proofs.YtjekfipaadbbbaaW.PrintMore
set_option linter.unusedVariables false
set_option linter.unusedSimpArgs false
def Opens (P : Program) (t : TypeId) {α : Type} (d : Kd α) (Q : α → Prop) : Prop :=
 ∀ (H : Type) (enc : TypeId × Value → H) (w : World) (base : Nat) (spare : Nat → Bool) (held : Bool) (fuel : Nat) (cs : List Value) (x : DataW H × List MemPlace),
  DataW.trod enc P w base spare held fuel t cs = some x → ∃ a : α, d.K w a cs ∧ Q a
def qInt (k : IntKind) (n : Int) : Prop := (Lit.int k n).wf = true
def qAny {α : Type} (_ : α) : Prop := True
def qStr (s : ByteArray) : Prop := s.size ≤ maxLen
def qList {α : Type} (Q : α → Prop) (xs : List α) : Prop := xs.length ≤ maxLen ∧ ∀ x ∈ xs, Q x
theorem opens_int {P : Program} {t : TypeId} {k : IntKind} (ht : P.underlying t = some (.int k)) : Opens P t (Kd.int k) (qInt k) := by
 intro H enc w base spare held fuel cs x h
 obtain ⟨n, e, _, hw⟩ := DataW.trod_int ht h
 exact ⟨n, e, hw⟩
theorem opens_bool {P : Program} {t : TypeId} (ht : P.underlying t = some .bool) : Opens P t Kd.bool qAny := by
 intro H enc w base spare held fuel cs x h
 obtain ⟨n, e, _⟩ := DataW.trod_bool ht h
 exact ⟨n, e, trivial⟩
theorem list_of {α : Type} {p : Nat → α → Prop} : ∀ n, (∀ i, i < n → ∃ a, p i a) → ∃ xs : List α, xs.length = n ∧ ∀ i a, xs[i]? = some a → p i a
 | 0, _ => ⟨[], rfl, fun i a h => by simp at h⟩
 | n + 1, h => by
  obtain ⟨xs, hl, hx⟩ := list_of n (fun i hi => h i (by omega))
  obtain ⟨a, ha⟩ := h n (by omega)
  refine ⟨xs ++ [a], by simp [hl], fun i b hb => ?_⟩
  rcases Nat.lt_trichotomy i n with hi | hi | hi
  ·rw [List.getElem?_append_left (by omega)] at hb
   exact hx i b hb
  ·subst hi
   rw [← hl] at hb
   simp at hb
   subst hb
   rw [hl] at *
   exact ha
  ·rw [List.getElem?_eq_none (by simp [hl]; omega)] at hb
   cases hb
theorem opens_slice {P : Program} {t e : TypeId} {α : Type} {d : Kd α} {Q : α → Prop} (ht : P.underlying t = some (.slice e)) (hc : P.cellsOf e = d.sz) (ho : Opens P e d Q) : Opens P t (Kd.slice e d) (qList Q) := by
 intro H enc w base spare held fuel cs x h
 rcases Go.Deep.open_slice ht h with ⟨rfl, _⟩ | ⟨a, len, cap, m, n, D, Pl, rfl, _, hl, hm, hmm, _, hx⟩
 ·exact ⟨[], ⟨none, 0, rfl, Nat.le_refl _, Kd.C_nil _ _⟩, by simp, fun x hx => by cases hx⟩
 ·have hlm : len ≤ m := by rw [hmm]; split <;> omega
  obtain ⟨xs, hxl, hxs⟩ := list_of (p := fun i a' => ∃ cs', w.cells? base (a.add (i * P.cellsOf e)) (P.cellsOf e) = some cs' ∧ d.K w a' cs' ∧ Q a') len (fun i hi => by
   obtain ⟨cs', h1, h2⟩ := hx i (by omega)
   obtain ⟨a', h3, h4⟩ := ho H enc w base spare held n cs' _ h2
   exact ⟨a', cs', h1, h3, h4⟩)
  refine ⟨xs, ⟨some a, cap, by rw [hxl], by omega, ?_⟩, by omega, fun x hx => ?_⟩
  ·refine ⟨rfl, by rw [hxl]; unfold maxLen at hm; omega, fun _ => ⟨a, rfl, ?_⟩⟩
   intro j p hp
   obtain ⟨cs', h1, h2, _⟩ := hxs j p hp
   obtain ⟨_, hcl, hci⟩ := World.cells?_some h1
   refine ⟨cs', by rw [hcl, hc], h2, fun i u hu => ?_⟩
   have hi : i < cs'.length := (List.getElem?_eq_some_iff.1 hu).1
   have h4 := hci i (by omega)
   rw [hu, Go.Deep.add_add, hc] at h4
   exact h4
  ·obtain ⟨i, hi, rfl⟩ := List.mem_iff_getElem.1 hx
   obtain ⟨_, _, _, hq⟩ := hxs i _ (List.getElem?_eq_getElem hi)
   exact hq
end Go.Proofs.Ytjekfipaadbbbaa.Fn
namespace Go.Proofs.Ytjekfipaadbbbaa.Fn
open Go.RowKit Go.Proofs.YtjekfipaadbbbaaW.PrintWords Go.Proofs.YtjekfipaadbbbaaW.PrintLast Go.Proofs.YtjekfipaadbbbaaW.PrintMore
attribute [local go_sem] max2_int min2_int max_two min_two max_three min_three max_four min_four
set_option linter.unusedVariables false
set_option linter.unusedSimpArgs false
def police_known_soon.f (a0_0 : Bool) (a0_1 : Int) (a0_2 : Int) (a0_3 : Int) (a0_4 : Int) (a0_5 : Int) (a0_6 : Int) (a0_7 : Bool) (a1 : Int) : Option (Bool) := if a0_7 = true then (some (decide ((wrap64 (a1 - a0_6)) < a0_1))) else (some false)
set_option maxHeartbeats 8000000 in
set_option maxRecDepth 100000 in
theorem police_known_soon.calls (a0_0 : Bool) (a0_1 : Int) (a0_2 : Int) (a0_3 : Int) (a0_4 : Int) (a0_5 : Int) (a0_6 : Int) (a0_7 : Bool) (a1 : Int) (r : Bool) (w : World) (h : police_known_soon.f a0_0 a0_1 a0_2 a0_3 a0_4 a0_5 a0_6 a0_7 a1 = some r) :
  Calls Try.prog 70 #[.agg #[.bool a0_0, .int .i64 a0_1, .int .i64 a0_2, .int .i64 a0_3, .int .i64 a0_4, .int .i64 a0_5, .int .i64 a0_6, .bool a0_7], .int .i64 a1] w fun e w' => e = .returned (.bool r) ∧ Below w.heap.size w w' := by
 have hu115 := Try.underlying115
 have HB := asd (Below.refl w.heap.size w)
 have H : (if a0_7 = true then (some (decide ((wrap64 (a1 - a0_6)) < a0_1))) else (some false)) = some r := h
 clear h
 by_cases c3 : a0_7 = true
 ·subst c3
  have H1 : (some (decide ((wrap64 (a1 - a0_6)) < a0_1))) = some r := by rw [if_pos rfl] at H; exact H
  clear H
  have H := H1
  clear H1
  obtain rfl := Option.some.inj H
  go_enter Try.func70, Try.ntmps70
  go_wp2_with (first | ((with_reducible refine gate_dst (N := 2) rfl ?_); refine box_event ?hg (N := 2) ?hd (cs := #[.bool a0_0, .int .i64 a0_1, .int .i64 a0_2, .int .i64 a0_3, .int .i64 a0_4, .int .i64 a0_5, .int .i64 a0_6, .bool true]) (t := 115) ?hr ?_; (case hd => rfl); (case hg => rfl); (case hr => first | (go_simp; done) | (go_simp; rfl)); intro gb101 hg w4 hbox hb; have n0_ := asd (below_step (by repeat (first | (with_reducible first | exact HB.out | apply wa | apply wn | apply wd) | exact HB.out)) hb); have n1_ := asd (hbox); have n2_ := asd ((by rw [hg]; exact (below_size (by repeat (first | (with_reducible first | exact HB.out | apply wa | apply wn | apply wd) | exact HB.out))) : w.heap.size ≤ gb101)); have n3_ := asd ((by rw [hg]; exact (below_size (by repeat (first | (with_reducible first | exact HB.out | apply wa | apply wn | apply wd) | exact HB.out))) : w.heap.size ≤ gb101)); clear HB; have HB := n0_; have BK101 := n1_; have GW101 := n2_; have GE101 := n3_; clear n0_ n1_ n2_ n3_; clear hb hbox hg; have hcz5_0 : w4.cell? ⟨gb101, 0, none⟩ = some (.bool a0_0) := (blk_cell BK101.out 0).trans rfl; have hcz5_1 : w4.cell? ⟨gb101, 1, none⟩ = some (.int .i64 a0_1) := (blk_cell BK101.out 1).trans rfl; have hcz5_2 : w4.cell? ⟨gb101, 2, none⟩ = some (.int .i64 a0_2) := (blk_cell BK101.out 2).trans rfl; have hcz5_3 : w4.cell? ⟨gb101, 3, none⟩ = some (.int .i64 a0_3) := (blk_cell BK101.out 3).trans rfl; have hcz5_4 : w4.cell? ⟨gb101, 4, none⟩ = some (.int .i64 a0_4) := (blk_cell BK101.out 4).trans rfl; have hcz5_5 : w4.cell? ⟨gb101, 5, none⟩ = some (.int .i64 a0_5) := (blk_cell BK101.out 5).trans rfl; have hcz5_6 : w4.cell? ⟨gb101, 6, none⟩ = some (.int .i64 a0_6) := (blk_cell BK101.out 6).trans rfl; have hcz5_7 : w4.cell? ⟨gb101, 7, none⟩ = some (.bool true) := (blk_cell BK101.out 7).trans rfl; have hfz5_0 := blk_frozen BK101.out 0; have hfz5_1 := blk_frozen BK101.out 1; have hfz5_2 := blk_frozen BK101.out 2; have hfz5_3 := blk_frozen BK101.out 3; have hfz5_4 := blk_frozen BK101.out 4; have hfz5_5 := blk_frozen BK101.out 5; have hfz5_6 := blk_frozen BK101.out 6; have hfz5_7 := blk_frozen BK101.out 7))
  go_ret
  exact ⟨by first | rfl | (simp [*] <;> rfl), by repeat (first | (with_reducible first | exact HB.out | apply wa | apply wn | apply wd | refine ws ?_ GE101.out) | exact HB.out)⟩
 ·replace c3 := Bool.eq_false_iff.mpr c3
  subst c3
  have H1 : (some false) = some r := by rw [if_neg (show ¬ (false = true) by decide)] at H; exact H
  clear H
  have H := H1
  clear H1
  obtain rfl := Option.some.inj H
  go_enter Try.func70, Try.ntmps70
  go_wp2_with (first | ((with_reducible refine gate_dst (N := 2) rfl ?_); refine box_event ?hg (N := 2) ?hd (cs := #[.bool a0_0, .int .i64 a0_1, .int .i64 a0_2, .int .i64 a0_3, .int .i64 a0_4, .int .i64 a0_5, .int .i64 a0_6, .bool false]) (t := 115) ?hr ?_; (case hd => rfl); (case hg => rfl); (case hr => first | (go_simp; done) | (go_simp; rfl)); intro gb101 hg w6 hbox hb; have n0_ := asd (below_step (by repeat (first | (with_reducible first | exact HB.out | apply wa | apply wn | apply wd) | exact HB.out)) hb); have n1_ := asd (hbox); have n2_ := asd ((by rw [hg]; exact (below_size (by repeat (first | (with_reducible first | exact HB.out | apply wa | apply wn | apply wd) | exact HB.out))) : w.heap.size ≤ gb101)); have n3_ := asd ((by rw [hg]; exact (below_size (by repeat (first | (with_reducible first | exact HB.out | apply wa | apply wn | apply wd) | exact HB.out))) : w.heap.size ≤ gb101)); clear HB; have HB := n0_; have BK101 := n1_; have GW101 := n2_; have GE101 := n3_; clear n0_ n1_ n2_ n3_; clear hb hbox hg; have hcz7_0 : w6.cell? ⟨gb101, 0, none⟩ = some (.bool a0_0) := (blk_cell BK101.out 0).trans rfl; have hcz7_1 : w6.cell? ⟨gb101, 1, none⟩ = some (.int .i64 a0_1) := (blk_cell BK101.out 1).trans rfl; have hcz7_2 : w6.cell? ⟨gb101, 2, none⟩ = some (.int .i64 a0_2) := (blk_cell BK101.out 2).trans rfl; have hcz7_3 : w6.cell? ⟨gb101, 3, none⟩ = some (.int .i64 a0_3) := (blk_cell BK101.out 3).trans rfl; have hcz7_4 : w6.cell? ⟨gb101, 4, none⟩ = some (.int .i64 a0_4) := (blk_cell BK101.out 4).trans rfl; have hcz7_5 : w6.cell? ⟨gb101, 5, none⟩ = some (.int .i64 a0_5) := (blk_cell BK101.out 5).trans rfl; have hcz7_6 : w6.cell? ⟨gb101, 6, none⟩ = some (.int .i64 a0_6) := (blk_cell BK101.out 6).trans rfl; have hcz7_7 : w6.cell? ⟨gb101, 7, none⟩ = some (.bool false) := (blk_cell BK101.out 7).trans rfl; have hfz7_0 := blk_frozen BK101.out 0; have hfz7_1 := blk_frozen BK101.out 1; have hfz7_2 := blk_frozen BK101.out 2; have hfz7_3 := blk_frozen BK101.out 3; have hfz7_4 := blk_frozen BK101.out 4; have hfz7_5 := blk_frozen BK101.out 5; have hfz7_6 := blk_frozen BK101.out 6; have hfz7_7 := blk_frozen BK101.out 7))
  go_ret
  exact ⟨by first | rfl | (simp [*] <;> rfl), by repeat (first | (with_reducible first | exact HB.out | apply wa | apply wn | apply wd | refine ws ?_ GE101.out) | exact HB.out)⟩
end Go.Proofs.Ytjekfipaadbbbaa.Fn
namespace Go.Proofs.Ytjekfipaadbbbaa.Fn
open Go.RowKit Go.Proofs.YtjekfipaadbbbaaW.PrintWords Go.Proofs.YtjekfipaadbbbaaW.PrintLast Go.Proofs.YtjekfipaadbbbaaW.PrintMore
set_option linter.unusedVariables false
set_option linter.unusedSimpArgs false
structure S115 where
 f0 : Bool
 f1 : Int
 f2 : Int
 f3 : Int
 f4 : Int
 f5 : Int
 f6 : Int
 f7 : Bool
def z115 : S115 := ⟨false, (0 : Int), (0 : Int), (0 : Int), (0 : Int), (0 : Int), (0 : Int), false⟩
def k115 : Kd S115 := Kd.iso (Kd.pair Kd.bool (Kd.pair (Kd.int .i64) (Kd.pair (Kd.int .i64) (Kd.pair (Kd.int .i64) (Kd.pair (Kd.int .i64) (Kd.pair (Kd.int .i64) (Kd.pair (Kd.int .i64) Kd.bool))))))) (fun x : S115 => (x.f0, x.f1, x.f2, x.f3, x.f4, x.f5, x.f6, x.f7))
theorem k115_open {w : World} {x : S115} {cs : List Value} (h : k115.K w x cs) : cs = [.bool x.f0, .int .i64 x.f1, .int .i64 x.f2, .int .i64 x.f3, .int .i64 x.f4, .int .i64 x.f5, .int .i64 x.f6, .bool x.f7] := by
 obtain ⟨_, _, rfl, rfl, ⟨_, _, rfl, rfl, ⟨_, _, rfl, rfl, ⟨_, _, rfl, rfl, ⟨_, _, rfl, rfl, ⟨_, _, rfl, rfl, ⟨_, _, rfl, rfl, rfl⟩⟩⟩⟩⟩⟩⟩ := h
 exact rfl
theorem k115_openM {w : World} {base : Nat} {ok : Nat → Prop} {x : S115} {cs : List Value} (h : k115.M w base ok x cs) : cs = [.bool x.f0, .int .i64 x.f1, .int .i64 x.f2, .int .i64 x.f3, .int .i64 x.f4, .int .i64 x.f5, .int .i64 x.f6, .bool x.f7] := by
 obtain ⟨_, _, rfl, rfl, ⟨_, _, rfl, rfl, ⟨_, _, rfl, rfl, ⟨_, _, rfl, rfl, ⟨_, _, rfl, rfl, ⟨_, _, rfl, rfl, ⟨_, _, rfl, rfl, rfl⟩⟩⟩⟩⟩⟩⟩ := h
 exact rfl
theorem k115_mkM (w : World) (base : Nat) (ok : Nat → Prop) (x : S115) : k115.M w base ok x [.bool x.f0, .int .i64 x.f1, .int .i64 x.f2, .int .i64 x.f3, .int .i64 x.f4, .int .i64 x.f5, .int .i64 x.f6, .bool x.f7] := ⟨[.bool x.f0], [.int .i64 x.f1, .int .i64 x.f2, .int .i64 x.f3, .int .i64 x.f4, .int .i64 x.f5, .int .i64 x.f6, .bool x.f7], rfl, rfl, ⟨[.int .i64 x.f1], [.int .i64 x.f2, .int .i64 x.f3, .int .i64 x.f4, .int .i64 x.f5, .int .i64 x.f6, .bool x.f7], rfl, rfl, ⟨[.int .i64 x.f2], [.int .i64 x.f3, .int .i64 x.f4, .int .i64 x.f5, .int .i64 x.f6, .bool x.f7], rfl, rfl, ⟨[.int .i64 x.f3], [.int .i64 x.f4, .int .i64 x.f5, .int .i64 x.f6, .bool x.f7], rfl, rfl, ⟨[.int .i64 x.f4], [.int .i64 x.f5, .int .i64 x.f6, .bool x.f7], rfl, rfl, ⟨[.int .i64 x.f5], [.int .i64 x.f6, .bool x.f7], rfl, rfl, ⟨[.int .i64 x.f6], [.bool x.f7], rfl, rfl, rfl⟩⟩⟩⟩⟩⟩⟩
def rd_T115 (xs : List S115) (i : Int) : S115 := xs.getD i.toNat z115
theorem at_T115 {w : World} {A : Option Addr} {n : Nat} {xs : List S115} (h : Kd.C k115 w A n xs) (i : Int) (h0 : 0 ≤ i) (h1 : i < n) : ∃ ad, A = some ad ∧ w.cell? (ad.add (i.toNat * 8)) = some (.bool (rd_T115 xs i).f0) ∧ w.cell? ⟨(ad.add (i.toNat * 8)).block, (ad.add (i.toNat * 8)).off + 1, none⟩ = some (.int .i64 (rd_T115 xs i).f1) ∧ w.cell? ⟨(ad.add (i.toNat * 8)).block, (ad.add (i.toNat * 8)).off + 2, none⟩ = some (.int .i64 (rd_T115 xs i).f2) ∧ w.cell? ⟨(ad.add (i.toNat * 8)).block, (ad.add (i.toNat * 8)).off + 3, none⟩ = some (.int .i64 (rd_T115 xs i).f3) ∧ w.cell? ⟨(ad.add (i.toNat * 8)).block, (ad.add (i.toNat * 8)).off + 4, none⟩ = some (.int .i64 (rd_T115 xs i).f4) ∧ w.cell? ⟨(ad.add (i.toNat * 8)).block, (ad.add (i.toNat * 8)).off + 5, none⟩ = some (.int .i64 (rd_T115 xs i).f5) ∧ w.cell? ⟨(ad.add (i.toNat * 8)).block, (ad.add (i.toNat * 8)).off + 6, none⟩ = some (.int .i64 (rd_T115 xs i).f6) ∧ w.cell? ⟨(ad.add (i.toNat * 8)).block, (ad.add (i.toNat * 8)).off + 7, none⟩ = some (.bool (rd_T115 xs i).f7) := by
 obtain ⟨ad, c, e, _, hK, hc0⟩ := Kd.C_get h z115 i h0 h1
 have hc : ∀ j u, c[j]? = some u → w.cell? (ad.add (i.toNat * 8 + j)) = some u := hc0
 obtain rfl := k115_open hK
 exact ⟨ad, e, hc 0 _ rfl, by rw [← add_field _ _ 1 (by omega)]; exact hc 1 _ rfl, by rw [← add_field _ _ 2 (by omega)]; exact hc 2 _ rfl, by rw [← add_field _ _ 3 (by omega)]; exact hc 3 _ rfl, by rw [← add_field _ _ 4 (by omega)]; exact hc 4 _ rfl, by rw [← add_field _ _ 5 (by omega)]; exact hc 5 _ rfl, by rw [← add_field _ _ 6 (by omega)]; exact hc 6 _ rfl, by rw [← add_field _ _ 7 (by omega)]; exact hc 7 _ rfl⟩
def IsPol (w : World) (base g : Nat) (A : Option Addr) (c : Nat) (xs : List S115) (hi : Bool) : Prop :=
 w.heap[g]? = some (.cells #[.slice A xs.length c, .bool hi] 118 (0, 0)) ∧ base ≤ g ∧ k115.R 115 w base (fun k => k ≠ g) (.slice A xs.length c) xs
theorem IsPol.below {w w1 : World} {base g : Nat} {A : Option Addr} {c : Nat} {xs : List S115} {hi : Bool} (h : IsPol w base g A c xs hi) (hb : Below w.heap.size w w1) : IsPol w1 base g A c xs hi := ⟨blk_below h.1 hb, h.2.1, Kd.R_below h.2.2 hb⟩
theorem IsPol.row {w : World} {base g : Nat} {A : Option Addr} {c : Nat} {xs : List S115} {hi : Bool} (h : IsPol w base g A c xs hi) : Kd.C k115 w A xs.length xs := (Kd.R_reads' h.2.2).2.2
def spotOf (A : Option Addr) (n : Nat) (i : Int) : Option Addr := if 0 ≤ i ∧ i < n then A.map (·.add (i.toNat * 8)) else none
section
variable (base g : Nat) (A : Option Addr) (c : Nat) (xs : List S115) (hi : Bool)
set_option maxHeartbeats 2000000 in
set_option maxRecDepth 100000 in
theorem task_calls (i : Int) (w : World) (h : IsPol w base g A c xs hi) :
  Calls Try.prog 69 #[.pointer (some ⟨g, 0, none⟩), .int .i64 i] w fun e w' => e = .returned (.pointer (spotOf A xs.length i)) ∧ w = w' := by
 have hu118 := Try.underlying118
 have hu115 := Try.underlying115
 have hx0 := (blk_cell h.1 0).trans rfl
 by_cases h0 : 0 ≤ i
 ·by_cases h1 : i < (xs.length : Int)
  ·obtain ⟨ad, rfl, _⟩ := at_T115 h.row i h0 h1
   have e : spotOf (some ad) xs.length i = some (ad.add (i.toNat * 8)) := by unfold spotOf; rw [if_pos ⟨h0, h1⟩]; rfl
   rw [e]
   clear e h
   have d0 : decide (i < 0) = false := decide_eq_false (by omega)
   have d1 : decide ((xs.length : Int) ≤ i) = false := decide_eq_false (by omega)
   have d2 : decide (i ≥ (xs.length : Int)) = false := decide_eq_false (by omega)
   have p0 : (0 ≤ i) = True := eq_true h0
   have p1 : (i < (xs.length : Int)) = True := eq_true h1
   clear h0 h1
   go_enter Try.func69, Try.ntmps69
   go_wp2
   go_ret
   simp
  ·have e : spotOf A xs.length i = none := by unfold spotOf; rw [if_neg (by omega)]
   rw [e]
   clear e h
   have d0 : decide (i < 0) = false := decide_eq_false (by omega)
   have d1 : decide ((xs.length : Int) ≤ i) = true := decide_eq_true (by omega)
   have d2 : decide (i ≥ (xs.length : Int)) = true := decide_eq_true (by omega)
   clear h0 h1
   go_enter Try.func69, Try.ntmps69
   go_wp2
   go_ret
   simp
 ·have e : spotOf A xs.length i = none := by unfold spotOf; rw [if_neg (by omega)]
  rw [e]
  clear e h
  have d0 : decide (i < 0) = true := decide_eq_true (by omega)
  clear h0
  go_enter Try.func69, Try.ntmps69
  go_wp2
  go_ret
  simp
end
end Go.Proofs.Ytjekfipaadbbbaa.Fn
namespace Go.Proofs.Ytjekfipaadbbbaa.Fn
open Go.RowKit Go.Proofs.YtjekfipaadbbbaaW.PrintWords Go.Proofs.YtjekfipaadbbbaaW.PrintLast Go.Proofs.YtjekfipaadbbbaaW.PrintMore
set_option linter.unusedVariables false
set_option linter.unusedSimpArgs false
def polDropped (xs : List S115) (hi : Bool) (i : Int) : Bool := if 0 ≤ i ∧ i < xs.length then hi && !(rd_T115 xs i).f0 else false
def polSoon (x : S115) (now : Int) : Bool := if x.f7 = true then decide (wrap64 (now - x.f6) < x.f1) else false
def polMay (xs : List S115) (hi : Bool) (i now : Int) : Int := if (0 ≤ i ∧ i < xs.length) ∧ 0 ≤ now ∧ now ≤ 4611686018427387904 then (if polDropped xs hi i = true then 42 else if polSoon (rd_T115 xs i) now = true then 40 else 0) else 1
def polLast (xs : List S115) (i : Int) : Int × Bool := if (0 ≤ i ∧ i < xs.length) ∧ (rd_T115 xs i).f7 = true then ((rd_T115 xs i).f6, true) else (0, false)
theorem spot_none {A : Option Addr} {n : Nat} {i : Int} (h : ¬ (0 ≤ i ∧ i < n)) : spotOf A n i = none := by unfold spotOf; rw [if_neg h]
theorem spot_some {ad : Addr} {n : Nat} {i : Int} (h : 0 ≤ i ∧ i < n) : spotOf (some ad) n i = some (ad.add (i.toNat * 8)) := by unfold spotOf; rw [if_pos h]; rfl
section
variable (base g : Nat) (A : Option Addr) (c : Nat) (xs : List S115) (hi : Bool)
set_option maxHeartbeats 2000000 in
set_option maxRecDepth 100000 in
theorem dropped_calls (i : Int) (w : World) (h : IsPol w base g A c xs hi) :
  Calls Try.prog 23 #[.pointer (some ⟨g, 0, none⟩), .int .i64 i] w fun e w' => e = .returned (.bool (polDropped xs hi i)) ∧ w = w' := by
 have hu118 := Try.underlying118
 have hu115 := Try.underlying115
 have hu45 := Try.underlying45
 have hx0 := (blk_cell h.1 0).trans rfl
 have hx1 := (blk_cell h.1 1).trans rfl
 have HP := asd h
 by_cases hr : 0 ≤ i ∧ i < (xs.length : Int)
 ·obtain ⟨ad, rfl, y0, _⟩ := at_T115 h.row i hr.1 hr.2
  have hs := spot_some (ad := ad) hr
  have e : polDropped xs hi i = (hi && !(rd_T115 xs i).f0) := by unfold polDropped; rw [if_pos hr]
  rw [e]
  clear e h hr
  cases hi with
  | false =>
   go_enter Try.func23, Try.ntmps23
   go_wp2_with (first | (go_at_call 69; refine (task_calls base g _ c xs false i _ HP.out).mono ?_; rintro e w1 ⟨rfl, rfl⟩; rw [hs]))
   go_ret
   simp
  | true =>
   go_enter Try.func23, Try.ntmps23
   go_wp2_with (first | (go_at_call 69; refine (task_calls base g _ c xs true i _ HP.out).mono ?_; rintro e w1 ⟨rfl, rfl⟩; rw [hs]))
   go_ret
   simp
 ·have hs := spot_none (A := A) hr
  have e : polDropped xs hi i = false := by unfold polDropped; rw [if_neg hr]
  rw [e]
  clear e h hr
  go_enter Try.func23, Try.ntmps23
  go_wp2_with (first | (go_at_call 69; refine (task_calls base g _ c xs hi i _ HP.out).mono ?_; rintro e w1 ⟨rfl, rfl⟩; rw [hs]))
  go_ret
  simp
set_option maxHeartbeats 2000000 in
set_option maxRecDepth 100000 in
theorem may_calls (i now : Int) (w : World) (h : IsPol w base g A c xs hi) :
  Calls Try.prog 19 #[.pointer (some ⟨g, 0, none⟩), .int .i64 i, .int .i64 now] w fun e w' => e = .returned (.int .i64 (polMay xs hi i now)) ∧ Below w.heap.size w w' := by
 have hu118 := Try.underlying118
 have hu115 := Try.underlying115
 have HP := asd h
 by_cases hr : 0 ≤ i ∧ i < (xs.length : Int)
 ·by_cases hn0 : 0 ≤ now
  ·have dn0 : decide (now < 0) = false := decide_eq_false (by omega)
   by_cases hn1 : now ≤ 4611686018427387904
   ·have dn1 : decide (4611686018427387904 < now) = false := decide_eq_false (by omega)
    have dn2 : decide (now > 4611686018427387904) = false := decide_eq_false (by omega)
    obtain ⟨ad, rfl, y0, y1, y2, y3, y4, y5, y6, y7⟩ := at_T115 h.row i hr.1 hr.2
    have hs := spot_some (ad := ad) hr
    have e : polMay xs hi i now = (if polDropped xs hi i = true then 42 else if polSoon (rd_T115 xs i) now = true then 40 else 0) := by unfold polMay; rw [if_pos ⟨hr, hn0, hn1⟩]
    rw [e]
    clear e h hr hn0 hn1
    have HSf : Aside0 (police_known_soon.f (rd_T115 xs i).f0 (rd_T115 xs i).f1 (rd_T115 xs i).f2 (rd_T115 xs i).f3 (rd_T115 xs i).f4 (rd_T115 xs i).f5 (rd_T115 xs i).f6 (rd_T115 xs i).f7 now = some (polSoon (rd_T115 xs i) now)) := ⟨by unfold police_known_soon.f polSoon; split <;> rfl⟩
    cases hd : polDropped xs hi i with
    | true =>
     rw [if_pos rfl]
     have HD := asd hd
     clear hd
     go_enter Try.func19, Try.ntmps19
     go_wp2_with (first | (go_at_call 69; refine (task_calls base g _ c xs hi i _ HP.out).mono ?_; rintro e w1 ⟨rfl, rfl⟩; rw [hs]) | (go_at_call 23; refine (dropped_calls base g _ c xs hi i _ HP.out).mono ?_; rintro e w1 ⟨rfl, rfl⟩; rw [HD.out]))
     go_ret
     exact ⟨rfl, Below.refl _ _⟩
    | false =>
     rw [if_neg (by decide)]
     have HD := asd hd
     clear hd
     cases ho : polSoon (rd_T115 xs i) now with
     | true =>
      rw [if_pos rfl]
      have HO := asd (HSf.out.trans (congrArg some ho))
      clear ho HSf
      go_enter Try.func19, Try.ntmps19
      go_wp2_with (first | (go_at_call 69; refine (task_calls base g _ c xs hi i _ HP.out).mono ?_; rintro e w1 ⟨rfl, rfl⟩; rw [hs]) | (go_at_call 23; refine (dropped_calls base g _ c xs hi i _ HP.out).mono ?_; rintro e w1 ⟨rfl, rfl⟩; rw [HD.out]) | (go_at_call 70; refine (police_known_soon.calls _ _ _ _ _ _ _ _ _ true _ HO.out).mono ?_; rintro e w2 ⟨rfl, hb⟩; have HB := asd hb; clear hb))
      go_ret
      exact ⟨rfl, HB.out⟩
     | false =>
      rw [if_neg (by decide)]
      have HO := asd (HSf.out.trans (congrArg some ho))
      clear ho HSf
      go_enter Try.func19, Try.ntmps19
      go_wp2_with (first | (go_at_call 69; refine (task_calls base g _ c xs hi i _ HP.out).mono ?_; rintro e w1 ⟨rfl, rfl⟩; rw [hs]) | (go_at_call 23; refine (dropped_calls base g _ c xs hi i _ HP.out).mono ?_; rintro e w1 ⟨rfl, rfl⟩; rw [HD.out]) | (go_at_call 70; refine (police_known_soon.calls _ _ _ _ _ _ _ _ _ false _ HO.out).mono ?_; rintro e w2 ⟨rfl, hb⟩; have HB := asd hb; clear hb))
      go_ret
      exact ⟨rfl, HB.out⟩
   ·have dn1 : decide (4611686018427387904 < now) = true := decide_eq_true (by omega)
    have dn2 : decide (now > 4611686018427387904) = true := decide_eq_true (by omega)
    obtain ⟨ad, rfl, _⟩ := at_T115 h.row i hr.1 hr.2
    have hs := spot_some (ad := ad) hr
    have e : polMay xs hi i now = 1 := by unfold polMay; rw [if_neg (by omega)]
    rw [e]
    clear e h hr hn0 hn1
    go_enter Try.func19, Try.ntmps19
    go_wp2_with (first | (go_at_call 69; refine (task_calls base g _ c xs hi i _ HP.out).mono ?_; rintro e w1 ⟨rfl, rfl⟩; rw [hs]))
    go_ret
    exact ⟨rfl, Below.refl _ _⟩
  ·have dn0 : decide (now < 0) = true := decide_eq_true (by omega)
   obtain ⟨ad, rfl, _⟩ := at_T115 h.row i hr.1 hr.2
   have hs := spot_some (ad := ad) hr
   have e : polMay xs hi i now = 1 := by unfold polMay; rw [if_neg (by omega)]
   rw [e]
   clear e h hr hn0
   go_enter Try.func19, Try.ntmps19
   go_wp2_with (first | (go_at_call 69; refine (task_calls base g _ c xs hi i _ HP.out).mono ?_; rintro e w1 ⟨rfl, rfl⟩; rw [hs]))
   go_ret
   exact ⟨rfl, Below.refl _ _⟩
 ·have hs := spot_none (A := A) hr
  have e : polMay xs hi i now = 1 := by unfold polMay; rw [if_neg (fun h => hr h.1)]
  rw [e]
  clear e h hr
  go_enter Try.func19, Try.ntmps19
  go_wp2_with (first | (go_at_call 69; refine (task_calls base g _ c xs hi i _ HP.out).mono ?_; rintro e w1 ⟨rfl, rfl⟩; rw [hs]))
  go_ret
  exact ⟨rfl, Below.refl _ _⟩
set_option maxHeartbeats 2000000 in
set_option maxRecDepth 100000 in
theorem last_calls (i : Int) (w : World) (h : IsPol w base g A c xs hi) :
  Calls Try.prog 22 #[.pointer (some ⟨g, 0, none⟩), .int .i64 i] w fun e w' => e = .returned (.tuple #[.int .i64 (polLast xs i).1, .bool (polLast xs i).2]) ∧ w = w' := by
 have hu118 := Try.underlying118
 have hu115 := Try.underlying115
 have HP := asd h
 by_cases hr : 0 ≤ i ∧ i < (xs.length : Int)
 ·obtain ⟨ad, rfl, y0, y1, y2, y3, y4, y5, y6, y7⟩ := at_T115 h.row i hr.1 hr.2
  have hs := spot_some (ad := ad) hr
  cases hw : (rd_T115 xs i).f7 with
  | true =>
   have e : polLast xs i = ((rd_T115 xs i).f6, true) := by unfold polLast; rw [if_pos ⟨hr, hw⟩]
   rw [e]
   rw [hw] at y7
   clear e h hr hw
   go_enter Try.func22, Try.ntmps22
   go_wp2_with (first | (go_at_call 69; refine (task_calls base g _ c xs hi i _ HP.out).mono ?_; rintro e w1 ⟨rfl, rfl⟩; rw [hs]))
   go_ret2
   simp
  | false =>
   have e : polLast xs i = (0, false) := by unfold polLast; rw [if_neg (by rw [hw]; simp)]
   rw [e]
   rw [hw] at y7
   clear e h hr hw
   go_enter Try.func22, Try.ntmps22
   go_wp2_with (first | (go_at_call 69; refine (task_calls base g _ c xs hi i _ HP.out).mono ?_; rintro e w1 ⟨rfl, rfl⟩; rw [hs]))
   go_ret2
   simp
 ·have hs := spot_none (A := A) hr
  have e : polLast xs i = (0, false) := by unfold polLast; rw [if_neg (fun h => hr h.1)]
  rw [e]
  clear e h hr
  go_enter Try.func22, Try.ntmps22
  go_wp2_with (first | (go_at_call 69; refine (task_calls base g _ c xs hi i _ HP.out).mono ?_; rintro e w1 ⟨rfl, rfl⟩; rw [hs]))
  go_ret2
  simp
end
end Go.Proofs.Ytjekfipaadbbbaa.Fn
namespace Go.Proofs.Ytjekfipaadbbbaa.Fn
open Go.RowKit Go.Proofs.YtjekfipaadbbbaaW.PrintWords Go.Proofs.YtjekfipaadbbbaaW.PrintLast Go.Proofs.YtjekfipaadbbbaaW.PrintMore
set_option linter.unusedVariables false
set_option linter.unusedSimpArgs false
def polTake (xs : List S115) (hi : Bool) (i now : Int) : List S115 := if polMay xs hi i now = 0 then xs.set i.toNat { rd_T115 xs i with f6 := now, f7 := true } else xs
section
variable (base g : Nat) (A : Option Addr) (c : Nat) (xs : List S115) (hi : Bool)
set_option maxHeartbeats 2000000 in
set_option maxRecDepth 100000 in
theorem drop_calls (b : Bool) (w : World) (h : IsPol w base g A c xs hi) :
  Calls Try.prog 21 #[.pointer (some ⟨g, 0, none⟩), .bool b] w fun e w' => e = .returned (.tuple #[]) ∧ IsPol w' base g A c xs b ∧ Below base w w' := by
 have hu118 := Try.underlying118
 have hx1 := (blk_cell h.1 1).trans rfl
 have hf1 := blk_frozen h.1 1
 have HP := asd h
 clear h
 go_enter Try.func21, Try.ntmps21
 go_wp2
 go_end0
 have hset := blk_set HP.out.1 1 (.bool b)
 exact ⟨rfl, ⟨hset, HP.out.2.1, Kd.R_far HP.out.2.2 (p := ⟨g, 1, none⟩) (fun k hk => hk) _⟩, (Below.refl _ _).setCell HP.out.2.1 _⟩
theorem put_two (i : Int) (now : Int) (w : World) (h : IsPol w base g A c xs hi) (h0 : 0 ≤ i) (h1 : i < xs.length) {ad : Addr} (hA : A = some ad) :
  IsPol ((w.setCell ⟨(ad.add (i.toNat * 8)).block, (ad.add (i.toNat * 8)).off + 6, none⟩ (.int .i64 now)).setCell ⟨(ad.add (i.toNat * 8)).block, (ad.add (i.toNat * 8)).off + 7, none⟩ (.bool true)) base g A c (xs.set i.toNat { rd_T115 xs i with f6 := now, f7 := true }) hi ∧
  Below base w ((w.setCell ⟨(ad.add (i.toNat * 8)).block, (ad.add (i.toNat * 8)).off + 6, none⟩ (.int .i64 now)).setCell ⟨(ad.add (i.toNat * 8)).block, (ad.add (i.toNat * 8)).off + 7, none⟩ (.bool true)) ∧ (∀ j, w.frozen? ⟨(ad.add (i.toNat * 8)).block, (ad.add (i.toNat * 8)).off + j, none⟩ = false) := by
 subst hA
 obtain ⟨hg, hb, hR⟩ := h
 obtain ⟨g2, rfl⟩ := Kd.R_head hR
 obtain ⟨cc, hcl, hM, hcc, hfz⟩ := Kd.R_elem hR z115 i h0 h1
 have hne : g2 ≠ g := hR.1 g2 (by simp [Value.ownBlock])
 have hbase : base ≤ g2 := Kd.R_base hR g2 (by simp [Value.ownBlock])
 obtain rfl := k115_openM hM
 have hs := Kd.R_seg hR i h0 h1 (c := _) (seg := [.int .i64 now, .bool true]) (j := 6) (okp := fun _ => False) hcl hcc (Nat.le_refl 8) (x' := { rd_T115 xs i with f6 := now, f7 := true }) (k115_mkM _ _ _ _) (fun _ h => h.elim)
 rw [add_at]
 simp only [Nat.zero_add]
 refine ⟨⟨?_, hb, ?_⟩, ?_, ?_⟩
 ·rw [List.length_set]
  exact blk_far (blk_far hg (p := ⟨g2, _, none⟩) (fun e => hne e.symm) _) (p := ⟨g2, _, none⟩) (fun e => hne e.symm) _
 ·rw [List.length_set]
  exact hs.1
 ·exact ((Below.refl _ _).setCell hbase _).setCell hbase _
 ·intro j
  exact hfz j
set_option maxHeartbeats 2000000 in
set_option maxRecDepth 100000 in
theorem take_calls (i now : Int) (w : World) (h : IsPol w base g A c xs hi) :
  Calls Try.prog 17 #[.pointer (some ⟨g, 0, none⟩), .int .i64 i, .int .i64 now] w fun e w' => e = .returned (.int .i64 (polMay xs hi i now)) ∧ IsPol w' base g A c (polTake xs hi i now) hi ∧ Below base w w' := by
 have hu118 := Try.underlying118
 have hu115 := Try.underlying115
 have HP := asd h
 have HL : Aside0 (base ≤ w.heap.size) := ⟨Nat.le_of_lt (Nat.lt_of_le_of_lt h.2.1 (blk_lt h.1))⟩
 by_cases hm : polMay xs hi i now = 0
 ·have hr : 0 ≤ i ∧ i < (xs.length : Int) := by
   have h2 := hm
   unfold polMay at h2
   split at h2
   ·rename_i hh; exact hh.1
   ·simp at h2
  have e : polTake xs hi i now = xs.set i.toNat { rd_T115 xs i with f6 := now, f7 := true } := by unfold polTake; rw [if_pos hm]
  obtain ⟨ad, rfl, _⟩ := at_T115 h.row i hr.1 hr.2
  have hs := spot_some (ad := ad) hr
  have HR := asd hr
  have HM := asd hm
  rw [e, hm]
  clear e h hr hm
  go_enter Try.func17, Try.ntmps17
  go_wp2_with fail
  refine (may_calls base g _ c xs hi i now _ HP.out).mono ?_
  rintro e w1 ⟨rfl, hb⟩
  rw [HM.out]
  have HB := asd hb
  have HP1 := asd (HP.out.below hb)
  clear hb
  go_wp2_with fail
  refine (task_calls base g _ c xs hi i _ HP1.out).mono ?_
  rintro e w2 ⟨rfl, rfl⟩
  rw [hs]
  obtain ⟨hi1, hb1, hf⟩ := put_two base g _ c xs hi i now _ HP1.out HR.out.1 HR.out.2 rfl
  have HI := asd hi1
  have HBB := asd hb1
  have f6 := hf 6
  have f7 := hf 7
  clear hi1 hb1 hf
  obtain ⟨ad', e', y0, y1, y2, y3, y4, y5, y6, y7⟩ := at_T115 HP1.out.row i HR.out.1 HR.out.2
  obtain rfl := Option.some.inj e'
  go_wp2
  go_ret
  exact ⟨rfl, HI.out, (HB.out.mono HL.out).trans HBB.out⟩
 ·have e : polTake xs hi i now = xs := by unfold polTake; rw [if_neg hm]
  rw [e]
  have d : decide (polMay xs hi i now = 0) = false := decide_eq_false hm
  have d2 : (polMay xs hi i now == 0) = false := by simpa using hm
  clear e h
  go_enter Try.func17, Try.ntmps17
  go_wp2_with (first | (go_at_call 19; refine (may_calls base g _ c xs hi i now _ HP.out).mono ?_; rintro e w1 ⟨rfl, hb⟩; have HB := asd hb; clear hb))
  go_ret
  exact ⟨rfl, HP.out.below HB.out, HB.out.mono HL.out⟩
end
end Go.Proofs.Ytjekfipaadbbbaa.Fn
namespace Go.Proofs.Ytjekfipaadbbbaa.Fn
open Go.RowKit Go.Proofs.YtjekfipaadbbbaaW.PrintWords Go.Proofs.YtjekfipaadbbbaaW.PrintLast Go.Proofs.YtjekfipaadbbbaaW.PrintMore
attribute [local go_sem] max2_int min2_int max_two min_two max_three min_three max_four min_four
set_option linter.unusedVariables false
set_option linter.unusedSimpArgs false
def cmp_isNaN_int.f (a0 : Int) : Option (Bool) := some (a0 != a0)
set_option maxHeartbeats 8000000 in
set_option maxRecDepth 100000 in
theorem cmp_isNaN_int.calls (a0 : Int) (r : Bool) (w : World) (h : cmp_isNaN_int.f a0 = some r) :
  Calls Try.prog 127 #[.int .i64 a0] w fun e w' => e = .returned (.bool r) ∧ Drawn0 w w' := by
 have H : (some (a0 != a0)) = some r := h
 clear h
 obtain rfl := Option.some.inj H
 go_enter Try.func127, Try.ntmps127
 go_wp2
 go_ret
 exact ⟨by first | rfl | (simp; done) | (simp [*]; done), by repeat (first | exact Drawn0.refl _ | apply Drawn0.step)⟩
end Go.Proofs.Ytjekfipaadbbbaa.Fn
namespace Go.Proofs.Ytjekfipaadbbbaa.Fn
open Go.RowKit Go.Proofs.YtjekfipaadbbbaaW.PrintWords Go.Proofs.YtjekfipaadbbbaaW.PrintLast Go.Proofs.YtjekfipaadbbbaaW.PrintMore
attribute [local go_sem] max2_int min2_int max_two min_two max_three min_three max_four min_four
set_option linter.unusedVariables false
set_option linter.unusedSimpArgs false
def cmp_Less_int.f (a0 : Int) (a1 : Int) : Option (Bool) := (cmp_isNaN_int.f a0).bind fun t118 => (if t118 = true then ((cmp_isNaN_int.f a1).bind fun t119 => (if t119 = true then (some (decide (a0 < a1))) else (some true))) else (some (decide (a0 < a1))))
set_option maxHeartbeats 8000000 in
set_option maxRecDepth 100000 in
theorem cmp_Less_int.calls (a0 : Int) (a1 : Int) (r : Bool) (w : World) (h : cmp_Less_int.f a0 a1 = some r) :
  Calls Try.prog 116 #[.int .i64 a0, .int .i64 a1] w fun e w' => e = .returned (.bool r) ∧ Drawn0 w w' := by
 have H : ((cmp_isNaN_int.f a0).bind fun t118 => (if t118 = true then ((cmp_isNaN_int.f a1).bind fun t119 => (if t119 = true then (some (decide (a0 < a1))) else (some true))) else (some (decide (a0 < a1))))) = some r := h
 clear h
 replace H := Option.bind_eq_some_iff.mp H
 obtain ⟨t118, A30, H⟩ := H
 replace H : (if t118 = true then ((cmp_isNaN_int.f a1).bind fun t119 => (if t119 = true then (some (decide (a0 < a1))) else (some true))) else (some (decide (a0 < a1)))) = some r := H
 have A3 := asd A30
 clear A30
 by_cases c4 : t118 = true
 ·subst c4
  have H1 : ((cmp_isNaN_int.f a1).bind fun t119 => (if t119 = true then (some (decide (a0 < a1))) else (some true))) = some r := by rw [if_pos rfl] at H; exact H
  clear H
  have H := H1
  clear H1
  replace H := Option.bind_eq_some_iff.mp H
  obtain ⟨t119, A50, H⟩ := H
  replace H : (if t119 = true then (some (decide (a0 < a1))) else (some true)) = some r := H
  have A5 := asd A50
  clear A50
  by_cases c6 : t119 = true
  ·subst c6
   have H1 : (some (decide (a0 < a1))) = some r := by rw [if_pos rfl] at H; exact H
   clear H
   have H := H1
   clear H1
   obtain rfl := Option.some.inj H
   go_enter Try.func116, Try.ntmps116
   go_wp2_with (first | ((with_reducible refine gate_callee (f := 127) rfl ?_); refine goesL_ (some 6) rfl rfl Try.func127 (by kernel_rfl) rfl #[.int .i64 a0] rfl (by (try simp only [List.map_toArray, List.map_cons, List.map_nil]); first | done | rfl | (simp only [List.length_drop, List.length_take]; rfl)) ?_; (with_reducible refine (cmp_isNaN_int.calls a0 true _ A3.out).mono ?_); rintro e w' ⟨rfl, ⟨nd, rfl⟩⟩; refine ⟨_, rfl, ?_⟩) | (go_at_call 127; (with_reducible refine (cmp_isNaN_int.calls a1 true _ A5.out).mono ?_); rintro e w' ⟨rfl, ⟨nd, rfl⟩⟩))
   go_ret
   exact ⟨by first | rfl | (simp; done) | (simp [*]; done), by repeat (first | exact Drawn0.refl _ | apply Drawn0.step)⟩
  ·replace c6 := Bool.eq_false_iff.mpr c6
   subst c6
   have H1 : (some true) = some r := by rw [if_neg (show ¬ (false = true) by decide)] at H; exact H
   clear H
   have H := H1
   clear H1
   obtain rfl := Option.some.inj H
   go_enter Try.func116, Try.ntmps116
   go_wp2_with (first | ((with_reducible refine gate_callee (f := 127) rfl ?_); refine goesL_ (some 6) rfl rfl Try.func127 (by kernel_rfl) rfl #[.int .i64 a0] rfl (by (try simp only [List.map_toArray, List.map_cons, List.map_nil]); first | done | rfl | (simp only [List.length_drop, List.length_take]; rfl)) ?_; (with_reducible refine (cmp_isNaN_int.calls a0 true _ A3.out).mono ?_); rintro e w' ⟨rfl, ⟨nd, rfl⟩⟩; refine ⟨_, rfl, ?_⟩) | (go_at_call 127; (with_reducible refine (cmp_isNaN_int.calls a1 false _ A5.out).mono ?_); rintro e w' ⟨rfl, ⟨nd, rfl⟩⟩))
   go_ret
   exact ⟨by first | rfl | (simp; done) | (simp [*]; done), by repeat (first | exact Drawn0.refl _ | apply Drawn0.step)⟩
 ·replace c4 := Bool.eq_false_iff.mpr c4
  subst c4
  have H1 : (some (decide (a0 < a1))) = some r := by rw [if_neg (show ¬ (false = true) by decide)] at H; exact H
  clear H
  have H := H1
  clear H1
  obtain rfl := Option.some.inj H
  go_enter Try.func116, Try.ntmps116
  go_wp2_with (first | ((with_reducible refine gate_callee (f := 127) rfl ?_); refine goesL_ (some 6) rfl rfl Try.func127 (by kernel_rfl) rfl #[.int .i64 a0] rfl (by (try simp only [List.map_toArray, List.map_cons, List.map_nil]); first | done | rfl | (simp only [List.length_drop, List.length_take]; rfl)) ?_; (with_reducible refine (cmp_isNaN_int.calls a0 false _ A3.out).mono ?_); rintro e w' ⟨rfl, ⟨nd, rfl⟩⟩; refine ⟨_, rfl, ?_⟩))
  go_ret
  exact ⟨by first | rfl | (simp; done) | (simp [*]; done), by repeat (first | exact Drawn0.refl _ | apply Drawn0.step)⟩
end Go.Proofs.Ytjekfipaadbbbaa.Fn
namespace Go.Proofs.Ytjekfipaadbbbaa.Fn
open Go.RowKit Go.Proofs.YtjekfipaadbbbaaW.PrintWords Go.Proofs.YtjekfipaadbbbaaW.PrintLast Go.Proofs.YtjekfipaadbbbaaW.PrintMore
attribute [local go_sem] max2_int min2_int max_two min_two max_three min_three max_four min_four
set_option linter.unusedVariables false
set_option linter.unusedSimpArgs false
def slices_IsSorted_int_int.l0 : Nat → List Int → Int → Option (Bool)
 | 0, _, _ => none
 | k + 1, x0, x3 => if x3 > 0 then (if 0 ≤ x3 then (if x3 < (x0.length : Int) then (if 0 ≤ (wrap64 (x3 - 1)) then (if (wrap64 (x3 - 1)) < (x0.length : Int) then ((cmp_Less_int.f (rd x0 x3) (rd x0 (wrap64 (x3 - 1)))).bind fun t122 => (if t122 = true then (some false) else (slices_IsSorted_int_int.l0 k x0 (wrap64 (x3 - 1))))) else (none)) else (none)) else (none)) else (none)) else (some true)
def slices_IsSorted_int_int.f (k : Nat) (l0 : List Int) : Option (Bool) := slices_IsSorted_int_int.l0 k l0 (wrap64 ((l0.length : Int) - 1))
set_option maxHeartbeats 8000000 in
set_option maxRecDepth 100000 in
theorem slices_IsSorted_int_int.calls (k : Nat) (A0 : Option Addr) (c0 : Nat) (l0 : List Int) (r : Bool) (w : World) (hr0 : Kd.C (Kd.int .i64) w A0 l0.length l0) (hc0 : l0.length ≤ c0) (h : slices_IsSorted_int_int.f k l0 = some r) :
  Calls Try.prog 107 #[.slice A0 l0.length c0] w fun e w' => e = .returned (.bool r) ∧ Drawn0 w w' := by
 have HR0 := asd hr0
 have HC0 := asd hc0
 clear hr0 hc0
 have H : (slices_IsSorted_int_int.l0 k l0 (wrap64 ((l0.length : Int) - 1))) = some r := h
 clear h
 have H' := asd H
 clear H
 go_enter Try.func107, Try.ntmps107
 go_wp2
 repeat (go_quiet (fail); try go_wp2)
 go_loopg [3] k (fun kq v3 w' => ∃ (x3_1 : Int), v3 = .int .i64 x3_1 ∧ Aside0 (slices_IsSorted_int_int.l0 kq l0 x3_1 = some r) ∧ Aside0 (kq ≤ k) ∧ Drawn0 w w')
 case atStart => exact ⟨(wrap64 ((l0.length : Int) - 1)), (by first | rfl | (simp; done) | (simp [*]; done)), H', ⟨Nat.le_refl _⟩, by repeat (first | exact Drawn0.refl _ | apply Drawn0.step)⟩
 case round =>
  clear H'
  try clear c1
  obtain ⟨x3_1, rfl, HA, HK1, ⟨m1, rfl⟩⟩ := hrel
  cases gk with
  | zero => exact absurd HA.out (by simp [slices_IsSorted_int_int.l0])
  | succ k1 =>
   have H := HA.out
   clear HA
   simp only [slices_IsSorted_int_int.l0] at H
   by_cases c2 : x3_1 > 0
   ·rw [if_pos c2] at H
    have c2b0 : decide (0 < x3_1) = true := decide_eq_true c2
    clear c2
    by_cases c3 : 0 ≤ x3_1
    ·rw [if_pos c3] at H
     have c3b0 : decide (0 ≤ x3_1) = true := decide_eq_true c3
     clear c3
     by_cases c4 : x3_1 < (l0.length : Int)
     ·rw [if_pos c4] at H
      have c4b0 : decide (x3_1 < (l0.length : Int)) = true := decide_eq_true c4
      clear c4
      obtain ⟨ji5, hji5⟩ : ∃ j_ : Int, (wrap64 (x3_1 - 1)) = j_ := ⟨_, rfl⟩
      replace H : (if 0 ≤ (ji5) then (if (ji5) < (l0.length : Int) then ((cmp_Less_int.f (rd l0 x3_1) (rd l0 (ji5))).bind fun t122 => (if t122 = true then (some false) else (slices_IsSorted_int_int.l0 k1 l0 ji5))) else (none)) else (none)) = some r := by first | (rw [hji5] at H; exact H) | (simp only [hji5] at H ⊢; exact H)
      have hji5w : (IntKind.i64.wrap (x3_1 - 1)) = ji5 := (i64_w _).trans hji5
      by_cases c6 : 0 ≤ (ji5)
      ·rw [if_pos c6] at H
       have c6b0 : decide (0 ≤ (ji5)) = true := decide_eq_true c6
       clear c6
       by_cases c7 : (ji5) < (l0.length : Int)
       ·rw [if_pos c7] at H
        have c7b0 : decide ((ji5) < (l0.length : Int)) = true := decide_eq_true c7
        clear c7
        replace H := Option.bind_eq_some_iff.mp H
        obtain ⟨t122, A80, H⟩ := H
        replace H : (if t122 = true then (some false) else (slices_IsSorted_int_int.l0 k1 l0 ji5)) = some r := H
        have A8 := asd A80
        clear A80
        by_cases c9 : t122 = true
        ·subst c9
         have H1 : (some false) = some r := by rw [if_pos rfl] at H; exact H
         clear H
         have H := H1
         clear H1
         obtain rfl := Option.some.inj H
         have p120 : 0 ≤ (x3_1 : Int) := of_decide_eq_true (by assumption)
         have q120 : x3_1 < (l0.length : Int) := of_decide_eq_true (by assumption)
         obtain ⟨ad120, e120, hx120_0⟩ := Kd.at_int HR0.out x3_1 p120 q120
         cases e120
         replace p120 := eq_true p120
         replace q120 := eq_true q120
         have p121 : 0 ≤ ((ji5) : Int) := of_decide_eq_true (by assumption)
         have q121 : (ji5) < (l0.length : Int) := of_decide_eq_true (by assumption)
         obtain ⟨ad121, e121, hx121_0⟩ := Kd.at_int HR0.out (ji5) p121 q121
         obtain rfl : ad120 = ad121 := (by injection e121)
         replace p121 := eq_true p121
         replace q121 := eq_true q121
         go_wp2_with (first | (go_at_call 116; (with_reducible refine (cmp_Less_int.calls (rd l0 x3_1) (rd l0 (ji5)) true _ A8.out).mono ?_); rintro e w' ⟨rfl, ⟨nd, rfl⟩⟩; (try first | exact ⟨rfl, _, World.drewN_drewN _ _ _⟩ | exact ⟨rfl, _, Eq.trans (World.drewN_drewN _ _ _) (congrArg (World.drewN _) (Nat.add_assoc _ _ _))⟩)))
         repeat (go_quiet (first | (go_at_call 116; (with_reducible refine (cmp_Less_int.calls (rd l0 x3_1) (rd l0 (ji5)) true _ A8.out).mono ?_); rintro e w' ⟨rfl, ⟨nd, rfl⟩⟩; (try first | exact ⟨rfl, _, World.drewN_drewN _ _ _⟩ | exact ⟨rfl, _, Eq.trans (World.drewN_drewN _ _ _) (congrArg (World.drewN _) (Nat.add_assoc _ _ _))⟩))); try go_wp2_with (first | (go_at_call 116; (with_reducible refine (cmp_Less_int.calls (rd l0 x3_1) (rd l0 (ji5)) true _ A8.out).mono ?_); rintro e w' ⟨rfl, ⟨nd, rfl⟩⟩; (try first | exact ⟨rfl, _, World.drewN_drewN _ _ _⟩ | exact ⟨rfl, _, Eq.trans (World.drewN_drewN _ _ _) (congrArg (World.drewN _) (Nat.add_assoc _ _ _))⟩))))
         go_ret
         exact ⟨by first | rfl | (simp; done) | (simp only [← hji5] <;> (first | rfl | simp)) | (simp [*]; done), by repeat (first | exact Drawn0.refl _ | apply Drawn0.step)⟩
        ·replace c9 := Bool.eq_false_iff.mpr c9
         subst c9
         have H1 : (slices_IsSorted_int_int.l0 k1 l0 ji5) = some r := by rw [if_neg (show ¬ (false = true) by decide)] at H; exact H
         clear H
         have H := H1
         clear H1
         have H' := asd H
         clear H
         have p120 : 0 ≤ (x3_1 : Int) := of_decide_eq_true (by assumption)
         have q120 : x3_1 < (l0.length : Int) := of_decide_eq_true (by assumption)
         obtain ⟨ad120, e120, hx120_0⟩ := Kd.at_int HR0.out x3_1 p120 q120
         cases e120
         replace p120 := eq_true p120
         replace q120 := eq_true q120
         have p121 : 0 ≤ ((ji5) : Int) := of_decide_eq_true (by assumption)
         have q121 : (ji5) < (l0.length : Int) := of_decide_eq_true (by assumption)
         obtain ⟨ad121, e121, hx121_0⟩ := Kd.at_int HR0.out (ji5) p121 q121
         obtain rfl : ad120 = ad121 := (by injection e121)
         replace p121 := eq_true p121
         replace q121 := eq_true q121
         go_wp2_with (first | (go_at_call 116; (with_reducible refine (cmp_Less_int.calls (rd l0 x3_1) (rd l0 (ji5)) false _ A8.out).mono ?_); rintro e w' ⟨rfl, ⟨nd, rfl⟩⟩; (try first | exact ⟨rfl, _, World.drewN_drewN _ _ _⟩ | exact ⟨rfl, _, Eq.trans (World.drewN_drewN _ _ _) (congrArg (World.drewN _) (Nat.add_assoc _ _ _))⟩)))
         repeat (go_quiet (first | (go_at_call 116; (with_reducible refine (cmp_Less_int.calls (rd l0 x3_1) (rd l0 (ji5)) false _ A8.out).mono ?_); rintro e w' ⟨rfl, ⟨nd, rfl⟩⟩; (try first | exact ⟨rfl, _, World.drewN_drewN _ _ _⟩ | exact ⟨rfl, _, Eq.trans (World.drewN_drewN _ _ _) (congrArg (World.drewN _) (Nat.add_assoc _ _ _))⟩))); try go_wp2_with (first | (go_at_call 116; (with_reducible refine (cmp_Less_int.calls (rd l0 x3_1) (rd l0 (ji5)) false _ A8.out).mono ?_); rintro e w' ⟨rfl, ⟨nd, rfl⟩⟩; (try first | exact ⟨rfl, _, World.drewN_drewN _ _ _⟩ | exact ⟨rfl, _, Eq.trans (World.drewN_drewN _ _ _) (congrArg (World.drewN _) (Nat.add_assoc _ _ _))⟩))))
         go_roundg k1
         case measure => have := HK1.out; omega
         case rel => exact ⟨(ji5), (by first | rfl | (simp; done) | (simp only [← hji5] <;> (first | rfl | simp)) | (simp [*]; done)), H', ⟨by have := HK1.out; omega⟩, by repeat (first | exact Drawn0.refl _ | apply Drawn0.step)⟩
       ·rw [if_neg c7] at H
        exact absurd H (by simp)
      ·rw [if_neg c6] at H
       exact absurd H (by simp)
     ·rw [if_neg c4] at H
      exact absurd H (by simp)
    ·rw [if_neg c3] at H
     exact absurd H (by simp)
   ·rw [if_neg c2] at H
    have c2b0 : decide (0 < x3_1) = false := decide_eq_false c2
    clear c2
    obtain rfl := Option.some.inj H
    go_wp2
    repeat (go_quiet (fail); try go_wp2)
    go_ret
    exact ⟨by first | rfl | (simp; done) | (simp [*]; done), by repeat (first | exact Drawn0.refl _ | apply Drawn0.step)⟩
end Go.Proofs.Ytjekfipaadbbbaa.Fn
namespace Go.Proofs.Ytjekfipaadbbbaa.Fn
open Go.RowKit Go.Proofs.YtjekfipaadbbbaaW.PrintWords Go.Proofs.YtjekfipaadbbbaaW.PrintLast Go.Proofs.YtjekfipaadbbbaaW.PrintMore
attribute [local go_sem] max2_int min2_int max_two min_two max_three min_three max_four min_four
set_option linter.unusedVariables false
set_option linter.unusedSimpArgs false
def conf_rise.f (k : Nat) (l0 : List Int) : Option (Bool) := (slices_IsSorted_int_int.f k l0).bind fun t123 => (some t123)
set_option maxHeartbeats 8000000 in
set_option maxRecDepth 100000 in
theorem conf_rise.calls (k : Nat) (A0 : Option Addr) (c0 : Nat) (l0 : List Int) (r : Bool) (w : World) (hr0 : Kd.C (Kd.int .i64) w A0 l0.length l0) (hc0 : l0.length ≤ c0) (h : conf_rise.f k l0 = some r) :
  Calls Try.prog 71 #[.slice A0 l0.length c0] w fun e w' => e = .returned (.bool r) ∧ Drawn0 w w' := by
 have HR0 := asd hr0
 have HC0 := asd hc0
 clear hr0 hc0
 have H : ((slices_IsSorted_int_int.f k l0).bind fun t123 => (some t123)) = some r := h
 clear h
 replace H := Option.bind_eq_some_iff.mp H
 obtain ⟨t123, A20, H⟩ := H
 replace H : (some t123) = some r := H
 have A2 := asd A20
 clear A20
 obtain rfl := Option.some.inj H
 go_enter Try.func71, Try.ntmps71
 go_wp2_with (first | ((with_reducible refine gate_callee (f := 107) rfl ?_); refine goesL_ (some 4) rfl rfl Try.func107 (by kernel_rfl) rfl #[.slice A0 l0.length c0] rfl (by (try simp only [List.map_toArray, List.map_cons, List.map_nil]); first | done | rfl | (simp only [List.length_drop, List.length_take]; rfl)) ?_; (with_reducible refine (slices_IsSorted_int_int.calls k _ _ l0 t123 _ ?side1 ?side2 A2.out).mono ?_); (case side1 => repeat (first | exact HR0.out | (with_reducible refine Kd.C_alloc ?_ _) | (with_reducible refine Kd.C_drewN ?_ _) | (with_reducible refine Kd.C_drew ?_))); (case side2 => exact HC0.out); rintro e w' ⟨rfl, ⟨nd, rfl⟩⟩; refine ⟨_, rfl, ?_⟩))
 go_ret
 exact ⟨by first | rfl | (simp; done) | (simp [*]; done), by repeat (first | exact Drawn0.refl _ | apply Drawn0.step)⟩
end Go.Proofs.Ytjekfipaadbbbaa.Fn
namespace Go.Proofs.Ytjekfipaadbbbaa.Fn
open Go.RowKit Go.Proofs.YtjekfipaadbbbaaW.PrintWords Go.Proofs.YtjekfipaadbbbaaW.PrintLast Go.Proofs.YtjekfipaadbbbaaW.PrintMore
attribute [local go_sem] max2_int min2_int max_two min_two max_three min_three max_four min_four
set_option linter.unusedVariables false
set_option linter.unusedSimpArgs false
def conf_Task_Right.f (k : Nat) (a0_0 : Bool) (a0_1 : Int) (a0_2 : Int) (a0_3 : Int) (a0_4 : Int) (a0_5 : Int) : Option (Bool) := (conf_rise.f k (([1, a0_4, a0_3, a0_2, a0_1, 1000] : List Int))).bind fun t128 => (if t128 = true then ((conf_rise.f k (([a0_4, a0_5, a0_2] : List Int))).bind fun t132 => (if t132 = true then (if a0_0 = true then (some true) else (if a0_3 = a0_2 then (some (a0_5 == a0_4)) else (some false))) else (some false))) else (some false))
set_option maxHeartbeats 8000000 in
set_option maxRecDepth 100000 in
theorem conf_Task_Right.calls (k : Nat) (a0_0 : Bool) (a0_1 : Int) (a0_2 : Int) (a0_3 : Int) (a0_4 : Int) (a0_5 : Int) (r : Bool) (w : World) (h : conf_Task_Right.f k a0_0 a0_1 a0_2 a0_3 a0_4 a0_5 = some r) :
  Calls Try.prog 25 #[.agg #[.bool a0_0, .int .i64 a0_1, .int .i64 a0_2, .int .i64 a0_3, .int .i64 a0_4, .int .i64 a0_5]] w fun e w' => e = .returned (.bool r) ∧ Below w.heap.size w w' := by
 have hu45 := Try.underlying45
 have HB := asd (Below.refl w.heap.size w)
 have H : ((conf_rise.f k (([1, a0_4, a0_3, a0_2, a0_1, 1000] : List Int))).bind fun t128 => (if t128 = true then ((conf_rise.f k (([a0_4, a0_5, a0_2] : List Int))).bind fun t132 => (if t132 = true then (if a0_0 = true then (some true) else (if a0_3 = a0_2 then (some (a0_5 == a0_4)) else (some false))) else (some false))) else (some false))) = some r := h
 clear h
 obtain ⟨y125, hy125⟩ : ∃ y_ : List Int, y_ = (([1, a0_4, a0_3, a0_2, a0_1, 1000] : List Int)) := ⟨_, rfl⟩
 replace H : ((conf_rise.f k y125).bind fun t128 => (if t128 = true then ((conf_rise.f k (([a0_4, a0_5, a0_2] : List Int))).bind fun t132 => (if t132 = true then (if a0_0 = true then (some true) else (if a0_3 = a0_2 then (some (a0_5 == a0_4)) else (some false))) else (some false))) else (some false))) = some r := by first | (rw [hy125]; with_reducible exact H) | (have H2_ := (Option.bind_some _ _).symm.trans H; rw [hy125]; with_reducible exact H2_) | (have H2_ := (Option.bind_some _ _).symm.trans H; with_reducible exact H2_) | with_reducible exact H | (rw [hy125]; exact H) | exact H
 have Ny125 := asd hy125
 clear hy125
 replace H := Option.bind_eq_some_iff.mp H
 obtain ⟨t128, A20, H⟩ := H
 replace H : (if t128 = true then ((conf_rise.f k (([a0_4, a0_5, a0_2] : List Int))).bind fun t132 => (if t132 = true then (if a0_0 = true then (some true) else (if a0_3 = a0_2 then (some (a0_5 == a0_4)) else (some false))) else (some false))) else (some false)) = some r := H
 have A2 := asd A20
 clear A20
 by_cases c3 : t128 = true
 ·subst c3
  have H1 : ((conf_rise.f k (([a0_4, a0_5, a0_2] : List Int))).bind fun t132 => (if t132 = true then (if a0_0 = true then (some true) else (if a0_3 = a0_2 then (some (a0_5 == a0_4)) else (some false))) else (some false))) = some r := by rw [if_pos rfl] at H; exact H
  clear H
  have H := H1
  clear H1
  obtain ⟨y129, hy129⟩ : ∃ y_ : List Int, y_ = (([a0_4, a0_5, a0_2] : List Int)) := ⟨_, rfl⟩
  replace H : ((conf_rise.f k y129).bind fun t132 => (if t132 = true then (if a0_0 = true then (some true) else (if a0_3 = a0_2 then (some (a0_5 == a0_4)) else (some false))) else (some false))) = some r := by first | (rw [hy129]; with_reducible exact H) | (have H2_ := (Option.bind_some _ _).symm.trans H; rw [hy129]; with_reducible exact H2_) | (have H2_ := (Option.bind_some _ _).symm.trans H; with_reducible exact H2_) | with_reducible exact H | (rw [hy129]; exact H) | exact H
  have Ny129 := asd hy129
  clear hy129
  replace H := Option.bind_eq_some_iff.mp H
  obtain ⟨t132, A40, H⟩ := H
  replace H : (if t132 = true then (if a0_0 = true then (some true) else (if a0_3 = a0_2 then (some (a0_5 == a0_4)) else (some false))) else (some false)) = some r := H
  have A4 := asd A40
  clear A40
  by_cases c5 : t132 = true
  ·subst c5
   have H1 : (if a0_0 = true then (some true) else (if a0_3 = a0_2 then (some (a0_5 == a0_4)) else (some false))) = some r := by rw [if_pos rfl] at H; exact H
   clear H
   have H := H1
   clear H1
   by_cases c6 : a0_0 = true
   ·subst c6
    have H1 : (some true) = some r := by rw [if_pos rfl] at H; exact H
    clear H
    have H := H1
    clear H1
    obtain rfl := Option.some.inj H
    go_enter Try.func25, Try.ntmps25
    go_wp2_with (first | ((with_reducible refine gate_dst (N := 1) rfl ?_); (try (refine gate_guard (by rfl) ?_; dsimp only)); refine box_event ?hg (N := 1) ?hd (cs := #[.bool true, .int .i64 a0_1, .int .i64 a0_2, .int .i64 a0_3, .int .i64 a0_4, .int .i64 a0_5]) (t := 45) ?hr ?_; (case hd => rfl); (case hg => rfl); (case hr => first | (go_simp; done) | (go_simp; rfl)); intro gb124 hg w7 hbox hb; have n0_ := asd (below_step (by repeat (first | (with_reducible first | exact HB.out | apply wa | apply wn | apply wd) | exact HB.out)) hb); have n1_ := asd (hbox); have n2_ := asd ((by rw [hg]; exact (below_size (by repeat (first | (with_reducible first | exact HB.out | apply wa | apply wn | apply wd) | exact HB.out))) : w.heap.size ≤ gb124)); have n3_ := asd ((by rw [hg]; exact (below_size (by repeat (first | (with_reducible first | exact HB.out | apply wa | apply wn | apply wd) | exact HB.out))) : w.heap.size ≤ gb124)); clear HB; have HB := n0_; have BK124 := n1_; have GW124 := n2_; have GE124 := n3_; clear n0_ n1_ n2_ n3_; clear hb hbox hg; have hcz8_0 : w7.cell? ⟨gb124, 0, none⟩ = some (.bool true) := (blk_cell BK124.out 0).trans rfl; have hcz8_1 : w7.cell? ⟨gb124, 1, none⟩ = some (.int .i64 a0_1) := (blk_cell BK124.out 1).trans rfl; have hcz8_2 : w7.cell? ⟨gb124, 2, none⟩ = some (.int .i64 a0_2) := (blk_cell BK124.out 2).trans rfl; have hcz8_3 : w7.cell? ⟨gb124, 3, none⟩ = some (.int .i64 a0_3) := (blk_cell BK124.out 3).trans rfl; have hcz8_4 : w7.cell? ⟨gb124, 4, none⟩ = some (.int .i64 a0_4) := (blk_cell BK124.out 4).trans rfl; have hcz8_5 : w7.cell? ⟨gb124, 5, none⟩ = some (.int .i64 a0_5) := (blk_cell BK124.out 5).trans rfl; have hfz8_0 := blk_frozen BK124.out 0; have hfz8_1 := blk_frozen BK124.out 1; have hfz8_2 := blk_frozen BK124.out 2; have hfz8_3 := blk_frozen BK124.out 3; have hfz8_4 := blk_frozen BK124.out 4; have hfz8_5 := blk_frozen BK124.out 5) | ((with_reducible refine gate_dst (N := 11) rfl ?_); (try (refine gate_guard (by rfl) ?_; dsimp only)); refine Kd.R_lit (Kd.int .i64) _ 3 ?hg (N := 11) ?hd (xs := ([1, a0_4, a0_3, a0_2, a0_1, 1000] : List Int)) (inner := [.int .i64 1, .int .i64 a0_4, .int .i64 a0_3, .int .i64 a0_2, .int .i64 a0_1, .int .i64 1000]) (ok := fun _ => True) (okp := fun _ => True) ?hr ?hp (fun _ hk => hk) trivial (Below.refl _ _) (Nat.le_refl _) (by simp) ?_; (case hd => rfl); (case hg => rfl); (case hr => first | (go_simp; done) | (go_simp; rfl)); (case hp => exact (Reps.one (show Kd.M (Kd.int .i64) _ _ _ 1 [.int .i64 1] from rfl) (Reps.one (show Kd.M (Kd.int .i64) _ _ _ a0_4 [.int .i64 a0_4] from rfl) (Reps.one (show Kd.M (Kd.int .i64) _ _ _ a0_3 [.int .i64 a0_3] from rfl) (Reps.one (show Kd.M (Kd.int .i64) _ _ _ a0_2 [.int .i64 a0_2] from rfl) (Reps.one (show Kd.M (Kd.int .i64) _ _ _ a0_1 [.int .i64 a0_1] from rfl) (Reps.one (show Kd.M (Kd.int .i64) _ _ _ 1000 [.int .i64 1000] from rfl) (Reps.none _ _)))))))); intro v126 w9 ho10 hb hg_ hnew_; clear hg_ hnew_; (first | rw [← Ny125.out] at ho10 | (simp only [Int.reduceToNat] at ho10; rw [← Ny125.out] at ho10)); have n0_ := asd (Kd.R_lower ho10 (below_size (by repeat (first | (with_reducible first | exact HB.out | apply wa | apply wn | apply wd | refine ws ?_ GE124.out) | exact HB.out)))); have n1_ := asd (blk_below (g := gb124) (o := .cells #[.bool true, .int .i64 a0_1, .int .i64 a0_2, .int .i64 a0_3, .int .i64 a0_4, .int .i64 a0_5] 45 (0, 0)) (by (with_reducible repeat first | apply bn | apply bd | apply ba); exact BK124.out) hb); have n2_ := asd (below_step (by repeat (first | (with_reducible first | exact HB.out | apply wa | apply wn | apply wd | refine ws ?_ GE124.out) | exact HB.out)) hb); clear BK124; clear HB; have HO127 := n0_; have BK124 := n1_; have HB := n2_; clear n0_ n1_ n2_; clear hb ho10; obtain ⟨Ao11, co11, eo11⟩ := Kd.R_slice HO127.out; subst eo11) | ((with_reducible refine gate_callee (f := 71) rfl ?_); refine goesL_ (some 12) rfl rfl Try.func71 (by kernel_rfl) rfl #[.slice Ao11 y125.length co11] rfl (by (try simp only [List.map_toArray, List.map_cons, List.map_nil]); first | done | rfl | (simp only [List.length_drop, List.length_take]; rfl)) ?_; (with_reducible refine (conf_rise.calls k _ _ y125 true _ ?side1 ?side2 A2.out).mono ?_); (case side1 => repeat (first | exact (Kd.R_reads' HO127.out).2.2 | (with_reducible refine Kd.C_alloc ?_ _) | (with_reducible refine Kd.C_drewN ?_ _) | (with_reducible refine Kd.C_drew ?_))); (case side2 => exact (Kd.R_reads' HO127.out).2.1); rintro e w' ⟨rfl, ⟨nd, rfl⟩⟩; refine ⟨_, rfl, ?_⟩; have hcz12_0 : w9.cell? ⟨gb124, 0, none⟩ = some (.bool true) := (blk_cell BK124.out 0).trans rfl; have hcz12_1 : w9.cell? ⟨gb124, 1, none⟩ = some (.int .i64 a0_1) := (blk_cell BK124.out 1).trans rfl; have hcz12_2 : w9.cell? ⟨gb124, 2, none⟩ = some (.int .i64 a0_2) := (blk_cell BK124.out 2).trans rfl; have hcz12_3 : w9.cell? ⟨gb124, 3, none⟩ = some (.int .i64 a0_3) := (blk_cell BK124.out 3).trans rfl; have hcz12_4 : w9.cell? ⟨gb124, 4, none⟩ = some (.int .i64 a0_4) := (blk_cell BK124.out 4).trans rfl; have hcz12_5 : w9.cell? ⟨gb124, 5, none⟩ = some (.int .i64 a0_5) := (blk_cell BK124.out 5).trans rfl; have hfz12_0 := blk_frozen BK124.out 0; have hfz12_1 := blk_frozen BK124.out 1; have hfz12_2 := blk_frozen BK124.out 2; have hfz12_3 := blk_frozen BK124.out 3; have hfz12_4 := blk_frozen BK124.out 4; have hfz12_5 := blk_frozen BK124.out 5) | ((with_reducible refine gate_dst (N := 21) rfl ?_); (try (refine gate_guard (by rfl) ?_; dsimp only)); refine Kd.R_lit (Kd.int .i64) _ 3 ?hg (N := 21) ?hd (xs := ([a0_4, a0_5, a0_2] : List Int)) (inner := [.int .i64 a0_4, .int .i64 a0_5, .int .i64 a0_2]) (ok := fun _ => True) (okp := fun _ => True) ?hr ?hp (fun _ hk => hk) trivial (Below.refl _ _) (Nat.le_refl _) (by simp) ?_; (case hd => rfl); (case hg => rfl); (case hr => first | (go_simp; done) | (go_simp; rfl)); (case hp => exact (Reps.one (show Kd.M (Kd.int .i64) _ _ _ a0_4 [.int .i64 a0_4] from rfl) (Reps.one (show Kd.M (Kd.int .i64) _ _ _ a0_5 [.int .i64 a0_5] from rfl) (Reps.one (show Kd.M (Kd.int .i64) _ _ _ a0_2 [.int .i64 a0_2] from rfl) (Reps.none _ _))))); intro v130 w13 ho14 hb hg_ hnew_; clear hg_ hnew_; (first | rw [← Ny129.out] at ho14 | (simp only [Int.reduceToNat] at ho14; rw [← Ny129.out] at ho14)); have n0_ := asd (Kd.R_elder' (by (with_reducible repeat (first | apply Kd.R_alloc | apply Kd.R_drewN | apply Kd.R_drew)); exact HO127.out) (Kd.R_base ho14) hb); have n1_ := asd (Kd.R_lower (Kd.R_new' ho14 (Kd.R_lt (by (with_reducible repeat (first | apply Kd.R_alloc | apply Kd.R_drewN | apply Kd.R_drew)); exact HO127.out))) (below_size (by repeat (first | (with_reducible first | exact HB.out | apply wa | apply wn | apply wd | refine ws ?_ GE124.out) | exact HB.out)))); have n2_ := asd (blk_below (g := gb124) (o := .cells #[.bool true, .int .i64 a0_1, .int .i64 a0_2, .int .i64 a0_3, .int .i64 a0_4, .int .i64 a0_5] 45 (0, 0)) (by (with_reducible repeat first | apply bn | apply bd | apply ba); exact BK124.out) hb); have n3_ := asd (below_step (by repeat (first | (with_reducible first | exact HB.out | apply wa | apply wn | apply wd | refine ws ?_ GE124.out) | exact HB.out)) hb); clear HO127; clear BK124; clear HB; have HO127 := n0_; have HO131 := n1_; have BK124 := n2_; have HB := n3_; clear n0_ n1_ n2_ n3_; clear hb ho14; obtain ⟨Ao15, co15, eo15⟩ := Kd.R_slice HO131.out; subst eo15) | (go_at_call 71; (with_reducible refine (conf_rise.calls k _ _ y129 true _ ?side1 ?side2 A4.out).mono ?_); (case side1 => repeat (first | exact (Kd.R_reads' HO131.out).2.2 | (with_reducible refine Kd.C_alloc ?_ _) | (with_reducible refine Kd.C_drewN ?_ _) | (with_reducible refine Kd.C_drew ?_))); (case side2 => exact (Kd.R_reads' HO131.out).2.1); rintro e w' ⟨rfl, ⟨nd, rfl⟩⟩; have hcz16_0 : w13.cell? ⟨gb124, 0, none⟩ = some (.bool true) := (blk_cell BK124.out 0).trans rfl; have hcz16_1 : w13.cell? ⟨gb124, 1, none⟩ = some (.int .i64 a0_1) := (blk_cell BK124.out 1).trans rfl; have hcz16_2 : w13.cell? ⟨gb124, 2, none⟩ = some (.int .i64 a0_2) := (blk_cell BK124.out 2).trans rfl; have hcz16_3 : w13.cell? ⟨gb124, 3, none⟩ = some (.int .i64 a0_3) := (blk_cell BK124.out 3).trans rfl; have hcz16_4 : w13.cell? ⟨gb124, 4, none⟩ = some (.int .i64 a0_4) := (blk_cell BK124.out 4).trans rfl; have hcz16_5 : w13.cell? ⟨gb124, 5, none⟩ = some (.int .i64 a0_5) := (blk_cell BK124.out 5).trans rfl; have hfz16_0 := blk_frozen BK124.out 0; have hfz16_1 := blk_frozen BK124.out 1; have hfz16_2 := blk_frozen BK124.out 2; have hfz16_3 := blk_frozen BK124.out 3; have hfz16_4 := blk_frozen BK124.out 4; have hfz16_5 := blk_frozen BK124.out 5))
    go_ret
    exact ⟨by first | rfl | (simp [*] <;> rfl), by repeat (first | (with_reducible first | exact HB.out | apply wa | apply wn | apply wd | refine ws ?_ GE124.out) | exact HB.out)⟩
   ·replace c6 := Bool.eq_false_iff.mpr c6
    subst c6
    have H1 : (if a0_3 = a0_2 then (some (a0_5 == a0_4)) else (some false)) = some r := by rw [if_neg (show ¬ (false = true) by decide)] at H; exact H
    clear H
    have H := H1
    clear H1
    by_cases c17 : a0_3 = a0_2
    ·rw [if_pos c17] at H
     have c17b0 : (a0_3 == a0_2) = true := beq_iff_eq.mpr c17
     have c17b1 : (a0_3 != a0_2) = false := bne_eq_false_iff_eq.mpr c17
     clear c17
     obtain rfl := Option.some.inj H
     go_enter Try.func25, Try.ntmps25
     go_wp2_with (first | ((with_reducible refine gate_dst (N := 1) rfl ?_); (try (refine gate_guard (by rfl) ?_; dsimp only)); refine box_event ?hg (N := 1) ?hd (cs := #[.bool false, .int .i64 a0_1, .int .i64 a0_2, .int .i64 a0_3, .int .i64 a0_4, .int .i64 a0_5]) (t := 45) ?hr ?_; (case hd => rfl); (case hg => rfl); (case hr => first | (go_simp; done) | (go_simp; rfl)); intro gb124 hg w18 hbox hb; have n0_ := asd (below_step (by repeat (first | (with_reducible first | exact HB.out | apply wa | apply wn | apply wd) | exact HB.out)) hb); have n1_ := asd (hbox); have n2_ := asd ((by rw [hg]; exact (below_size (by repeat (first | (with_reducible first | exact HB.out | apply wa | apply wn | apply wd) | exact HB.out))) : w.heap.size ≤ gb124)); have n3_ := asd ((by rw [hg]; exact (below_size (by repeat (first | (with_reducible first | exact HB.out | apply wa | apply wn | apply wd) | exact HB.out))) : w.heap.size ≤ gb124)); clear HB; have HB := n0_; have BK124 := n1_; have GW124 := n2_; have GE124 := n3_; clear n0_ n1_ n2_ n3_; clear hb hbox hg; have hcz19_0 : w18.cell? ⟨gb124, 0, none⟩ = some (.bool false) := (blk_cell BK124.out 0).trans rfl; have hcz19_1 : w18.cell? ⟨gb124, 1, none⟩ = some (.int .i64 a0_1) := (blk_cell BK124.out 1).trans rfl; have hcz19_2 : w18.cell? ⟨gb124, 2, none⟩ = some (.int .i64 a0_2) := (blk_cell BK124.out 2).trans rfl; have hcz19_3 : w18.cell? ⟨gb124, 3, none⟩ = some (.int .i64 a0_3) := (blk_cell BK124.out 3).trans rfl; have hcz19_4 : w18.cell? ⟨gb124, 4, none⟩ = some (.int .i64 a0_4) := (blk_cell BK124.out 4).trans rfl; have hcz19_5 : w18.cell? ⟨gb124, 5, none⟩ = some (.int .i64 a0_5) := (blk_cell BK124.out 5).trans rfl; have hfz19_0 := blk_frozen BK124.out 0; have hfz19_1 := blk_frozen BK124.out 1; have hfz19_2 := blk_frozen BK124.out 2; have hfz19_3 := blk_frozen BK124.out 3; have hfz19_4 := blk_frozen BK124.out 4; have hfz19_5 := blk_frozen BK124.out 5) | ((with_reducible refine gate_dst (N := 11) rfl ?_); (try (refine gate_guard (by rfl) ?_; dsimp only)); refine Kd.R_lit (Kd.int .i64) _ 3 ?hg (N := 11) ?hd (xs := ([1, a0_4, a0_3, a0_2, a0_1, 1000] : List Int)) (inner := [.int .i64 1, .int .i64 a0_4, .int .i64 a0_3, .int .i64 a0_2, .int .i64 a0_1, .int .i64 1000]) (ok := fun _ => True) (okp := fun _ => True) ?hr ?hp (fun _ hk => hk) trivial (Below.refl _ _) (Nat.le_refl _) (by simp) ?_; (case hd => rfl); (case hg => rfl); (case hr => first | (go_simp; done) | (go_simp; rfl)); (case hp => exact (Reps.one (show Kd.M (Kd.int .i64) _ _ _ 1 [.int .i64 1] from rfl) (Reps.one (show Kd.M (Kd.int .i64) _ _ _ a0_4 [.int .i64 a0_4] from rfl) (Reps.one (show Kd.M (Kd.int .i64) _ _ _ a0_3 [.int .i64 a0_3] from rfl) (Reps.one (show Kd.M (Kd.int .i64) _ _ _ a0_2 [.int .i64 a0_2] from rfl) (Reps.one (show Kd.M (Kd.int .i64) _ _ _ a0_1 [.int .i64 a0_1] from rfl) (Reps.one (show Kd.M (Kd.int .i64) _ _ _ 1000 [.int .i64 1000] from rfl) (Reps.none _ _)))))))); intro v126 w20 ho21 hb hg_ hnew_; clear hg_ hnew_; (first | rw [← Ny125.out] at ho21 | (simp only [Int.reduceToNat] at ho21; rw [← Ny125.out] at ho21)); have n0_ := asd (Kd.R_lower ho21 (below_size (by repeat (first | (with_reducible first | exact HB.out | apply wa | apply wn | apply wd | refine ws ?_ GE124.out) | exact HB.out)))); have n1_ := asd (blk_below (g := gb124) (o := .cells #[.bool false, .int .i64 a0_1, .int .i64 a0_2, .int .i64 a0_3, .int .i64 a0_4, .int .i64 a0_5] 45 (0, 0)) (by (with_reducible repeat first | apply bn | apply bd | apply ba); exact BK124.out) hb); have n2_ := asd (below_step (by repeat (first | (with_reducible first | exact HB.out | apply wa | apply wn | apply wd | refine ws ?_ GE124.out) | exact HB.out)) hb); clear BK124; clear HB; have HO127 := n0_; have BK124 := n1_; have HB := n2_; clear n0_ n1_ n2_; clear hb ho21; obtain ⟨Ao22, co22, eo22⟩ := Kd.R_slice HO127.out; subst eo22) | ((with_reducible refine gate_callee (f := 71) rfl ?_); refine goesL_ (some 12) rfl rfl Try.func71 (by kernel_rfl) rfl #[.slice Ao22 y125.length co22] rfl (by (try simp only [List.map_toArray, List.map_cons, List.map_nil]); first | done | rfl | (simp only [List.length_drop, List.length_take]; rfl)) ?_; (with_reducible refine (conf_rise.calls k _ _ y125 true _ ?side1 ?side2 A2.out).mono ?_); (case side1 => repeat (first | exact (Kd.R_reads' HO127.out).2.2 | (with_reducible refine Kd.C_alloc ?_ _) | (with_reducible refine Kd.C_drewN ?_ _) | (with_reducible refine Kd.C_drew ?_))); (case side2 => exact (Kd.R_reads' HO127.out).2.1); rintro e w' ⟨rfl, ⟨nd, rfl⟩⟩; refine ⟨_, rfl, ?_⟩; have hcz23_0 : w20.cell? ⟨gb124, 0, none⟩ = some (.bool false) := (blk_cell BK124.out 0).trans rfl; have hcz23_1 : w20.cell? ⟨gb124, 1, none⟩ = some (.int .i64 a0_1) := (blk_cell BK124.out 1).trans rfl; have hcz23_2 : w20.cell? ⟨gb124, 2, none⟩ = some (.int .i64 a0_2) := (blk_cell BK124.out 2).trans rfl; have hcz23_3 : w20.cell? ⟨gb124, 3, none⟩ = some (.int .i64 a0_3) := (blk_cell BK124.out 3).trans rfl; have hcz23_4 : w20.cell? ⟨gb124, 4, none⟩ = some (.int .i64 a0_4) := (blk_cell BK124.out 4).trans rfl; have hcz23_5 : w20.cell? ⟨gb124, 5, none⟩ = some (.int .i64 a0_5) := (blk_cell BK124.out 5).trans rfl; have hfz23_0 := blk_frozen BK124.out 0; have hfz23_1 := blk_frozen BK124.out 1; have hfz23_2 := blk_frozen BK124.out 2; have hfz23_3 := blk_frozen BK124.out 3; have hfz23_4 := blk_frozen BK124.out 4; have hfz23_5 := blk_frozen BK124.out 5) | ((with_reducible refine gate_dst (N := 21) rfl ?_); (try (refine gate_guard (by rfl) ?_; dsimp only)); refine Kd.R_lit (Kd.int .i64) _ 3 ?hg (N := 21) ?hd (xs := ([a0_4, a0_5, a0_2] : List Int)) (inner := [.int .i64 a0_4, .int .i64 a0_5, .int .i64 a0_2]) (ok := fun _ => True) (okp := fun _ => True) ?hr ?hp (fun _ hk => hk) trivial (Below.refl _ _) (Nat.le_refl _) (by simp) ?_; (case hd => rfl); (case hg => rfl); (case hr => first | (go_simp; done) | (go_simp; rfl)); (case hp => exact (Reps.one (show Kd.M (Kd.int .i64) _ _ _ a0_4 [.int .i64 a0_4] from rfl) (Reps.one (show Kd.M (Kd.int .i64) _ _ _ a0_5 [.int .i64 a0_5] from rfl) (Reps.one (show Kd.M (Kd.int .i64) _ _ _ a0_2 [.int .i64 a0_2] from rfl) (Reps.none _ _))))); intro v130 w24 ho25 hb hg_ hnew_; clear hg_ hnew_; (first | rw [← Ny129.out] at ho25 | (simp only [Int.reduceToNat] at ho25; rw [← Ny129.out] at ho25)); have n0_ := asd (Kd.R_elder' (by (with_reducible repeat (first | apply Kd.R_alloc | apply Kd.R_drewN | apply Kd.R_drew)); exact HO127.out) (Kd.R_base ho25) hb); have n1_ := asd (Kd.R_lower (Kd.R_new' ho25 (Kd.R_lt (by (with_reducible repeat (first | apply Kd.R_alloc | apply Kd.R_drewN | apply Kd.R_drew)); exact HO127.out))) (below_size (by repeat (first | (with_reducible first | exact HB.out | apply wa | apply wn | apply wd | refine ws ?_ GE124.out) | exact HB.out)))); have n2_ := asd (blk_below (g := gb124) (o := .cells #[.bool false, .int .i64 a0_1, .int .i64 a0_2, .int .i64 a0_3, .int .i64 a0_4, .int .i64 a0_5] 45 (0, 0)) (by (with_reducible repeat first | apply bn | apply bd | apply ba); exact BK124.out) hb); have n3_ := asd (below_step (by repeat (first | (with_reducible first | exact HB.out | apply wa | apply wn | apply wd | refine ws ?_ GE124.out) | exact HB.out)) hb); clear HO127; clear BK124; clear HB; have HO127 := n0_; have HO131 := n1_; have BK124 := n2_; have HB := n3_; clear n0_ n1_ n2_ n3_; clear hb ho25; obtain ⟨Ao26, co26, eo26⟩ := Kd.R_slice HO131.out; subst eo26) | (go_at_call 71; (with_reducible refine (conf_rise.calls k _ _ y129 true _ ?side1 ?side2 A4.out).mono ?_); (case side1 => repeat (first | exact (Kd.R_reads' HO131.out).2.2 | (with_reducible refine Kd.C_alloc ?_ _) | (with_reducible refine Kd.C_drewN ?_ _) | (with_reducible refine Kd.C_drew ?_))); (case side2 => exact (Kd.R_reads' HO131.out).2.1); rintro e w' ⟨rfl, ⟨nd, rfl⟩⟩; have hcz27_0 : w24.cell? ⟨gb124, 0, none⟩ = some (.bool false) := (blk_cell BK124.out 0).trans rfl; have hcz27_1 : w24.cell? ⟨gb124, 1, none⟩ = some (.int .i64 a0_1) := (blk_cell BK124.out 1).trans rfl; have hcz27_2 : w24.cell? ⟨gb124, 2, none⟩ = some (.int .i64 a0_2) := (blk_cell BK124.out 2).trans rfl; have hcz27_3 : w24.cell? ⟨gb124, 3, none⟩ = some (.int .i64 a0_3) := (blk_cell BK124.out 3).trans rfl; have hcz27_4 : w24.cell? ⟨gb124, 4, none⟩ = some (.int .i64 a0_4) := (blk_cell BK124.out 4).trans rfl; have hcz27_5 : w24.cell? ⟨gb124, 5, none⟩ = some (.int .i64 a0_5) := (blk_cell BK124.out 5).trans rfl; have hfz27_0 := blk_frozen BK124.out 0; have hfz27_1 := blk_frozen BK124.out 1; have hfz27_2 := blk_frozen BK124.out 2; have hfz27_3 := blk_frozen BK124.out 3; have hfz27_4 := blk_frozen BK124.out 4; have hfz27_5 := blk_frozen BK124.out 5))
     go_ret
     exact ⟨by first | rfl | (simp [*] <;> rfl), by repeat (first | (with_reducible first | exact HB.out | apply wa | apply wn | apply wd | refine ws ?_ GE124.out) | exact HB.out)⟩
    ·rw [if_neg c17] at H
     have c17b0 : (a0_3 == a0_2) = false := beq_eq_false_iff_ne.mpr c17
     have c17b1 : (a0_3 != a0_2) = true := bne_iff_ne.mpr c17
     obtain rfl := Option.some.inj H
     go_enter Try.func25, Try.ntmps25
     go_wp2_with (first | ((with_reducible refine gate_dst (N := 1) rfl ?_); (try (refine gate_guard (by rfl) ?_; dsimp only)); refine box_event ?hg (N := 1) ?hd (cs := #[.bool false, .int .i64 a0_1, .int .i64 a0_2, .int .i64 a0_3, .int .i64 a0_4, .int .i64 a0_5]) (t := 45) ?hr ?_; (case hd => rfl); (case hg => rfl); (case hr => first | (go_simp; done) | (go_simp; rfl)); intro gb124 hg w28 hbox hb; have n0_ := asd (below_step (by repeat (first | (with_reducible first | exact HB.out | apply wa | apply wn | apply wd) | exact HB.out)) hb); have n1_ := asd (hbox); have n2_ := asd ((by rw [hg]; exact (below_size (by repeat (first | (with_reducible first | exact HB.out | apply wa | apply wn | apply wd) | exact HB.out))) : w.heap.size ≤ gb124)); have n3_ := asd ((by rw [hg]; exact (below_size (by repeat (first | (with_reducible first | exact HB.out | apply wa | apply wn | apply wd) | exact HB.out))) : w.heap.size ≤ gb124)); clear HB; have HB := n0_; have BK124 := n1_; have GW124 := n2_; have GE124 := n3_; clear n0_ n1_ n2_ n3_; clear hb hbox hg; have hcz29_0 : w28.cell? ⟨gb124, 0, none⟩ = some (.bool false) := (blk_cell BK124.out 0).trans rfl; have hcz29_1 : w28.cell? ⟨gb124, 1, none⟩ = some (.int .i64 a0_1) := (blk_cell BK124.out 1).trans rfl; have hcz29_2 : w28.cell? ⟨gb124, 2, none⟩ = some (.int .i64 a0_2) := (blk_cell BK124.out 2).trans rfl; have hcz29_3 : w28.cell? ⟨gb124, 3, none⟩ = some (.int .i64 a0_3) := (blk_cell BK124.out 3).trans rfl; have hcz29_4 : w28.cell? ⟨gb124, 4, none⟩ = some (.int .i64 a0_4) := (blk_cell BK124.out 4).trans rfl; have hcz29_5 : w28.cell? ⟨gb124, 5, none⟩ = some (.int .i64 a0_5) := (blk_cell BK124.out 5).trans rfl; have hfz29_0 := blk_frozen BK124.out 0; have hfz29_1 := blk_frozen BK124.out 1; have hfz29_2 := blk_frozen BK124.out 2; have hfz29_3 := blk_frozen BK124.out 3; have hfz29_4 := blk_frozen BK124.out 4; have hfz29_5 := blk_frozen BK124.out 5) | ((with_reducible refine gate_dst (N := 11) rfl ?_); (try (refine gate_guard (by rfl) ?_; dsimp only)); refine Kd.R_lit (Kd.int .i64) _ 3 ?hg (N := 11) ?hd (xs := ([1, a0_4, a0_3, a0_2, a0_1, 1000] : List Int)) (inner := [.int .i64 1, .int .i64 a0_4, .int .i64 a0_3, .int .i64 a0_2, .int .i64 a0_1, .int .i64 1000]) (ok := fun _ => True) (okp := fun _ => True) ?hr ?hp (fun _ hk => hk) trivial (Below.refl _ _) (Nat.le_refl _) (by simp) ?_; (case hd => rfl); (case hg => rfl); (case hr => first | (go_simp; done) | (go_simp; rfl)); (case hp => exact (Reps.one (show Kd.M (Kd.int .i64) _ _ _ 1 [.int .i64 1] from rfl) (Reps.one (show Kd.M (Kd.int .i64) _ _ _ a0_4 [.int .i64 a0_4] from rfl) (Reps.one (show Kd.M (Kd.int .i64) _ _ _ a0_3 [.int .i64 a0_3] from rfl) (Reps.one (show Kd.M (Kd.int .i64) _ _ _ a0_2 [.int .i64 a0_2] from rfl) (Reps.one (show Kd.M (Kd.int .i64) _ _ _ a0_1 [.int .i64 a0_1] from rfl) (Reps.one (show Kd.M (Kd.int .i64) _ _ _ 1000 [.int .i64 1000] from rfl) (Reps.none _ _)))))))); intro v126 w30 ho31 hb hg_ hnew_; clear hg_ hnew_; (first | rw [← Ny125.out] at ho31 | (simp only [Int.reduceToNat] at ho31; rw [← Ny125.out] at ho31)); have n0_ := asd (Kd.R_lower ho31 (below_size (by repeat (first | (with_reducible first | exact HB.out | apply wa | apply wn | apply wd | refine ws ?_ GE124.out) | exact HB.out)))); have n1_ := asd (blk_below (g := gb124) (o := .cells #[.bool false, .int .i64 a0_1, .int .i64 a0_2, .int .i64 a0_3, .int .i64 a0_4, .int .i64 a0_5] 45 (0, 0)) (by (with_reducible repeat first | apply bn | apply bd | apply ba); exact BK124.out) hb); have n2_ := asd (below_step (by repeat (first | (with_reducible first | exact HB.out | apply wa | apply wn | apply wd | refine ws ?_ GE124.out) | exact HB.out)) hb); clear BK124; clear HB; have HO127 := n0_; have BK124 := n1_; have HB := n2_; clear n0_ n1_ n2_; clear hb ho31; obtain ⟨Ao32, co32, eo32⟩ := Kd.R_slice HO127.out; subst eo32) | ((with_reducible refine gate_callee (f := 71) rfl ?_); refine goesL_ (some 12) rfl rfl Try.func71 (by kernel_rfl) rfl #[.slice Ao32 y125.length co32] rfl (by (try simp only [List.map_toArray, List.map_cons, List.map_nil]); first | done | rfl | (simp only [List.length_drop, List.length_take]; rfl)) ?_; (with_reducible refine (conf_rise.calls k _ _ y125 true _ ?side1 ?side2 A2.out).mono ?_); (case side1 => repeat (first | exact (Kd.R_reads' HO127.out).2.2 | (with_reducible refine Kd.C_alloc ?_ _) | (with_reducible refine Kd.C_drewN ?_ _) | (with_reducible refine Kd.C_drew ?_))); (case side2 => exact (Kd.R_reads' HO127.out).2.1); rintro e w' ⟨rfl, ⟨nd, rfl⟩⟩; refine ⟨_, rfl, ?_⟩; have hcz33_0 : w30.cell? ⟨gb124, 0, none⟩ = some (.bool false) := (blk_cell BK124.out 0).trans rfl; have hcz33_1 : w30.cell? ⟨gb124, 1, none⟩ = some (.int .i64 a0_1) := (blk_cell BK124.out 1).trans rfl; have hcz33_2 : w30.cell? ⟨gb124, 2, none⟩ = some (.int .i64 a0_2) := (blk_cell BK124.out 2).trans rfl; have hcz33_3 : w30.cell? ⟨gb124, 3, none⟩ = some (.int .i64 a0_3) := (blk_cell BK124.out 3).trans rfl; have hcz33_4 : w30.cell? ⟨gb124, 4, none⟩ = some (.int .i64 a0_4) := (blk_cell BK124.out 4).trans rfl; have hcz33_5 : w30.cell? ⟨gb124, 5, none⟩ = some (.int .i64 a0_5) := (blk_cell BK124.out 5).trans rfl; have hfz33_0 := blk_frozen BK124.out 0; have hfz33_1 := blk_frozen BK124.out 1; have hfz33_2 := blk_frozen BK124.out 2; have hfz33_3 := blk_frozen BK124.out 3; have hfz33_4 := blk_frozen BK124.out 4; have hfz33_5 := blk_frozen BK124.out 5) | ((with_reducible refine gate_dst (N := 21) rfl ?_); (try (refine gate_guard (by rfl) ?_; dsimp only)); refine Kd.R_lit (Kd.int .i64) _ 3 ?hg (N := 21) ?hd (xs := ([a0_4, a0_5, a0_2] : List Int)) (inner := [.int .i64 a0_4, .int .i64 a0_5, .int .i64 a0_2]) (ok := fun _ => True) (okp := fun _ => True) ?hr ?hp (fun _ hk => hk) trivial (Below.refl _ _) (Nat.le_refl _) (by simp) ?_; (case hd => rfl); (case hg => rfl); (case hr => first | (go_simp; done) | (go_simp; rfl)); (case hp => exact (Reps.one (show Kd.M (Kd.int .i64) _ _ _ a0_4 [.int .i64 a0_4] from rfl) (Reps.one (show Kd.M (Kd.int .i64) _ _ _ a0_5 [.int .i64 a0_5] from rfl) (Reps.one (show Kd.M (Kd.int .i64) _ _ _ a0_2 [.int .i64 a0_2] from rfl) (Reps.none _ _))))); intro v130 w34 ho35 hb hg_ hnew_; clear hg_ hnew_; (first | rw [← Ny129.out] at ho35 | (simp only [Int.reduceToNat] at ho35; rw [← Ny129.out] at ho35)); have n0_ := asd (Kd.R_elder' (by (with_reducible repeat (first | apply Kd.R_alloc | apply Kd.R_drewN | apply Kd.R_drew)); exact HO127.out) (Kd.R_base ho35) hb); have n1_ := asd (Kd.R_lower (Kd.R_new' ho35 (Kd.R_lt (by (with_reducible repeat (first | apply Kd.R_alloc | apply Kd.R_drewN | apply Kd.R_drew)); exact HO127.out))) (below_size (by repeat (first | (with_reducible first | exact HB.out | apply wa | apply wn | apply wd | refine ws ?_ GE124.out) | exact HB.out)))); have n2_ := asd (blk_below (g := gb124) (o := .cells #[.bool false, .int .i64 a0_1, .int .i64 a0_2, .int .i64 a0_3, .int .i64 a0_4, .int .i64 a0_5] 45 (0, 0)) (by (with_reducible repeat first | apply bn | apply bd | apply ba); exact BK124.out) hb); have n3_ := asd (below_step (by repeat (first | (with_reducible first | exact HB.out | apply wa | apply wn | apply wd | refine ws ?_ GE124.out) | exact HB.out)) hb); clear HO127; clear BK124; clear HB; have HO127 := n0_; have HO131 := n1_; have BK124 := n2_; have HB := n3_; clear n0_ n1_ n2_ n3_; clear hb ho35; obtain ⟨Ao36, co36, eo36⟩ := Kd.R_slice HO131.out; subst eo36) | (go_at_call 71; (with_reducible refine (conf_rise.calls k _ _ y129 true _ ?side1 ?side2 A4.out).mono ?_); (case side1 => repeat (first | exact (Kd.R_reads' HO131.out).2.2 | (with_reducible refine Kd.C_alloc ?_ _) | (with_reducible refine Kd.C_drewN ?_ _) | (with_reducible refine Kd.C_drew ?_))); (case side2 => exact (Kd.R_reads' HO131.out).2.1); rintro e w' ⟨rfl, ⟨nd, rfl⟩⟩; have hcz37_0 : w34.cell? ⟨gb124, 0, none⟩ = some (.bool false) := (blk_cell BK124.out 0).trans rfl; have hcz37_1 : w34.cell? ⟨gb124, 1, none⟩ = some (.int .i64 a0_1) := (blk_cell BK124.out 1).trans rfl; have hcz37_2 : w34.cell? ⟨gb124, 2, none⟩ = some (.int .i64 a0_2) := (blk_cell BK124.out 2).trans rfl; have hcz37_3 : w34.cell? ⟨gb124, 3, none⟩ = some (.int .i64 a0_3) := (blk_cell BK124.out 3).trans rfl; have hcz37_4 : w34.cell? ⟨gb124, 4, none⟩ = some (.int .i64 a0_4) := (blk_cell BK124.out 4).trans rfl; have hcz37_5 : w34.cell? ⟨gb124, 5, none⟩ = some (.int .i64 a0_5) := (blk_cell BK124.out 5).trans rfl; have hfz37_0 := blk_frozen BK124.out 0; have hfz37_1 := blk_frozen BK124.out 1; have hfz37_2 := blk_frozen BK124.out 2; have hfz37_3 := blk_frozen BK124.out 3; have hfz37_4 := blk_frozen BK124.out 4; have hfz37_5 := blk_frozen BK124.out 5))
     go_ret
     exact ⟨by first | rfl | (simp [*] <;> rfl), by repeat (first | (with_reducible first | exact HB.out | apply wa | apply wn | apply wd | refine ws ?_ GE124.out) | exact HB.out)⟩
  ·replace c5 := Bool.eq_false_iff.mpr c5
   subst c5
   have H1 : (some false) = some r := by rw [if_neg (show ¬ (false = true) by decide)] at H; exact H
   clear H
   have H := H1
   clear H1
   obtain rfl := Option.some.inj H
   go_enter Try.func25, Try.ntmps25
   go_wp2_with (first | ((with_reducible refine gate_dst (N := 1) rfl ?_); (try (refine gate_guard (by rfl) ?_; dsimp only)); refine box_event ?hg (N := 1) ?hd (cs := #[.bool a0_0, .int .i64 a0_1, .int .i64 a0_2, .int .i64 a0_3, .int .i64 a0_4, .int .i64 a0_5]) (t := 45) ?hr ?_; (case hd => rfl); (case hg => rfl); (case hr => first | (go_simp; done) | (go_simp; rfl)); intro gb124 hg w38 hbox hb; have n0_ := asd (below_step (by repeat (first | (with_reducible first | exact HB.out | apply wa | apply wn | apply wd) | exact HB.out)) hb); have n1_ := asd (hbox); have n2_ := asd ((by rw [hg]; exact (below_size (by repeat (first | (with_reducible first | exact HB.out | apply wa | apply wn | apply wd) | exact HB.out))) : w.heap.size ≤ gb124)); have n3_ := asd ((by rw [hg]; exact (below_size (by repeat (first | (with_reducible first | exact HB.out | apply wa | apply wn | apply wd) | exact HB.out))) : w.heap.size ≤ gb124)); clear HB; have HB := n0_; have BK124 := n1_; have GW124 := n2_; have GE124 := n3_; clear n0_ n1_ n2_ n3_; clear hb hbox hg; have hcz39_0 : w38.cell? ⟨gb124, 0, none⟩ = some (.bool a0_0) := (blk_cell BK124.out 0).trans rfl; have hcz39_1 : w38.cell? ⟨gb124, 1, none⟩ = some (.int .i64 a0_1) := (blk_cell BK124.out 1).trans rfl; have hcz39_2 : w38.cell? ⟨gb124, 2, none⟩ = some (.int .i64 a0_2) := (blk_cell BK124.out 2).trans rfl; have hcz39_3 : w38.cell? ⟨gb124, 3, none⟩ = some (.int .i64 a0_3) := (blk_cell BK124.out 3).trans rfl; have hcz39_4 : w38.cell? ⟨gb124, 4, none⟩ = some (.int .i64 a0_4) := (blk_cell BK124.out 4).trans rfl; have hcz39_5 : w38.cell? ⟨gb124, 5, none⟩ = some (.int .i64 a0_5) := (blk_cell BK124.out 5).trans rfl; have hfz39_0 := blk_frozen BK124.out 0; have hfz39_1 := blk_frozen BK124.out 1; have hfz39_2 := blk_frozen BK124.out 2; have hfz39_3 := blk_frozen BK124.out 3; have hfz39_4 := blk_frozen BK124.out 4; have hfz39_5 := blk_frozen BK124.out 5) | ((with_reducible refine gate_dst (N := 11) rfl ?_); (try (refine gate_guard (by rfl) ?_; dsimp only)); refine Kd.R_lit (Kd.int .i64) _ 3 ?hg (N := 11) ?hd (xs := ([1, a0_4, a0_3, a0_2, a0_1, 1000] : List Int)) (inner := [.int .i64 1, .int .i64 a0_4, .int .i64 a0_3, .int .i64 a0_2, .int .i64 a0_1, .int .i64 1000]) (ok := fun _ => True) (okp := fun _ => True) ?hr ?hp (fun _ hk => hk) trivial (Below.refl _ _) (Nat.le_refl _) (by simp) ?_; (case hd => rfl); (case hg => rfl); (case hr => first | (go_simp; done) | (go_simp; rfl)); (case hp => exact (Reps.one (show Kd.M (Kd.int .i64) _ _ _ 1 [.int .i64 1] from rfl) (Reps.one (show Kd.M (Kd.int .i64) _ _ _ a0_4 [.int .i64 a0_4] from rfl) (Reps.one (show Kd.M (Kd.int .i64) _ _ _ a0_3 [.int .i64 a0_3] from rfl) (Reps.one (show Kd.M (Kd.int .i64) _ _ _ a0_2 [.int .i64 a0_2] from rfl) (Reps.one (show Kd.M (Kd.int .i64) _ _ _ a0_1 [.int .i64 a0_1] from rfl) (Reps.one (show Kd.M (Kd.int .i64) _ _ _ 1000 [.int .i64 1000] from rfl) (Reps.none _ _)))))))); intro v126 w40 ho41 hb hg_ hnew_; clear hg_ hnew_; (first | rw [← Ny125.out] at ho41 | (simp only [Int.reduceToNat] at ho41; rw [← Ny125.out] at ho41)); have n0_ := asd (Kd.R_lower ho41 (below_size (by repeat (first | (with_reducible first | exact HB.out | apply wa | apply wn | apply wd | refine ws ?_ GE124.out) | exact HB.out)))); have n1_ := asd (blk_below (g := gb124) (o := .cells #[.bool a0_0, .int .i64 a0_1, .int .i64 a0_2, .int .i64 a0_3, .int .i64 a0_4, .int .i64 a0_5] 45 (0, 0)) (by (with_reducible repeat first | apply bn | apply bd | apply ba); exact BK124.out) hb); have n2_ := asd (below_step (by repeat (first | (with_reducible first | exact HB.out | apply wa | apply wn | apply wd | refine ws ?_ GE124.out) | exact HB.out)) hb); clear BK124; clear HB; have HO127 := n0_; have BK124 := n1_; have HB := n2_; clear n0_ n1_ n2_; clear hb ho41; obtain ⟨Ao42, co42, eo42⟩ := Kd.R_slice HO127.out; subst eo42) | ((with_reducible refine gate_callee (f := 71) rfl ?_); refine goesL_ (some 12) rfl rfl Try.func71 (by kernel_rfl) rfl #[.slice Ao42 y125.length co42] rfl (by (try simp only [List.map_toArray, List.map_cons, List.map_nil]); first | done | rfl | (simp only [List.length_drop, List.length_take]; rfl)) ?_; (with_reducible refine (conf_rise.calls k _ _ y125 true _ ?side1 ?side2 A2.out).mono ?_); (case side1 => repeat (first | exact (Kd.R_reads' HO127.out).2.2 | (with_reducible refine Kd.C_alloc ?_ _) | (with_reducible refine Kd.C_drewN ?_ _) | (with_reducible refine Kd.C_drew ?_))); (case side2 => exact (Kd.R_reads' HO127.out).2.1); rintro e w' ⟨rfl, ⟨nd, rfl⟩⟩; refine ⟨_, rfl, ?_⟩; have hcz43_0 : w40.cell? ⟨gb124, 0, none⟩ = some (.bool a0_0) := (blk_cell BK124.out 0).trans rfl; have hcz43_1 : w40.cell? ⟨gb124, 1, none⟩ = some (.int .i64 a0_1) := (blk_cell BK124.out 1).trans rfl; have hcz43_2 : w40.cell? ⟨gb124, 2, none⟩ = some (.int .i64 a0_2) := (blk_cell BK124.out 2).trans rfl; have hcz43_3 : w40.cell? ⟨gb124, 3, none⟩ = some (.int .i64 a0_3) := (blk_cell BK124.out 3).trans rfl; have hcz43_4 : w40.cell? ⟨gb124, 4, none⟩ = some (.int .i64 a0_4) := (blk_cell BK124.out 4).trans rfl; have hcz43_5 : w40.cell? ⟨gb124, 5, none⟩ = some (.int .i64 a0_5) := (blk_cell BK124.out 5).trans rfl; have hfz43_0 := blk_frozen BK124.out 0; have hfz43_1 := blk_frozen BK124.out 1; have hfz43_2 := blk_frozen BK124.out 2; have hfz43_3 := blk_frozen BK124.out 3; have hfz43_4 := blk_frozen BK124.out 4; have hfz43_5 := blk_frozen BK124.out 5) | ((with_reducible refine gate_dst (N := 21) rfl ?_); (try (refine gate_guard (by rfl) ?_; dsimp only)); refine Kd.R_lit (Kd.int .i64) _ 3 ?hg (N := 21) ?hd (xs := ([a0_4, a0_5, a0_2] : List Int)) (inner := [.int .i64 a0_4, .int .i64 a0_5, .int .i64 a0_2]) (ok := fun _ => True) (okp := fun _ => True) ?hr ?hp (fun _ hk => hk) trivial (Below.refl _ _) (Nat.le_refl _) (by simp) ?_; (case hd => rfl); (case hg => rfl); (case hr => first | (go_simp; done) | (go_simp; rfl)); (case hp => exact (Reps.one (show Kd.M (Kd.int .i64) _ _ _ a0_4 [.int .i64 a0_4] from rfl) (Reps.one (show Kd.M (Kd.int .i64) _ _ _ a0_5 [.int .i64 a0_5] from rfl) (Reps.one (show Kd.M (Kd.int .i64) _ _ _ a0_2 [.int .i64 a0_2] from rfl) (Reps.none _ _))))); intro v130 w44 ho45 hb hg_ hnew_; clear hg_ hnew_; (first | rw [← Ny129.out] at ho45 | (simp only [Int.reduceToNat] at ho45; rw [← Ny129.out] at ho45)); have n0_ := asd (Kd.R_elder' (by (with_reducible repeat (first | apply Kd.R_alloc | apply Kd.R_drewN | apply Kd.R_drew)); exact HO127.out) (Kd.R_base ho45) hb); have n1_ := asd (Kd.R_lower (Kd.R_new' ho45 (Kd.R_lt (by (with_reducible repeat (first | apply Kd.R_alloc | apply Kd.R_drewN | apply Kd.R_drew)); exact HO127.out))) (below_size (by repeat (first | (with_reducible first | exact HB.out | apply wa | apply wn | apply wd | refine ws ?_ GE124.out) | exact HB.out)))); have n2_ := asd (blk_below (g := gb124) (o := .cells #[.bool a0_0, .int .i64 a0_1, .int .i64 a0_2, .int .i64 a0_3, .int .i64 a0_4, .int .i64 a0_5] 45 (0, 0)) (by (with_reducible repeat first | apply bn | apply bd | apply ba); exact BK124.out) hb); have n3_ := asd (below_step (by repeat (first | (with_reducible first | exact HB.out | apply wa | apply wn | apply wd | refine ws ?_ GE124.out) | exact HB.out)) hb); clear HO127; clear BK124; clear HB; have HO127 := n0_; have HO131 := n1_; have BK124 := n2_; have HB := n3_; clear n0_ n1_ n2_ n3_; clear hb ho45; obtain ⟨Ao46, co46, eo46⟩ := Kd.R_slice HO131.out; subst eo46) | (go_at_call 71; (with_reducible refine (conf_rise.calls k _ _ y129 false _ ?side1 ?side2 A4.out).mono ?_); (case side1 => repeat (first | exact (Kd.R_reads' HO131.out).2.2 | (with_reducible refine Kd.C_alloc ?_ _) | (with_reducible refine Kd.C_drewN ?_ _) | (with_reducible refine Kd.C_drew ?_))); (case side2 => exact (Kd.R_reads' HO131.out).2.1); rintro e w' ⟨rfl, ⟨nd, rfl⟩⟩))
   go_ret
   exact ⟨by first | rfl | (simp [*] <;> rfl), by repeat (first | (with_reducible first | exact HB.out | apply wa | apply wn | apply wd | refine ws ?_ GE124.out) | exact HB.out)⟩
 ·replace c3 := Bool.eq_false_iff.mpr c3
  subst c3
  have H1 : (some false) = some r := by rw [if_neg (show ¬ (false = true) by decide)] at H; exact H
  clear H
  have H := H1
  clear H1
  obtain rfl := Option.some.inj H
  go_enter Try.func25, Try.ntmps25
  go_wp2_with (first | ((with_reducible refine gate_dst (N := 1) rfl ?_); (try (refine gate_guard (by rfl) ?_; dsimp only)); refine box_event ?hg (N := 1) ?hd (cs := #[.bool a0_0, .int .i64 a0_1, .int .i64 a0_2, .int .i64 a0_3, .int .i64 a0_4, .int .i64 a0_5]) (t := 45) ?hr ?_; (case hd => rfl); (case hg => rfl); (case hr => first | (go_simp; done) | (go_simp; rfl)); intro gb124 hg w47 hbox hb; have n0_ := asd (below_step (by repeat (first | (with_reducible first | exact HB.out | apply wa | apply wn | apply wd) | exact HB.out)) hb); have n1_ := asd (hbox); have n2_ := asd ((by rw [hg]; exact (below_size (by repeat (first | (with_reducible first | exact HB.out | apply wa | apply wn | apply wd) | exact HB.out))) : w.heap.size ≤ gb124)); have n3_ := asd ((by rw [hg]; exact (below_size (by repeat (first | (with_reducible first | exact HB.out | apply wa | apply wn | apply wd) | exact HB.out))) : w.heap.size ≤ gb124)); clear HB; have HB := n0_; have BK124 := n1_; have GW124 := n2_; have GE124 := n3_; clear n0_ n1_ n2_ n3_; clear hb hbox hg; have hcz48_0 : w47.cell? ⟨gb124, 0, none⟩ = some (.bool a0_0) := (blk_cell BK124.out 0).trans rfl; have hcz48_1 : w47.cell? ⟨gb124, 1, none⟩ = some (.int .i64 a0_1) := (blk_cell BK124.out 1).trans rfl; have hcz48_2 : w47.cell? ⟨gb124, 2, none⟩ = some (.int .i64 a0_2) := (blk_cell BK124.out 2).trans rfl; have hcz48_3 : w47.cell? ⟨gb124, 3, none⟩ = some (.int .i64 a0_3) := (blk_cell BK124.out 3).trans rfl; have hcz48_4 : w47.cell? ⟨gb124, 4, none⟩ = some (.int .i64 a0_4) := (blk_cell BK124.out 4).trans rfl; have hcz48_5 : w47.cell? ⟨gb124, 5, none⟩ = some (.int .i64 a0_5) := (blk_cell BK124.out 5).trans rfl; have hfz48_0 := blk_frozen BK124.out 0; have hfz48_1 := blk_frozen BK124.out 1; have hfz48_2 := blk_frozen BK124.out 2; have hfz48_3 := blk_frozen BK124.out 3; have hfz48_4 := blk_frozen BK124.out 4; have hfz48_5 := blk_frozen BK124.out 5) | ((with_reducible refine gate_dst (N := 11) rfl ?_); (try (refine gate_guard (by rfl) ?_; dsimp only)); refine Kd.R_lit (Kd.int .i64) _ 3 ?hg (N := 11) ?hd (xs := ([1, a0_4, a0_3, a0_2, a0_1, 1000] : List Int)) (inner := [.int .i64 1, .int .i64 a0_4, .int .i64 a0_3, .int .i64 a0_2, .int .i64 a0_1, .int .i64 1000]) (ok := fun _ => True) (okp := fun _ => True) ?hr ?hp (fun _ hk => hk) trivial (Below.refl _ _) (Nat.le_refl _) (by simp) ?_; (case hd => rfl); (case hg => rfl); (case hr => first | (go_simp; done) | (go_simp; rfl)); (case hp => exact (Reps.one (show Kd.M (Kd.int .i64) _ _ _ 1 [.int .i64 1] from rfl) (Reps.one (show Kd.M (Kd.int .i64) _ _ _ a0_4 [.int .i64 a0_4] from rfl) (Reps.one (show Kd.M (Kd.int .i64) _ _ _ a0_3 [.int .i64 a0_3] from rfl) (Reps.one (show Kd.M (Kd.int .i64) _ _ _ a0_2 [.int .i64 a0_2] from rfl) (Reps.one (show Kd.M (Kd.int .i64) _ _ _ a0_1 [.int .i64 a0_1] from rfl) (Reps.one (show Kd.M (Kd.int .i64) _ _ _ 1000 [.int .i64 1000] from rfl) (Reps.none _ _)))))))); intro v126 w49 ho50 hb hg_ hnew_; clear hg_ hnew_; (first | rw [← Ny125.out] at ho50 | (simp only [Int.reduceToNat] at ho50; rw [← Ny125.out] at ho50)); have n0_ := asd (Kd.R_lower ho50 (below_size (by repeat (first | (with_reducible first | exact HB.out | apply wa | apply wn | apply wd | refine ws ?_ GE124.out) | exact HB.out)))); have n1_ := asd (blk_below (g := gb124) (o := .cells #[.bool a0_0, .int .i64 a0_1, .int .i64 a0_2, .int .i64 a0_3, .int .i64 a0_4, .int .i64 a0_5] 45 (0, 0)) (by (with_reducible repeat first | apply bn | apply bd | apply ba); exact BK124.out) hb); have n2_ := asd (below_step (by repeat (first | (with_reducible first | exact HB.out | apply wa | apply wn | apply wd | refine ws ?_ GE124.out) | exact HB.out)) hb); clear BK124; clear HB; have HO127 := n0_; have BK124 := n1_; have HB := n2_; clear n0_ n1_ n2_; clear hb ho50; obtain ⟨Ao51, co51, eo51⟩ := Kd.R_slice HO127.out; subst eo51) | ((with_reducible refine gate_callee (f := 71) rfl ?_); refine goesL_ (some 12) rfl rfl Try.func71 (by kernel_rfl) rfl #[.slice Ao51 y125.length co51] rfl (by (try simp only [List.map_toArray, List.map_cons, List.map_nil]); first | done | rfl | (simp only [List.length_drop, List.length_take]; rfl)) ?_; (with_reducible refine (conf_rise.calls k _ _ y125 false _ ?side1 ?side2 A2.out).mono ?_); (case side1 => repeat (first | exact (Kd.R_reads' HO127.out).2.2 | (with_reducible refine Kd.C_alloc ?_ _) | (with_reducible refine Kd.C_drewN ?_ _) | (with_reducible refine Kd.C_drew ?_))); (case side2 => exact (Kd.R_reads' HO127.out).2.1); rintro e w' ⟨rfl, ⟨nd, rfl⟩⟩; refine ⟨_, rfl, ?_⟩))
  go_ret
  exact ⟨by first | rfl | (simp [*] <;> rfl), by repeat (first | (with_reducible first | exact HB.out | apply wa | apply wn | apply wd | refine ws ?_ GE124.out) | exact HB.out)⟩
end Go.Proofs.Ytjekfipaadbbbaa.Fn
namespace Go.Proofs.Ytjekfipaadbbbaa.Fn
open Go.RowKit Go.Proofs.YtjekfipaadbbbaaW.PrintWords Go.Proofs.YtjekfipaadbbbaaW.PrintLast Go.Proofs.YtjekfipaadbbbaaW.PrintMore
attribute [local go_sem] max2_int min2_int max_two min_two max_three min_three max_four min_four
set_option linter.unusedVariables false
set_option linter.unusedSimpArgs false
def police_New_1.f (k : Nat) (a0_0 : Bool) (a0_1 : Int) (a0_2 : Int) (a0_3 : Int) (a0_4 : Int) (a0_5 : Int) : Option (Bool) := (conf_Task_Right.f k a0_0 a0_1 a0_2 a0_3 a0_4 a0_5).bind fun t226 => (some (!t226))
set_option maxHeartbeats 8000000 in
set_option maxRecDepth 100000 in
theorem police_New_1.calls (k : Nat) (a0_0 : Bool) (a0_1 : Int) (a0_2 : Int) (a0_3 : Int) (a0_4 : Int) (a0_5 : Int) (r : Bool) (w : World) (h : police_New_1.f k a0_0 a0_1 a0_2 a0_3 a0_4 a0_5 = some r) :
  Calls Try.prog 73 #[.agg #[.bool a0_0, .int .i64 a0_1, .int .i64 a0_2, .int .i64 a0_3, .int .i64 a0_4, .int .i64 a0_5]] w fun e w' => e = .returned (.bool r) ∧ Below w.heap.size w w' := by
 have hu45 := Try.underlying45
 have HB := asd (Below.refl w.heap.size w)
 have H : ((conf_Task_Right.f k a0_0 a0_1 a0_2 a0_3 a0_4 a0_5).bind fun t226 => (some (!t226))) = some r := h
 clear h
 replace H := Option.bind_eq_some_iff.mp H
 obtain ⟨t226, A20, H⟩ := H
 replace H : (some (!t226)) = some r := H
 have A2 := asd A20
 clear A20
 obtain rfl := Option.some.inj H
 go_enter Try.func73, Try.ntmps73
 go_wp2_with (first | ((with_reducible refine gate_dst (N := 1) rfl ?_); refine box_event ?hg (N := 1) ?hd (cs := #[.bool a0_0, .int .i64 a0_1, .int .i64 a0_2, .int .i64 a0_3, .int .i64 a0_4, .int .i64 a0_5]) (t := 45) ?hr ?_; (case hd => rfl); (case hg => rfl); (case hr => first | (go_simp; done) | (go_simp; rfl)); intro gb225 hg w3 hbox hb; have n0_ := asd (below_step (by repeat (first | (with_reducible first | exact HB.out | apply wa | apply wn | apply wd) | exact HB.out)) hb); have n1_ := asd (hbox); have n2_ := asd ((by rw [hg]; exact (below_size (by repeat (first | (with_reducible first | exact HB.out | apply wa | apply wn | apply wd) | exact HB.out))) : w.heap.size ≤ gb225)); have n3_ := asd ((by rw [hg]; exact (below_size (by repeat (first | (with_reducible first | exact HB.out | apply wa | apply wn | apply wd) | exact HB.out))) : w.heap.size ≤ gb225)); clear HB; have HB := n0_; have BK225 := n1_; have GW225 := n2_; have GE225 := n3_; clear n0_ n1_ n2_ n3_; clear hb hbox hg; have hcz4_0 : w3.cell? ⟨gb225, 0, none⟩ = some (.bool a0_0) := (blk_cell BK225.out 0).trans rfl; have hcz4_1 : w3.cell? ⟨gb225, 1, none⟩ = some (.int .i64 a0_1) := (blk_cell BK225.out 1).trans rfl; have hcz4_2 : w3.cell? ⟨gb225, 2, none⟩ = some (.int .i64 a0_2) := (blk_cell BK225.out 2).trans rfl; have hcz4_3 : w3.cell? ⟨gb225, 3, none⟩ = some (.int .i64 a0_3) := (blk_cell BK225.out 3).trans rfl; have hcz4_4 : w3.cell? ⟨gb225, 4, none⟩ = some (.int .i64 a0_4) := (blk_cell BK225.out 4).trans rfl; have hcz4_5 : w3.cell? ⟨gb225, 5, none⟩ = some (.int .i64 a0_5) := (blk_cell BK225.out 5).trans rfl; have hfz4_0 := blk_frozen BK225.out 0; have hfz4_1 := blk_frozen BK225.out 1; have hfz4_2 := blk_frozen BK225.out 2; have hfz4_3 := blk_frozen BK225.out 3; have hfz4_4 := blk_frozen BK225.out 4; have hfz4_5 := blk_frozen BK225.out 5) | ((with_reducible refine gate_callee (f := 25) rfl ?_); refine goesL_ (some 4) rfl rfl Try.func25 (by kernel_rfl) rfl #[.agg #[.bool a0_0, .int .i64 a0_1, .int .i64 a0_2, .int .i64 a0_3, .int .i64 a0_4, .int .i64 a0_5]] rfl (by (try simp only [List.map_toArray, List.map_cons, List.map_nil]); first | done | rfl | (simp only [List.length_drop, List.length_take]; rfl)) ?_; (with_reducible refine (conf_Task_Right.calls k a0_0 a0_1 a0_2 a0_3 a0_4 a0_5 t226 _ A2.out).mono ?_); rintro e w5 ⟨rfl, hb⟩; refine ⟨_, rfl, ?_⟩; have n0_ := asd (blk_below (g := gb225) (o := .cells #[.bool a0_0, .int .i64 a0_1, .int .i64 a0_2, .int .i64 a0_3, .int .i64 a0_4, .int .i64 a0_5] 45 (0, 0)) (by (with_reducible repeat first | apply bn | apply bd | apply ba); exact BK225.out) hb); have n1_ := asd (below_step (by repeat (first | (with_reducible first | exact HB.out | apply wa | apply wn | apply wd | refine ws ?_ GE225.out) | exact HB.out)) hb); clear BK225; clear HB; have BK225 := n0_; have HB := n1_; clear n0_ n1_; (try clear hb); (try clear hb2); (try clear hk); (try clear hi)))
 go_ret
 exact ⟨by first | rfl | (simp [*] <;> rfl), by repeat (first | (with_reducible first | exact HB.out | apply wa | apply wn | apply wd | refine ws ?_ GE225.out) | exact HB.out)⟩
end Go.Proofs.Ytjekfipaadbbbaa.Fn
namespace Go.Proofs.Ytjekfipaadbbbaa.Fn
open Go.RowKit Go.Proofs.YtjekfipaadbbbaaW.PrintWords Go.Proofs.YtjekfipaadbbbaaW.PrintLast Go.Proofs.YtjekfipaadbbbaaW.PrintMore
set_option linter.unusedVariables false
set_option linter.unusedSimpArgs false
theorem Ev.some_ {α : Type} {g : Nat → Option α} {r : α} (h : ∀ k, g k = some r) : Ev g r := ⟨0, fun k _ => h k⟩
theorem less_f (a b : Int) : cmp_Less_int.f a b = some (decide (a < b)) := by
 unfold cmp_Less_int.f cmp_isNaN_int.f
 simp
def srt (l : List Int) : Nat → Bool
 | 0 => true
 | i + 1 => if l.getD (i + 1) 0 < l.getD i 0 then false else srt l i
theorem is_l0 (l : List Int) (hb : l.length < 1000) : ∀ i : Nat, i < l.length → Ev (fun k => slices_IsSorted_int_int.l0 k l (i : Int)) (srt l i) := by
 intro i
 induction i with
 | zero =>
  intro h
  refine Ev.step (f := fun _ => some true) (fun k => by simp only [slices_IsSorted_int_int.l0]; rw [if_neg (by omega)]) ?_
  exact Ev.now _
 | succ i ih =>
  intro h
  have hw : wrap64 (((i + 1 : Nat) : Int) - 1) = (i : Int) := by unfold wrap64; omega
  refine Ev.step (f := fun k => if rd l ((i + 1 : Nat) : Int) < rd l (i : Int) then some false else slices_IsSorted_int_int.l0 k l (i : Int)) (fun k => by
   simp only [slices_IsSorted_int_int.l0]
   rw [if_pos (by omega), if_pos (by omega), if_pos (by omega), hw, if_pos (by omega), if_pos (by omega), less_f]
   by_cases c : rd l ((i + 1 : Nat) : Int) < rd l (i : Int) <;> simp [c]) ?_
  have e1 : rd l ((i + 1 : Nat) : Int) = l.getD (i + 1) 0 := by first | rfl | simp [rd]
  have e2 : rd l (i : Int) = l.getD i 0 := by first | rfl | simp [rd]
  rw [e1, e2]
  unfold srt
  by_cases c : l.getD (i + 1) 0 < l.getD i 0
  ·simp only [c, if_true]; exact Ev.now _
  ·simp only [c, if_false]; exact ih (by omega)
theorem rise_ev (l : List Int) (hb : l.length < 1000) (h0 : 0 < l.length) : Ev (fun k => conf_rise.f k l) (srt l (l.length - 1)) := by
 refine Ev.congr (fun k => by unfold conf_rise.f slices_IsSorted_int_int.f; rw [show wrap64 ((l.length : Int) - 1) = ((l.length - 1 : Nat) : Int) by unfold wrap64; omega]) ?_
 exact Ev.bind (f := fun _ t => some t) (is_l0 l hb _ (by omega)) (Ev.now _)
def rtC (x : S44) : Bool := decide ((1 ≤ x.f4 ∧ x.f4 ≤ x.f3 ∧ x.f3 ≤ x.f2 ∧ x.f2 ≤ x.f1 ∧ x.f1 ≤ 1000) ∧ (x.f4 ≤ x.f5 ∧ x.f5 ≤ x.f2) ∧ (x.f0 = true ∨ x.f3 = x.f2 ∧ x.f5 = x.f4))
theorem rtC_iff (x : S44) : rtC x = true ↔ (1 ≤ x.f4 ∧ x.f4 ≤ x.f3 ∧ x.f3 ≤ x.f2 ∧ x.f2 ≤ x.f1 ∧ x.f1 ≤ 1000) ∧ (x.f4 ≤ x.f5 ∧ x.f5 ≤ x.f2) ∧ (x.f0 = true ∨ x.f3 = x.f2 ∧ x.f5 = x.f4) := by
 unfold rtC; rw [decide_eq_true_iff]
theorem bool_eq {a b : Bool} {P : Prop} (h : a = true ↔ P) (h2 : b = true ↔ P) : a = b := by
 cases a <;> cases b <;> simp_all
theorem srt6 (a b c d e f : Int) : srt [a, b, c, d, e, f] 5 = true ↔ a ≤ b ∧ b ≤ c ∧ c ≤ d ∧ d ≤ e ∧ e ≤ f := by
 simp [srt]; omega
theorem srt3 (a b c : Int) : srt [a, b, c] 2 = true ↔ a ≤ b ∧ b ≤ c := by
 simp [srt]; omega
theorem task_ev (x : S44) : Ev (fun k => conf_Task_Right.f k x.f0 x.f1 x.f2 x.f3 x.f4 x.f5) (rtC x) := by
 refine Ev.congr (fun k => by unfold conf_Task_Right.f; rfl) ?_
 refine Ev.bind (rise_ev _ (by simp) (by simp)) ?_
 have h6 := srt6 1 x.f4 x.f3 x.f2 x.f1 1000
 have h3 := srt3 x.f4 x.f5 x.f2
 have hr := rtC_iff x
 show Ev (fun k => if srt [1, x.f4, x.f3, x.f2, x.f1, 1000] 5 = true then _ else _) _
 cases c6 : srt [1, x.f4, x.f3, x.f2, x.f1, 1000] 5 with
 | false =>
  rw [c6] at h6
  have : rtC x = false := by cases h : rtC x with
   | false => rfl
   | true => have := (hr.1 h).1; exact absurd (h6.2 this) (by simp)
  rw [this]
  exact Ev.some_ (fun k => by simp)
 | true =>
  refine Ev.congr (fun k => by rw [if_pos rfl]) ?_
  refine Ev.bind (rise_ev _ (by simp) (by simp)) ?_
  show Ev (fun k => if srt [x.f4, x.f5, x.f2] 2 = true then _ else _) _
  cases c3 : srt [x.f4, x.f5, x.f2] 2 with
  | false =>
   rw [c3] at h3
   have : rtC x = false := by cases h : rtC x with
    | false => rfl
    | true => have := (hr.1 h).2.1; exact absurd (h3.2 this) (by simp)
   rw [this]
   exact Ev.some_ (fun k => by simp)
  | true =>
   refine Ev.some_ (fun k => ?_)
   rw [if_pos rfl]
   have a6 := h6.1 c6
   have a3 := h3.1 c3
   cases hb : x.f0 with
   | true =>
    rw [if_pos rfl]
    rw [(hr.2 ⟨a6, a3, Or.inl hb⟩ : rtC x = true)]
   | false =>
    rw [if_neg (by decide)]
    by_cases c : x.f3 = x.f2
    ·rw [if_pos c]
     congr 1
     refine bool_eq (P := x.f5 = x.f4) (by simp) (hr.trans ⟨fun h => ?_, fun h => ⟨a6, a3, Or.inr ⟨c, h⟩⟩⟩)
     rcases h.2.2 with h | h
     ·simp [hb] at h
     ·exact h.2
    ·rw [if_neg c]
     congr 1
     symm
     cases h : rtC x with
     | false => rfl
     | true =>
      rcases (hr.1 h).2.2 with h | h
      ·simp [hb] at h
      ·exact absurd h.1 c
theorem clos_calls (x : S44) (w : World) : Calls Try.prog 73 #[.agg #[.bool x.f0, .int .i64 x.f1, .int .i64 x.f2, .int .i64 x.f3, .int .i64 x.f4, .int .i64 x.f5]] w fun e w' => e = .returned (.bool (!rtC x)) ∧ Below w.heap.size w w' := by
 obtain ⟨k, hk⟩ := (task_ev x).rounds
 exact police_New_1.calls k x.f0 x.f1 x.f2 x.f3 x.f4 x.f5 (!rtC x) w (by unfold police_New_1.f; rw [hk]; rfl)
theorem all_take {α : Type} (p : α → Bool) (l : List α) (i : Nat) (h : i < l.length) (z : α) : (l.take (i + 1)).all p = ((l.take i).all p && p (l.getD i z)) := by
 rw [List.take_succ_eq_append_getElem h, List.all_append]
 simp [List.getD, h]
theorem all_no {α : Type} (p : α → Bool) (l : List α) (i : Nat) (h : i < l.length) (z : α) (hp : p (l.getD i z) = false) : l.all p = false := by
 rw [List.all_eq_false]
 exact ⟨l[i], List.getElem_mem h, by simpa [List.getD, h] using hp⟩
section
variable (A : Option Addr) (c : Nat) (l : List S44)
set_option maxHeartbeats 2000000 in
set_option maxRecDepth 100000 in
theorem index_calls (w : World) (h : Kd.C k44 w A l.length l) (hl : l.length ≤ 1000) :
  Calls Try.prog 108 #[.slice A l.length c, .func (.func 73) #[] #[]] w fun e w' => ∃ r : Int, e = .returned (.int .i64 r) ∧ decide (r ≥ 0) = !(l.all rtC) ∧ Below w.heap.size w w' := by
 have HC := asd h
 have HL := asd hl
 clear h hl
 go_enter Try.func108, Try.ntmps108
 go_wp2
 go_loopw [8] (fun v wr => ∃ x : Int, v = .int .i64 x ∧ Aside0 (0 ≤ x ∧ x ≤ l.length ∧ (l.take x.toNat).all rtC = true) ∧ Aside0 (Below w.heap.size w wr)) (fun v _ => l.length - (intOf v).toNat)
 case atStart => exact ⟨0, rfl, ⟨by omega, by omega, rfl⟩, ⟨Below.refl _ _⟩⟩
 case round =>
  obtain ⟨x, rfl, HX, HB⟩ := hrel
  have h0 : 0 ≤ x := HX.out.1
  have h9 : x ≤ 1000 := by have := HX.out.2.1; have := HL.out; omega
  by_cases hlt : x < (l.length : Int)
  ·have p1 : (0 ≤ x) = True := eq_true h0
   have q1 : (x < (l.length : Int)) = True := eq_true hlt
   have ALL := asd (show (l.take (x + 1).toNat).all rtC = rtC (rd_T44 l x) by
    have e : (x + 1).toNat = x.toNat + 1 := by omega
    rw [e, all_take rtC l x.toNat (by omega) z44, HX.out.2.2]
    simp [rd_T44])
   obtain ⟨ad, rfl, y0, y1, y2, y3, y4, y5⟩ := at_T44 (Kd.C_below HC.out HB.out) x h0 hlt
   cases hb : rtC (rd_T44 l x) with
   | false =>
    have NO := asd (all_no rtC l x.toNat (by omega) z44 (by simpa [rd_T44] using hb))
    have HC1 := asd (clos_calls (rd_T44 l x))
    rw [hb] at HC1
    clear hb ALL
    go_wp2_with (first | (go_at_call 73; refine (HC1.out _).mono ?_; rintro e w1 ⟨rfl, hb⟩; have HB1 := asd (below_step HB.out hb); clear hb))
    go_ret
    exact ⟨x, rfl, by rw [NO.out]; simpa using h0, HB1.out⟩
   | true =>
    have ALL2 := asd (ALL.out.trans hb)
    have HC1 := asd (clos_calls (rd_T44 l x))
    rw [hb] at HC1
    clear hb ALL
    go_wp2_with (first | (go_at_call 73; refine (HC1.out _).mono ?_; rintro e w1 ⟨rfl, hb⟩; have HB1 := asd (below_step HB.out hb); clear hb))
    go_roundw
    case rel => exact ⟨x + 1, rfl, ⟨by omega, by omega, ALL2.out⟩, HB1⟩
    case measure => simp [intOf]; omega
  ·have hq : decide (x < (l.length : Int)) = false := decide_eq_false hlt
   have ALL := asd (show l.all rtC = true by have h1 := HX.out; rw [List.take_of_length_le (by omega)] at h1; exact h1.2.2)
   clear hlt HX h0 h9
   go_wp2
   go_ret
   exact ⟨-1, rfl, by rw [ALL.out]; rfl, HB.out⟩
set_option maxHeartbeats 2000000 in
set_option maxRecDepth 100000 in
theorem contains_calls (w : World) (h : Kd.C k44 w A l.length l) (hl : l.length ≤ 1000) :
  Calls Try.prog 72 #[.slice A l.length c, .func (.func 73) #[] #[]] w fun e w' => e = .returned (.bool (!(l.all rtC))) ∧ Below w.heap.size w w' := by
 have HC := asd h
 have HL := asd hl
 clear h hl
 go_enter Try.func72, Try.ntmps72
 go_wp2_with (first | (go_at_call 108; refine (index_calls A c l _ HC.out HL.out).mono ?_; rintro e w1 ⟨r, rfl, hr, hb⟩; have HB := asd hb; have HR := asd hr; clear hb hr))
 go_ret
 exact ⟨by rw [← HR.out]; rfl, HB.out⟩
end
end Go.Proofs.Ytjekfipaadbbbaa.Fn
namespace Go.Proofs.Ytjekfipaadbbbaa.Fn
open Go.RowKit Go.Proofs.YtjekfipaadbbbaaW.PrintWords Go.Proofs.YtjekfipaadbbbaaW.PrintLast Go.Proofs.YtjekfipaadbbbaaW.PrintMore
set_option linter.unusedVariables false
set_option linter.unusedSimpArgs false
theorem info115 : (Try.prog.info? 115).map (fun i => (i.zero, i.size, i.bytes)) = some (some (.agg #[.bool false, .int .i64 0, .int .i64 0, .int .i64 0, .int .i64 0, .int .i64 0, .int .i64 0, .bool false]), 8, 64) := by kernel_rfl
def polT7 : Bool × List (List Nat × List Nat) := (true, [([], []), ([], []), ([1], [1]), ([2], [2]), ([3], [3]), ([], []), ([5], [5]), ([6], [6]), ([4, 7], [4, 7]), ([0, 0, 1, 2, 3, 4, 5, 6, 7, 8], [0]), ([9, 0, 1, 2, 3, 4, 5, 6, 7, 8], [9]), ([10, 8, 8, 0, 1, 2, 3, 4, 5, 6, 7, 8], [8, 10])])
def polB7 : List Nat := [0, 0, 2, 6, 14, 0, 32, 96, 254, 511, 1023, 2047]
theorem pol_tab7 : rtab .any (opsOf Try.f26 7) = polT7 := by kernel_rfl
theorem pol_bits7 : waitsOk polT7.2 polB7 = true := by kernel_rfl
def mkK (x : S44) : S115 := ⟨x.f0, x.f1, x.f2, x.f3, x.f4, x.f5, 0, false⟩
section
variable (A : Option Addr) (c : Nat) (l : List S44)
set_option maxHeartbeats 8000000 in
set_option maxRecDepth 100000 in
theorem new_calls (w : World) (h : Kd.C k44 w A l.length l) (hn : l.length ≤ 6) (hall : l.all rtC = true) :
  Calls Try.prog 26 #[.slice A l.length c] w fun e w' => ∃ (g : Nat) (A' : Option Addr) (c' : Nat), e = .returned (.pointer (some ⟨g, 0, none⟩)) ∧ IsPol w' w.heap.size g A' c' (l.map mkK) false ∧ Below w.heap.size w w' := by
 have hu118 := Try.underlying118
 have hu115 := Try.underlying115
 have hu45 := Try.underlying45
 have HC := asd h
 have HN := asd hn
 have HA := asd hall
 have d6 : decide (6 < (l.length : Int)) = false := decide_eq_false (by omega)
 have d7 : decide ((l.length : Int) > 6) = false := decide_eq_false (by omega)
 clear h hn hall
 go_enter Try.func26, Try.ntmps26
 go_wp2_with (first | (go_at_call 72; refine (contains_calls A c l _ HC.out (by have := HN.out; omega)).mono ?_; rintro e w1 ⟨rfl, hb⟩; rw [HA.out]; have HB := asd hb; have hbx := heap_alloc_new w1 (.cells #[Value.slice none 0 0, .bool false] 118); have BP := asd hbx; clear hb hbx))
 generalize hg : w1.heap.size = g at *
 go_loopw [17] (fun v wr => ∃ (x : Int) (A' : Option Addr) (c' : Nat) (ys : List S115), v = .int .i64 x ∧ Aside0 (0 ≤ x ∧ x ≤ l.length ∧ ys = (l.take x.toNat).map mkK) ∧ Aside0 (IsPol wr w.heap.size g A' c' ys false) ∧ Aside0 (Below w.heap.size w wr)) (fun v _ => l.length - (intOf v).toNat)
 case atStart => exact ⟨0, none, 0, [], rfl, ⟨by omega, by omega, rfl⟩, ⟨⟨BP.out, by rw [← hg]; exact below_size HB.out, Kd.R_nil _ _ _ _ _⟩⟩, ⟨below_alloc HB.out _⟩⟩
 case round =>
  clear BP HB
  obtain ⟨x, A', c', ys, rfl, HX, HI, HB⟩ := hrel
  have h0 : 0 ≤ x := HX.out.1
  have h9 : x ≤ 1000 := by have := HX.out.2.1; have := HN.out; omega
  by_cases hlt : x < (l.length : Int)
  ·have p1 : (0 ≤ x) = True := eq_true h0
   have q1 : (x < (l.length : Int)) = True := eq_true hlt
   have LY : Aside0 (ys.length ≤ 6) := ⟨by rw [HX.out.2.2, List.length_map, List.length_take]; have := HN.out; omega⟩
   have NXT : Aside0 (ys ++ [mkK (rd_T44 l x)] = (l.take (x + 1).toNat).map mkK) := ⟨by
    have e : (x + 1).toNat = x.toNat + 1 := by omega
    have hl : x.toNat < l.length := by omega
    rw [e, HX.out.2.2, List.take_succ_eq_append_getElem hl, List.map_append]
    simp [rd_T44, List.getD, hl]⟩
   obtain ⟨ad, rfl, y0, y1, y2, y3, y4, y5⟩ := at_T44 (Kd.C_below HC.out HB.out) x h0 hlt
   have BX := asd (heap_alloc_new wr (.cells #[Value.bool (rd_T44 l x).f0, .int .i64 (rd_T44 l x).f1, .int .i64 (rd_T44 l x).f2, .int .i64 (rd_T44 l x).f3, .int .i64 (rd_T44 l x).f4, .int .i64 (rd_T44 l x).f5] 45))
   have BP := asd (blk_alloc HI.out.1 (.cells #[Value.bool (rd_T44 l x).f0, .int .i64 (rd_T44 l x).f1, .int .i64 (rd_T44 l x).f2, .int .i64 (rd_T44 l x).f3, .int .i64 (rd_T44 l x).f4, .int .i64 (rd_T44 l x).f5] 45))
   have HO := asd (Kd.R_alloc HI.out.2.2 (.cells #[Value.bool (rd_T44 l x).f0, .int .i64 (rd_T44 l x).f1, .int .i64 (rd_T44 l x).f2, .int .i64 (rd_T44 l x).f3, .int .i64 (rd_T44 l x).f4, .int .i64 (rd_T44 l x).f5] 45))
   have HG := asd HI.out.2.1
   have HB2 := asd (below_alloc HB.out (.cells #[Value.bool (rd_T44 l x).f0, .int .i64 (rd_T44 l x).f1, .int .i64 (rd_T44 l x).f2, .int .i64 (rd_T44 l x).f3, .int .i64 (rd_T44 l x).f4, .int .i64 (rd_T44 l x).f5] 45))
   clear HI HB
   go_wp2
   have HB := asd (below_drew1 HB2.out)
   have BX2 := asd (blk_drew BX.out)
   have BP2 := asd (blk_drew BP.out)
   have HO2 := asd (Kd.R_drew HO.out)
   clear HB2 BX BP HO y0 y1 y2 y3 y4 y5
   have BX := BX2
   have BP := BP2
   have HO := HO2
   clear BX2 BP2 HO2
   refine start_ (n := 12) (S := fun w' => w'.cell? ⟨g, 0, none⟩ = some (.slice A' ys.length c') ∧ w'.cell? ⟨wr.heap.size, 0, none⟩ = some (.bool (rd_T44 l x).f0) ∧ w'.cell? ⟨wr.heap.size, 1, none⟩ = some (.int .i64 (rd_T44 l x).f1) ∧ w'.cell? ⟨wr.heap.size, 2, none⟩ = some (.int .i64 (rd_T44 l x).f2) ∧ w'.cell? ⟨wr.heap.size, 3, none⟩ = some (.int .i64 (rd_T44 l x).f3) ∧ w'.cell? ⟨wr.heap.size, 4, none⟩ = some (.int .i64 (rd_T44 l x).f4) ∧ w'.cell? ⟨wr.heap.size, 5, none⟩ = some (.int .i64 (rd_T44 l x).f5)) (ds := [11]) #[false, false, false, false, false, false, false, false, false, false, false, false] (by kernel_rfl) rfl rfl ⟨(blk_cell BP.out 0).trans rfl, (blk_cell BX.out 0).trans rfl, (blk_cell BX.out 1).trans rfl, (blk_cell BX.out 2).trans rfl, (blk_cell BX.out 3).trans rfl, (blk_cell BX.out 4).trans rfl, (blk_cell BX.out 5).trans rfl⟩ (fun hHeld => ?_); refine with_tabW pol_tab7 pol_bits7 (fun HT_ HW_ => ?_)
   generalize (wr.alloc (.cells #[Value.bool (rd_T44 l x).f0, .int .i64 (rd_T44 l x).f1, .int .i64 (rd_T44 l x).f2, .int .i64 (rd_T44 l x).f3, .int .i64 (rd_T44 l x).f4, .int .i64 (rd_T44 l x).f5] 45)).drew = w25 at HB BX BP HO hHeld ⊢
   refine pure_ (i := 0) (N := some 21) (v := ?_) (a' := ?_) #[true, false, false, false, false, false, false, false, false, false, false, false] rfl rfl (any_of HT_.out (by kernel_rfl)) (fun _ _ _ h => h) (Or.inl ⟨by rfl, ?_⟩) ?_ ?_
   rotate_left
   ·intro w'
    go_simp
    with_reducible rfl
   rotate_left
   ·simp only [Act.put, sB, i64_w, i32_w]
    rfl
   refine pure_ (i := 1) (N := some 22) (v := ?_) (a' := ?_) #[true, true, false, false, false, false, false, false, false, false, false, false] rfl rfl (any_of HT_.out (by kernel_rfl)) (fun _ _ _ h => h) (Or.inl ⟨by rfl, ?_⟩) ?_ ?_
   rotate_left
   ·intro w'
    go_simp
    with_reducible rfl
   rotate_left
   ·simp only [Act.put, sB, i64_w, i32_w]
    rfl
   refine pure_ (i := 2) (N := some 23) (v := ?_) (a' := ?_) #[true, true, true, false, false, false, false, false, false, false, false, false] rfl rfl (any_of HT_.out (by kernel_rfl)) (fun _ _ _ h => h) (Or.inl ⟨by rfl, ?_⟩) ?_ ?_
   rotate_left
   ·intro w'
    go_simp
    with_reducible rfl
   rotate_left
   ·simp only [Act.put, sB, i64_w, i32_w]
    rfl
   refine pure_ (i := 3) (N := some 24) (v := ?_) (a' := ?_) #[true, true, true, true, false, false, false, false, false, false, false, false] rfl rfl (any_of HT_.out (by kernel_rfl)) (fun _ _ _ h => h) (Or.inl ⟨by rfl, ?_⟩) ?_ ?_
   rotate_left
   ·intro w'
    go_simp
    with_reducible rfl
   rotate_left
   ·simp only [Act.put, sB, i64_w, i32_w]
    rfl
   refine take_ (i := 4) (N := some 25) (v := ?_) (a' := ?_) #[true, true, true, true, true, false, false, false, false, false, false, false] rfl rfl (take_ofW HT_.out HW_.out (by kernel_rfl)) (fun _ _ _ h => h) (Or.inl ⟨by rfl, ?_⟩) hHeld ?_ ?_
   rotate_left
   ·rintro w' ⟨s0, s1, s2, s3, s4, s5, s6⟩
    go_simp
    with_reducible rfl
   rotate_left
   ·simp only [Act.put, sB, i64_w, i32_w]
    rfl
   refine take_ (i := 5) (N := some 26) (v := ?_) (a' := ?_) #[true, true, true, true, true, true, false, false, false, false, false, false] rfl rfl (take_ofW HT_.out HW_.out (by kernel_rfl)) (fun _ _ _ h => h) (Or.inl ⟨by rfl, ?_⟩) hHeld ?_ ?_
   rotate_left
   ·rintro w' ⟨s0, s1, s2, s3, s4, s5, s6⟩
    go_simp
    with_reducible rfl
   rotate_left
   ·simp only [Act.put, sB, i64_w, i32_w]
    rfl
   refine pure_ (i := 6) (N := some 27) (v := ?_) (a' := ?_) #[true, true, true, true, true, true, true, false, false, false, false, false] rfl rfl (any_of HT_.out (by kernel_rfl)) (fun _ _ _ h => h) (Or.inl ⟨by rfl, ?_⟩) ?_ ?_
   rotate_left
   ·intro w'
    go_simp
    with_reducible rfl
   rotate_left
   ·simp only [Act.put, sB, i64_w, i32_w]
    rfl
   refine one_ (i := 7) (N := some 28) #[true, true, true, true, true, true, true, true, false, false, false, false] rfl rfl (one_of HT_.out (by kernel_rfl)) (by decide) (fun K hK => ?_)
   refine value_ (w1 := ?_) (v := ?_) (by rfl) rfl ?_ ?_
   rotate_left 2
   ·go_simp
    constructor
    ·rfl
    ·rfl
   refine hK.out _ _ ⟨(blk_cell (blk_alloc BP.out _) 0).trans rfl, (blk_cell (blk_alloc BX.out _) 0).trans rfl, (blk_cell (blk_alloc BX.out _) 1).trans rfl, (blk_cell (blk_alloc BX.out _) 2).trans rfl, (blk_cell (blk_alloc BX.out _) 3).trans rfl, (blk_cell (blk_alloc BX.out _) 4).trans rfl, (blk_cell (blk_alloc BX.out _) 5).trans rfl⟩ (fun hHeld => ?_)
   clear hK K
   refine norm_ (a' := ?_) ?_ ?_
   rotate_left
   ·show Act.put _ (some 28) _ = _
    simp only [Act.put, sB, i64_w, i32_w]
    rfl
   refine one_ (i := 8) (N := some 29) #[true, true, true, true, true, true, true, true, true, false, false, false] rfl rfl (one_of HT_.out (by kernel_rfl)) (by decide) (fun K hK => ?_)
   refine Kd.R_append_step k115 (w0 := w) w.heap.size (by rfl) (.tmp 25) (.tmp 28) 116 115 (.agg #[.bool false, .int .i64 0, .int .i64 0, .int .i64 0, .int .i64 0, .int .i64 0, .int .i64 0, .bool false]) 64 rfl Try.underlying116 info115 rfl (by decide) (by omega) (.slice A' ys.length c') ys (mkK (rd_T44 l x)) [.bool (rd_T44 l x).f0, .int .i64 (rd_T44 l x).f1, .int .i64 (rd_T44 l x).f2, .int .i64 (rd_T44 l x).f3, .int .i64 (rd_T44 l x).f4, .int .i64 (rd_T44 l x).f5, .int .i64 0, .bool false] (fun k => k ≠ g) (fun _ => False) rfl rfl ?aP (fun _ hk => hk.elim) ?aF ?aO ?aB ?aS ?aL ?_
   (case aP => exact k115_mkM _ _ _ (mkK (rd_T44 l x)))
   (case aB => exact HB.out)
   (case aF => exact (fun k hk => by have := blk_lt BP.out; omega))
   (case aO => exact HO.out)
   (case aS => exact below_size HB.out)
   (case aL => have := LY.out; omega)
   intro v9 w9 ho hb hgr hat
   have BP9 := asd (blk_grown BP.out hgr (Kd.R_ne HO.out BP.out (by decide)))
   have BX9 := asd (blk_grown BX.out hgr (Kd.R_ne HO.out BX.out (by decide)))
   have HB9 := asd hb
   have HO9 := asd ho
   clear ho hb hgr hat HB HO BP BX
   obtain ⟨A9, c9, rfl⟩ := Kd.R_slice HO9.out
   refine hK.out _ _ ⟨(blk_cell BP9.out 0).trans rfl, (blk_cell BX9.out 0).trans rfl, (blk_cell BX9.out 1).trans rfl, (blk_cell BX9.out 2).trans rfl, (blk_cell BX9.out 3).trans rfl, (blk_cell BX9.out 4).trans rfl, (blk_cell BX9.out 5).trans rfl⟩ (fun hHeld => ?_)
   clear hK K
   refine norm_ (a' := ?_) ?_ ?_
   rotate_left
   ·show Act.put _ (some 29) _ = _
    simp only [Act.put, sB, i64_w, i32_w]
    rfl
   refine pure_ (i := 9) (N := some 30) (v := ?_) (a' := ?_) #[true, true, true, true, true, true, true, true, true, true, false, false] rfl rfl (any_of HT_.out (by kernel_rfl)) (fun _ _ _ h => h) (Or.inl ⟨by rfl, ?_⟩) ?_ ?_
   rotate_left
   ·intro w'
    go_simp
    with_reducible rfl
   rotate_left
   ·simp only [Act.put, sB, i64_w, i32_w]
    rfl
   refine pure_ (i := 10) (N := some 31) (v := ?_) (a' := ?_) #[true, true, true, true, true, true, true, true, true, true, true, false] rfl rfl (any_of HT_.out (by kernel_rfl)) (fun _ _ _ h => h) (Or.inl ⟨by rfl, ?_⟩) ?_ ?_
   rotate_left
   ·intro w'
    go_simp
    with_reducible rfl
   rotate_left
   ·simp only [Act.put, sB, i64_w, i32_w]
    rfl
   refine last_ (i := 11) (N := none) #[true, true, true, true, true, true, true, true, true, true, true, true] rfl rfl (one_of HT_.out (by kernel_rfl)) (by decide) (fun K hK => ?_)
   have hs28 := (blk_cell BP9.out 0).trans rfl
   have hfs28 := blk_frozen BP9.out 0
   refine skip_ (w1 := ?_) (by rfl) rfl ?_ ?_
   rotate_left
   ·go_simp
    rfl
   refine hK.out _ _ ?_
   clear hK K
   refine done_ (done_of HT_.out (by kernel_rfl)) ?_
   try go_wp2
   go_roundw
   case rel => exact ⟨x + 1, A9, c9, ys ++ [mkK (rd_T44 l x)], rfl, ⟨by omega, by omega, NXT.out⟩, ⟨⟨(by have hq := blk_set BP9.out 0 (.slice A9 (ys.length + 1) c9); rw [List.length_append]; exact hq), HG.out, Kd.R_far HO9.out (p := ⟨g, 0, none⟩) (fun k hk => hk) _⟩⟩, ⟨(HB9.out.setCell HG.out _)⟩⟩
   case measure => simp [intOf]; omega
  ·have hq : decide (x < (l.length : Int)) = false := decide_eq_false hlt
   have e : ys = l.map mkK := by have h1 := HX.out; rw [List.take_of_length_le (by omega)] at h1; exact h1.2.2
   subst e
   clear hlt HX h0 h9
   go_wp2
   go_ret
   exact ⟨g, A', c', rfl, HI.out, HB.out⟩
end
end Go.Proofs.Ytjekfipaadbbbaa.Fn
namespace Go.Proofs.Ytjekfipaadbbbaa.Fn
open Go.RowKit Go.Proofs.YtjekfipaadbbbaaW.PrintWords Go.Proofs.YtjekfipaadbbbaaW.PrintLast Go.Proofs.YtjekfipaadbbbaaW.PrintMore
set_option linter.unusedVariables false
set_option linter.unusedSimpArgs false
set_option maxHeartbeats 2000000 in
set_option maxRecDepth 100000 in
theorem num_calls (a : Int) (w : World) : Calls Try.prog 16 #[.int .i64 a] w fun e w' => e = .returned (.int .i64 a) ∧ w = w' := by
 go_enter Try.func16, Try.ntmps16
 go_wp2
 go_ret
 simp
set_option maxHeartbeats 2000000 in
set_option maxRecDepth 100000 in
theorem new_none (A : Option Addr) (c : Nat) (l : List S44) (w : World) (h : Kd.C k44 w A l.length l) (hn : ¬ (l.length ≤ 6 ∧ l.all rtC = true)) :
  Calls Try.prog 26 #[.slice A l.length c] w fun e w' => e = .returned (.pointer none) ∧ Below w.heap.size w w' := by
 have hu118 := Try.underlying118
 have hu115 := Try.underlying115
 have hu45 := Try.underlying45
 have HC := asd h
 by_cases h6 : l.length ≤ 6
 ·have hall : l.all rtC = false := by cases e : l.all rtC with
   | false => rfl
   | true => exact absurd ⟨h6, e⟩ hn
  have HA := asd hall
  have HN := asd h6
  have d6 : decide (6 < (l.length : Int)) = false := decide_eq_false (by omega)
  have d7 : decide ((l.length : Int) > 6) = false := decide_eq_false (by omega)
  clear h hn hall h6
  go_enter Try.func26, Try.ntmps26
  go_wp2_with (first | (go_at_call 72; refine (contains_calls A c l _ HC.out (by have := HN.out; omega)).mono ?_; rintro e w1 ⟨rfl, hb⟩; rw [HA.out]; have HB := asd hb; clear hb))
  go_ret
  exact ⟨rfl, HB.out⟩
 ·have d6 : decide (6 < (l.length : Int)) = true := decide_eq_true (by omega)
  have d7 : decide ((l.length : Int) > 6) = true := decide_eq_true (by omega)
  clear h hn h6
  go_enter Try.func26, Try.ntmps26
  go_wp2
  go_ret
  exact ⟨rfl, Below.refl _ _⟩
def tK : S44 := ⟨false, 10, 10, 10, 1, 1⟩
def sK (n : Int) (b : Bool) : S115 := ⟨false, 10, 10, 10, 1, 1, n, b⟩
theorem C_task {w : World} {g t : Nat} (h : w.heap[g]? = some (.cells #[.bool false, .int .i64 10, .int .i64 10, .int .i64 10, .int .i64 1, .int .i64 1] t (0, 0))) : Kd.C k44 w (some ⟨g, 0, none⟩) [tK].length [tK] := by
 refine ⟨rfl, by simp, fun _ => ⟨_, rfl, ?_⟩⟩
 intro j p hp
 match j with
 | 0 =>
  cases hp
  refine ⟨[.bool false, .int .i64 10, .int .i64 10, .int .i64 10, .int .i64 1, .int .i64 1], rfl, k44_mk w tK, fun i u hu => ?_⟩
  rw [add_at]
  have h2 := blk_cell h i
  rw [show 0 + (0 * k44.sz + i) = i by simp]
  rw [h2]
  match i with
  | 0 => exact hu
  | 1 => exact hu
  | 2 => exact hu
  | 3 => exact hu
  | 4 => exact hu
  | 5 => exact hu
  | i + 6 => exact absurd hu (by simp)
theorem may3 : polMay [sK 0 false] false 0 3 = 0 := by decide +kernel
theorem may12 : polMay [sK 3 true] false 0 12 = 40 := by decide +kernel
theorem may13 : polMay [sK 3 true] false 0 13 = 0 := by decide +kernel
theorem may99 : polMay [sK 13 true] true 0 99 = 42 := by decide +kernel
theorem take3 : polTake [sK 0 false] false 0 3 = [sK 3 true] := by unfold polTake; rw [may3, if_pos rfl]; rfl
theorem take12 : polTake [sK 3 true] false 0 12 = [sK 3 true] := by unfold polTake; rw [may12, if_neg (by decide)]
theorem take13 : polTake [sK 3 true] false 0 13 = [sK 13 true] := by unfold polTake; rw [may13, if_pos rfl]; rfl
set_option maxHeartbeats 4000000 in
set_option maxRecDepth 100000 in
theorem knows_calls (w : World) : Calls Try.prog 13 #[] w fun e w' => e = .returned (.bool true) ∧ Below w.heap.size w w' := by
 have hu45 := Try.underlying45
 have X0 := asd (heap_alloc_new w (.cells #[Value.bool false, .int .i64 10, .int .i64 10, .int .i64 10, .int .i64 1, .int .i64 1] 45))
 go_enter Try.func13, Try.ntmps13
 go_wp2_with fail
 refine (new_calls (some ⟨w.heap.size, 0, none⟩) 1 [tK] _ (C_task X0.out) (by decide) (by decide)).mono ?_
 rintro e w1 ⟨g, A, c, rfl, hi, hb⟩
 rw [show (w.alloc (.cells #[Value.bool false, .int .i64 10, .int .i64 10, .int .i64 10, .int .i64 1, .int .i64 1] 45)).heap.size = w.heap.size + 1 by simp] at hi
 have HI : Aside0 (IsPol w1 (w.heap.size + 1) g A c [sK 0 false] false) := ⟨hi⟩
 have HB := asd (below_then (below_alloc (Below.refl _ _) _) (by simp) hb : Below w.heap.size w w1)
 clear hi hb X0
 go_wp2_with fail
 refine (take_calls _ _ _ _ _ _ 0 3 _ HI.out).mono ?_
 rintro e w2 ⟨rfl, hi, hb⟩
 have HI2 : Aside0 (IsPol w2 (w.heap.size + 1) g A c [sK 3 true] false) := ⟨by have h := hi; rw [show (polTake [sK 0 false] false 0 3) = [sK 3 true] from take3] at h; exact h⟩
 have HB2 := asd (below_weaken HB.out (Nat.le_succ _) hb)
 rw [may3]
 clear hi hb HI HB
 go_wp2_with fail
 refine (take_calls _ _ _ _ _ _ 0 12 _ HI2.out).mono ?_
 rintro e w3 ⟨rfl, hi, hb⟩
 have HI3 : Aside0 (IsPol w3 (w.heap.size + 1) g A c [sK 3 true] false) := ⟨by rw [take12] at hi; exact hi⟩
 have HB3 := asd (below_weaken HB2.out (Nat.le_succ _) hb)
 rw [may12]
 clear hi hb HI2 HB2
 go_wp2_with fail
 refine (take_calls _ _ _ _ _ _ 0 13 _ HI3.out).mono ?_
 rintro e w4 ⟨rfl, hi, hb⟩
 have HI4 : Aside0 (IsPol w4 (w.heap.size + 1) g A c [sK 13 true] false) := ⟨by rw [take13] at hi; exact hi⟩
 have HB4 := asd (below_weaken HB3.out (Nat.le_succ _) hb)
 rw [may13]
 clear hi hb HI3 HB3
 go_wp2_with fail
 refine (drop_calls _ _ _ _ _ _ true _ HI4.out).mono ?_
 rintro e w5 ⟨rfl, hi, hb⟩
 have HI5 : Aside0 (IsPol w5 (w.heap.size + 1) g A c [sK 13 true] true) := ⟨hi⟩
 have HB5 := asd (below_weaken HB4.out (Nat.le_succ _) hb)
 clear hi hb HI4 HB4
 go_wp2_with fail
 refine (last_calls _ _ _ _ _ _ 0 _ HI5.out).mono ?_
 rintro e w6 ⟨rfl, rfl⟩
 rw [show polLast [sK 13 true] 0 = (13, true) from rfl]
 go_wp2_with (first | (go_at_call 16; refine (num_calls _ _).mono ?_; rintro e w6 ⟨rfl, rfl⟩) | (go_at_call 23; refine (dropped_calls _ _ _ _ _ _ 0 _ HI5.out).mono ?_; rintro e w6 ⟨rfl, rfl⟩; rw [show polDropped [sK 13 true] true 0 = true from rfl]) | (go_at_call 19; refine (may_calls _ _ _ _ _ _ 0 99 _ HI5.out).mono ?_; rintro e w7 ⟨rfl, hb⟩; rw [may99]; have HB7 := asd (below_step HB5.out hb); clear hb))
 go_ret
 exact ⟨rfl, HB7.out⟩
end Go.Proofs.Ytjekfipaadbbbaa.Fn
namespace Go.Proofs.Ytjekfipaadbbbaa.Fn
open Go.RowKit Go.Proofs.YtjekfipaadbbbaaW.PrintWords Go.Proofs.YtjekfipaadbbbaaW.PrintLast Go.Proofs.YtjekfipaadbbbaaW.PrintMore
set_option linter.unusedVariables false
set_option linter.unusedSimpArgs false
theorem max2_mx (k k' : IntKind) (x y : Int) : Builtin.max2 (.int k x) (.int k' y) = pure (.int k (mx x y)) := by rw [max2_int]; rfl
theorem min2_mn (k k' : IntKind) (x y : Int) : Builtin.min2 (.int k x) (.int k' y) = pure (.int k (mn x y)) := by rw [min2_int]; rfl
attribute [local go_sem] max2_mx min2_mn max_two min_two
def stK (x : S44) (last : Int) (had : Bool) : S115 := ⟨x.f0, x.f1, x.f2, x.f3, x.f4, x.f5, last, had⟩
section
variable (x : S44) (A : Option Addr) (c : Nat) (l : List Int) (high : Bool)
end
end Go.Proofs.Ytjekfipaadbbbaa.Fn
namespace Go.Proofs.Ytjekfipaadbbbaa.Fn
open Go.RowKit Go.Proofs.YtjekfipaadbbbaaW.PrintWords Go.Proofs.YtjekfipaadbbbaaW.PrintLast Go.Proofs.YtjekfipaadbbbaaW.PrintMore
set_option linter.unusedVariables false
set_option linter.unusedSimpArgs false
def IsDoc (w : World) (base g : Nat) (A : Option Addr) (c : Nat) (xs : List S44) (B : Option Addr) (d : Nat) (ys : List Int) (hi : Bool) : Prop :=
 w.heap[g]? = some (.cells #[.slice A xs.length c, .slice B ys.length d, .bool hi] 38 (0, 0)) ∧ base ≤ g ∧ k44.R 44 w base (fun k => k ≠ g) (.slice A xs.length c) xs ∧ (Kd.int .i64).R 3 w base (fun k => k ≠ g) (.slice B ys.length d) ys
theorem IsDoc.below {w w1 : World} {base g : Nat} {A B : Option Addr} {c d : Nat} {xs : List S44} {ys : List Int} {hi : Bool} (h : IsDoc w base g A c xs B d ys hi) (hb : Below w.heap.size w w1) : IsDoc w1 base g A c xs B d ys hi := ⟨blk_below h.1 hb, h.2.1, Kd.R_below h.2.2.1 hb, Kd.R_below h.2.2.2 hb⟩
theorem at_int {w : World} {A : Option Addr} {n : Nat} {ys : List Int} (h : Kd.C (Kd.int .i64) w A n ys) (i : Int) (h0 : 0 ≤ i) (h1 : i < n) : ∃ ad, A = some ad ∧ w.cell? (ad.add i.toNat) = some (.int .i64 (rd ys i)) := by
 obtain ⟨ad, cc, rfl, _, hK, hc0⟩ := Kd.C_get h 0 i h0 h1
 have ee : cc = [.int .i64 (ys.getD i.toNat 0)] := hK
 subst ee
 refine ⟨ad, rfl, ?_⟩
 have h := hc0 0 _ rfl
 rwa [show i.toNat * (Kd.int .i64).sz + 0 = i.toNat from Nat.mul_one _] at h
def docDropped (xs : List S44) (hi : Bool) (i : Int) : Bool := if 0 ≤ i ∧ i < xs.length then hi && !(rd_T44 xs i).f0 else false
def docMay (xs : List S44) (ys : List Int) (hi : Bool) (i now : Int) : Int := if (0 ≤ i ∧ i < xs.length) ∧ 0 ≤ now ∧ now ≤ 4611686018427387904 then (if docDropped xs hi i = true then 42 else if 0 ≤ rd ys i ∧ wrap64 (now - rd ys i) < (rd_T44 xs i).f1 then 40 else 0) else 1
section
variable (base g : Nat) (A : Option Addr) (c : Nat) (xs : List S44) (B : Option Addr) (d : Nat) (ys : List Int) (hi : Bool)
set_option maxHeartbeats 4000000 in
set_option maxRecDepth 100000 in
theorem ddropped_calls (i : Int) (w : World) (h : IsDoc w base g A c xs B d ys hi) :
  Calls Try.prog 24 #[.pointer (some ⟨g, 0, none⟩), .int .i64 i] w fun e w' => e = .returned (.bool (docDropped xs hi i)) ∧ w = w' := by
 have hu38 := Try.underlying38
 have hu44 := Try.underlying44
 have hx0 := (blk_cell h.1 0).trans rfl
 have hx1 := (blk_cell h.1 1).trans rfl
 have hx2 := (blk_cell h.1 2).trans rfl
 by_cases h0 : 0 ≤ i
 ·have d0 : decide (0 ≤ i) = true := decide_eq_true h0
  by_cases h1 : i < (xs.length : Int)
  ·have d1 : decide (i < (xs.length : Int)) = true := decide_eq_true h1
   have p0 : (0 ≤ i) = True := eq_true h0
   have p1 : (i < (xs.length : Int)) = True := eq_true h1
   obtain ⟨ad, rfl, y0, _⟩ := at_T44 (Kd.R_reads' h.2.2.1).2.2 i h0 h1
   have e : docDropped xs hi i = (hi && !(rd_T44 xs i).f0) := by unfold docDropped; rw [if_pos ⟨h0, h1⟩]
   rw [e]
   clear e h h0 h1
   cases hi with
   | false =>
    go_enter Try.func24, Try.ntmps24
    go_wp2
    go_ret
    simp
   | true =>
    go_enter Try.func24, Try.ntmps24
    go_wp2
    go_ret
    simp
  ·have d1 : decide (i < (xs.length : Int)) = false := decide_eq_false h1
   have e : docDropped xs hi i = false := by unfold docDropped; rw [if_neg (by omega)]
   rw [e]
   clear e h h0 h1
   go_enter Try.func24, Try.ntmps24
   go_wp2
   go_ret
   simp
 ·have d0 : decide (0 ≤ i) = false := decide_eq_false h0
  have e : docDropped xs hi i = false := by unfold docDropped; rw [if_neg (by omega)]
  rw [e]
  clear e h h0
  go_enter Try.func24, Try.ntmps24
  go_wp2
  go_ret
  simp
end
end Go.Proofs.Ytjekfipaadbbbaa.Fn
namespace Go.Proofs.Ytjekfipaadbbbaa.Fn
open Go.RowKit Go.Proofs.YtjekfipaadbbbaaW.PrintWords Go.Proofs.YtjekfipaadbbbaaW.PrintLast Go.Proofs.YtjekfipaadbbbaaW.PrintMore
set_option linter.unusedVariables false
set_option linter.unusedSimpArgs false
section
variable (base g : Nat) (A : Option Addr) (c : Nat) (xs : List S44) (B : Option Addr) (d : Nat) (ys : List Int) (hi : Bool)
set_option maxHeartbeats 8000000 in
set_option maxRecDepth 100000 in
theorem dmay_calls (i now : Int) (w : World) (h : IsDoc w base g A c xs B d ys hi) (hl : ys.length = xs.length) (hb : 0 ≤ i → i < ys.length → -1 ≤ rd ys i ∧ rd ys i ≤ 4611686018427387904) :
  Calls Try.prog 20 #[.pointer (some ⟨g, 0, none⟩), .int .i64 i, .int .i64 now] w fun e w' => e = .returned (.int .i64 (docMay xs ys hi i now)) ∧ Below w.heap.size w w' := by
 have hu38 := Try.underlying38
 have hu44 := Try.underlying44
 have hx0 := (blk_cell h.1 0).trans rfl
 have hx1 := (blk_cell h.1 1).trans rfl
 have hx2 := (blk_cell h.1 2).trans rfl
 have HP := asd h
 by_cases h0 : 0 ≤ i
 case neg =>
  have d0 : decide (i < 0) = true := decide_eq_true (by omega)
  have e : docMay xs ys hi i now = 1 := by unfold docMay; rw [if_neg (by omega)]
  rw [e]
  clear e h h0 hb hl
  go_enter Try.func20, Try.ntmps20
  go_wp2
  go_ret
  exact ⟨rfl, Below.refl _ _⟩
 have d0 : decide (i < 0) = false := decide_eq_false (by omega)
 by_cases h1 : i < (xs.length : Int)
 case neg =>
  have d1 : decide ((xs.length : Int) ≤ i) = true := decide_eq_true (by omega)
  have e : docMay xs ys hi i now = 1 := by unfold docMay; rw [if_neg (by omega)]
  rw [e]
  clear e h h0 h1 hb hl
  go_enter Try.func20, Try.ntmps20
  go_wp2
  go_ret
  exact ⟨rfl, Below.refl _ _⟩
 have d1 : decide ((xs.length : Int) ≤ i) = false := decide_eq_false (by omega)
 by_cases h2 : 0 ≤ now
 case neg =>
  have d2 : decide (now < 0) = true := decide_eq_true (by omega)
  have e : docMay xs ys hi i now = 1 := by unfold docMay; rw [if_neg (by omega)]
  rw [e]
  clear e h h0 h1 h2 hb hl
  go_enter Try.func20, Try.ntmps20
  go_wp2
  go_ret
  exact ⟨rfl, Below.refl _ _⟩
 have d2 : decide (now < 0) = false := decide_eq_false (by omega)
 by_cases h3 : now ≤ 4611686018427387904
 case neg =>
  have d3 : decide (4611686018427387904 < now) = true := decide_eq_true (by omega)
  have e : docMay xs ys hi i now = 1 := by unfold docMay; rw [if_neg (by omega)]
  rw [e]
  clear e h h0 h1 h2 h3 hb hl
  go_enter Try.func20, Try.ntmps20
  go_wp2
  go_ret
  exact ⟨rfl, Below.refl _ _⟩
 have d3 : decide (4611686018427387904 < now) = false := decide_eq_false (by omega)
 have e : docMay xs ys hi i now = (if docDropped xs hi i = true then 42 else if 0 ≤ rd ys i ∧ wrap64 (now - rd ys i) < (rd_T44 xs i).f1 then 40 else 0) := by unfold docMay; rw [if_pos ⟨⟨h0, h1⟩, h2, h3⟩]
 rw [e]
 clear e
 obtain ⟨ad, rfl, y0, y1, _⟩ := at_T44 (Kd.R_reads' h.2.2.1).2.2 i h0 h1
 obtain ⟨bd, rfl, z0⟩ := at_int (Kd.R_reads' h.2.2.2).2.2 i h0 (by omega)
 cases hd : docDropped xs hi i with
 | true =>
  rw [if_pos rfl]
  have HD := asd hd
  clear hd h h0 h1 h2 h3 hb hl y0 y1 z0
  go_enter Try.func20, Try.ntmps20
  go_wp2_with (first | (go_at_call 24; refine (ddropped_calls base g _ c xs _ d ys hi i _ HP.out).mono ?_; rintro e w1 ⟨rfl, rfl⟩; rw [HD.out]))
  go_ret
  exact ⟨rfl, Below.refl _ _⟩
 | false =>
  rw [if_neg (by decide)]
  have HD := asd hd
  have hbb := hb h0 (by omega)
  have hw : wrap64 (now - rd ys i) = now - rd ys i := by unfold wrap64; omega
  rw [hw]
  have p0 : (0 ≤ i) = True := eq_true h0
  have p1 : (i < (xs.length : Int)) = True := eq_true h1
  have p2 : (i < (ys.length : Int)) = True := eq_true (by omega)
  have b1 : -1 ≤ rd ys i := hbb.1
  have b2 : rd ys i ≤ 4611686018427387904 := hbb.2
  generalize rd ys i = last at z0 hw b1 b2 ⊢
  by_cases c0 : 0 ≤ last
  ·have e0 : decide (0 ≤ last) = true := decide_eq_true c0
   by_cases c1 : now - last < (rd_T44 xs i).f1
   ·rw [if_pos ⟨c0, c1⟩]
    have e1 : decide (now - last < (rd_T44 xs i).f1) = true := decide_eq_true c1
    clear hd h h0 h1 hb hl hbb c0 c1 hw
    go_enter Try.func20, Try.ntmps20
    go_wp2_with (first | (go_at_call 24; refine (ddropped_calls base g _ c xs _ d ys hi i _ HP.out).mono ?_; rintro e w1 ⟨rfl, rfl⟩; rw [HD.out]))
    go_quiet (fail)
    go_wp2
    go_ret
    exact ⟨rfl, pw_below_drewN (Below.refl _ _) _⟩
   ·rw [if_neg (fun q => c1 q.2)]
    have e1 : decide (now - last < (rd_T44 xs i).f1) = false := decide_eq_false c1
    clear hd h h0 h1 hb hl hbb c0 c1 hw
    go_enter Try.func20, Try.ntmps20
    go_wp2_with (first | (go_at_call 24; refine (ddropped_calls base g _ c xs _ d ys hi i _ HP.out).mono ?_; rintro e w1 ⟨rfl, rfl⟩; rw [HD.out]))
    go_quiet (fail)
    go_wp2
    go_ret
    exact ⟨rfl, pw_below_drewN (Below.refl _ _) _⟩
  ·rw [if_neg (fun q => c0 q.1)]
   have e0 : decide (0 ≤ last) = false := decide_eq_false c0
   clear hd h h0 h1 hb hl hbb c0 hw
   go_enter Try.func20, Try.ntmps20
   go_wp2_with (first | (go_at_call 24; refine (ddropped_calls base g _ c xs _ d ys hi i _ HP.out).mono ?_; rintro e w1 ⟨rfl, rfl⟩; rw [HD.out]))
   go_quiet (fail)
   go_wp2
   go_ret
   exact ⟨rfl, pw_below_drewN (Below.refl _ _) _⟩
end
end Go.Proofs.Ytjekfipaadbbbaa.Fn
namespace Go.Proofs.Ytjekfipaadbbbaa.Fn
open Go.RowKit Go.Proofs.YtjekfipaadbbbaaW.PrintWords Go.Proofs.YtjekfipaadbbbaaW.PrintLast Go.Proofs.YtjekfipaadbbbaaW.PrintMore
set_option linter.unusedVariables false
set_option linter.unusedSimpArgs false
structure Chg (S : Nat → Prop) (w w' : World) : Prop where
 os : w'.os = w.os
 tape : w'.tape = w.tape
 output : w'.output = w.output
 size : w.heap.size ≤ w'.heap.size
 block : ∀ k, k < w.heap.size → ¬ S k → w'.heap[k]? = w.heap[k]?
section
variable {S S2 : Nat → Prop} {w w1 w2 : World} {B : Nat}
theorem Chg.refl (S : Nat → Prop) (w : World) : Chg S w w := ⟨rfl, rfl, rfl, Nat.le_refl _, fun _ _ _ => rfl⟩
theorem Chg.then_ (h : Chg S w w1) (k : Chg S2 w1 w2) (hs : ∀ k, S2 k → S k ∨ w.heap.size ≤ k) : Chg S w w2 :=
 ⟨k.os.trans h.os, k.tape.trans h.tape, k.output.trans h.output, Nat.le_trans h.size k.size, fun i hi hn => (k.block i (Nat.lt_of_lt_of_le hi h.size) (fun h2 => (hs i h2).elim hn (fun h3 => by omega))).trans (h.block i hi hn)⟩
theorem Chg.trans (h : Chg S w w1) (k : Chg S w1 w2) : Chg S w w2 := h.then_ k (fun _ h => .inl h)
theorem Chg.mono (h : Chg S w w1) (hs : ∀ k, S k → S2 k) : Chg S2 w w1 := ⟨h.os, h.tape, h.output, h.size, fun i hi hn => h.block i hi (fun hk => hn (hs i hk))⟩
theorem Chg.of_below (h : Below w.heap.size w w1) (S : Nat → Prop) : Chg S w w1 := ⟨h.os, h.tape, h.output, h.size, fun i hi _ => h.block i hi⟩
theorem Chg.of_belowB (h : Below B w w1) : Chg (fun k => B ≤ k) w w1 := ⟨h.os, h.tape, h.output, h.size, fun i hi hn => h.block i (by omega)⟩
theorem Chg.to_below (h : Chg S w w1) (hS : ∀ k, S k → B ≤ k) (hB : B ≤ w.heap.size) : Below B w w1 := ⟨h.os, h.tape, h.output, h.size, fun k hk => h.block k (by omega) (fun hs => by have := hS k hs; omega)⟩
theorem Chg.below (h : Chg S w w1) (k : Below w1.heap.size w1 w2) : Chg S w w2 := h.then_ (Chg.of_below k (fun _ => False)) (fun _ hk => hk.elim)
theorem Chg.alloc (h : Chg S w w1) (o : Obj) : Chg S w (w1.alloc o) := h.below (below_alloc (Below.refl _ _) o)
theorem Chg.drew (h : Chg S w w1) : Chg S w w1.drew := ⟨h.os, h.tape, h.output, h.size, h.block⟩
theorem Chg.drewN (h : Chg S w w1) (n : Nat) : Chg S w (w1.drewN n) := ⟨h.os, h.tape, h.output, h.size, h.block⟩
theorem Chg.set_ (h : Chg S w w1) {p : Addr} (hp : S p.block ∨ w.heap.size ≤ p.block) (u : Value) : Chg S w (w1.setCell p u) :=
 h.then_ (S2 := fun k => k = p.block) ⟨rfl, rfl, rfl, by simp [World.setCell], fun i _ hn => Below.heap_setCell w1 p u i hn⟩ (fun k hk => by rw [hk]; exact hp)
theorem Chg.grown (h : Chg S w w1) {row : Option Nat} (hg : w1.grownBy w2 row) (hr : ∀ k, row = some k → S k ∨ w.heap.size ≤ k) : Chg S w w2 :=
 h.then_ (S2 := fun k => row = some k) ⟨hg.os, hg.tape, hg.output, hg.size, fun i hi hn => hg.block i hi (fun he => hn he.symm)⟩ hr
theorem blk_chg {g : Nat} {o : Obj} (hb : w.heap[g]? = some o) (hk : Chg S w w1) (hne : ¬ S g) : w1.heap[g]? = some o := (hk.block g (blk_lt hb) hne).trans hb
theorem R_chg {α : Type} {d : Kd α} {e base : Nat} {ok : Nat → Prop} {v : Value} {xs : List α} (h : d.R e w base ok v xs) (hk : Chg S w w1) (hne : ∀ k, ok k → ¬ S k) : d.R e w1 base ok v xs := Kd.R_step h (fun k ho hlt => hk.block k hlt (hne k ho))
theorem R_chgB {α : Type} {d : Kd α} {e base : Nat} {ok : Nat → Prop} {v : Value} {xs : List α} (h : d.R e w base ok v xs) (hk : Chg S w w1) (hne : ∀ k, S k → k < base) : d.R e w1 base ok v xs :=
 Kd.R_mono (R_chg (Kd.R_bound h) hk (fun k hk hs => by have := hne k hs; have := hk.2.1; omega)) (fun _ h => h.1)
end
end Go.Proofs.Ytjekfipaadbbbaa.Fn
namespace Go.Proofs.Ytjekfipaadbbbaa.Fn
open Go.RowKit Go.Proofs.YtjekfipaadbbbaaW.PrintWords Go.Proofs.YtjekfipaadbbbaaW.PrintLast Go.Proofs.YtjekfipaadbbbaaW.PrintMore
set_option linter.unusedVariables false
set_option linter.unusedSimpArgs false
def polS (g : Nat) (A : Option Addr) (k : Nat) : Prop := k = g ∨ ∃ a, A = some a ∧ k = a.block
theorem IsPol.tight {w : World} {base g : Nat} {A : Option Addr} {c : Nat} {xs : List S115} {hi : Bool} (h : IsPol w base g A c xs hi) : (∀ k, polS g A k → base ≤ k ∧ k < w.heap.size) := by
 intro k hk
 rcases hk with rfl | ⟨a, rfl, rfl⟩
 ·exact ⟨h.2.1, blk_lt h.1⟩
 ·exact ⟨Kd.R_base h.2.2 a.block (by simp [Value.ownBlock]), Kd.R_lt h.2.2 a.block (by simp [Value.ownBlock])⟩
theorem IsPol.chg {S : Nat → Prop} {w w1 : World} {base g : Nat} {A : Option Addr} {c : Nat} {xs : List S115} {hi : Bool} (h : IsPol w base g A c xs hi) (hk : Chg S w w1) (hn : ∀ k, polS g A k → ¬ S k) : IsPol w1 base g A c xs hi :=
 ⟨blk_chg h.1 hk (hn g (.inl rfl)), h.2.1, Kd.R_mono (R_chg (Kd.R_tight2 rfl h.2.2) hk (fun k hk => hn k (.inr (by
  cases A with
  | none => simp [Value.ownBlock] at hk
  | some a => exact ⟨a, rfl, by simpa [Value.ownBlock] using hk.1⟩)))) (fun k hk => hk.2)⟩
theorem IsDoc.chg {S : Nat → Prop} {w w1 : World} {base g : Nat} {A B : Option Addr} {c d : Nat} {xs : List S44} {ys : List Int} {hi : Bool} (h : IsDoc w base g A c xs B d ys hi) (hk : Chg S w w1) (hn : ∀ k, S k → k < base) : IsDoc w1 base g A c xs B d ys hi :=
 ⟨blk_chg h.1 hk (fun hs => by have := hn _ hs; have := h.2.1; omega), h.2.1, R_chgB h.2.2.1 hk hn, R_chgB h.2.2.2 hk hn⟩
section
variable (base g : Nat) (A : Option Addr) (c : Nat) (xs : List S115) (hi : Bool)
set_option maxHeartbeats 2000000 in
set_option maxRecDepth 100000 in
theorem drop_chg (b : Bool) (w : World) (h : IsPol w base g A c xs hi) :
  Calls Try.prog 21 #[.pointer (some ⟨g, 0, none⟩), .bool b] w fun e w' => e = .returned (.tuple #[]) ∧ IsPol w' base g A c xs b ∧ Chg (polS g A) w w' := by
 have hu118 := Try.underlying118
 have hx1 := (blk_cell h.1 1).trans rfl
 have hf1 := blk_frozen h.1 1
 have HP := asd h
 clear h
 go_enter Try.func21, Try.ntmps21
 go_wp2
 go_end0
 have hset := blk_set HP.out.1 1 (.bool b)
 exact ⟨rfl, ⟨hset, HP.out.2.1, Kd.R_far HP.out.2.2 (p := ⟨g, 1, none⟩) (fun k hk => hk) _⟩, (Chg.refl _ _).set_ (.inl (.inl rfl)) _⟩
set_option maxHeartbeats 2000000 in
set_option maxRecDepth 100000 in
theorem take_chg (i now : Int) (w : World) (h : IsPol w base g A c xs hi) :
  Calls Try.prog 17 #[.pointer (some ⟨g, 0, none⟩), .int .i64 i, .int .i64 now] w fun e w' => e = .returned (.int .i64 (polMay xs hi i now)) ∧ IsPol w' base g A c (polTake xs hi i now) hi ∧ Chg (polS g A) w w' := by
 have hu118 := Try.underlying118
 have hu115 := Try.underlying115
 have HP := asd h
 by_cases hm : polMay xs hi i now = 0
 ·have hr : 0 ≤ i ∧ i < (xs.length : Int) := by
   have h2 := hm
   unfold polMay at h2
   split at h2
   ·rename_i hh; exact hh.1
   ·simp at h2
  have e : polTake xs hi i now = xs.set i.toNat { rd_T115 xs i with f6 := now, f7 := true } := by unfold polTake; rw [if_pos hm]
  obtain ⟨ad, rfl, _⟩ := at_T115 h.row i hr.1 hr.2
  have hs := spot_some (ad := ad) hr
  have HR := asd hr
  have HM := asd hm
  rw [e, hm]
  clear e h hr hm
  go_enter Try.func17, Try.ntmps17
  go_wp2_with fail
  refine (may_calls base g _ c xs hi i now _ HP.out).mono ?_
  rintro e w1 ⟨rfl, hb⟩
  rw [HM.out]
  have HB := asd (Chg.of_below hb (polS g (some ad)))
  have HP1 := asd (HP.out.below hb)
  clear hb
  go_wp2_with fail
  refine (task_calls base g _ c xs hi i _ HP1.out).mono ?_
  rintro e w2 ⟨rfl, rfl⟩
  rw [hs]
  obtain ⟨hi1, hb1, hf⟩ := put_two base g _ c xs hi i now _ HP1.out HR.out.1 HR.out.2 rfl
  have HI := asd hi1
  have f6 := hf 6
  have f7 := hf 7
  clear hi1 hb1 hf
  obtain ⟨ad', e', y0, y1, y2, y3, y4, y5, y6, y7⟩ := at_T115 HP1.out.row i HR.out.1 HR.out.2
  obtain rfl := Option.some.inj e'
  have BK : Aside0 ((ad.add (i.toNat * 8)).block = ad.block) := ⟨by rw [Addr.add]; split <;> rfl⟩
  go_wp2
  go_ret
  exact ⟨rfl, HI.out, (HB.out.set_ (p := ⟨(ad.add (i.toNat * 8)).block, _, none⟩) (.inl (.inr ⟨ad, rfl, BK.out⟩)) _).set_ (p := ⟨(ad.add (i.toNat * 8)).block, _, none⟩) (.inl (.inr ⟨ad, rfl, BK.out⟩)) _⟩
 ·have e : polTake xs hi i now = xs := by unfold polTake; rw [if_neg hm]
  rw [e]
  have d : decide (polMay xs hi i now = 0) = false := decide_eq_false hm
  have d2 : (polMay xs hi i now == 0) = false := by simpa using hm
  clear e h
  go_enter Try.func17, Try.ntmps17
  go_wp2_with (first | (go_at_call 19; refine (may_calls base g _ c xs hi i now _ HP.out).mono ?_; rintro e w1 ⟨rfl, hb⟩; have HB := asd hb; clear hb))
  go_ret
  exact ⟨rfl, HP.out.below HB.out, Chg.of_below HB.out _⟩
end
def docTake (xs : List S44) (ys : List Int) (hi : Bool) (i now : Int) : List Int := if docMay xs ys hi i now = 0 then ys.set i.toNat now else ys
section
variable (base g : Nat) (A : Option Addr) (c : Nat) (xs : List S44) (B : Option Addr) (d : Nat) (ys : List Int) (hi : Bool)
theorem doc_put (i now : Int) (w : World) (h : IsDoc w base g A c xs B d ys hi) (h0 : 0 ≤ i) (h1 : i < ys.length) {bd : Addr} (hB : B = some bd) :
  IsDoc (w.setCell (bd.add i.toNat) (.int .i64 now)) base g A c xs B d (ys.set i.toNat now) hi ∧ Below base w (w.setCell (bd.add i.toNat) (.int .i64 now)) ∧ w.frozen? (bd.add i.toNat) = false ∧ Chg (fun k => ∃ a, B = some a ∧ k = a.block) w (w.setCell (bd.add i.toNat) (.int .i64 now)) := by
 subst hB
 obtain ⟨hg, hb, hR, hQ⟩ := h
 obtain ⟨g2, rfl⟩ := Kd.R_head hQ
 obtain ⟨cc, hcl, hM, hcc, hfz⟩ := Kd.R_elem hQ 0 i h0 h1
 have hne : g2 ≠ g := hQ.1 g2 (by simp [Value.ownBlock])
 have hbase : base ≤ g2 := Kd.R_base hQ g2 (by simp [Value.ownBlock])
 have ee : cc = [.int .i64 (ys.getD i.toNat 0)] := hM
 subst ee
 have hs := Kd.R_seg hQ i h0 h1 (c := _) (seg := [.int .i64 now]) (j := 0) (okp := fun _ => False) hcl hcc (Nat.le_refl 1) (x' := now) (rfl : [Value.int .i64 now] = [Value.int .i64 now]) (fun _ h => h.elim)
 have e1 : i.toNat * (Kd.int .i64).sz = i.toNat := Nat.mul_one _
 rw [add_at]
 simp only [Nat.zero_add]
 have hne44 : some g2 ≠ (Value.slice A xs.length c).ownBlock := by
  obtain ⟨cells, hcells⟩ := Kd.R_typed hQ g2 (by simp [Value.ownBlock])
  exact Kd.R_ne hR hcells (by decide)
 refine ⟨⟨?_, hb, ?_, ?_⟩, ?_, ?_, ?_⟩
 ·rw [List.length_set]
  exact blk_far hg (p := ⟨g2, _, none⟩) (fun e => hne e.symm) _
 ·exact Kd.R_mono (Kd.R_far (Kd.R_tight2 rfl hR) (p := ⟨g2, _, none⟩) (fun k hk e => hne44 (by rw [← show k = g2 from e]; exact hk.1)) _) (fun k hk => hk.2)
 ·rw [List.length_set]
  have h2 := hs.1
  rw [e1] at h2
  exact h2
 ·exact (Below.refl _ _).setCell hbase _
 ·have h2 := hfz 0
  rw [e1] at h2
  exact h2
 ·exact (Chg.refl _ _).set_ (p := ⟨g2, _, none⟩) (.inl ⟨_, rfl, rfl⟩) _
set_option maxHeartbeats 2000000 in
set_option maxRecDepth 100000 in
theorem dtake_calls (i now : Int) (w : World) (h : IsDoc w base g A c xs B d ys hi) (hl : ys.length = xs.length) (hb : 0 ≤ i → i < ys.length → -1 ≤ rd ys i ∧ rd ys i ≤ 4611686018427387904) :
  Calls Try.prog 18 #[.pointer (some ⟨g, 0, none⟩), .int .i64 i, .int .i64 now] w fun e w' => e = .returned (.int .i64 (docMay xs ys hi i now)) ∧ IsDoc w' base g A c xs B d (docTake xs ys hi i now) hi ∧ Below base w w' ∧ Chg (fun k => ∃ a, B = some a ∧ k = a.block) w w' := by
 have hu38 := Try.underlying38
 have HP := asd h
 have HM := asd (dmay_calls base g A c xs B d ys hi i now w h hl hb)
 have HS : Aside0 (base ≤ w.heap.size) := ⟨by have := blk_lt h.1; have := h.2.1; omega⟩
 by_cases hm : docMay xs ys hi i now = 0
 ·have hr : 0 ≤ i ∧ i < (ys.length : Int) := by
   have h2 := hm
   unfold docMay at h2
   split at h2
   ·rename_i hh; rw [hl]; exact hh.1
   ·simp at h2
  have e : docTake xs ys hi i now = ys.set i.toNat now := by unfold docTake; rw [if_pos hm]
  obtain ⟨bd, rfl, z0⟩ := at_int (Kd.R_reads' h.2.2.2).2.2 i hr.1 hr.2
  have HR := asd hr
  rw [hm] at HM
  rw [e, hm]
  have p0 : (0 ≤ i) = True := eq_true hr.1
  have p1 : (i < (ys.length : Int)) = True := eq_true hr.2
  clear e h hm hl hb z0
  go_enter Try.func18, Try.ntmps18
  go_wp2_with fail
  refine HM.out.mono ?_
  rintro e w1 ⟨rfl, hb⟩
  have HB := asd hb
  have HP1 := asd (HP.out.below hb)
  have hx1 := (blk_cell HP1.out.1 1).trans rfl
  have PUT := asd (doc_put base g A c xs _ d ys hi i now _ HP1.out HR.out.1 HR.out.2 rfl)
  have hf := PUT.out.2.2.1
  obtain ⟨bd', e', z0⟩ := at_int (Kd.R_reads' HP1.out.2.2.2).2.2 i HR.out.1 HR.out.2
  obtain rfl := Option.some.inj e'
  clear hb
  go_wp2
  go_ret
  exact ⟨rfl, PUT.out.1, (HB.out.mono HS.out).trans PUT.out.2.1, (Chg.of_below HB.out _).trans PUT.out.2.2.2⟩
 ·have e : docTake xs ys hi i now = ys := by unfold docTake; rw [if_neg hm]
  rw [e]
  have dd : decide (docMay xs ys hi i now = 0) = false := decide_eq_false hm
  have d2 : (docMay xs ys hi i now == 0) = false := by simpa using hm
  clear e h hl hb
  go_enter Try.func18, Try.ntmps18
  go_wp2_with (first | (go_at_call 20; refine HM.out.mono ?_; rintro e w1 ⟨rfl, hb⟩; have HB := asd hb; clear hb))
  go_ret
  exact ⟨rfl, HP.out.below HB.out, HB.out.mono HS.out, Chg.of_below HB.out _⟩
end
end Go.Proofs.Ytjekfipaadbbbaa.Fn
namespace Go.Proofs.Ytjekfipaadbbbaa.Fn
open Go.RowKit Go.Proofs.YtjekfipaadbbbaaW.PrintWords Go.Proofs.YtjekfipaadbbbaaW.PrintLast Go.Proofs.YtjekfipaadbbbaaW.PrintMore
set_option linter.unusedVariables false
set_option linter.unusedSimpArgs false
set_option maxHeartbeats 4000000 in
set_option maxRecDepth 100000 in
theorem right68 (x : S44) (w : World) : Calls Try.prog 68 #[.agg #[.bool x.f0, .int .i64 x.f1, .int .i64 x.f2, .int .i64 x.f3, .int .i64 x.f4, .int .i64 x.f5]] w fun e w' => e = .returned (.bool (rtC x)) ∧ Below w.heap.size w w' := by
  have hu44 := Try.underlying44
  go_enter Try.func68, Try.ntmps68
  go_wp2
  all_goals (go_ret; refine ⟨congrArg (fun b => Ending.returned (.bool b)) ?_, below_alloc (Below.refl _ _) _⟩)
  all_goals symm
  all_goals first
    | (rw [rtC_iff]; (repeat' apply And.intro) <;> first | omega | (left; assumption))
    | (rw [← Bool.not_eq_true, rtC_iff]; rintro ⟨_, _, h | h⟩ <;> first | omega | contradiction)
    | (refine bool_eq (P := x.f5 = x.f4) ((rtC_iff x).trans ⟨fun h => ?_, fun h => ?_⟩) (by simp)
       · rcases h.2.2 with h | h <;> first | omega | contradiction
       · (repeat' apply And.intro) <;> first | omega | (right; omega))
theorem info45 : (Try.prog.info? 45).map (fun i => (i.zero, i.size, i.bytes)) = some (some (.agg #[.bool false, .int .i64 0, .int .i64 0, .int .i64 0, .int .i64 0, .int .i64 0]), 6, 48) := by kernel_rfl
theorem info44 : (Try.prog.info? 44).map (fun i => (i.zero, i.size, i.bytes)) = some (some (.agg #[.bool false, .int .i64 0, .int .i64 0, .int .i64 0, .int .i64 0, .int .i64 0]), 6, 48) := by kernel_rfl
theorem take_one {α : Type} (l : List α) (z : α) (x : Int) (h0 : 0 ≤ x) (h1 : x < l.length) : l.take x.toNat ++ [l.getD x.toNat z] = l.take (x + 1).toNat := by
  have e : (x + 1).toNat = x.toNat + 1 := by omega
  have hl : x.toNat < l.length := by omega
  rw [e, List.take_succ_eq_append_getElem hl]
  simp [List.getD, hl]
section
variable (A : Option Addr) (c : Nat) (l : List S44)
def PolMade (base : Nat) (l : List S44) (e : Ending) (w' : World) : Prop := if l.length ≤ 6 ∧ l.all rtC = true then ∃ (g : Nat) (A' : Option Addr) (c' : Nat), e = .returned (.pointer (some ⟨g, 0, none⟩)) ∧ IsPol w' base g A' c' (l.map mkK) false else e = .returned (.pointer none)
set_option maxHeartbeats 8000000 in
set_option maxRecDepth 100000 in
theorem own_calls (w : World) (h : Kd.C k44 w A l.length l) (hn : l.length ≤ 20) :
    Calls Try.prog 14 #[.slice A l.length c] w fun e w' => PolMade w.heap.size l e w' ∧ Below w.heap.size w w' := by
  have hu44 := Try.underlying44
  have hu45 := Try.underlying45
  have HC := asd h
  have HN := asd hn
  clear h hn
  go_enter Try.func14, Try.ntmps14
  go_wp2
  go_loopw [3, 4] (fun v3 v4 wr => ∃ (x : Int) (ys : List S44), v4 = .int .i64 x ∧ Aside0 (0 ≤ x ∧ x ≤ l.length ∧ ys = l.take x.toNat) ∧ Aside0 (k44.R 45 wr w.heap.size (fun _ => True) v3 ys) ∧ Aside0 (Below w.heap.size w wr)) (fun _ v _ => l.length - (intOf v).toNat)
  case atStart => exact ⟨0, [], rfl, ⟨by omega, by omega, rfl⟩, ⟨Kd.R_nil _ _ _ _ _⟩, ⟨Below.refl _ _⟩⟩
  case round =>
    obtain ⟨x, ys, rfl, HX, HR, HB⟩ := hrel
    have h0 : 0 ≤ x := HX.out.1
    have h9 : x ≤ 1000 := by have := HX.out.2.1; have := HN.out; omega
    obtain ⟨A', c', rfl⟩ := Kd.R_slice HR.out
    by_cases hlt : x < (l.length : Int)
    · have p1 : (0 ≤ x) = True := eq_true h0
      have q1 : (x < (l.length : Int)) = True := eq_true hlt
      have LY : Aside0 (ys.length ≤ 20) := ⟨by rw [HX.out.2.2, List.length_take]; have := HN.out; omega⟩
      have NXT : Aside0 (ys ++ [rd_T44 l x] = l.take (x + 1).toNat) := ⟨by rw [HX.out.2.2]; exact take_one l z44 x h0 hlt⟩
      obtain ⟨ad, rfl, y0, y1, y2, y3, y4, y5⟩ := at_T44 (Kd.C_below HC.out HB.out) x h0 hlt
      go_wp2_with (first | (at_builtin; refine Kd.R_append k44 (w0 := w) w.heap.size rfl (.tmp 11) (.tmp 16) 110 45 (.agg #[.bool false, .int .i64 0, .int .i64 0, .int .i64 0, .int .i64 0, .int .i64 0]) 48 rfl Try.underlying110 info45 rfl (by decide) (by omega) (.slice A' ys.length c') ys (rd_T44 l x) [.bool (rd_T44 l x).f0, .int .i64 (rd_T44 l x).f1, .int .i64 (rd_T44 l x).f2, .int .i64 (rd_T44 l x).f3, .int .i64 (rd_T44 l x).f4, .int .i64 (rd_T44 l x).f5] (fun _ => True) (fun _ => False) rfl rfl (k44_mkM _ _ _ _) (fun _ hk => hk.elim) (fun _ _ => trivial) HR.out HB.out (below_size HB.out) (by have := LY.out; omega) ?_; intro v1 w1 ho hb hg hat; have HR1 := asd ho; have HB1 := asd hb; clear ho hb hg hat))
      go_roundw
      case rel => exact ⟨x + 1, _, rfl, ⟨by omega, by omega, NXT.out⟩, HR1, HB1⟩
      case measure => simp [intOf]; omega
    · have hq : decide (x < (l.length : Int)) = false := decide_eq_false hlt
      have e : ys = l := by have h1 := HX.out; rw [List.take_of_length_le (by omega)] at h1; exact h1.2.2
      subst e
      clear hlt HX h0 h9
      have HC2 := asd (Kd.R_reads' HR.out).2.2
      by_cases hq : ys.length ≤ 6 ∧ ys.all rtC = true
      · have HQ := asd hq
        clear hq
        go_wp2_with fail
        refine (new_calls A' c' ys _ HC2.out HQ.out.1 HQ.out.2).mono ?_
        rintro e w2 ⟨g, A2, c2, rfl, hi, hb⟩
        have HI := asd hi
        have HB2 := asd (below_step HB.out hb)
        have HL := asd (below_size HB.out)
        clear hi hb
        go_wp2
        go_ret
        refine ⟨?_, HB2.out⟩
        unfold PolMade
        rw [if_pos HQ.out]
        exact ⟨g, A2, c2, rfl, HI.out.1, Nat.le_trans HL.out HI.out.2.1, Kd.R_lower HI.out.2.2 HL.out⟩
      · have HQ := asd hq
        clear hq
        go_wp2_with fail
        refine (new_none A' c' ys _ HC2.out HQ.out).mono ?_
        rintro e w2 ⟨rfl, hb⟩
        have HB2 := asd (below_step HB.out hb)
        clear hb
        go_wp2
        go_ret
        refine ⟨?_, HB2.out⟩
        unfold PolMade
        rw [if_neg HQ.out]
        rfl
end
end Go.Proofs.Ytjekfipaadbbbaa.Fn
namespace Go.Proofs.Ytjekfipaadbbbaa.Fn
open Go.RowKit Go.Proofs.YtjekfipaadbbbaaW.PrintWords Go.Proofs.YtjekfipaadbbbaaW.PrintLast Go.Proofs.YtjekfipaadbbbaaW.PrintMore
set_option linter.unusedVariables false
set_option linter.unusedSimpArgs false
def dnew9T : Bool × List (List Nat × List Nat) := (true, [([], []), ([], []), ([1], [1]), ([2], [2]), ([3], [3]), ([], []), ([], []), ([5, 6], [5, 6]), ([7], [7]), ([8], [8]), ([4, 9], [4, 9]), ([0, 0, 1, 2, 3, 4, 5, 6, 7, 8, 9, 10], [0]), ([11, 0, 1, 2, 3, 4, 5, 6, 7, 8, 9, 10], [11]), ([12, 10, 10, 0, 1, 2, 3, 4, 5, 6, 7, 8, 9, 10], [10, 12])])
def dnew9B : List Nat := [0, 0, 2, 6, 14, 0, 0, 96, 224, 480, 1022, 2047, 4095, 8191]
theorem dnew9_tab : rtab .any (opsOf Try.f15 9) = dnew9T := by kernel_rfl
theorem dnew9_bits : waitsOk dnew9T.2 dnew9B = true := by kernel_rfl
theorem cells44 {w : World} {ad : Addr} {n : Nat} {xs : List S44} (h : Kd.C k44 w (some ad) n xs) (i : Int) (h0 : 0 ≤ i) (h1 : i < n) : w.cell? (ad.add (i.toNat * 6)) = some (.bool (rd_T44 xs i).f0) ∧ w.cell? ⟨(ad.add (i.toNat * 6)).block, (ad.add (i.toNat * 6)).off + 1, none⟩ = some (.int .i64 (rd_T44 xs i).f1) ∧ w.cell? ⟨(ad.add (i.toNat * 6)).block, (ad.add (i.toNat * 6)).off + 2, none⟩ = some (.int .i64 (rd_T44 xs i).f2) ∧ w.cell? ⟨(ad.add (i.toNat * 6)).block, (ad.add (i.toNat * 6)).off + 3, none⟩ = some (.int .i64 (rd_T44 xs i).f3) ∧ w.cell? ⟨(ad.add (i.toNat * 6)).block, (ad.add (i.toNat * 6)).off + 4, none⟩ = some (.int .i64 (rd_T44 xs i).f4) ∧ w.cell? ⟨(ad.add (i.toNat * 6)).block, (ad.add (i.toNat * 6)).off + 5, none⟩ = some (.int .i64 (rd_T44 xs i).f5) := by
 obtain ⟨ad', e, r⟩ := at_T44 h i h0 h1
 obtain rfl := Option.some.inj e
 exact r
section
variable (A : Option Addr) (c : Nat) (l : List S44)
def DocMade (base : Nat) (l : List S44) (e : Ending) (w' : World) : Prop := if l.length ≤ 6 ∧ l.all rtC = true then ∃ (g : Nat) (A' : Option Addr) (c' : Nat) (B' : Option Addr) (d' : Nat), e = .returned (.pointer (some ⟨g, 0, none⟩)) ∧ IsDoc w' base g A' c' l B' d' (List.replicate l.length (-1)) false else e = .returned (.pointer none)
set_option maxHeartbeats 8000000 in
set_option maxRecDepth 100000 in
theorem dnew_calls (w : World) (h : Kd.C k44 w A l.length l) (hn : l.length ≤ 20) :
  Calls Try.prog 15 #[.slice A l.length c] w fun e w' => DocMade w.heap.size l e w' ∧ Below w.heap.size w w' := by
 have hu38 := Try.underlying38
 have hu44 := Try.underlying44
 have HC := asd h
 have HN := asd hn
 clear h
 by_cases h6 : 6 < (l.length : Int)
 ·have d6 : decide (6 < (l.length : Int)) = true := decide_eq_true h6
  have NO : Aside0 (¬ (l.length ≤ 6 ∧ l.all rtC = true)) := ⟨fun h => by omega⟩
  clear h6 hn
  go_enter Try.func15, Try.ntmps15
  go_wp2
  go_ret
  exact ⟨by unfold DocMade; rw [if_neg NO.out]; rfl, Below.refl _ _⟩
 have d6 : decide (6 < (l.length : Int)) = false := decide_eq_false h6
 have N6 : Aside0 (l.length ≤ 6) := ⟨by omega⟩
 clear h6 hn
 have BP := asd (heap_alloc_new w (.cells #[Value.slice none 0 0, .slice none 0 0, .bool false] 38))
 go_enter Try.func15, Try.ntmps15
 go_wp2
 generalize hg : w.heap.size = g at BP ⊢
 go_loopw [4] (fun v wr => ∃ (x : Int) (ys : List S44) (A' : Option Addr) (c' : Nat) (zs : List Int) (B' : Option Addr) (d' : Nat), v = .int .i64 x ∧ Aside0 (0 ≤ x ∧ x ≤ l.length ∧ ys = l.take x.toNat ∧ zs = List.replicate ys.length (-1) ∧ ys.all rtC = true) ∧ Aside0 (IsDoc wr w.heap.size g A' c' ys B' d' zs false) ∧ Aside0 (Below w.heap.size w wr)) (fun v _ => l.length - (intOf v).toNat)
 case atStart => exact ⟨0, [], none, 0, [], none, 0, rfl, ⟨by omega, by omega, rfl, rfl, rfl⟩, ⟨⟨BP.out, by omega, Kd.R_nil _ _ _ _ _, Kd.R_nil _ _ _ _ _⟩⟩, ⟨below_alloc (Below.refl _ _) _⟩⟩
 case round =>
  clear BP
  obtain ⟨x, ys, A', c', zs, B', d', rfl, HX, HI, HB⟩ := hrel
  have HX0 : 0 ≤ x := HX.out.1
  have h9 : x ≤ 1000 := by have := HX.out.2.1; have := HN.out; omega
  by_cases hlt : x < (l.length : Int)
  ·have p1 : (0 ≤ x) = True := eq_true HX0
   have q1 : (x < (l.length : Int)) = True := eq_true hlt
   have LY : Aside0 (ys.length ≤ 6) := ⟨by rw [HX.out.2.2.1, List.length_take]; have := N6.out; omega⟩
   have LZ : Aside0 (zs = List.replicate ys.length (-1)) := ⟨HX.out.2.2.2.1⟩
   have NXT : Aside0 (ys ++ [rd_T44 l x] = l.take (x + 1).toNat) := ⟨by rw [HX.out.2.2.1]; exact take_one l z44 x HX0 hlt⟩
   obtain ⟨ad, rfl, y0, y1, y2, y3, y4, y5⟩ := at_T44 (Kd.C_below HC.out HB.out) x HX0 hlt
   have HR := asd (right68 (rd_T44 l x))
   cases hr : rtC (rd_T44 l x) with
   | false =>
    rw [hr] at HR
    have NO : Aside0 (¬ (l.length ≤ 6 ∧ l.all rtC = true)) := ⟨fun h => by rw [all_no rtC l x.toNat (by omega) z44 hr] at h; exact absurd h.2 (by simp)⟩
    clear hr
    go_wp2_with (first | (go_at_call 68; refine (HR.out _).mono ?_; rintro e w3 ⟨rfl, hb⟩; have HB3 := asd (below_step HB.out hb); clear hb))
    go_ret
    exact ⟨by unfold DocMade; rw [if_neg NO.out]; rfl, HB3.out⟩
   | true =>
    rw [hr] at HR
    have ALL : Aside0 ((ys ++ [rd_T44 l x]).all rtC = true) := ⟨by rw [List.all_append, HX.out.2.2.2.2]; simp [hr]⟩
    clear hr
    have HG := asd HI.out.2.1
    go_wp2_with (first | (go_at_call 68; refine (HR.out _).mono ?_; rintro e w3 ⟨rfl, hb⟩; have HB3 := asd (below_step HB.out hb); have HI3 := asd (HI.out.below hb); clear hb))
    have BP := asd HI3.out.1
    have HO := asd HI3.out.2.2.1
    have HT := asd HI3.out.2.2.2
    have CL := asd (cells44 (Kd.C_below HC.out HB3.out) x HX0 hlt)
    have HB := HB3
    clear HI HI3 HB3
    refine start_ (n := 14) (S := fun w' => w'.cell? ⟨g, 0, none⟩ = some (.slice A' ys.length c') ∧ w'.cell? (ad.add (x.toNat * 6)) = some (.bool (rd_T44 l x).f0) ∧ w'.cell? ⟨(ad.add (x.toNat * 6)).block, (ad.add (x.toNat * 6)).off + 1, none⟩ = some (.int .i64 (rd_T44 l x).f1) ∧ w'.cell? ⟨(ad.add (x.toNat * 6)).block, (ad.add (x.toNat * 6)).off + 2, none⟩ = some (.int .i64 (rd_T44 l x).f2) ∧ w'.cell? ⟨(ad.add (x.toNat * 6)).block, (ad.add (x.toNat * 6)).off + 3, none⟩ = some (.int .i64 (rd_T44 l x).f3) ∧ w'.cell? ⟨(ad.add (x.toNat * 6)).block, (ad.add (x.toNat * 6)).off + 4, none⟩ = some (.int .i64 (rd_T44 l x).f4) ∧ w'.cell? ⟨(ad.add (x.toNat * 6)).block, (ad.add (x.toNat * 6)).off + 5, none⟩ = some (.int .i64 (rd_T44 l x).f5)) (ds := [13]) #[false, false, false, false, false, false, false, false, false, false, false, false, false, false] (by kernel_rfl) rfl rfl ⟨(blk_cell BP.out 0).trans rfl, CL.out.1, CL.out.2.1, CL.out.2.2.1, CL.out.2.2.2.1, CL.out.2.2.2.2.1, CL.out.2.2.2.2.2⟩ (fun hHeld => ?_); refine with_tabW dnew9_tab dnew9_bits (fun HT_ HW_ => ?_)
    have HB6 := asd (below_drew HB.out)
    have BP6 := asd (blk_drew BP.out)
    have HO6 := asd (Kd.R_drew HO.out)
    have HT6 := asd (Kd.R_drew HT.out)
    clear HB BP HO HT CL y0 y1 y2 y3 y4 y5
    generalize w3.drew = w25 at HB6 BP6 HO6 HT6 hHeld ⊢
    refine pure_ (i := 0) (N := (some 22)) (v := ?_) (a' := ?_) #[true, false, false, false, false, false, false, false, false, false, false, false, false, false] rfl rfl (any_of HT_.out (by kernel_rfl)) (fun _ _ _ h => h) (Or.inl ⟨by rfl, ?_⟩) ?_ ?_
    rotate_left
    ·intro w'
     go_simp
     with_reducible rfl
    rotate_left
    ·simp only [Act.put, sB, i64_w, i32_w]
     rfl
    refine pure_ (i := 1) (N := (some 23)) (v := ?_) (a' := ?_) #[true, true, false, false, false, false, false, false, false, false, false, false, false, false] rfl rfl (any_of HT_.out (by kernel_rfl)) (fun _ _ _ h => h) (Or.inl ⟨by rfl, ?_⟩) ?_ ?_
    rotate_left
    ·intro w'
     go_simp
     with_reducible rfl
    rotate_left
    ·simp only [Act.put, sB, i64_w, i32_w]
     rfl
    refine pure_ (i := 2) (N := (some 24)) (v := ?_) (a' := ?_) #[true, true, true, false, false, false, false, false, false, false, false, false, false, false] rfl rfl (any_of HT_.out (by kernel_rfl)) (fun _ _ _ h => h) (Or.inl ⟨by rfl, ?_⟩) ?_ ?_
    rotate_left
    ·intro w'
     go_simp
     with_reducible rfl
    rotate_left
    ·simp only [Act.put, sB, i64_w, i32_w]
     rfl
    refine pure_ (i := 3) (N := (some 25)) (v := ?_) (a' := ?_) #[true, true, true, true, false, false, false, false, false, false, false, false, false, false] rfl rfl (any_of HT_.out (by kernel_rfl)) (fun _ _ _ h => h) (Or.inl ⟨by rfl, ?_⟩) ?_ ?_
    rotate_left
    ·intro w'
     go_simp
     with_reducible rfl
    rotate_left
    ·simp only [Act.put, sB, i64_w, i32_w]
     rfl
    refine take_ (i := 4) (N := (some 26)) (v := ?_) (a' := ?_) #[true, true, true, true, true, false, false, false, false, false, false, false, false, false] rfl rfl (take_ofW HT_.out HW_.out (by kernel_rfl)) (fun _ _ _ h => h) (Or.inl ⟨by rfl, ?_⟩) hHeld ?_ ?_
    rotate_left
    ·rintro w' ⟨s0, s1, s2, s3, s4, s5, s6⟩
     go_simp
     with_reducible rfl
    rotate_left
    ·simp only [Act.put, sB, i64_w, i32_w]
     rfl
    refine pure_ (i := 5) (N := (some 27)) (v := ?_) (a' := ?_) #[true, true, true, true, true, true, false, false, false, false, false, false, false, false] rfl rfl (any_of HT_.out (by kernel_rfl)) (fun _ _ _ h => h) (Or.inl ⟨by rfl, ?_⟩) ?_ ?_
    rotate_left
    ·intro w'
     go_simp
     with_reducible rfl
    rotate_left
    ·simp only [Act.put, sB, i64_w, i32_w]
     rfl
    refine pure_ (i := 6) (N := (some 28)) (v := ?_) (a' := ?_) #[true, true, true, true, true, true, true, false, false, false, false, false, false, false] rfl rfl (any_of HT_.out (by kernel_rfl)) (fun _ _ _ h => h) (Or.inl ⟨by rfl, ?_⟩) ?_ ?_
    rotate_left
    ·intro w'
     go_simp
     with_reducible rfl
    rotate_left
    ·simp only [Act.put, sB, i64_w, i32_w]
     rfl
    refine pure_ (i := 7) (N := (some 29)) (v := ?_) (a' := ?_) #[true, true, true, true, true, true, true, true, false, false, false, false, false, false] rfl rfl (any_of HT_.out (by kernel_rfl)) (fun _ _ _ h => h) (Or.inl ⟨by rfl, ?_⟩) ?_ ?_
    rotate_left
    ·intro w'
     go_simp
     with_reducible rfl
    rotate_left
    ·simp only [Act.put, sB, i64_w, i32_w]
     rfl
    refine take_ (i := 8) (N := (some 30)) (v := ?_) (a' := ?_) #[true, true, true, true, true, true, true, true, true, false, false, false, false, false] rfl rfl (take_ofW HT_.out HW_.out (by kernel_rfl)) (fun _ _ _ h => h) (Or.inl ⟨by rfl, ?_⟩) hHeld ?_ ?_
    rotate_left
    ·rintro w' ⟨s0, s1, s2, s3, s4, s5, s6⟩
     go_simp
     with_reducible rfl
    rotate_left
    ·simp only [Act.put, sB, i64_w, i32_w]
     rfl
    have BP7 := asd (blk_alloc BP6.out (.cells [.bool (rd_T44 l x).f0, .int .i64 (rd_T44 l x).f1, .int .i64 (rd_T44 l x).f2, .int .i64 (rd_T44 l x).f3, .int .i64 (rd_T44 l x).f4, .int .i64 (rd_T44 l x).f5].toArray 44))
    have CL7 := asd (cells44 (Kd.C_below HC.out (below_alloc HB6.out (.cells [.bool (rd_T44 l x).f0, .int .i64 (rd_T44 l x).f1, .int .i64 (rd_T44 l x).f2, .int .i64 (rd_T44 l x).f3, .int .i64 (rd_T44 l x).f4, .int .i64 (rd_T44 l x).f5].toArray 44))) x HX0 hlt)
    refine one_ (i := 9) (N := (some 31)) #[true, true, true, true, true, true, true, true, true, true, false, false, false, false] rfl rfl (one_of HT_.out (by kernel_rfl)) (by decide) (fun K hK => ?_)
    refine value_ (w1 := ?_) (v := ?_) (by rfl) rfl ?_ ?_
    rotate_left 2
    ·go_simp
     constructor
     ·rfl
     ·rfl
    refine hK.out _ _ ⟨(blk_cell BP7.out 0).trans rfl, CL7.out.1, CL7.out.2.1, CL7.out.2.2.1, CL7.out.2.2.2.1, CL7.out.2.2.2.2.1, CL7.out.2.2.2.2.2⟩ (fun hHeld => ?_)
    clear hK K
    refine norm_ (a' := ?_) ?_ ?_
    rotate_left
    ·show Act.put _ (some 31) _ = _
     simp only [Act.put, sB, i64_w, i32_w]
     rfl
    refine one_ (i := 10) (N := (some 32)) #[true, true, true, true, true, true, true, true, true, true, true, false, false, false] rfl rfl (one_of HT_.out (by kernel_rfl)) (by decide) (fun K hK => ?_)
    refine Kd.R_append_step k44 (w0 := w) w.heap.size (by rfl) (.tmp 26) (.tmp 31) 22 44 (.agg #[.bool false, .int .i64 0, .int .i64 0, .int .i64 0, .int .i64 0, .int .i64 0]) 48 rfl Try.underlying22 info44 rfl (by decide) (by omega) (.slice A' ys.length c') ys (rd_T44 l x) [.bool (rd_T44 l x).f0, .int .i64 (rd_T44 l x).f1, .int .i64 (rd_T44 l x).f2, .int .i64 (rd_T44 l x).f3, .int .i64 (rd_T44 l x).f4, .int .i64 (rd_T44 l x).f5] (fun k => k ≠ g) (fun _ => False) rfl rfl (k44_mkM _ _ _ _) (fun _ hk => hk.elim) (fun k hk => by have := blk_lt BP6.out; omega) HO6.out HB6.out (below_size HB6.out) (by have := LY.out; omega) ?_
    intro v9 w9 ho hb hgr hat
    have BP9 := asd (blk_grown BP6.out hgr (Kd.R_ne HO6.out BP6.out (by decide)))
    have HT9 := asd (Kd.R_over HT6.out HO6.out (by decide) hgr)
    have HB9 := asd hb
    have HO9 := asd ho
    have CL9 := asd (cells44 (Kd.C_below HC.out hb) x HX0 hlt)
    clear ho hb hgr hat BP6 HT6 HB6 HO6 BP7 CL7
    obtain ⟨A9, c9, rfl⟩ := Kd.R_slice HO9.out
    refine hK.out _ _ ⟨(blk_cell BP9.out 0).trans rfl, CL9.out.1, CL9.out.2.1, CL9.out.2.2.1, CL9.out.2.2.2.1, CL9.out.2.2.2.2.1, CL9.out.2.2.2.2.2⟩ (fun hHeld => ?_)
    clear hK K
    refine norm_ (a' := ?_) ?_ ?_
    rotate_left
    ·show Act.put _ (some 32) _ = _
     simp only [Act.put, sB, i64_w, i32_w]
     rfl
    refine pure_ (i := 11) (N := (some 33)) (v := ?_) (a' := ?_) #[true, true, true, true, true, true, true, true, true, true, true, true, false, false] rfl rfl (any_of HT_.out (by kernel_rfl)) (fun _ _ _ h => h) (Or.inl ⟨by rfl, ?_⟩) ?_ ?_
    rotate_left
    ·intro w'
     go_simp
     with_reducible rfl
    rotate_left
    ·simp only [Act.put, sB, i64_w, i32_w]
     rfl
    refine pure_ (i := 12) (N := (some 34)) (v := ?_) (a' := ?_) #[true, true, true, true, true, true, true, true, true, true, true, true, true, false] rfl rfl (any_of HT_.out (by kernel_rfl)) (fun _ _ _ h => h) (Or.inl ⟨by rfl, ?_⟩) ?_ ?_
    rotate_left
    ·intro w'
     go_simp
     with_reducible rfl
    rotate_left
    ·simp only [Act.put, sB, i64_w, i32_w]
     rfl
    refine last_ (i := 13) (N := none) #[true, true, true, true, true, true, true, true, true, true, true, true, true, true] rfl rfl (one_of HT_.out (by kernel_rfl)) (by decide) (fun K hK => ?_)
    have hs28 := (blk_cell BP9.out 0).trans rfl
    have hfs28 := blk_frozen BP9.out 0
    refine skip_ (w1 := ?_) (by rfl) rfl ?_ ?_
    rotate_left
    ·go_simp
     rfl
    refine hK.out _ _ ?_
    clear hK K
    refine done_ (done_of HT_.out (by kernel_rfl)) ?_
    have BPa := asd (blk_set BP9.out 0 (.slice A9 (ys.length + 1) c9))
    have HOa := asd (Kd.R_far HO9.out (p := ⟨g, 0, none⟩) (fun k hk => hk) (.slice A9 (ys.length + 1) c9))
    have HTa := asd (Kd.R_far HT9.out (p := ⟨g, 0, none⟩) (fun k hk => hk) (.slice A9 (ys.length + 1) c9))
    have HBa := asd (HB9.out.setCell (p := ⟨g, 0, none⟩) HG.out (.slice A9 (ys.length + 1) c9))
    clear BP9 HO9 HT9 HB9 CL9 hs28 hfs28 hHeld
    generalize w9.setCell ⟨g, 0, none⟩ (.slice A9 (ys.length + 1) c9) = wa at BPa HOa HTa HBa ⊢
    have ha1 := (blk_cell BPa.out 1).trans rfl
    go_wp2_with (first | (at_builtin; refine Kd.R_append (Kd.int .i64) (w0 := w) w.heap.size rfl (.tmp 39) (.tmp 40) 36 3 (.int .i64 0) 8 rfl Try.underlying36 info3 rfl (by decide) (by omega) (.slice B' zs.length d') zs (-1) [.int .i64 (-1)] (fun k => k ≠ g) (fun _ => False) rfl rfl rfl (fun _ hk => hk.elim) (fun k hk => by have := blk_lt BPa.out; omega) HTa.out HBa.out (below_size HBa.out) (by have h2 : zs.length = ys.length := (by rw [LZ.out, List.length_replicate]); have := LY.out; omega) ?_; intro v1 w1 ho hb hgr hat; have BPb := asd (blk_grown BPa.out hgr (Kd.R_ne HTa.out BPa.out (by decide))); have HOb := asd (Kd.R_over HOa.out HTa.out (by decide) hgr); have HTb := asd ho; have HBb := asd hb; clear ho hb hgr hat ha1 BPa HOa HTa HBa; have hb1 := (blk_cell BPb.out 1).trans rfl; have hfb1 := blk_frozen BPb.out 1; obtain ⟨B9, d9, rfl⟩ := Kd.R_slice HTb.out))
    go_roundw
    case rel =>
     have BPc := blk_set BPb.out 1 (.slice B9 (zs.length + 1) d9)
     exact ⟨x + 1, ys ++ [rd_T44 l x], A9, c9, zs ++ [-1], B9, d9, rfl, ⟨by omega, by omega, NXT.out, by rw [LZ.out, List.length_append]; exact List.replicate_succ'.symm, ALL.out⟩, ⟨⟨by rw [List.length_append, List.length_append]; exact BPc, HG.out, Kd.R_far HOb.out (p := ⟨g, 1, none⟩) (fun k hk => hk) _, Kd.R_far HTb.out (p := ⟨g, 1, none⟩) (fun k hk => hk) _⟩⟩, ⟨HBb.out.setCell (p := ⟨g, 1, none⟩) HG.out _⟩⟩
    case measure => simp [intOf]; omega
  ·have hq : decide (x < (l.length : Int)) = false := decide_eq_false hlt
   have e : ys = l := by have h1 := HX.out; rw [List.take_of_length_le (by omega)] at h1; exact h1.2.2.1
   subst e
   have YES : Aside0 (ys.length ≤ 6 ∧ ys.all rtC = true) := ⟨N6.out, HX.out.2.2.2.2⟩
   have LZ : Aside0 (zs = List.replicate ys.length (-1)) := ⟨HX.out.2.2.2.1⟩
   clear hlt HX HX0 h9
   go_wp2
   go_ret
   refine ⟨?_, HB.out⟩
   unfold DocMade
   rw [if_pos YES.out]
   refine ⟨g, A', c', B', d', rfl, ?_⟩
   rw [← LZ.out]
   exact HI.out
end
end Go.Proofs.Ytjekfipaadbbbaa.Fn
namespace Go.Proofs.Ytjekfipaadbbbaa.Fn
open Go.RowKit Go.Proofs.YtjekfipaadbbbaaW.PrintWords Go.Proofs.YtjekfipaadbbbaaW.PrintLast Go.Proofs.YtjekfipaadbbbaaW.PrintMore
set_option linter.unusedVariables false
set_option linter.unusedSimpArgs false
theorem getD_lt {α : Type} (l : List α) (z : α) {n : Nat} (h : n < l.length) : l.getD n z = l[n] := by simp [List.getD, h]
def mk1 (t : S44) (y : Int) : S115 := if 0 ≤ y then stK t y true else stK t 0 false
def mkX (l : List S44) (ys : List Int) : List S115 := List.zipWith mk1 l ys
def fits (l : List S44) (ys : List Int) : Prop := ys.length = l.length ∧ ∀ y ∈ ys, -1 ≤ y ∧ y ≤ 4611686018427387904
theorem mkX_length {l : List S44} {ys : List Int} (h : fits l ys) : (mkX l ys).length = l.length := by
 unfold mkX; rw [List.length_zipWith, h.1, Nat.min_self]
theorem mkX_rd {l : List S44} {ys : List Int} (h : fits l ys) (i : Int) (h0 : 0 ≤ i) (h1 : i < l.length) : rd_T115 (mkX l ys) i = mk1 (rd_T44 l i) (rd ys i) := by
 have a1 : i.toNat < l.length := by omega
 have a2 : i.toNat < ys.length := by rw [h.1]; exact a1
 have a3 : i.toNat < (mkX l ys).length := by rw [mkX_length h]; exact a1
 unfold rd_T115 rd_T44 rd
 rw [getD_lt _ _ a1, getD_lt _ _ a2, getD_lt _ _ a3]
 simp only [mkX, List.getElem_zipWith]
theorem rd_fits {l : List S44} {ys : List Int} (h : fits l ys) (i : Int) (h0 : 0 ≤ i) (h1 : i < ys.length) : -1 ≤ rd ys i ∧ rd ys i ≤ 4611686018427387904 := by
 have a2 : i.toNat < ys.length := by omega
 unfold rd
 rw [getD_lt _ _ a2]
 exact h.2 _ (List.getElem_mem a2)
theorem fits_start (l : List S44) : fits l (List.replicate l.length (-1)) := ⟨List.length_replicate, fun y hy => by rw [List.eq_of_mem_replicate hy]; omega⟩
theorem mkX_start (l : List S44) : l.map mkK = mkX l (List.replicate l.length (-1)) := by
 unfold mkX
 induction l with
 | nil => rfl
 | cons a r ih => rw [List.map_cons, List.length_cons, List.replicate_succ, List.zipWith_cons_cons, ih]; rfl
theorem mkX_dropped {l : List S44} {ys : List Int} (h : fits l ys) (hi : Bool) (i : Int) : polDropped (mkX l ys) hi i = docDropped l hi i := by
 unfold polDropped docDropped
 rw [mkX_length h]
 by_cases hr : 0 ≤ i ∧ i < (l.length : Int)
 ·rw [if_pos hr, if_pos hr, mkX_rd h i hr.1 hr.2]
  have : (mk1 (rd_T44 l i) (rd ys i)).f0 = (rd_T44 l i).f0 := by unfold mk1; split <;> rfl
  rw [this]
 ·rw [if_neg hr, if_neg hr]
theorem mkX_may {l : List S44} {ys : List Int} (h : fits l ys) (hi : Bool) (i now : Int) : polMay (mkX l ys) hi i now = docMay l ys hi i now := by
 unfold polMay docMay
 rw [mkX_length h, mkX_dropped h]
 by_cases hr : (0 ≤ i ∧ i < (l.length : Int)) ∧ 0 ≤ now ∧ now ≤ 4611686018427387904
 ·rw [if_pos hr, if_pos hr, mkX_rd h i hr.1.1 hr.1.2]
  by_cases hd : docDropped l hi i = true
  ·rw [if_pos hd, if_pos hd]
  ·rw [if_neg hd, if_neg hd]
   unfold polSoon mk1
   by_cases hy : 0 ≤ rd ys i
   ·rw [if_pos hy]
    unfold stK
    simp [hy]
   ·rw [if_neg hy]
    unfold stK
    simp [hy]
 ·rw [if_neg hr, if_neg hr]
theorem docMay_zero {l : List S44} {ys : List Int} {hi : Bool} {i now : Int} (h : docMay l ys hi i now = 0) : (0 ≤ i ∧ i < (l.length : Int)) ∧ 0 ≤ now ∧ now ≤ 4611686018427387904 := by
 unfold docMay at h
 split at h
 ·assumption
 ·simp at h
theorem fits_take {l : List S44} {ys : List Int} (h : fits l ys) (hi : Bool) (i now : Int) : fits l (docTake l ys hi i now) := by
 unfold docTake
 split
 ·rename_i h0
  have hz := docMay_zero h0
  refine ⟨by rw [List.length_set]; exact h.1, fun y hy => ?_⟩
  rcases List.mem_or_eq_of_mem_set hy with h1 | rfl
  ·exact h.2 y h1
  ·omega
 ·exact h
theorem mkX_take {l : List S44} {ys : List Int} (h : fits l ys) (hi : Bool) (i now : Int) : polTake (mkX l ys) hi i now = mkX l (docTake l ys hi i now) := by
 unfold polTake docTake
 rw [mkX_may h]
 by_cases h0 : docMay l ys hi i now = 0
 ·rw [if_pos h0, if_pos h0]
  have hz := docMay_zero h0
  have f2 : fits l (ys.set i.toNat now) := by have := fits_take h hi i now; unfold docTake at this; rwa [if_pos h0] at this
  rw [mkX_rd h i hz.1.1 hz.1.2]
  refine List.ext_getElem (by rw [List.length_set, mkX_length h, mkX_length f2]) (fun n h1 h2 => ?_)
  simp only [mkX, List.getElem_zipWith, List.getElem_set]
  by_cases e : i.toNat = n
  ·rw [if_pos e, if_pos e]
   subst e
   have a1 : i.toNat < l.length := by omega
   have : rd_T44 l i = l[i.toNat] := by unfold rd_T44; rw [getD_lt _ _ a1]
   rw [this]
   unfold mk1
   rw [if_pos hz.2.1]
   split <;> rfl
  ·rw [if_neg e, if_neg e]
 ·rw [if_neg h0, if_neg h0]
theorem mkX_last {l : List S44} {ys : List Int} (h : fits l ys) (i : Int) : polLast (mkX l ys) i = if (0 ≤ i ∧ i < (l.length : Int)) ∧ 0 ≤ rd ys i then (rd ys i, true) else (0, false) := by
 unfold polLast
 rw [mkX_length h]
 by_cases hr : 0 ≤ i ∧ i < (l.length : Int)
 ·rw [mkX_rd h i hr.1 hr.2]
  unfold mk1
  by_cases hy : 0 ≤ rd ys i
  ·rw [if_pos hy, if_pos ⟨hr, rfl⟩, if_pos ⟨hr, hy⟩]; rfl
  ·rw [if_neg hy, if_neg (fun q => by simp [stK] at q), if_neg (fun q => hy q.2)]
 ·rw [if_neg (fun q => hr q.1), if_neg (fun q => hr q.1)]
end Go.Proofs.Ytjekfipaadbbbaa.Fn
namespace Go.Proofs.Ytjekfipaadbbbaa.Fn
open Go.RowKit Go.Proofs.YtjekfipaadbbbaaW.PrintWords Go.Proofs.YtjekfipaadbbbaaW.PrintLast Go.Proofs.YtjekfipaadbbbaaW.PrintMore
set_option linter.unusedVariables false
set_option linter.unusedSimpArgs false
def plays15T : Bool × List (List Nat × List Nat) := (true, [([], []), ([], []), ([1], [1]), ([], []), ([3], [3]), ([0, 2, 4], [0, 2, 4]), ([5, 5], [5]), ([], []), ([], []), ([8], [8]), ([], []), ([10], [10]), ([7, 9, 11, 6], [7, 9, 11]), ([6, 12], [6, 12]), ([13, 12, 0, 1, 2, 3, 4, 5, 6, 7, 8, 9, 10, 11, 12, 13], [13])])
def plays15B : List Nat := [0, 0, 2, 0, 8, 31, 63, 0, 0, 256, 0, 1024, 4095, 8191, 16383]
theorem plays15_tab : rtab .any (opsOf Try.f3 15) = plays15T := by kernel_rfl
theorem plays15_bits : waitsOk plays15T.2 plays15B = true := by kernel_rfl
def plays17T : Bool × List (List Nat × List Nat) := (true, [([], []), ([], []), ([1], [1]), ([], []), ([3], [3]), ([0, 2, 4], [0, 2, 4]), ([5, 5], [5]), ([], []), ([], []), ([8], [8]), ([], []), ([10], [10]), ([7, 9, 11, 6], [7, 9, 11]), ([6, 12], [6, 12]), ([13, 12, 0, 1, 2, 3, 4, 5, 6, 7, 8, 9, 10, 11, 12, 13], [13])])
def plays17B : List Nat := [0, 0, 2, 0, 8, 31, 63, 0, 0, 256, 0, 1024, 4095, 8191, 16383]
theorem plays17_tab : rtab .any (opsOf Try.f3 17) = plays17T := by kernel_rfl
theorem plays17_bits : waitsOk plays17T.2 plays17B = true := by kernel_rfl
structure INV (W wx : World) (N g : Nat) (A : Option Addr) (c g2 : Nat) (A2 : Option Addr) (c2 : Nat) (B2 : Option Addr) (d2 : Nat) (l : List S44) (hi : Bool) (ys : List Int) : Prop where
 pol : IsPol wx W.heap.size g A c (mkX l ys) hi
 doc : IsDoc wx N g2 A2 c2 l B2 d2 ys hi
 fit : fits l ys
 low : Below W.heap.size W wx
 sep : ∀ k, polS g A k → k < N
 mid : W.heap.size ≤ N
theorem INV.below {W wx w' : World} {N g c g2 c2 d2 : Nat} {A A2 B2 : Option Addr} {l : List S44} {hi : Bool} {ys : List Int} (h : INV W wx N g A c g2 A2 c2 B2 d2 l hi ys) (hb : Below wx.heap.size wx w') : INV W w' N g A c g2 A2 c2 B2 d2 l hi ys :=
 ⟨h.pol.below hb, h.doc.below hb, h.fit, below_step h.low hb, h.sep, h.mid⟩
theorem below_drewN1 (w : World) (n : Nat) : Below w.heap.size w (w.drewN n) := pw_below_drewN (Below.refl _ _) n
theorem put_high {W w7 : World} {N g c g2 c2 d2 : Nat} {A A2 B2 : Option Addr} {l : List S44} {hi hi' : Bool} {ys : List Int} (hp : IsPol w7 W.heap.size g A c (mkX l ys) hi') (hd : IsDoc w7 N g2 A2 c2 l B2 d2 ys hi) (hf : fits l ys) (hl : Below W.heap.size W w7) (hs : ∀ k, polS g A k → k < N) (hm : W.heap.size ≤ N) (b : Bool) (hb : hi' = b) : INV W (w7.setCell ⟨g2, 2, none⟩ (.bool b)) N g A c g2 A2 c2 B2 d2 l b ys := by
 subst hb
 have hn : N ≤ g2 := hd.2.1
 exact ⟨hp.chg ((Chg.refl (fun k => k = g2) _).set_ (.inl rfl) _) (fun k hk e => by have := hs k hk; omega), ⟨blk_set hd.1 2 _, hn, Kd.R_far hd.2.2.1 (p := ⟨g2, 2, none⟩) (fun k hk => hk) _, Kd.R_far hd.2.2.2 (p := ⟨g2, 2, none⟩) (fun k hk => hk) _⟩, hf, hl.setCell (by show W.heap.size ≤ g2; omega) _, hs, hm⟩
theorem inv_dropped {W wx : World} {N g c g2 c2 d2 : Nat} {A A2 B2 : Option Addr} {l : List S44} {hi : Bool} {ys : List Int} (h : INV W wx N g A c g2 A2 c2 B2 d2 l hi ys) (i : Int) :
  Calls Try.prog 23 #[.pointer (some ⟨g, 0, none⟩), .int .i64 i] wx fun e w' => e = .returned (.bool (docDropped l hi i)) ∧ wx = w' := by
 rw [← mkX_dropped h.fit]
 exact dropped_calls _ _ _ _ _ _ i _ h.pol
theorem quiet_lf {P : Program} {f : FuncId} {args : Array Value} {w : World} {n : Nat} {v : Value}
  (h : Calls P f args (w.drewN n) fun e w' => e = .returned v ∧ w.drewN n = w') : Calls P f args (w.drewN n) fun e w'' => e = .returned v ∧ ∃ m, w'' = w.drewN m :=
 h.mono fun _ _ ⟨he, hm⟩ => ⟨he, n, hm.symm⟩
def PMid (W : World) (N g : Nat) (A : Option Addr) (c g2 : Nat) (A2 : Option Addr) (c2 : Nat) (B2 : Option Addr) (d2 : Nat) (l : List S44) (gx : Nat) (x : S134) (wx : World) : Prop :=
 ∃ hi ys, INV W wx N g A c g2 A2 c2 B2 d2 l hi ys ∧ wx.heap[gx]? = some (.cells #[.int .i64 x.f0, .int .i64 x.f1, .int .i64 x.f2] 30 (0, 0))
section
variable (A : Option Addr) (c : Nat) (l : List S44) (B : Option Addr) (d : Nat) (la : List S134)
set_option maxHeartbeats 4000000 in
set_option maxRecDepth 100000 in
theorem plays_dark (w : World) (hn : ¬ (l.length ≤ 20 ∧ la.length ≤ 150)) :
  Calls Try.prog 3 #[.slice A l.length c, .slice B la.length d] w fun e w' => e = .returned (.bool true) ∧ Below w.heap.size w w' := by
 by_cases h1 : 20 < (l.length : Int)
 ·have d1 : decide (20 < (l.length : Int)) = true := decide_eq_true h1
  clear hn h1
  go_enter Try.func3, Try.ntmps3
  go_wp2_with (first | (go_at_call 13; refine (knows_calls _).mono ?_; rintro e w7 ⟨rfl, hb⟩; have HB2 := asd hb; clear hb))
  go_ret
  exact ⟨rfl, HB2.out⟩
 ·have d1 : decide (20 < (l.length : Int)) = false := decide_eq_false h1
  have d2 : decide (150 < (la.length : Int)) = true := decide_eq_true (by omega)
  clear hn h1
  go_enter Try.func3, Try.ntmps3
  go_wp2_with (first | (go_at_call 13; refine (knows_calls _).mono ?_; rintro e w7 ⟨rfl, hb⟩; have HB2 := asd hb; clear hb))
  go_ret
  exact ⟨rfl, HB2.out⟩
set_option maxHeartbeats 16000000 in
set_option maxRecDepth 100000 in
theorem plays_none (w : World) (h : Kd.C k44 w A l.length l) (hn : l.length ≤ 20) (hm : la.length ≤ 150) (hp : ¬ (l.length ≤ 6 ∧ l.all rtC = true)) :
  Calls Try.prog 3 #[.slice A l.length c, .slice B la.length d] w fun e w' => e = .returned (.bool true) ∧ Below w.heap.size w w' := by
 have HC := asd h
 have HN := asd hn
 have HP := asd hp
 have d1 : decide (20 < (l.length : Int)) = false := decide_eq_false (by omega)
 have d2 : decide (150 < (la.length : Int)) = false := decide_eq_false (by omega)
 clear h hn hp hm
 go_enter Try.func3, Try.ntmps3
 go_wp2_with fail
 refine (knows_calls _).mono ?_
 rintro e w1 ⟨rfl, hb⟩
 have HB1 := asd hb
 have OWN := asd (own_calls A c l w1 (Kd.C_below HC.out hb) HN.out)
 clear hb
 go_wp2_with fail
 refine OWN.out.mono ?_
 rintro e w2 ⟨hp, hb⟩
 unfold PolMade at hp
 rw [if_neg HP.out] at hp
 subst hp
 have HB2 := asd (below_step HB1.out hb)
 have NEW := asd (dnew_calls A c l w2 (Kd.C_below HC.out HB2.out) HN.out)
 clear hb
 go_wp2_with fail
 refine NEW.out.mono ?_
 rintro e w3 ⟨hp, hb⟩
 unfold DocMade at hp
 rw [if_neg HP.out] at hp
 subst hp
 have HB3 := asd (below_step HB2.out hb)
 clear hb
 go_wp2
 go_loopw [7] (fun v7 wr => v7 = .int .i64 0 ∧ Aside0 (Below w.heap.size w wr)) (fun _ _ => 0)
 case atStart => exact ⟨rfl, HB3⟩
 case round =>
  obtain ⟨rfl, HB⟩ := hrel
  go_wp2
  all_goals (go_ret; exact ⟨rfl, HB.out⟩)
end
end Go.Proofs.Ytjekfipaadbbbaa.Fn
namespace Go.Proofs.Ytjekfipaadbbbaa.Fn
open Go.RowKit Go.Proofs.YtjekfipaadbbbaaW.PrintWords Go.Proofs.YtjekfipaadbbbaaW.PrintLast Go.Proofs.YtjekfipaadbbbaaW.PrintMore
set_option linter.unusedVariables false
set_option linter.unusedSimpArgs false
section
variable (A : Option Addr) (c : Nat) (l : List S44) (B : Option Addr) (d : Nat) (la : List S134)
set_option maxHeartbeats 32000000 in
set_option maxRecDepth 100000 in
theorem plays_light (w : World) (h : Kd.C k44 w A l.length l) (ha : Kd.C k134 w B la.length la) (hn : l.length ≤ 20) (hm : la.length ≤ 150) (hp : l.length ≤ 6 ∧ l.all rtC = true) :
  Calls Try.prog 3 #[.slice A l.length c, .slice B la.length d] w fun e w' => e = .returned (.bool true) ∧ Below w.heap.size w w' := by
 have hu30 := Try.underlying30
 have hu38 := Try.underlying38
 have HC := asd h
 have HA := asd ha
 have HN := asd hn
 have HM := asd hm
 have HP := asd hp
 have d1 : decide (20 < (l.length : Int)) = false := decide_eq_false (by omega)
 have d2 : decide (150 < (la.length : Int)) = false := decide_eq_false (by omega)
 clear h ha hn hp hm
 go_enter Try.func3, Try.ntmps3
 go_wp2_with fail
 refine (knows_calls _).mono ?_
 rintro e w1 ⟨rfl, hb⟩
 have HB1 := asd hb
 have OWN := asd (own_calls A c l w1 (Kd.C_below HC.out hb) HN.out)
 clear hb
 go_wp2_with fail
 refine OWN.out.mono ?_
 rintro e w2 ⟨hp, hb⟩
 unfold PolMade at hp
 rw [if_pos HP.out] at hp
 obtain ⟨g, A1, c1, rfl, hi1⟩ := hp
 have HB2 := asd (below_step HB1.out hb)
 have HI1 : Aside0 (IsPol w2 w.heap.size g A1 c1 (mkX l (List.replicate l.length (-1))) false) := ⟨⟨by have h2 := hi1.1; rw [mkX_start] at h2; exact h2, Nat.le_trans (below_size HB1.out) hi1.2.1, by have h2 := Kd.R_lower hi1.2.2 (below_size HB1.out); rw [mkX_start] at h2; exact h2⟩⟩
 have NEW := asd (dnew_calls A c l w2 (Kd.C_below HC.out HB2.out) HN.out)
 clear hb hi1
 go_wp2_with fail
 refine NEW.out.mono ?_
 rintro e w3 ⟨hp, hb⟩
 unfold DocMade at hp
 rw [if_pos HP.out] at hp
 obtain ⟨g2, A2, c2, B2, d2, rfl, hi2⟩ := hp
 have HI3 : Aside0 (INV w w3 w2.heap.size g A1 c1 g2 A2 c2 B2 d2 l false (List.replicate l.length (-1))) := ⟨⟨HI1.out.below hb, hi2, fits_start l, below_step HB2.out hb, fun k hk => (HI1.out.tight k hk).2, below_size HB2.out⟩⟩
 generalize w2.heap.size = N at HI3
 clear hb hi2 HI1 NEW OWN HB1 HB2
 go_wp2
 go_loopw [7] (fun v7 wr => ∃ (i : Int) (hi : Bool) (ys : List Int), v7 = .int .i64 i ∧ Aside0 (0 ≤ i ∧ i ≤ la.length) ∧ Aside0 (INV w wr N g A1 c1 g2 A2 c2 B2 d2 l hi ys)) (fun v _ => la.length - (intOf v).toNat)
 case atStart => exact ⟨0, false, _, rfl, ⟨by omega, by omega⟩, HI3⟩
 case round =>
  clear HI3
  obtain ⟨i, hi, ys, rfl, HX, HI⟩ := hrel
  have h0 : 0 ≤ i := HX.out.1
  have h9 : i ≤ 1000 := by have := HX.out.2; have := HM.out; omega
  by_cases hlt : i < (la.length : Int)
  case neg =>
   have hq : decide (i < (la.length : Int)) = false := decide_eq_false hlt
   clear hlt HX h0 h9
   go_wp2
   go_ret
   exact ⟨rfl, HI.out.low⟩
  have p1 : (0 ≤ i) = True := eq_true h0
  have q1 : (i < (la.length : Int)) = True := eq_true hlt
  obtain ⟨ad, rfl, y0, y1, y2⟩ := at_T134 (Kd.C_below HA.out HI.out.low) i h0 hlt
  generalize rd_T134 la i = x at y0 y1 y2
  have BX := asd (heap_alloc_new wr (.cells #[.int .i64 x.f0, .int .i64 x.f1, .int .i64 x.f2] 30))
  have HI2 := asd (HI.out.below (below_alloc (Below.refl _ _) (.cells #[.int .i64 x.f0, .int .i64 x.f1, .int .i64 x.f2] 30)))
  have LT := asd (show N ≤ wr.heap.size from Nat.le_of_lt (Nat.lt_of_le_of_lt HI.out.doc.2.1 (blk_lt HI.out.doc.1)))
  have DX : Aside0 (∀ a, B2 = some a → a.block ≠ wr.heap.size) := ⟨fun a e => by have := Kd.R_lt HI.out.doc.2.2.2 a.block (by rw [e]; simp [Value.ownBlock]); omega⟩
  have DG : Aside0 (g2 ≠ wr.heap.size) := ⟨by have := blk_lt HI.out.doc.1; omega⟩
  have HI := HI2
  clear HI2
  go_upto_block 2 with (fail)
  generalize wr.alloc (.cells #[.int .i64 x.f0, .int .i64 x.f1, .int .i64 x.f2] 30) = wy at HI BX ⊢
  generalize wr.heap.size = gx at BX LT DX DG ⊢
  go_cut [9] (fun v9 wx => v9 = .bool true ∧ PMid w N g A1 c1 g2 A2 c2 B2 d2 l gx x wx)
  case first =>
   have hx0 := (blk_cell BX.out 0).trans rfl
   have hx1 := (blk_cell BX.out 1).trans rfl
   have hx2 := (blk_cell BX.out 2).trans rfl
   by_cases k0 : x.f0 = 0 ∨ x.f0 = 1
   ·by_cases k1 : x.f0 = 0
    ·have e0 : (x.f0 == 0) = true := by simp [k1]
     have e1 : decide (x.f0 = 0) = true := decide_eq_true k1
     clear k0 k1
     go_wp2
     refine start_ (n := 15) (S := fun w' => w'.cell? ⟨gx, 1, none⟩ = some (.int .i64 x.f1) ∧ w'.cell? ⟨gx, 2, none⟩ = some (.int .i64 x.f2)) (ds := []) #[false, false, false, false, false, false, false, false, false, false, false, false, false, false, false] (by kernel_rfl) rfl rfl ⟨(blk_cell BX.out 1).trans rfl, (blk_cell BX.out 2).trans rfl⟩ (fun hHeld => ?_); refine with_tabW plays15_tab plays15_bits (fun HT_ HW_ => ?_)
     have HI6 := asd (HI.out.below (below_drew1 (Below.refl _ _)))
     have BX6 := asd (blk_drew BX.out)
     clear HI BX hx0 hx1 hx2
     generalize wy.drew = w25 at HI6 BX6 hHeld ⊢
     refine pure_ (i := 0) (N := (some 55)) (v := ?_) (a' := ?_) #[true, false, false, false, false, false, false, false, false, false, false, false, false, false, false] rfl rfl (any_of HT_.out (by kernel_rfl)) (fun _ _ _ h => h) (Or.inl ⟨by rfl, ?_⟩) ?_ ?_
     rotate_left
     ·intro w'
      go_simp
      with_reducible rfl
     rotate_left
     ·simp only [Act.put, sB, i64_w, i32_w]
      rfl
     refine pure_ (i := 1) (N := (some 56)) (v := ?_) (a' := ?_) #[true, true, false, false, false, false, false, false, false, false, false, false, false, false, false] rfl rfl (any_of HT_.out (by kernel_rfl)) (fun _ _ _ h => h) (Or.inl ⟨by rfl, ?_⟩) ?_ ?_
     rotate_left
     ·intro w'
      go_simp
      with_reducible rfl
     rotate_left
     ·simp only [Act.put, sB, i64_w, i32_w]
      rfl
     refine take_ (i := 2) (N := (some 57)) (v := ?_) (a' := ?_) #[true, true, true, false, false, false, false, false, false, false, false, false, false, false, false] rfl rfl (take_ofW HT_.out HW_.out (by kernel_rfl)) (fun _ _ _ h => h) (Or.inl ⟨by rfl, ?_⟩) hHeld ?_ ?_
     rotate_left
     ·rintro w' ⟨s0, s1⟩
      go_simp
      with_reducible rfl
     rotate_left
     ·simp only [Act.put, sB, i64_w, i32_w]
      rfl
     refine pure_ (i := 3) (N := (some 58)) (v := ?_) (a' := ?_) #[true, true, true, true, false, false, false, false, false, false, false, false, false, false, false] rfl rfl (any_of HT_.out (by kernel_rfl)) (fun _ _ _ h => h) (Or.inl ⟨by rfl, ?_⟩) ?_ ?_
     rotate_left
     ·intro w'
      go_simp
      with_reducible rfl
     rotate_left
     ·simp only [Act.put, sB, i64_w, i32_w]
      rfl
     refine take_ (i := 4) (N := (some 59)) (v := ?_) (a' := ?_) #[true, true, true, true, true, false, false, false, false, false, false, false, false, false, false] rfl rfl (take_ofW HT_.out HW_.out (by kernel_rfl)) (fun _ _ _ h => h) (Or.inl ⟨by rfl, ?_⟩) hHeld ?_ ?_
     rotate_left
     ·rintro w' ⟨s0, s1⟩
      go_simp
      with_reducible rfl
     rotate_left
     ·simp only [Act.put, sB, i64_w, i32_w]
      rfl
     refine pure_ (i := 7) (N := (some 62)) (v := ?_) (a' := ?_) #[true, true, true, true, true, false, false, true, false, false, false, false, false, false, false] rfl rfl (any_of HT_.out (by kernel_rfl)) (fun _ _ _ h => h) (Or.inl ⟨by rfl, ?_⟩) ?_ ?_
     rotate_left
     ·intro w'
      go_simp
      with_reducible rfl
     rotate_left
     ·simp only [Act.put, sB, i64_w, i32_w]
      rfl
     refine pure_ (i := 8) (N := (some 63)) (v := ?_) (a' := ?_) #[true, true, true, true, true, false, false, true, true, false, false, false, false, false, false] rfl rfl (any_of HT_.out (by kernel_rfl)) (fun _ _ _ h => h) (Or.inl ⟨by rfl, ?_⟩) ?_ ?_
     rotate_left
     ·intro w'
      go_simp
      with_reducible rfl
     rotate_left
     ·simp only [Act.put, sB, i64_w, i32_w]
      rfl
     refine take_ (i := 9) (N := (some 64)) (v := ?_) (a' := ?_) #[true, true, true, true, true, false, false, true, true, true, false, false, false, false, false] rfl rfl (take_ofW HT_.out HW_.out (by kernel_rfl)) (fun _ _ _ h => h) (Or.inl ⟨by rfl, ?_⟩) hHeld ?_ ?_
     rotate_left
     ·rintro w' ⟨s0, s1⟩
      go_simp
      with_reducible rfl
     rotate_left
     ·simp only [Act.put, sB, i64_w, i32_w]
      rfl
     refine pure_ (i := 10) (N := (some 65)) (v := ?_) (a' := ?_) #[true, true, true, true, true, false, false, true, true, true, true, false, false, false, false] rfl rfl (any_of HT_.out (by kernel_rfl)) (fun _ _ _ h => h) (Or.inl ⟨by rfl, ?_⟩) ?_ ?_
     rotate_left
     ·intro w'
      go_simp
      with_reducible rfl
     rotate_left
     ·simp only [Act.put, sB, i64_w, i32_w]
      rfl
     refine take_ (i := 11) (N := (some 66)) (v := ?_) (a' := ?_) #[true, true, true, true, true, false, false, true, true, true, true, true, false, false, false] rfl rfl (take_ofW HT_.out HW_.out (by kernel_rfl)) (fun _ _ _ h => h) (Or.inl ⟨by rfl, ?_⟩) hHeld ?_ ?_
     rotate_left
     ·rintro w' ⟨s0, s1⟩
      go_simp
      with_reducible rfl
     rotate_left
     ·simp only [Act.put, sB, i64_w, i32_w]
      rfl
     refine one_ (i := 5) (N := (some 60)) #[true, true, true, true, true, true, false, true, true, true, true, true, false, false, false] rfl rfl (one_of HT_.out (by kernel_rfl)) (by decide) (fun K hK => ?_)
     refine goes_ Try.func17 (by kernel_rfl) rfl #[.pointer (some ⟨g, 0, none⟩), .int .i64 x.f1, .int .i64 x.f2] (by rfl) rfl rfl (by simp [Act.eval]) ?_
     refine (take_chg _ _ _ _ _ _ x.f1 x.f2 _ HI6.out.pol).mono ?_
     rintro e w6 ⟨rfl, hp, hc⟩
     rw [mkX_may HI6.out.fit]
     rw [mkX_take HI6.out.fit] at hp
     have HP7 := asd hp
     have HD7 := asd (HI6.out.doc.chg hc HI6.out.sep)
     have BX7 := asd (blk_chg BX6.out hc (fun hs => by have := HI6.out.sep _ hs; have := LT.out; omega))
     have HL7 := asd (HI6.out.low.trans (hc.to_below (fun k hk => (HI6.out.pol.tight k hk).1) (below_size HI6.out.low)))
     clear hp hc
     refine ⟨_, rfl, ?_⟩
     refine hK.out _ _ ⟨(blk_cell BX7.out 1).trans rfl, (blk_cell BX7.out 2).trans rfl⟩ (fun hHeld => ?_)
     clear hK K
     refine norm_ (a' := ?_) ?_ ?_
     rotate_left
     ·show Act.put _ (some 60) _ = _
      simp only [Act.put, sB, i64_w, i32_w]
      rfl
     refine one_ (i := 6) (N := (some 61)) #[true, true, true, true, true, true, true, true, true, true, true, true, false, false, false] rfl rfl (one_of HT_.out (by kernel_rfl)) (by decide) (fun K hK => ?_)
     refine goes_ Try.func16 (by kernel_rfl) rfl #[.int .i64 (docMay l ys hi x.f1 x.f2)] (by rfl) rfl rfl (by simp [Act.eval]) ?_
     refine (num_calls _ _).mono ?_
     rintro e w17 ⟨rfl, rfl⟩
     refine ⟨_, rfl, ?_⟩
     refine hK.out _ _ ⟨(blk_cell BX7.out 1).trans rfl, (blk_cell BX7.out 2).trans rfl⟩ (fun hHeld => ?_)
     clear hK K
     refine norm_ (a' := ?_) ?_ ?_
     rotate_left
     ·show Act.put _ (some 61) _ = _
      simp only [Act.put, sB, i64_w, i32_w]
      rfl
     refine one_ (i := 12) (N := (some 67)) #[true, true, true, true, true, true, true, true, true, true, true, true, true, false, false] rfl rfl (one_of HT_.out (by kernel_rfl)) (by decide) (fun K hK => ?_)
     refine goes_ Try.func18 (by kernel_rfl) rfl #[.pointer (some ⟨g2, 0, none⟩), .int .i64 x.f1, .int .i64 x.f2] (by rfl) rfl rfl (by simp [Act.eval]) ?_
     refine (dtake_calls _ _ _ _ _ _ _ _ _ x.f1 x.f2 _ HD7.out HI6.out.fit.1 (rd_fits HI6.out.fit _)).mono ?_
     rintro e w8 ⟨rfl, hd, hb, hc⟩
     have SEP := asd HI6.out.sep
     have BX8 := asd (blk_chg BX7.out hc (fun hs => by obtain ⟨a, ha, hk⟩ := hs; exact DX.out a ha hk.symm))
     have HI8 : Aside0 (INV w w8 N g A1 c1 g2 A2 c2 B2 d2 l hi (docTake l ys hi x.f1 x.f2)) := ⟨⟨HP7.out.chg (Chg.of_belowB hb) (fun k hk h2 => by have := SEP.out k hk; omega), hd, fits_take HI6.out.fit _ _ _, HL7.out.trans (hb.mono HI6.out.mid), HI6.out.sep, HI6.out.mid⟩⟩
     clear hd hb hc HI6 HP7 HD7 BX7 HL7
     refine ⟨_, rfl, ?_⟩
     refine hK.out _ _ ⟨(blk_cell BX8.out 1).trans rfl, (blk_cell BX8.out 2).trans rfl⟩ (fun hHeld => ?_)
     clear hK K
     refine norm_ (a' := ?_) ?_ ?_
     rotate_left
     ·show Act.put _ (some 67) _ = _
      simp only [Act.put, sB, i64_w, i32_w]
      rfl
     refine pure_ (i := 13) (N := (some 68)) (v := ?_) (a' := ?_) #[true, true, true, true, true, true, true, true, true, true, true, true, true, true, false] rfl rfl (any_of HT_.out (by kernel_rfl)) (fun _ _ _ h => h) (Or.inl ⟨by rfl, ?_⟩) ?_ ?_
     rotate_left
     ·intro w'
      go_simp
      with_reducible rfl
     rotate_left
     ·simp only [Act.put, sB, i64_w, i32_w]
      rfl
     refine pure_ (i := 14) (N := (some 9)) (v := ?_) (a' := ?_) #[true, true, true, true, true, true, true, true, true, true, true, true, true, true, true] rfl rfl (any_of HT_.out (by kernel_rfl)) (fun _ _ _ h => h) (Or.inl ⟨by rfl, ?_⟩) ?_ ?_
     rotate_left
     ·intro w'
      go_simp
      with_reducible rfl
     rotate_left
     ·simp only [Act.put, sB, i64_w, i32_w]
      rfl
     refine done_ (done_of HT_.out (by kernel_rfl)) ?_
     try go_wp2
     go_meet
     exact ⟨rfl, hi, _, HI8.out, BX8.out⟩
    ·have e0 : (x.f0 == 0) = false := by simp [k1]
     have e1 : decide (x.f0 = 0) = false := decide_eq_false k1
     have k2 : x.f0 = 1 := k0.resolve_left k1
     have e2 : (x.f0 == 1) = true := by simp [k2]
     have e3 : decide (x.f0 = 1) = true := decide_eq_true k2
     clear k0 k1 k2
     go_wp2
     refine start_ (n := 15) (S := fun w' => w'.cell? ⟨gx, 1, none⟩ = some (.int .i64 x.f1) ∧ w'.cell? ⟨gx, 2, none⟩ = some (.int .i64 x.f2)) (ds := []) #[false, false, false, false, false, false, false, false, false, false, false, false, false, false, false] (by kernel_rfl) rfl rfl ⟨(blk_cell BX.out 1).trans rfl, (blk_cell BX.out 2).trans rfl⟩ (fun hHeld => ?_); refine with_tabW plays15_tab plays15_bits (fun HT_ HW_ => ?_)
     have HI6 := asd (HI.out.below (below_drew1 (Below.refl _ _)))
     have BX6 := asd (blk_drew BX.out)
     clear HI BX hx0 hx1 hx2
     generalize wy.drew = w25 at HI6 BX6 hHeld ⊢
     refine pure_ (i := 0) (N := (some 55)) (v := ?_) (a' := ?_) #[true, false, false, false, false, false, false, false, false, false, false, false, false, false, false] rfl rfl (any_of HT_.out (by kernel_rfl)) (fun _ _ _ h => h) (Or.inl ⟨by rfl, ?_⟩) ?_ ?_
     rotate_left
     ·intro w'
      go_simp
      with_reducible rfl
     rotate_left
     ·simp only [Act.put, sB, i64_w, i32_w]
      rfl
     refine pure_ (i := 1) (N := (some 56)) (v := ?_) (a' := ?_) #[true, true, false, false, false, false, false, false, false, false, false, false, false, false, false] rfl rfl (any_of HT_.out (by kernel_rfl)) (fun _ _ _ h => h) (Or.inl ⟨by rfl, ?_⟩) ?_ ?_
     rotate_left
     ·intro w'
      go_simp
      with_reducible rfl
     rotate_left
     ·simp only [Act.put, sB, i64_w, i32_w]
      rfl
     refine take_ (i := 2) (N := (some 57)) (v := ?_) (a' := ?_) #[true, true, true, false, false, false, false, false, false, false, false, false, false, false, false] rfl rfl (take_ofW HT_.out HW_.out (by kernel_rfl)) (fun _ _ _ h => h) (Or.inl ⟨by rfl, ?_⟩) hHeld ?_ ?_
     rotate_left
     ·rintro w' ⟨s0, s1⟩
      go_simp
      with_reducible rfl
     rotate_left
     ·simp only [Act.put, sB, i64_w, i32_w]
      rfl
     refine pure_ (i := 3) (N := (some 58)) (v := ?_) (a' := ?_) #[true, true, true, true, false, false, false, false, false, false, false, false, false, false, false] rfl rfl (any_of HT_.out (by kernel_rfl)) (fun _ _ _ h => h) (Or.inl ⟨by rfl, ?_⟩) ?_ ?_
     rotate_left
     ·intro w'
      go_simp
      with_reducible rfl
     rotate_left
     ·simp only [Act.put, sB, i64_w, i32_w]
      rfl
     refine take_ (i := 4) (N := (some 59)) (v := ?_) (a' := ?_) #[true, true, true, true, true, false, false, false, false, false, false, false, false, false, false] rfl rfl (take_ofW HT_.out HW_.out (by kernel_rfl)) (fun _ _ _ h => h) (Or.inl ⟨by rfl, ?_⟩) hHeld ?_ ?_
     rotate_left
     ·rintro w' ⟨s0, s1⟩
      go_simp
      with_reducible rfl
     rotate_left
     ·simp only [Act.put, sB, i64_w, i32_w]
      rfl
     refine pure_ (i := 7) (N := (some 62)) (v := ?_) (a' := ?_) #[true, true, true, true, true, false, false, true, false, false, false, false, false, false, false] rfl rfl (any_of HT_.out (by kernel_rfl)) (fun _ _ _ h => h) (Or.inl ⟨by rfl, ?_⟩) ?_ ?_
     rotate_left
     ·intro w'
      go_simp
      with_reducible rfl
     rotate_left
     ·simp only [Act.put, sB, i64_w, i32_w]
      rfl
     refine pure_ (i := 8) (N := (some 63)) (v := ?_) (a' := ?_) #[true, true, true, true, true, false, false, true, true, false, false, false, false, false, false] rfl rfl (any_of HT_.out (by kernel_rfl)) (fun _ _ _ h => h) (Or.inl ⟨by rfl, ?_⟩) ?_ ?_
     rotate_left
     ·intro w'
      go_simp
      with_reducible rfl
     rotate_left
     ·simp only [Act.put, sB, i64_w, i32_w]
      rfl
     refine take_ (i := 9) (N := (some 64)) (v := ?_) (a' := ?_) #[true, true, true, true, true, false, false, true, true, true, false, false, false, false, false] rfl rfl (take_ofW HT_.out HW_.out (by kernel_rfl)) (fun _ _ _ h => h) (Or.inl ⟨by rfl, ?_⟩) hHeld ?_ ?_
     rotate_left
     ·rintro w' ⟨s0, s1⟩
      go_simp
      with_reducible rfl
     rotate_left
     ·simp only [Act.put, sB, i64_w, i32_w]
      rfl
     refine pure_ (i := 10) (N := (some 65)) (v := ?_) (a' := ?_) #[true, true, true, true, true, false, false, true, true, true, true, false, false, false, false] rfl rfl (any_of HT_.out (by kernel_rfl)) (fun _ _ _ h => h) (Or.inl ⟨by rfl, ?_⟩) ?_ ?_
     rotate_left
     ·intro w'
      go_simp
      with_reducible rfl
     rotate_left
     ·simp only [Act.put, sB, i64_w, i32_w]
      rfl
     refine take_ (i := 11) (N := (some 66)) (v := ?_) (a' := ?_) #[true, true, true, true, true, false, false, true, true, true, true, true, false, false, false] rfl rfl (take_ofW HT_.out HW_.out (by kernel_rfl)) (fun _ _ _ h => h) (Or.inl ⟨by rfl, ?_⟩) hHeld ?_ ?_
     rotate_left
     ·rintro w' ⟨s0, s1⟩
      go_simp
      with_reducible rfl
     rotate_left
     ·simp only [Act.put, sB, i64_w, i32_w]
      rfl
     refine one_ (i := 5) (N := (some 60)) #[true, true, true, true, true, true, false, true, true, true, true, true, false, false, false] rfl rfl (one_of HT_.out (by kernel_rfl)) (by decide) (fun K hK => ?_)
     refine goes_ Try.func17 (by kernel_rfl) rfl #[.pointer (some ⟨g, 0, none⟩), .int .i64 x.f1, .int .i64 x.f2] (by rfl) rfl rfl (by simp [Act.eval]) ?_
     refine (take_chg _ _ _ _ _ _ x.f1 x.f2 _ HI6.out.pol).mono ?_
     rintro e w6 ⟨rfl, hp, hc⟩
     rw [mkX_may HI6.out.fit]
     rw [mkX_take HI6.out.fit] at hp
     have HP7 := asd hp
     have HD7 := asd (HI6.out.doc.chg hc HI6.out.sep)
     have BX7 := asd (blk_chg BX6.out hc (fun hs => by have := HI6.out.sep _ hs; have := LT.out; omega))
     have HL7 := asd (HI6.out.low.trans (hc.to_below (fun k hk => (HI6.out.pol.tight k hk).1) (below_size HI6.out.low)))
     clear hp hc
     refine ⟨_, rfl, ?_⟩
     refine hK.out _ _ ⟨(blk_cell BX7.out 1).trans rfl, (blk_cell BX7.out 2).trans rfl⟩ (fun hHeld => ?_)
     clear hK K
     refine norm_ (a' := ?_) ?_ ?_
     rotate_left
     ·show Act.put _ (some 60) _ = _
      simp only [Act.put, sB, i64_w, i32_w]
      rfl
     refine one_ (i := 6) (N := (some 61)) #[true, true, true, true, true, true, true, true, true, true, true, true, false, false, false] rfl rfl (one_of HT_.out (by kernel_rfl)) (by decide) (fun K hK => ?_)
     refine goes_ Try.func16 (by kernel_rfl) rfl #[.int .i64 (docMay l ys hi x.f1 x.f2)] (by rfl) rfl rfl (by simp [Act.eval]) ?_
     refine (num_calls _ _).mono ?_
     rintro e w17 ⟨rfl, rfl⟩
     refine ⟨_, rfl, ?_⟩
     refine hK.out _ _ ⟨(blk_cell BX7.out 1).trans rfl, (blk_cell BX7.out 2).trans rfl⟩ (fun hHeld => ?_)
     clear hK K
     refine norm_ (a' := ?_) ?_ ?_
     rotate_left
     ·show Act.put _ (some 61) _ = _
      simp only [Act.put, sB, i64_w, i32_w]
      rfl
     refine one_ (i := 12) (N := (some 67)) #[true, true, true, true, true, true, true, true, true, true, true, true, true, false, false] rfl rfl (one_of HT_.out (by kernel_rfl)) (by decide) (fun K hK => ?_)
     refine goes_ Try.func18 (by kernel_rfl) rfl #[.pointer (some ⟨g2, 0, none⟩), .int .i64 x.f1, .int .i64 x.f2] (by rfl) rfl rfl (by simp [Act.eval]) ?_
     refine (dtake_calls _ _ _ _ _ _ _ _ _ x.f1 x.f2 _ HD7.out HI6.out.fit.1 (rd_fits HI6.out.fit _)).mono ?_
     rintro e w8 ⟨rfl, hd, hb, hc⟩
     have SEP := asd HI6.out.sep
     have BX8 := asd (blk_chg BX7.out hc (fun hs => by obtain ⟨a, ha, hk⟩ := hs; exact DX.out a ha hk.symm))
     have HI8 : Aside0 (INV w w8 N g A1 c1 g2 A2 c2 B2 d2 l hi (docTake l ys hi x.f1 x.f2)) := ⟨⟨HP7.out.chg (Chg.of_belowB hb) (fun k hk h2 => by have := SEP.out k hk; omega), hd, fits_take HI6.out.fit _ _ _, HL7.out.trans (hb.mono HI6.out.mid), HI6.out.sep, HI6.out.mid⟩⟩
     clear hd hb hc HI6 HP7 HD7 BX7 HL7
     refine ⟨_, rfl, ?_⟩
     refine hK.out _ _ ⟨(blk_cell BX8.out 1).trans rfl, (blk_cell BX8.out 2).trans rfl⟩ (fun hHeld => ?_)
     clear hK K
     refine norm_ (a' := ?_) ?_ ?_
     rotate_left
     ·show Act.put _ (some 67) _ = _
      simp only [Act.put, sB, i64_w, i32_w]
      rfl
     refine pure_ (i := 13) (N := (some 68)) (v := ?_) (a' := ?_) #[true, true, true, true, true, true, true, true, true, true, true, true, true, true, false] rfl rfl (any_of HT_.out (by kernel_rfl)) (fun _ _ _ h => h) (Or.inl ⟨by rfl, ?_⟩) ?_ ?_
     rotate_left
     ·intro w'
      go_simp
      with_reducible rfl
     rotate_left
     ·simp only [Act.put, sB, i64_w, i32_w]
      rfl
     refine pure_ (i := 14) (N := (some 9)) (v := ?_) (a' := ?_) #[true, true, true, true, true, true, true, true, true, true, true, true, true, true, true] rfl rfl (any_of HT_.out (by kernel_rfl)) (fun _ _ _ h => h) (Or.inl ⟨by rfl, ?_⟩) ?_ ?_
     rotate_left
     ·intro w'
      go_simp
      with_reducible rfl
     rotate_left
     ·simp only [Act.put, sB, i64_w, i32_w]
      rfl
     refine done_ (done_of HT_.out (by kernel_rfl)) ?_
     try go_wp2
     go_meet
     exact ⟨rfl, hi, _, HI8.out, BX8.out⟩
   ·have k1 : ¬ x.f0 = 0 := fun h => k0 (.inl h)
    have k2 : ¬ x.f0 = 1 := fun h => k0 (.inr h)
    have e0 : (x.f0 == 0) = false := by simp [k1]
    have e1 : decide (x.f0 = 0) = false := decide_eq_false k1
    have e2 : (x.f0 == 1) = false := by simp [k2]
    have e3 : decide (x.f0 = 1) = false := decide_eq_false k2
    clear k0 k1 k2
    by_cases k2 : x.f0 = 2
    ·have e4 : (x.f0 == 2) = true := by simp [k2]
     have e5 : decide (x.f0 = 2) = true := decide_eq_true k2
     clear k2
     go_wp2
     refine start_ (n := 15) (S := fun w' => w'.cell? ⟨gx, 1, none⟩ = some (.int .i64 x.f1) ∧ w'.cell? ⟨gx, 2, none⟩ = some (.int .i64 x.f2)) (ds := []) #[false, false, false, false, false, false, false, false, false, false, false, false, false, false, false] (by kernel_rfl) rfl rfl ⟨(blk_cell BX.out 1).trans rfl, (blk_cell BX.out 2).trans rfl⟩ (fun hHeld => ?_); refine with_tabW plays17_tab plays17_bits (fun HT_ HW_ => ?_)
     have HI6 := asd (HI.out.below (below_drew1 (Below.refl _ _)))
     have BX6 := asd (blk_drew BX.out)
     clear HI BX hx0 hx1 hx2
     generalize wy.drew = w25 at HI6 BX6 hHeld ⊢
     refine pure_ (i := 0) (N := (some 71)) (v := ?_) (a' := ?_) #[true, false, false, false, false, false, false, false, false, false, false, false, false, false, false] rfl rfl (any_of HT_.out (by kernel_rfl)) (fun _ _ _ h => h) (Or.inl ⟨by rfl, ?_⟩) ?_ ?_
     rotate_left
     ·intro w'
      go_simp
      with_reducible rfl
     rotate_left
     ·simp only [Act.put, sB, i64_w, i32_w]
      rfl
     refine pure_ (i := 1) (N := (some 72)) (v := ?_) (a' := ?_) #[true, true, false, false, false, false, false, false, false, false, false, false, false, false, false] rfl rfl (any_of HT_.out (by kernel_rfl)) (fun _ _ _ h => h) (Or.inl ⟨by rfl, ?_⟩) ?_ ?_
     rotate_left
     ·intro w'
      go_simp
      with_reducible rfl
     rotate_left
     ·simp only [Act.put, sB, i64_w, i32_w]
      rfl
     refine take_ (i := 2) (N := (some 73)) (v := ?_) (a' := ?_) #[true, true, true, false, false, false, false, false, false, false, false, false, false, false, false] rfl rfl (take_ofW HT_.out HW_.out (by kernel_rfl)) (fun _ _ _ h => h) (Or.inl ⟨by rfl, ?_⟩) hHeld ?_ ?_
     rotate_left
     ·rintro w' ⟨s0, s1⟩
      go_simp
      with_reducible rfl
     rotate_left
     ·simp only [Act.put, sB, i64_w, i32_w]
      rfl
     refine pure_ (i := 3) (N := (some 74)) (v := ?_) (a' := ?_) #[true, true, true, true, false, false, false, false, false, false, false, false, false, false, false] rfl rfl (any_of HT_.out (by kernel_rfl)) (fun _ _ _ h => h) (Or.inl ⟨by rfl, ?_⟩) ?_ ?_
     rotate_left
     ·intro w'
      go_simp
      with_reducible rfl
     rotate_left
     ·simp only [Act.put, sB, i64_w, i32_w]
      rfl
     refine take_ (i := 4) (N := (some 75)) (v := ?_) (a' := ?_) #[true, true, true, true, true, false, false, false, false, false, false, false, false, false, false] rfl rfl (take_ofW HT_.out HW_.out (by kernel_rfl)) (fun _ _ _ h => h) (Or.inl ⟨by rfl, ?_⟩) hHeld ?_ ?_
     rotate_left
     ·rintro w' ⟨s0, s1⟩
      go_simp
      with_reducible rfl
     rotate_left
     ·simp only [Act.put, sB, i64_w, i32_w]
      rfl
     refine pure_ (i := 7) (N := (some 78)) (v := ?_) (a' := ?_) #[true, true, true, true, true, false, false, true, false, false, false, false, false, false, false] rfl rfl (any_of HT_.out (by kernel_rfl)) (fun _ _ _ h => h) (Or.inl ⟨by rfl, ?_⟩) ?_ ?_
     rotate_left
     ·intro w'
      go_simp
      with_reducible rfl
     rotate_left
     ·simp only [Act.put, sB, i64_w, i32_w]
      rfl
     refine pure_ (i := 8) (N := (some 79)) (v := ?_) (a' := ?_) #[true, true, true, true, true, false, false, true, true, false, false, false, false, false, false] rfl rfl (any_of HT_.out (by kernel_rfl)) (fun _ _ _ h => h) (Or.inl ⟨by rfl, ?_⟩) ?_ ?_
     rotate_left
     ·intro w'
      go_simp
      with_reducible rfl
     rotate_left
     ·simp only [Act.put, sB, i64_w, i32_w]
      rfl
     refine take_ (i := 9) (N := (some 80)) (v := ?_) (a' := ?_) #[true, true, true, true, true, false, false, true, true, true, false, false, false, false, false] rfl rfl (take_ofW HT_.out HW_.out (by kernel_rfl)) (fun _ _ _ h => h) (Or.inl ⟨by rfl, ?_⟩) hHeld ?_ ?_
     rotate_left
     ·rintro w' ⟨s0, s1⟩
      go_simp
      with_reducible rfl
     rotate_left
     ·simp only [Act.put, sB, i64_w, i32_w]
      rfl
     refine pure_ (i := 10) (N := (some 81)) (v := ?_) (a' := ?_) #[true, true, true, true, true, false, false, true, true, true, true, false, false, false, false] rfl rfl (any_of HT_.out (by kernel_rfl)) (fun _ _ _ h => h) (Or.inl ⟨by rfl, ?_⟩) ?_ ?_
     rotate_left
     ·intro w'
      go_simp
      with_reducible rfl
     rotate_left
     ·simp only [Act.put, sB, i64_w, i32_w]
      rfl
     refine take_ (i := 11) (N := (some 82)) (v := ?_) (a' := ?_) #[true, true, true, true, true, false, false, true, true, true, true, true, false, false, false] rfl rfl (take_ofW HT_.out HW_.out (by kernel_rfl)) (fun _ _ _ h => h) (Or.inl ⟨by rfl, ?_⟩) hHeld ?_ ?_
     rotate_left
     ·rintro w' ⟨s0, s1⟩
      go_simp
      with_reducible rfl
     rotate_left
     ·simp only [Act.put, sB, i64_w, i32_w]
      rfl
     refine one_ (i := 5) (N := (some 76)) #[true, true, true, true, true, true, false, true, true, true, true, true, false, false, false] rfl rfl (one_of HT_.out (by kernel_rfl)) (by decide) (fun K hK => ?_)
     refine goes_ Try.func19 (by kernel_rfl) rfl #[.pointer (some ⟨g, 0, none⟩), .int .i64 x.f1, .int .i64 x.f2] (by rfl) rfl rfl (by simp [Act.eval]) ?_
     refine (may_calls _ _ _ _ _ _ x.f1 x.f2 _ HI6.out.pol).mono ?_
     rintro e w6 ⟨rfl, hc⟩
     rw [mkX_may HI6.out.fit]
     have BX7 := asd (blk_below BX6.out hc)
     have HI7 := asd (HI6.out.below hc)
     clear hc
     refine ⟨_, rfl, ?_⟩
     refine hK.out _ _ ⟨(blk_cell BX7.out 1).trans rfl, (blk_cell BX7.out 2).trans rfl⟩ (fun hHeld => ?_)
     clear hK K
     refine norm_ (a' := ?_) ?_ ?_
     rotate_left
     ·show Act.put _ (some 76) _ = _
      simp only [Act.put, sB, i64_w, i32_w]
      rfl
     refine one_ (i := 6) (N := (some 77)) #[true, true, true, true, true, true, true, true, true, true, true, true, false, false, false] rfl rfl (one_of HT_.out (by kernel_rfl)) (by decide) (fun K hK => ?_)
     refine goes_ Try.func16 (by kernel_rfl) rfl #[.int .i64 (docMay l ys hi x.f1 x.f2)] (by rfl) rfl rfl (by simp [Act.eval]) ?_
     refine (num_calls _ _).mono ?_
     rintro e w17 ⟨rfl, rfl⟩
     refine ⟨_, rfl, ?_⟩
     refine hK.out _ _ ⟨(blk_cell BX7.out 1).trans rfl, (blk_cell BX7.out 2).trans rfl⟩ (fun hHeld => ?_)
     clear hK K
     refine norm_ (a' := ?_) ?_ ?_
     rotate_left
     ·show Act.put _ (some 77) _ = _
      simp only [Act.put, sB, i64_w, i32_w]
      rfl
     refine one_ (i := 12) (N := (some 83)) #[true, true, true, true, true, true, true, true, true, true, true, true, true, false, false] rfl rfl (one_of HT_.out (by kernel_rfl)) (by decide) (fun K hK => ?_)
     refine goes_ Try.func20 (by kernel_rfl) rfl #[.pointer (some ⟨g2, 0, none⟩), .int .i64 x.f1, .int .i64 x.f2] (by rfl) rfl rfl (by simp [Act.eval]) ?_
     refine (dmay_calls _ _ _ _ _ _ _ _ _ x.f1 x.f2 _ HI7.out.doc HI7.out.fit.1 (rd_fits HI7.out.fit _)).mono ?_
     rintro e w8 ⟨rfl, hc⟩
     have BX8 := asd (blk_below BX7.out hc)
     have HI8 := asd (HI7.out.below hc)
     clear hc HI6 HI7 BX7
     refine ⟨_, rfl, ?_⟩
     refine hK.out _ _ ⟨(blk_cell BX8.out 1).trans rfl, (blk_cell BX8.out 2).trans rfl⟩ (fun hHeld => ?_)
     clear hK K
     refine norm_ (a' := ?_) ?_ ?_
     rotate_left
     ·show Act.put _ (some 83) _ = _
      simp only [Act.put, sB, i64_w, i32_w]
      rfl
     refine pure_ (i := 13) (N := (some 84)) (v := ?_) (a' := ?_) #[true, true, true, true, true, true, true, true, true, true, true, true, true, true, false] rfl rfl (any_of HT_.out (by kernel_rfl)) (fun _ _ _ h => h) (Or.inl ⟨by rfl, ?_⟩) ?_ ?_
     rotate_left
     ·intro w'
      go_simp
      with_reducible rfl
     rotate_left
     ·simp only [Act.put, sB, i64_w, i32_w]
      rfl
     refine pure_ (i := 14) (N := (some 9)) (v := ?_) (a' := ?_) #[true, true, true, true, true, true, true, true, true, true, true, true, true, true, true] rfl rfl (any_of HT_.out (by kernel_rfl)) (fun _ _ _ h => h) (Or.inl ⟨by rfl, ?_⟩) ?_ ?_
     rotate_left
     ·intro w'
      go_simp
      with_reducible rfl
     rotate_left
     ·simp only [Act.put, sB, i64_w, i32_w]
      rfl
     refine done_ (done_of HT_.out (by kernel_rfl)) ?_
     try go_wp2
     go_meet
     exact ⟨rfl, hi, _, HI8.out, BX8.out⟩
    ·have e4 : (x.f0 == 2) = false := by simp [k2]
     have e5 : decide (x.f0 = 2) = false := decide_eq_false k2
     clear k2
     by_cases k3 : x.f0 = 3
     ·have e6 : (x.f0 == 3) = true := by simp [k3]
      have e7 : decide (x.f0 = 3) = true := decide_eq_true k3
      clear k3
      go_wp2_with fail
      refine (drop_chg _ _ _ _ _ _ _ _ HI.out.pol).mono ?_
      rintro e w6 ⟨rfl, hp, hc⟩
      have HP7 := asd hp
      have HD7 := asd (HI.out.doc.chg hc HI.out.sep)
      have BX7 := asd (blk_chg BX.out hc (fun hs => by have := HI.out.sep _ hs; have := LT.out; omega))
      have HL7 := asd (HI.out.low.trans (hc.to_below (fun k hk => (HI.out.pol.tight k hk).1) (below_size HI.out.low)))
      clear hp hc hx0 hx1 hx2
      have hx2 := (blk_cell BX7.out 2).trans rfl
      have hy2 := (blk_cell HD7.out.1 2).trans rfl
      have hf2 := blk_frozen HD7.out.1 2
      go_wp2
      go_meet
      exact ⟨rfl, _, ys, put_high HP7.out HD7.out HI.out.fit HL7.out HI.out.sep HI.out.mid _ rfl, blk_far BX7.out (p := ⟨g2, 2, none⟩) (fun e => DG.out e.symm) _⟩
     ·have e6 : (x.f0 == 3) = false := by simp [k3]
      have e7 : decide (x.f0 = 3) = false := decide_eq_false k3
      clear k3
      go_wp2
      go_meet
      exact ⟨rfl, hi, ys, HI.out, BX.out⟩
  case rest =>
   obtain ⟨rfl, hi, ys, hI, hB⟩ := hcut
   have HI := asd hI
   have BX := asd hB
   clear hI hB DX DG LT HA
   by_cases c0 : 0 ≤ x.f1
   case neg =>
    have e0 : decide (0 ≤ x.f1) = false := decide_eq_false c0
    have hr : ¬ ((0 ≤ x.f1 ∧ x.f1 < (l.length : Int)) ∧ 0 ≤ rd ys x.f1) := fun q => c0 q.1.1
    have LAST : Aside0 (polLast (mkX l ys) x.f1 = (0, false)) := ⟨by rw [mkX_last HI.out.fit, if_neg hr]⟩
    have hx1 := (blk_cell BX.out 1).trans rfl
    have hy1 := (blk_cell HI.out.doc.1 1).trans rfl
    clear hr c0
    go_wp2_with (first | (go_at_call 22; refine (last_calls _ _ _ _ _ _ x.f1 _ HI.out.pol).mono ?_; rintro e w5 ⟨rfl, rfl⟩; rw [LAST.out]))
    go_quiet (fail)
    have HI2 := asd (HI.out.below (below_drewN1 _ nq))
    have BX2 := asd (blk_drewN BX.out nq)
    clear HI BX hx1 hy1
    generalize World.drewN _ nq = wq at HI2 BX2 ⊢
    have HI := HI2
    have BX := BX2
    clear HI2 BX2
    have hx1 := (blk_cell BX.out 1).trans rfl
    have hy1 := (blk_cell HI.out.doc.1 1).trans rfl
    go_wp2
    go_quiet ((first | (go_at_call 23; exact quiet_lf (inv_dropped (HI.out.below (below_drewN1 _ _)) x.f1)) | (go_at_call 24; exact quiet_lf (ddropped_calls _ _ _ _ _ _ _ _ _ x.f1 _ (HI.out.below (below_drewN1 _ _)).doc))))
    go_wp2
    go_roundw
    case rel => exact ⟨i + 1, hi, ys, rfl, ⟨by omega, by have := HX.out; omega⟩, ⟨HI.out.below (below_drewN1 _ _)⟩⟩
    case measure => simp [intOf]; omega
   have e0 : decide (0 ≤ x.f1) = true := decide_eq_true c0
   have p0 : (0 ≤ x.f1) = True := eq_true c0
   by_cases c1 : x.f1 < (l.length : Int)
   case neg =>
    have e1 : decide (x.f1 < (l.length : Int)) = false := decide_eq_false c1
    have hr : ¬ ((0 ≤ x.f1 ∧ x.f1 < (l.length : Int)) ∧ 0 ≤ rd ys x.f1) := fun q => c1 q.1.2
    have LAST : Aside0 (polLast (mkX l ys) x.f1 = (0, false)) := ⟨by rw [mkX_last HI.out.fit, if_neg hr]⟩
    have hx1 := (blk_cell BX.out 1).trans rfl
    have hy1 := (blk_cell HI.out.doc.1 1).trans rfl
    clear hr c0 c1
    go_wp2_with (first | (go_at_call 22; refine (last_calls _ _ _ _ _ _ x.f1 _ HI.out.pol).mono ?_; rintro e w5 ⟨rfl, rfl⟩; rw [LAST.out]))
    go_quiet (fail)
    have HI2 := asd (HI.out.below (below_drewN1 _ nq))
    have BX2 := asd (blk_drewN BX.out nq)
    clear HI BX hx1 hy1
    generalize World.drewN _ nq = wq at HI2 BX2 ⊢
    have HI := HI2
    have BX := BX2
    clear HI2 BX2
    have hx1 := (blk_cell BX.out 1).trans rfl
    have hy1 := (blk_cell HI.out.doc.1 1).trans rfl
    go_wp2
    go_quiet ((first | (go_at_call 23; exact quiet_lf (inv_dropped (HI.out.below (below_drewN1 _ _)) x.f1)) | (go_at_call 24; exact quiet_lf (ddropped_calls _ _ _ _ _ _ _ _ _ x.f1 _ (HI.out.below (below_drewN1 _ _)).doc))))
    go_wp2
    go_roundw
    case rel => exact ⟨i + 1, hi, ys, rfl, ⟨by omega, by have := HX.out; omega⟩, ⟨HI.out.below (below_drewN1 _ _)⟩⟩
    case measure => simp [intOf]; omega
   have e1 : decide (x.f1 < (l.length : Int)) = true := decide_eq_true c1
   have p2 : (x.f1 < (ys.length : Int)) = True := eq_true (by rw [HI.out.fit.1]; exact c1)
   obtain ⟨bd, rfl, _⟩ := at_int (Kd.R_reads' HI.out.doc.2.2.2).2.2 x.f1 (of_eq_true p0) (of_eq_true p2)
   generalize hv : rd ys x.f1 = last
   by_cases c2 : 0 ≤ last
   case neg =>
    have e2 : decide (0 ≤ last) = false := decide_eq_false c2
    have hr : ¬ ((0 ≤ x.f1 ∧ x.f1 < (l.length : Int)) ∧ 0 ≤ rd ys x.f1) := fun q => c2 (by rw [← hv]; exact q.2)
    have LAST : Aside0 (polLast (mkX l ys) x.f1 = (0, false)) := ⟨by rw [mkX_last HI.out.fit, if_neg hr]⟩
    have hx1 := (blk_cell BX.out 1).trans rfl
    have hy1 := (blk_cell HI.out.doc.1 1).trans rfl
    obtain ⟨bd', eb, z0⟩ := at_int (Kd.R_reads' HI.out.doc.2.2.2).2.2 x.f1 (of_eq_true p0) (of_eq_true p2)
    obtain rfl := Option.some.inj eb
    rw [hv] at z0
    clear hr c0 c1 c2
    go_wp2_with (first | (go_at_call 22; refine (last_calls _ _ _ _ _ _ x.f1 _ HI.out.pol).mono ?_; rintro e w5 ⟨rfl, rfl⟩; rw [LAST.out]))
    go_quiet (fail)
    have HI2 := asd (HI.out.below (below_drewN1 _ nq))
    have BX2 := asd (blk_drewN BX.out nq)
    clear HI BX hx1 hy1 z0
    generalize World.drewN _ nq = wq at HI2 BX2 ⊢
    have HI := HI2
    have BX := BX2
    clear HI2 BX2
    have hx1 := (blk_cell BX.out 1).trans rfl
    have hy1 := (blk_cell HI.out.doc.1 1).trans rfl
    obtain ⟨bd', eb, z0⟩ := at_int (Kd.R_reads' HI.out.doc.2.2.2).2.2 x.f1 (of_eq_true p0) (of_eq_true p2)
    obtain rfl := Option.some.inj eb
    rw [hv] at z0
    go_wp2
    go_quiet ((first | (go_at_call 23; exact quiet_lf (inv_dropped (HI.out.below (below_drewN1 _ _)) x.f1)) | (go_at_call 24; exact quiet_lf (ddropped_calls _ _ _ _ _ _ _ _ _ x.f1 _ (HI.out.below (below_drewN1 _ _)).doc))))
    go_wp2
    go_roundw
    case rel => exact ⟨i + 1, hi, ys, rfl, ⟨by omega, by have := HX.out; omega⟩, ⟨HI.out.below (below_drewN1 _ _)⟩⟩
    case measure => simp [intOf]; omega
   have e2 : decide (0 ≤ last) = true := decide_eq_true c2
   have hr : (0 ≤ x.f1 ∧ x.f1 < (l.length : Int)) ∧ 0 ≤ rd ys x.f1 := ⟨⟨c0, c1⟩, by rw [hv]; exact c2⟩
   have LAST : Aside0 (polLast (mkX l ys) x.f1 = (last, true)) := ⟨by rw [mkX_last HI.out.fit, if_pos hr, hv]⟩
   have hx1 := (blk_cell BX.out 1).trans rfl
   have hy1 := (blk_cell HI.out.doc.1 1).trans rfl
   obtain ⟨bd', eb, z0⟩ := at_int (Kd.R_reads' HI.out.doc.2.2.2).2.2 x.f1 (of_eq_true p0) (of_eq_true p2)
   obtain rfl := Option.some.inj eb
   rw [hv] at z0
   clear hr c0 c1 c2
   go_wp2_with (first | (go_at_call 22; refine (last_calls _ _ _ _ _ _ x.f1 _ HI.out.pol).mono ?_; rintro e w5 ⟨rfl, rfl⟩; rw [LAST.out]))
   go_quiet (fail)
   have HI2 := asd (HI.out.below (below_drewN1 _ nq))
   have BX2 := asd (blk_drewN BX.out nq)
   clear HI BX hx1 hy1 z0
   generalize World.drewN _ nq = wq at HI2 BX2 ⊢
   have HI := HI2
   have BX := BX2
   clear HI2 BX2
   have hx1 := (blk_cell BX.out 1).trans rfl
   have hy1 := (blk_cell HI.out.doc.1 1).trans rfl
   obtain ⟨bd', eb, z0⟩ := at_int (Kd.R_reads' HI.out.doc.2.2.2).2.2 x.f1 (of_eq_true p0) (of_eq_true p2)
   obtain rfl := Option.some.inj eb
   rw [hv] at z0
   go_wp2
   go_quiet (fail)
   have HI2 := asd (HI.out.below (below_drewN1 _ nq))
   have BX2 := asd (blk_drewN BX.out nq)
   clear HI BX hx1 hy1 z0
   generalize World.drewN _ nq = wq at HI2 BX2 ⊢
   have HI := HI2
   have BX := BX2
   clear HI2 BX2
   have hx1 := (blk_cell BX.out 1).trans rfl
   have hy1 := (blk_cell HI.out.doc.1 1).trans rfl
   obtain ⟨bd', eb, z0⟩ := at_int (Kd.R_reads' HI.out.doc.2.2.2).2.2 x.f1 (of_eq_true p0) (of_eq_true p2)
   obtain rfl := Option.some.inj eb
   rw [hv] at z0
   go_wp2
   go_quiet ((first | (go_at_call 23; exact quiet_lf (inv_dropped (HI.out.below (below_drewN1 _ _)) x.f1)) | (go_at_call 24; exact quiet_lf (ddropped_calls _ _ _ _ _ _ _ _ _ x.f1 _ (HI.out.below (below_drewN1 _ _)).doc))))
   go_wp2
   go_roundw
   case rel => exact ⟨i + 1, hi, ys, rfl, ⟨by omega, by have := HX.out; omega⟩, ⟨HI.out.below (below_drewN1 _ _)⟩⟩
   case measure => simp [intOf]; omega
end
end Go.Proofs.Ytjekfipaadbbbaa.Fn
