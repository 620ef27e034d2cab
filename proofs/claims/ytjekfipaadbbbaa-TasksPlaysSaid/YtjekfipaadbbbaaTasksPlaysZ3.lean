/- Part of the proof of TasksPlays: see the last text. (Words laid by the print, as far as they are named here; walks written by a program of this project; plain laws.) -/
import Derived.Test.YtjekfipaadbbbaaTasksPlaysZ2
namespace Go.Proofs.Ytjekfipaadbbbaa.Fn
open Go.RowKit Go.Proofs.YtjekfipaadbbbaaW.PrintWords Go.Proofs.YtjekfipaadbbbaaW.PrintLast Go.Proofs.YtjekfipaadbbbaaW.PrintMore
set_option linter.unusedVariables false
set_option linter.unusedSimpArgs false
structure GI (l : List S44) (gs : List Int) (T : TD) (hb : Bool) : Prop where
 six : gs.length = 6
 len : T.sl.length = l.length
 tk : ∀ i, i < l.length → T.tk i = l.getD i z44
 set : ∀ i, T.dm i = T.hi
 job : ∀ k j, T.js k = some j → gs.getD k 0 = j.dn ∧ 0 ≤ j.dn ∧ j.dn < j.wrk ∧ j.dn < budT hb (T.tk k)
def RT (T : TD) : Prop := ∀ k, k < T.sl.length → 1 ≤ (T.tk k).f4 ∧ (T.tk k).f4 ≤ (T.tk k).f5
theorem budT_up {T : TD} (h : RT T) {k : Nat} (hk : k < T.sl.length) (hb : Bool) : budT hb (T.tk k) ≤ budT true (T.tk k) ∧ 1 ≤ budT hb (T.tk k) := by
 have h1 := h k hk
 unfold budT
 cases hb <;> simp <;> omega
section
variable {l : List S44} {gs : List Int} {T T' : TD} {hb hi' : Bool}
theorem GI.up (h : GI l gs T hb) (hR : RT T) : GI l gs T true := ⟨h.six, h.len, h.tk, h.set, fun k j hj => by
 obtain ⟨h1, h2, h3, h4⟩ := h.job k j hj
 have := (budT_up hR (TD.js_some hj).1 hb).1
 exact ⟨h1, h2, h3, by omega⟩⟩
theorem GI.gone (h : GI l gs T hb) {p : Nat → JB → Bool} (r : TRel T T' (goneP T p) hi') (hd : ∀ i, T'.dm i = T'.hi) : GI l gs T' hb :=
 ⟨h.six, r.len.trans h.len, fun i hi => (r.tk i).trans (h.tk i hi), hd, fun k j hj => by
  rw [r.js k] at hj
  unfold goneP at hj
  cases hjk : T.js k with
  | none => rw [hjk] at hj; cases hj
  | some j0 =>
   rw [hjk] at hj
   simp only at hj
   by_cases hp : p k j0 = true
   ·rw [if_pos hp] at hj; cases hj
   ·rw [if_neg hp] at hj
    obtain rfl := Option.some.inj hj
    rw [r.tk k]
    exact h.job k _ hjk⟩
theorem GI.put (h : GI l gs T hb) (hR : RT T) {k : Nat} (hk : k < T.sl.length) (h6 : T.sl.length ≤ 6) {arr wrk : Int} {ops : List S76} (r : TRel T T' (putJ T k ⟨k, arr, wrk, 0, ops⟩) hi') (hd : ∀ i, T'.dm i = T'.hi) (hw : 1 ≤ wrk) : GI l (gs.set k 0) T' hb :=
 ⟨by rw [List.length_set]; exact h.six, r.len.trans h.len, fun i hi => (r.tk i).trans (h.tk i hi), hd, fun i j hj => by
  rw [r.js i] at hj
  unfold putJ at hj
  rw [r.tk i, getD_set]
  by_cases e : i = k
  ·rw [if_pos e] at hj
   obtain rfl := Option.some.inj hj
   subst e
   rw [if_pos ⟨rfl, by rw [h.six]; omega⟩]
   have := (budT_up hR hk hb).2
   exact ⟨rfl, Int.le_refl _, by show (0 : Int) < wrk; omega, by show (0 : Int) < budT hb (T.tk i); omega⟩
  ·rw [if_neg e] at hj
   rw [if_neg (fun q => e q.1.symm)]
   exact h.job i j hj⟩
theorem GI.run (h : GI l gs T T.hi) (hR : RT T) {k : Nat} {j : JB} (hj : T.js k = some j) (h6 : T.sl.length ≤ 6) (r : TRel T T' (runJ T k) T.hi) (hd : ∀ i, T'.dm i = T'.hi) : GI l (gs.set k (j.dn + 1)) T' (if outJ T.hi (T.tk k) j = 3 then true else T.hi) := by
 obtain ⟨hk, hjb, b, hb⟩ := TD.js_some hj
 obtain ⟨g1, g2, g3, g4⟩ := h.job k j hj
 have hup := fun i hi => budT_up hR (k := i) hi T.hi
 refine ⟨by rw [List.length_set]; exact h.six, r.len.trans h.len, fun i hi => (r.tk i).trans (h.tk i hi), hd, fun i j' hj' => ?_⟩
 rw [r.js i] at hj'
 rw [r.tk i, getD_set]
 unfold runJ at hj'
 rw [← hjb] at hj'
 by_cases e : i = k
 ·subst e
  rw [if_pos ⟨rfl, by rw [h.six]; omega⟩]
  by_cases hg : outJ T.hi (T.tk i) j = 1 ∨ outJ T.hi (T.tk i) j = 2
  ·rw [if_pos hg] at hj'
   unfold goneJ at hj'
   rw [if_pos rfl] at hj'; cases hj'
  ·rw [if_neg hg] at hj'
   unfold putJ at hj'
   rw [if_pos rfl] at hj'
   obtain rfl := Option.some.inj hj'
   have hne : j.dn + 1 ≠ j.wrk := fun q => hg (.inl (by unfold outJ; rw [if_pos q]))
   refine ⟨rfl, by show 0 ≤ j.dn + 1; omega, by show j.dn + 1 < j.wrk; omega, ?_⟩
   show j.dn + 1 < budT _ (T.tk i)
   by_cases h3 : outJ T.hi (T.tk i) j = 3
   ·rw [if_pos h3]
    unfold outJ at h3
    rw [if_neg hne] at h3
    by_cases hsp : budT T.hi (T.tk i) ≤ j.dn + 1
    ·rw [if_pos hsp] at h3
     by_cases ho : T.hi = true ∨ (T.tk i).f0 = false ∨ (T.tk i).f5 = (T.tk i).f4
     ·rw [if_pos ho] at h3; simp at h3
     ·have hhi : T.hi = false := by cases q : T.hi with
       | false => rfl
       | true => exact absurd (.inl q) ho
      have hR1 := hR i hk
      rw [hhi] at g4
      unfold budT at g4 ⊢
      simp only [Bool.false_eq_true, if_false, if_true] at g4 ⊢
      have h54 : (T.tk i).f5 ≠ (T.tk i).f4 := fun q => ho (.inr (.inr q))
      omega
    ·rw [if_neg hsp] at h3; simp at h3
   ·rw [if_neg h3]
    unfold outJ at h3 hg
    rw [if_neg hne] at h3 hg
    by_cases hsp : budT T.hi (T.tk i) ≤ j.dn + 1
    ·rw [if_pos hsp] at h3 hg
     exfalso
     by_cases ho : T.hi = true ∨ (T.tk i).f0 = false ∨ (T.tk i).f5 = (T.tk i).f4
     ·rw [if_pos ho] at hg; exact hg (.inr rfl)
     ·rw [if_neg ho] at h3; exact h3 rfl
    ·omega
 ·rw [if_neg (fun q => e q.1.symm)]
  have hj2 : T.js i = some j' := by
   by_cases hg : outJ T.hi (T.tk k) j = 1 ∨ outJ T.hi (T.tk k) j = 2
   ·rw [if_pos hg] at hj'
    unfold goneJ at hj'
    rwa [if_neg e] at hj'
   ·rw [if_neg hg] at hj'
    unfold putJ at hj'
    rwa [if_neg e] at hj'
  obtain ⟨q1, q2, q3, q4⟩ := h.job i j' hj2
  refine ⟨q1, q2, q3, ?_⟩
  by_cases h3 : outJ T.hi (T.tk k) j = 3
  ·rw [if_pos h3]; have := (hup i (TD.js_some hj2).1).1; omega
  ·rw [if_neg h3]; exact q4
end
theorem light_go (xs : List S65) : ∀ n (i : Nat), 150 - i = n → i ≤ 150 → i ≤ xs.length → (∀ m, m < i → (xs.getD m z65).f2.f4.length ≤ 70) → ∃ k b, parcloselaw19_light.l0 k xs (i : Int) = some b ∧ (b = true → xs.length ≤ 120 ∧ ∀ m, m < xs.length → (xs.getD m z65).f2.f4.length ≤ 70) := by
 intro n
 induction n with
 | zero =>
  intro i hn hi hl h
  obtain rfl : i = 150 := by omega
  refine ⟨2, decide (xs.length ≤ 120), ?_, fun hb => ⟨of_decide_eq_true hb, fun m hm => h m (by have := of_decide_eq_true hb; omega)⟩⟩
  have e1 : decide ((xs.length : Int) ≤ 120) = decide (xs.length ≤ 120) := by simp only [decide_eq_decide]; omega
  by_cases hlt : ((150 : Nat) : Int) < (xs.length : Int)
  ·simp only [parcloselaw19_light.l0, parcloselaw19_light.j1]
   rw [if_pos hlt, if_neg (by simp), e1]
  ·simp only [parcloselaw19_light.l0, parcloselaw19_light.j1]
   rw [if_neg hlt, if_neg (by simp), e1]
 | succ n ih =>
  intro i hn hi hl h
  have e1 : decide ((xs.length : Int) ≤ 120) = decide (xs.length ≤ 120) := by simp only [decide_eq_decide]; omega
  by_cases hlt : i < xs.length
  ·have er : rd_T65 xs (i : Int) = xs.getD i z65 := by unfold rd_T65; rw [Int.toNat_natCast]
   have hd : decide ((i : Int) < 150) = true := decide_eq_true (by omega)
   by_cases hop : (xs.getD i z65).f2.f4.length ≤ 70
   ·obtain ⟨k, b, hk, hkb⟩ := ih (i + 1) (by omega) (by omega) (by omega) (fun m hm => by
     by_cases e : m = i
     ·rw [e]; exact hop
     ·exact h m (by omega))
    refine ⟨k + 2, b, ?_, hkb⟩
    have hw : wrap64 ((i : Int) + 1) = ((i + 1 : Nat) : Int) := by unfold wrap64; omega
    unfold parcloselaw19_light.l0
    rw [if_pos (by omega)]
    unfold parcloselaw19_light.j1
    rw [if_pos hd, if_pos (by omega), if_pos (by omega), er, if_neg (by omega), hw]
    exact hk
   ·refine ⟨2, false, ?_, fun q => by cases q⟩
    unfold parcloselaw19_light.l0
    rw [if_pos (by omega)]
    unfold parcloselaw19_light.j1
    rw [if_pos hd, if_pos (by omega), if_pos (by omega), er, if_pos (by omega)]
  ·obtain rfl : i = xs.length := by omega
   refine ⟨2, decide (xs.length ≤ 120), ?_, fun hb => ⟨of_decide_eq_true hb, fun m hm => h m hm⟩⟩
   unfold parcloselaw19_light.l0
   rw [if_neg (by omega)]
   unfold parcloselaw19_light.j1
   rw [if_neg (by simp), e1]
theorem light_ev (xs : List S65) : ∃ k b, parcloselaw19_light.f k xs = some b ∧ (b = true → xs.length ≤ 120 ∧ ∀ m, m < xs.length → (xs.getD m z65).f2.f4.length ≤ 70) := light_go xs _ 0 rfl (by omega) (by omega) (fun m hm => absurd hm (by omega))
end Go.Proofs.Ytjekfipaadbbbaa.Fn
namespace Go.Proofs.Ytjekfipaadbbbaa.Fn
open Go.RowKit Go.Proofs.YtjekfipaadbbbaaW.PrintWords Go.Proofs.YtjekfipaadbbbaaW.PrintLast Go.Proofs.YtjekfipaadbbbaaW.PrintMore
set_option linter.unusedVariables false
set_option linter.unusedSimpArgs false
def tkn11T : Bool × List (List Nat × List Nat) := (true, [([], []), ([], []), ([1], [1]), ([2], [2]), ([0, 3, 3], [0, 3]), ([4, 4], [4]), ([5], [5]), ([6, 5], [6]), ([7], [7]), ([7], [7]), ([8, 9, 7], [7, 8, 9]), ([10, 7], [7, 10]), ([7, 11], [7, 11]), ([12, 7], [12]), ([13], [13]), ([13, 14], [13, 14]), ([15, 13], [15]), ([16], [16]), ([16], [16]), ([17, 18, 16], [16, 17, 18]), ([16, 19], [16, 19]), ([20, 16], [20]), ([21], [21]), ([22, 21], [21, 22]), ([21, 23], [21, 23]), ([24, 21], [24]), ([25], [25]), ([26, 25, 25], [25, 26]), ([27, 25], [25, 27]), ([25], [25]), ([25], [25]), ([30, 25], [25, 30]), ([29, 31, 27, 25], [25, 29, 31]), ([32, 25], [25, 32]), ([28, 33, 25], [25, 28, 33]), ([34, 25], [25, 34]), ([25, 35], [25, 35]), ([36, 32], [36]), ([37], [37]), ([38, 37, 37], [37, 38]), ([37, 39], [37, 39]), ([40, 39], [40]), ([41], [41]), ([42, 41, 41], [41, 42]), ([41, 43], [41, 43]), ([44, 43], [44]), ([45], [45]), ([45, 46], [45, 46]), ([47, 45], [47]), ([48], [48]), ([49, 48, 48], [48, 49]), ([50, 48], [48, 50]), ([48, 51], [48, 51])])
def tkn11B : List Nat := [0, 0, 2, 6, 15, 31, 63, 127, 255, 255, 1023, 2047, 4095, 8191, 16383, 32767, 65535, 131071, 131071, 524287, 1048575, 2097151, 4194303, 8388607, 16777215, 33554431, 67108863, 134217727, 268435455, 67108863, 67108863, 1140850687, 4026531839, 8321499135, 17179869183, 34359738367, 68719476735, 137438953471, 274877906943, 549755813887, 1099511627775, 2199023255551, 4398046511103, 8796093022207, 17592186044415, 35184372088831, 70368744177663, 140737488355327, 281474976710655, 562949953421311, 1125899906842623, 2251799813685247, 4503599627370495]
def jop (x : S134) : S76 := ⟨x.f0, x.f1, x.f2⟩
theorem job_go (a b c d : Int) (l : List S134) (hl : l.length ≤ 100000) : ∀ n (i : Nat), l.length - i = n → i ≤ l.length → ∃ k, parcloselaw19_Job.l0 k (i : Int) a b c d l a b c d ((l.take i).map jop) = some (a, b, c, d, l.map jop) := by
 intro n
 induction n with
 | zero =>
  intro i hn hi
  refine ⟨1, ?_⟩
  unfold parcloselaw19_Job.l0
  rw [if_neg (by omega), List.take_of_length_le (by omega)]
 | succ n ih =>
  intro i hn hi
  obtain ⟨k, hk⟩ := ih (i + 1) (by omega) (by omega)
  refine ⟨k + 1, ?_⟩
  have hi2 : i < l.length := by omega
  have hsn : (l.take (i + 1)).map jop = (l.take i).map jop ++ [jop (l.getD i ⟨0, 0, 0⟩)] := by rw [List.take_succ_eq_append_getElem hi2, List.map_append, getD_lt l ⟨0, 0, 0⟩ hi2]; rfl
  rw [hsn] at hk
  unfold parcloselaw19_Job.l0
  rw [if_pos (by omega), if_pos (by omega), if_pos (by rw [List.length_map, List.length_take]; omega), show wrap64 ((i : Int) + 1) = ((i + 1 : Nat) : Int) by unfold wrap64; omega]
  have er : rd_T134 l (i : Int) = l.getD i ⟨0, 0, 0⟩ := by unfold rd_T134; rw [Int.toNat_natCast]; rfl
  rw [er]
  exact hk
theorem job_calls (a b c d : Int) (A : Option Addr) (cc : Nat) (l : List S134) (w : World) (hr : Kd.C k134 w A l.length l) (hc : l.length ≤ cc) (hl : l.length ≤ 100000) : Calls Try.prog 39 #[.agg #[.int .i64 a, .int .i64 b, .int .i64 c, .int .i64 d, .slice A l.length cc]] w fun e w' => ∃ v : Value, e = .returned (.agg #[.int .i64 a, .int .i64 b, .int .i64 c, .int .i64 d, v]) ∧ Kd.R k76 76 w' w.heap.size (fun _ => True) v (l.map jop) ∧ Below w.heap.size w w' := by
 obtain ⟨k, hk⟩ := job_go a b c d l hl _ 0 rfl (Nat.zero_le _)
 exact parcloselaw19_Job.calls k a b c d A cc l a b c d _ w hr hc hk
end Go.Proofs.Ytjekfipaadbbbaa.Fn
namespace Go.Proofs.Ytjekfipaadbbbaa.Fn
open Go.RowKit Go.Proofs.YtjekfipaadbbbaaW.PrintWords Go.Proofs.YtjekfipaadbbbaaW.PrintLast Go.Proofs.YtjekfipaadbbbaaW.PrintMore
set_option linter.unusedVariables false
set_option linter.unusedSimpArgs false
structure RD where
 K : List S44
 A : Option Addr
 c : Nat
 jr : Nat → JB
 ov : Nat → Value
 is : Nat → Bool
 hi : Bool
def RD.js (R : RD) (k : Nat) : Option JB := if R.is k = true then some (R.jr k) else none
def RD.tk (R : RD) (k : Nat) : S44 := R.K.getD k z44
def RD.cells (R : RD) : Array Value := #[.slice R.A R.K.length R.c, .int .i64 (R.jr 0).tsk, .int .i64 (R.jr 0).arr, .int .i64 (R.jr 0).wrk, .int .i64 (R.jr 0).dn, R.ov 0, .int .i64 (R.jr 1).tsk, .int .i64 (R.jr 1).arr, .int .i64 (R.jr 1).wrk, .int .i64 (R.jr 1).dn, R.ov 1, .int .i64 (R.jr 2).tsk, .int .i64 (R.jr 2).arr, .int .i64 (R.jr 2).wrk, .int .i64 (R.jr 2).dn, R.ov 2, .int .i64 (R.jr 3).tsk, .int .i64 (R.jr 3).arr, .int .i64 (R.jr 3).wrk, .int .i64 (R.jr 3).dn, R.ov 3, .int .i64 (R.jr 4).tsk, .int .i64 (R.jr 4).arr, .int .i64 (R.jr 4).wrk, .int .i64 (R.jr 4).dn, R.ov 4, .int .i64 (R.jr 5).tsk, .int .i64 (R.jr 5).arr, .int .i64 (R.jr 5).wrk, .int .i64 (R.jr 5).dn, R.ov 5, .bool (R.is 0), .bool (R.is 1), .bool (R.is 2), .bool (R.is 3), .bool (R.is 4), .bool (R.is 5), .bool R.hi]
structure RTab (w w0 : World) (r : Nat) (R : RD) : Prop where
 blk : w.heap[r]? = some (.cells R.cells 90 (0, 0))
 lr : w0.heap.size ≤ r
 row : k44.R 44 w w0.heap.size (fun k => k ≠ r) (.slice R.A R.K.length R.c) R.K
 n6 : R.K.length ≤ 6
 rt : ∀ k, k < R.K.length → rtC (R.tk k) = true
 job : ∀ k, R.is k = true → k < R.K.length ∧ (R.jr k).ok k ∧ ∃ (A : Option Addr) (c : Nat) (xs : List S134), R.ov k = .slice A xs.length c ∧ xs.length ≤ c ∧ Kd.C k134 w0 A xs.length xs ∧ (R.jr k).ops = xs.map jop
 fr : Below w0.heap.size w0 w
section
variable {w w0 w1 : World} {r : Nat} {R R' : RD}
theorem RD.js_some {k : Nat} {j : JB} (h : R.js k = some j) : R.is k = true ∧ R.jr k = j := by
 unfold RD.js at h
 by_cases q : R.is k = true
 ·rw [if_pos q] at h; exact ⟨q, Option.some.inj h⟩
 ·rw [if_neg q] at h; cases h
theorem RD.js_none {k : Nat} : R.js k = none ↔ R.is k = false := by
 unfold RD.js
 cases R.is k <;> simp
theorem RTab.cK (h : RTab w w0 r R) : w.cell? ⟨r, 0, none⟩ = some (.slice R.A R.K.length R.c) := (blk_cell h.blk 0).trans rfl
theorem RTab.cHi (h : RTab w w0 r R) : w.cell? ⟨r, 37, none⟩ = some (.bool R.hi) := (blk_cell h.blk 37).trans rfl
theorem RTab.frz (h : RTab w w0 r R) (i : Nat) : w.frozen? ⟨r, i, none⟩ = false := blk_frozen h.blk i
theorem RTab.cIs (h : RTab w w0 r R) {k : Nat} (hk : k < 6) : w.cell? ⟨r, 31 + k, none⟩ = some (.bool (R.is k)) := by
 have h1 := blk_cell h.blk (31 + k)
 rw [h1]
 rcases (by omega : k = 0 ∨ k = 1 ∨ k = 2 ∨ k = 3 ∨ k = 4 ∨ k = 5) with rfl | rfl | rfl | rfl | rfl | rfl <;> rfl
theorem RTab.cJ (h : RTab w w0 r R) {k : Nat} (hk : k < 6) : w.cell? ⟨r, 1 + k * 5, none⟩ = some (.int .i64 (R.jr k).tsk) ∧ w.cell? ⟨r, 1 + k * 5 + 1, none⟩ = some (.int .i64 (R.jr k).arr) ∧ w.cell? ⟨r, 1 + k * 5 + 2, none⟩ = some (.int .i64 (R.jr k).wrk) ∧ w.cell? ⟨r, 1 + k * 5 + 3, none⟩ = some (.int .i64 (R.jr k).dn) ∧ w.cell? ⟨r, 1 + k * 5 + 4, none⟩ = some (R.ov k) := by
 rw [blk_cell h.blk, blk_cell h.blk, blk_cell h.blk, blk_cell h.blk, blk_cell h.blk]
 rcases (by omega : k = 0 ∨ k = 1 ∨ k = 2 ∨ k = 3 ∨ k = 4 ∨ k = 5) with rfl | rfl | rfl | rfl | rfl | rfl <;> exact ⟨rfl, rfl, rfl, rfl, rfl⟩
theorem RTab.tkc (h : RTab w w0 r R) {k : Nat} (hk : k < R.K.length) : ∃ ad, R.A = some ad ∧ w.cell? (ad.add (k * 6)) = some (.bool (R.tk k).f0) ∧ w.cell? ⟨(ad.add (k * 6)).block, (ad.add (k * 6)).off + 1, none⟩ = some (.int .i64 (R.tk k).f1) ∧ w.cell? ⟨(ad.add (k * 6)).block, (ad.add (k * 6)).off + 2, none⟩ = some (.int .i64 (R.tk k).f2) ∧ w.cell? ⟨(ad.add (k * 6)).block, (ad.add (k * 6)).off + 3, none⟩ = some (.int .i64 (R.tk k).f3) ∧ w.cell? ⟨(ad.add (k * 6)).block, (ad.add (k * 6)).off + 4, none⟩ = some (.int .i64 (R.tk k).f4) ∧ w.cell? ⟨(ad.add (k * 6)).block, (ad.add (k * 6)).off + 5, none⟩ = some (.int .i64 (R.tk k).f5) := by
 obtain ⟨ad, h1, h2⟩ := at_T44 (Kd.R_reads' h.row).2.2 (k : Int) (by omega) (by omega)
 have e : rd_T44 R.K (k : Int) = R.tk k := by unfold rd_T44 RD.tk; rw [Int.toNat_natCast]
 rw [e] at h2
 exact ⟨ad, h1, by simpa using h2⟩
theorem RTab.chg {S : Nat → Prop} (h : RTab w w0 r R) (hk : Chg S w w1) (hr : ¬ S r) (hK : ∀ q cells, w.heap[q]? = some (.cells cells 44 (0, 0)) → ¬ S q) (hl : ∀ q, S q → w0.heap.size ≤ q) : RTab w1 w0 r R :=
 ⟨blk_chg h.blk hk hr, h.lr, R_chgT rfl h.row hk hK, h.n6, h.rt, h.job, ((Chg.of_belowB h.fr).then_ hk (fun q hq => .inl (hl q hq))).to_below (fun _ h => h) (Nat.le_refl _)⟩
theorem RTab.below (h : RTab w w0 r R) (hb : Below w.heap.size w w1) : RTab w1 w0 r R := h.chg (Chg.of_below hb (fun _ => False)) (fun q => q) (fun _ _ _ q => q) (fun _ q => q.elim)
theorem RTab.other {base g : Nat} {T : TD} {wt : World} (h : RTab w w0 r R) (ht : TabOK w base g T) (hb : w0.heap.size ≤ base) (hk : Chg (T.S g) w w1) : RTab w1 w0 r R :=
 h.chg hk (fun q => by
  obtain ⟨t, cells, hm, hc⟩ := ht.S_typed _ q
  rw [h.blk] at hc
  injection hc with hc
  injection hc with _ h2
  subst h2
  revert hm; decide) (fun q cells hc hs => by
  obtain ⟨t, cells', hm, hc'⟩ := ht.S_typed _ hs
  rw [hc] at hc'
  injection hc' with hc'
  injection hc' with _ h2
  subst h2
  revert hm; decide) (fun q hq => Nat.le_trans hb (ht.low q hq))
theorem TabOK.doc {base g : Nat} {T : TD} (ht : TabOK w base g T) (h : RTab w w0 r R) (hk : Chg (fun q => q = r) w w1) : TabOK w1 base g T :=
 ht.chg hk (fun q hq e => by
  subst e
  obtain ⟨t, cells, hm, hc⟩ := ht.S_typed _ hq
  rw [h.blk] at hc
  injection hc with hc
  injection hc with _ h2
  subst h2
  revert hm; decide) (fun q cells hc e => by
  subst e
  rw [h.blk] at hc
  injection hc with hc
  injection hc with _ h2
  simp at h2)
theorem RTab.put (h : RTab w w0 r R) (hk : Chg (fun q => q = r) w w1) (hb : w1.heap[r]? = some (.cells R'.cells 90 (0, 0))) (hK : R'.K = R.K) (hA : R'.A = R.A) (hc : R'.c = R.c) (hj : ∀ k, R'.is k = true → k < R.K.length ∧ (R'.jr k).ok k ∧ ∃ (A : Option Addr) (c : Nat) (xs : List S134), R'.ov k = .slice A xs.length c ∧ xs.length ≤ c ∧ Kd.C k134 w0 A xs.length xs ∧ (R'.jr k).ops = xs.map jop) : RTab w1 w0 r R' :=
 ⟨hb, h.lr, by
  rw [hK, hA, hc]
  exact R_chg h.row hk (fun k hk e => hk e), by rw [hK]; exact h.n6, fun k hk' => by
  unfold RD.tk
  rw [hK] at hk' ⊢
  exact h.rt k hk', fun k hk => by rw [hK]; exact hj k hk, ((Chg.of_belowB h.fr).then_ hk (fun q hq => .inl (by rw [hq]; exact h.lr))).to_below (fun _ h => h) (Nat.le_refl _)⟩
def RD.off (R : RD) (k : Nat) : RD := { R with is := fun i => if i = k then false else R.is i }
def RD.setDn (R : RD) (k : Nat) (n : Int) : RD := { R with jr := fun i => if i = k then { R.jr k with dn := n } else R.jr i }
def RD.setHi (R : RD) (b : Bool) : RD := { R with hi := b }
theorem RTab.off (h : RTab w w0 r R) {k : Nat} (hk : k < 6) : RTab (w.setCell ⟨r, 31 + k, none⟩ (.bool false)) w0 r (R.off k) :=
 h.put ((Chg.refl (fun q => q = r) w).set_ (p := ⟨r, 31 + k, none⟩) (.inl rfl) _) (by
  rw [blk_set h.blk (31 + k) (.bool false)]
  rcases (by omega : k = 0 ∨ k = 1 ∨ k = 2 ∨ k = 3 ∨ k = 4 ∨ k = 5) with rfl | rfl | rfl | rfl | rfl | rfl <;> rfl) rfl rfl rfl (fun i hi => by
  have e : R.is i = true := by
   by_cases q : i = k
   ·have : (R.off k).is i = false := by unfold RD.off; simp [q]
    rw [this] at hi; cases hi
   ·have : (R.off k).is i = R.is i := by unfold RD.off; simp [q]
    rw [← this]; exact hi
  exact h.job i e)
theorem RTab.setDn (h : RTab w w0 r R) {k : Nat} (hk : k < 6) (n : Int) (hn : R.is k = true → 0 ≤ n ∧ n ≤ (R.jr k).wrk) : RTab (w.setCell ⟨r, 1 + k * 5 + 3, none⟩ (.int .i64 n)) w0 r (R.setDn k n) :=
 h.put ((Chg.refl (fun q => q = r) w).set_ (p := ⟨r, 1 + k * 5 + 3, none⟩) (.inl rfl) _) (by
  rw [blk_set h.blk (1 + k * 5 + 3) (.int .i64 n)]
  rcases (by omega : k = 0 ∨ k = 1 ∨ k = 2 ∨ k = 3 ∨ k = 4 ∨ k = 5) with rfl | rfl | rfl | rfl | rfl | rfl <;> rfl) rfl rfl rfl (fun i hi => by
  have hi' : R.is i = true := hi
  obtain ⟨h1, h2, h3⟩ := h.job i hi'
  by_cases q : i = k
  ·subst q
   have e : (R.setDn i n).jr i = { R.jr i with dn := n } := by unfold RD.setDn; simp
   rw [e]
   exact ⟨h1, ⟨h2.tsk, h2.arr, h2.wrk, hn hi', h2.ops⟩, h3⟩
  ·have e : (R.setDn k n).jr i = R.jr i := by unfold RD.setDn; simp [q]
   rw [e]
   exact ⟨h1, h2, h3⟩)
theorem RTab.setHi (h : RTab w w0 r R) (b : Bool) : RTab (w.setCell ⟨r, 37, none⟩ (.bool b)) w0 r (R.setHi b) :=
 h.put ((Chg.refl (fun q => q = r) w).set_ (p := ⟨r, 37, none⟩) (.inl rfl) _) (by
  rw [blk_set h.blk 37 (.bool b)]; rfl) rfl rfl rfl h.job
theorem off_is (R : RD) (k i : Nat) : (R.off k).is i = if i = k then false else R.is i := rfl
theorem off_js (R : RD) (k i : Nat) : (R.off k).js i = if i = k then none else R.js i := by
 unfold RD.js
 rw [off_is]
 by_cases q : i = k
 ·rw [if_pos q, if_pos q]; rfl
 ·rw [if_neg q, if_neg q]; rfl
theorem setDn_js (R : RD) (k : Nat) (n : Int) (i : Nat) (hk : R.is k = true) : (R.setDn k n).js i = if i = k then some { R.jr k with dn := n } else R.js i := by
 unfold RD.js
 show (if R.is i = true then some ((R.setDn k n).jr i) else none) = _
 by_cases q : i = k
 ·subst q
  rw [if_pos rfl, if_pos hk]
  unfold RD.setDn; simp
 ·rw [if_neg q]
  have e : (R.setDn k n).jr i = R.jr i := by unfold RD.setDn; simp [q]
  rw [e]
theorem RTab.drew (h : RTab w w0 r R) : RTab w.drew w0 r R := h.chg ((Chg.refl (fun _ => False) w).drew) (fun q => q) (fun _ _ _ q => q) (fun _ q => q.elim)
end
end Go.Proofs.Ytjekfipaadbbbaa.Fn
namespace Go.Proofs.Ytjekfipaadbbbaa.Fn
open Go.RowKit Go.Proofs.YtjekfipaadbbbaaW.PrintWords Go.Proofs.YtjekfipaadbbbaaW.PrintLast Go.Proofs.YtjekfipaadbbbaaW.PrintMore
set_option linter.unusedVariables false
set_option linter.unusedSimpArgs false
set_option maxHeartbeats 16000000 in
set_option maxRecDepth 100000 in
theorem right68 (x : S44) (w : World) : Calls Try.prog 68 #[.agg #[.bool x.f0, .int .i64 x.f1, .int .i64 x.f2, .int .i64 x.f3, .int .i64 x.f4, .int .i64 x.f5]] w fun e w' => e = .returned (.bool (rtC x)) ∧ Below w.heap.size w w' := by
  have hu44 := Try.underlying44
  go_enter Try.func68, Try.ntmps68
  go_wp2
  all_goals (go_ret; refine ⟨congrArg (fun b => Ending.returned (.bool b)) ?_, below_alloc (Below.refl _ _) _⟩)
  all_goals symm
  all_goals first
    | (rw [rtC_iff]; (repeat' apply And.intro) <;> first | omega | (left; assumption))
    | (rw [← Bool.not_eq_true, rtC_iff]; rintro ⟨_, _, h | h⟩ <;> first | omega | contradiction)
    | (refine bool_eq (P := x.f5 = x.f4) ((rtC_iff x).trans ⟨fun h => ?_, fun h => ?_⟩) (by simp)
       · rcases h.2.2 with h | h <;> first | omega | contradiction
       · (repeat' apply And.intro) <;> first | omega | (right; omega))
theorem info44 : (Try.prog.info? 44).map (fun i => (i.zero, i.size, i.bytes)) = some (some (.agg #[.bool false, .int .i64 0, .int .i64 0, .int .i64 0, .int .i64 0, .int .i64 0]), 6, 48) := by kernel_rfl
def RMade (w0 : World) (l : List S44) (e : Ending) (w' : World) : Prop := if l.length ≤ 6 ∧ l.all rtC = true then ∃ (r : Nat) (R : RD), e = .returned (.pointer (some ⟨r, 0, none⟩)) ∧ RTab w' w0 r R ∧ R.K = l ∧ (∀ k, R.is k = false) ∧ R.hi = false else e = .returned (.pointer none)
theorem all_takeR {l : List S44} {x : Nat} (hx : x < l.length) (h : (l.take x).all rtC = true) (h1 : rtC (l.getD x z44) = true) : (l.take (x + 1)).all rtC = true := by
  rw [List.take_succ_eq_append_getElem hx, List.all_append, h]
  rw [getD_lt l z44 hx] at h1
  simp [h1]
section
variable (A : Option Addr) (c : Nat) (l : List S44)
set_option maxHeartbeats 16000000 in
set_option maxRecDepth 100000 in
theorem rnew_calls (w w0 : World) (hB : Below w0.heap.size w0 w) (h : Kd.C k44 w0 A l.length l) (hn : l.length ≤ 20) : Calls Try.prog 47 #[.slice A l.length c] w fun e w' => RMade w0 l e w' ∧ Below w.heap.size w w' := by
  have hu90 := Try.underlying90
  have hu44 := Try.underlying44
  have HC := asd (Kd.C_below h hB)
  have HN := asd hn
  have HB0 := asd hB
  clear h hB
  by_cases h6 : 6 < (l.length : Int)
  · have d6 : decide (6 < (l.length : Int)) = true := decide_eq_true h6
    have d7 : decide ((l.length : Int) > 6) = true := d6
    have NO : Aside0 (¬ (l.length ≤ 6 ∧ l.all rtC = true)) := ⟨fun h => by omega⟩
    clear h6 hn
    go_enter Try.func47, Try.ntmps47
    go_wp2
    go_ret
    exact ⟨by unfold RMade; rw [if_neg NO.out]; rfl, Below.refl _ _⟩
  have d6 : decide (6 < (l.length : Int)) = false := decide_eq_false h6
  have d7 : decide ((l.length : Int) > 6) = false := d6
  have N6 : Aside0 (l.length ≤ 6) := ⟨by omega⟩
  clear h6 hn
  go_enter Try.func47, Try.ntmps47
  go_wp2
  go_loopw [3] (fun v wr => ∃ (x : Int), v = .int .i64 x ∧ Aside0 (0 ≤ x ∧ x ≤ l.length ∧ (l.take x.toNat).all rtC = true) ∧ Aside0 (Below w.heap.size w wr)) (fun v _ => l.length - (intOf v).toNat)
  case atStart => exact ⟨0, rfl, ⟨by omega, by omega, by simp⟩, ⟨Below.refl _ _⟩⟩
  case round =>
    obtain ⟨x, rfl, HX, HB⟩ := hrel
    have HX0 : 0 ≤ x := HX.out.1
    have h9 : x ≤ 1000 := by have := HX.out.2.1; have := HN.out; omega
    have wx : wrap64 (x + 1) = x + 1 := by unfold wrap64; omega
    by_cases hlt : x < (l.length : Int)
    · have p1 : (0 ≤ x) = True := eq_true HX0
      have q1 : (x < (l.length : Int)) = True := eq_true hlt
      obtain ⟨ad, rfl, y0, y1, y2, y3, y4, y5⟩ := at_T44 (Kd.C_below HC.out HB.out) x HX0 hlt
      have HR := asd (right68 (rd_T44 l x))
      have ee : l.getD x.toNat z44 = rd_T44 l x := rfl
      cases hr : rtC (rd_T44 l x) with
      | false =>
        rw [hr] at HR
        have NO : Aside0 (¬ (l.length ≤ 6 ∧ l.all rtC = true)) := ⟨fun h => by rw [all_no rtC l x.toNat (by omega) z44 hr] at h; exact absurd h.2 (by simp)⟩
        clear hr ee
        go_wp2_with (first | (go_at_call 68; refine (HR.out _).mono ?_; rintro e w3 ⟨rfl, hb⟩; have HB3 := asd (below_step HB.out hb); clear hb))
        go_ret
        exact ⟨by unfold RMade; rw [if_neg NO.out]; rfl, HB3.out⟩
      | true =>
        rw [hr] at HR
        have ALL : Aside0 ((l.take (x + 1).toNat).all rtC = true) := ⟨by
          rw [show (x + 1).toNat = x.toNat + 1 by omega]
          exact all_takeR (by omega) HX.out.2.2 (by rw [ee]; exact hr)⟩
        clear hr ee
        go_wp2_with (first | (go_at_call 68; refine (HR.out _).mono ?_; rintro e w3 ⟨rfl, hb⟩; have HB3 := asd (below_step HB.out hb); clear hb))
        go_roundw
        case rel => exact ⟨x + 1, by go_num, ⟨by omega, by omega, ALL.out⟩, HB3⟩
        case measure => have := HX.out; simp [intOf]; omega
    · have hq : decide (x < (l.length : Int)) = false := decide_eq_false hlt
      have YES : Aside0 (l.length ≤ 6 ∧ l.all rtC = true) := ⟨N6.out, by have h1 := HX.out; rw [List.take_of_length_le (by omega)] at h1; exact h1.2.2⟩
      clear hlt HX HX0 h9 wx
      go_wp2_with (first | ((with_reducible refine gate_dst (N := 19) rfl ?_); refine Kd.R_lit k44 _ 44 ?hg (N := 19) ?hd (xs := ([] : List S44)) (inner := []) (ok := fun _ => True) (okp := fun _ => True) ?hr ?hp (fun _ hk => hk) trivial (Below.refl _ _) (Nat.le_refl _) (by simp) ?_; (case hd => rfl); (case hg => rfl); (case hr => first | (go_simp; done) | (go_simp; rfl)); (case hp => exact (Reps.none _ _)); intro v1 w1 ho hb hg hat; have HO := asd ho; have HB1 := asd (below_step HB.out hb); clear ho hb hg hat) | ((with_reducible refine gate_builtin (b := .append) (xs := #[.tmp 19, .tmp 20]) rfl ?_); at_builtin; refine Kd.R_append_rows k44 (w0 := w) w.heap.size rfl (.tmp 19) (.tmp 20) 22 44 (.agg #[.bool false, .int .i64 0, .int .i64 0, .int .i64 0, .int .i64 0, .int .i64 0]) 48 rfl Try.underlying22 info44 rfl (by decide) (by omega) v1 [] l _ _ _ (fun _ => True) (fun _ => False) rfl rfl ?aO ?aR (fun _ _ h => h) (fun _ h => h.elim) ?aF ?aB ?aS ?aL ?_; (case aR => exact Kd.C_below HC.out HB1.out); (case aB => exact HB1.out); (case aF => exact (fun _ _ => trivial)); (case aO => exact Kd.R_lower HO.out (below_size HB.out)); (case aS => exact below_size HB1.out); (case aL => have := N6.out; simp only [List.length_nil]; omega); intro v2 w2 ho2 hb2 hg2 hat2; have HO2 := asd ho2; have HB2 := asd hb2; clear ho2 hb2 hg2 hat2; obtain ⟨A9, c9, rfl⟩ := Kd.R_slice HO2.out))
      go_ret
      refine ⟨?_, below_alloc HB2.out _⟩
      have BP := heap_alloc_new w2 (.cells #[.slice A9 l.length c9, .int .i64 0, .int .i64 0, .int .i64 0, .int .i64 0, .slice none 0 0, .int .i64 0, .int .i64 0, .int .i64 0, .int .i64 0, .slice none 0 0, .int .i64 0, .int .i64 0, .int .i64 0, .int .i64 0, .slice none 0 0, .int .i64 0, .int .i64 0, .int .i64 0, .int .i64 0, .slice none 0 0, .int .i64 0, .int .i64 0, .int .i64 0, .int .i64 0, .slice none 0 0, .int .i64 0, .int .i64 0, .int .i64 0, .int .i64 0, .slice none 0 0, .bool false, .bool false, .bool false, .bool false, .bool false, .bool false, .bool false] 90)
      have hs : w0.heap.size ≤ w.heap.size := HB0.out.size
      have hs2 : w.heap.size ≤ w2.heap.size := below_size HB2.out
      unfold RMade
      rw [if_pos YES.out]
      refine ⟨w2.heap.size, ⟨l, A9, c9, fun _ => ⟨0, 0, 0, 0, []⟩, fun _ => .slice none 0 0, fun _ => false, false⟩, rfl, ⟨BP, by omega, ?_, YES.out.1, fun k hk => ?_, fun k hk => (by cases hk), ?_⟩, rfl, fun _ => rfl, rfl⟩
      · have h1 := Kd.R_lower HO2.out hs
        exact Kd.R_below (Kd.R_mono (Kd.R_bound h1) (fun k hk => by have := hk.2.2.1; omega)) (below_alloc (Below.refl _ _) _)
      · have h1 := List.all_eq_true.1 YES.out.2 (l.getD k z44) (by rw [getD_lt l z44 hk]; exact List.getElem_mem hk)
        exact h1
      · exact below_step HB0.out (below_alloc HB2.out _)
end
section
variable {w w0 : World} {r : Nat} {R : RD}
set_option maxHeartbeats 16000000 in
set_option maxRecDepth 100000 in
theorem rdue_calls (h : RTab w w0 r R) (k : Nat) (hk : R.is k = true) : Calls Try.prog 99 #[.pointer (some ⟨r, 0, none⟩), .int .i64 (k : Int)] w fun e w' => e = .returned (.int .i64 (dueT R.hi (R.tk k) (R.jr k))) ∧ Below w.heap.size w w' := by
  obtain ⟨hl, hj, _⟩ := h.job k hk
  have hk6 : k < 6 := by have := h.n6; omega
  have hu90 := Try.underlying90
  have hu44 := Try.underlying44
  have hu63 := Try.underlying63
  have hu88 := Try.underlying88
  have hu87 := Try.underlying87
  have x0 := h.cK
  have x37 := h.cHi
  have x1 := (h.cJ hk6).2.1
  obtain ⟨ad, hA, y0, y1, y2, y3, y4, y5⟩ := h.tkc hl
  rw [hA] at x0
  have hti := (rtC_iff _).1 (h.rt k hl)
  have har := hj.arr
  have n6 := h.n6
  have p0 : (0 ≤ (k : Int)) = True := eq_true (by omega)
  have p1 : ((k : Int) < (R.K.length : Int)) = True := eq_true (by omega)
  have p2 : ((k : Int) < 6) = True := eq_true (by omega)
  have p3 : (k < 6) = True := eq_true hk6
  have p4 : (k < R.K.length) = True := eq_true hl
  have w2 : wrap64 ((R.jr k).arr + (R.tk k).f2) = (R.jr k).arr + (R.tk k).f2 := by unfold wrap64; omega
  have w3 : wrap64 ((R.jr k).arr + (R.tk k).f3) = (R.jr k).arr + (R.tk k).f3 := by unfold wrap64; omega
  unfold dueT
  generalize R.tk k = x at y0 y1 y2 y3 y4 y5 w2 w3 ⊢
  generalize R.jr k = j at x1 w2 w3 ⊢
  generalize R.K.length = n at x0 p1 p4
  clear h hk hl hj hk6 hA hti har n6
  cases hh : R.hi with
  | true =>
    rw [hh] at x37
    clear hh
    go_enter Try.func99, Try.ntmps99
    go_wp2
    go_region
    go_wp2
    go_ret
    exact ⟨by simp [w2], below_drewN1 _ _⟩
  | false =>
    rw [hh] at x37
    clear hh
    go_enter Try.func99, Try.ntmps99
    go_wp2
    go_region
    go_wp2
    go_ret
    exact ⟨by simp [w3], below_drewN1 _ _⟩
def numR (f : Nat → Option JB) : Nat → Nat
  | 0 => 0
  | i + 1 => numR f i + b2 (f i)
theorem numR_le (f : Nat → Option JB) : ∀ i, numR f i ≤ i
  | 0 => Nat.le_refl _
  | i + 1 => by have := numR_le f i; have := b2_le (f i); show numR f i + b2 (f i) ≤ i + 1; omega
theorem numR_6 (f : Nat → Option JB) {n : Nat} (h6 : n ≤ 6) (h : ∀ k, n ≤ k → f k = none) : numR f n = numJ f := by
  have e : ∀ m, numR f (n + m) = numR f n := by
    intro m
    induction m with
    | zero => rfl
    | succ m ih => show numR f (n + m) + b2 (f (n + m)) = _; rw [ih, h _ (by omega)]; rfl
  have h1 := e (6 - n)
  rw [show n + (6 - n) = 6 by omega] at h1
  rw [← h1]
  show 0 + b2 (f 0) + b2 (f 1) + b2 (f 2) + b2 (f 3) + b2 (f 4) + b2 (f 5) = _
  unfold numJ; omega
theorem RTab.out_none (h : RTab w w0 r R) {k : Nat} (hk : R.K.length ≤ k) : R.js k = none := RD.js_none.2 (by
  cases q : R.is k with
  | false => rfl
  | true => have := (h.job k q).1; omega)
set_option maxHeartbeats 16000000 in
set_option maxRecDepth 100000 in
theorem rlen_calls (h : RTab w w0 r R) : Calls Try.prog 54 #[.pointer (some ⟨r, 0, none⟩)] w fun e w' => e = .returned (.int .i64 (numJ R.js)) ∧ w = w' := by
  have hu90 := Try.underlying90
  have hu88 := Try.underlying88
  have x0 := h.cK
  have H := asd h
  have hn6 := h.n6
  have CNT := asd (numR_6 R.js h.n6 (fun k hk => h.out_none hk))
  generalize hn : R.K.length = n at x0 hn6 CNT
  have HN := asd hn
  clear h hn
  go_enter Try.func54, Try.ntmps54
  go_wp2
  go_loopw [3, 4] (fun v3 v4 wr => ∃ (i : Nat), v4 = .int .i64 i ∧ v3 = .int .i64 (numR R.js i) ∧ Aside0 (i ≤ n) ∧ Aside0 (wr = w)) (fun _ v _ => n - (intOf v).toNat)
  case atStart => exact ⟨0, rfl, rfl, ⟨by omega⟩, ⟨rfl⟩⟩
  case round =>
    obtain ⟨i, rfl, rfl, HI, ⟨rfl⟩⟩ := hrel
    by_cases hlt : i < n
    · have hi6 : i < 6 := by omega
      have HL := asd hlt
      have wi : wrap64 ((i : Int) + 1) = ((i + 1 : Nat) : Int) := by unfold wrap64; omega
      have wj : wrap64 ((numR R.js i : Int) + 1) = ((numR R.js i + 1 : Nat) : Int) := by have := numR_le R.js i; unfold wrap64; omega
      have y := H.out.cIs hi6
      have NL := asd (numR_le R.js i)
      have p0 : (0 ≤ (i : Int)) = True := eq_true (by omega)
      have p1 : ((i : Int) < (n : Int)) = True := eq_true (by omega)
      have p2 : ((i : Int) < 6) = True := eq_true (by omega)
      have p3 : (i < 6) = True := eq_true hi6
      have p4 : (i < n) = True := eq_true hlt
      have d1 : decide ((i : Int) < (n : Int)) = true := decide_eq_true (by omega)
      have d2 : decide (i < n) = true := decide_eq_true hlt
      cases hb : R.is i with
      | false =>
        rw [hb] at y
        have STP : Aside0 (numR R.js (i + 1) = numR R.js i) := ⟨by show numR R.js i + b2 (R.js i) = _; rw [RD.js_none.2 hb]; rfl⟩
        clear hb hlt hi6
        go_wp2
        go_roundw
        case rel => exact ⟨i + 1, by rw [wi], by rw [STP.out], ⟨by have := HL.out; omega⟩, by first | exact ⟨rfl⟩ | exact ⟨trivial⟩⟩
        case measure => rw [wi]; exact Nat.sub_lt_sub_left HL.out (Nat.lt_succ_self i)
      | true =>
        rw [hb] at y
        have STP : Aside0 (numR R.js (i + 1) = numR R.js i + 1) := ⟨by show numR R.js i + b2 (R.js i) = _; unfold RD.js; rw [if_pos hb]; rfl⟩
        clear hb hlt hi6
        go_wp2
        go_roundw
        case rel =>
          refine ⟨i + 1, by rw [wi], ?_, ⟨by have := HL.out; omega⟩, by first | exact ⟨rfl⟩ | exact ⟨trivial⟩⟩
          rw [STP.out, wj]
        case measure => rw [wi]; exact Nat.sub_lt_sub_left HL.out (Nat.lt_succ_self i)
    · have e : i = n := by have := HI.out; omega
      subst e
      have d1 : decide ((i : Int) < (i : Int)) = false := decide_eq_false (by omega)
      have d2 : decide (i < i) = false := decide_eq_false (by omega)
      have p4 : (i < i) = False := eq_false (by omega)
      clear hlt
      go_wp2
      go_ret
      exact ⟨congrArg (fun m : Nat => Ending.returned (.int .i64 (m : Int))) CNT.out, rfl⟩
end
end Go.Proofs.Ytjekfipaadbbbaa.Fn
namespace Go.Proofs.Ytjekfipaadbbbaa.Fn
open Go.RowKit Go.Proofs.YtjekfipaadbbbaaW.PrintWords Go.Proofs.YtjekfipaadbbbaaW.PrintLast Go.Proofs.YtjekfipaadbbbaaW.PrintMore
set_option linter.unusedVariables false
set_option linter.unusedSimpArgs false
def RD.du (R : RD) (k : Nat) : Int := dueT R.hi (R.tk k) (R.jr k)
def RD.Best (R : RD) (i : Nat) (b : Int) : Prop := (b = -1 ∧ ∀ m, m < i → R.is m = false) ∨ ∃ k : Nat, b = k ∧ k < i ∧ R.is k = true ∧ ∀ m, m < i → R.is m = true → R.du k < R.du m ∨ (R.du k = R.du m ∧ k ≤ m)
def RD.Least (R : RD) (k : Nat) : Prop := R.is k = true ∧ ∀ m, R.is m = true → R.du k < R.du m ∨ (R.du k = R.du m ∧ k ≤ m)
theorem RD.Best.skip {R : RD} {i : Nat} {b : Int} (h : R.Best i b) (hi : R.is i = false) : R.Best (i + 1) b := by
 rcases h with ⟨h1, h2⟩ | ⟨k, h1, h2, h3, h4⟩
 ·refine .inl ⟨h1, fun m hm => ?_⟩
  by_cases e : m = i
  ·rw [e]; exact hi
  ·exact h2 m (by omega)
 ·refine .inr ⟨k, h1, by omega, h3, fun m hm hs => ?_⟩
  by_cases e : m = i
  ·rw [e, hi] at hs; cases hs
  ·exact h4 m (by omega) hs
theorem RD.Best.first {R : RD} {i : Nat} (h : R.Best i (-1)) (hi : R.is i = true) : R.Best (i + 1) i := by
 rcases h with ⟨_, h2⟩ | ⟨k, h1, _⟩
 ·refine .inr ⟨i, rfl, by omega, hi, fun m hm hs => ?_⟩
  by_cases e : m = i
  ·rw [e]; exact .inr ⟨rfl, Nat.le_refl _⟩
  ·rw [h2 m (by omega)] at hs; cases hs
 ·omega
theorem RD.Best.less {R : RD} {i k : Nat} (h : R.Best i (k : Int)) (hi : R.is i = true) (hl : R.du i < R.du k) : R.Best (i + 1) i := by
 rcases h with ⟨h1, _⟩ | ⟨k', h1, h2, h3, h4⟩
 ·omega
 ·obtain rfl : k = k' := by omega
  refine .inr ⟨i, rfl, by omega, hi, fun m hm hs => ?_⟩
  by_cases e : m = i
  ·rw [e]; exact .inr ⟨rfl, Nat.le_refl _⟩
  ·rcases h4 m (by omega) hs with q | q
   ·exact .inl (by omega)
   ·exact .inl (by omega)
theorem RD.Best.keep {R : RD} {i k : Nat} (h : R.Best i (k : Int)) (hl : ¬ R.du i < R.du k) : R.Best (i + 1) k := by
 rcases h with ⟨h1, _⟩ | ⟨k', h1, h2, h3, h4⟩
 ·omega
 ·obtain rfl : k = k' := by omega
  refine .inr ⟨k, rfl, by omega, h3, fun m hm hs => ?_⟩
  by_cases e : m = i
  ·subst e
   by_cases q : R.du k < R.du m
   ·exact .inl q
   ·exact .inr ⟨by omega, by omega⟩
  ·exact h4 m (by omega) hs
section
variable {w w0 : World} {r : Nat} {R : RD}
theorem RTab.best (h : RTab w w0 r R) {b : Int} (hb : R.Best R.K.length b) : (b = -1 ∧ ∀ k, R.js k = none) ∨ ∃ k : Nat, b = k ∧ R.Least k := by
 rcases hb with ⟨h1, h2⟩ | ⟨k, h1, h2, h3, h4⟩
 ·refine .inl ⟨h1, fun m => ?_⟩
  by_cases q : m < R.K.length
  ·exact RD.js_none.2 (h2 m q)
  ·exact h.out_none (by omega)
 ·exact .inr ⟨k, h1, h3, fun m hm => h4 m (h.job m hm).1 hm⟩
set_option maxHeartbeats 16000000 in
set_option maxRecDepth 100000 in
theorem rfirst_all (h : RTab w w0 r R) : Calls Try.prog 49 #[.pointer (some ⟨r, 0, none⟩)] w fun e w' => ((∀ k, R.js k = none) ∧ e = .returned (.tuple #[.int .i64 0, .int .i64 0, .bool false]) ∨ ∃ k : Nat, R.Least k ∧ e = .returned (.tuple #[.int .i64 (k : Int), .int .i64 (R.du k), .bool true])) ∧ Below w.heap.size w w' := by
 have hu90 := Try.underlying90
 have hu88 := Try.underlying88
 have H := asd h
 have hn6 := h.n6
 generalize hn : R.K.length = n at hn6
 have HN := asd hn
 clear h hn
 go_enter Try.func49, Try.ntmps49
 go_wp2
 go_loopw [5, 6] (fun v5 v6 wr => ∃ (i : Nat) (b : Int), v6 = .int .i64 i ∧ v5 = .int .i64 b ∧ Aside0 (i ≤ n) ∧ Aside0 (R.Best i b) ∧ Aside0 (RTab wr w0 r R) ∧ Aside0 (Below w.heap.size w wr)) (fun _ v _ => n - (intOf v).toNat)
 case atStart => exact ⟨0, -1, rfl, rfl, ⟨by omega⟩, ⟨.inl ⟨rfl, fun m hm => by omega⟩⟩, H, ⟨Below.refl _ _⟩⟩
 case round =>
  obtain ⟨i, b, rfl, rfl, HI, HBE, HT, HB⟩ := hrel
  have x0 := HT.out.cK
  rw [HN.out] at x0
  by_cases hlt : i < n
  ·have hi6 : i < 6 := by omega
   have HL := asd hlt
   have wi : wrap64 ((i : Int) + 1) = ((i + 1 : Nat) : Int) := by unfold wrap64; omega
   have y := HT.out.cIs hi6
   have p0 : (0 ≤ (i : Int)) = True := eq_true (by omega)
   have p1 : ((i : Int) < (n : Int)) = True := eq_true (by omega)
   have p2 : ((i : Int) < 6) = True := eq_true (by omega)
   have p3 : (i < 6) = True := eq_true (by omega)
   have p4 : (i < n) = True := eq_true (by omega)
   have d1 : decide ((i : Int) < (n : Int)) = true := decide_eq_true (by omega)
   have d2 : decide (i < n) = true := decide_eq_true (by omega)
   cases hb : R.is i with
   | false =>
    rw [hb] at y
    have STP := asd (HBE.out.skip hb)
    clear hb hlt hi6
    go_wp2
    go_roundw
    case rel => exact ⟨i + 1, b, by rw [wi], rfl, ⟨by have := HL.out; omega⟩, STP, HT, HB⟩
    case measure => rw [wi]; exact Nat.sub_lt_sub_left HL.out (Nat.lt_succ_self i)
   | true =>
    rw [hb] at y
    have hbe := HBE.out
    rcases hbe with ⟨rfl, _⟩ | ⟨k, rfl, _, hkk, _⟩
    ·have STP := asd (HBE.out.first hb)
     clear hb hlt hi6
     go_wp2
     go_roundw
     case rel => exact ⟨i + 1, i, by rw [wi], rfl, ⟨by have := HL.out; omega⟩, STP, HT, HB⟩
     case measure => rw [wi]; exact Nat.sub_lt_sub_left HL.out (Nat.lt_succ_self i)
    ·have g0 : decide ((k : Int) < 0) = false := decide_eq_false (by omega)
     have DI : R.du i = dueT R.hi (R.tk i) (R.jr i) := rfl
     have DK : R.du k = dueT R.hi (R.tk k) (R.jr k) := rfl
     by_cases hl : R.du i < R.du k
     ·have g1 : decide (R.du i < R.du k) = true := decide_eq_true hl
      have STP := asd (HBE.out.less hb hl)
      rw [DI, DK] at g1
      clear hlt hi6 hl DI DK
      go_wp2_with fail
      refine (rdue_calls HT.out i hb).mono ?_
      rintro e wa ⟨rfl, hba⟩
      have HTa := asd (HT.out.below hba)
      have HBa := asd (below_step HB.out hba)
      clear hba
      go_wp2_with fail
      refine (rdue_calls HTa.out k hkk).mono ?_
      rintro e wb ⟨rfl, hbb⟩
      have HTb := asd (HTa.out.below hbb)
      have HBb := asd (below_step HBa.out hbb)
      clear hbb
      go_wp2
      go_roundw
      case rel => exact ⟨i + 1, i, by rw [wi], rfl, ⟨by have := HL.out; omega⟩, STP, HTb, HBb⟩
      case measure => rw [wi]; exact Nat.sub_lt_sub_left HL.out (Nat.lt_succ_self i)
     ·have g1 : decide (R.du i < R.du k) = false := decide_eq_false hl
      have STP := asd (HBE.out.keep hl)
      rw [DI, DK] at g1
      clear hlt hi6 hl DI DK
      go_wp2_with fail
      refine (rdue_calls HT.out i hb).mono ?_
      rintro e wa ⟨rfl, hba⟩
      have HTa := asd (HT.out.below hba)
      have HBa := asd (below_step HB.out hba)
      clear hba
      go_wp2_with fail
      refine (rdue_calls HTa.out k hkk).mono ?_
      rintro e wb ⟨rfl, hbb⟩
      have HTb := asd (HTa.out.below hbb)
      have HBb := asd (below_step HBa.out hbb)
      clear hbb
      go_wp2
      go_roundw
      case rel => exact ⟨i + 1, k, by rw [wi], rfl, ⟨by have := HL.out; omega⟩, STP, HTb, HBb⟩
      case measure => rw [wi]; exact Nat.sub_lt_sub_left HL.out (Nat.lt_succ_self i)
  ·have e : i = n := by have := HI.out; omega
   subst e
   have d1 : decide ((i : Int) < (i : Int)) = false := decide_eq_false (by omega)
   have d2 : decide (i < i) = false := decide_eq_false (by omega)
   have p4 : (i < i) = False := eq_false (by omega)
   have hbe := HBE.out
   rw [← HN.out] at hbe
   rcases HT.out.best hbe with ⟨rfl, hno⟩ | ⟨k, rfl, hle⟩
   ·have NO := asd hno
    clear hlt hbe hno
    go_wp2
    go_ret3
    exact ⟨.inl ⟨NO.out, rfl⟩, HB.out⟩
   ·have g0 : decide ((k : Int) < 0) = false := decide_eq_false (by omega)
    have LE := asd hle
    clear hlt hbe hle
    go_wp2_with (first | (go_at_call 99; refine (rdue_calls HT.out k LE.out.1).mono ?_; rintro e wa ⟨rfl, hba⟩; have HBa := asd (below_step HB.out hba); clear hba))
    go_ret3
    exact ⟨.inr ⟨k, LE.out, rfl⟩, HBa.out⟩
theorem rfirst_none (h : RTab w w0 r R) (hn : ∀ k, R.js k = none) : Calls Try.prog 49 #[.pointer (some ⟨r, 0, none⟩)] w fun e w' => e = .returned (.tuple #[.int .i64 0, .int .i64 0, .bool false]) ∧ Below w.heap.size w w' :=
 (rfirst_all h).mono (fun e w' q => ⟨by
  exact q.1.elim (fun q1 => q1.2) (fun ⟨k, q1, _⟩ => by have := RD.js_none.1 (hn k); rw [q1.1] at this; exact absurd this (by simp)), q.2⟩)
theorem rfirst_some (h : RTab w w0 r R) {k0 : Nat} (hk : R.is k0 = true) : Calls Try.prog 49 #[.pointer (some ⟨r, 0, none⟩)] w fun e w' => (∃ k : Nat, e = .returned (.tuple #[.int .i64 (k : Int), .int .i64 (R.du k), .bool true]) ∧ R.Least k) ∧ Below w.heap.size w w' :=
 (rfirst_all h).mono (fun e w' q => ⟨by
  rcases q.1 with ⟨q1, _⟩ | ⟨k, q1, q2⟩
  ·have := RD.js_none.1 (q1 k0); rw [hk] at this; exact absurd this (by simp)
  ·exact ⟨k, q2, q1⟩, q.2⟩)
set_option maxHeartbeats 16000000 in
set_option maxRecDepth 100000 in
theorem rget_none (h : RTab w w0 r R) (k : Int) (hk : k < 0 ∨ R.js k.toNat = none) : Calls Try.prog 50 #[.pointer (some ⟨r, 0, none⟩), .int .i64 k] w fun e w' => e = .returned (.tuple #[.agg #[.int .i64 0, .int .i64 0, .int .i64 0, .int .i64 0, .slice none 0 0], .bool false]) ∧ Below w.heap.size w w' := by
 have hu90 := Try.underlying90
 have hu88 := Try.underlying88
 have hu63 := Try.underlying63
 have Z := asd (heap_alloc_new w (.cells #[.int .i64 0, .int .i64 0, .int .i64 0, .int .i64 0, .slice none 0 0] 63))
 have HB := asd (below_alloc (Below.refl w.heap.size w) (.cells #[.int .i64 0, .int .i64 0, .int .i64 0, .int .i64 0, .slice none 0 0] 63))
 have H1 := h.below HB.out
 have n6 := h.n6
 have x0 := H1.cK
 by_cases h0 : k < 0
 ·have d0 : decide (k < 0) = true := decide_eq_true h0
  clear h hk H1 h0 n6
  go_enter Try.func50, Try.ntmps50
  go_wp2
  refine bodyPost_ret (results_row2 Try.results50 _ _ w.heap.size 63 #[.int .i64 0, .int .i64 0, .int .i64 0, .int .i64 0, .slice none 0 0] (0, 0) _ (.bool false) rfl rfl Z.out Try.underlying63 rfl (by kernel_rfl)) rfl ?_
  exact ⟨rfl, HB.out⟩
 have d0 : decide (k < 0) = false := decide_eq_false h0
 by_cases h1 : k < (R.K.length : Int)
 ·obtain ⟨m, rfl⟩ : ∃ m : Nat, k = m := ⟨k.toNat, by omega⟩
  have hm : R.is m = false := RD.js_none.1 (by rcases hk with q | q; omega; simpa using q)
  have y := H1.cIs (k := m) (by omega)
  rw [hm] at y
  have hd1 : decide ((m : Int) ≥ (R.K.length : Int)) = false := decide_eq_false (by omega)
  have p2 : ((m : Int) < 6) = True := eq_true (by omega)
  have p3 : (m < 6) = True := eq_true (by omega)
  have p0 : (0 ≤ (m : Int)) = True := eq_true (by omega)
  have hd2 : decide ((R.K.length : Int) ≤ (m : Int)) = false := decide_eq_false (by omega)
  have hd3 : decide (R.K.length ≤ m) = false := decide_eq_false (by omega)
  generalize R.K.length = n at x0 hd1 hd2 hd3
  clear h hk H1 h0 n6 h1 hm
  go_enter Try.func50, Try.ntmps50
  go_wp2
  refine bodyPost_ret (results_row2 Try.results50 _ _ w.heap.size 63 #[.int .i64 0, .int .i64 0, .int .i64 0, .int .i64 0, .slice none 0 0] (0, 0) _ (.bool false) rfl rfl Z.out Try.underlying63 rfl (by kernel_rfl)) rfl ?_
  exact ⟨rfl, HB.out⟩
 ·have hd1 : decide (k ≥ (R.K.length : Int)) = true := decide_eq_true (by omega)
  have hd2 : decide ((R.K.length : Int) ≤ k) = true := decide_eq_true (by omega)
  generalize R.K.length = n at x0 hd1 hd2
  clear h hk H1 h0 n6 h1
  go_enter Try.func50, Try.ntmps50
  go_wp2
  refine bodyPost_ret (results_row2 Try.results50 _ _ w.heap.size 63 #[.int .i64 0, .int .i64 0, .int .i64 0, .int .i64 0, .slice none 0 0] (0, 0) _ (.bool false) rfl rfl Z.out Try.underlying63 rfl (by kernel_rfl)) rfl ?_
  exact ⟨rfl, HB.out⟩
set_option maxHeartbeats 16000000 in
set_option maxRecDepth 100000 in
theorem rget_some (h : RTab w w0 r R) (k : Nat) (hk : R.is k = true) : Calls Try.prog 50 #[.pointer (some ⟨r, 0, none⟩), .int .i64 (k : Int)] w fun e w' => ∃ (A : Option Addr) (c : Nat) (xs : List S134), e = .returned (.tuple #[.agg #[.int .i64 (R.jr k).tsk, .int .i64 (R.jr k).arr, .int .i64 (R.jr k).wrk, .int .i64 (R.jr k).dn, .slice A xs.length c], .bool true]) ∧ xs.length ≤ c ∧ Kd.C k134 w' A xs.length xs ∧ (R.jr k).ops = xs.map jop ∧ Below w.heap.size w w' := by
 have hu90 := Try.underlying90
 have hu88 := Try.underlying88
 have hu87 := Try.underlying87
 have hu63 := Try.underlying63
 obtain ⟨hl, hj, A, c, xs, hov, hxc, hC, hops⟩ := h.job k hk
 have Z := asd (heap_alloc_new w (.cells #[.int .i64 0, .int .i64 0, .int .i64 0, .int .i64 0, .slice none 0 0] 63))
 have HB := asd (below_alloc (Below.refl w.heap.size w) (.cells #[.int .i64 0, .int .i64 0, .int .i64 0, .int .i64 0, .slice none 0 0] 63))
 have H1 := h.below HB.out
 have n6 := h.n6
 have hk6 : k < 6 := by omega
 have x0 := H1.cK
 have y := H1.cIs hk6
 rw [hk] at y
 obtain ⟨y0, y1, y2, y3, y4⟩ := H1.cJ hk6
 rw [hov] at y4
 have p0 : (0 ≤ (k : Int)) = True := eq_true (by omega)
 have p2 : ((k : Int) < 6) = True := eq_true (by omega)
 have p3 : (k < 6) = True := eq_true (by omega)
 have d0 : decide ((k : Int) < 0) = false := decide_eq_false (by omega)
 have d1 : decide ((k : Int) ≥ (R.K.length : Int)) = false := decide_eq_false (by omega)
 have d2 : decide ((R.K.length : Int) ≤ (k : Int)) = false := decide_eq_false (by omega)
 have d3 : decide (R.K.length ≤ k) = false := decide_eq_false (by omega)
 have CC0 := asd (Kd.C_below hC h.fr)
 have OPS := asd (And.intro hxc hops)
 have z0 := (blk_cell Z.out 0).trans rfl
 have z1 := (blk_cell Z.out 1).trans rfl
 have z2 := (blk_cell Z.out 2).trans rfl
 have z3 := (blk_cell Z.out 3).trans rfl
 have z4 := (blk_cell Z.out 4).trans rfl
 have r0 := blk_frozen Z.out 0
 have r1 := blk_frozen Z.out 1
 have r2 := blk_frozen Z.out 2
 have r3 := blk_frozen Z.out 3
 have r4 := blk_frozen Z.out 4
 generalize R.K.length = n at x0 d1 d2 d3
 generalize R.jr k = j at y0 y1 y2 y3 OPS ⊢
 clear h hk H1 n6 hk6 hl hj hov hxc hC hops
 go_enter Try.func50, Try.ntmps50
 go_wp2
 have F5 := heap_alloc_new w (.cells #[.int .i64 j.tsk, .int .i64 j.arr, .int .i64 j.wrk, .int .i64 j.dn, .slice A xs.length c] 63)
 refine bodyPost_ret (results_row2 Try.results50 _ _ w.heap.size 63 #[.int .i64 j.tsk, .int .i64 j.arr, .int .i64 j.wrk, .int .i64 j.dn, .slice A xs.length c] (0, 0) _ (.bool true) rfl rfl F5 Try.underlying63 rfl (by kernel_rfl)) rfl ?_
 have HB5 := below_alloc (Below.refl w.heap.size w) (.cells #[.int .i64 j.tsk, .int .i64 j.arr, .int .i64 j.wrk, .int .i64 j.dn, .slice A xs.length c] 63)
 refine ⟨A, c, xs, rfl, OPS.out.1, Kd.C_below CC0.out HB5, OPS.out.2, HB5⟩
end
end Go.Proofs.Ytjekfipaadbbbaa.Fn
namespace Go.Proofs.Ytjekfipaadbbbaa.Fn
open Go.RowKit Go.Proofs.YtjekfipaadbbbaaW.PrintWords Go.Proofs.YtjekfipaadbbbaaW.PrintLast Go.Proofs.YtjekfipaadbbbaaW.PrintMore
set_option linter.unusedVariables false
set_option linter.unusedSimpArgs false
def RAfter (w w0 w' : World) (r : Nat) (R : RD) (js' : Nat → Option JB) (hi' : Bool) : Prop := ∃ R', RTab w' w0 r R' ∧ R'.K = R.K ∧ R'.hi = hi' ∧ (∀ i, R'.js i = js' i) ∧ Chg (fun q => q = r) w w'
def RD.putJ (R : RD) (k : Nat) (j : JB) (v : Value) : RD := { R with jr := fun i => if i = k then j else R.jr i, ov := fun i => if i = k then v else R.ov i, is := fun i => if i = k then true else R.is i }
theorem putJ_js (R : RD) (k : Nat) (j : JB) (v : Value) (i : Nat) : (R.putJ k j v).js i = if i = k then some j else R.js i := by
 unfold RD.js RD.putJ
 by_cases e : i = k <;> simp [e]
theorem cells_is (R : RD) {k : Nat} (hk : k < 6) (a b c d e : Value) : (((((R.cells.setIfInBounds (1 + k * 5) a).setIfInBounds (1 + k * 5 + 1) b).setIfInBounds (1 + k * 5 + 2) c).setIfInBounds (1 + k * 5 + 3) d).setIfInBounds (1 + k * 5 + 4) e)[31 + k]? = some (.bool (R.is k)) := by
 rw [Array.getElem?_setIfInBounds_ne (by omega), Array.getElem?_setIfInBounds_ne (by omega), Array.getElem?_setIfInBounds_ne (by omega), Array.getElem?_setIfInBounds_ne (by omega), Array.getElem?_setIfInBounds_ne (by omega)]
 rcases (by omega : k = 0 ∨ k = 1 ∨ k = 2 ∨ k = 3 ∨ k = 4 ∨ k = 5) with rfl | rfl | rfl | rfl | rfl | rfl <;> rfl
section
variable {w w0 w1 : World} {r : Nat} {R : RD}
set_option maxHeartbeats 16000000 in
theorem RTab.putJ (h : RTab w w0 r R) {k : Nat} (hk : k < R.K.length) {j : JB} {A : Option Addr} {c : Nat} {xs : List S134} (hj : j.ok k) (hc : xs.length ≤ c) (hC : Kd.C k134 w0 A xs.length xs) (ho : j.ops = xs.map jop) (hk1 : Chg (fun q => q = r) w w1)
  (hb : w1.heap[r]? = some (.cells ((((((R.cells.setIfInBounds (1 + k * 5) (.int .i64 j.tsk)).setIfInBounds (1 + k * 5 + 1) (.int .i64 j.arr)).setIfInBounds (1 + k * 5 + 2) (.int .i64 j.wrk)).setIfInBounds (1 + k * 5 + 3) (.int .i64 j.dn)).setIfInBounds (1 + k * 5 + 4) (.slice A xs.length c)).setIfInBounds (31 + k) (.bool true)) 90 (0, 0))) : RTab w1 w0 r (R.putJ k j (.slice A xs.length c)) :=
 h.put hk1 (by
  rw [hb]
  have n6 := h.n6
  rcases (by omega : k = 0 ∨ k = 1 ∨ k = 2 ∨ k = 3 ∨ k = 4 ∨ k = 5) with rfl | rfl | rfl | rfl | rfl | rfl <;> rfl) rfl rfl rfl (fun i hi => by
  by_cases e : i = k
  ·subst e
   have e1 : (R.putJ i j (.slice A xs.length c)).jr i = j := by unfold RD.putJ; simp
   have e2 : (R.putJ i j (.slice A xs.length c)).ov i = .slice A xs.length c := by unfold RD.putJ; simp
   rw [e1, e2]
   exact ⟨hk, hj, A, c, xs, rfl, hc, hC, ho⟩
  ·have e1 : (R.putJ k j (.slice A xs.length c)).jr i = R.jr i := by unfold RD.putJ; simp [e]
   have e2 : (R.putJ k j (.slice A xs.length c)).ov i = R.ov i := by unfold RD.putJ; simp [e]
   have e3 : (R.putJ k j (.slice A xs.length c)).is i = R.is i := by unfold RD.putJ; simp [e]
   rw [e3] at hi
   rw [e1, e2]
   exact h.job i hi)
set_option maxHeartbeats 16000000 in
set_option maxRecDepth 100000 in
theorem rput_bad (h : RTab w w0 r R) (tsk arr wrk dn : Int) (A : Option Addr) (c : Nat) (xs : List S134) (hbad : ¬ (0 ≤ tsk ∧ tsk < R.K.length ∧ rjob arr wrk dn (xs.map jop) = true)) : Calls Try.prog 92 #[.pointer (some ⟨r, 0, none⟩), .agg #[.int .i64 tsk, .int .i64 arr, .int .i64 wrk, .int .i64 dn, .slice A xs.length c]] w fun e w' => e = .returned (.int .i64 1) ∧ Below w.heap.size w w' := by
 have hu90 := Try.underlying90
 have hu88 := Try.underlying88
 have hu87 := Try.underlying87
 have hu63 := Try.underlying63
 have hu44 := Try.underlying44
 have Z := asd (heap_alloc_new w (.cells #[.int .i64 tsk, .int .i64 arr, .int .i64 wrk, .int .i64 dn, .slice A xs.length c] 63))
 have HB := asd (below_alloc (Below.refl w.heap.size w) (.cells #[.int .i64 tsk, .int .i64 arr, .int .i64 wrk, .int .i64 dn, .slice A xs.length c] 63))
 have H1 := asd (h.below HB.out)
 have x0 := H1.out.cK
 have z0 := (blk_cell Z.out 0).trans rfl
 have z1 := (blk_cell Z.out 1).trans rfl
 have z2 := (blk_cell Z.out 2).trans rfl
 have z3 := (blk_cell Z.out 3).trans rfl
 have z4 := (blk_cell Z.out 4).trans rfl
 generalize R.K.length = n at x0 hbad
 clear h
 by_cases c0 : tsk < 0
 ·have t0_0 : decide (tsk < 0) = true := decide_eq_true (by omega)
  clear hbad c0
  go_enter Try.func92, Try.ntmps92
  go_wp2
  go_big_region
  go_wp2
  go_ret
  exact ⟨rfl, below_step HB.out (below_drewN1 _ _)⟩

 have t0_0 : decide (tsk < 0) = false := decide_eq_false (by omega)
 by_cases c1 : (n : Int) ≤ tsk
 ·have t1_0 : decide (tsk ≥ (n : Int)) = true := decide_eq_true (by omega)
  have t1_1 : decide ((n : Int) ≤ tsk) = true := decide_eq_true (by omega)
  clear hbad c0 c1
  go_enter Try.func92, Try.ntmps92
  go_wp2
  go_big_region
  go_wp2
  go_ret
  exact ⟨rfl, below_step HB.out (below_drewN1 _ _)⟩

 have t1_0 : decide (tsk ≥ (n : Int)) = false := decide_eq_false (by omega)
 have t1_1 : decide ((n : Int) ≤ tsk) = false := decide_eq_false (by omega)
 by_cases c2 : arr < 0
 ·have t2_0 : decide (arr < 0) = true := decide_eq_true (by omega)
  clear hbad c0 c1 c2
  go_enter Try.func92, Try.ntmps92
  go_wp2
  go_big_region
  go_wp2
  go_ret
  exact ⟨rfl, below_step HB.out (below_drewN1 _ _)⟩

 have t2_0 : decide (arr < 0) = false := decide_eq_false (by omega)
 by_cases c3 : 4611686018427387904 < arr
 ·have t3_0 : decide (arr > 4611686018427387904) = true := decide_eq_true (by omega)
  have t3_1 : decide (4611686018427387904 < arr) = true := decide_eq_true (by omega)
  clear hbad c0 c1 c2 c3
  go_enter Try.func92, Try.ntmps92
  go_wp2
  go_big_region
  go_wp2
  go_ret
  exact ⟨rfl, below_step HB.out (below_drewN1 _ _)⟩

 have t3_0 : decide (arr > 4611686018427387904) = false := decide_eq_false (by omega)
 have t3_1 : decide (4611686018427387904 < arr) = false := decide_eq_false (by omega)
 by_cases c4 : wrk < 1
 ·have t4_0 : decide (wrk < 1) = true := decide_eq_true (by omega)
  clear hbad c0 c1 c2 c3 c4
  go_enter Try.func92, Try.ntmps92
  go_wp2
  go_big_region
  go_wp2
  go_ret
  exact ⟨rfl, below_step HB.out (below_drewN1 _ _)⟩

 have t4_0 : decide (wrk < 1) = false := decide_eq_false (by omega)
 by_cases c5 : 1048576 < wrk
 ·have t5_0 : decide (wrk > 1048576) = true := decide_eq_true (by omega)
  have t5_1 : decide (1048576 < wrk) = true := decide_eq_true (by omega)
  clear hbad c0 c1 c2 c3 c4 c5
  go_enter Try.func92, Try.ntmps92
  go_wp2
  go_big_region
  go_wp2
  go_ret
  exact ⟨rfl, below_step HB.out (below_drewN1 _ _)⟩

 have t5_0 : decide (wrk > 1048576) = false := decide_eq_false (by omega)
 have t5_1 : decide (1048576 < wrk) = false := decide_eq_false (by omega)
 by_cases c6 : dn ≠ 0
 ·have t6_0 : (dn == 0) = false := beq_eq_false_iff_ne.2 c6
  have t6_1 : (!(dn == 0)) = true := by rw [t6_0]; rfl
  have t6_2 : (dn != 0) = true := t6_1
  have t6_3 : decide (dn = 0) = false := decide_eq_false c6
  clear hbad c0 c1 c2 c3 c4 c5 c6
  go_enter Try.func92, Try.ntmps92
  go_wp2
  go_big_region
  go_wp2
  go_ret
  exact ⟨rfl, below_step HB.out (below_drewN1 _ _)⟩
 obtain rfl : dn = 0 := by omega
 have t6_0 : ((0 : Int) == 0) = true := beq_iff_eq.2 (by omega)
 have t6_1 : (!((0 : Int) == 0)) = false := by rw [t6_0]; rfl
 have t6_2 : ((0 : Int) != 0) = false := t6_1
 have t6_3 : decide ((0 : Int) = 0) = true := decide_eq_true (by omega)
 by_cases c7 : 64 < xs.length
 ·have t7_0 : decide ((xs.length : Int) > 64) = true := decide_eq_true (by omega)
  have t7_1 : decide (64 < (xs.length : Int)) = true := decide_eq_true (by omega)
  have t7_2 : decide (xs.length > 64) = true := decide_eq_true (by omega)
  have t7_3 : decide (64 < xs.length) = true := decide_eq_true (by omega)
  clear hbad c0 c1 c2 c3 c4 c5 c6 c7
  go_enter Try.func92, Try.ntmps92
  go_wp2
  go_big_region
  go_wp2
  go_ret
  exact ⟨rfl, below_step HB.out (below_drewN1 _ _)⟩

 have t7_0 : decide ((xs.length : Int) > 64) = false := decide_eq_false (by omega)
 have t7_1 : decide (64 < (xs.length : Int)) = false := decide_eq_false (by omega)
 have t7_2 : decide (xs.length > 64) = false := decide_eq_false (by omega)
 have t7_3 : decide (64 < xs.length) = false := decide_eq_false (by omega)
 exact absurd ⟨by omega, by omega, by unfold rjob; exact decide_eq_true ⟨by omega, by omega, by omega, by rw [List.length_map]; omega⟩⟩ hbad
set_option maxHeartbeats 16000000 in
set_option maxRecDepth 100000 in
theorem rput_there (h : RTab w w0 r R) (k : Nat) (arr wrk dn : Int) (A : Option Addr) (c : Nat) (xs : List S134) (hk : k < R.K.length) (hb0 : R.is k = true) (hj : rjob arr wrk dn (xs.map jop) = true) : Calls Try.prog 92 #[.pointer (some ⟨r, 0, none⟩), .agg #[.int .i64 (k : Int), .int .i64 arr, .int .i64 wrk, .int .i64 dn, .slice A xs.length c]] w fun e w' => e = .returned (.int .i64 4) ∧ Below w.heap.size w w' := by
 obtain ⟨⟨j1, j2⟩, ⟨j3, j4⟩, rfl, j6⟩ := of_decide_eq_true hj
 rw [List.length_map] at j6
 have n6 := h.n6
 have hk6 : k < 6 := by omega
 have hu90 := Try.underlying90
 have hu88 := Try.underlying88
 have hu87 := Try.underlying87
 have hu63 := Try.underlying63
 have hu44 := Try.underlying44
 have Z := asd (heap_alloc_new w (.cells #[.int .i64 (k : Int), .int .i64 arr, .int .i64 wrk, .int .i64 0, .slice A xs.length c] 63))
 have HB := asd (below_alloc (Below.refl w.heap.size w) (.cells #[.int .i64 (k : Int), .int .i64 arr, .int .i64 wrk, .int .i64 0, .slice A xs.length c] 63))
 have H1 := asd (h.below HB.out)
 have x0 := H1.out.cK
 have z0 := (blk_cell Z.out 0).trans rfl
 have z1 := (blk_cell Z.out 1).trans rfl
 have z2 := (blk_cell Z.out 2).trans rfl
 have z3 := (blk_cell Z.out 3).trans rfl
 have z4 := (blk_cell Z.out 4).trans rfl
 have y := H1.out.cIs hk6
 have p0 : (0 ≤ (k : Int)) = True := eq_true (by omega)
 have p1 : ((k : Int) < (R.K.length : Int)) = True := eq_true (by omega)
 have p2 : ((k : Int) < 6) = True := eq_true (by omega)
 have p3 : (k < 6) = True := eq_true hk6
 have p4 : (k < R.K.length) = True := eq_true hk
 have p5 : (0 ≤ k) = True := eq_true (Nat.zero_le _)
 rw [hb0] at y
 generalize R.K.length = n at x0 hk p1 p4
 have t0_0 : decide ((k : Int) < 0) = false := decide_eq_false (by omega)
 have t1_0 : decide ((k : Int) ≥ (n : Int)) = false := decide_eq_false (by omega)
 have t1_1 : decide ((n : Int) ≤ (k : Int)) = false := decide_eq_false (by omega)
 have t2_0 : decide (arr < 0) = false := decide_eq_false (by omega)
 have t3_0 : decide (arr > 4611686018427387904) = false := decide_eq_false (by omega)
 have t3_1 : decide (4611686018427387904 < arr) = false := decide_eq_false (by omega)
 have t4_0 : decide (wrk < 1) = false := decide_eq_false (by omega)
 have t5_0 : decide (wrk > 1048576) = false := decide_eq_false (by omega)
 have t5_1 : decide (1048576 < wrk) = false := decide_eq_false (by omega)
 have t6_0 : ((0 : Int) == 0) = true := beq_iff_eq.2 (by omega)
 have t6_1 : (!((0 : Int) == 0)) = false := by rw [t6_0]; rfl
 have t6_2 : ((0 : Int) != 0) = false := t6_1
 have t6_3 : decide ((0 : Int) = 0) = true := decide_eq_true (by omega)
 have t7_0 : decide ((xs.length : Int) > 64) = false := decide_eq_false (by omega)
 have t7_1 : decide (64 < (xs.length : Int)) = false := decide_eq_false (by omega)
 have t7_2 : decide (xs.length > 64) = false := decide_eq_false (by omega)
 have t7_3 : decide (64 < xs.length) = false := decide_eq_false (by omega)
 have t9_0 : decide (n ≤ k) = false := decide_eq_false (by omega)
 have t9_1 : decide (k ≥ n) = false := decide_eq_false (by omega)
 clear h hb0 hj hk hk6 n6
 go_enter Try.func92, Try.ntmps92
 go_wp2
 go_big_region
 go_wp2
 go_region
 go_wp2
 go_ret
 exact ⟨rfl, below_step (below_step HB.out (below_drewN1 _ _)) (below_drewN1 _ _)⟩
set_option maxHeartbeats 16000000 in
set_option maxRecDepth 100000 in
theorem rput_drop (h : RTab w w0 r R) (k : Nat) (arr wrk dn : Int) (A : Option Addr) (c : Nat) (xs : List S134) (hk : k < R.K.length) (hb0 : R.is k = false) (hh : R.hi = true) (hf : (R.tk k).f0 = false) (hj : rjob arr wrk dn (xs.map jop) = true) : Calls Try.prog 92 #[.pointer (some ⟨r, 0, none⟩), .agg #[.int .i64 (k : Int), .int .i64 arr, .int .i64 wrk, .int .i64 dn, .slice A xs.length c]] w fun e w' => e = .returned (.int .i64 42) ∧ Below w.heap.size w w' := by
 obtain ⟨⟨j1, j2⟩, ⟨j3, j4⟩, rfl, j6⟩ := of_decide_eq_true hj
 rw [List.length_map] at j6
 have n6 := h.n6
 have hk6 : k < 6 := by omega
 have hu90 := Try.underlying90
 have hu88 := Try.underlying88
 have hu87 := Try.underlying87
 have hu63 := Try.underlying63
 have hu44 := Try.underlying44
 have Z := asd (heap_alloc_new w (.cells #[.int .i64 (k : Int), .int .i64 arr, .int .i64 wrk, .int .i64 0, .slice A xs.length c] 63))
 have HB := asd (below_alloc (Below.refl w.heap.size w) (.cells #[.int .i64 (k : Int), .int .i64 arr, .int .i64 wrk, .int .i64 0, .slice A xs.length c] 63))
 have H1 := asd (h.below HB.out)
 have x0 := H1.out.cK
 have z0 := (blk_cell Z.out 0).trans rfl
 have z1 := (blk_cell Z.out 1).trans rfl
 have z2 := (blk_cell Z.out 2).trans rfl
 have z3 := (blk_cell Z.out 3).trans rfl
 have z4 := (blk_cell Z.out 4).trans rfl
 have y := H1.out.cIs hk6
 have p0 : (0 ≤ (k : Int)) = True := eq_true (by omega)
 have p1 : ((k : Int) < (R.K.length : Int)) = True := eq_true (by omega)
 have p2 : ((k : Int) < 6) = True := eq_true (by omega)
 have p3 : (k < 6) = True := eq_true hk6
 have p4 : (k < R.K.length) = True := eq_true hk
 have p5 : (0 ≤ k) = True := eq_true (Nat.zero_le _)
 have x37 := H1.out.cHi
 obtain ⟨ad, hA, v0, v1, v2, v3, v4, v5⟩ := H1.out.tkc hk
 rw [hA] at x0
 rw [hb0] at y
 rw [hh] at x37
 rw [hf] at v0
 generalize R.K.length = n at x0 hk p1 p4
 have t0_0 : decide ((k : Int) < 0) = false := decide_eq_false (by omega)
 have t1_0 : decide ((k : Int) ≥ (n : Int)) = false := decide_eq_false (by omega)
 have t1_1 : decide ((n : Int) ≤ (k : Int)) = false := decide_eq_false (by omega)
 have t2_0 : decide (arr < 0) = false := decide_eq_false (by omega)
 have t3_0 : decide (arr > 4611686018427387904) = false := decide_eq_false (by omega)
 have t3_1 : decide (4611686018427387904 < arr) = false := decide_eq_false (by omega)
 have t4_0 : decide (wrk < 1) = false := decide_eq_false (by omega)
 have t5_0 : decide (wrk > 1048576) = false := decide_eq_false (by omega)
 have t5_1 : decide (1048576 < wrk) = false := decide_eq_false (by omega)
 have t6_0 : ((0 : Int) == 0) = true := beq_iff_eq.2 (by omega)
 have t6_1 : (!((0 : Int) == 0)) = false := by rw [t6_0]; rfl
 have t6_2 : ((0 : Int) != 0) = false := t6_1
 have t6_3 : decide ((0 : Int) = 0) = true := decide_eq_true (by omega)
 have t7_0 : decide ((xs.length : Int) > 64) = false := decide_eq_false (by omega)
 have t7_1 : decide (64 < (xs.length : Int)) = false := decide_eq_false (by omega)
 have t7_2 : decide (xs.length > 64) = false := decide_eq_false (by omega)
 have t7_3 : decide (64 < xs.length) = false := decide_eq_false (by omega)
 have t9_0 : decide (n ≤ k) = false := decide_eq_false (by omega)
 have t9_1 : decide (k ≥ n) = false := decide_eq_false (by omega)
 clear h hb0 hj hk hk6 n6 hh hf hA
 go_enter Try.func92, Try.ntmps92
 go_wp2
 go_big_region
 go_wp2
 go_region
 go_wp2
 go_big_region
 go_wp2
 go_ret
 exact ⟨rfl, below_step (below_step (below_step HB.out (below_drewN1 _ _)) (below_drewN1 _ _)) (below_drewN1 _ _)⟩
set_option maxHeartbeats 16000000 in
set_option maxRecDepth 100000 in
theorem rput_ok (h : RTab w w0 r R) (k : Nat) (arr wrk : Int) (A : Option Addr) (c : Nat) (xs : List S134) (hk : k < R.K.length) (hb0 : R.is k = false) (hh : R.hi = false ∨ (R.tk k).f0 = true) (hC : Kd.C k134 w0 A xs.length xs) (hc : xs.length ≤ c) (hj : rjob arr wrk 0 (xs.map jop) = true) : Calls Try.prog 92 #[.pointer (some ⟨r, 0, none⟩), .agg #[.int .i64 (k : Int), .int .i64 arr, .int .i64 wrk, .int .i64 0, .slice A xs.length c]] w fun e w' => e = .returned (.int .i64 0) ∧ RAfter w w0 w' r R (fun i => if i = k then some ⟨k, arr, wrk, 0, xs.map jop⟩ else R.js i) R.hi := by
 obtain ⟨⟨j1, j2⟩, ⟨j3, j4⟩, _, j6⟩ := of_decide_eq_true hj
 rw [List.length_map] at j6
 have n6 := h.n6
 have hk6 : k < 6 := by omega
 have hu90 := Try.underlying90
 have hu88 := Try.underlying88
 have hu87 := Try.underlying87
 have hu63 := Try.underlying63
 have hu44 := Try.underlying44
 have Z := asd (heap_alloc_new w (.cells #[.int .i64 (k : Int), .int .i64 arr, .int .i64 wrk, .int .i64 0, .slice A xs.length c] 63))
 have HB := asd (below_alloc (Below.refl w.heap.size w) (.cells #[.int .i64 (k : Int), .int .i64 arr, .int .i64 wrk, .int .i64 0, .slice A xs.length c] 63))
 have H1 := asd (h.below HB.out)
 have x0 := H1.out.cK
 have z0 := (blk_cell Z.out 0).trans rfl
 have z1 := (blk_cell Z.out 1).trans rfl
 have z2 := (blk_cell Z.out 2).trans rfl
 have z3 := (blk_cell Z.out 3).trans rfl
 have z4 := (blk_cell Z.out 4).trans rfl
 have y := H1.out.cIs hk6
 have p0 : (0 ≤ (k : Int)) = True := eq_true (by omega)
 have p1 : ((k : Int) < (R.K.length : Int)) = True := eq_true (by omega)
 have p2 : ((k : Int) < 6) = True := eq_true (by omega)
 have p3 : (k < 6) = True := eq_true hk6
 have p4 : (k < R.K.length) = True := eq_true hk
 have p5 : (0 ≤ k) = True := eq_true (Nat.zero_le _)
 have x37 := H1.out.cHi
 obtain ⟨ad, hA, v0, v1, v2, v3, v4, v5⟩ := H1.out.tkc hk
 rw [hA] at x0
 rw [hb0] at y
 obtain ⟨q0, q1, q2, q3, q4⟩ := H1.out.cJ hk6
 have f0 := H1.out.frz (1 + k * 5)
 have f1 := H1.out.frz (1 + k * 5 + 1)
 have f2 := H1.out.frz (1 + k * 5 + 2)
 have f3 := H1.out.frz (1 + k * 5 + 3)
 have f4 := H1.out.frz (1 + k * 5 + 4)
 have f5 := H1.out.frz (31 + k)
 have HX := asd h
 have HK := asd hk
 have HCC := asd (And.intro hC hc)
 have HJJ : Aside0 (JB.ok ⟨k, arr, wrk, 0, xs.map jop⟩ k) := ⟨⟨rfl, ⟨j1, j2⟩, ⟨j3, j4⟩, ⟨Int.le_refl _, by show (0 : Int) ≤ wrk; omega⟩, by show (xs.map jop).length ≤ 64; rw [List.length_map]; exact j6⟩⟩
 have HI := asd (rfl : R.hi = R.hi)
 generalize hn : R.K.length = n at x0 hk p1 p4
 have t0_0 : decide ((k : Int) < 0) = false := decide_eq_false (by omega)
 have t1_0 : decide ((k : Int) ≥ (n : Int)) = false := decide_eq_false (by omega)
 have t1_1 : decide ((n : Int) ≤ (k : Int)) = false := decide_eq_false (by omega)
 have t2_0 : decide (arr < 0) = false := decide_eq_false (by omega)
 have t3_0 : decide (arr > 4611686018427387904) = false := decide_eq_false (by omega)
 have t3_1 : decide (4611686018427387904 < arr) = false := decide_eq_false (by omega)
 have t4_0 : decide (wrk < 1) = false := decide_eq_false (by omega)
 have t5_0 : decide (wrk > 1048576) = false := decide_eq_false (by omega)
 have t5_1 : decide (1048576 < wrk) = false := decide_eq_false (by omega)
 have t6_0 : ((0 : Int) == 0) = true := beq_iff_eq.2 (by omega)
 have t6_1 : (!((0 : Int) == 0)) = false := by rw [t6_0]; rfl
 have t6_2 : ((0 : Int) != 0) = false := t6_1
 have t6_3 : decide ((0 : Int) = 0) = true := decide_eq_true (by omega)
 have t7_0 : decide ((xs.length : Int) > 64) = false := decide_eq_false (by omega)
 have t7_1 : decide (64 < (xs.length : Int)) = false := decide_eq_false (by omega)
 have t7_2 : decide (xs.length > 64) = false := decide_eq_false (by omega)
 have t7_3 : decide (64 < xs.length) = false := decide_eq_false (by omega)
 have t9_0 : decide (n ≤ k) = false := decide_eq_false (by omega)
 have t9_1 : decide (k ≥ n) = false := decide_eq_false (by omega)
 have HK6 := asd hk6
 have HB0 := asd hb0
 cases hhi : R.hi with
 | false =>
  rw [hhi] at x37
  have HHI := asd hhi
  clear h hb0 hj hk hk6 n6 hh hA hn hhi hC hc HI
  go_enter Try.func92, Try.ntmps92
  go_wp2
  go_big_region
  go_wp2
  go_region
  go_wp2
  go_big_region
  go_wp2
  go_region
  have BR := asd (blk_set (blk_set (blk_set (blk_set (blk_set H1.out.blk (1 + k * 5) (.int .i64 (k : Int))) (1 + k * 5 + 1) (.int .i64 arr)) (1 + k * 5 + 2) (.int .i64 wrk)) (1 + k * 5 + 3) (.int .i64 0)) (1 + k * 5 + 4) (.slice A xs.length c))
  have CH := asd ((((((Chg.of_below HB.out (fun q => q = r)).set_ (p := ⟨r, 1 + k * 5, none⟩) (.inl rfl) (.int .i64 (k : Int))).set_ (p := ⟨r, 1 + k * 5 + 1, none⟩) (.inl rfl) (.int .i64 arr)).set_ (p := ⟨r, 1 + k * 5 + 2, none⟩) (.inl rfl) (.int .i64 wrk)).set_ (p := ⟨r, 1 + k * 5 + 3, none⟩) (.inl rfl) (.int .i64 0)).set_ (p := ⟨r, 1 + k * 5 + 4, none⟩) (.inl rfl) (.slice A xs.length c))
  have ZB := asd (blk_chg (w1 := ((((((w.alloc (.cells #[.int .i64 (k : Int), .int .i64 arr, .int .i64 wrk, .int .i64 0, .slice A xs.length c] 63)).setCell ⟨r, 1 + k * 5, none⟩ (.int .i64 (k : Int))).setCell ⟨r, 1 + k * 5 + 1, none⟩ (.int .i64 arr)).setCell ⟨r, 1 + k * 5 + 2, none⟩ (.int .i64 wrk)).setCell ⟨r, 1 + k * 5 + 3, none⟩ (.int .i64 0)).setCell ⟨r, 1 + k * 5 + 4, none⟩ (.slice A xs.length c))) Z.out ((((((Chg.refl (fun q => q = r) _).set_ (p := ⟨r, 1 + k * 5, none⟩) (.inl rfl) (.int .i64 (k : Int))).set_ (p := ⟨r, 1 + k * 5 + 1, none⟩) (.inl rfl) (.int .i64 arr)).set_ (p := ⟨r, 1 + k * 5 + 2, none⟩) (.inl rfl) (.int .i64 wrk)).set_ (p := ⟨r, 1 + k * 5 + 3, none⟩) (.inl rfl) (.int .i64 0)).set_ (p := ⟨r, 1 + k * 5 + 4, none⟩) (.inl rfl) (.slice A xs.length c)) (fun e => by have := blk_lt HX.out.blk; omega))
  clear x0 z0 z1 z2 z3 z4 x37 v0 v1 v2 v3 v4 v5 y q0 q1 q2 q3 q4 f0 f1 f2 f3 f4 f5
  generalize ((((((w.alloc (.cells #[.int .i64 (k : Int), .int .i64 arr, .int .i64 wrk, .int .i64 0, .slice A xs.length c] 63)).setCell ⟨r, 1 + k * 5, none⟩ (.int .i64 (k : Int))).setCell ⟨r, 1 + k * 5 + 1, none⟩ (.int .i64 arr)).setCell ⟨r, 1 + k * 5 + 2, none⟩ (.int .i64 wrk)).setCell ⟨r, 1 + k * 5 + 3, none⟩ (.int .i64 0)).setCell ⟨r, 1 + k * 5 + 4, none⟩ (.slice A xs.length c)) = wz at BR CH ZB ⊢
  have BR4 := asd (blk_drew (blk_drew (blk_drew (blk_drew BR.out))))
  have ZB4 := blk_drew (blk_drew (blk_drew (blk_drew ZB.out)))
  have CH4 := asd CH.out.drew.drew.drew.drew
  clear BR CH ZB
  generalize wz.drew.drew.drew.drew = wy at BR4 ZB4 CH4 ⊢
  have z0 := (blk_cell ZB4 0).trans rfl
  have y := (blk_cell BR4.out (31 + k)).trans (cells_is R HK6.out _ _ _ _ _)
  rw [HB0.out] at y
  have f5 := blk_frozen BR4.out (31 + k)
  clear ZB4
  go_wp2
  go_region
  go_wp2
  go_ret
  have hk1 := (CH4.out.set_ (p := ⟨r, 31 + k, none⟩) (.inl rfl) (.bool true)).drew
  exact ⟨rfl, _, HX.out.putJ HK.out HJJ.out HCC.out.2 HCC.out.1 rfl hk1 (blk_drew (blk_set BR4.out (31 + k) (.bool true))), rfl, HHI.out, putJ_js R k _ _, hk1⟩
 | true =>
  rw [hhi] at x37
  have hf : (R.tk k).f0 = true := hh.elim (fun q => by rw [hhi] at q; cases q) (fun q => q)
  rw [hf] at v0
  have HHI := asd hhi
  clear hf
  clear h hb0 hj hk hk6 n6 hh hA hn hhi hC hc HI
  go_enter Try.func92, Try.ntmps92
  go_wp2
  go_big_region
  go_wp2
  go_region
  go_wp2
  go_big_region
  go_wp2
  go_region
  have BR := asd (blk_set (blk_set (blk_set (blk_set (blk_set H1.out.blk (1 + k * 5) (.int .i64 (k : Int))) (1 + k * 5 + 1) (.int .i64 arr)) (1 + k * 5 + 2) (.int .i64 wrk)) (1 + k * 5 + 3) (.int .i64 0)) (1 + k * 5 + 4) (.slice A xs.length c))
  have CH := asd ((((((Chg.of_below HB.out (fun q => q = r)).set_ (p := ⟨r, 1 + k * 5, none⟩) (.inl rfl) (.int .i64 (k : Int))).set_ (p := ⟨r, 1 + k * 5 + 1, none⟩) (.inl rfl) (.int .i64 arr)).set_ (p := ⟨r, 1 + k * 5 + 2, none⟩) (.inl rfl) (.int .i64 wrk)).set_ (p := ⟨r, 1 + k * 5 + 3, none⟩) (.inl rfl) (.int .i64 0)).set_ (p := ⟨r, 1 + k * 5 + 4, none⟩) (.inl rfl) (.slice A xs.length c))
  have ZB := asd (blk_chg (w1 := ((((((w.alloc (.cells #[.int .i64 (k : Int), .int .i64 arr, .int .i64 wrk, .int .i64 0, .slice A xs.length c] 63)).setCell ⟨r, 1 + k * 5, none⟩ (.int .i64 (k : Int))).setCell ⟨r, 1 + k * 5 + 1, none⟩ (.int .i64 arr)).setCell ⟨r, 1 + k * 5 + 2, none⟩ (.int .i64 wrk)).setCell ⟨r, 1 + k * 5 + 3, none⟩ (.int .i64 0)).setCell ⟨r, 1 + k * 5 + 4, none⟩ (.slice A xs.length c))) Z.out ((((((Chg.refl (fun q => q = r) _).set_ (p := ⟨r, 1 + k * 5, none⟩) (.inl rfl) (.int .i64 (k : Int))).set_ (p := ⟨r, 1 + k * 5 + 1, none⟩) (.inl rfl) (.int .i64 arr)).set_ (p := ⟨r, 1 + k * 5 + 2, none⟩) (.inl rfl) (.int .i64 wrk)).set_ (p := ⟨r, 1 + k * 5 + 3, none⟩) (.inl rfl) (.int .i64 0)).set_ (p := ⟨r, 1 + k * 5 + 4, none⟩) (.inl rfl) (.slice A xs.length c)) (fun e => by have := blk_lt HX.out.blk; omega))
  clear x0 z0 z1 z2 z3 z4 x37 v0 v1 v2 v3 v4 v5 y q0 q1 q2 q3 q4 f0 f1 f2 f3 f4 f5
  generalize ((((((w.alloc (.cells #[.int .i64 (k : Int), .int .i64 arr, .int .i64 wrk, .int .i64 0, .slice A xs.length c] 63)).setCell ⟨r, 1 + k * 5, none⟩ (.int .i64 (k : Int))).setCell ⟨r, 1 + k * 5 + 1, none⟩ (.int .i64 arr)).setCell ⟨r, 1 + k * 5 + 2, none⟩ (.int .i64 wrk)).setCell ⟨r, 1 + k * 5 + 3, none⟩ (.int .i64 0)).setCell ⟨r, 1 + k * 5 + 4, none⟩ (.slice A xs.length c)) = wz at BR CH ZB ⊢
  have BR4 := asd (blk_drew (blk_drew (blk_drew (blk_drew BR.out))))
  have ZB4 := blk_drew (blk_drew (blk_drew (blk_drew ZB.out)))
  have CH4 := asd CH.out.drew.drew.drew.drew
  clear BR CH ZB
  generalize wz.drew.drew.drew.drew = wy at BR4 ZB4 CH4 ⊢
  have z0 := (blk_cell ZB4 0).trans rfl
  have y := (blk_cell BR4.out (31 + k)).trans (cells_is R HK6.out _ _ _ _ _)
  rw [HB0.out] at y
  have f5 := blk_frozen BR4.out (31 + k)
  clear ZB4
  go_wp2
  go_region
  go_wp2
  go_ret
  have hk1 := (CH4.out.set_ (p := ⟨r, 31 + k, none⟩) (.inl rfl) (.bool true)).drew
  exact ⟨rfl, _, HX.out.putJ HK.out HJJ.out HCC.out.2 HCC.out.1 rfl hk1 (blk_drew (blk_set BR4.out (31 + k) (.bool true))), rfl, HHI.out, putJ_js R k _ _, hk1⟩
end
end Go.Proofs.Ytjekfipaadbbbaa.Fn
namespace Go.Proofs.Ytjekfipaadbbbaa.Fn
open Go.RowKit Go.Proofs.YtjekfipaadbbbaaW.PrintWords Go.Proofs.YtjekfipaadbbbaaW.PrintLast Go.Proofs.YtjekfipaadbbbaaW.PrintMore
set_option linter.unusedVariables false
set_option linter.unusedSimpArgs false
def pickR (R : RD) (p : Nat → JB → Bool) (i : Nat) : Bool := match R.js i with | some j => p i j | none => false
def whoR (R : RD) (p : Nat → JB → Bool) : Nat → List Int
 | 0 => []
 | i + 1 => if pickR R p i = true then whoR R p i ++ [(i : Int)] else whoR R p i
def goneR (R : RD) (p : Nat → JB → Bool) (i : Nat) : Option JB := match R.js i with | some j => if p i j = true then none else some j | none => none
theorem whoR_no (R : RD) (p : Nat → JB → Bool) (i : Nat) (h : pickR R p i = false) : whoR R p (i + 1) = whoR R p i := by
 show (if pickR R p i = true then _ else _) = _; rw [h]; rfl
theorem whoR_yes (R : RD) (p : Nat → JB → Bool) (i : Nat) (h : pickR R p i = true) : whoR R p (i + 1) = whoR R p i ++ [(i : Int)] := by
 show (if pickR R p i = true then _ else _) = _; rw [h]; rfl
theorem whoR_len (R : RD) (p : Nat → JB → Bool) : ∀ i, (whoR R p i).length ≤ i
 | 0 => Nat.le_refl _
 | i + 1 => by
  have ih := whoR_len R p i
  cases h : pickR R p i with
  | false => rw [whoR_no R p i h]; omega
  | true => rw [whoR_yes R p i h, List.length_append]; simp; omega
theorem goneStepR (R : RD) (p : Nat → JB → Bool) (i m : Nat) (h : goneR R p i = R.js i) : (if m < i then goneR R p m else R.js m) = (if m < i + 1 then goneR R p m else R.js m) := by
 by_cases e : m = i
 ·subst e; rw [if_neg (Nat.lt_irrefl m), if_pos (Nat.lt_succ_self m), h]
 ·by_cases q : m < i
  ·rw [if_pos q, if_pos (by omega)]
  ·rw [if_neg q, if_neg (by omega)]
structure RGo (w0 w wr : World) (r : Nat) (R R' : RD) (hi : Bool) (p : Nat → JB → Bool) (i : Nat) : Prop where
 tab : RTab wr w0 r R'
 K : R'.K = R.K
 hi : R'.hi = hi
 js : ∀ m, R'.js m = if m < i then goneR R p m else R.js m
 chg : Chg (fun q => q = r) w wr
theorem RGo.step {w0 w wr : World} {r : Nat} {R R' : RD} {hi : Bool} {p : Nat → JB → Bool} {i : Nat} (h : RGo w0 w wr r R R' hi p i) (hs : ∀ m, (if m < i then goneR R p m else R.js m) = (if m < i + 1 then goneR R p m else R.js m)) : RGo w0 w wr r R R' hi p (i + 1) := ⟨h.tab, h.K, h.hi, fun m => (h.js m).trans (hs m), h.chg⟩
theorem RGo.drew {w0 w wr : World} {r : Nat} {R R' : RD} {hi : Bool} {p : Nat → JB → Bool} {i : Nat} (h : RGo w0 w wr r R R' hi p i) : RGo w0 w wr.drew r R R' hi p i := ⟨h.tab.drew, h.K, h.hi, h.js, h.chg.drew⟩
section
variable {w w0 w1 : World} {r : Nat} {R : RD}
set_option maxHeartbeats 16000000 in
set_option maxRecDepth 100000 in
theorem rrise_calls (h : RTab w w0 r R) : Calls Try.prog 95 #[.pointer (some ⟨r, 0, none⟩)] w fun e w' => (∃ A' c', e = .returned (.slice A' (whoR R (fun i _ => !(R.tk i).f0) R.K.length).length c') ∧ (Kd.int .i64).R 3 w' w.heap.size (fun _ => True) (.slice A' (whoR R (fun i _ => !(R.tk i).f0) R.K.length).length c') (whoR R (fun i _ => !(R.tk i).f0) R.K.length)) ∧ RAfter w w0 w' r R (goneR R (fun i _ => !(R.tk i).f0)) true := by
 have hu90 := Try.underlying90
 have hu88 := Try.underlying88
 have hu87 := Try.underlying87
 have hu63 := Try.underlying63
 have hu44 := Try.underlying44
 have H := asd h
 have hn6 := h.n6
 have x37 := h.cHi
 have f37 := h.frz 37
 have ST : Aside0 (RGo w0 w (w.setCell ⟨r, 37, none⟩ (.bool true)) r R (R.setHi true) true (fun i _ => !(R.tk i).f0) 0) := ⟨⟨h.setHi true, rfl, rfl, fun m => by rw [if_neg (by omega)]; rfl, (Chg.refl (fun q => q = r) w).set_ (p := ⟨r, 37, none⟩) (.inl rfl) (.bool true)⟩⟩
 generalize hn : R.K.length = n at hn6
 have HN := asd hn
 clear h hn
 go_enter Try.func95, Try.ntmps95
 go_wp2
 go_loopw [3, 4] (fun v3 v4 wr => ∃ (i : Nat) (A' : Option Addr) (c' : Nat) (R' : RD), v4 = .int .i64 i ∧ v3 = .slice A' (whoR R (fun i _ => !(R.tk i).f0) i).length c' ∧ Aside0 (i ≤ n) ∧ Aside0 (RGo w0 w wr r R R' true (fun i _ => !(R.tk i).f0) i) ∧ Aside0 ((Kd.int .i64).R 3 wr w.heap.size (fun _ => True) (.slice A' (whoR R (fun i _ => !(R.tk i).f0) i).length c') (whoR R (fun i _ => !(R.tk i).f0) i))) (fun _ v _ => n - (intOf v).toNat)
 case atStart => exact ⟨0, none, 0, R.setHi true, rfl, rfl, ⟨by omega⟩, ST, ⟨Kd.R_nil _ _ _ _ _⟩⟩
 case round =>
  obtain ⟨i, A', c', R', rfl, rfl, HI, HT, HR⟩ := hrel
  have x0 := HT.out.tab.cK
  rw [HT.out.K, HN.out] at x0
  by_cases hlt : i < n
  ·have hi6 : i < 6 := by omega
   have HL := asd hlt
   have wi : wrap64 ((i : Int) + 1) = ((i + 1 : Nat) : Int) := by unfold wrap64; omega
   have y := HT.out.tab.cIs hi6
   have p0 : (0 ≤ (i : Int)) = True := eq_true (by omega)
   have p1 : ((i : Int) < (n : Int)) = True := eq_true (by omega)
   have p2 : ((i : Int) < 6) = True := eq_true (by omega)
   have p3 : (i < 6) = True := eq_true (by omega)
   have p4 : (i < n) = True := eq_true (by omega)
   have d1 : decide ((i : Int) < (n : Int)) = true := decide_eq_true (by omega)
   have d2 : decide (i < n) = true := decide_eq_true (by omega)
   cases hb : R.is i with
   | false =>
    have hb' : R'.is i = false := RD.js_none.1 (by rw [HT.out.js]; rw [if_neg (Nat.lt_irrefl i)]; exact RD.js_none.2 hb)
    rw [hb'] at y
    have PK : Aside0 (whoR R (fun i _ => !(R.tk i).f0) (i + 1) = whoR R (fun i _ => !(R.tk i).f0) i) := ⟨by apply whoR_no; unfold pickR; rw [RD.js_none.2 hb]⟩
    have GJ : Aside0 (goneR R (fun i _ => !(R.tk i).f0) i = R.js i) := ⟨by unfold goneR; rw [RD.js_none.2 hb]⟩
    clear hb hb' hlt hi6
    go_wp2
    go_roundw
    case rel => exact ⟨i + 1, A', c', R', by rw [wi], by rw [PK.out], ⟨by have := HL.out; omega⟩, ⟨HT.out.step (fun m => goneStepR R _ i m GJ.out)⟩, ⟨by rw [PK.out]; exact HR.out⟩⟩
    case measure => rw [wi]; exact Nat.sub_lt_sub_left HL.out (Nat.lt_succ_self i)
   | true =>
    have hjs : R.js i = some (R.jr i) := by unfold RD.js; rw [if_pos hb]
    have hjs' : R'.js i = some (R.jr i) := by rw [HT.out.js, if_neg (Nat.lt_irrefl i)]; exact hjs
    obtain ⟨hb', hjr⟩ := RD.js_some hjs'
    rw [hb'] at y
    have tke : R'.tk i = R.tk i := by unfold RD.tk; rw [HT.out.K]
    obtain ⟨ad, hA, u0, u1, u2, u3, u4, u5⟩ := HT.out.tab.tkc (k := i) (by rw [HT.out.K, HN.out]; omega)
    rw [hA] at x0
    rw [tke] at u0 u1 u2 u3 u4 u5

    cases hp : !(R.tk i).f0 with
    | false =>
     have PK : Aside0 (whoR R (fun i _ => !(R.tk i).f0) (i + 1) = whoR R (fun i _ => !(R.tk i).f0) i) := ⟨whoR_no _ _ _ (by unfold pickR; rw [hjs]; exact hp)⟩
     have GJ : Aside0 (goneR R (fun i _ => !(R.tk i).f0) i = R.js i) := ⟨by unfold goneR; rw [hjs]; show (if (!(R.tk i).f0) = true then none else some (R.jr i)) = some (R.jr i); rw [hp]; rfl⟩
     clear hb hb' hlt hi6 hjs hjs' hjr tke hA
     have hp1 : (R.tk i).f0 = true := by simpa using hp
     rw [hp1] at u0
     clear hp hp1
     go_wp2
     go_roundw
     case rel => exact ⟨i + 1, A', c', R', by rw [wi], by rw [PK.out], ⟨by have := HL.out; omega⟩, ⟨HT.out.step (fun m => goneStepR R _ i m GJ.out)⟩, ⟨by rw [PK.out]; exact HR.out⟩⟩
     case measure => rw [wi]; exact Nat.sub_lt_sub_left HL.out (Nat.lt_succ_self i)
    | true =>
     have PK : Aside0 (whoR R (fun i _ => !(R.tk i).f0) (i + 1) = whoR R (fun i _ => !(R.tk i).f0) i ++ [(i : Int)]) := ⟨whoR_yes _ _ _ (by unfold pickR; rw [hjs]; exact hp)⟩
     have GJ : Aside0 (goneR R (fun i _ => !(R.tk i).f0) i = none) := ⟨by unfold goneR; rw [hjs]; show (if (!(R.tk i).f0) = true then none else some (R.jr i)) = none; rw [hp]; rfl⟩
     have LEN : Aside0 ((whoR R (fun i _ => !(R.tk i).f0) i).length ≤ i) := ⟨whoR_len R _ i⟩
     have yf := HT.out.tab.frz (31 + i)
     have HI6 := asd hi6
     clear hb hb' hlt hi6 hjs hjs' hjr tke hA
     have hp1 : (R.tk i).f0 = false := by simpa using hp
     rw [hp1] at u0
     clear hp hp1
     have HR2 : Aside0 ((Kd.int .i64).R 3 (wr.setCell ⟨r, 31 + i, none⟩ (.bool false)) w.heap.size (fun _ => True) (.slice A' (whoR R (fun i _ => !(R.tk i).f0) i).length c') (whoR R (fun i _ => !(R.tk i).f0) i)) := ⟨R_chgT rfl HR.out ((Chg.refl (fun q => q = r) wr).set_ (p := ⟨r, 31 + i, none⟩) (.inl rfl) (.bool false)) (fun q cells hc e => by
      rw [e, HT.out.tab.blk] at hc
      injection hc with hc
      injection hc with _ h2
      exact absurd h2 (by decide))⟩
     have T2 := asd ((HT.out.tab.off HI6.out))
     have C2 := asd ((HT.out.chg.set_ (p := ⟨r, 31 + i, none⟩) (.inl rfl) (.bool false)))
     have N6 := asd hn6
     go_upto_region 8 with fail
     generalize (wr.setCell ⟨r, 31 + i, none⟩ (.bool false)) = w2 at HR2 T2 C2 ⊢
     go_wp2_with (first | (at_builtin; refine Kd.R_append (Kd.int .i64) (w0 := w2) w.heap.size rfl (.tmp 39) (.tmp 41) 36 3 (.int .i64 0) 8 rfl Try.underlying36 info3 rfl (by decide) (by omega) (.slice A' (whoR R (fun i _ => !(R.tk i).f0) i).length c') (whoR R (fun i _ => !(R.tk i).f0) i) (i : Int) [.int .i64 (i : Int)] (fun _ => True) (fun _ => False) rfl rfl rfl (fun _ hk => hk.elim) (fun _ _ => trivial) HR2.out (Below.refl _ _) (by have := C2.out.size; omega) (by have := LEN.out; have := HI.out; have := N6.out; omega) ?_; intro v3 w3 ho hb3 hg3 hat3; obtain ⟨A3, c3, rfl⟩ := Kd.R_slice ho; have HO3 := asd ho; have HG3 := asd hg3; clear ho hb3 hg3 hat3))
     have CG := asd ((Chg.refl (fun q => (Value.slice A' (whoR R (fun i _ => !(R.tk i).f0) i).length c').ownBlock = some q) _).grown HG3.out (fun q hq => .inl hq))
     have T3 := asd (T2.out.chg CG.out (fun hs => Kd.R_ne HR2.out T2.out.blk (by decide) hs.symm) (fun q cells hc hs => Kd.R_ne HR2.out hc (by decide) hs.symm) (fun q hq => by
      have h1 := ((Kd.R_bound HR2.out).1 q hq).2.1
      have h2 := H.out.fr.size
      omega))
     have C3 := asd (C2.out.then_ CG.out (fun q hq => .inr ((Kd.R_bound HR2.out).1 q hq).2.1))
     go_roundw
     case rel =>
      refine ⟨i + 1, A3, c3, R'.off i, by rw [wi], by rw [PK.out, List.length_append]; rfl, ⟨by have := HL.out; omega⟩, ⟨⟨T3.out, HT.out.K, HT.out.hi, fun m => ?_, C3.out⟩⟩, ⟨by rw [PK.out]; have h := HO3.out; rw [List.length_append] at h ⊢; exact h⟩⟩
      rw [off_js, HT.out.js m]
      by_cases e : m = i
      ·rw [if_pos e, e, if_pos (Nat.lt_succ_self i)]; exact GJ.out.symm
      ·rw [if_neg e]
       by_cases q : m < i
       ·rw [if_pos q, if_pos (by omega)]
       ·rw [if_neg q, if_neg (by omega)]
     case measure => rw [wi]; exact Nat.sub_lt_sub_left HL.out (Nat.lt_succ_self i)
  ·have e : i = n := by have := HI.out; omega
   subst e
   have d1 : decide ((i : Int) < (i : Int)) = false := decide_eq_false (by omega)
   have d2 : decide (i < i) = false := decide_eq_false (by omega)
   have p4 : (i < i) = False := eq_false (by omega)
   clear hlt
   go_wp2
   go_ret
   refine ⟨⟨A', c', rfl, HR.out⟩, R', HT.out.tab, HT.out.K, HT.out.hi, fun m => ?_, HT.out.chg⟩
   rw [HT.out.js m]
   by_cases q : m < i
   ·rw [if_pos q]
   ·rw [if_neg q]
    have h0 : R.js m = none := H.out.out_none (by have := HN.out; omega)
    unfold goneR; rw [h0]
set_option maxHeartbeats 16000000 in
set_option maxRecDepth 100000 in
theorem rmissed_calls (h : RTab w w0 r R) (now : Int) : Calls Try.prog 97 #[.pointer (some ⟨r, 0, none⟩), .int .i64 now] w fun e w' => (∃ A' c', e = .returned (.slice A' (whoR R (fun i j => decide (j.arr + (R.tk i).f2 ≤ now)) R.K.length).length c') ∧ (Kd.int .i64).R 3 w' w.heap.size (fun _ => True) (.slice A' (whoR R (fun i j => decide (j.arr + (R.tk i).f2 ≤ now)) R.K.length).length c') (whoR R (fun i j => decide (j.arr + (R.tk i).f2 ≤ now)) R.K.length)) ∧ RAfter w w0 w' r R (goneR R (fun i j => decide (j.arr + (R.tk i).f2 ≤ now))) R.hi := by
 have hu90 := Try.underlying90
 have hu88 := Try.underlying88
 have hu87 := Try.underlying87
 have hu63 := Try.underlying63
 have hu44 := Try.underlying44
 have H := asd h
 have hn6 := h.n6
 have ST : Aside0 (RGo w0 w w r R R R.hi (fun i j => decide (j.arr + (R.tk i).f2 ≤ now)) 0) := ⟨⟨h, rfl, rfl, fun m => by rw [if_neg (by omega)], Chg.refl _ _⟩⟩
 generalize hn : R.K.length = n at hn6
 have HN := asd hn
 clear h hn
 go_enter Try.func97, Try.ntmps97
 go_wp2
 go_loopw [5, 6] (fun v5 v6 wr => ∃ (i : Nat) (A' : Option Addr) (c' : Nat) (R' : RD), v6 = .int .i64 i ∧ v5 = .slice A' (whoR R (fun i j => decide (j.arr + (R.tk i).f2 ≤ now)) i).length c' ∧ Aside0 (i ≤ n) ∧ Aside0 (RGo w0 w wr r R R' R.hi (fun i j => decide (j.arr + (R.tk i).f2 ≤ now)) i) ∧ Aside0 ((Kd.int .i64).R 3 wr w.heap.size (fun _ => True) (.slice A' (whoR R (fun i j => decide (j.arr + (R.tk i).f2 ≤ now)) i).length c') (whoR R (fun i j => decide (j.arr + (R.tk i).f2 ≤ now)) i))) (fun _ v _ => n - (intOf v).toNat)
 case atStart => exact ⟨0, none, 0, R, rfl, rfl, ⟨by omega⟩, ST, ⟨Kd.R_nil _ _ _ _ _⟩⟩
 case round =>
  obtain ⟨i, A', c', R', rfl, rfl, HI, HT, HR⟩ := hrel
  have x0 := HT.out.tab.cK
  rw [HT.out.K, HN.out] at x0
  by_cases hlt : i < n
  ·have hi6 : i < 6 := by omega
   have HL := asd hlt
   have wi : wrap64 ((i : Int) + 1) = ((i + 1 : Nat) : Int) := by unfold wrap64; omega
   have y := HT.out.tab.cIs hi6
   have p0 : (0 ≤ (i : Int)) = True := eq_true (by omega)
   have p1 : ((i : Int) < (n : Int)) = True := eq_true (by omega)
   have p2 : ((i : Int) < 6) = True := eq_true (by omega)
   have p3 : (i < 6) = True := eq_true (by omega)
   have p4 : (i < n) = True := eq_true (by omega)
   have d1 : decide ((i : Int) < (n : Int)) = true := decide_eq_true (by omega)
   have d2 : decide (i < n) = true := decide_eq_true (by omega)
   cases hb : R.is i with
   | false =>
    have hb' : R'.is i = false := RD.js_none.1 (by rw [HT.out.js]; rw [if_neg (Nat.lt_irrefl i)]; exact RD.js_none.2 hb)
    rw [hb'] at y
    have PK : Aside0 (whoR R (fun i j => decide (j.arr + (R.tk i).f2 ≤ now)) (i + 1) = whoR R (fun i j => decide (j.arr + (R.tk i).f2 ≤ now)) i) := ⟨by apply whoR_no; unfold pickR; rw [RD.js_none.2 hb]⟩
    have GJ : Aside0 (goneR R (fun i j => decide (j.arr + (R.tk i).f2 ≤ now)) i = R.js i) := ⟨by unfold goneR; rw [RD.js_none.2 hb]⟩
    clear hb hb' hlt hi6
    go_wp2
    go_big_region
    go_wp2
    go_roundw
    case rel => exact ⟨i + 1, A', c', R', by rw [wi], by rw [PK.out], ⟨by have := HL.out; omega⟩, ⟨HT.out.drew.step (fun m => goneStepR R _ i m GJ.out)⟩, ⟨by rw [PK.out]; exact Kd.R_drew HR.out⟩⟩
    case measure => rw [wi]; exact Nat.sub_lt_sub_left HL.out (Nat.lt_succ_self i)
   | true =>
    have hjs : R.js i = some (R.jr i) := by unfold RD.js; rw [if_pos hb]
    have hjs' : R'.js i = some (R.jr i) := by rw [HT.out.js, if_neg (Nat.lt_irrefl i)]; exact hjs
    obtain ⟨hb', hjr⟩ := RD.js_some hjs'
    rw [hb'] at y
    have tke : R'.tk i = R.tk i := by unfold RD.tk; rw [HT.out.K]
    obtain ⟨ad, hA, u0, u1, u2, u3, u4, u5⟩ := HT.out.tab.tkc (k := i) (by rw [HT.out.K, HN.out]; omega)
    rw [hA] at x0
    rw [tke] at u0 u1 u2 u3 u4 u5
    have y1 := (HT.out.tab.cJ hi6).2.1
    rw [hjr] at y1
    have har := (H.out.job i hb).2.1.arr
    have hti := (rtC_iff _).1 (H.out.rt i (by have := HN.out; omega))
    have w2 : wrap64 ((R.jr i).arr + (R.tk i).f2) = (R.jr i).arr + (R.tk i).f2 := by unfold wrap64; omega
    clear har hti
    cases hp : decide ((R.jr i).arr + (R.tk i).f2 ≤ now) with
    | false =>
     have PK : Aside0 (whoR R (fun i j => decide (j.arr + (R.tk i).f2 ≤ now)) (i + 1) = whoR R (fun i j => decide (j.arr + (R.tk i).f2 ≤ now)) i) := ⟨whoR_no _ _ _ (by unfold pickR; rw [hjs]; exact hp)⟩
     have GJ : Aside0 (goneR R (fun i j => decide (j.arr + (R.tk i).f2 ≤ now)) i = R.js i) := ⟨by unfold goneR; rw [hjs]; show (if (decide ((R.jr i).arr + (R.tk i).f2 ≤ now)) = true then none else some (R.jr i)) = some (R.jr i); rw [hp]; rfl⟩
     clear hb hb' hlt hi6 hjs hjs' hjr tke hA
     skip
     go_wp2
     go_big_region
     go_wp2
     go_roundw
     case rel => exact ⟨i + 1, A', c', R', by rw [wi], by rw [PK.out], ⟨by have := HL.out; omega⟩, ⟨HT.out.drew.step (fun m => goneStepR R _ i m GJ.out)⟩, ⟨by rw [PK.out]; exact Kd.R_drew HR.out⟩⟩
     case measure => rw [wi]; exact Nat.sub_lt_sub_left HL.out (Nat.lt_succ_self i)
    | true =>
     have PK : Aside0 (whoR R (fun i j => decide (j.arr + (R.tk i).f2 ≤ now)) (i + 1) = whoR R (fun i j => decide (j.arr + (R.tk i).f2 ≤ now)) i ++ [(i : Int)]) := ⟨whoR_yes _ _ _ (by unfold pickR; rw [hjs]; exact hp)⟩
     have GJ : Aside0 (goneR R (fun i j => decide (j.arr + (R.tk i).f2 ≤ now)) i = none) := ⟨by unfold goneR; rw [hjs]; show (if (decide ((R.jr i).arr + (R.tk i).f2 ≤ now)) = true then none else some (R.jr i)) = none; rw [hp]; rfl⟩
     have LEN : Aside0 ((whoR R (fun i j => decide (j.arr + (R.tk i).f2 ≤ now)) i).length ≤ i) := ⟨whoR_len R _ i⟩
     have yf := HT.out.tab.frz (31 + i)
     have HI6 := asd hi6
     clear hb hb' hlt hi6 hjs hjs' hjr tke hA
     skip
     have HR2 : Aside0 ((Kd.int .i64).R 3 (wr.setCell ⟨r, 31 + i, none⟩ (.bool false)).drew w.heap.size (fun _ => True) (.slice A' (whoR R (fun i j => decide (j.arr + (R.tk i).f2 ≤ now)) i).length c') (whoR R (fun i j => decide (j.arr + (R.tk i).f2 ≤ now)) i)) := ⟨R_chgT rfl HR.out ((Chg.refl (fun q => q = r) wr).set_ (p := ⟨r, 31 + i, none⟩) (.inl rfl) (.bool false)).drew (fun q cells hc e => by
      rw [e, HT.out.tab.blk] at hc
      injection hc with hc
      injection hc with _ h2
      exact absurd h2 (by decide))⟩
     have T2 := asd ((HT.out.tab.off HI6.out).drew)
     have C2 := asd ((HT.out.chg.set_ (p := ⟨r, 31 + i, none⟩) (.inl rfl) (.bool false)).drew)
     have N6 := asd hn6
     go_wp2_with fail
     go_big_region
     go_upto_region 7 with fail
     generalize (wr.setCell ⟨r, 31 + i, none⟩ (.bool false)).drew = w2 at HR2 T2 C2 ⊢
     go_wp2_with (first | (at_builtin; refine Kd.R_append (Kd.int .i64) (w0 := w2) w.heap.size rfl (.tmp 47) (.tmp 49) 36 3 (.int .i64 0) 8 rfl Try.underlying36 info3 rfl (by decide) (by omega) (.slice A' (whoR R (fun i j => decide (j.arr + (R.tk i).f2 ≤ now)) i).length c') (whoR R (fun i j => decide (j.arr + (R.tk i).f2 ≤ now)) i) (i : Int) [.int .i64 (i : Int)] (fun _ => True) (fun _ => False) rfl rfl rfl (fun _ hk => hk.elim) (fun _ _ => trivial) HR2.out (Below.refl _ _) (by have := C2.out.size; omega) (by have := LEN.out; have := HI.out; have := N6.out; omega) ?_; intro v3 w3 ho hb3 hg3 hat3; obtain ⟨A3, c3, rfl⟩ := Kd.R_slice ho; have HO3 := asd ho; have HG3 := asd hg3; clear ho hb3 hg3 hat3))
     have CG := asd ((Chg.refl (fun q => (Value.slice A' (whoR R (fun i j => decide (j.arr + (R.tk i).f2 ≤ now)) i).length c').ownBlock = some q) _).grown HG3.out (fun q hq => .inl hq))
     have T3 := asd (T2.out.chg CG.out (fun hs => Kd.R_ne HR2.out T2.out.blk (by decide) hs.symm) (fun q cells hc hs => Kd.R_ne HR2.out hc (by decide) hs.symm) (fun q hq => by
      have h1 := ((Kd.R_bound HR2.out).1 q hq).2.1
      have h2 := H.out.fr.size
      omega))
     have C3 := asd (C2.out.then_ CG.out (fun q hq => .inr ((Kd.R_bound HR2.out).1 q hq).2.1))
     go_roundw
     case rel =>
      refine ⟨i + 1, A3, c3, R'.off i, by rw [wi], by rw [PK.out, List.length_append]; rfl, ⟨by have := HL.out; omega⟩, ⟨⟨T3.out, HT.out.K, HT.out.hi, fun m => ?_, C3.out⟩⟩, ⟨by rw [PK.out]; have h := HO3.out; rw [List.length_append] at h ⊢; exact h⟩⟩
      rw [off_js, HT.out.js m]
      by_cases e : m = i
      ·rw [if_pos e, e, if_pos (Nat.lt_succ_self i)]; exact GJ.out.symm
      ·rw [if_neg e]
       by_cases q : m < i
       ·rw [if_pos q, if_pos (by omega)]
       ·rw [if_neg q, if_neg (by omega)]
     case measure => rw [wi]; exact Nat.sub_lt_sub_left HL.out (Nat.lt_succ_self i)
  ·have e : i = n := by have := HI.out; omega
   subst e
   have d1 : decide ((i : Int) < (i : Int)) = false := decide_eq_false (by omega)
   have d2 : decide (i < i) = false := decide_eq_false (by omega)
   have p4 : (i < i) = False := eq_false (by omega)
   clear hlt
   go_wp2
   go_ret
   refine ⟨⟨A', c', rfl, HR.out⟩, R', HT.out.tab, HT.out.K, HT.out.hi, fun m => ?_, HT.out.chg⟩
   rw [HT.out.js m]
   by_cases q : m < i
   ·rw [if_pos q]
   ·rw [if_neg q]
    have h0 : R.js m = none := H.out.out_none (by have := HN.out; omega)
    unfold goneR; rw [h0]
set_option maxHeartbeats 16000000 in
set_option maxRecDepth 100000 in
theorem rfall_no (h : RTab w w0 r R) (hf : R.hi = false ∨ 0 < numJ R.js) : Calls Try.prog 96 #[.pointer (some ⟨r, 0, none⟩)] w fun e w' => e = .returned (.bool false) ∧ w = w' := by
 have hu90 := Try.underlying90
 have x37 := h.cHi
 have LC := asd (rlen_calls h)
 generalize numJ R.js = n at LC hf
 cases hh : R.hi with
 | false =>
  rw [hh] at x37
  clear h hf hh
  go_enter Try.func96, Try.ntmps96
  go_wp2
  go_ret
  exact ⟨rfl, rfl⟩
 | true =>
  rw [hh] at x37
  have h0 : 0 < n := hf.elim (fun q => by rw [hh] at q; cases q) (fun q => q)
  have d0 : decide ((n : Int) > 0) = true := decide_eq_true (by omega)
  have d1 : decide (0 < (n : Int)) = true := d0
  have d2 : decide (0 < n) = true := decide_eq_true h0
  have p0 : (0 < n) = True := eq_true h0
  have p1 : (0 < (n : Int)) = True := eq_true (by omega)
  clear h hf hh h0
  go_enter Try.func96, Try.ntmps96
  go_wp2_with (first | (go_at_call 54; refine LC.out.mono ?_; rintro e w2 ⟨rfl, rfl⟩))
  go_ret
  exact ⟨rfl, rfl⟩
set_option maxHeartbeats 16000000 in
set_option maxRecDepth 100000 in
theorem rfall_yes (h : RTab w w0 r R) (hh : R.hi = true) (hl : numJ R.js = 0) : Calls Try.prog 96 #[.pointer (some ⟨r, 0, none⟩)] w fun e w' => e = .returned (.bool true) ∧ RAfter w w0 w' r R R.js false := by
 have hu90 := Try.underlying90
 have x37 := h.cHi
 have f37 := h.frz 37
 have LC := asd (rlen_calls h)
 rw [hl] at LC
 rw [hh] at x37
 have FIN := asd (h.setHi false)
 clear h hh hl
 go_enter Try.func96, Try.ntmps96
 go_wp2_with (first | (go_at_call 54; refine LC.out.mono ?_; rintro e w2 ⟨rfl, rfl⟩))
 go_ret
 exact ⟨rfl, _, FIN.out, rfl, rfl, fun _ => rfl, (Chg.refl (fun q => q = r) w).set_ (p := ⟨r, 37, none⟩) (.inl rfl) (.bool false)⟩
set_option maxHeartbeats 16000000 in
set_option maxRecDepth 100000 in
theorem rclear_calls (h : RTab w w0 r R) : Calls Try.prog 98 #[.pointer (some ⟨r, 0, none⟩)] w fun e w' => e = .returned (.tuple #[]) ∧ RAfter w w0 w' r R (fun _ => none) false := by
 have hu90 := Try.underlying90
 have hu88 := Try.underlying88
 have x37 := h.cHi
 have f37 := h.frz 37
 have y0 := h.cIs (k := 0) (by omega)
 have y1 := h.cIs (k := 1) (by omega)
 have y2 := h.cIs (k := 2) (by omega)
 have y3 := h.cIs (k := 3) (by omega)
 have y4 := h.cIs (k := 4) (by omega)
 have y5 := h.cIs (k := 5) (by omega)
 have f0 := h.frz 31
 have f1 := h.frz 32
 have f2 := h.frz 33
 have f3 := h.frz 34
 have f4 := h.frz 35
 have f5 := h.frz 36
 have H := asd h
 clear h
 go_enter Try.func98, Try.ntmps98
 go_wp2
 go_end0
 have hk1 := ((((((((Chg.refl (fun q => q = r) w).set_ (p := ⟨r, 31, none⟩) (.inl rfl) (.bool false)).set_ (p := ⟨r, 32, none⟩) (.inl rfl) (.bool false)).set_ (p := ⟨r, 33, none⟩) (.inl rfl) (.bool false)).set_ (p := ⟨r, 34, none⟩) (.inl rfl) (.bool false)).set_ (p := ⟨r, 35, none⟩) (.inl rfl) (.bool false)).set_ (p := ⟨r, 36, none⟩) (.inl rfl) (.bool false)).set_ (p := ⟨r, 37, none⟩) (.inl rfl) (.bool false))
 have hb := (blk_set (blk_set (blk_set (blk_set (blk_set (blk_set (blk_set H.out.blk 31 (.bool false)) 32 (.bool false)) 33 (.bool false)) 34 (.bool false)) 35 (.bool false)) 36 (.bool false)) 37 (.bool false))
 refine ⟨rfl, { R with is := fun _ => false, hi := false }, H.out.put hk1 (hb.trans ?_) rfl rfl rfl (fun k hk => by cases hk), rfl, rfl, fun i => RD.js_none.2 rfl, hk1⟩
 rfl
end
end Go.Proofs.Ytjekfipaadbbbaa.Fn
namespace Go.Proofs.Ytjekfipaadbbbaa.Fn
open Go.RowKit Go.Proofs.YtjekfipaadbbbaaW.PrintWords Go.Proofs.YtjekfipaadbbbaaW.PrintLast Go.Proofs.YtjekfipaadbbbaaW.PrintMore
set_option linter.unusedVariables false
set_option linter.unusedSimpArgs false
def runR (R : RD) (k : Nat) : Nat → Option JB := fun i => if i = k then (if outJ R.hi (R.tk k) (R.jr k) = 1 ∨ outJ R.hi (R.tk k) (R.jr k) = 2 then none else some { R.jr k with dn := (R.jr k).dn + 1 }) else R.js i
section
variable {w w0 w1 : World} {r : Nat} {R : RD}
theorem runR_off {k : Nat} {x : S44} {j : JB} (hx : R.tk k = x) (hj : R.jr k = j) (h : outJ R.hi x j = 1 ∨ outJ R.hi x j = 2) (hk : R.is k = true) (i : Nat) : ((R.setDn k (j.dn + 1)).off k).js i = runR R k i := by
 subst hx hj
 rw [off_js, setDn_js _ _ _ _ hk]
 unfold runR
 rw [if_pos h]
 by_cases e : i = k
 ·rw [if_pos e, if_pos e]
 ·rw [if_neg e, if_neg e, if_neg e]
theorem runR_on {k : Nat} {x : S44} {j : JB} (hx : R.tk k = x) (hj : R.jr k = j) (h : ¬ (outJ R.hi x j = 1 ∨ outJ R.hi x j = 2)) (hk : R.is k = true) (i : Nat) : (R.setDn k (j.dn + 1)).js i = runR R k i := by
 subst hx hj
 rw [setDn_js _ _ _ _ hk]
 unfold runR
 rw [if_neg h]
set_option maxHeartbeats 16000000 in
set_option maxRecDepth 100000 in
theorem rrun_nobody (h : RTab w w0 r R) (k : Int) (hk : k < 0 ∨ R.js k.toNat = none) : Calls Try.prog 93 #[.pointer (some ⟨r, 0, none⟩), .int .i64 k] w fun e w' => e = .returned (.tuple #[.agg #[.int .i64 0, .int .i64 0, .int .i64 0], .int .i64 4]) ∧ Below w.heap.size w w' := by
 have hu90 := Try.underlying90
 have hu88 := Try.underlying88
 have hu134 := Try.underlying134
 have Z := asd (heap_alloc_new w (.cells #[.int .i64 0, .int .i64 0, .int .i64 0] 134))
 have HB := asd (below_alloc (Below.refl w.heap.size w) (.cells #[.int .i64 0, .int .i64 0, .int .i64 0] 134))
 have H1 := h.below HB.out
 have n6 := h.n6
 have x0 := H1.cK
 by_cases h0 : k < 0
 ·have d0 : decide (k < 0) = true := decide_eq_true h0
  clear h hk H1 h0 n6
  go_enter Try.func93, Try.ntmps93
  go_wp2
  refine bodyPost_ret (results_row2 Try.results93 _ _ w.heap.size 134 #[.int .i64 0, .int .i64 0, .int .i64 0] (0, 0) _ (.int .i64 4) rfl rfl Z.out Try.underlying134 rfl (by kernel_rfl)) rfl ?_
  exact ⟨rfl, HB.out⟩
 have d0 : decide (k < 0) = false := decide_eq_false h0
 by_cases h1 : k < (R.K.length : Int)
 ·obtain ⟨m, rfl⟩ : ∃ m : Nat, k = m := ⟨k.toNat, by omega⟩
  have hm : R.is m = false := RD.js_none.1 (by rcases hk with q | q; omega; simpa using q)
  have y := H1.cIs (k := m) (by omega)
  rw [hm] at y
  have hd1 : decide ((m : Int) ≥ (R.K.length : Int)) = false := decide_eq_false (by omega)
  have p2 : ((m : Int) < 6) = True := eq_true (by omega)
  have p3 : (m < 6) = True := eq_true (by omega)
  have p0 : (0 ≤ (m : Int)) = True := eq_true (by omega)
  have hd2 : decide ((R.K.length : Int) ≤ (m : Int)) = false := decide_eq_false (by omega)
  have hd3 : decide (R.K.length ≤ m) = false := decide_eq_false (by omega)
  generalize R.K.length = n at x0 hd1 hd2 hd3
  clear h hk H1 h0 n6 h1 hm
  go_enter Try.func93, Try.ntmps93
  go_wp2
  refine bodyPost_ret (results_row2 Try.results93 _ _ w.heap.size 134 #[.int .i64 0, .int .i64 0, .int .i64 0] (0, 0) _ (.int .i64 4) rfl rfl Z.out Try.underlying134 rfl (by kernel_rfl)) rfl ?_
  exact ⟨rfl, HB.out⟩
 ·have hd1 : decide (k ≥ (R.K.length : Int)) = true := decide_eq_true (by omega)
  have hd2 : decide ((R.K.length : Int) ≤ k) = true := decide_eq_true (by omega)
  generalize R.K.length = n at x0 hd1 hd2
  clear h hk H1 h0 n6 h1
  go_enter Try.func93, Try.ntmps93
  go_wp2
  refine bodyPost_ret (results_row2 Try.results93 _ _ w.heap.size 134 #[.int .i64 0, .int .i64 0, .int .i64 0] (0, 0) _ (.int .i64 4) rfl rfl Z.out Try.underlying134 rfl (by kernel_rfl)) rfl ?_
  exact ⟨rfl, HB.out⟩
set_option maxHeartbeats 16000000 in
set_option maxRecDepth 100000 in
theorem rrun_calls (h : RTab w w0 r R) (k : Nat) (hk : R.is k = true) (hd : (R.jr k).dn < (R.jr k).wrk) : Calls Try.prog 93 #[.pointer (some ⟨r, 0, none⟩), .int .i64 (k : Int)] w fun e w' => e = .returned (.tuple #[opV (opJ (R.jr k)), .int .i64 (outJ R.hi (R.tk k) (R.jr k))]) ∧ RAfter w w0 w' r R (runR R k) R.hi := by
 have hu90 := Try.underlying90
 have hu88 := Try.underlying88
 have hu87 := Try.underlying87
 have hu63 := Try.underlying63
 have hu44 := Try.underlying44
 have hu134 := Try.underlying134
 obtain ⟨hl, hj, A, c, xs, hov, hxc, hC, hops⟩ := h.job k hk
 have Z := asd (heap_alloc_new w (.cells #[.int .i64 0, .int .i64 0, .int .i64 0] 134))
 have HB := asd (below_alloc (Below.refl w.heap.size w) (.cells #[.int .i64 0, .int .i64 0, .int .i64 0] 134))
 have H1 := h.below HB.out
 have HX := asd h
 have n6 := h.n6
 have hk6 : k < 6 := by omega
 have HK6 := asd hk6
 have x0 := H1.cK
 have y := H1.cIs hk6
 rw [hk] at y
 obtain ⟨y0, y1, y2, y3, y4⟩ := H1.cJ hk6
 rw [hov] at y4
 have p0 : (0 ≤ (k : Int)) = True := eq_true (by omega)
 have p2 : ((k : Int) < 6) = True := eq_true (by omega)
 have p3 : (k < 6) = True := eq_true (by omega)
 have d0 : decide ((k : Int) < 0) = false := decide_eq_false (by omega)
 have d1 : decide ((k : Int) ≥ (R.K.length : Int)) = false := decide_eq_false (by omega)
 have d2 : decide ((R.K.length : Int) ≤ (k : Int)) = false := decide_eq_false (by omega)
 have d3 : decide (R.K.length ≤ k) = false := decide_eq_false (by omega)
 have p1 : ((k : Int) < (R.K.length : Int)) = True := eq_true (by omega)
 have p4 : (k < R.K.length) = True := eq_true hl
 have TIE := asd ((rtC_iff _).1 (h.rt k hl))
 have JOK := asd hj
 have HD := asd hd
 have HL := asd hl
 have HKI := asd hk
 have CX := asd (Kd.C_below hC h.fr)
 have DN : Aside0 (∀ n : Int, 0 ≤ n → n ≤ (R.jr k).wrk → RTab w w0 r R → True) := ⟨fun _ _ _ _ => trivial⟩
 generalize hjj : R.jr k = j at y0 y1 y2 y3 JOK HD hops DN
 have OPS := asd hops
 have HJJ := asd hjj
 generalize hxx : R.tk k = x at TIE
 have HXX := asd hxx
 generalize ho : opJ j = o
 have HO := asd ho
 have w1 : wrap64 (j.dn + 1) = j.dn + 1 := by have := JOK.out.dn; have := JOK.out.wrk; unfold wrap64; omega
 have bd := JOK.out.dn
 have lx : xs.length ≤ 64 := by have h1 := JOK.out.ops; rw [OPS.out, List.length_map] at h1; exact h1
 have LX := asd lx
 generalize hn : R.K.length = n at x0 d1 d2 d3 p1 p4
 have HN := asd hn
 clear h hk hd H1 n6 hk6 hl hj hov hxc hC hops hjj hxx ho hn DN bd lx
 go_enter Try.func93, Try.ntmps93
 go_upto_if 43 with fail
 go_cut [] (fun wx => Aside0 (wx = ((w.alloc (.cells #[.int .i64 0, .int .i64 0, .int .i64 0] 134)).alloc (.cells #[.int .i64 j.tsk, .int .i64 j.arr, .int .i64 j.wrk, .int .i64 j.dn, .slice A xs.length c] 63)).alloc (.cells #[.int .i64 o.f0, .int .i64 o.f1, .int .i64 o.f2] 134)))
 case first =>
  have HB3 := below_alloc (below_alloc HB.out (.cells #[.int .i64 j.tsk, .int .i64 j.arr, .int .i64 j.wrk, .int .i64 j.dn, .slice A xs.length c] 63)) (.cells #[.int .i64 0, .int .i64 0, .int .i64 0] 134)
  by_cases l1 : j.dn < (xs.length : Int)
  ·obtain ⟨ad, rfl, e0, e1, e2⟩ := at_T134 (Kd.C_below CX.out HB3) j.dn JOK.out.dn.1 l1
   have g1 : decide (j.dn < (xs.length : Int)) = true := decide_eq_true l1
   have g2 : (j.dn < (xs.length : Int)) = True := eq_true l1
   have g3 : (0 ≤ j.dn) = True := eq_true JOK.out.dn.1
   have OE : Aside0 (o = jop (rd_T134 xs j.dn)) := ⟨by
    rw [← HO.out]; unfold opJ rd_T134; rw [OPS.out]
    rw [getD_lt _ _ (by rw [List.length_map]; have := JOK.out.dn.1; omega), List.getElem_map]
    rw [List.getD_eq_getElem?_getD, List.getElem?_eq_getElem (by have := JOK.out.dn.1; omega)]; rfl⟩
   clear l1 HB3
   rw [g1]
   go_wp2
   go_meet
   exact ⟨by rw [OE.out]; rfl⟩
  ·have g1 : decide (j.dn < (xs.length : Int)) = false := decide_eq_false l1
   have OE : Aside0 (o = z76) := ⟨by
    rw [← HO.out]; unfold opJ; rw [OPS.out, List.getD_eq_getElem?_getD, List.getElem?_eq_none (by rw [List.length_map]; have := JOK.out.dn.1; omega)]; rfl⟩
   clear l1 HB3
   rw [g1]
   go_wp2
   go_meet
   exact ⟨by rw [OE.out]; rfl⟩
 case rest =>
  have hcc := hcut.out
  subst hcc
  clear hcut x0 y y0 y1 y2 y3 y4
  have HBy := below_alloc (below_alloc HB.out (.cells #[.int .i64 j.tsk, .int .i64 j.arr, .int .i64 j.wrk, .int .i64 j.dn, .slice A xs.length c] 63)) (.cells #[.int .i64 o.f0, .int .i64 o.f1, .int .i64 o.f2] 134)
  have e1 : (w.alloc (.cells #[.int .i64 0, .int .i64 0, .int .i64 0] 134)).heap.size = w.heap.size + 1 := by unfold World.alloc; exact Array.size_push ..
  have e2 : ((w.alloc (.cells #[.int .i64 0, .int .i64 0, .int .i64 0] 134)).alloc (.cells #[.int .i64 j.tsk, .int .i64 j.arr, .int .i64 j.wrk, .int .i64 j.dn, .slice A xs.length c] 63)).heap.size = w.heap.size + 1 + 1 := by rw [show ((w.alloc (.cells #[.int .i64 0, .int .i64 0, .int .i64 0] 134)).alloc (.cells #[.int .i64 j.tsk, .int .i64 j.arr, .int .i64 j.wrk, .int .i64 j.dn, .slice A xs.length c] 63)).heap.size = (w.alloc (.cells #[.int .i64 0, .int .i64 0, .int .i64 0] 134)).heap.size + 1 by unfold World.alloc; exact Array.size_push .., e1]
  have B0y := asd (blk_alloc (blk_alloc Z.out (.cells #[.int .i64 j.tsk, .int .i64 j.arr, .int .i64 j.wrk, .int .i64 j.dn, .slice A xs.length c] 63)) (.cells #[.int .i64 o.f0, .int .i64 o.f1, .int .i64 o.f2] 134))
  have b6 := heap_alloc_new (w.alloc (.cells #[.int .i64 0, .int .i64 0, .int .i64 0] 134)) (.cells #[.int .i64 j.tsk, .int .i64 j.arr, .int .i64 j.wrk, .int .i64 j.dn, .slice A xs.length c] 63)
  rw [e1] at b6
  have B6y := asd (blk_alloc b6 (.cells #[.int .i64 o.f0, .int .i64 o.f1, .int .i64 o.f2] 134))
  have b7 := heap_alloc_new ((w.alloc (.cells #[.int .i64 0, .int .i64 0, .int .i64 0] 134)).alloc (.cells #[.int .i64 j.tsk, .int .i64 j.arr, .int .i64 j.wrk, .int .i64 j.dn, .slice A xs.length c] 63)) (.cells #[.int .i64 o.f0, .int .i64 o.f1, .int .i64 o.f2] 134)
  rw [e2] at b7
  have B7y := asd b7
  have Ty := asd (HX.out.below HBy)
  have Cy := asd (Chg.of_below HBy (fun q => q = r))
  clear b6 b7 HBy e1 e2
  generalize ((w.alloc (.cells #[.int .i64 0, .int .i64 0, .int .i64 0] 134)).alloc (.cells #[.int .i64 j.tsk, .int .i64 j.arr, .int .i64 j.wrk, .int .i64 j.dn, .slice A xs.length c] 63)).alloc (.cells #[.int .i64 o.f0, .int .i64 o.f1, .int .i64 o.f2] 134) = wy at B0y B6y B7y Ty Cy ⊢
  have y3 := (Ty.out.cJ HK6.out).2.2.2.1
  rw [HJJ.out] at y3
  have yf := Ty.out.frz (1 + k * 5 + 3)
  go_wp2_with fail
  go_region
  have CI := ((Chg.refl (fun q => q = r) wy).set_ (p := ⟨r, 1 + k * 5 + 3, none⟩) (.inl rfl) (.int .i64 (j.dn + 1))).drew
  have B0z := asd (blk_chg B0y.out CI (fun e => by have := blk_lt HX.out.blk; omega))
  have B6z := asd (blk_chg B6y.out CI (fun e => by have := blk_lt HX.out.blk; omega))
  have B7z := asd (blk_chg B7y.out CI (fun e => by have := blk_lt HX.out.blk; omega))
  have Cz := asd (Cy.out.set_ (p := ⟨r, 1 + k * 5 + 3, none⟩) (.inl rfl) (.int .i64 (j.dn + 1))).drew
  have Tz := asd (Ty.out.setDn HK6.out (j.dn + 1) (fun _ => by rw [HJJ.out]; have := JOK.out.dn; have := HD.out; omega)).drew
  clear CI y3 yf B0y B6y B7y Ty Cy
  generalize (wy.setCell ⟨r, 1 + k * 5 + 3, none⟩ (.int .i64 (j.dn + 1))).drew = wz at B0z B6z B7z Cz Tz ⊢
  have s0 := (blk_cell B0z.out 0).trans rfl
  have sf0 := blk_frozen B0z.out 0
  have o0 := (blk_cell B7z.out 0).trans rfl
  have s1 := (blk_cell B0z.out 1).trans rfl
  have sf1 := blk_frozen B0z.out 1
  have o1 := (blk_cell B7z.out 1).trans rfl
  have s2 := (blk_cell B0z.out 2).trans rfl
  have sf2 := blk_frozen B0z.out 2
  have o2 := (blk_cell B7z.out 2).trans rfl
  have m2 := (blk_cell B6z.out 2).trans rfl
  have m3 := (blk_cell B6z.out 3).trans rfl
  have c0 := Tz.out.cK
  have c37 := Tz.out.cHi
  rw [show (R.setDn k (j.dn + 1)).K = R.K from rfl, HN.out] at c0
  rw [show (R.setDn k (j.dn + 1)).hi = R.hi from rfl] at c37
  obtain ⟨ad, hA, u0, _, _, _, u4, u5⟩ := Tz.out.tkc (k := k) HL.out
  rw [hA] at c0
  rw [show (R.setDn k (j.dn + 1)).tk k = x from HXX.out] at u0 u4 u5
  have y := Tz.out.cIs HK6.out
  rw [show (R.setDn k (j.dn + 1)).is k = true from HKI.out] at y
  have yf := Tz.out.frz (31 + k)
  clear hA
  by_cases e1 : j.dn + 1 = j.wrk
  ·have b1 : ((j.dn + 1) == j.wrk) = true := beq_iff_eq.2 e1
   have OUT0 : outJ R.hi x j = 1 := by unfold outJ budT; rw [if_pos e1]
   have OUT : Aside0 (Ending.returned (.tuple #[.agg #[.int .i64 o.f0, .int .i64 o.f1, .int .i64 o.f2], .int .i64 1]) = Ending.returned (.tuple #[opV o, .int .i64 (outJ R.hi x j)])) := ⟨by rw [OUT0]; rfl⟩
   have RJ := asd (runR_off HXX.out HJJ.out (by rw [OUT0]; decide) HKI.out)
   have b2 : decide (j.dn + 1 = j.wrk) = true := decide_eq_true e1
   clear e1 OUT0
   go_upto_region 11 with fail
   have Tv := asd (Tz.out.off HK6.out)
   have CI := (Chg.refl (fun q => q = r) wz).set_ (p := ⟨r, 31 + k, none⟩) (.inl rfl) (.bool false)
   have B0v := asd (blk_chg B0z.out CI (fun e => by have := blk_lt HX.out.blk; omega))
   have B7v := asd (blk_chg B7z.out CI (fun e => by have := blk_lt HX.out.blk; omega))
   have Cv := asd (Cz.out.set_ (p := ⟨r, 31 + k, none⟩) (.inl rfl) (.bool false))
   clear CI y yf c0 c37 m2 m3 u0 u4 u5 s0 s1 s2 sf0 sf1 sf2 o0 o1 o2
   generalize wz.setCell ⟨r, 31 + k, none⟩ (.bool false) = wv at Tv B0v B7v Cv ⊢
   have s0 := (blk_cell B0v.out 0).trans rfl
   have sf0 := blk_frozen B0v.out 0
   have o0 := (blk_cell B7v.out 0).trans rfl
   have s1 := (blk_cell B0v.out 1).trans rfl
   have sf1 := blk_frozen B0v.out 1
   have o1 := (blk_cell B7v.out 1).trans rfl
   have s2 := (blk_cell B0v.out 2).trans rfl
   have sf2 := blk_frozen B0v.out 2
   have o2 := (blk_cell B7v.out 2).trans rfl
   go_wp2
   have F3 := blk_put (blk_put (blk_put B0v.out 0 (.int .i64 o.f0) rfl) 1 (.int .i64 o.f1) rfl) 2 (.int .i64 o.f2) rfl
   refine bodyPost_ret (results_row2 Try.results93 _ _ w.heap.size 134 #[.int .i64 o.f0, .int .i64 o.f1, .int .i64 o.f2] (0, 0) _ (.int .i64 1) rfl rfl F3 Try.underlying134 rfl (by kernel_rfl)) rfl ?_
   have CS := (((Chg.refl (fun q => q = w.heap.size) wv).set_ (p := ⟨w.heap.size, 0, none⟩) (.inl rfl) (.int .i64 o.f0)).set_ (p := ⟨w.heap.size, 1, none⟩) (.inl rfl) (.int .i64 o.f1)).set_ (p := ⟨w.heap.size, 2, none⟩) (.inl rfl) (.int .i64 o.f2)
   have TF := Tv.out.chg CS (fun e => by have := blk_lt HX.out.blk; omega) (fun q cells hc e => by
    rw [e, B0v.out] at hc
    injection hc with hc
    injection hc with _ h2
    exact absurd h2 (by decide)) (fun q e => by rw [e]; exact HX.out.fr.size)
   exact ⟨OUT.out, _, TF, rfl, rfl, RJ.out, Cv.out.then_ CS (fun q e => .inr (Nat.le_of_eq e.symm))⟩
  have b1 : ((j.dn + 1) == j.wrk) = false := beq_eq_false_iff_ne.2 e1
  have b2 : decide (j.dn + 1 = j.wrk) = false := decide_eq_false e1
  cases hhi : R.hi with
  | true =>
   rw [hhi] at c37
   by_cases lb : j.dn + 1 < x.f5
   ·have g1 : decide (j.dn + 1 < x.f5) = true := decide_eq_true (by omega)
    have OUT0 : outJ R.hi x j = 0 := by unfold outJ budT; rw [if_neg e1, hhi]; simp only [if_true, if_false, Bool.false_eq_true]; rw [if_neg (by omega)]
    have OUT : Aside0 (Ending.returned (.tuple #[.agg #[.int .i64 o.f0, .int .i64 o.f1, .int .i64 o.f2], .int .i64 0]) = Ending.returned (.tuple #[opV o, .int .i64 (outJ R.hi x j)])) := ⟨by rw [OUT0]; rfl⟩
    have RJ := asd (runR_on HXX.out HJJ.out (by rw [OUT0]; decide) HKI.out)
    clear lb hhi e1 OUT0
    go_wp2
    have F3 := blk_put (blk_put (blk_put B0z.out 0 (.int .i64 o.f0) rfl) 1 (.int .i64 o.f1) rfl) 2 (.int .i64 o.f2) rfl
    refine bodyPost_ret (results_row2 Try.results93 _ _ w.heap.size 134 #[.int .i64 o.f0, .int .i64 o.f1, .int .i64 o.f2] (0, 0) _ (.int .i64 0) rfl rfl F3 Try.underlying134 rfl (by kernel_rfl)) rfl ?_
    have CS := (((Chg.refl (fun q => q = w.heap.size) wz).set_ (p := ⟨w.heap.size, 0, none⟩) (.inl rfl) (.int .i64 o.f0)).set_ (p := ⟨w.heap.size, 1, none⟩) (.inl rfl) (.int .i64 o.f1)).set_ (p := ⟨w.heap.size, 2, none⟩) (.inl rfl) (.int .i64 o.f2)
    have TF := Tz.out.chg CS (fun e => by have := blk_lt HX.out.blk; omega) (fun q cells hc e => by
     rw [e, B0z.out] at hc
     injection hc with hc
     injection hc with _ h2
     exact absurd h2 (by decide)) (fun q e => by rw [e]; exact HX.out.fr.size)
    exact ⟨OUT.out, _, TF, rfl, rfl, RJ.out, Cz.out.then_ CS (fun q e => .inr (Nat.le_of_eq e.symm))⟩
   ·have g1 : decide (j.dn + 1 < x.f5) = false := decide_eq_false (by omega)
    have OUT0 : outJ R.hi x j = 2 := by unfold outJ budT; rw [if_neg e1, hhi]; simp only [if_true]; rw [if_pos (by omega)]; simp
    have OUT : Aside0 (Ending.returned (.tuple #[.agg #[.int .i64 o.f0, .int .i64 o.f1, .int .i64 o.f2], .int .i64 2]) = Ending.returned (.tuple #[opV o, .int .i64 (outJ R.hi x j)])) := ⟨by rw [OUT0]; rfl⟩
    have RJ := asd (runR_off HXX.out HJJ.out (by rw [OUT0]; decide) HKI.out)
    clear lb hhi e1 OUT0
    go_wp2_with fail
    go_big_region
    have Tq := asd Tz.out.drew
    have B0q := asd (blk_drew B0z.out)
    have B7q := asd (blk_drew B7z.out)
    have Cq := asd Cz.out.drew
    clear c0 c37 y yf m2 m3 s0 s1 s2 sf0 sf1 sf2 o0 o1 o2 u0 u4 u5
    generalize wz.drew = wq at Tq B0q B7q Cq ⊢
    have s0 := (blk_cell B0q.out 0).trans rfl
    have sf0 := blk_frozen B0q.out 0
    have o0 := (blk_cell B7q.out 0).trans rfl
    have s1 := (blk_cell B0q.out 1).trans rfl
    have sf1 := blk_frozen B0q.out 1
    have o1 := (blk_cell B7q.out 1).trans rfl
    have s2 := (blk_cell B0q.out 2).trans rfl
    have sf2 := blk_frozen B0q.out 2
    have o2 := (blk_cell B7q.out 2).trans rfl
    have y := Tq.out.cIs HK6.out
    rw [show (R.setDn k (j.dn + 1)).is k = true from HKI.out] at y
    have yf := Tq.out.frz (31 + k)
    go_upto_region 20 with fail
    have Tv := asd (Tq.out.off HK6.out)
    have CI := (Chg.refl (fun q => q = r) wq).set_ (p := ⟨r, 31 + k, none⟩) (.inl rfl) (.bool false)
    have B0v := asd (blk_chg B0q.out CI (fun e => by have := blk_lt HX.out.blk; omega))
    have B7v := asd (blk_chg B7q.out CI (fun e => by have := blk_lt HX.out.blk; omega))
    have Cv := asd (Cq.out.set_ (p := ⟨r, 31 + k, none⟩) (.inl rfl) (.bool false))
    clear CI y yf  s0 s1 s2 sf0 sf1 sf2 o0 o1 o2
    generalize wq.setCell ⟨r, 31 + k, none⟩ (.bool false) = wv at Tv B0v B7v Cv ⊢
    have s0 := (blk_cell B0v.out 0).trans rfl
    have sf0 := blk_frozen B0v.out 0
    have o0 := (blk_cell B7v.out 0).trans rfl
    have s1 := (blk_cell B0v.out 1).trans rfl
    have sf1 := blk_frozen B0v.out 1
    have o1 := (blk_cell B7v.out 1).trans rfl
    have s2 := (blk_cell B0v.out 2).trans rfl
    have sf2 := blk_frozen B0v.out 2
    have o2 := (blk_cell B7v.out 2).trans rfl
    go_wp2
    have F3 := blk_put (blk_put (blk_put B0v.out 0 (.int .i64 o.f0) rfl) 1 (.int .i64 o.f1) rfl) 2 (.int .i64 o.f2) rfl
    refine bodyPost_ret (results_row2 Try.results93 _ _ w.heap.size 134 #[.int .i64 o.f0, .int .i64 o.f1, .int .i64 o.f2] (0, 0) _ (.int .i64 2) rfl rfl F3 Try.underlying134 rfl (by kernel_rfl)) rfl ?_
    have CS := (((Chg.refl (fun q => q = w.heap.size) wv).set_ (p := ⟨w.heap.size, 0, none⟩) (.inl rfl) (.int .i64 o.f0)).set_ (p := ⟨w.heap.size, 1, none⟩) (.inl rfl) (.int .i64 o.f1)).set_ (p := ⟨w.heap.size, 2, none⟩) (.inl rfl) (.int .i64 o.f2)
    have TF := Tv.out.chg CS (fun e => by have := blk_lt HX.out.blk; omega) (fun q cells hc e => by
     rw [e, B0v.out] at hc
     injection hc with hc
     injection hc with _ h2
     exact absurd h2 (by decide)) (fun q e => by rw [e]; exact HX.out.fr.size)
    exact ⟨OUT.out, _, TF, rfl, rfl, RJ.out, Cv.out.then_ CS (fun q e => .inr (Nat.le_of_eq e.symm))⟩
  | false =>
   rw [hhi] at c37
   by_cases lb : j.dn + 1 < x.f4
   ·have g1 : decide (j.dn + 1 < x.f4) = true := decide_eq_true (by omega)
    have OUT0 : outJ R.hi x j = 0 := by unfold outJ budT; rw [if_neg e1, hhi]; simp only [if_true, if_false, Bool.false_eq_true]; rw [if_neg (by omega)]
    have OUT : Aside0 (Ending.returned (.tuple #[.agg #[.int .i64 o.f0, .int .i64 o.f1, .int .i64 o.f2], .int .i64 0]) = Ending.returned (.tuple #[opV o, .int .i64 (outJ R.hi x j)])) := ⟨by rw [OUT0]; rfl⟩
    have RJ := asd (runR_on HXX.out HJJ.out (by rw [OUT0]; decide) HKI.out)
    clear lb hhi e1 OUT0
    go_wp2
    have F3 := blk_put (blk_put (blk_put B0z.out 0 (.int .i64 o.f0) rfl) 1 (.int .i64 o.f1) rfl) 2 (.int .i64 o.f2) rfl
    refine bodyPost_ret (results_row2 Try.results93 _ _ w.heap.size 134 #[.int .i64 o.f0, .int .i64 o.f1, .int .i64 o.f2] (0, 0) _ (.int .i64 0) rfl rfl F3 Try.underlying134 rfl (by kernel_rfl)) rfl ?_
    have CS := (((Chg.refl (fun q => q = w.heap.size) wz).set_ (p := ⟨w.heap.size, 0, none⟩) (.inl rfl) (.int .i64 o.f0)).set_ (p := ⟨w.heap.size, 1, none⟩) (.inl rfl) (.int .i64 o.f1)).set_ (p := ⟨w.heap.size, 2, none⟩) (.inl rfl) (.int .i64 o.f2)
    have TF := Tz.out.chg CS (fun e => by have := blk_lt HX.out.blk; omega) (fun q cells hc e => by
     rw [e, B0z.out] at hc
     injection hc with hc
     injection hc with _ h2
     exact absurd h2 (by decide)) (fun q e => by rw [e]; exact HX.out.fr.size)
    exact ⟨OUT.out, _, TF, rfl, rfl, RJ.out, Cz.out.then_ CS (fun q e => .inr (Nat.le_of_eq e.symm))⟩
   ·have g1 : decide (j.dn + 1 < x.f4) = false := decide_eq_false (by omega)
    cases hf : x.f0 with
    | false =>
     rw [hf] at u0
     have OUT0 : outJ R.hi x j = 2 := by unfold outJ budT; rw [if_neg e1, hhi]; simp only [if_false, Bool.false_eq_true]; rw [if_pos (by omega), if_pos (.inr (.inl hf))]
     have OUT : Aside0 (Ending.returned (.tuple #[.agg #[.int .i64 o.f0, .int .i64 o.f1, .int .i64 o.f2], .int .i64 2]) = Ending.returned (.tuple #[opV o, .int .i64 (outJ R.hi x j)])) := ⟨by rw [OUT0]; rfl⟩
     have RJ := asd (runR_off HXX.out HJJ.out (by rw [OUT0]; decide) HKI.out)
     clear lb hhi e1 OUT0 hf
     go_wp2_with fail
     go_big_region
     have Tq := asd Tz.out.drew
     have B0q := asd (blk_drew B0z.out)
     have B7q := asd (blk_drew B7z.out)
     have Cq := asd Cz.out.drew
     clear c0 c37 y yf m2 m3 s0 s1 s2 sf0 sf1 sf2 o0 o1 o2 u0 u4 u5
     generalize wz.drew = wq at Tq B0q B7q Cq ⊢
     have s0 := (blk_cell B0q.out 0).trans rfl
     have sf0 := blk_frozen B0q.out 0
     have o0 := (blk_cell B7q.out 0).trans rfl
     have s1 := (blk_cell B0q.out 1).trans rfl
     have sf1 := blk_frozen B0q.out 1
     have o1 := (blk_cell B7q.out 1).trans rfl
     have s2 := (blk_cell B0q.out 2).trans rfl
     have sf2 := blk_frozen B0q.out 2
     have o2 := (blk_cell B7q.out 2).trans rfl
     have y := Tq.out.cIs HK6.out
     rw [show (R.setDn k (j.dn + 1)).is k = true from HKI.out] at y
     have yf := Tq.out.frz (31 + k)
     go_upto_region 20 with fail
     have Tv := asd (Tq.out.off HK6.out)
     have CI := (Chg.refl (fun q => q = r) wq).set_ (p := ⟨r, 31 + k, none⟩) (.inl rfl) (.bool false)
     have B0v := asd (blk_chg B0q.out CI (fun e => by have := blk_lt HX.out.blk; omega))
     have B7v := asd (blk_chg B7q.out CI (fun e => by have := blk_lt HX.out.blk; omega))
     have Cv := asd (Cq.out.set_ (p := ⟨r, 31 + k, none⟩) (.inl rfl) (.bool false))
     clear CI y yf  s0 s1 s2 sf0 sf1 sf2 o0 o1 o2
     generalize wq.setCell ⟨r, 31 + k, none⟩ (.bool false) = wv at Tv B0v B7v Cv ⊢
     have s0 := (blk_cell B0v.out 0).trans rfl
     have sf0 := blk_frozen B0v.out 0
     have o0 := (blk_cell B7v.out 0).trans rfl
     have s1 := (blk_cell B0v.out 1).trans rfl
     have sf1 := blk_frozen B0v.out 1
     have o1 := (blk_cell B7v.out 1).trans rfl
     have s2 := (blk_cell B0v.out 2).trans rfl
     have sf2 := blk_frozen B0v.out 2
     have o2 := (blk_cell B7v.out 2).trans rfl
     go_wp2
     have F3 := blk_put (blk_put (blk_put B0v.out 0 (.int .i64 o.f0) rfl) 1 (.int .i64 o.f1) rfl) 2 (.int .i64 o.f2) rfl
     refine bodyPost_ret (results_row2 Try.results93 _ _ w.heap.size 134 #[.int .i64 o.f0, .int .i64 o.f1, .int .i64 o.f2] (0, 0) _ (.int .i64 2) rfl rfl F3 Try.underlying134 rfl (by kernel_rfl)) rfl ?_
     have CS := (((Chg.refl (fun q => q = w.heap.size) wv).set_ (p := ⟨w.heap.size, 0, none⟩) (.inl rfl) (.int .i64 o.f0)).set_ (p := ⟨w.heap.size, 1, none⟩) (.inl rfl) (.int .i64 o.f1)).set_ (p := ⟨w.heap.size, 2, none⟩) (.inl rfl) (.int .i64 o.f2)
     have TF := Tv.out.chg CS (fun e => by have := blk_lt HX.out.blk; omega) (fun q cells hc e => by
      rw [e, B0v.out] at hc
      injection hc with hc
      injection hc with _ h2
      exact absurd h2 (by decide)) (fun q e => by rw [e]; exact HX.out.fr.size)
     exact ⟨OUT.out, _, TF, rfl, rfl, RJ.out, Cv.out.then_ CS (fun q e => .inr (Nat.le_of_eq e.symm))⟩
    | true =>
     rw [hf] at u0
     by_cases l5 : x.f4 < x.f5
     ·have g2 : decide (x.f4 < x.f5) = true := decide_eq_true (by omega)
      have g3 : decide (x.f5 > x.f4) = true := decide_eq_true (by omega)
      have OUT0 : outJ R.hi x j = 3 := by unfold outJ budT; rw [if_neg e1, hhi]; simp only [if_false, Bool.false_eq_true]; rw [if_pos (by omega), if_neg (by rintro (q | q | q); cases q; (rw [hf] at q; cases q); omega)]
      have OUT : Aside0 (Ending.returned (.tuple #[.agg #[.int .i64 o.f0, .int .i64 o.f1, .int .i64 o.f2], .int .i64 3]) = Ending.returned (.tuple #[opV o, .int .i64 (outJ R.hi x j)])) := ⟨by rw [OUT0]; rfl⟩
      have RJ := asd (runR_on HXX.out HJJ.out (by rw [OUT0]; decide) HKI.out)
      clear lb hhi e1 OUT0 hf l5
      go_wp2_with fail
      go_big_region
      have Tq := asd Tz.out.drew
      have B0q := asd (blk_drew B0z.out)
      have B7q := asd (blk_drew B7z.out)
      have Cq := asd Cz.out.drew
      clear c0 c37 y yf m2 m3 s0 s1 s2 sf0 sf1 sf2 o0 o1 o2 u0 u4 u5
      generalize wz.drew = wq at Tq B0q B7q Cq ⊢
      have s0 := (blk_cell B0q.out 0).trans rfl
      have sf0 := blk_frozen B0q.out 0
      have o0 := (blk_cell B7q.out 0).trans rfl
      have s1 := (blk_cell B0q.out 1).trans rfl
      have sf1 := blk_frozen B0q.out 1
      have o1 := (blk_cell B7q.out 1).trans rfl
      have s2 := (blk_cell B0q.out 2).trans rfl
      have sf2 := blk_frozen B0q.out 2
      have o2 := (blk_cell B7q.out 2).trans rfl
      go_wp2
      have F3 := blk_put (blk_put (blk_put B0q.out 0 (.int .i64 o.f0) rfl) 1 (.int .i64 o.f1) rfl) 2 (.int .i64 o.f2) rfl
      refine bodyPost_ret (results_row2 Try.results93 _ _ w.heap.size 134 #[.int .i64 o.f0, .int .i64 o.f1, .int .i64 o.f2] (0, 0) _ (.int .i64 3) rfl rfl F3 Try.underlying134 rfl (by kernel_rfl)) rfl ?_
      have CS := (((Chg.refl (fun q => q = w.heap.size) wq).set_ (p := ⟨w.heap.size, 0, none⟩) (.inl rfl) (.int .i64 o.f0)).set_ (p := ⟨w.heap.size, 1, none⟩) (.inl rfl) (.int .i64 o.f1)).set_ (p := ⟨w.heap.size, 2, none⟩) (.inl rfl) (.int .i64 o.f2)
      have TF := Tq.out.chg CS (fun e => by have := blk_lt HX.out.blk; omega) (fun q cells hc e => by
       rw [e, B0q.out] at hc
       injection hc with hc
       injection hc with _ h2
       exact absurd h2 (by decide)) (fun q e => by rw [e]; exact HX.out.fr.size)
      exact ⟨OUT.out, _, TF, rfl, rfl, RJ.out, Cq.out.then_ CS (fun q e => .inr (Nat.le_of_eq e.symm))⟩
     ·have g2 : decide (x.f4 < x.f5) = false := decide_eq_false (by omega)
      have g3 : decide (x.f5 > x.f4) = false := decide_eq_false (by omega)
      have t45 := TIE.out.2.1.1
      have OUT0 : outJ R.hi x j = 2 := by unfold outJ budT; rw [if_neg e1, hhi]; simp only [if_false, Bool.false_eq_true]; rw [if_pos (by omega), if_pos (.inr (.inr (by omega)))]
      have OUT : Aside0 (Ending.returned (.tuple #[.agg #[.int .i64 o.f0, .int .i64 o.f1, .int .i64 o.f2], .int .i64 2]) = Ending.returned (.tuple #[opV o, .int .i64 (outJ R.hi x j)])) := ⟨by rw [OUT0]; rfl⟩
      have RJ := asd (runR_off HXX.out HJJ.out (by rw [OUT0]; decide) HKI.out)
      clear lb hhi e1 OUT0 hf l5 t45
      go_wp2_with fail
      go_big_region
      have Tq := asd Tz.out.drew
      have B0q := asd (blk_drew B0z.out)
      have B7q := asd (blk_drew B7z.out)
      have Cq := asd Cz.out.drew
      clear c0 c37 y yf m2 m3 s0 s1 s2 sf0 sf1 sf2 o0 o1 o2 u0 u4 u5
      generalize wz.drew = wq at Tq B0q B7q Cq ⊢
      have s0 := (blk_cell B0q.out 0).trans rfl
      have sf0 := blk_frozen B0q.out 0
      have o0 := (blk_cell B7q.out 0).trans rfl
      have s1 := (blk_cell B0q.out 1).trans rfl
      have sf1 := blk_frozen B0q.out 1
      have o1 := (blk_cell B7q.out 1).trans rfl
      have s2 := (blk_cell B0q.out 2).trans rfl
      have sf2 := blk_frozen B0q.out 2
      have o2 := (blk_cell B7q.out 2).trans rfl
      have y := Tq.out.cIs HK6.out
      rw [show (R.setDn k (j.dn + 1)).is k = true from HKI.out] at y
      have yf := Tq.out.frz (31 + k)
      go_upto_region 20 with fail
      have Tv := asd (Tq.out.off HK6.out)
      have CI := (Chg.refl (fun q => q = r) wq).set_ (p := ⟨r, 31 + k, none⟩) (.inl rfl) (.bool false)
      have B0v := asd (blk_chg B0q.out CI (fun e => by have := blk_lt HX.out.blk; omega))
      have B7v := asd (blk_chg B7q.out CI (fun e => by have := blk_lt HX.out.blk; omega))
      have Cv := asd (Cq.out.set_ (p := ⟨r, 31 + k, none⟩) (.inl rfl) (.bool false))
      clear CI y yf  s0 s1 s2 sf0 sf1 sf2 o0 o1 o2
      generalize wq.setCell ⟨r, 31 + k, none⟩ (.bool false) = wv at Tv B0v B7v Cv ⊢
      have s0 := (blk_cell B0v.out 0).trans rfl
      have sf0 := blk_frozen B0v.out 0
      have o0 := (blk_cell B7v.out 0).trans rfl
      have s1 := (blk_cell B0v.out 1).trans rfl
      have sf1 := blk_frozen B0v.out 1
      have o1 := (blk_cell B7v.out 1).trans rfl
      have s2 := (blk_cell B0v.out 2).trans rfl
      have sf2 := blk_frozen B0v.out 2
      have o2 := (blk_cell B7v.out 2).trans rfl
      go_wp2
      have F3 := blk_put (blk_put (blk_put B0v.out 0 (.int .i64 o.f0) rfl) 1 (.int .i64 o.f1) rfl) 2 (.int .i64 o.f2) rfl
      refine bodyPost_ret (results_row2 Try.results93 _ _ w.heap.size 134 #[.int .i64 o.f0, .int .i64 o.f1, .int .i64 o.f2] (0, 0) _ (.int .i64 2) rfl rfl F3 Try.underlying134 rfl (by kernel_rfl)) rfl ?_
      have CS := (((Chg.refl (fun q => q = w.heap.size) wv).set_ (p := ⟨w.heap.size, 0, none⟩) (.inl rfl) (.int .i64 o.f0)).set_ (p := ⟨w.heap.size, 1, none⟩) (.inl rfl) (.int .i64 o.f1)).set_ (p := ⟨w.heap.size, 2, none⟩) (.inl rfl) (.int .i64 o.f2)
      have TF := Tv.out.chg CS (fun e => by have := blk_lt HX.out.blk; omega) (fun q cells hc e => by
       rw [e, B0v.out] at hc
       injection hc with hc
       injection hc with _ h2
       exact absurd h2 (by decide)) (fun q e => by rw [e]; exact HX.out.fr.size)
      exact ⟨OUT.out, _, TF, rfl, rfl, RJ.out, Cv.out.then_ CS (fun q e => .inr (Nat.le_of_eq e.symm))⟩
end
end Go.Proofs.Ytjekfipaadbbbaa.Fn
namespace Go.Proofs.Ytjekfipaadbbbaa.Fn
open Go.RowKit Go.Proofs.YtjekfipaadbbbaaW.PrintWords Go.Proofs.YtjekfipaadbbbaaW.PrintLast Go.Proofs.YtjekfipaadbbbaaW.PrintMore
attribute [local go_sem] max2_int min2_int max_two min_two max_three min_three max_four min_four
set_option linter.unusedVariables false
set_option linter.unusedSimpArgs false
def parcloselaw19_ints.l0 : Nat → List Int → List Int → Int → Option (Bool)
 | 0, _, _, _ => none
 | k + 1, x0, x1, x5 => if x5 < (x0.length : Int) then (if 0 ≤ x5 then (if x5 < (x1.length : Int) then (if (rd x0 x5) = (rd x1 x5) then (parcloselaw19_ints.l0 k x0 x1 (wrap64 (x5 + 1))) else (some false)) else (none)) else (none)) else (some true)
def parcloselaw19_ints.f (k : Nat) (l0 : List Int) (l1 : List Int) : Option (Bool) := if (l0.length : Int) = (l1.length : Int) then (parcloselaw19_ints.l0 k l0 l1 0) else (some false)
set_option maxHeartbeats 8000000 in
set_option maxRecDepth 100000 in
theorem parcloselaw19_ints.calls (k : Nat) (A0 : Option Addr) (c0 : Nat) (l0 : List Int) (A1 : Option Addr) (c1 : Nat) (l1 : List Int) (r : Bool) (w : World) (hr0 : Kd.C (Kd.int .i64) w A0 l0.length l0) (hc0 : l0.length ≤ c0) (hr1 : Kd.C (Kd.int .i64) w A1 l1.length l1) (hc1 : l1.length ≤ c1) (h : parcloselaw19_ints.f k l0 l1 = some r) :
  Calls Try.prog 94 #[.slice A0 l0.length c0, .slice A1 l1.length c1] w fun e w' => e = .returned (.bool r) ∧ Drawn0 w w' := by
 have HR0 := asd hr0
 have HC0 := asd hc0
 clear hr0 hc0
 have HR1 := asd hr1
 have HC1 := asd hc1
 clear hr1 hc1
 have H : (if (l0.length : Int) = (l1.length : Int) then (parcloselaw19_ints.l0 k l0 l1 0) else (some false)) = some r := h
 clear h
 by_cases c3 : (l0.length : Int) = (l1.length : Int)
 ·rw [if_pos c3] at H
  have c3b0 : ((l0.length : Int) == (l1.length : Int)) = true := beq_iff_eq.mpr c3
  have c3b1 : ((l0.length : Int) != (l1.length : Int)) = false := bne_eq_false_iff_eq.mpr c3
  have c3b2 : (l0.length == l1.length) = true := by first | simpa using c3 | (simp at c3 ⊢; omega)
  clear c3
  have H' := asd H
  clear H
  go_enter Try.func94, Try.ntmps94
  go_wp2
  repeat (go_quiet (fail); try go_wp2)
  go_loopg [5] k (fun kq v5 w' => ∃ (x5_1 : Int), v5 = .int .i64 x5_1 ∧ Aside0 (parcloselaw19_ints.l0 kq l0 l1 x5_1 = some r) ∧ Aside0 (kq ≤ k) ∧ Drawn0 w w')
  case atStart => exact ⟨(0), (by first | rfl | (simp; done) | (simp [*]; done)), H', ⟨Nat.le_refl _⟩, by repeat (first | exact Drawn0.refl _ | apply Drawn0.step)⟩
  case round =>
   clear H'
   try clear c1
   try clear p2
   try clear c3
   try clear c3b0
   try clear c3b1
   try clear c3b2
   obtain ⟨x5_1, rfl, HA, HK1, ⟨m1, rfl⟩⟩ := hrel
   cases gk with
   | zero => exact absurd HA.out (by simp [parcloselaw19_ints.l0])
   | succ k1 =>
    have H := HA.out
    clear HA
    simp only [parcloselaw19_ints.l0] at H
    by_cases c4 : x5_1 < (l0.length : Int)
    ·rw [if_pos c4] at H
     have c4b0 : decide (x5_1 < (l0.length : Int)) = true := decide_eq_true c4
     clear c4
     by_cases c5 : 0 ≤ x5_1
     ·rw [if_pos c5] at H
      have c5b0 : decide (0 ≤ x5_1) = true := decide_eq_true c5
      clear c5
      by_cases c6 : x5_1 < (l1.length : Int)
      ·rw [if_pos c6] at H
       have c6b0 : decide (x5_1 < (l1.length : Int)) = true := decide_eq_true c6
       clear c6
       by_cases c7 : (rd l0 x5_1) = (rd l1 x5_1)
       ·rw [if_pos c7] at H
        have c7b0 : ((rd l0 x5_1) == (rd l1 x5_1)) = true := beq_iff_eq.mpr c7
        have c7b1 : ((rd l0 x5_1) != (rd l1 x5_1)) = false := bne_eq_false_iff_eq.mpr c7
        clear c7
        have H' := asd H
        clear H
        have p159 : 0 ≤ (x5_1 : Int) := of_decide_eq_true (by assumption)
        have q159 : x5_1 < (l0.length : Int) := of_decide_eq_true (by assumption)
        obtain ⟨ad159, e159, hx159_0⟩ := Kd.at_int HR0.out x5_1 p159 q159
        cases e159
        replace p159 := eq_true p159
        replace q159 := eq_true q159
        have p160 : 0 ≤ (x5_1 : Int) := of_decide_eq_true (by assumption)
        have q160 : x5_1 < (l1.length : Int) := of_decide_eq_true (by assumption)
        obtain ⟨ad160, e160, hx160_0⟩ := Kd.at_int HR1.out x5_1 p160 q160
        cases e160
        replace p160 := eq_true p160
        replace q160 := eq_true q160
        go_wp2
        repeat (go_quiet (fail); try go_wp2)
        go_roundg k1
        case measure => have := HK1.out; omega
        case rel => exact ⟨(wrap64 (x5_1 + 1)), (by first | rfl | (simp; done) | (simp [*]; done)), H', ⟨by have := HK1.out; omega⟩, by repeat (first | exact Drawn0.refl _ | apply Drawn0.step)⟩
       ·rw [if_neg c7] at H
        have c7b0 : ((rd l0 x5_1) == (rd l1 x5_1)) = false := beq_eq_false_iff_ne.mpr c7
        have c7b1 : ((rd l0 x5_1) != (rd l1 x5_1)) = true := bne_iff_ne.mpr c7
        obtain rfl := Option.some.inj H
        have p159 : 0 ≤ (x5_1 : Int) := of_decide_eq_true (by assumption)
        have q159 : x5_1 < (l0.length : Int) := of_decide_eq_true (by assumption)
        obtain ⟨ad159, e159, hx159_0⟩ := Kd.at_int HR0.out x5_1 p159 q159
        cases e159
        replace p159 := eq_true p159
        replace q159 := eq_true q159
        have p160 : 0 ≤ (x5_1 : Int) := of_decide_eq_true (by assumption)
        have q160 : x5_1 < (l1.length : Int) := of_decide_eq_true (by assumption)
        obtain ⟨ad160, e160, hx160_0⟩ := Kd.at_int HR1.out x5_1 p160 q160
        cases e160
        replace p160 := eq_true p160
        replace q160 := eq_true q160
        go_wp2
        repeat (go_quiet (fail); try go_wp2)
        go_ret
        exact ⟨by first | rfl | (simp; done) | (simp [*]; done), by repeat (first | exact Drawn0.refl _ | apply Drawn0.step)⟩
      ·rw [if_neg c6] at H
       exact absurd H (by simp)
     ·rw [if_neg c5] at H
      exact absurd H (by simp)
    ·rw [if_neg c4] at H
     have c4b0 : decide (x5_1 < (l0.length : Int)) = false := decide_eq_false c4
     clear c4
     obtain rfl := Option.some.inj H
     go_wp2
     repeat (go_quiet (fail); try go_wp2)
     go_ret
     exact ⟨by first | rfl | (simp; done) | (simp [*]; done), by repeat (first | exact Drawn0.refl _ | apply Drawn0.step)⟩
 ·rw [if_neg c3] at H
  have c3b0 : ((l0.length : Int) == (l1.length : Int)) = false := beq_eq_false_iff_ne.mpr c3
  have c3b1 : ((l0.length : Int) != (l1.length : Int)) = true := bne_iff_ne.mpr c3
  have c3b2 : (l0.length == l1.length) = false := by first | simpa using c3 | (simp at c3 ⊢; omega)
  obtain rfl := Option.some.inj H
  go_enter Try.func94, Try.ntmps94
  go_wp2
  repeat (go_quiet (fail); try go_wp2)
  go_ret
  exact ⟨by first | rfl | (simp; done) | (simp [*]; done), by repeat (first | exact Drawn0.refl _ | apply Drawn0.step)⟩
end Go.Proofs.Ytjekfipaadbbbaa.Fn
namespace Go.Proofs.Ytjekfipaadbbbaa.Fn
open Go.RowKit Go.Proofs.YtjekfipaadbbbaaW.PrintWords Go.Proofs.YtjekfipaadbbbaaW.PrintLast Go.Proofs.YtjekfipaadbbbaaW.PrintMore
attribute [local go_sem] max2_int min2_int max_two min_two max_three min_three max_four min_four
set_option linter.unusedVariables false
set_option linter.unusedSimpArgs false
theorem eqA134 (d : Nat) (w : World) (x0 y0 : Int) (x1 y1 : Int) (x2 y2 : Int) :
  (Op.equalIn (d + 2) 134 (.agg #[.int .i64 x0, .int .i64 x1, .int .i64 x2]) (.agg #[.int .i64 y0, .int .i64 y1, .int .i64 y2])).run Try.prog w = .ok (x0 == y0 && (x1 == y1 && (x2 == y2))) w := by
 refine eqA_of Try.underlying134 (by kernel_rfl) ?_
 refine eqf_cons (by rfl) (by go_simp; rfl) (by go_simp; rfl) (by go_simp) ?_
 refine eqf_cons (by rfl) (by go_simp; rfl) (by go_simp; rfl) (by go_simp) ?_
 exact eqf_last (by rfl) (by go_simp; rfl) (by go_simp; rfl) (by go_simp)
end Go.Proofs.Ytjekfipaadbbbaa.Fn
namespace Go.Proofs.Ytjekfipaadbbbaa.Fn
open Go.RowKit Go.Proofs.YtjekfipaadbbbaaW.PrintWords Go.Proofs.YtjekfipaadbbbaaW.PrintLast Go.Proofs.YtjekfipaadbbbaaW.PrintMore
attribute [local go_sem] max2_int min2_int max_two min_two max_three min_three max_four min_four
set_option linter.unusedVariables false
set_option linter.unusedSimpArgs false
attribute [local go_sem high] eqA134
mutual
def parcloseref19_Same.j0 : Nat → Bool → Int → Int → Int → Int → List (S134) → Int → Int → Int → Int → List (S134) → Option (Bool)
 | 0, _, _, _, _, _, _, _, _, _, _, _ => none
 | k + 1, x40, x163000, x163001, x163002, x163003, x163004, x164000, x164001, x164002, x164003, x164004 => if x40 = true then (some false) else (parcloseref19_Same.l0 k 0 x163000 x163001 x163002 x163003 x163004 x164000 x164001 x164002 x164003 x164004)
def parcloseref19_Same.l0 : Nat → Int → Int → Int → Int → Int → List (S134) → Int → Int → Int → Int → List (S134) → Option (Bool)
 | 0, _, _, _, _, _, _, _, _, _, _, _ => none
 | k + 1, x5, x163000, x163001, x163002, x163003, x163004, x164000, x164001, x164002, x164003, x164004 => if x5 < (x163004.length : Int) then (if 0 ≤ x5 then (if x5 < (x164004.length : Int) then (if (!(((rd_T134 x163004 x5).f0) == ((rd_T134 x164004 x5).f0)) || (!(((rd_T134 x163004 x5).f1) == ((rd_T134 x164004 x5).f1)) || (!(((rd_T134 x163004 x5).f2) == ((rd_T134 x164004 x5).f2))))) = true then (some false) else (parcloseref19_Same.l0 k (wrap64 (x5 + 1)) x163000 x163001 x163002 x163003 x163004 x164000 x164001 x164002 x164003 x164004)) else (none)) else (none)) else (some true)
end
def parcloseref19_Same.f (k : Nat) (a0_0 : Int) (a0_1 : Int) (a0_2 : Int) (a0_3 : Int) (l0_4 : List (S134)) (a1_0 : Int) (a1_1 : Int) (a1_2 : Int) (a1_3 : Int) (l1_4 : List (S134)) : Option (Bool) := if a0_0 = a1_0 then (if a0_1 = a1_1 then (if a0_2 = a1_2 then (if a0_3 = a1_3 then (parcloseref19_Same.j0 k ((l0_4.length : Int) != (l1_4.length : Int)) a0_0 a0_1 a0_2 a0_3 l0_4 a1_0 a1_1 a1_2 a1_3 l1_4) else (parcloseref19_Same.j0 k true a0_0 a0_1 a0_2 a0_3 l0_4 a1_0 a1_1 a1_2 a1_3 l1_4)) else (parcloseref19_Same.j0 k true a0_0 a0_1 a0_2 a0_3 l0_4 a1_0 a1_1 a1_2 a1_3 l1_4)) else (parcloseref19_Same.j0 k true a0_0 a0_1 a0_2 a0_3 l0_4 a1_0 a1_1 a1_2 a1_3 l1_4)) else (parcloseref19_Same.j0 k true a0_0 a0_1 a0_2 a0_3 l0_4 a1_0 a1_1 a1_2 a1_3 l1_4)
set_option maxHeartbeats 8000000 in
set_option maxRecDepth 100000 in
theorem parcloseref19_Same.calls (k : Nat) (a0_0 : Int) (a0_1 : Int) (a0_2 : Int) (a0_3 : Int) (A0_4 : Option Addr) (c0_4 : Nat) (l0_4 : List (S134)) (a1_0 : Int) (a1_1 : Int) (a1_2 : Int) (a1_3 : Int) (A1_4 : Option Addr) (c1_4 : Nat) (l1_4 : List (S134)) (r : Bool) (w : World) (hr0_4 : Kd.C k134 w A0_4 l0_4.length l0_4) (hc0_4 : l0_4.length ≤ c0_4) (hr1_4 : Kd.C k134 w A1_4 l1_4.length l1_4) (hc1_4 : l1_4.length ≤ c1_4) (h : parcloseref19_Same.f k a0_0 a0_1 a0_2 a0_3 l0_4 a1_0 a1_1 a1_2 a1_3 l1_4 = some r) :
  Calls Try.prog 51 #[.agg #[.int .i64 a0_0, .int .i64 a0_1, .int .i64 a0_2, .int .i64 a0_3, .slice A0_4 l0_4.length c0_4], .agg #[.int .i64 a1_0, .int .i64 a1_1, .int .i64 a1_2, .int .i64 a1_3, .slice A1_4 l1_4.length c1_4]] w fun e w' => e = .returned (.bool r) ∧ Below w.heap.size w w' := by
 have hu63 := Try.underlying63
 have hu134 := Try.underlying134
 have HR0_4 := asd hr0_4
 have HC0_4 := asd hc0_4
 clear hr0_4 hc0_4
 have HR1_4 := asd hr1_4
 have HC1_4 := asd hc1_4
 clear hr1_4 hc1_4
 have HB := asd (Below.refl w.heap.size w)
 have H : (if a0_0 = a1_0 then (if a0_1 = a1_1 then (if a0_2 = a1_2 then (if a0_3 = a1_3 then (parcloseref19_Same.j0 k ((l0_4.length : Int) != (l1_4.length : Int)) a0_0 a0_1 a0_2 a0_3 l0_4 a1_0 a1_1 a1_2 a1_3 l1_4) else (parcloseref19_Same.j0 k true a0_0 a0_1 a0_2 a0_3 l0_4 a1_0 a1_1 a1_2 a1_3 l1_4)) else (parcloseref19_Same.j0 k true a0_0 a0_1 a0_2 a0_3 l0_4 a1_0 a1_1 a1_2 a1_3 l1_4)) else (parcloseref19_Same.j0 k true a0_0 a0_1 a0_2 a0_3 l0_4 a1_0 a1_1 a1_2 a1_3 l1_4)) else (parcloseref19_Same.j0 k true a0_0 a0_1 a0_2 a0_3 l0_4 a1_0 a1_1 a1_2 a1_3 l1_4)) = some r := h
 clear h
 have HC3 := asd H
 clear H
 go_enter Try.func51, Try.ntmps51
 go_upto_region 1 with (first | ((with_reducible refine gate_dst (N := 2) rfl ?_); (try (refine gate_guard (by rfl) ?_; dsimp only)); refine box_event ?hg (N := 2) ?hd (cs := #[.int .i64 a0_0, .int .i64 a0_1, .int .i64 a0_2, .int .i64 a0_3, .slice A0_4 l0_4.length c0_4]) (t := 63) ?hr ?_; (case hd => rfl); (case hg => rfl); (case hr => first | (go_simp; done) | (go_simp; rfl)); intro gb162 hg w4 hbox hb; have n0_ := asd (below_step (by repeat (first | (with_reducible first | exact HB.out | apply wa | apply wn | apply wd) | exact HB.out)) hb); have n1_ := asd (hbox); have n2_ := asd ((by rw [hg]; exact (below_size (by repeat (first | (with_reducible first | exact HB.out | apply wa | apply wn | apply wd) | exact HB.out))) : w.heap.size ≤ gb162)); have n3_ := asd ((by rw [hg]; exact (below_size (by repeat (first | (with_reducible first | exact HB.out | apply wa | apply wn | apply wd) | exact HB.out))) : w.heap.size ≤ gb162)); clear HB; have HB := n0_; have BK162 := n1_; have GW162 := n2_; have GE162 := n3_; clear n0_ n1_ n2_ n3_; clear hb hbox hg) | ((with_reducible refine gate_dst (N := 3) rfl ?_); (try (refine gate_guard (by rfl) ?_; dsimp only)); refine box_event ?hg (N := 3) ?hd (cs := #[.int .i64 a1_0, .int .i64 a1_1, .int .i64 a1_2, .int .i64 a1_3, .slice A1_4 l1_4.length c1_4]) (t := 63) ?hr ?_; (case hd => rfl); (case hg => rfl); (case hr => first | (go_simp; done) | (go_simp; rfl)); intro gb163 hg w5 hbox hb; have n0_ := asd (blk_below (g := gb162) (o := .cells #[.int .i64 a0_0, .int .i64 a0_1, .int .i64 a0_2, .int .i64 a0_3, .slice A0_4 l0_4.length c0_4] 63 (0, 0)) (by (with_reducible repeat first | apply bn | apply bd | apply ba); exact BK162.out) hb); have n1_ := asd (below_step (by repeat (first | (with_reducible first | exact HB.out | apply wa | apply wn | apply wd | refine ws ?_ GE162.out) | exact HB.out)) hb); have n2_ := asd (hbox); have n3_ := asd ((by rw [hg]; exact (below_size (by repeat (first | (with_reducible first | exact HB.out | apply wa | apply wn | apply wd | refine ws ?_ GE162.out) | exact HB.out))) : w.heap.size ≤ gb163)); have n4_ := asd ((by rw [hg]; exact (below_size (by repeat (first | (with_reducible first | exact HB.out | apply wa | apply wn | apply wd | refine ws ?_ GE162.out) | exact HB.out))) : w.heap.size ≤ gb163)); have n5_ := asd ((by rw [hg]; exact Nat.ne_of_lt (blk_lt (g := gb162) (o := .cells #[.int .i64 a0_0, .int .i64 a0_1, .int .i64 a0_2, .int .i64 a0_3, .slice A0_4 l0_4.length c0_4] 63 (0, 0)) (by (with_reducible repeat first | apply bn | apply bd | apply ba); exact BK162.out)) : gb162 ≠ gb163)); have n6_ := asd ((by rw [hg]; exact Nat.ne_of_gt (blk_lt (g := gb162) (o := .cells #[.int .i64 a0_0, .int .i64 a0_1, .int .i64 a0_2, .int .i64 a0_3, .slice A0_4 l0_4.length c0_4] 63 (0, 0)) (by (with_reducible repeat first | apply bn | apply bd | apply ba); exact BK162.out)) : gb163 ≠ gb162)); clear BK162; clear HB; have BK162 := n0_; have HB := n1_; have BK163 := n2_; have GW163 := n3_; have GE163 := n4_; have NB162_163 := n5_; have NB163_162 := n6_; clear n0_ n1_ n2_ n3_ n4_ n5_ n6_; clear hb hbox hg))
 repeat (go_quiet (first | ((with_reducible refine gate_dst (N := 2) rfl ?_); (try (refine gate_guard (by rfl) ?_; dsimp only)); refine box_event ?hg (N := 2) ?hd (cs := #[.int .i64 a0_0, .int .i64 a0_1, .int .i64 a0_2, .int .i64 a0_3, .slice A0_4 l0_4.length c0_4]) (t := 63) ?hr ?_; (case hd => rfl); (case hg => rfl); (case hr => first | (go_simp; done) | (go_simp; rfl)); intro gb162 hg w4 hbox hb; have n0_ := asd (below_step (by repeat (first | (with_reducible first | exact HB.out | apply wa | apply wn | apply wd) | exact HB.out)) hb); have n1_ := asd (hbox); have n2_ := asd ((by rw [hg]; exact (below_size (by repeat (first | (with_reducible first | exact HB.out | apply wa | apply wn | apply wd) | exact HB.out))) : w.heap.size ≤ gb162)); have n3_ := asd ((by rw [hg]; exact (below_size (by repeat (first | (with_reducible first | exact HB.out | apply wa | apply wn | apply wd) | exact HB.out))) : w.heap.size ≤ gb162)); clear HB; have HB := n0_; have BK162 := n1_; have GW162 := n2_; have GE162 := n3_; clear n0_ n1_ n2_ n3_; clear hb hbox hg) | ((with_reducible refine gate_dst (N := 3) rfl ?_); (try (refine gate_guard (by rfl) ?_; dsimp only)); refine box_event ?hg (N := 3) ?hd (cs := #[.int .i64 a1_0, .int .i64 a1_1, .int .i64 a1_2, .int .i64 a1_3, .slice A1_4 l1_4.length c1_4]) (t := 63) ?hr ?_; (case hd => rfl); (case hg => rfl); (case hr => first | (go_simp; done) | (go_simp; rfl)); intro gb163 hg w5 hbox hb; have n0_ := asd (blk_below (g := gb162) (o := .cells #[.int .i64 a0_0, .int .i64 a0_1, .int .i64 a0_2, .int .i64 a0_3, .slice A0_4 l0_4.length c0_4] 63 (0, 0)) (by (with_reducible repeat first | apply bn | apply bd | apply ba); exact BK162.out) hb); have n1_ := asd (below_step (by repeat (first | (with_reducible first | exact HB.out | apply wa | apply wn | apply wd | refine ws ?_ GE162.out) | exact HB.out)) hb); have n2_ := asd (hbox); have n3_ := asd ((by rw [hg]; exact (below_size (by repeat (first | (with_reducible first | exact HB.out | apply wa | apply wn | apply wd | refine ws ?_ GE162.out) | exact HB.out))) : w.heap.size ≤ gb163)); have n4_ := asd ((by rw [hg]; exact (below_size (by repeat (first | (with_reducible first | exact HB.out | apply wa | apply wn | apply wd | refine ws ?_ GE162.out) | exact HB.out))) : w.heap.size ≤ gb163)); have n5_ := asd ((by rw [hg]; exact Nat.ne_of_lt (blk_lt (g := gb162) (o := .cells #[.int .i64 a0_0, .int .i64 a0_1, .int .i64 a0_2, .int .i64 a0_3, .slice A0_4 l0_4.length c0_4] 63 (0, 0)) (by (with_reducible repeat first | apply bn | apply bd | apply ba); exact BK162.out)) : gb162 ≠ gb163)); have n6_ := asd ((by rw [hg]; exact Nat.ne_of_gt (blk_lt (g := gb162) (o := .cells #[.int .i64 a0_0, .int .i64 a0_1, .int .i64 a0_2, .int .i64 a0_3, .slice A0_4 l0_4.length c0_4] 63 (0, 0)) (by (with_reducible repeat first | apply bn | apply bd | apply ba); exact BK162.out)) : gb163 ≠ gb162)); clear BK162; clear HB; have BK162 := n0_; have HB := n1_; have BK163 := n2_; have GW163 := n3_; have GE163 := n4_; have NB162_163 := n5_; have NB163_162 := n6_; clear n0_ n1_ n2_ n3_ n4_ n5_ n6_; clear hb hbox hg)); go_upto_region 1 with (first | ((with_reducible refine gate_dst (N := 2) rfl ?_); (try (refine gate_guard (by rfl) ?_; dsimp only)); refine box_event ?hg (N := 2) ?hd (cs := #[.int .i64 a0_0, .int .i64 a0_1, .int .i64 a0_2, .int .i64 a0_3, .slice A0_4 l0_4.length c0_4]) (t := 63) ?hr ?_; (case hd => rfl); (case hg => rfl); (case hr => first | (go_simp; done) | (go_simp; rfl)); intro gb162 hg w4 hbox hb; have n0_ := asd (below_step (by repeat (first | (with_reducible first | exact HB.out | apply wa | apply wn | apply wd) | exact HB.out)) hb); have n1_ := asd (hbox); have n2_ := asd ((by rw [hg]; exact (below_size (by repeat (first | (with_reducible first | exact HB.out | apply wa | apply wn | apply wd) | exact HB.out))) : w.heap.size ≤ gb162)); have n3_ := asd ((by rw [hg]; exact (below_size (by repeat (first | (with_reducible first | exact HB.out | apply wa | apply wn | apply wd) | exact HB.out))) : w.heap.size ≤ gb162)); clear HB; have HB := n0_; have BK162 := n1_; have GW162 := n2_; have GE162 := n3_; clear n0_ n1_ n2_ n3_; clear hb hbox hg) | ((with_reducible refine gate_dst (N := 3) rfl ?_); (try (refine gate_guard (by rfl) ?_; dsimp only)); refine box_event ?hg (N := 3) ?hd (cs := #[.int .i64 a1_0, .int .i64 a1_1, .int .i64 a1_2, .int .i64 a1_3, .slice A1_4 l1_4.length c1_4]) (t := 63) ?hr ?_; (case hd => rfl); (case hg => rfl); (case hr => first | (go_simp; done) | (go_simp; rfl)); intro gb163 hg w5 hbox hb; have n0_ := asd (blk_below (g := gb162) (o := .cells #[.int .i64 a0_0, .int .i64 a0_1, .int .i64 a0_2, .int .i64 a0_3, .slice A0_4 l0_4.length c0_4] 63 (0, 0)) (by (with_reducible repeat first | apply bn | apply bd | apply ba); exact BK162.out) hb); have n1_ := asd (below_step (by repeat (first | (with_reducible first | exact HB.out | apply wa | apply wn | apply wd | refine ws ?_ GE162.out) | exact HB.out)) hb); have n2_ := asd (hbox); have n3_ := asd ((by rw [hg]; exact (below_size (by repeat (first | (with_reducible first | exact HB.out | apply wa | apply wn | apply wd | refine ws ?_ GE162.out) | exact HB.out))) : w.heap.size ≤ gb163)); have n4_ := asd ((by rw [hg]; exact (below_size (by repeat (first | (with_reducible first | exact HB.out | apply wa | apply wn | apply wd | refine ws ?_ GE162.out) | exact HB.out))) : w.heap.size ≤ gb163)); have n5_ := asd ((by rw [hg]; exact Nat.ne_of_lt (blk_lt (g := gb162) (o := .cells #[.int .i64 a0_0, .int .i64 a0_1, .int .i64 a0_2, .int .i64 a0_3, .slice A0_4 l0_4.length c0_4] 63 (0, 0)) (by (with_reducible repeat first | apply bn | apply bd | apply ba); exact BK162.out)) : gb162 ≠ gb163)); have n6_ := asd ((by rw [hg]; exact Nat.ne_of_gt (blk_lt (g := gb162) (o := .cells #[.int .i64 a0_0, .int .i64 a0_1, .int .i64 a0_2, .int .i64 a0_3, .slice A0_4 l0_4.length c0_4] 63 (0, 0)) (by (with_reducible repeat first | apply bn | apply bd | apply ba); exact BK162.out)) : gb163 ≠ gb162)); clear BK162; clear HB; have BK162 := n0_; have HB := n1_; have BK163 := n2_; have GW163 := n3_; have GE163 := n4_; have NB162_163 := n5_; have NB163_162 := n6_; clear n0_ n1_ n2_ n3_ n4_ n5_ n6_; clear hb hbox hg)))
 (try simp only [Act.put, sB])
 go_cut [40] (fun v40 wc => ∃ (kq : Nat) (x40_2 : Bool), v40 = .bool x40_2 ∧ Aside0 (parcloseref19_Same.j0 kq x40_2 a0_0 a0_1 a0_2 a0_3 l0_4 a1_0 a1_1 a1_2 a1_3 l1_4 = some r) ∧ Aside0 (kq ≤ k) ∧ Aside0 (wc.heap[gb162]? = some (.cells #[.int .i64 a0_0, .int .i64 a0_1, .int .i64 a0_2, .int .i64 a0_3, (.slice A0_4 l0_4.length c0_4)] 63 (0, 0))) ∧ Aside0 (wc.heap[gb163]? = some (.cells #[.int .i64 a1_0, .int .i64 a1_1, .int .i64 a1_2, .int .i64 a1_3, (.slice A1_4 l1_4.length c1_4)] 63 (0, 0))) ∧ Aside0 (Below w.heap.size w wc))
 case first =>
  have H := HC3.out
  clear HC3
  by_cases c6 : a0_0 = a1_0
  ·rw [if_pos c6] at H
   have c6b0 : (a0_0 == a1_0) = true := beq_iff_eq.mpr c6
   have c6b1 : (a0_0 != a1_0) = false := bne_eq_false_iff_eq.mpr c6
   clear c6
   (first | rw [c6b0] | (simp only [i64_w, i32_w]; rw [c6b0]) | skip)
   by_cases c7 : a0_1 = a1_1
   ·rw [if_pos c7] at H
    have c7b0 : (a0_1 == a1_1) = true := beq_iff_eq.mpr c7
    have c7b1 : (a0_1 != a1_1) = false := bne_eq_false_iff_eq.mpr c7
    clear c7
    by_cases c8 : a0_2 = a1_2
    ·rw [if_pos c8] at H
     have c8b0 : (a0_2 == a1_2) = true := beq_iff_eq.mpr c8
     have c8b1 : (a0_2 != a1_2) = false := bne_eq_false_iff_eq.mpr c8
     clear c8
     by_cases c9 : a0_3 = a1_3
     ·rw [if_pos c9] at H
      have c9b0 : (a0_3 == a1_3) = true := beq_iff_eq.mpr c9
      have c9b1 : (a0_3 != a1_3) = false := bne_eq_false_iff_eq.mpr c9
      clear c9
      have H' := asd H
      clear H
      have hnb10 := NB162_163.out
      have hnc10 := NB163_162.out
      have hcz11_0 : w5.cell? ⟨gb162, 0, none⟩ = some (.int .i64 a0_0) := (blk_cell BK162.out 0).trans rfl
      have hcz11_1 : w5.cell? ⟨gb162, 1, none⟩ = some (.int .i64 a0_1) := (blk_cell BK162.out 1).trans rfl
      have hcz11_2 : w5.cell? ⟨gb162, 2, none⟩ = some (.int .i64 a0_2) := (blk_cell BK162.out 2).trans rfl
      have hcz11_3 : w5.cell? ⟨gb162, 3, none⟩ = some (.int .i64 a0_3) := (blk_cell BK162.out 3).trans rfl
      have hcz11_4 : w5.cell? ⟨gb162, 4, none⟩ = some (.slice A0_4 l0_4.length c0_4) := (blk_cell BK162.out 4).trans rfl
      have hfz11_0 := blk_frozen BK162.out 0
      have hfz11_1 := blk_frozen BK162.out 1
      have hfz11_2 := blk_frozen BK162.out 2
      have hfz11_3 := blk_frozen BK162.out 3
      have hfz11_4 := blk_frozen BK162.out 4
      have hcz12_0 : w5.cell? ⟨gb163, 0, none⟩ = some (.int .i64 a1_0) := (blk_cell BK163.out 0).trans rfl
      have hcz12_1 : w5.cell? ⟨gb163, 1, none⟩ = some (.int .i64 a1_1) := (blk_cell BK163.out 1).trans rfl
      have hcz12_2 : w5.cell? ⟨gb163, 2, none⟩ = some (.int .i64 a1_2) := (blk_cell BK163.out 2).trans rfl
      have hcz12_3 : w5.cell? ⟨gb163, 3, none⟩ = some (.int .i64 a1_3) := (blk_cell BK163.out 3).trans rfl
      have hcz12_4 : w5.cell? ⟨gb163, 4, none⟩ = some (.slice A1_4 l1_4.length c1_4) := (blk_cell BK163.out 4).trans rfl
      have hfz12_0 := blk_frozen BK163.out 0
      have hfz12_1 := blk_frozen BK163.out 1
      have hfz12_2 := blk_frozen BK163.out 2
      have hfz12_3 := blk_frozen BK163.out 3
      have hfz12_4 := blk_frozen BK163.out 4
      go_wp2
      repeat (go_quiet (fail); try go_wp2)
      go_meet
      case rel => exact ⟨_, (((l0_4.length : Int) != (l1_4.length : Int))), (by first | rfl | (simp; done) | (simp [*]; done)), H', ⟨by first | omega | exact Nat.le_refl _⟩, ⟨by (with_reducible repeat first | apply bn | apply bd | apply ba); exact BK162.out⟩, ⟨by (with_reducible repeat first | apply bn | apply bd | apply ba); exact BK163.out⟩, ⟨by repeat (first | (with_reducible first | exact HB.out | apply wa | apply wn | apply wd | refine ws ?_ GE162.out | refine ws ?_ GE163.out) | exact HB.out)⟩⟩
     ·rw [if_neg c9] at H
      have c9b0 : (a0_3 == a1_3) = false := beq_eq_false_iff_ne.mpr c9
      have c9b1 : (a0_3 != a1_3) = true := bne_iff_ne.mpr c9
      have H' := asd H
      clear H
      have hnb13 := NB162_163.out
      have hnc13 := NB163_162.out
      have hcz14_0 : w5.cell? ⟨gb162, 0, none⟩ = some (.int .i64 a0_0) := (blk_cell BK162.out 0).trans rfl
      have hcz14_1 : w5.cell? ⟨gb162, 1, none⟩ = some (.int .i64 a0_1) := (blk_cell BK162.out 1).trans rfl
      have hcz14_2 : w5.cell? ⟨gb162, 2, none⟩ = some (.int .i64 a0_2) := (blk_cell BK162.out 2).trans rfl
      have hcz14_3 : w5.cell? ⟨gb162, 3, none⟩ = some (.int .i64 a0_3) := (blk_cell BK162.out 3).trans rfl
      have hcz14_4 : w5.cell? ⟨gb162, 4, none⟩ = some (.slice A0_4 l0_4.length c0_4) := (blk_cell BK162.out 4).trans rfl
      have hfz14_0 := blk_frozen BK162.out 0
      have hfz14_1 := blk_frozen BK162.out 1
      have hfz14_2 := blk_frozen BK162.out 2
      have hfz14_3 := blk_frozen BK162.out 3
      have hfz14_4 := blk_frozen BK162.out 4
      have hcz15_0 : w5.cell? ⟨gb163, 0, none⟩ = some (.int .i64 a1_0) := (blk_cell BK163.out 0).trans rfl
      have hcz15_1 : w5.cell? ⟨gb163, 1, none⟩ = some (.int .i64 a1_1) := (blk_cell BK163.out 1).trans rfl
      have hcz15_2 : w5.cell? ⟨gb163, 2, none⟩ = some (.int .i64 a1_2) := (blk_cell BK163.out 2).trans rfl
      have hcz15_3 : w5.cell? ⟨gb163, 3, none⟩ = some (.int .i64 a1_3) := (blk_cell BK163.out 3).trans rfl
      have hcz15_4 : w5.cell? ⟨gb163, 4, none⟩ = some (.slice A1_4 l1_4.length c1_4) := (blk_cell BK163.out 4).trans rfl
      have hfz15_0 := blk_frozen BK163.out 0
      have hfz15_1 := blk_frozen BK163.out 1
      have hfz15_2 := blk_frozen BK163.out 2
      have hfz15_3 := blk_frozen BK163.out 3
      have hfz15_4 := blk_frozen BK163.out 4
      go_wp2
      repeat (go_quiet (fail); try go_wp2)
      go_meet
      case rel => exact ⟨_, (true), (by first | rfl | (simp; done) | (simp [*]; done)), H', ⟨by first | omega | exact Nat.le_refl _⟩, ⟨by (with_reducible repeat first | apply bn | apply bd | apply ba); exact BK162.out⟩, ⟨by (with_reducible repeat first | apply bn | apply bd | apply ba); exact BK163.out⟩, ⟨by repeat (first | (with_reducible first | exact HB.out | apply wa | apply wn | apply wd | refine ws ?_ GE162.out | refine ws ?_ GE163.out) | exact HB.out)⟩⟩
    ·rw [if_neg c8] at H
     have c8b0 : (a0_2 == a1_2) = false := beq_eq_false_iff_ne.mpr c8
     have c8b1 : (a0_2 != a1_2) = true := bne_iff_ne.mpr c8
     have H' := asd H
     clear H
     have hnb16 := NB162_163.out
     have hnc16 := NB163_162.out
     have hcz17_0 : w5.cell? ⟨gb162, 0, none⟩ = some (.int .i64 a0_0) := (blk_cell BK162.out 0).trans rfl
     have hcz17_1 : w5.cell? ⟨gb162, 1, none⟩ = some (.int .i64 a0_1) := (blk_cell BK162.out 1).trans rfl
     have hcz17_2 : w5.cell? ⟨gb162, 2, none⟩ = some (.int .i64 a0_2) := (blk_cell BK162.out 2).trans rfl
     have hcz17_3 : w5.cell? ⟨gb162, 3, none⟩ = some (.int .i64 a0_3) := (blk_cell BK162.out 3).trans rfl
     have hcz17_4 : w5.cell? ⟨gb162, 4, none⟩ = some (.slice A0_4 l0_4.length c0_4) := (blk_cell BK162.out 4).trans rfl
     have hfz17_0 := blk_frozen BK162.out 0
     have hfz17_1 := blk_frozen BK162.out 1
     have hfz17_2 := blk_frozen BK162.out 2
     have hfz17_3 := blk_frozen BK162.out 3
     have hfz17_4 := blk_frozen BK162.out 4
     have hcz18_0 : w5.cell? ⟨gb163, 0, none⟩ = some (.int .i64 a1_0) := (blk_cell BK163.out 0).trans rfl
     have hcz18_1 : w5.cell? ⟨gb163, 1, none⟩ = some (.int .i64 a1_1) := (blk_cell BK163.out 1).trans rfl
     have hcz18_2 : w5.cell? ⟨gb163, 2, none⟩ = some (.int .i64 a1_2) := (blk_cell BK163.out 2).trans rfl
     have hcz18_3 : w5.cell? ⟨gb163, 3, none⟩ = some (.int .i64 a1_3) := (blk_cell BK163.out 3).trans rfl
     have hcz18_4 : w5.cell? ⟨gb163, 4, none⟩ = some (.slice A1_4 l1_4.length c1_4) := (blk_cell BK163.out 4).trans rfl
     have hfz18_0 := blk_frozen BK163.out 0
     have hfz18_1 := blk_frozen BK163.out 1
     have hfz18_2 := blk_frozen BK163.out 2
     have hfz18_3 := blk_frozen BK163.out 3
     have hfz18_4 := blk_frozen BK163.out 4
     go_wp2
     repeat (go_quiet (fail); try go_wp2)
     go_meet
     case rel => exact ⟨_, (true), (by first | rfl | (simp; done) | (simp [*]; done)), H', ⟨by first | omega | exact Nat.le_refl _⟩, ⟨by (with_reducible repeat first | apply bn | apply bd | apply ba); exact BK162.out⟩, ⟨by (with_reducible repeat first | apply bn | apply bd | apply ba); exact BK163.out⟩, ⟨by repeat (first | (with_reducible first | exact HB.out | apply wa | apply wn | apply wd | refine ws ?_ GE162.out | refine ws ?_ GE163.out) | exact HB.out)⟩⟩
   ·rw [if_neg c7] at H
    have c7b0 : (a0_1 == a1_1) = false := beq_eq_false_iff_ne.mpr c7
    have c7b1 : (a0_1 != a1_1) = true := bne_iff_ne.mpr c7
    have H' := asd H
    clear H
    have hnb19 := NB162_163.out
    have hnc19 := NB163_162.out
    have hcz20_0 : w5.cell? ⟨gb162, 0, none⟩ = some (.int .i64 a0_0) := (blk_cell BK162.out 0).trans rfl
    have hcz20_1 : w5.cell? ⟨gb162, 1, none⟩ = some (.int .i64 a0_1) := (blk_cell BK162.out 1).trans rfl
    have hcz20_2 : w5.cell? ⟨gb162, 2, none⟩ = some (.int .i64 a0_2) := (blk_cell BK162.out 2).trans rfl
    have hcz20_3 : w5.cell? ⟨gb162, 3, none⟩ = some (.int .i64 a0_3) := (blk_cell BK162.out 3).trans rfl
    have hcz20_4 : w5.cell? ⟨gb162, 4, none⟩ = some (.slice A0_4 l0_4.length c0_4) := (blk_cell BK162.out 4).trans rfl
    have hfz20_0 := blk_frozen BK162.out 0
    have hfz20_1 := blk_frozen BK162.out 1
    have hfz20_2 := blk_frozen BK162.out 2
    have hfz20_3 := blk_frozen BK162.out 3
    have hfz20_4 := blk_frozen BK162.out 4
    have hcz21_0 : w5.cell? ⟨gb163, 0, none⟩ = some (.int .i64 a1_0) := (blk_cell BK163.out 0).trans rfl
    have hcz21_1 : w5.cell? ⟨gb163, 1, none⟩ = some (.int .i64 a1_1) := (blk_cell BK163.out 1).trans rfl
    have hcz21_2 : w5.cell? ⟨gb163, 2, none⟩ = some (.int .i64 a1_2) := (blk_cell BK163.out 2).trans rfl
    have hcz21_3 : w5.cell? ⟨gb163, 3, none⟩ = some (.int .i64 a1_3) := (blk_cell BK163.out 3).trans rfl
    have hcz21_4 : w5.cell? ⟨gb163, 4, none⟩ = some (.slice A1_4 l1_4.length c1_4) := (blk_cell BK163.out 4).trans rfl
    have hfz21_0 := blk_frozen BK163.out 0
    have hfz21_1 := blk_frozen BK163.out 1
    have hfz21_2 := blk_frozen BK163.out 2
    have hfz21_3 := blk_frozen BK163.out 3
    have hfz21_4 := blk_frozen BK163.out 4
    go_wp2
    repeat (go_quiet (fail); try go_wp2)
    go_meet
    case rel => exact ⟨_, (true), (by first | rfl | (simp; done) | (simp [*]; done)), H', ⟨by first | omega | exact Nat.le_refl _⟩, ⟨by (with_reducible repeat first | apply bn | apply bd | apply ba); exact BK162.out⟩, ⟨by (with_reducible repeat first | apply bn | apply bd | apply ba); exact BK163.out⟩, ⟨by repeat (first | (with_reducible first | exact HB.out | apply wa | apply wn | apply wd | refine ws ?_ GE162.out | refine ws ?_ GE163.out) | exact HB.out)⟩⟩
  ·rw [if_neg c6] at H
   have c6b0 : (a0_0 == a1_0) = false := beq_eq_false_iff_ne.mpr c6
   have c6b1 : (a0_0 != a1_0) = true := bne_iff_ne.mpr c6
   (first | rw [c6b0] | (simp only [i64_w, i32_w]; rw [c6b0]) | skip)
   have H' := asd H
   clear H
   have hnb22 := NB162_163.out
   have hnc22 := NB163_162.out
   have hcz23_0 : w5.cell? ⟨gb162, 0, none⟩ = some (.int .i64 a0_0) := (blk_cell BK162.out 0).trans rfl
   have hcz23_1 : w5.cell? ⟨gb162, 1, none⟩ = some (.int .i64 a0_1) := (blk_cell BK162.out 1).trans rfl
   have hcz23_2 : w5.cell? ⟨gb162, 2, none⟩ = some (.int .i64 a0_2) := (blk_cell BK162.out 2).trans rfl
   have hcz23_3 : w5.cell? ⟨gb162, 3, none⟩ = some (.int .i64 a0_3) := (blk_cell BK162.out 3).trans rfl
   have hcz23_4 : w5.cell? ⟨gb162, 4, none⟩ = some (.slice A0_4 l0_4.length c0_4) := (blk_cell BK162.out 4).trans rfl
   have hfz23_0 := blk_frozen BK162.out 0
   have hfz23_1 := blk_frozen BK162.out 1
   have hfz23_2 := blk_frozen BK162.out 2
   have hfz23_3 := blk_frozen BK162.out 3
   have hfz23_4 := blk_frozen BK162.out 4
   have hcz24_0 : w5.cell? ⟨gb163, 0, none⟩ = some (.int .i64 a1_0) := (blk_cell BK163.out 0).trans rfl
   have hcz24_1 : w5.cell? ⟨gb163, 1, none⟩ = some (.int .i64 a1_1) := (blk_cell BK163.out 1).trans rfl
   have hcz24_2 : w5.cell? ⟨gb163, 2, none⟩ = some (.int .i64 a1_2) := (blk_cell BK163.out 2).trans rfl
   have hcz24_3 : w5.cell? ⟨gb163, 3, none⟩ = some (.int .i64 a1_3) := (blk_cell BK163.out 3).trans rfl
   have hcz24_4 : w5.cell? ⟨gb163, 4, none⟩ = some (.slice A1_4 l1_4.length c1_4) := (blk_cell BK163.out 4).trans rfl
   have hfz24_0 := blk_frozen BK163.out 0
   have hfz24_1 := blk_frozen BK163.out 1
   have hfz24_2 := blk_frozen BK163.out 2
   have hfz24_3 := blk_frozen BK163.out 3
   have hfz24_4 := blk_frozen BK163.out 4
   go_wp2
   repeat (go_quiet (fail); try go_wp2)
   go_meet
   case rel => exact ⟨_, (true), (by first | rfl | (simp; done) | (simp [*]; done)), H', ⟨by first | omega | exact Nat.le_refl _⟩, ⟨by (with_reducible repeat first | apply bn | apply bd | apply ba); exact BK162.out⟩, ⟨by (with_reducible repeat first | apply bn | apply bd | apply ba); exact BK163.out⟩, ⟨by repeat (first | (with_reducible first | exact HB.out | apply wa | apply wn | apply wd | refine ws ?_ GE162.out | refine ws ?_ GE163.out) | exact HB.out)⟩⟩
 case rest =>
  clear HC3
  try clear c1
  try clear c2
  try clear p2
  try clear c5
  try clear c6
  try clear c6b0
  try clear c6b1
  try clear c7
  try clear c7b0
  try clear c7b1
  try clear c8
  try clear c8b0
  try clear c8b1
  try clear c9
  try clear c9b0
  try clear c9b1
  try clear c10
  try clear c13
  try clear c16
  try clear c19
  try clear c22
  try clear hcz11_0
  try clear hcz11_1
  try clear hcz11_2
  try clear hcz11_3
  try clear hcz11_4
  try clear hcz12_0
  try clear hcz12_1
  try clear hcz12_2
  try clear hcz12_3
  try clear hcz12_4
  try clear hcz14_0
  try clear hcz14_1
  try clear hcz14_2
  try clear hcz14_3
  try clear hcz14_4
  try clear hcz15_0
  try clear hcz15_1
  try clear hcz15_2
  try clear hcz15_3
  try clear hcz15_4
  try clear hcz17_0
  try clear hcz17_1
  try clear hcz17_2
  try clear hcz17_3
  try clear hcz17_4
  try clear hcz18_0
  try clear hcz18_1
  try clear hcz18_2
  try clear hcz18_3
  try clear hcz18_4
  try clear hcz20_0
  try clear hcz20_1
  try clear hcz20_2
  try clear hcz20_3
  try clear hcz20_4
  try clear hcz21_0
  try clear hcz21_1
  try clear hcz21_2
  try clear hcz21_3
  try clear hcz21_4
  try clear hcz23_0
  try clear hcz23_1
  try clear hcz23_2
  try clear hcz23_3
  try clear hcz23_4
  try clear hcz24_0
  try clear hcz24_1
  try clear hcz24_2
  try clear hcz24_3
  try clear hcz24_4
  try clear hfz11_0
  try clear hfz11_1
  try clear hfz11_2
  try clear hfz11_3
  try clear hfz11_4
  try clear hfz12_0
  try clear hfz12_1
  try clear hfz12_2
  try clear hfz12_3
  try clear hfz12_4
  try clear hfz14_0
  try clear hfz14_1
  try clear hfz14_2
  try clear hfz14_3
  try clear hfz14_4
  try clear hfz15_0
  try clear hfz15_1
  try clear hfz15_2
  try clear hfz15_3
  try clear hfz15_4
  try clear hfz17_0
  try clear hfz17_1
  try clear hfz17_2
  try clear hfz17_3
  try clear hfz17_4
  try clear hfz18_0
  try clear hfz18_1
  try clear hfz18_2
  try clear hfz18_3
  try clear hfz18_4
  try clear hfz20_0
  try clear hfz20_1
  try clear hfz20_2
  try clear hfz20_3
  try clear hfz20_4
  try clear hfz21_0
  try clear hfz21_1
  try clear hfz21_2
  try clear hfz21_3
  try clear hfz21_4
  try clear hfz23_0
  try clear hfz23_1
  try clear hfz23_2
  try clear hfz23_3
  try clear hfz23_4
  try clear hfz24_0
  try clear hfz24_1
  try clear hfz24_2
  try clear hfz24_3
  try clear hfz24_4
  obtain ⟨kq, x40_2, rfl, HA, HJ2, BK162, BK163, HB⟩ := hcut
  cases kq with
  | zero => exact absurd HA.out (by simp [parcloseref19_Same.j0])
  | succ kj2 =>
   have H := HA.out
   clear HA
   simp only [parcloseref19_Same.j0] at H
   by_cases c25 : x40_2 = true
   ·subst c25
    have H1 : (some false) = some r := by rw [if_pos rfl] at H; exact H
    clear H
    have H := H1
    clear H1
    obtain rfl := Option.some.inj H
    go_wp2
    repeat (go_quiet (fail); try go_wp2)
    go_ret
    exact ⟨by first | rfl | (simp [*] <;> rfl), by repeat (first | (with_reducible first | exact HB.out | apply wa | apply wn | apply wd | refine ws ?_ GE162.out | refine ws ?_ GE163.out) | exact HB.out)⟩
   ·replace c25 := Bool.eq_false_iff.mpr c25
    subst c25
    have H1 : (parcloseref19_Same.l0 kj2 0 a0_0 a0_1 a0_2 a0_3 l0_4 a1_0 a1_1 a1_2 a1_3 l1_4) = some r := by rw [if_neg (show ¬ (false = true) by decide)] at H; exact H
    clear H
    have H := H1
    clear H1
    have H' := asd H
    clear H
    go_wp2
    repeat (go_quiet (fail); try go_wp2)
    go_loopg [5] kj2 (fun kq v5 w' => ∃ (x5_2 : Int), v5 = .int .i64 x5_2 ∧ Aside0 (parcloseref19_Same.l0 kq x5_2 a0_0 a0_1 a0_2 a0_3 l0_4 a1_0 a1_1 a1_2 a1_3 l1_4 = some r) ∧ Aside0 (kq ≤ kj2) ∧ Aside0 (w'.heap[gb162]? = some (.cells #[.int .i64 a0_0, .int .i64 a0_1, .int .i64 a0_2, .int .i64 a0_3, (.slice A0_4 l0_4.length c0_4)] 63 (0, 0))) ∧ Aside0 (w'.heap[gb163]? = some (.cells #[.int .i64 a1_0, .int .i64 a1_1, .int .i64 a1_2, .int .i64 a1_3, (.slice A1_4 l1_4.length c1_4)] 63 (0, 0))) ∧ Aside0 (Below w.heap.size w w'))
    case atStart => exact ⟨(0), (by first | rfl | (simp; done) | (simp [*]; done)), H', ⟨Nat.le_refl _⟩, ⟨by (with_reducible repeat first | apply bn | apply bd | apply ba); exact BK162.out⟩, ⟨by (with_reducible repeat first | apply bn | apply bd | apply ba); exact BK163.out⟩, ⟨by repeat (first | (with_reducible first | exact HB.out | apply wa | apply wn | apply wd | refine ws ?_ GE162.out | refine ws ?_ GE163.out) | exact HB.out)⟩⟩
    case round =>
     clear H'
     try clear c1
     try clear c2
     try clear p2
     try clear c5
     try clear c6
     try clear c6b0
     try clear c6b1
     try clear c7
     try clear c7b0
     try clear c7b1
     try clear c8
     try clear c8b0
     try clear c8b1
     try clear c9
     try clear c9b0
     try clear c9b1
     try clear c10
     try clear c13
     try clear c16
     try clear c19
     try clear c22
     try clear c25
     try clear hcz11_0
     try clear hcz11_1
     try clear hcz11_2
     try clear hcz11_3
     try clear hcz11_4
     try clear hcz12_0
     try clear hcz12_1
     try clear hcz12_2
     try clear hcz12_3
     try clear hcz12_4
     try clear hcz14_0
     try clear hcz14_1
     try clear hcz14_2
     try clear hcz14_3
     try clear hcz14_4
     try clear hcz15_0
     try clear hcz15_1
     try clear hcz15_2
     try clear hcz15_3
     try clear hcz15_4
     try clear hcz17_0
     try clear hcz17_1
     try clear hcz17_2
     try clear hcz17_3
     try clear hcz17_4
     try clear hcz18_0
     try clear hcz18_1
     try clear hcz18_2
     try clear hcz18_3
     try clear hcz18_4
     try clear hcz20_0
     try clear hcz20_1
     try clear hcz20_2
     try clear hcz20_3
     try clear hcz20_4
     try clear hcz21_0
     try clear hcz21_1
     try clear hcz21_2
     try clear hcz21_3
     try clear hcz21_4
     try clear hcz23_0
     try clear hcz23_1
     try clear hcz23_2
     try clear hcz23_3
     try clear hcz23_4
     try clear hcz24_0
     try clear hcz24_1
     try clear hcz24_2
     try clear hcz24_3
     try clear hcz24_4
     try clear hfz11_0
     try clear hfz11_1
     try clear hfz11_2
     try clear hfz11_3
     try clear hfz11_4
     try clear hfz12_0
     try clear hfz12_1
     try clear hfz12_2
     try clear hfz12_3
     try clear hfz12_4
     try clear hfz14_0
     try clear hfz14_1
     try clear hfz14_2
     try clear hfz14_3
     try clear hfz14_4
     try clear hfz15_0
     try clear hfz15_1
     try clear hfz15_2
     try clear hfz15_3
     try clear hfz15_4
     try clear hfz17_0
     try clear hfz17_1
     try clear hfz17_2
     try clear hfz17_3
     try clear hfz17_4
     try clear hfz18_0
     try clear hfz18_1
     try clear hfz18_2
     try clear hfz18_3
     try clear hfz18_4
     try clear hfz20_0
     try clear hfz20_1
     try clear hfz20_2
     try clear hfz20_3
     try clear hfz20_4
     try clear hfz21_0
     try clear hfz21_1
     try clear hfz21_2
     try clear hfz21_3
     try clear hfz21_4
     try clear hfz23_0
     try clear hfz23_1
     try clear hfz23_2
     try clear hfz23_3
     try clear hfz23_4
     try clear hfz24_0
     try clear hfz24_1
     try clear hfz24_2
     try clear hfz24_3
     try clear hfz24_4
     try clear p2
     obtain ⟨x5_2, rfl, HA, HK2, BK162, BK163, HB⟩ := hrel
     cases gk with
     | zero => exact absurd HA.out (by simp [parcloseref19_Same.l0])
     | succ k2 =>
      have H := HA.out
      clear HA
      simp only [parcloseref19_Same.l0] at H
      by_cases c26 : x5_2 < (l0_4.length : Int)
      ·rw [if_pos c26] at H
       have c26b0 : decide (x5_2 < (l0_4.length : Int)) = true := decide_eq_true c26
       clear c26
       by_cases c27 : 0 ≤ x5_2
       ·rw [if_pos c27] at H
        have c27b0 : decide (0 ≤ x5_2) = true := decide_eq_true c27
        clear c27
        by_cases c28 : x5_2 < (l1_4.length : Int)
        ·rw [if_pos c28] at H
         have c28b0 : decide (x5_2 < (l1_4.length : Int)) = true := decide_eq_true c28
         clear c28
         by_cases c29 : (!(((rd_T134 l0_4 x5_2).f0) == ((rd_T134 l1_4 x5_2).f0)) || (!(((rd_T134 l0_4 x5_2).f1) == ((rd_T134 l1_4 x5_2).f1)) || (!(((rd_T134 l0_4 x5_2).f2) == ((rd_T134 l1_4 x5_2).f2))))) = true
         ·rw [if_pos c29] at H
          have c29b0 : (!(((rd_T134 l0_4 x5_2).f0) == ((rd_T134 l1_4 x5_2).f0)) || (!(((rd_T134 l0_4 x5_2).f1) == ((rd_T134 l1_4 x5_2).f1)) || (!(((rd_T134 l0_4 x5_2).f2) == ((rd_T134 l1_4 x5_2).f2))))) = true := c29
          clear c29
          obtain rfl := Option.some.inj H
          have hnb30 := NB162_163.out
          have hnc30 := NB163_162.out
          have hcz31_0 : wr.cell? ⟨gb162, 0, none⟩ = some (.int .i64 a0_0) := (blk_cell BK162.out 0).trans rfl
          have hcz31_1 : wr.cell? ⟨gb162, 1, none⟩ = some (.int .i64 a0_1) := (blk_cell BK162.out 1).trans rfl
          have hcz31_2 : wr.cell? ⟨gb162, 2, none⟩ = some (.int .i64 a0_2) := (blk_cell BK162.out 2).trans rfl
          have hcz31_3 : wr.cell? ⟨gb162, 3, none⟩ = some (.int .i64 a0_3) := (blk_cell BK162.out 3).trans rfl
          have hcz31_4 : wr.cell? ⟨gb162, 4, none⟩ = some (.slice A0_4 l0_4.length c0_4) := (blk_cell BK162.out 4).trans rfl
          have hfz31_0 := blk_frozen BK162.out 0
          have hfz31_1 := blk_frozen BK162.out 1
          have hfz31_2 := blk_frozen BK162.out 2
          have hfz31_3 := blk_frozen BK162.out 3
          have hfz31_4 := blk_frozen BK162.out 4
          have p164 : 0 ≤ (x5_2 : Int) := of_decide_eq_true (by assumption)
          have q164 : x5_2 < (l0_4.length : Int) := of_decide_eq_true (by assumption)
          obtain ⟨ad164, e164, hx164_0, hx164_1, hx164_2⟩ := at_T134 HR0_4.out x5_2 p164 q164
          cases e164
          replace hx164_0 := (HB.out.cell (World.block_lt_of_cell? w _ hx164_0)).trans hx164_0
          replace hx164_1 := (HB.out.cell (World.block_lt_of_cell? w _ hx164_1)).trans hx164_1
          replace hx164_2 := (HB.out.cell (World.block_lt_of_cell? w _ hx164_2)).trans hx164_2
          replace p164 := eq_true p164
          replace q164 := eq_true q164
          have hcz32_0 : wr.cell? ⟨gb163, 0, none⟩ = some (.int .i64 a1_0) := (blk_cell BK163.out 0).trans rfl
          have hcz32_1 : wr.cell? ⟨gb163, 1, none⟩ = some (.int .i64 a1_1) := (blk_cell BK163.out 1).trans rfl
          have hcz32_2 : wr.cell? ⟨gb163, 2, none⟩ = some (.int .i64 a1_2) := (blk_cell BK163.out 2).trans rfl
          have hcz32_3 : wr.cell? ⟨gb163, 3, none⟩ = some (.int .i64 a1_3) := (blk_cell BK163.out 3).trans rfl
          have hcz32_4 : wr.cell? ⟨gb163, 4, none⟩ = some (.slice A1_4 l1_4.length c1_4) := (blk_cell BK163.out 4).trans rfl
          have hfz32_0 := blk_frozen BK163.out 0
          have hfz32_1 := blk_frozen BK163.out 1
          have hfz32_2 := blk_frozen BK163.out 2
          have hfz32_3 := blk_frozen BK163.out 3
          have hfz32_4 := blk_frozen BK163.out 4
          have p165 : 0 ≤ (x5_2 : Int) := of_decide_eq_true (by assumption)
          have q165 : x5_2 < (l1_4.length : Int) := of_decide_eq_true (by assumption)
          obtain ⟨ad165, e165, hx165_0, hx165_1, hx165_2⟩ := at_T134 HR1_4.out x5_2 p165 q165
          cases e165
          replace hx165_0 := (HB.out.cell (World.block_lt_of_cell? w _ hx165_0)).trans hx165_0
          replace hx165_1 := (HB.out.cell (World.block_lt_of_cell? w _ hx165_1)).trans hx165_1
          replace hx165_2 := (HB.out.cell (World.block_lt_of_cell? w _ hx165_2)).trans hx165_2
          replace p165 := eq_true p165
          replace q165 := eq_true q165
          go_wp2
          repeat (go_quiet (fail); try go_wp2)
          go_ret
          exact ⟨by first | rfl | (simp [*] <;> rfl), by repeat (first | (with_reducible first | exact HB.out | apply wa | apply wn | apply wd | refine ws ?_ GE162.out | refine ws ?_ GE163.out) | exact HB.out)⟩
         ·rw [if_neg c29] at H
          have c29b0 : (!(((rd_T134 l0_4 x5_2).f0) == ((rd_T134 l1_4 x5_2).f0)) || (!(((rd_T134 l0_4 x5_2).f1) == ((rd_T134 l1_4 x5_2).f1)) || (!(((rd_T134 l0_4 x5_2).f2) == ((rd_T134 l1_4 x5_2).f2))))) = false := by simpa using c29
          clear c29
          have H' := asd H
          clear H
          have hnb33 := NB162_163.out
          have hnc33 := NB163_162.out
          have hcz34_0 : wr.cell? ⟨gb162, 0, none⟩ = some (.int .i64 a0_0) := (blk_cell BK162.out 0).trans rfl
          have hcz34_1 : wr.cell? ⟨gb162, 1, none⟩ = some (.int .i64 a0_1) := (blk_cell BK162.out 1).trans rfl
          have hcz34_2 : wr.cell? ⟨gb162, 2, none⟩ = some (.int .i64 a0_2) := (blk_cell BK162.out 2).trans rfl
          have hcz34_3 : wr.cell? ⟨gb162, 3, none⟩ = some (.int .i64 a0_3) := (blk_cell BK162.out 3).trans rfl
          have hcz34_4 : wr.cell? ⟨gb162, 4, none⟩ = some (.slice A0_4 l0_4.length c0_4) := (blk_cell BK162.out 4).trans rfl
          have hfz34_0 := blk_frozen BK162.out 0
          have hfz34_1 := blk_frozen BK162.out 1
          have hfz34_2 := blk_frozen BK162.out 2
          have hfz34_3 := blk_frozen BK162.out 3
          have hfz34_4 := blk_frozen BK162.out 4
          have p164 : 0 ≤ (x5_2 : Int) := of_decide_eq_true (by assumption)
          have q164 : x5_2 < (l0_4.length : Int) := of_decide_eq_true (by assumption)
          obtain ⟨ad164, e164, hx164_0, hx164_1, hx164_2⟩ := at_T134 HR0_4.out x5_2 p164 q164
          cases e164
          replace hx164_0 := (HB.out.cell (World.block_lt_of_cell? w _ hx164_0)).trans hx164_0
          replace hx164_1 := (HB.out.cell (World.block_lt_of_cell? w _ hx164_1)).trans hx164_1
          replace hx164_2 := (HB.out.cell (World.block_lt_of_cell? w _ hx164_2)).trans hx164_2
          replace p164 := eq_true p164
          replace q164 := eq_true q164
          have hcz35_0 : wr.cell? ⟨gb163, 0, none⟩ = some (.int .i64 a1_0) := (blk_cell BK163.out 0).trans rfl
          have hcz35_1 : wr.cell? ⟨gb163, 1, none⟩ = some (.int .i64 a1_1) := (blk_cell BK163.out 1).trans rfl
          have hcz35_2 : wr.cell? ⟨gb163, 2, none⟩ = some (.int .i64 a1_2) := (blk_cell BK163.out 2).trans rfl
          have hcz35_3 : wr.cell? ⟨gb163, 3, none⟩ = some (.int .i64 a1_3) := (blk_cell BK163.out 3).trans rfl
          have hcz35_4 : wr.cell? ⟨gb163, 4, none⟩ = some (.slice A1_4 l1_4.length c1_4) := (blk_cell BK163.out 4).trans rfl
          have hfz35_0 := blk_frozen BK163.out 0
          have hfz35_1 := blk_frozen BK163.out 1
          have hfz35_2 := blk_frozen BK163.out 2
          have hfz35_3 := blk_frozen BK163.out 3
          have hfz35_4 := blk_frozen BK163.out 4
          have p165 : 0 ≤ (x5_2 : Int) := of_decide_eq_true (by assumption)
          have q165 : x5_2 < (l1_4.length : Int) := of_decide_eq_true (by assumption)
          obtain ⟨ad165, e165, hx165_0, hx165_1, hx165_2⟩ := at_T134 HR1_4.out x5_2 p165 q165
          cases e165
          replace hx165_0 := (HB.out.cell (World.block_lt_of_cell? w _ hx165_0)).trans hx165_0
          replace hx165_1 := (HB.out.cell (World.block_lt_of_cell? w _ hx165_1)).trans hx165_1
          replace hx165_2 := (HB.out.cell (World.block_lt_of_cell? w _ hx165_2)).trans hx165_2
          replace p165 := eq_true p165
          replace q165 := eq_true q165
          go_wp2
          repeat (go_quiet (fail); try go_wp2)
          go_roundg k2
          case measure => have := HJ2.out; have := HK2.out; omega
          case rel => exact ⟨(wrap64 (x5_2 + 1)), (by first | rfl | (simp; done) | (simp [*]; done)), H', ⟨by have := HJ2.out; have := HK2.out; omega⟩, ⟨by (with_reducible repeat first | apply bn | apply bd | apply ba); exact BK162.out⟩, ⟨by (with_reducible repeat first | apply bn | apply bd | apply ba); exact BK163.out⟩, ⟨by repeat (first | (with_reducible first | exact HB.out | apply wa | apply wn | apply wd | refine ws ?_ GE162.out | refine ws ?_ GE163.out) | exact HB.out)⟩⟩
        ·rw [if_neg c28] at H
         exact absurd H (by simp)
       ·rw [if_neg c27] at H
        exact absurd H (by simp)
      ·rw [if_neg c26] at H
       have c26b0 : decide (x5_2 < (l0_4.length : Int)) = false := decide_eq_false c26
       clear c26
       obtain rfl := Option.some.inj H
       have hnb36 := NB162_163.out
       have hnc36 := NB163_162.out
       have hcz37_0 : wr.cell? ⟨gb162, 0, none⟩ = some (.int .i64 a0_0) := (blk_cell BK162.out 0).trans rfl
       have hcz37_1 : wr.cell? ⟨gb162, 1, none⟩ = some (.int .i64 a0_1) := (blk_cell BK162.out 1).trans rfl
       have hcz37_2 : wr.cell? ⟨gb162, 2, none⟩ = some (.int .i64 a0_2) := (blk_cell BK162.out 2).trans rfl
       have hcz37_3 : wr.cell? ⟨gb162, 3, none⟩ = some (.int .i64 a0_3) := (blk_cell BK162.out 3).trans rfl
       have hcz37_4 : wr.cell? ⟨gb162, 4, none⟩ = some (.slice A0_4 l0_4.length c0_4) := (blk_cell BK162.out 4).trans rfl
       have hfz37_0 := blk_frozen BK162.out 0
       have hfz37_1 := blk_frozen BK162.out 1
       have hfz37_2 := blk_frozen BK162.out 2
       have hfz37_3 := blk_frozen BK162.out 3
       have hfz37_4 := blk_frozen BK162.out 4
       go_wp2
       repeat (go_quiet (fail); try go_wp2)
       go_ret
       exact ⟨by first | rfl | (simp [*] <;> rfl), by repeat (first | (with_reducible first | exact HB.out | apply wa | apply wn | apply wd | refine ws ?_ GE162.out | refine ws ?_ GE163.out) | exact HB.out)⟩
end Go.Proofs.Ytjekfipaadbbbaa.Fn
namespace Go.Proofs.Ytjekfipaadbbbaa.Fn
open Go.RowKit Go.Proofs.YtjekfipaadbbbaaW.PrintWords Go.Proofs.YtjekfipaadbbbaaW.PrintLast Go.Proofs.YtjekfipaadbbbaaW.PrintMore
attribute [local go_sem] max2_int min2_int max_two min_two max_three min_three max_four min_four
set_option linter.unusedVariables false
set_option linter.unusedSimpArgs false
def parcloselaw19_RefJob.l0 : Nat → Int → Int → Int → Int → Int → List (S76) → Int → Int → Int → Int → List (S134) → Option (Int × Int × Int × Int × (List (S134)))
 | 0, _, _, _, _, _, _, _, _, _, _, _ => none
 | k + 1, x4, x167000, x167001, x167002, x167003, x167004, x169000, x169001, x169002, x169003, x169004 => if x4 < (x167004.length : Int) then (if 0 ≤ x4 then (if x169004.length < 5864062014805 then (parcloselaw19_RefJob.l0 k (wrap64 (x4 + 1)) x167000 x167001 x167002 x167003 x167004 x169000 x169001 x169002 x169003 (x169004 ++ [(⟨(rd_T76 x167004 x4).f0, (rd_T76 x167004 x4).f1, (rd_T76 x167004 x4).f2⟩ : S134)])) else (none)) else (none)) else (some (x169000, x169001, x169002, x169003, x169004))
def parcloselaw19_RefJob.f (k : Nat) (a0_0 : Int) (a0_1 : Int) (a0_2 : Int) (a0_3 : Int) (l0_4 : List (S76)) : Option (Int × Int × Int × Int × (List (S134))) := parcloselaw19_RefJob.l0 k 0 a0_0 a0_1 a0_2 a0_3 l0_4 a0_0 a0_1 a0_2 a0_3 ([] : List (S134))
def parcloselaw19_RefJob.T5 : Bool × List (List Nat × List Nat) := (true, [([], []), ([0], [0]), ([], []), ([2], [2]), ([], []), ([3, 4], [3, 4]), ([5], [5]), ([6], [6]), ([1, 7], [1, 7]), ([0, 1, 2, 3, 4, 5, 6, 7, 8], []), ([9, 8, 8, 0, 1, 2, 3, 4, 5, 6, 7, 8], [8, 9])])
def parcloselaw19_RefJob.B5 : List Nat := [0, 1, 0, 4, 0, 28, 60, 124, 255, 511, 1023]
theorem parcloselaw19_RefJob.tab5 : rtab .any (opsOf Try.f52 5) = parcloselaw19_RefJob.T5 := by kernel_rfl
theorem parcloselaw19_RefJob.bits5 : waitsOk parcloselaw19_RefJob.T5.2 parcloselaw19_RefJob.B5 = true := by kernel_rfl
set_option maxHeartbeats 8000000 in
set_option maxRecDepth 100000 in
theorem parcloselaw19_RefJob.calls (k : Nat) (a0_0 : Int) (a0_1 : Int) (a0_2 : Int) (a0_3 : Int) (A0_4 : Option Addr) (c0_4 : Nat) (l0_4 : List (S76)) (r1 : Int) (r2 : Int) (r3 : Int) (r4 : Int) (r5 : List (S134)) (w : World) (hr0_4 : Kd.C k76 w A0_4 l0_4.length l0_4) (hc0_4 : l0_4.length ≤ c0_4) (h : parcloselaw19_RefJob.f k a0_0 a0_1 a0_2 a0_3 l0_4 = some (r1, r2, r3, r4, r5)) :
  Calls Try.prog 52 #[.agg #[.int .i64 a0_0, .int .i64 a0_1, .int .i64 a0_2, .int .i64 a0_3, .slice A0_4 l0_4.length c0_4]] w fun e w' => ∃ v4_ : Value, e = .returned (.agg #[.int .i64 r1, .int .i64 r2, .int .i64 r3, .int .i64 r4, v4_]) ∧ Kd.R k134 134 w' w.heap.size (fun _ => True) v4_ r5 ∧ Below w.heap.size w w' := by
 have hu69 := Try.underlying69
 have hu63 := Try.underlying63
 have hu76 := Try.underlying76
 have HR0_4 := asd hr0_4
 have HC0_4 := asd hc0_4
 clear hr0_4 hc0_4
 have HB := asd (Below.refl w.heap.size w)
 have H : (parcloselaw19_RefJob.l0 k 0 a0_0 a0_1 a0_2 a0_3 l0_4 a0_0 a0_1 a0_2 a0_3 ([] : List (S134))) = some (r1, r2, r3, r4, r5) := h
 clear h
 have H' := asd H
 clear H
 go_enter Try.func52, Try.ntmps52
 go_wp2_with (first | ((with_reducible refine gate_dst (N := 1) rfl ?_); refine box_event ?hg (N := 1) ?hd (cs := #[.int .i64 a0_0, .int .i64 a0_1, .int .i64 a0_2, .int .i64 a0_3, .slice A0_4 l0_4.length c0_4]) (t := 69) ?hr ?_; (case hd => rfl); (case hg => rfl); (case hr => first | (go_simp; done) | (go_simp; rfl)); intro gb166 hg w2 hbox hb; have n0_ := asd (below_step (by repeat (first | (with_reducible first | exact HB.out | apply wa | apply wn | apply wd) | exact HB.out)) hb); have n1_ := asd (hbox); have n2_ := asd ((by rw [hg]; exact (below_size (by repeat (first | (with_reducible first | exact HB.out | apply wa | apply wn | apply wd) | exact HB.out))) : w.heap.size ≤ gb166)); have n3_ := asd ((by rw [hg]; exact (below_size (by repeat (first | (with_reducible first | exact HB.out | apply wa | apply wn | apply wd) | exact HB.out))) : w.heap.size ≤ gb166)); clear HB; have HB := n0_; have BK166 := n1_; have GW166 := n2_; have GE166 := n3_; clear n0_ n1_ n2_ n3_; clear hb hbox hg) | ((with_reducible refine gate_dst (N := 2) rfl ?_); refine box_event ?hg (N := 2) ?hd (cs := #[.int .i64 0, .int .i64 0, .int .i64 0, .int .i64 0, .slice none 0 0]) (t := 63) ?hr ?_; (case hd => rfl); (case hg => rfl); (case hr => first | (go_simp; done) | (go_simp; rfl)); intro gb167 hg w3 hbox hb; have n0_ := asd (blk_below (g := gb166) (o := .cells #[.int .i64 a0_0, .int .i64 a0_1, .int .i64 a0_2, .int .i64 a0_3, .slice A0_4 l0_4.length c0_4] 69 (0, 0)) (by (with_reducible repeat first | apply bn | apply bd | apply ba); exact BK166.out) hb); have n1_ := asd (below_step (by repeat (first | (with_reducible first | exact HB.out | apply wa | apply wn | apply wd | refine ws ?_ GE166.out) | exact HB.out)) hb); have n2_ := asd (hbox); have n3_ := asd ((by rw [hg]; exact (below_size (by repeat (first | (with_reducible first | exact HB.out | apply wa | apply wn | apply wd | refine ws ?_ GE166.out) | exact HB.out))) : w.heap.size ≤ gb167)); have n4_ := asd ((by rw [hg]; exact (below_size (by repeat (first | (with_reducible first | exact HB.out | apply wa | apply wn | apply wd | refine ws ?_ GE166.out) | exact HB.out))) : w.heap.size ≤ gb167)); have n5_ := asd ((by rw [hg]; exact Nat.ne_of_lt (blk_lt (g := gb166) (o := .cells #[.int .i64 a0_0, .int .i64 a0_1, .int .i64 a0_2, .int .i64 a0_3, .slice A0_4 l0_4.length c0_4] 69 (0, 0)) (by (with_reducible repeat first | apply bn | apply bd | apply ba); exact BK166.out)) : gb166 ≠ gb167)); have n6_ := asd ((by rw [hg]; exact Nat.ne_of_gt (blk_lt (g := gb166) (o := .cells #[.int .i64 a0_0, .int .i64 a0_1, .int .i64 a0_2, .int .i64 a0_3, .slice A0_4 l0_4.length c0_4] 69 (0, 0)) (by (with_reducible repeat first | apply bn | apply bd | apply ba); exact BK166.out)) : gb167 ≠ gb166)); clear BK166; clear HB; have BK166 := n0_; have HB := n1_; have BK167 := n2_; have GW167 := n3_; have GE167 := n4_; have NB166_167 := n5_; have NB167_166 := n6_; clear n0_ n1_ n2_ n3_ n4_ n5_ n6_; clear hb hbox hg; have hnb4 := NB166_167.out; have hnc4 := NB167_166.out; have hcz5_0 : w3.cell? ⟨gb166, 0, none⟩ = some (.int .i64 a0_0) := (blk_cell BK166.out 0).trans rfl; have hcz5_1 : w3.cell? ⟨gb166, 1, none⟩ = some (.int .i64 a0_1) := (blk_cell BK166.out 1).trans rfl; have hcz5_2 : w3.cell? ⟨gb166, 2, none⟩ = some (.int .i64 a0_2) := (blk_cell BK166.out 2).trans rfl; have hcz5_3 : w3.cell? ⟨gb166, 3, none⟩ = some (.int .i64 a0_3) := (blk_cell BK166.out 3).trans rfl; have hcz5_4 : w3.cell? ⟨gb166, 4, none⟩ = some (.slice A0_4 l0_4.length c0_4) := (blk_cell BK166.out 4).trans rfl; have hfz5_0 := blk_frozen BK166.out 0; have hfz5_1 := blk_frozen BK166.out 1; have hfz5_2 := blk_frozen BK166.out 2; have hfz5_3 := blk_frozen BK166.out 3; have hfz5_4 := blk_frozen BK166.out 4) | ((with_reducible refine gate_dst (N := 3) rfl ?_); refine box_event ?hg (N := 3) ?hd (cs := #[.int .i64 0, .int .i64 0, .int .i64 0, .int .i64 0, .slice none 0 0]) (t := 63) ?hr ?_; (case hd => rfl); (case hg => rfl); (case hr => first | (go_simp; done) | (go_simp; rfl)); intro gb168 hg w6 hbox hb; have n0_ := asd (blk_below (g := gb166) (o := .cells #[.int .i64 a0_0, .int .i64 a0_1, .int .i64 a0_2, .int .i64 a0_3, .slice A0_4 l0_4.length c0_4] 69 (0, 0)) (by (with_reducible repeat first | apply bn | apply bd | apply ba); exact BK166.out) hb); have n1_ := asd (blk_below (g := gb167) (o := .cells #[.int .i64 0, .int .i64 0, .int .i64 0, .int .i64 0, .slice none 0 0] 63 (0, 0)) (by (with_reducible repeat first | apply bn | apply bd | apply ba); exact BK167.out) hb); have n2_ := asd (below_step (by repeat (first | (with_reducible first | exact HB.out | apply wa | apply wn | apply wd | refine ws ?_ GE166.out | refine ws ?_ GE167.out) | exact HB.out)) hb); have n3_ := asd (hbox); have n4_ := asd ((by rw [hg]; exact (below_size (by repeat (first | (with_reducible first | exact HB.out | apply wa | apply wn | apply wd | refine ws ?_ GE166.out | refine ws ?_ GE167.out) | exact HB.out))) : w.heap.size ≤ gb168)); have n5_ := asd ((by rw [hg]; exact (below_size (by repeat (first | (with_reducible first | exact HB.out | apply wa | apply wn | apply wd | refine ws ?_ GE166.out | refine ws ?_ GE167.out) | exact HB.out))) : w.heap.size ≤ gb168)); have n6_ := asd ((by rw [hg]; exact Nat.ne_of_lt (blk_lt (g := gb166) (o := .cells #[.int .i64 a0_0, .int .i64 a0_1, .int .i64 a0_2, .int .i64 a0_3, .slice A0_4 l0_4.length c0_4] 69 (0, 0)) (by (with_reducible repeat first | apply bn | apply bd | apply ba); exact BK166.out)) : gb166 ≠ gb168)); have n7_ := asd ((by rw [hg]; exact Nat.ne_of_gt (blk_lt (g := gb166) (o := .cells #[.int .i64 a0_0, .int .i64 a0_1, .int .i64 a0_2, .int .i64 a0_3, .slice A0_4 l0_4.length c0_4] 69 (0, 0)) (by (with_reducible repeat first | apply bn | apply bd | apply ba); exact BK166.out)) : gb168 ≠ gb166)); have n8_ := asd ((by rw [hg]; exact Nat.ne_of_lt (blk_lt (g := gb167) (o := .cells #[.int .i64 0, .int .i64 0, .int .i64 0, .int .i64 0, .slice none 0 0] 63 (0, 0)) (by (with_reducible repeat first | apply bn | apply bd | apply ba); exact BK167.out)) : gb167 ≠ gb168)); have n9_ := asd ((by rw [hg]; exact Nat.ne_of_gt (blk_lt (g := gb167) (o := .cells #[.int .i64 0, .int .i64 0, .int .i64 0, .int .i64 0, .slice none 0 0] 63 (0, 0)) (by (with_reducible repeat first | apply bn | apply bd | apply ba); exact BK167.out)) : gb168 ≠ gb167)); clear BK166; clear BK167; clear HB; have BK166 := n0_; have BK167 := n1_; have HB := n2_; have BK168 := n3_; have GW168 := n4_; have GE168 := n5_; have NB166_168 := n6_; have NB168_166 := n7_; have NB167_168 := n8_; have NB168_167 := n9_; clear n0_ n1_ n2_ n3_ n4_ n5_ n6_ n7_ n8_ n9_; clear hb hbox hg; have hnb7 := NB168_166.out; have hnc7 := NB166_168.out; have hnb8 := NB168_167.out; have hnc8 := NB167_168.out; have hcz9_0 : w6.cell? ⟨gb168, 0, none⟩ = some (.int .i64 0) := (blk_cell BK168.out 0).trans rfl; have hcz9_1 : w6.cell? ⟨gb168, 1, none⟩ = some (.int .i64 0) := (blk_cell BK168.out 1).trans rfl; have hcz9_2 : w6.cell? ⟨gb168, 2, none⟩ = some (.int .i64 0) := (blk_cell BK168.out 2).trans rfl; have hcz9_3 : w6.cell? ⟨gb168, 3, none⟩ = some (.int .i64 0) := (blk_cell BK168.out 3).trans rfl; have hcz9_4 : w6.cell? ⟨gb168, 4, none⟩ = some (.slice none 0 0) := (blk_cell BK168.out 4).trans rfl; have hfz9_0 := blk_frozen BK168.out 0; have hfz9_1 := blk_frozen BK168.out 1; have hfz9_2 := blk_frozen BK168.out 2; have hfz9_3 := blk_frozen BK168.out 3; have hfz9_4 := blk_frozen BK168.out 4))
 go_loopg [4] k (fun kq v4 w' => ∃ (x4_1 : Int) (x169004_1 : List (S134)) (u169004 : Value), v4 = .int .i64 x4_1 ∧ Aside0 (parcloselaw19_RefJob.l0 kq x4_1 a0_0 a0_1 a0_2 a0_3 l0_4 a0_0 a0_1 a0_2 a0_3 x169004_1 = some (r1, r2, r3, r4, r5)) ∧ Aside0 (kq ≤ k) ∧ Aside0 (Kd.R k134 134 w' w.heap.size (fun _ => True) u169004 x169004_1) ∧ Aside0 (w'.heap[gb166]? = some (.cells #[.int .i64 a0_0, .int .i64 a0_1, .int .i64 a0_2, .int .i64 a0_3, (.slice A0_4 l0_4.length c0_4)] 69 (0, 0))) ∧ Aside0 (w'.heap[gb167]? = some (.cells #[.int .i64 0, .int .i64 0, .int .i64 0, .int .i64 0, (.slice none 0 0)] 63 (0, 0))) ∧ Aside0 (w'.heap[gb168]? = some (.cells #[.int .i64 a0_0, .int .i64 a0_1, .int .i64 a0_2, .int .i64 a0_3, u169004] 63 (0, 0))) ∧ Aside0 (Below w.heap.size w w'))
 case atStart => exact ⟨(0), (([] : List (S134))), (.slice none 0 0), (by first | rfl | (simp; done) | (simp [*]; done)), H', ⟨Nat.le_refl _⟩, ⟨by first | exact Kd.R_nil _ _ _ _ _ | exact Kd.N_nil _ _ _ _ _ | exact Kd.V_nil _ _ _ _ _ | exact Kd.Q_nil _ _ _ _ _ | exact Kd.S_nil _ _ _ _ _⟩, ⟨by (with_reducible repeat first | apply bn | apply bd | apply ba); refine blk_far ?_ NB166_168.out _; (with_reducible repeat first | apply bn | apply bd | apply ba); refine blk_far ?_ NB166_168.out _; (with_reducible repeat first | apply bn | apply bd | apply ba); refine blk_far ?_ NB166_168.out _; (with_reducible repeat first | apply bn | apply bd | apply ba); refine blk_far ?_ NB166_168.out _; (with_reducible repeat first | apply bn | apply bd | apply ba); refine blk_far ?_ NB166_168.out _; (with_reducible repeat first | apply bn | apply bd | apply ba); exact BK166.out⟩, ⟨by (with_reducible repeat first | apply bn | apply bd | apply ba); refine blk_far ?_ NB167_168.out _; (with_reducible repeat first | apply bn | apply bd | apply ba); refine blk_far ?_ NB167_168.out _; (with_reducible repeat first | apply bn | apply bd | apply ba); refine blk_far ?_ NB167_168.out _; (with_reducible repeat first | apply bn | apply bd | apply ba); refine blk_far ?_ NB167_168.out _; (with_reducible repeat first | apply bn | apply bd | apply ba); refine blk_far ?_ NB167_168.out _; (with_reducible repeat first | apply bn | apply bd | apply ba); exact BK167.out⟩, ⟨by (with_reducible repeat first | apply bn | apply bd | apply ba); refine blk_put (cs := #[.int .i64 a0_0, .int .i64 a0_1, .int .i64 a0_2, .int .i64 a0_3, .slice none 0 0]) ?_ 4 _ rfl; (with_reducible repeat first | apply bn | apply bd | apply ba); refine blk_put (cs := #[.int .i64 a0_0, .int .i64 a0_1, .int .i64 a0_2, .int .i64 0, .slice none 0 0]) ?_ 3 _ rfl; (with_reducible repeat first | apply bn | apply bd | apply ba); refine blk_put (cs := #[.int .i64 a0_0, .int .i64 a0_1, .int .i64 0, .int .i64 0, .slice none 0 0]) ?_ 2 _ rfl; (with_reducible repeat first | apply bn | apply bd | apply ba); refine blk_put (cs := #[.int .i64 a0_0, .int .i64 0, .int .i64 0, .int .i64 0, .slice none 0 0]) ?_ 1 _ rfl; (with_reducible repeat first | apply bn | apply bd | apply ba); refine blk_put (cs := #[.int .i64 0, .int .i64 0, .int .i64 0, .int .i64 0, .slice none 0 0]) ?_ 0 _ rfl; (with_reducible repeat first | apply bn | apply bd | apply ba); exact BK168.out⟩, ⟨by repeat (first | (with_reducible first | exact HB.out | apply wa | apply wn | apply wd | refine ws ?_ GE166.out | refine ws ?_ GE167.out | refine ws ?_ GE168.out) | exact HB.out)⟩⟩
 case round =>
  clear H'
  try clear p2
  try clear c4
  try clear c5
  try clear c7
  try clear c8
  try clear hcz5_0
  try clear hcz5_1
  try clear hcz5_2
  try clear hcz5_3
  try clear hcz5_4
  try clear hcz9_0
  try clear hcz9_1
  try clear hcz9_2
  try clear hcz9_3
  try clear hcz9_4
  try clear hfz5_0
  try clear hfz5_1
  try clear hfz5_2
  try clear hfz5_3
  try clear hfz5_4
  try clear hfz9_0
  try clear hfz9_1
  try clear hfz9_2
  try clear hfz9_3
  try clear hfz9_4
  obtain ⟨x4_1, x169004_1, u169004, rfl, HA, HK1, HO_169004, BK166, BK167, BK168, HB⟩ := hrel
  cases gk with
  | zero => exact absurd HA.out (by simp [parcloselaw19_RefJob.l0])
  | succ k1 =>
   have H := HA.out
   clear HA
   simp only [parcloselaw19_RefJob.l0] at H
   by_cases c10 : x4_1 < (l0_4.length : Int)
   ·rw [if_pos c10] at H
    have c10b0 : decide (x4_1 < (l0_4.length : Int)) = true := decide_eq_true c10
    clear c10
    by_cases c11 : 0 ≤ x4_1
    ·rw [if_pos c11] at H
     have c11b0 : decide (0 ≤ x4_1) = true := decide_eq_true c11
     clear c11
     by_cases c12 : x169004_1.length < 5864062014805
     ·rw [if_pos c12] at H
      have LMc12 := asd c12
      clear c12
      obtain ⟨y170, hy170⟩ : ∃ y_ : List (S134), y_ = (x169004_1 ++ [(⟨(rd_T76 l0_4 x4_1).f0, (rd_T76 l0_4 x4_1).f1, (rd_T76 l0_4 x4_1).f2⟩ : S134)]) := ⟨_, rfl⟩
      replace H : (parcloselaw19_RefJob.l0 k1 (wrap64 (x4_1 + 1)) a0_0 a0_1 a0_2 a0_3 l0_4 a0_0 a0_1 a0_2 a0_3 y170) = some (r1, r2, r3, r4, r5) := by first | (rw [hy170]; with_reducible exact H) | (have H2_ := (Option.bind_some _ _).symm.trans H; rw [hy170]; with_reducible exact H2_) | (have H2_ := (Option.bind_some _ _).symm.trans H; with_reducible exact H2_) | with_reducible exact H | (rw [hy170]; exact H) | exact H
      have Ny170 := asd hy170
      clear hy170
      have H' := asd H
      clear H
      have hnb13 := NB166_167.out
      have hnc13 := NB167_166.out
      have hnb14 := NB166_168.out
      have hnc14 := NB168_166.out
      have hcz15_0 : wr.cell? ⟨gb166, 0, none⟩ = some (.int .i64 a0_0) := (blk_cell BK166.out 0).trans rfl
      have hcz15_1 : wr.cell? ⟨gb166, 1, none⟩ = some (.int .i64 a0_1) := (blk_cell BK166.out 1).trans rfl
      have hcz15_2 : wr.cell? ⟨gb166, 2, none⟩ = some (.int .i64 a0_2) := (blk_cell BK166.out 2).trans rfl
      have hcz15_3 : wr.cell? ⟨gb166, 3, none⟩ = some (.int .i64 a0_3) := (blk_cell BK166.out 3).trans rfl
      have hcz15_4 : wr.cell? ⟨gb166, 4, none⟩ = some (.slice A0_4 l0_4.length c0_4) := (blk_cell BK166.out 4).trans rfl
      have hfz15_0 := blk_frozen BK166.out 0
      have hfz15_1 := blk_frozen BK166.out 1
      have hfz15_2 := blk_frozen BK166.out 2
      have hfz15_3 := blk_frozen BK166.out 3
      have hfz15_4 := blk_frozen BK166.out 4
      try go_wp2
      have n0_ := asd (Kd.R_drew HO_169004.out)
      have n1_ := asd (blk_drew BK166.out)
      have n2_ := asd (blk_drew BK167.out)
      have n3_ := asd (blk_drew BK168.out)
      have n4_ := asd (below_drew1 HB.out)
      clear HO_169004
      clear BK166
      clear BK167
      clear BK168
      clear HB
      have HO_169004 := n0_
      have BK166 := n1_
      have BK167 := n2_
      have BK168 := n3_
      have HB := n4_
      clear n0_ n1_ n2_ n3_ n4_
      have p169 : 0 ≤ (x4_1 : Int) := of_decide_eq_true (by assumption)
      have q169 : x4_1 < (l0_4.length : Int) := of_decide_eq_true (by assumption)
      obtain ⟨ad169, e169, hx169_0, hx169_1, hx169_2⟩ := at_T76 HR0_4.out x4_1 p169 q169
      have hw169_2 := hx169_2
      have hw169_1 := hx169_1
      have hw169_0 := hx169_0
      cases e169
      replace hx169_0 := (HB.out.cell (World.block_lt_of_cell? w _ hx169_0)).trans hx169_0
      replace hx169_1 := (HB.out.cell (World.block_lt_of_cell? w _ hx169_1)).trans hx169_1
      replace hx169_2 := (HB.out.cell (World.block_lt_of_cell? w _ hx169_2)).trans hx169_2
      replace p169 := eq_true p169
      replace q169 := eq_true q169
      refine start_ (n := 11) (S := fun w' => w'.cell? ⟨gb168, 0, none⟩ = some (.int .i64 a0_0) ∧ w'.cell? ⟨gb168, 1, none⟩ = some (.int .i64 a0_1) ∧ w'.cell? ⟨gb168, 2, none⟩ = some (.int .i64 a0_2) ∧ w'.cell? ⟨gb168, 3, none⟩ = some (.int .i64 a0_3) ∧ w'.cell? ⟨gb168, 4, none⟩ = some (u169004) ∧ w'.cell? ⟨gb166, 0, none⟩ = some (.int .i64 a0_0) ∧ w'.cell? ⟨gb166, 1, none⟩ = some (.int .i64 a0_1) ∧ w'.cell? ⟨gb166, 2, none⟩ = some (.int .i64 a0_2) ∧ w'.cell? ⟨gb166, 3, none⟩ = some (.int .i64 a0_3) ∧ w'.cell? ⟨gb166, 4, none⟩ = some (.slice (some ad169) l0_4.length c0_4) ∧ w'.cell? (ad169.add ((x4_1).toNat * 3)) = some (.int .i64 ((rd_T76 l0_4 x4_1).f0)) ∧ w'.cell? ⟨(ad169.add ((x4_1).toNat * 3)).block, (ad169.add ((x4_1).toNat * 3)).off + 1, none⟩ = some (.int .i64 ((rd_T76 l0_4 x4_1).f1)) ∧ w'.cell? ⟨(ad169.add ((x4_1).toNat * 3)).block, (ad169.add ((x4_1).toNat * 3)).off + 2, none⟩ = some (.int .i64 ((rd_T76 l0_4 x4_1).f2))) (ds := [10]) #[false, false, false, false, false, false, false, false, false, false, false] (by kernel_rfl) rfl rfl ⟨(blk_cell BK168.out 0).trans rfl, (blk_cell BK168.out 1).trans rfl, (blk_cell BK168.out 2).trans rfl, (blk_cell BK168.out 3).trans rfl, (blk_cell BK168.out 4).trans rfl, (blk_cell BK166.out 0).trans rfl, (blk_cell BK166.out 1).trans rfl, (blk_cell BK166.out 2).trans rfl, (blk_cell BK166.out 3).trans rfl, (blk_cell BK166.out 4).trans rfl, ((HB.out.cell (World.block_lt_of_cell? w _ hw169_0)).trans hw169_0), ((HB.out.cell (World.block_lt_of_cell? w _ hw169_1)).trans hw169_1), ((HB.out.cell (World.block_lt_of_cell? w _ hw169_2)).trans hw169_2)⟩ (fun hHeld => ?_); refine with_tabW parcloselaw19_RefJob.tab5 parcloselaw19_RefJob.bits5 (fun HT_ HW_ => ?_)
      generalize wr.drew = w16 at HO_169004 BK166 BK167 BK168 HB hx169_0 hx169_1 hx169_2 hHeld ⊢
      refine pure_ (i := 0) (N := some 21) (v := ?_) (a' := ?_) #[true, false, false, false, false, false, false, false, false, false, false] rfl rfl (any_of HT_.out (by kernel_rfl)) (fun _ _ _ h => h) (Or.inl ⟨by rfl, ?_⟩) ?_ ?_
      rotate_left
      ·intro w'
       go_simp
       with_reducible rfl
      rotate_left
      ·simp only [Act.put, sB, i64_w, i32_w]
       rfl
      refine pure_ (i := 2) (N := some 23) (v := ?_) (a' := ?_) #[true, false, true, false, false, false, false, false, false, false, false] rfl rfl (any_of HT_.out (by kernel_rfl)) (fun _ _ _ h => h) (Or.inl ⟨by rfl, ?_⟩) ?_ ?_
      rotate_left
      ·intro w'
       go_simp
       with_reducible rfl
      rotate_left
      ·simp only [Act.put, sB, i64_w, i32_w]
       rfl
      refine pure_ (i := 4) (N := some 25) (v := ?_) (a' := ?_) #[true, false, true, false, true, false, false, false, false, false, false] rfl rfl (any_of HT_.out (by kernel_rfl)) (fun _ _ _ h => h) (Or.inl ⟨by rfl, ?_⟩) ?_ ?_
      rotate_left
      ·intro w'
       go_simp
       with_reducible rfl
      rotate_left
      ·simp only [Act.put, sB, i64_w, i32_w]
       rfl
      refine take_ (i := 1) (N := some 22) (v := ?_) (a' := ?_) #[true, true, true, false, true, false, false, false, false, false, false] rfl rfl (take_ofW HT_.out HW_.out (by kernel_rfl)) (fun _ _ _ h => h) (Or.inl ⟨by rfl, ?_⟩) hHeld ?_ ?_
      rotate_left
      ·rintro w' ⟨s0, s1, s2, s3, s4, s5, s6, s7, s8, s9, s10, s11, s12⟩
       go_simp
       with_reducible rfl
      rotate_left
      ·simp only [Act.put, sB, i64_w, i32_w]
       rfl
      refine take_ (i := 3) (N := some 24) (v := ?_) (a' := ?_) #[true, true, true, true, true, false, false, false, false, false, false] rfl rfl (take_ofW HT_.out HW_.out (by kernel_rfl)) (fun _ _ _ h => h) (Or.inl ⟨by rfl, ?_⟩) hHeld ?_ ?_
      rotate_left
      ·rintro w' ⟨s0, s1, s2, s3, s4, s5, s6, s7, s8, s9, s10, s11, s12⟩
       go_simp
       with_reducible rfl
      rotate_left
      ·simp only [Act.put, sB, i64_w, i32_w]
       rfl
      refine pure_ (i := 5) (N := some 26) (v := ?_) (a' := ?_) #[true, true, true, true, true, true, false, false, false, false, false] rfl rfl (any_of HT_.out (by kernel_rfl)) (fun _ _ _ h => h) (Or.inl ⟨by rfl, ?_⟩) ?_ ?_
      rotate_left
      ·intro w'
       go_simp
       with_reducible rfl
      rotate_left
      ·simp only [Act.put, sB, i64_w, i32_w]
       rfl
      refine take_ (i := 6) (N := some 27) (v := ?_) (a' := ?_) #[true, true, true, true, true, true, true, false, false, false, false] rfl rfl (take_ofW HT_.out HW_.out (by kernel_rfl)) (fun _ _ _ h => h) (Or.inl ⟨by rfl, ?_⟩) hHeld ?_ ?_
      rotate_left
      ·rintro w' ⟨s0, s1, s2, s3, s4, s5, s6, s7, s8, s9, s10, s11, s12⟩
       go_simp
       with_reducible rfl
      rotate_left
      ·simp only [Act.put, sB, i64_w, i32_w]
       rfl
      refine one_ (i := 7) (N := some 28) #[true, true, true, true, true, true, true, true, false, false, false] rfl rfl (one_of HT_.out (by kernel_rfl)) (by decide) (fun K hK => ?_)
      refine value_ (w1 := ?_) (v := ?_) (by rfl) rfl ?_ ?_
      rotate_left 2
      ·go_simp
       constructor
       ·rfl
       ·rfl
      refine hK.out _ _ ⟨(blk_cell (blk_alloc BK168.out _) 0).trans rfl, (blk_cell (blk_alloc BK168.out _) 1).trans rfl, (blk_cell (blk_alloc BK168.out _) 2).trans rfl, (blk_cell (blk_alloc BK168.out _) 3).trans rfl, (blk_cell (blk_alloc BK168.out _) 4).trans rfl, (blk_cell (blk_alloc BK166.out _) 0).trans rfl, (blk_cell (blk_alloc BK166.out _) 1).trans rfl, (blk_cell (blk_alloc BK166.out _) 2).trans rfl, (blk_cell (blk_alloc BK166.out _) 3).trans rfl, (blk_cell (blk_alloc BK166.out _) 4).trans rfl, (World.cell?_alloc_lt _ _ _ (World.block_lt_of_cell? _ _ (((HB.out.cell (World.block_lt_of_cell? w _ hw169_0)).trans hw169_0)))).trans (((HB.out.cell (World.block_lt_of_cell? w _ hw169_0)).trans hw169_0)), (World.cell?_alloc_lt _ _ _ (World.block_lt_of_cell? _ _ (((HB.out.cell (World.block_lt_of_cell? w _ hw169_1)).trans hw169_1)))).trans (((HB.out.cell (World.block_lt_of_cell? w _ hw169_1)).trans hw169_1)), (World.cell?_alloc_lt _ _ _ (World.block_lt_of_cell? _ _ (((HB.out.cell (World.block_lt_of_cell? w _ hw169_2)).trans hw169_2)))).trans (((HB.out.cell (World.block_lt_of_cell? w _ hw169_2)).trans hw169_2))⟩ (fun hHeld => ?_)
      clear hK K
      refine norm_ (a' := ?_) ?_ ?_
      rotate_left
      ·show Act.put _ (some 28) _ = _
       simp only [Act.put, sB, i64_w, i32_w]
       rfl
      refine one_ (i := 8) (N := some 29) #[true, true, true, true, true, true, true, true, true, false, false] rfl rfl (one_of HT_.out (by kernel_rfl)) (by decide) (fun K hK => ?_)
      refine Kd.R_append_step k134 (w0 := w) w.heap.size (by rfl) (.tmp 22) (.tmp 28) 61 134 (.agg #[(.int .i64 0), (.int .i64 0), (.int .i64 0)]) 24 rfl Try.underlying61 info134 rfl (by decide) (by omega) u169004 x169004_1 (⟨(rd_T76 l0_4 x4_1).f0, (rd_T76 l0_4 x4_1).f1, (rd_T76 l0_4 x4_1).f2⟩ : S134) [.int .i64 ((rd_T76 l0_4 x4_1).f0), .int .i64 ((rd_T76 l0_4 x4_1).f1), .int .i64 ((rd_T76 l0_4 x4_1).f2)] (fun _ => True) (fun _ => False) rfl rfl ?aP (fun _ hk => hk.elim) ?aF ?aO ?aB ?aS ?aL ?_
      (case aP => exact k134_mkM _ _ _ (⟨(rd_T76 l0_4 x4_1).f0, (rd_T76 l0_4 x4_1).f1, (rd_T76 l0_4 x4_1).f2⟩ : S134))
      (case aB => exact (by repeat (first | (with_reducible first | exact HB.out | apply wa | apply wn | apply wd | refine ws ?_ GE166.out | refine ws ?_ GE167.out | refine ws ?_ GE168.out) | exact HB.out)))
      (case aF => exact (fun _ _ => trivial))
      (case aO => exact (by (with_reducible repeat (first | apply Kd.R_alloc | apply Kd.R_drewN | apply Kd.R_drew)); exact HO_169004.out))
      (case aS => exact (below_size (by repeat (first | (with_reducible first | exact HB.out | apply wa | apply wn | apply wd | refine ws ?_ GE166.out | refine ws ?_ GE167.out | refine ws ?_ GE168.out) | exact HB.out))))
      (case aL => have := LMc12.out; omega)
      intro v171 w17 ho hb hg hat
      rw [← Ny170.out] at ho
      have n0_ := asd (blk_grown (g := gb166) (o := .cells #[.int .i64 a0_0, .int .i64 a0_1, .int .i64 a0_2, .int .i64 a0_3, .slice (some ad169) l0_4.length c0_4] 69 (0, 0)) (by (with_reducible repeat first | apply bn | apply bd | apply ba); exact BK166.out) hg (Kd.R_ne HO_169004.out BK166.out (by decide)))
      have n1_ := asd (blk_grown (g := gb167) (o := .cells #[.int .i64 0, .int .i64 0, .int .i64 0, .int .i64 0, .slice none 0 0] 63 (0, 0)) (by (with_reducible repeat first | apply bn | apply bd | apply ba); exact BK167.out) hg (Kd.R_ne HO_169004.out BK167.out (by decide)))
      have n2_ := asd (blk_grown (g := gb168) (o := .cells #[.int .i64 a0_0, .int .i64 a0_1, .int .i64 a0_2, .int .i64 a0_3, u169004] 63 (0, 0)) (by (with_reducible repeat first | apply bn | apply bd | apply ba); exact BK168.out) hg (Kd.R_ne HO_169004.out BK168.out (by decide)))
      have n3_ := asd (hb)
      have n4_ := asd (ho)
      clear BK166
      clear BK167
      clear BK168
      clear HB
      clear HO_169004
      have BK166 := n0_
      have BK167 := n1_
      have BK168 := n2_
      have HB := n3_
      have HO172 := n4_
      clear n0_ n1_ n2_ n3_ n4_
      clear ho hb hg hat
      obtain ⟨Ao18, co18, eo18⟩ := Kd.R_slice HO172.out
      (first | subst eo18 | (injection eo18 with f1_ f2_ f3_; have f4_ := f1_.symm; have f5_ := f3_.symm; clear f1_ f2_ f3_; subst f4_; subst f5_))
      refine hK.out _ _ ⟨(blk_cell BK168.out 0).trans rfl, (blk_cell BK168.out 1).trans rfl, (blk_cell BK168.out 2).trans rfl, (blk_cell BK168.out 3).trans rfl, (blk_cell BK168.out 4).trans rfl, (blk_cell BK166.out 0).trans rfl, (blk_cell BK166.out 1).trans rfl, (blk_cell BK166.out 2).trans rfl, (blk_cell BK166.out 3).trans rfl, (blk_cell BK166.out 4).trans rfl, ((HB.out.cell (World.block_lt_of_cell? w _ hw169_0)).trans hw169_0), ((HB.out.cell (World.block_lt_of_cell? w _ hw169_1)).trans hw169_1), ((HB.out.cell (World.block_lt_of_cell? w _ hw169_2)).trans hw169_2)⟩ (fun hHeld => ?_)
      clear hK K
      refine norm_ (a' := ?_) ?_ ?_
      rotate_left
      ·show Act.put _ (some 29) _ = _
       simp only [Act.put, sB, i64_w, i32_w]
       rfl
      refine pure_ (i := 9) (N := some 30) (v := ?_) (a' := ?_) #[true, true, true, true, true, true, true, true, true, true, false] rfl rfl (any_of HT_.out (by kernel_rfl)) (fun _ _ _ h => h) (Or.inl ⟨by rfl, ?_⟩) ?_ ?_
      rotate_left
      ·intro w'
       go_simp
       with_reducible rfl
      rotate_left
      ·simp only [Act.put, sB, i64_w, i32_w]
       rfl
      refine last_ (i := 10) (N := none) #[true, true, true, true, true, true, true, true, true, true, true] rfl rfl (one_of HT_.out (by kernel_rfl)) (by decide) (fun K hK => ?_)
      have hs19 : w17.cell? ⟨gb168, 4, none⟩ = some (u169004) := (blk_cell BK168.out 4).trans rfl
      have hfs19 := blk_frozen BK168.out 4
      have hns19_0 := NB166_168.out
      have hns19_1 := NB167_168.out
      have hms19_0 := NB168_166.out
      have hms19_1 := NB168_167.out
      refine skip_ (w1 := ?_) (by rfl) rfl ?_ ?_
      rotate_left
      ·go_simp
       rfl
      refine hK.out _ _ ?_
      clear hK K
      refine done_ (done_of HT_.out (by kernel_rfl)) ?_
      try go_wp2
      go_roundg k1
      case measure => have := HK1.out; omega
      case rel => exact ⟨(wrap64 (x4_1 + 1)), (y170), (.slice Ao18 y170.length co18), (by first | rfl | (simp; done) | (simp [*]; done)), H', ⟨by have := HK1.out; omega⟩, ⟨by (with_reducible repeat (first | apply Kd.R_alloc | apply Kd.R_drewN | apply Kd.R_drew)); exact Kd.R_mono (Kd.R_far (p := ⟨gb168, 4, none⟩) (Kd.R_types HO172.out BK168.out (by decide)) (fun _ hk => hk.2) (.slice Ao18 y170.length co18)) (fun _ hk => trivial)⟩, ⟨by (with_reducible repeat first | apply bn | apply bd | apply ba); refine blk_far ?_ NB166_168.out _; (with_reducible repeat first | apply bn | apply bd | apply ba); exact BK166.out⟩, ⟨by (with_reducible repeat first | apply bn | apply bd | apply ba); refine blk_far ?_ NB167_168.out _; (with_reducible repeat first | apply bn | apply bd | apply ba); exact BK167.out⟩, ⟨by (with_reducible repeat first | apply bn | apply bd | apply ba); refine blk_put (cs := #[.int .i64 a0_0, .int .i64 a0_1, .int .i64 a0_2, .int .i64 a0_3, u169004]) ?_ 4 _ rfl; (with_reducible repeat first | apply bn | apply bd | apply ba); exact BK168.out⟩, ⟨by repeat (first | (with_reducible first | exact HB.out | apply wa | apply wn | apply wd | refine ws ?_ GE166.out | refine ws ?_ GE167.out | refine ws ?_ GE168.out) | exact HB.out)⟩⟩
     ·rw [if_neg c12] at H
      exact absurd H (by simp)
    ·rw [if_neg c11] at H
     exact absurd H (by simp)
   ·rw [if_neg c10] at H
    have c10b0 : decide (x4_1 < (l0_4.length : Int)) = false := decide_eq_false c10
    clear c10
    simp only [Option.some.injEq, Prod.mk.injEq] at H
    obtain ⟨rfl, rfl, rfl, rfl, rfl⟩ := H
    have hnb20 := NB166_167.out
    have hnc20 := NB167_166.out
    have hnb21 := NB166_168.out
    have hnc21 := NB168_166.out
    have hcz22_0 : wr.cell? ⟨gb166, 0, none⟩ = some (.int .i64 a0_0) := (blk_cell BK166.out 0).trans rfl
    have hcz22_1 : wr.cell? ⟨gb166, 1, none⟩ = some (.int .i64 a0_1) := (blk_cell BK166.out 1).trans rfl
    have hcz22_2 : wr.cell? ⟨gb166, 2, none⟩ = some (.int .i64 a0_2) := (blk_cell BK166.out 2).trans rfl
    have hcz22_3 : wr.cell? ⟨gb166, 3, none⟩ = some (.int .i64 a0_3) := (blk_cell BK166.out 3).trans rfl
    have hcz22_4 : wr.cell? ⟨gb166, 4, none⟩ = some (.slice A0_4 l0_4.length c0_4) := (blk_cell BK166.out 4).trans rfl
    have hfz22_0 := blk_frozen BK166.out 0
    have hfz22_1 := blk_frozen BK166.out 1
    have hfz22_2 := blk_frozen BK166.out 2
    have hfz22_3 := blk_frozen BK166.out 3
    have hfz22_4 := blk_frozen BK166.out 4
    have hnb23 := NB168_167.out
    have hnc23 := NB167_168.out
    have hcz24_0 : wr.cell? ⟨gb168, 0, none⟩ = some (.int .i64 a0_0) := (blk_cell BK168.out 0).trans rfl
    have hcz24_1 : wr.cell? ⟨gb168, 1, none⟩ = some (.int .i64 a0_1) := (blk_cell BK168.out 1).trans rfl
    have hcz24_2 : wr.cell? ⟨gb168, 2, none⟩ = some (.int .i64 a0_2) := (blk_cell BK168.out 2).trans rfl
    have hcz24_3 : wr.cell? ⟨gb168, 3, none⟩ = some (.int .i64 a0_3) := (blk_cell BK168.out 3).trans rfl
    have hcz24_4 : wr.cell? ⟨gb168, 4, none⟩ = some (u169004) := (blk_cell BK168.out 4).trans rfl
    have hfz24_0 := blk_frozen BK168.out 0
    have hfz24_1 := blk_frozen BK168.out 1
    have hfz24_2 := blk_frozen BK168.out 2
    have hfz24_3 := blk_frozen BK168.out 3
    have hfz24_4 := blk_frozen BK168.out 4
    have hcz25_0 : wr.cell? ⟨gb167, 0, none⟩ = some (.int .i64 0) := (blk_cell BK167.out 0).trans rfl
    have hcz25_1 : wr.cell? ⟨gb167, 1, none⟩ = some (.int .i64 0) := (blk_cell BK167.out 1).trans rfl
    have hcz25_2 : wr.cell? ⟨gb167, 2, none⟩ = some (.int .i64 0) := (blk_cell BK167.out 2).trans rfl
    have hcz25_3 : wr.cell? ⟨gb167, 3, none⟩ = some (.int .i64 0) := (blk_cell BK167.out 3).trans rfl
    have hcz25_4 : wr.cell? ⟨gb167, 4, none⟩ = some (.slice none 0 0) := (blk_cell BK167.out 4).trans rfl
    have hfz25_0 := blk_frozen BK167.out 0
    have hfz25_1 := blk_frozen BK167.out 1
    have hfz25_2 := blk_frozen BK167.out 2
    have hfz25_3 := blk_frozen BK167.out 3
    have hfz25_4 := blk_frozen BK167.out 4
    obtain ⟨Ao26, co26, eo26⟩ := Kd.R_slice HO_169004.out
    subst eo26
    go_wp2
    refine bodyPost_ret (results_cell_row rfl _ _ gb167 63 #[.int .i64 a0_0, .int .i64 a0_1, .int .i64 a0_2, .int .i64 a0_3, .slice Ao26 x169004_1.length co26] (0, 0) _ rfl (by (with_reducible repeat first | apply bn | apply bd | apply ba); refine blk_put (cs := #[.int .i64 a0_0, .int .i64 a0_1, .int .i64 a0_2, .int .i64 a0_3, .slice none 0 0]) ?_ 4 _ rfl; (with_reducible repeat first | apply bn | apply bd | apply ba); refine blk_put (cs := #[.int .i64 a0_0, .int .i64 a0_1, .int .i64 a0_2, .int .i64 0, .slice none 0 0]) ?_ 3 _ rfl; (with_reducible repeat first | apply bn | apply bd | apply ba); refine blk_put (cs := #[.int .i64 a0_0, .int .i64 a0_1, .int .i64 0, .int .i64 0, .slice none 0 0]) ?_ 2 _ rfl; (with_reducible repeat first | apply bn | apply bd | apply ba); refine blk_put (cs := #[.int .i64 a0_0, .int .i64 0, .int .i64 0, .int .i64 0, .slice none 0 0]) ?_ 1 _ rfl; (with_reducible repeat first | apply bn | apply bd | apply ba); refine blk_put (cs := #[.int .i64 0, .int .i64 0, .int .i64 0, .int .i64 0, .slice none 0 0]) ?_ 0 _ rfl; (with_reducible repeat first | apply bn | apply bd | apply ba); exact BK167.out) Try.underlying63 rfl (by kernel_rfl)) rfl ?_
    exact ⟨_, by first | rfl | (simp [*] <;> rfl), by (with_reducible repeat (first | apply Kd.R_alloc | apply Kd.R_drewN | apply Kd.R_drew)); exact Kd.R_mono (Kd.R_far (p := ⟨gb167, 4, none⟩) (Kd.R_far (p := ⟨gb167, 3, none⟩) (Kd.R_far (p := ⟨gb167, 2, none⟩) (Kd.R_far (p := ⟨gb167, 1, none⟩) (Kd.R_far (p := ⟨gb167, 0, none⟩) (Kd.R_types HO_169004.out BK167.out (by decide)) (fun _ hk => hk.2) (.int .i64 a0_0)) (fun _ hk => hk.2) (.int .i64 a0_1)) (fun _ hk => hk.2) (.int .i64 a0_2)) (fun _ hk => hk.2) (.int .i64 a0_3)) (fun _ hk => hk.2) (.slice Ao26 x169004_1.length co26)) (fun _ hk => trivial), by repeat (first | (with_reducible first | exact HB.out | apply wa | apply wn | apply wd | refine ws ?_ GE166.out | refine ws ?_ GE167.out | refine ws ?_ GE168.out) | exact HB.out)⟩
end Go.Proofs.Ytjekfipaadbbbaa.Fn
namespace Go.Proofs.Ytjekfipaadbbbaa.Fn
open Go.RowKit Go.Proofs.YtjekfipaadbbbaaW.PrintWords Go.Proofs.YtjekfipaadbbbaaW.PrintLast Go.Proofs.YtjekfipaadbbbaaW.PrintMore
set_option linter.unusedVariables false
set_option linter.unusedSimpArgs false
structure PI (l : List S44) (T : TD) (R : RD) : Prop where
 len : T.sl.length = l.length
 K : R.K = l
 tk : ∀ i, i < l.length → T.tk i = l.getD i z44
 set : ∀ i, T.dm i = T.hi
 hi : R.hi = T.hi
 js : ∀ k, R.js k = T.js k
 job : ∀ k j, T.js k = some j → j.dn < j.wrk ∧ (T.hi = true → (T.tk k).f0 = true)
section
variable {l : List S44} {T T' : TD} {R R' : RD} {hi' : Bool} {f f' : Nat → Option JB}
theorem PI.rtk (h : PI l T R) {i : Nat} (hi : i < l.length) : R.tk i = T.tk i := by unfold RD.tk; rw [h.K, h.tk i hi]
theorem PI.is_some (h : PI l T R) {k b : Nat} (hb : T.pt k = some b) : R.is k = true ∧ R.jr k = T.jb k := by
 have h1 : T.js k = some (T.jb k) := by unfold TD.js; rw [hb]; rfl
 rw [← h.js] at h1
 exact RD.js_some h1
theorem PI.is_none (h : PI l T R) {k : Nat} (hb : T.pt k = none) : R.is k = false := by
 have h1 : T.js k = none := TD.js_none.2 hb
 rw [← h.js] at h1
 exact RD.js_none.1 h1
theorem PI.low (h : PI l T R) {k : Nat} {j : JB} (hj : T.js k = some j) : k < l.length := by
 have := (TD.js_some hj).1
 rw [h.len] at this; exact this
theorem PI.step (h : PI l T R) (r : TRel T T' f hi') (hK : R'.K = R.K) (hh : R'.hi = hi') (hj : ∀ i, R'.js i = f' i) (e : ∀ i, f' i = f i) (hd : ∀ i, T'.dm i = hi') (hc : ∀ k j, f k = some j → k < l.length → j.dn < j.wrk ∧ (hi' = true → (T.tk k).f0 = true)) : PI l T' R' :=
 ⟨r.len.trans h.len, hK.trans h.K, fun i hi => (r.tk i).trans (h.tk i hi), fun i => by rw [hd, r.hi], by rw [hh, r.hi], fun k => by rw [hj, e, r.js], fun k j hjk => by
  have hl : k < l.length := by have := (TD.js_some hjk).1; rw [r.len, h.len] at this; exact this
  rw [r.js k] at hjk
  rw [r.hi, r.tk k]
  exact hc k j hjk hl⟩
theorem PI.dm (h : PI l T R) (r : TRel T T' f T.hi) (i : Nat) : T'.dm i = T.hi := by
 rcases r.dm i with q | q
 ·rw [q, h.set i]
 ·exact q
theorem PI.pick (h : PI l T R) {p q : Nat → JB → Bool} (hp : ∀ i j, i < l.length → p i j = q i j) (i : Nat) : pickR R q i = pickP T p i := by
 unfold pickR pickP
 rw [h.js]
 cases hj : T.js i with
 | none => rfl
 | some j => exact (hp i j (h.low hj)).symm
theorem PI.who (h : PI l T R) {p q : Nat → JB → Bool} (hp : ∀ i j, i < l.length → p i j = q i j) : ∀ n, whoR R q n = whoP T p n := by
 intro n
 induction n with
 | zero => rfl
 | succ n ih =>
  show (if pickR R q n = true then whoR R q n ++ [(n : Int)] else whoR R q n) = (if pickP T p n = true then whoP T p n ++ [(n : Int)] else whoP T p n)
  rw [h.pick hp, ih]
theorem PI.gone (h : PI l T R) {p q : Nat → JB → Bool} (hp : ∀ i j, i < l.length → p i j = q i j) (i : Nat) : goneR R q i = goneP T p i := by
 unfold goneR goneP
 rw [h.js]
 cases hj : T.js i with
 | none => rfl
 | some j => simp only [hp i j (h.low hj)]
theorem goneP_some {p : Nat → JB → Bool} {k : Nat} {j : JB} (h : goneP T p k = some j) : T.js k = some j ∧ p k j = false := by
 unfold goneP at h
 cases hj : T.js k with
 | none => rw [hj] at h; cases h
 | some j0 =>
  rw [hj] at h
  simp only at h
  by_cases q : p k j0 = true
  ·rw [if_pos q] at h; cases h
  ·rw [if_neg q] at h
   obtain rfl := Option.some.inj h
   exact ⟨rfl, by simpa using q⟩
theorem PI.run (h : PI l T R) {k b : Nat} (hk : k < T.sl.length) (hb : T.pt k = some b) (i : Nat) : runR R k i = runJ T k i := by
 obtain ⟨h1, h2⟩ := h.is_some hb
 have e : R.tk k = T.tk k := h.rtk (by rw [← h.len]; exact hk)
 unfold runR runJ
 rw [h.hi, e, h2]
 by_cases g : outJ T.hi (T.tk k) (T.jb k) = 1 ∨ outJ T.hi (T.tk k) (T.jb k) = 2
 ·rw [if_pos g, if_pos g]
  unfold goneJ
  rw [h.js]
 ·rw [if_neg g, if_neg g]
  unfold putJ
  rw [h.js]
theorem PI.run_job (h : PI l T R) {k b : Nat} (hk : k < T.sl.length) (hb : T.pt k = some b) {w : World} {base g : Nat} (ht : TabOK w base g T) (i : Nat) (j : JB) (hj : runJ T k i = some j) : j.dn < j.wrk ∧ (T.hi = true → (T.tk i).f0 = true) := by
 have hjs : T.js k = some (T.jb k) := by unfold TD.js; rw [hb]; rfl
 unfold runJ at hj
 by_cases g : outJ T.hi (T.tk k) (T.jb k) = 1 ∨ outJ T.hi (T.tk k) (T.jb k) = 2
 ·rw [if_pos g] at hj
  unfold goneJ at hj
  by_cases e : i = k
  ·rw [if_pos e] at hj; cases hj
  ·rw [if_neg e] at hj; exact h.job i j hj
 ·rw [if_neg g] at hj
  unfold putJ at hj
  by_cases e : i = k
  ·rw [if_pos e] at hj
   obtain rfl := Option.some.inj hj
   obtain ⟨q1, q2⟩ := h.job k _ hjs
   have hne : (T.jb k).dn + 1 ≠ (T.jb k).wrk := fun q => g (.inl (by unfold outJ; rw [if_pos q]))
   exact ⟨by show (T.jb k).dn + 1 < (T.jb k).wrk; omega, fun q => by rw [e]; exact q2 q⟩
  ·rw [if_neg e] at hj; exact h.job i j hj
theorem PI.least (h : PI l T R) {k : Nat} {j : JB} (hl : T.Least k j) {k' : Nat} (hl' : R.Least k') : k' = k ∧ R.du k' = dueT T.hi (T.tk k) j := by
 have key : ∀ m, R.is m = true → T.js m = some (R.jr m) ∧ R.du m = dueT T.hi (T.tk m) (R.jr m) := fun m hm => by
  have h1 : R.js m = some (R.jr m) := by unfold RD.js; rw [if_pos hm]
  rw [h.js] at h1
  refine ⟨h1, ?_⟩
  unfold RD.du
  rw [h.hi, h.rtk (h.low h1)]
 have hk : R.is k = true ∧ R.jr k = j := RD.js_some ((h.js k).trans hl.1)
 obtain ⟨k1, k2⟩ := key k hk.1
 obtain ⟨k3, k4⟩ := key k' hl'.1
 have a := hl.2 k' _ k3
 have b := hl'.2 k hk.1
 rw [k2, k4, hk.2] at b
 have e : k' = k := by rcases a with a | a <;> rcases b with b | b <;> omega
 subst e
 refine ⟨rfl, ?_⟩
 rw [k4, hk.2]
theorem PI.num (h : PI l T R) : numJ R.js = numJ T.js := by unfold numJ; simp only [h.js]
theorem PI.hiset (h : PI l T R) {b : Bool} (hn : ∀ k, T.js k = none) {R' : RD} (hK : R'.K = R.K) (hh : R'.hi = b) (hj : ∀ i, R'.js i = R.js i) : PI l { T with hi := b, dm := fun _ => b } R' :=
 ⟨h.len, hK.trans h.K, h.tk, fun _ => rfl, hh, fun k => (hj k).trans (h.js k), fun k j hjk => by
  have h1 : T.js k = some j := hjk
  rw [hn k] at h1; cases h1⟩
end
theorem ints_go (xs : List Int) (hx : xs.length ≤ 1000) : ∀ n (i : Nat), xs.length - i = n → i ≤ xs.length → ∃ k, parcloselaw19_ints.l0 k xs xs (i : Int) = some true := by
 intro n
 induction n with
 | zero =>
  intro i hn hi
  refine ⟨1, ?_⟩
  unfold parcloselaw19_ints.l0
  rw [if_neg (by omega)]
 | succ n ih =>
  intro i hn hi
  obtain ⟨k, hk⟩ := ih (i + 1) (by omega) (by omega)
  refine ⟨k + 1, ?_⟩
  unfold parcloselaw19_ints.l0
  rw [if_pos (by omega), if_pos (by omega), if_pos (by omega), if_pos rfl, show wrap64 ((i : Int) + 1) = ((i + 1 : Nat) : Int) by unfold wrap64; omega]
  exact hk
theorem ints_ev (xs : List Int) (hx : xs.length ≤ 1000) : ∃ k, parcloselaw19_ints.f k xs xs = some true := by
 obtain ⟨k, hk⟩ := ints_go xs hx _ 0 rfl (Nat.zero_le _)
 refine ⟨k, ?_⟩
 unfold parcloselaw19_ints.f
 rw [if_pos rfl]
 exact hk
def pjo (x : S76) : S134 := ⟨x.f0, x.f1, x.f2⟩
theorem pjo_jop (xs : List S134) : (xs.map jop).map pjo = xs := by
 rw [List.map_map]
 have e : (pjo ∘ jop) = id := funext fun x => rfl
 rw [e, List.map_id]
theorem refjob_go (a b c d : Int) (l : List S76) (hl : l.length ≤ 100000) : ∀ n (i : Nat), l.length - i = n → i ≤ l.length → ∃ k, parcloselaw19_RefJob.l0 k (i : Int) a b c d l a b c d ((l.take i).map pjo) = some (a, b, c, d, l.map pjo) := by
 intro n
 induction n with
 | zero =>
  intro i hn hi
  refine ⟨1, ?_⟩
  unfold parcloselaw19_RefJob.l0
  rw [if_neg (by omega), List.take_of_length_le (by omega)]
 | succ n ih =>
  intro i hn hi
  obtain ⟨k, hk⟩ := ih (i + 1) (by omega) (by omega)
  refine ⟨k + 1, ?_⟩
  have hi2 : i < l.length := by omega
  have hsn : (l.take (i + 1)).map pjo = (l.take i).map pjo ++ [pjo (l.getD i z76)] := by rw [List.take_succ_eq_append_getElem hi2, List.map_append, getD_lt l z76 hi2]; rfl
  rw [hsn] at hk
  unfold parcloselaw19_RefJob.l0
  rw [if_pos (by omega), if_pos (by omega), if_pos (by rw [List.length_map, List.length_take]; omega), show wrap64 ((i : Int) + 1) = ((i + 1 : Nat) : Int) by unfold wrap64; omega]
  have er : rd_T76 l (i : Int) = l.getD i z76 := by unfold rd_T76; rw [Int.toNat_natCast]
  rw [er]
  exact hk
theorem refjob_calls (a b c d : Int) (A : Option Addr) (cc : Nat) (l : List S76) (w : World) (hr : Kd.C k76 w A l.length l) (hc : l.length ≤ cc) (hl : l.length ≤ 100000) : Calls Try.prog 52 #[.agg #[.int .i64 a, .int .i64 b, .int .i64 c, .int .i64 d, .slice A l.length cc]] w fun e w' => ∃ v : Value, e = .returned (.agg #[.int .i64 a, .int .i64 b, .int .i64 c, .int .i64 d, v]) ∧ Kd.R k134 134 w' w.heap.size (fun _ => True) v (l.map pjo) ∧ Below w.heap.size w w' := by
 obtain ⟨k, hk⟩ := refjob_go a b c d l hl _ 0 rfl (Nat.zero_le _)
 exact parcloselaw19_RefJob.calls k a b c d A cc l a b c d _ w hr hc hk
theorem same_go (a b c d : Int) (l : List S134) (hl : l.length ≤ 100000) : ∀ n (i : Nat), l.length - i = n → i ≤ l.length → ∃ k, parcloseref19_Same.l0 k (i : Int) a b c d l a b c d l = some true := by
 intro n
 induction n with
 | zero =>
  intro i hn hi
  refine ⟨1, ?_⟩
  unfold parcloseref19_Same.l0
  rw [if_neg (by omega)]
 | succ n ih =>
  intro i hn hi
  obtain ⟨k, hk⟩ := ih (i + 1) (by omega) (by omega)
  refine ⟨k + 1, ?_⟩
  unfold parcloseref19_Same.l0
  rw [if_pos (by omega), if_pos (by omega), if_pos (by omega), if_neg (by simp), show wrap64 ((i : Int) + 1) = ((i + 1 : Nat) : Int) by unfold wrap64; omega]
  exact hk
theorem same_ev (a b c d : Int) (l : List S134) (hl : l.length ≤ 100000) : ∃ k, parcloseref19_Same.f k a b c d l a b c d l = some true := by
 obtain ⟨k, hk⟩ := same_go a b c d l hl _ 0 rfl (Nat.zero_le _)
 refine ⟨k + 1, ?_⟩
 unfold parcloseref19_Same.f
 rw [if_pos rfl, if_pos rfl, if_pos rfl, if_pos rfl]
 show (if ((l.length : Int) != (l.length : Int)) = true then some false else parcloseref19_Same.l0 k 0 a b c d l a b c d l) = some true
 rw [if_neg (by simp)]
 exact hk
end Go.Proofs.Ytjekfipaadbbbaa.Fn
