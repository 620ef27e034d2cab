/- A map[int]bool that the call made, as a set of numbers: made, asked, written: laws at the operation. -/
import Derived.Test.YtmjhnmdmopmfjaaT0
import Derived.Maps.OwnOps
import Derived.Maps.Views
import Derived.Carry
namespace Go.Proofs.Ytmjhnmdmopmfjaa.Fn
open Go.RowKit Go.Maps Go.Proofs.YtmjhnmdmopmfjaaW.PrintWords Go.Proofs.YtmjhnmdmopmfjaaW.PrintLast Go.Proofs.YtmjhnmdmopmfjaaW.PrintMore
set_option linter.unusedVariables false
set_option linter.unusedSimpArgs false

/-- Block b is a map of at most n entries from ints to bools, in which just the members of S are true. -/
def SetMap (P : Program) (k e : TypeId) (w : World) (b n : Nat) (S : List Int) : Prop :=
  ∃ D : DataW Unit, w.ownsMap P k (plainElem P e) b n D ∧ IsMap D ∧ ∀ x : Int, D.atKey (.int .i64 x) (.lit (.bool false)) = .lit (.bool (decide (x ∈ S)))

theorem SetMap.made (P : Program) (k e : TypeId) (w : World) : SetMap P k e (w.alloc (.map #[] 0)) w.heap.size 0 [] :=
  ⟨_, World.ownsMap_made _ _ _ _, isMap_empty, fun x => by simp [DataW.atKey]⟩
theorem plainElem_bool_inv {P : Program} {e : TypeId} (he : P.underlying e = some .bool) {v : Value} {z : DataW Unit × List MemPlace} (h : plainElem P e v = some z) : ∃ a, v = .bool a ∧ z = (.lit (.bool a), []) := by
  unfold plainElem at h
  rw [he] at h
  split at h <;> simp_all
theorem SetMap.lookup {P : Program} {k e t : TypeId} {w : World} {b n : Nat} {S : List Int} (h : SetMap P k e w b n S) (hk : P.underlying k = some (.int .i64)) (ht : P.underlying t = some (.map k e)) (he : P.underlying e = some .bool) (hz : (zeroValue e).run P w = .ok (.bool false) w) (x : Int) (hx : (Lit.int .i64 x).wf = true) :
    (Instr.lookup t (.map (some b)) (.int .i64 x) false).run P w = .ok (.bool (decide (x ∈ S))) w := by
  obtain ⟨D, hown, hm, hat⟩ := h
  obtain ⟨v, ps, hrun, hv⟩ := hown.lookup (int_keyed hk) ht hz (plainElem_bool he false) (keyOf_int_mk hk hx)
  obtain ⟨c, rfl, hc⟩ := plainElem_bool_inv he hv
  rw [hat x] at hc
  simp only [Prod.mk.injEq, DataW.lit.injEq, Lit.bool.injEq] at hc
  rw [hrun, hc.1]
theorem SetMap.kept {P : Program} {k e : TypeId} {w w1 : World} {b n : Nat} {S : List Int} (h : SetMap P k e w b n S) (hb : w1.heap[b]? = w.heap[b]?) : SetMap P k e w1 b n S := by
  obtain ⟨D, ⟨es, clock, h1, h2⟩, hm, hat⟩ := h
  exact ⟨D, ⟨es, clock, hb.trans h1, h2⟩, hm, hat⟩
theorem SetMap.lt {P : Program} {k e : TypeId} {w : World} {b n : Nat} {S : List Int} (h : SetMap P k e w b n S) : b < w.heap.size := by
  obtain ⟨D, ⟨es, clock, h1, h2⟩, hm, hat⟩ := h
  exact (Array.getElem?_eq_some_iff.1 h1).1
theorem SetMap.below {P : Program} {k e : TypeId} {w w1 : World} {b n : Nat} {S : List Int} (h : SetMap P k e w b n S) (hb : Below w.heap.size w w1) : SetMap P k e w1 b n S := h.kept (hb.block b h.lt)
theorem SetMap.update {P : Program} {k e t : TypeId} {w : World} {b n : Nat} {S : List Int} (h : SetMap P k e w b n S) (hk : P.underlying k = some (.int .i64)) (ht : P.underlying t = some (.map k e)) (he : P.underlying e = some .bool) (hn : n < maxLen) (x : Int) (hx : (Lit.int .i64 x).wf = true) :
    ∃ w', (Instr.mapUpdate t (.map (some b)) (.int .i64 x) (.bool true)).run P w = .ok () w' ∧ SetMap P k e w' b (n + 1) (x :: S) ∧ w.grownBy w' (some b) := by
  obtain ⟨D, hown, hm, hat⟩ := h
  obtain ⟨w', hrun, h1, h2⟩ := hown.update (int_keyed hk) ht hn (keyOf_int_mk hk hx) (plainElem_bool he true)
  refine ⟨w', hrun, ⟨_, h1, ?_, fun y => ?_⟩, h2⟩
  · exact hm.put _ _
  · by_cases hy : y = x
    · subst hy
      rw [atKey_put_same hm (by simp [WideAt.IsKeyLit])]
      simp
    · rw [atKey_put_other (by simp; exact hy)]
      rw [hat y]
      simp [hy]
section
variable {P : Program} {ops : Array Oper} {rest : List Oper} {o : Oper} {a : Act} {Q : Exit → Act → World → Prop}
theorem set_lookup (w : World) (hg : o.guard = none) (m x : Operand) (t : TypeId) (hop : o.op = Op.lookup t m x false) (k e : TypeId) (hk : P.underlying k = some (.int .i64)) (ht : P.underlying t = some (.map k e)) (he : P.underlying e = some .bool) (hz : ∀ w, (zeroValue e).run P w = .ok (.bool false) w) (b n : Nat) (S : List Int) (q : Int) (c : Bool)
    (hm : a.eval m = .map (some b)) (hs : SetMap P k e w b n S) (hx : a.eval x = .int .i64 q) (hq : (Lit.int .i64 q).wf = true) (hc : decide (q ∈ S) = c) (hK : wpList P ops Q rest (a.put o.dst (.bool c)) w) : wpList P ops Q (o :: rest) a w := by
  subst hc
  refine wpList_plain hg fun K' hK' => ?_
  have hrun := hs.lookup hk ht he (hz w) q hq
  unfold Oper.wp
  simp [execOp, hop, hm, hx, hrun, Result.andThen]
  exact hK' _ _ hK
theorem set_update (w : World) (hg : o.guard = none) (m x v : Operand) (t : TypeId) (hop : o.op = Op.mapUpdate t m x v ∨ o.op = Op.insert t m x v) (k e : TypeId) (hk : P.underlying k = some (.int .i64)) (ht : P.underlying t = some (.map k e)) (he : P.underlying e = some .bool) (b n : Nat) (S : List Int) (q : Int)
    (hm : a.eval m = .map (some b)) (hs : SetMap P k e w b n S) (hx : a.eval x = .int .i64 q) (hv : a.eval v = .bool true) (hq : (Lit.int .i64 q).wf = true) (hn : n < maxLen) (hK : ∀ w', SetMap P k e w' b (n + 1) (q :: S) → w.grownBy w' (some b) → wpList P ops Q rest (a.put o.dst undef) w') : wpList P ops Q (o :: rest) a w := by
  refine wpList_plain hg fun K' hK' => ?_
  obtain ⟨w', hrun, r1, r2⟩ := hs.update hk ht he hn q hq
  unfold Oper.wp
  rcases hop with hop | hop <;>
  · simp [execOp, hop, hm, hx, hv, hrun, Result.andThen]
    exact hK' _ _ (hK w' r1 r2)
end
end Go.Proofs.Ytmjhnmdmopmfjaa.Fn
