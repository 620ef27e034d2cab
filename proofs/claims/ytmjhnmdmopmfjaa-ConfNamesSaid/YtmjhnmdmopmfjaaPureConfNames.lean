/- ConfNames: which numbers are partitions', and which are other ones, each once: the program's answers are the document's, for every system, number and list. -/
import Derived.Test.YtmjhnmdmopmfjaaBase
import Derived.Test.YtmjhnmdmopmfjaaQConfNames
namespace Go.Proofs.Ytmjhnmdmopmfjaa.Fn
open Go.RowKit Go.Proofs.YtmjhnmdmopmfjaaW.PrintWords Go.Proofs.YtmjhnmdmopmfjaaW.PrintLast Go.Proofs.YtmjhnmdmopmfjaaW.PrintMore
set_option linter.unusedVariables false
set_option linter.unusedSimpArgs false

theorem rd_nat (xs : List Int) (i : Nat) (h : i < xs.length) : rd xs (i : Int) = xs[i] := getD_nat xs i 0 h
theorem refHas_f (a b : Int) (l2 : List S77) (l3 : List S61) (l4 : List S78) (q : Int) : parcloseref03_Has.f a b l2 l3 l4 q = some (decide (0 ≤ q ∧ q < (l3.length : Int))) := by
  unfold parcloseref03_Has.f
  by_cases h : q ≥ 0
  · rw [if_pos h]; simp [h]
  · rw [if_neg h]; simp; omega

theorem if_iff {P Q : Prop} [Decidable P] [Decidable Q] {α : Type} {x y : α} (h : P ↔ Q) : (if P then x else y) = if Q then x else y := by
  by_cases hp : P
  · rw [if_pos hp, if_pos (h.1 hp)]
  · rw [if_neg hp, if_neg (fun hq => hp (h.2 hq))]
section
variable (p : Int) (l : List Int) (a b : Int) (l2 : List S77) (l3 : List S61) (l4 : List S78)
theorem names_l1 (hl : l.length ≤ 40) (i : Nat) (hi : i < l.length) (r : Bool) (hr : Ev (fun k => parcloseref03_Names.l0 k p l ((i + 1 : Nat) : Int) a b l2 l3 l4) r) : ∀ d j, i - j = d → j ≤ i →
    Ev (fun k => parcloseref03_Names.l1 k p l (i : Int) (j : Int) a b l2 l3 l4) (if l[i] ∈ (l.take i).drop j then false else r) := by
  intro d
  induction d with
  | zero =>
    intro j hd hj
    obtain rfl : j = i := by omega
    refine Ev.step (fun k => by simp only [parcloseref03_Names.l1]; rw [if_neg (by omega), wrap_nat (by omega)]) ?_
    rw [if_neg (by simp)]
    exact hr
  | succ d ih =>
    intro j hd hj
    refine Ev.step (fun k => by simp only [parcloseref03_Names.l1]; rw [if_pos (by omega), if_pos (by omega), if_pos (by omega), if_pos (by omega), if_pos (by omega), rd_nat l j (by omega), rd_nat l i hi]) ?_
    have hjt : j < (l.take i).length := by simp; omega
    rw [List.drop_eq_getElem_cons hjt]
    by_cases he : l[j]'(by omega) = l[i]
    · simp only [if_pos he]
      rw [if_pos (by simp [he])]
      exact Ev.now _
    · simp only [if_neg he, wrap_nat (show j < 4611686018427387904 by omega)]
      have := ih (j + 1) (by omega) (by omega)
      have e : (l[i] ∈ (l.take i)[j] :: (l.take i).drop (j + 1)) ↔ l[i] ∈ (l.take i).drop (j + 1) := by
        simp only [List.mem_cons, List.getElem_take]
        exact ⟨fun h => h.elim (fun h => absurd h.symm he) id, Or.inr⟩
      rw [if_iff e]
      exact this
theorem names_l0 (hl : l.length ≤ 40) : ∀ d i, l.length - i = d → i ≤ l.length → ∀ met : List Int, (∀ q, q ∈ met ↔ q ∈ l.take i ∨ q = p) →
    Ev (fun k => parcloseref03_Names.l0 k p l (i : Int) a b l2 l3 l4) (namesGo l3.length met (l.drop i)) := by
  intro d
  induction d with
  | zero =>
    intro i hd hi met hm
    obtain rfl : i = l.length := by omega
    rw [List.drop_length, namesGo]
    exact Ev.step (f := fun _ => _) (fun k => by simp only [parcloseref03_Names.l0]; rw [if_neg (by omega)]) (Ev.now _)
  | succ d ih =>
    intro i hd hi met hm
    have hlt : i < l.length := by omega
    rw [List.drop_eq_getElem_cons hlt, namesGo]
    refine Ev.step (fun k => by simp only [parcloseref03_Names.l0]; rw [if_pos (by omega), if_pos (by omega), rd_nat l i hlt, refHas_f, Option.bind_some]) ?_
    by_cases hh : 0 ≤ l[i] ∧ l[i] < (l3.length : Int)
    · rw [decide_eq_true hh]
      simp only [if_true]
      by_cases hp : l[i] = p
      · rw [if_pos ((hm _).2 (Or.inr hp))]
        refine Ev.step (f := fun _ => some false) (fun k => by simp only [parcloseref03_Names.j1]; rw [if_pos (by simp [hp])]) (Ev.now _)
      · refine Ev.step (fun k => by simp only [parcloseref03_Names.j1]; rw [if_neg (by simp [hp])]) ?_
        have hnext := ih (i + 1) (by omega) (by omega) (l[i] :: met) (fun q => by
          rw [List.take_succ_eq_append_getElem hlt]
          simp only [List.mem_cons, List.mem_append, List.not_mem_nil, or_false, hm q]
          constructor
          · rintro (h | h | h)
            · exact Or.inl (Or.inr h)
            · exact Or.inl (Or.inl h)
            · exact Or.inr h
          · rintro ((h | h) | h)
            · exact Or.inr (Or.inl h)
            · exact Or.inl h
            · exact Or.inr (Or.inr h))
        have := names_l1 p l a b l2 l3 l4 hl i hlt _ hnext i 0 (by omega) (by omega)
        rw [List.drop_zero] at this
        have e : (l[i] ∈ l.take i) ↔ l[i] ∈ met := by rw [hm]; exact ⟨Or.inl, fun h => h.elim id (fun h => absurd h hp)⟩
        rw [if_iff e] at this
        rw [if_pos hh]
        exact this
    · rw [decide_eq_false hh, if_neg hh]
      simp only [Bool.false_eq_true, if_false, ite_self]
      exact Ev.step (f := fun _ => some false) (fun k => by simp only [parcloseref03_Names.j1]; rw [if_pos trivial]) (Ev.now _)
end

theorem ConfNames_ev (a b : Int) (l2 : List S77) (l3 : List S61) (l4 : List S78) (p : Int) (l : List Int) (hp : qInt .i64 p) (hl : qList (qInt .i64) l) : Ev (fun k => parcloselaw03_ConfNames.f k a b l2 l3 l4 p l) true := by
  refine Ev.congr (fun k => by unfold parcloselaw03_ConfNames.f; rfl) ?_
  refine Ev.bind (light_ev a b l2 l3 l4) ?_
  have hk : ∀ c : Bool, c = true → Ev (fun k => parcloselaw03_ConfNames.j0 k p l c a b l2 l3 l4) true := by
    rintro c rfl
    refine Ev.step (fun k => by simp only [parcloselaw03_ConfNames.j0]; rw [if_pos trivial]) ?_
    exact Ev.bind (f := fun _ t => some t) knows3 (Ev.now _)
  cases hlb : lightB l2 l3 l4 with
  | false => simpa using hk true rfl
  | true =>
    simp only [if_true]
    by_cases hlen : (l.length : Int) > 40
    · rw [decide_eq_true hlen]; exact hk true rfl
    rw [decide_eq_false hlen]
    refine Ev.step (fun k => by simp only [parcloselaw03_ConfNames.j0]; rw [if_neg (by decide)]) ?_
    refine Ev.bind (config_ev hlb) ?_
    obtain ⟨h2, h3, h4, hf⟩ := light_of hlb
    refine Ev.congr (fun k => by simp only [has_f, refHas_f, Option.bind_some, List.length_map, BEq.rfl, if_true]; rfl) ?_
    have hn : conf_Config_Names.f a b (l2.map cW) (l3.map cP) (l4.map cC) p l = some (if 0 ≤ p ∧ p < (l3.length : Int) then namesGo l3.length [p] l else false) := by
      unfold conf_Config_Names.f
      rw [if_pos ⟨hp, hl.2, by omega⟩, List.length_map]
    refine Ev.congr (fun k => by rw [hn, Option.bind_some]) ?_
    have hr : Ev (fun k => parcloseref03_Names.f k a b l2 l3 l4 p l) (if 0 ≤ p ∧ p < (l3.length : Int) then namesGo l3.length [p] l else false) := by
      refine Ev.congr (fun k => by unfold parcloseref03_Names.f; rw [refHas_f, Option.bind_some]) ?_
      by_cases hh : 0 ≤ p ∧ p < (l3.length : Int)
      · rw [if_pos hh, decide_eq_true hh]
        have := names_l0 p l a b l2 l3 l4 (by omega) l.length 0 (by omega) (by omega) [p] (by simp)
        simpa using this
      · rw [if_neg hh, decide_eq_false hh]
        exact Ev.some_ (fun k => by simp)
    refine Ev.bind hr ?_
    refine Ev.congr (fun k => by rw [if_pos (by simp)]) ?_
    exact Ev.bind (f := fun _ t => some t) knows3 (Ev.now _)
theorem P_ConfNames : parcloselaw03_ConfNames.Pure := by
  intro a b l2 l3 l4 p l _ hp hl
  exact (ConfNames_ev a b l2 l3 l4 p l hp hl).rounds
end Go.Proofs.Ytmjhnmdmopmfjaa.Fn
