/- The plain law, shared: what Light, Part, Config and knows of layer 3's statements come to, as lists. -/
import Derived.Test.YtmjhnmdmopmfjaaF17
import Derived.Test.YtmjhnmdmopmfjaaF15
import Derived.Test.YtmjhnmdmopmfjaaF16
namespace Go.Proofs.Ytmjhnmdmopmfjaa.Fn
open Go.RowKit Go.Proofs.YtmjhnmdmopmfjaaW.PrintWords Go.Proofs.YtmjhnmdmopmfjaaW.PrintLast Go.Proofs.YtmjhnmdmopmfjaaW.PrintMore
set_option linter.unusedVariables false
set_option linter.unusedSimpArgs false

theorem wrap_nat {i : Nat} (h : i < 4611686018427387904) : wrap64 ((i : Int) + 1) = ((i + 1 : Nat) : Int) := by unfold wrap64; omega
theorem getD_nat {α : Type} (xs : List α) (i : Nat) (z : α) (h : i < xs.length) : xs.getD (i : Int).toNat z = xs[i] := by simp [List.getD, h]
theorem map_take_succ {α β : Type} (f : α → β) (xs : List α) (i : Nat) (h : i < xs.length) : (xs.take i).map f ++ [f xs[i]] = (xs.take (i + 1)).map f := by
  rw [List.take_succ_eq_append_getElem h, List.map_append]; rfl
theorem Ev.some_ {α : Type} {g : Nat → Option α} {r : α} (h : ∀ k, g k = some r) : Ev g r := ⟨0, fun k _ => h k⟩

def cT (x : S56) : S51 := ⟨x.f0, x.f1, x.f2, x.f3, x.f4, x.f5⟩
def cS (x : S57) : S53 := ⟨x.f0, x.f1, x.f2⟩
def cP (x : S61) : S49 := ⟨x.f0.map cT, x.f1.map cS, x.f2, x.f3⟩
def cW (x : S77) : S42 := ⟨x.f0, x.f1, x.f2⟩
def cC (x : S78) : S44 := ⟨x.f0, x.f1, x.f2, x.f3⟩
def fewP (p : S61) : Prop := p.f0.length ≤ 20 ∧ p.f1.length ≤ 20 ∧ p.f2.length ≤ 20

theorem knows3 : Ev (fun k => parcloselaw03_knows.f k) true := Ev.of (parcloselaw03_knows.mono) (k := 20) (by decide +kernel)

theorem few_ev (p : S61) : parcloselaw03_few.f p.f0 p.f1 p.f2 p.f3.f0 p.f3.f1 p.f3.f2 = some (decide (p.f0.length ≤ 20 ∧ p.f1.length ≤ 20 ∧ p.f2.length ≤ 20)) := by
  unfold parcloselaw03_few.f
  by_cases h : (p.f0.length : Int) ≤ 20
  · rw [if_pos h]
    by_cases h1 : (p.f1.length : Int) ≤ 20
    · rw [if_pos h1]; congr 1; rw [decide_eq_decide]; omega
    · rw [if_neg h1]; congr 1; symm; rw [decide_eq_false_iff_not]; omega
  · rw [if_neg h]; congr 1; symm; rw [decide_eq_false_iff_not]; omega

def lightB (l2 : List S77) (l3 : List S61) (l4 : List S78) : Bool := decide (l2.length ≤ 60 ∧ l3.length ≤ 20 ∧ l4.length ≤ 30) && l3.all (fun p => decide (p.f0.length ≤ 20 ∧ p.f1.length ≤ 20 ∧ p.f2.length ≤ 20))
theorem light_l0 (a b : Int) (l2 : List S77) (l3 : List S61) (l4 : List S78) (h3 : l3.length ≤ 20) : ∀ d i, l3.length - i = d → i ≤ l3.length → Ev (fun k => parcloselaw03_Light.l0 k (i : Int) a b l2 l3 l4) ((l3.drop i).all (fun p => decide (p.f0.length ≤ 20 ∧ p.f1.length ≤ 20 ∧ p.f2.length ≤ 20))) := by
  intro d
  induction d with
  | zero =>
    intro i hd hi
    obtain rfl : i = l3.length := by omega
    refine Ev.step (f := fun _ => some true) (fun k => by simp only [parcloselaw03_Light.l0]; rw [if_neg (by omega)]) ?_
    rw [List.drop_length]
    exact Ev.now _
  | succ d ih =>
    intro i hd hi
    have hlt : i < l3.length := by omega
    refine Ev.step (fun k => by simp only [parcloselaw03_Light.l0]; rw [if_pos (by omega), if_pos (by omega)]) ?_
    rw [show rd_T61 l3 (i : Int) = l3[i] from getD_nat l3 i _ hlt, few_ev, List.drop_eq_getElem_cons hlt, List.all_cons]
    by_cases hf : l3[i].f0.length ≤ 20 ∧ l3[i].f1.length ≤ 20 ∧ l3[i].f2.length ≤ 20
    · rw [decide_eq_true hf]
      simp only [Option.bind_some, if_true, Bool.true_and]
      rw [wrap_nat (by omega)]
      exact ih (i + 1) (by omega) (by omega)
    · rw [decide_eq_false hf]
      exact Ev.some_ (fun k => by simp)
theorem light_ev (a b : Int) (l2 : List S77) (l3 : List S61) (l4 : List S78) : Ev (fun k => parcloselaw03_Light.f k a b l2 l3 l4) (lightB l2 l3 l4) := by
  have j0 : ∀ c : Bool, (c = false → l3.length ≤ 20) → Ev (fun k => parcloselaw03_Light.j0 k c a b l2 l3 l4) (!c && l3.all (fun p => decide (p.f0.length ≤ 20 ∧ p.f1.length ≤ 20 ∧ p.f2.length ≤ 20))) := by
    intro c hc
    cases c with
    | true => exact Ev.step (f := fun _ => some false) (fun k => by simp only [parcloselaw03_Light.j0]; rw [if_pos trivial]) (Ev.now _)
    | false =>
      refine Ev.step (fun k => by simp only [parcloselaw03_Light.j0]; rw [if_neg (by decide)]) ?_
      have := light_l0 a b l2 l3 l4 (hc rfl) l3.length 0 (by omega) (by omega)
      simpa using this
  unfold lightB
  by_cases h : (l2.length : Int) > 60
  · have := j0 true (by simp)
    rw [decide_eq_false (by omega)]
    refine Ev.congr (fun k => ?_) this
    unfold parcloselaw03_Light.f; rw [if_pos h]
  · by_cases h1 : (l3.length : Int) > 20
    · have := j0 true (by simp)
      rw [decide_eq_false (by omega)]
      refine Ev.congr (fun k => ?_) this
      unfold parcloselaw03_Light.f; rw [if_neg h, if_pos h1]
    · have := j0 (decide ((l4.length : Int) > 30)) (by intro _; omega)
      have e : decide (l2.length ≤ 60 ∧ l3.length ≤ 20 ∧ l4.length ≤ 30) = !decide ((l4.length : Int) > 30) := by
        by_cases h2 : (l4.length : Int) > 30
        · rw [decide_eq_true h2, decide_eq_false (by omega)]; rfl
        · rw [decide_eq_false h2, decide_eq_true (by omega)]; rfl
      rw [e]
      refine Ev.congr (fun k => ?_) this
      unfold parcloselaw03_Light.f; rw [if_neg h, if_neg h1]
theorem light_of {l2 : List S77} {l3 : List S61} {l4 : List S78} (h : lightB l2 l3 l4 = true) : l2.length ≤ 60 ∧ l3.length ≤ 20 ∧ l4.length ≤ 30 ∧ ∀ p ∈ l3, fewP p := by
  unfold lightB at h
  simp only [Bool.and_eq_true, decide_eq_true_eq, List.all_eq_true] at h
  exact ⟨h.1.1, h.1.2.1, h.1.2.2, h.2⟩

theorem part_l1 (t0 : List S56) (t1 : List S57) (t2 : List Int) (a b c : Int) (y0 : List S51) (y2 : List Int) (p q r : Int) (h : t1.length ≤ 20) : ∀ d i, t1.length - i = d → i ≤ t1.length →
    Ev (fun k => parcloselaw03_Part.l1 k (i : Int) t0 t1 t2 a b c y0 ((t1.take i).map cS) y2 p q r) (y0, t1.map cS, y2, p, q, r) := by
  intro d
  induction d with
  | zero =>
    intro i hd hi
    obtain rfl : i = t1.length := by omega
    rw [List.take_length]
    exact Ev.step (f := fun _ => _) (fun k => by simp only [parcloselaw03_Part.l1]; rw [if_neg (by omega)]) (Ev.now _)
  | succ d ih =>
    intro i hd hi
    have hlt : i < t1.length := by omega
    refine Ev.step (fun k => by simp only [parcloselaw03_Part.l1]; rw [if_pos (by omega), if_pos (by omega), if_pos (by simp; omega)]) ?_
    rw [show rd_T57 t1 (i : Int) = t1[i] from getD_nat t1 i _ hlt, wrap_nat (by omega)]
    have := ih (i + 1) (by omega) (by omega)
    rw [← map_take_succ cS t1 i hlt] at this
    exact this
theorem part_l0 (t0 : List S56) (t1 : List S57) (t2 : List Int) (a b c : Int) (y2 : List Int) (p q r : Int) (h0 : t0.length ≤ 20) (h : t1.length ≤ 20) : ∀ d i, t0.length - i = d → i ≤ t0.length →
    Ev (fun k => parcloselaw03_Part.l0 k (i : Int) t0 t1 t2 a b c ((t0.take i).map cT) y2 p q r) (t0.map cT, t1.map cS, y2, p, q, r) := by
  intro d
  induction d with
  | zero =>
    intro i hd hi
    obtain rfl : i = t0.length := by omega
    rw [List.take_length]
    refine Ev.step (fun k => by simp only [parcloselaw03_Part.l0]; rw [if_neg (by omega)]) ?_
    have := part_l1 t0 t1 t2 a b c (t0.map cT) y2 p q r h t1.length 0 (by omega) (by omega)
    simpa using this
  | succ d ih =>
    intro i hd hi
    have hlt : i < t0.length := by omega
    refine Ev.step (fun k => by simp only [parcloselaw03_Part.l0]; rw [if_pos (by omega), if_pos (by omega), if_pos (by simp; omega)]) ?_
    rw [show rd_T56 t0 (i : Int) = t0[i] from getD_nat t0 i _ hlt, wrap_nat (by omega)]
    have := ih (i + 1) (by omega) (by omega)
    rw [← map_take_succ cT t0 i hlt] at this
    exact this
theorem part_ev (p : S61) (h : fewP p) : Ev (fun k => parcloselaw03_Part.f k p.f0 p.f1 p.f2 p.f3.f0 p.f3.f1 p.f3.f2) (p.f0.map cT, p.f1.map cS, p.f2, p.f3.f0, p.f3.f1, p.f3.f2) := by
  refine Ev.congr (fun k => by unfold parcloselaw03_Part.f; rw [Option.bind_some, if_pos (by have := h.2.2; simp; omega)]) ?_
  have := part_l0 p.f0 p.f1 p.f2 p.f3.f0 p.f3.f1 p.f3.f2 p.f2 p.f3.f0 p.f3.f1 p.f3.f2 h.1 h.2.1 p.f0.length 0 (by omega) (by omega)
  simpa using this

theorem config_l2 (a b : Int) (l2 : List S77) (l3 : List S61) (l4 : List S78) (x y : Int) (y2 : List S42) (y3 : List S49) (h : l4.length ≤ 30) : ∀ d i, l4.length - i = d → i ≤ l4.length →
    Ev (fun k => parcloselaw03_Config.l2 k (i : Int) a b l2 l3 l4 x y y2 y3 ((l4.take i).map cC)) (x, y, y2, y3, l4.map cC) := by
  intro d
  induction d with
  | zero =>
    intro i hd hi
    obtain rfl : i = l4.length := by omega
    rw [List.take_length]
    exact Ev.step (f := fun _ => _) (fun k => by simp only [parcloselaw03_Config.l2]; rw [if_neg (by omega)]) (Ev.now _)
  | succ d ih =>
    intro i hd hi
    have hlt : i < l4.length := by omega
    refine Ev.step (fun k => by simp only [parcloselaw03_Config.l2]; rw [if_pos (by omega), if_pos (by omega), if_pos (by simp; omega)]) ?_
    rw [show rd_T78 l4 (i : Int) = l4[i] from getD_nat l4 i _ hlt, wrap_nat (by omega)]
    have := ih (i + 1) (by omega) (by omega)
    rw [← map_take_succ cC l4 i hlt] at this
    exact this
theorem config_l1 (a b : Int) (l2 : List S77) (l3 : List S61) (l4 : List S78) (x y : Int) (y2 : List S42) (h3 : l3.length ≤ 20) (h : l4.length ≤ 30) (hf : ∀ p ∈ l3, fewP p) : ∀ d i, l3.length - i = d → i ≤ l3.length →
    Ev (fun k => parcloselaw03_Config.l1 k (i : Int) a b l2 l3 l4 x y y2 ((l3.take i).map cP)) (x, y, y2, l3.map cP, l4.map cC) := by
  intro d
  induction d with
  | zero =>
    intro i hd hi
    obtain rfl : i = l3.length := by omega
    rw [List.take_length]
    refine Ev.step (fun k => by simp only [parcloselaw03_Config.l1]; rw [if_neg (by omega)]) ?_
    have := config_l2 a b l2 l3 l4 x y y2 (l3.map cP) h l4.length 0 (by omega) (by omega)
    simpa using this
  | succ d ih =>
    intro i hd hi
    have hlt : i < l3.length := by omega
    refine Ev.step (fun k => by simp only [parcloselaw03_Config.l1]; rw [if_pos (by omega), if_pos (by omega)]) ?_
    rw [show rd_T61 l3 (i : Int) = l3[i] from getD_nat l3 i _ hlt, wrap_nat (by omega)]
    refine Ev.bind (part_ev l3[i] (hf _ (List.getElem_mem hlt))) ?_
    refine Ev.congr (fun k => by rw [if_pos (by simp; omega)]) ?_
    have := ih (i + 1) (by omega) (by omega)
    rw [← map_take_succ cP l3 i hlt] at this
    exact this
theorem config_l0 (a b : Int) (l2 : List S77) (l3 : List S61) (l4 : List S78) (x y : Int) (h2 : l2.length ≤ 60) (h3 : l3.length ≤ 20) (h : l4.length ≤ 30) (hf : ∀ p ∈ l3, fewP p) : ∀ d i, l2.length - i = d → i ≤ l2.length →
    Ev (fun k => parcloselaw03_Config.l0 k (i : Int) a b l2 l3 l4 x y ((l2.take i).map cW)) (x, y, l2.map cW, l3.map cP, l4.map cC) := by
  intro d
  induction d with
  | zero =>
    intro i hd hi
    obtain rfl : i = l2.length := by omega
    rw [List.take_length]
    refine Ev.step (fun k => by simp only [parcloselaw03_Config.l0]; rw [if_neg (by omega)]) ?_
    have := config_l1 a b l2 l3 l4 x y (l2.map cW) h3 h hf l3.length 0 (by omega) (by omega)
    simpa using this
  | succ d ih =>
    intro i hd hi
    have hlt : i < l2.length := by omega
    refine Ev.step (fun k => by simp only [parcloselaw03_Config.l0]; rw [if_pos (by omega), if_pos (by omega), if_pos (by simp; omega)]) ?_
    rw [show rd_T77 l2 (i : Int) = l2[i] from getD_nat l2 i _ hlt, wrap_nat (by omega)]
    have := ih (i + 1) (by omega) (by omega)
    rw [← map_take_succ cW l2 i hlt] at this
    exact this
theorem config_ev {a b : Int} {l2 : List S77} {l3 : List S61} {l4 : List S78} (hl : lightB l2 l3 l4 = true) : Ev (fun k => parcloselaw03_Config.f k a b l2 l3 l4) (a, b, l2.map cW, l3.map cP, l4.map cC) := by
  obtain ⟨h2, h3, h4, hf⟩ := light_of hl
  have := config_l0 a b l2 l3 l4 a b h2 h3 h4 hf l2.length 0 (by omega) (by omega)
  refine Ev.congr (fun k => by unfold parcloselaw03_Config.f; rfl) ?_
  simpa using this
end Go.Proofs.Ytmjhnmdmopmfjaa.Fn
