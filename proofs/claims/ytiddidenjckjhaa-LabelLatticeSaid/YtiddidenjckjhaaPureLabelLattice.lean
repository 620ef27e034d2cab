/- LabelLattice: labels over each other, joined and met, are as the document says, and are a lattice: for every two labels and every list of at most 40. -/
import Derived.Test.YtiddidenjckjhaaQLabelLattice
namespace Go.Proofs.Ytiddidenjckjhaa.Fn
open Go.RowKit Go.Proofs.YtiddidenjckjhaaW.PrintWords Go.Proofs.YtiddidenjckjhaaW.PrintLast Go.Proofs.YtiddidenjckjhaaW.PrintMore
set_option linter.unusedVariables false
set_option linter.unusedSimpArgs false

theorem wrap_nat {i : Nat} (h : i < 4611686018427387904) : wrap64 ((i : Int) + 1) = ((i + 1 : Nat) : Int) := by unfold wrap64; omega
theorem getD_nat {α : Type} (xs : List α) (i : Nat) (z : α) (h : i < xs.length) : xs.getD (i : Int).toNat z = xs[i] := by simp [List.getD, h]
theorem map_take_succ {α β : Type} (f : α → β) (xs : List α) (i : Nat) (h : i < xs.length) : (xs.take i).map f ++ [f xs[i]] = (xs.take (i + 1)).map f := by
  rw [List.take_succ_eq_append_getElem h, List.map_append]; rfl
theorem Ev.some_ {α : Type} {g : Nat → Option α} {r : α} (h : ∀ k, g k = some r) : Ev g r := ⟨0, fun k _ => h k⟩
def orU (a b : Int) : Int := Go.bits .or .u32 a b
theorem wrap_u32 (n : Int) (h0 : 0 ≤ n) (h1 : n < 2 ^ 32) : IntKind.u32.wrap n = n := by
  unfold IntKind.wrap
  simp [IntKind.signed, IntKind.bits]
  omega
theorem or_nat (a b : Nat) (ha : a < 2 ^ 32) (hb : b < 2 ^ 32) : orU a b = ((a ||| b : Nat) : Int) := (bits_nat .u32 32 (by decide) (fun n h0 h1 => wrap_u32 n h0 h1) a b ha hb).2
theorem and_nat (a b : Nat) (ha : a < 2 ^ 32) (hb : b < 2 ^ 32) : Go.bits .and .u32 a b = ((a &&& b : Nat) : Int) := (bits_nat .u32 32 (by decide) (fun n h0 h1 => wrap_u32 n h0 h1) a b ha hb).1

/-- The join of some labels, the first one told apart. -/
def joinG (a b : Int) (l : List (Int × Int)) : Int × Int := l.foldl (fun x y => (mx x.1 y.1, orU x.2 y.2)) (a, b)
def joinL : List (Int × Int) → Int × Int
  | [] => (0, 0)
  | x :: l => joinG x.1 x.2 l
theorem label_l0 (l : List S27) (hl : l.length < 1000) : ∀ d i, l.length - i = d → i ≤ l.length → ∀ a b, Ev (fun k => label_Join.l0 k l (l.length : Int) (i : Int) a b) (joinG a b ((l.drop i).map (fun x => (x.f0, x.f1)))) := by
  intro d
  induction d with
  | zero =>
    intro i hd hi a b
    obtain rfl : i = l.length := by omega
    rw [List.drop_length]
    exact Ev.step (f := fun _ => some (a, b)) (fun k => by simp only [label_Join.l0]; rw [if_neg (by omega)]) (Ev.now _)
  | succ d ih =>
    intro i hd hi a b
    have hlt : i < l.length := by omega
    refine Ev.step (fun k => by simp only [label_Join.l0]; rw [if_pos (by omega), if_pos (by omega), if_pos (by omega)]) ?_
    rw [show rd_T27 l (i : Int) = l[i] from getD_nat l i _ hlt, wrap_nat (by omega), List.drop_eq_getElem_cons hlt]
    exact ih (i + 1) (by omega) (by omega) _ _
theorem label_ev (l : List S27) (hl : l.length < 1000) : Ev (fun k => label_Join.f k l) (joinL (l.map (fun x => (x.f0, x.f1)))) := by
  cases l with
  | nil => exact Ev.some_ (fun k => by unfold label_Join.f; rw [if_pos (by simp)]; simp [joinL])
  | cons x l =>
    refine Ev.congr (fun k => by unfold label_Join.f; rw [if_neg (by simp; omega), if_pos (by simp only [List.length_cons]; omega), if_pos (by simp only [List.length_cons]; omega), Option.bind_some]) ?_
    have := label_l0 l (by simp at hl; omega) l.length 0 (by omega) (by omega) x.f0 x.f1
    simpa [joinL, rd_T27] using this
theorem ref_l0 (l : List S24) (hl : l.length < 1000) : ∀ d i, l.length - i = d → i ≤ l.length → ∀ a b, Ev (fun k => parcloseref32_Join.l0 k l (i : Int) a b) (joinG a b ((l.drop i).map (fun x => (x.f0, x.f1)))) := by
  intro d
  induction d with
  | zero =>
    intro i hd hi a b
    obtain rfl : i = l.length := by omega
    rw [List.drop_length]
    exact Ev.step (f := fun _ => some (a, b)) (fun k => by simp only [parcloseref32_Join.l0]; rw [if_neg (by omega)]) (Ev.now _)
  | succ d ih =>
    intro i hd hi a b
    have hlt : i < l.length := by omega
    refine Ev.step (fun k => by simp only [parcloseref32_Join.l0]; rw [if_pos (by omega), if_pos (by omega)]) ?_
    rw [show rd_T24 l (i : Int) = l[i] from getD_nat l i _ hlt, wrap_nat (by omega), List.drop_eq_getElem_cons hlt]
    exact ih (i + 1) (by omega) (by omega) _ _
theorem ref_ev (l : List S24) (hl : l.length < 1000) : Ev (fun k => parcloseref32_Join.f k l) (joinL (l.map (fun x => (x.f0, x.f1)))) := by
  cases l with
  | nil => exact Ev.some_ (fun k => by unfold parcloseref32_Join.f; rw [if_pos (by simp)]; simp [joinL])
  | cons x l =>
    refine Ev.congr (fun k => by unfold parcloseref32_Join.f; rw [if_neg (by simp; omega), if_pos (by simp only [List.length_cons]; omega)]) ?_
    have := ref_l0 (x :: l) hl l.length 1 (by simp) (by simp) x.f0 x.f1
    simpa [joinL, rd_T24] using this
theorem owns_l0 (l : List S24) (hl : l.length < 1000) : ∀ d i, l.length - i = d → i ≤ l.length → Ev (fun k => parcloselaw32_owns.l0 k l ((l.take i).map (fun x => (⟨x.f0, x.f1⟩ : S27))) (i : Int)) (l.map (fun x => (⟨x.f0, x.f1⟩ : S27))) := by
  intro d
  induction d with
  | zero =>
    intro i hd hi
    obtain rfl : i = l.length := by omega
    rw [List.take_length]
    exact Ev.step (f := fun _ => _) (fun k => by simp only [parcloselaw32_owns.l0]; rw [if_neg (by omega)]) (Ev.now _)
  | succ d ih =>
    intro i hd hi
    have hlt : i < l.length := by omega
    refine Ev.step (fun k => by simp only [parcloselaw32_owns.l0]; rw [if_pos (by omega), if_pos (by omega), if_pos (by simp; omega)]) ?_
    rw [show rd_T24 l (i : Int) = l[i] from getD_nat l i _ hlt, wrap_nat (by omega)]
    have := ih (i + 1) (by omega) (by omega)
    rw [← map_take_succ (fun x : S24 => (⟨x.f0, x.f1⟩ : S27)) l i hlt] at this
    exact this
theorem owns_ev (l : List S24) (hl : l.length < 1000) : Ev (fun k => parcloselaw32_owns.f k l) (l.map (fun x => (⟨x.f0, x.f1⟩ : S27))) := by
  have := owns_l0 l hl l.length 0 (by omega) (by omega)
  refine Ev.congr (fun k => by unfold parcloselaw32_owns.f; rfl) ?_
  simpa using this
def overB (a b c d : Int) : Bool := (mx a c == a && (orU b d == b))
theorem over_ev (a b c d : Int) : Ev (fun k => label_Label_Over.f k a b c d) (overB a b c d) := by
  refine Ev.congr (fun k => by unfold label_Label_Over.f; rfl) ?_
  refine Ev.bind (f := fun _ bt106 => some (bt106.1 == a && (bt106.2 == b))) (label_ev [⟨a, b⟩, ⟨c, d⟩] (by simp)) ?_
  exact Ev.now _
theorem refOver (a b c d : Int) : parcloseref32_Over.f a b c d = some (overB a b c d) := by
  unfold parcloseref32_Over.f overB mx orU
  by_cases h : a ≥ c
  · rw [if_pos h, if_neg (by omega)]; simp
  · rw [if_neg h, if_pos (by omega)]; simp; omega
theorem knows32 : Ev (fun k => parcloselaw32_knows.f k) true := Ev.of parcloselaw32_knows.mono (k := 10) (by decide +kernel)

theorem mx_over (a c : Int) : mx a (mn a c) = a := by unfold mx mn; split <;> split <;> omega
theorem mx_again (a c : Int) : mx (mx a c) c = mx a c := by unfold mx; split <;> (try split) <;> omega
theorem mx_anti {a c : Int} (h : mx a c = a) (h' : mx c a = c) : a = c := by unfold mx at h h'; split at h <;> split at h' <;> omega

theorem P_LabelLattice : parcloselaw32_LabelLattice.Pure := by
  intro a b c d l hab hcd hl
  have hb : 0 ≤ b ∧ b < 2 ^ 32 := by have := hab.2; simp [qInt, Lit.wf, IntKind.min, IntKind.max, IntKind.signed, IntKind.bits] at this; omega
  have hd : 0 ≤ d ∧ d < 2 ^ 32 := by have := hcd.2; simp [qInt, Lit.wf, IntKind.min, IntKind.max, IntKind.signed, IntKind.bits] at this; omega
  obtain ⟨m, rfl⟩ := Int.eq_ofNat_of_zero_le hb.1
  obtain ⟨n, rfl⟩ := Int.eq_ofNat_of_zero_le hd.1
  have hm : m < 2 ^ 32 := by omega
  have hn : n < 2 ^ 32 := by omega
  by_cases hlen : (l.length : Int) > 40
  · obtain ⟨k, hk⟩ := knows32.rounds
    exact ⟨k, Or.inl (by unfold parcloselaw32_LabelLattice_L0.f; rw [if_pos hlen, hk]; rfl)⟩
  have e1 : overB a m (mn a c) (Go.bits .and .u32 m n) = true := by
    unfold overB
    rw [mx_over, and_nat m n hm hn, or_nat m (m &&& n) hm (Nat.lt_of_le_of_lt Nat.and_le_left hm)]
    have e : m ||| (m &&& n) = m := by
      apply Nat.eq_of_testBit_eq
      intro i
      simp only [Nat.testBit_or, Nat.testBit_and]
      cases m.testBit i <;> simp
    rw [e]
    simp
  have e2 : overB (mx a c) (orU m n) c n = true := by
    unfold overB
    rw [mx_again, or_nat m n hm hn, or_nat (m ||| n) n (Nat.or_lt_two_pow hm hn) hn, Nat.or_assoc, Nat.or_self]
    simp
  have j2 : Ev (fun k => label_Join.f k [(⟨a, m⟩ : S27), ⟨c, n⟩]) (mx a c, orU m n) := label_ev [⟨a, m⟩, ⟨c, n⟩] (by simp)
  have hj : Ev (fun k => label_Join.f k (l.map (fun x => (⟨x.f0, x.f1⟩ : S27)))) (joinL (l.map (fun x => (x.f0, x.f1)))) := by
    have := label_ev (l.map (fun x => (⟨x.f0, x.f1⟩ : S27))) (by simp; omega)
    simpa [List.map_map, Function.comp_def] using this
  have hmeet : label_Meet.f a m c n = some (mn a c, Go.bits .and .u32 m n) := rfl
  have hmeet' : parcloseref32_Meet.f a m c n = some (mn a c, Go.bits .and .u32 m n) := rfl
  have pre : ∀ {α : Type} {F : Nat → Option α} {r : α} (e : Option α), Ev F r → Ev (fun k => (label_Label_Over.f k a m c n).bind fun t => (parcloseref32_Over.f a m c n).bind fun t1 => if (t == t1) = true then ((parcloselaw32_owns.f k l).bind fun o => (label_Join.f k o).bind fun bt => (parcloseref32_Join.f k l).bind fun bt1 => if (bt.1 == bt1.1 && (bt.2 == bt1.2)) = true then ((label_Meet.f a m c n).bind fun b2 => (parcloseref32_Meet.f a m c n).bind fun b3 => if (b2.1 == b3.1 && (b2.2 == b3.2)) = true then ((label_Meet.f a m c n).bind fun b4 => (label_Label_Over.f k a m b4.1 b4.2).bind fun t2 => if t2 = true then ((label_Join.f k [(⟨a, m⟩ : S27), ⟨c, n⟩]).bind fun b5 => (label_Label_Over.f k b5.1 b5.2 c n).bind fun t3 => if t3 = true then F k else e) else e) else e) else e) else e) r := by
    intro α F r e hF
    refine Ev.bind (over_ev a m c n) ?_
    refine Ev.congr (fun k => by rw [refOver, Option.bind_some, if_pos (by simp)]) ?_
    refine Ev.bind (owns_ev l (by omega)) ?_
    refine Ev.bind hj ?_
    refine Ev.bind (ref_ev l (by omega)) ?_
    refine Ev.congr (fun k => by rw [if_pos (by simp), hmeet, Option.bind_some, hmeet', Option.bind_some, if_pos (by simp), Option.bind_some]) ?_
    refine Ev.bind (over_ev a m (mn a c) (Go.bits .and .u32 m n)) ?_
    refine Ev.congr (fun k => by rw [if_pos e1]) ?_
    refine Ev.bind j2 ?_
    refine Ev.bind (over_ev (mx a c) (orU m n) c n) ?_
    exact Ev.congr (fun k => by rw [if_pos e2]) hF
  by_cases h1 : overB a m c n = true
  · by_cases h2 : overB c n a m = true
    · have e : (a == c && ((m : Int) == (n : Int))) = true := by
        unfold overB at h1 h2
        simp only [Bool.and_eq_true, beq_iff_eq] at h1 h2
        rw [or_nat m n hm hn] at h1
        rw [or_nat n m hn hm, Nat.or_comm] at h2
        have := mx_anti h1.1 h2.1
        simp only [Bool.and_eq_true, beq_iff_eq]
        exact ⟨this, h1.2.symm.trans h2.2⟩
      have := pre (some false) (F := fun k => (label_Label_Over.f k a m c n).bind fun t => if t = true then ((label_Label_Over.f k c n a m).bind fun t1 => if t1 = true then (if (a == c && ((m : Int) == (n : Int))) = true then ((parcloselaw32_knows.f k).bind fun t2 => some t2) else some false) else none) else none) (r := true) (by
        refine Ev.bind (over_ev a m c n) ?_
        refine Ev.congr (fun k => by rw [if_pos h1]) ?_
        refine Ev.bind (over_ev c n a m) ?_
        refine Ev.congr (fun k => by rw [if_pos h2, if_pos e]) ?_
        exact Ev.bind (f := fun _ t => some t) knows32 (Ev.now _))
      obtain ⟨k, hk⟩ := this.rounds
      exact ⟨k, Or.inr (Or.inl (by unfold parcloselaw32_LabelLattice_L1.f; rw [if_neg hlen]; exact hk))⟩
    · have := pre (some false) (F := fun k => (label_Label_Over.f k a m c n).bind fun t => if t = true then ((label_Label_Over.f k c n a m).bind fun t1 => if t1 = true then none else ((parcloselaw32_knows.f k).bind fun t2 => some t2)) else none) (r := true) (by
        refine Ev.bind (over_ev a m c n) ?_
        refine Ev.congr (fun k => by rw [if_pos h1]) ?_
        refine Ev.bind (over_ev c n a m) ?_
        refine Ev.congr (fun k => by rw [if_neg h2]) ?_
        exact Ev.bind (f := fun _ t => some t) knows32 (Ev.now _))
      obtain ⟨k, hk⟩ := this.rounds
      exact ⟨k, Or.inr (Or.inr (Or.inl (by unfold parcloselaw32_LabelLattice_L2.f; rw [if_neg hlen]; exact hk)))⟩
  · have := pre (some false) (F := fun k => (label_Label_Over.f k a m c n).bind fun t => if t = true then none else ((parcloselaw32_knows.f k).bind fun t2 => some t2)) (r := true) (by
      refine Ev.bind (over_ev a m c n) ?_
      refine Ev.congr (fun k => by rw [if_neg h1]) ?_
      exact Ev.bind (f := fun _ t => some t) knows32 (Ev.now _))
    obtain ⟨k, hk⟩ := this.rounds
    exact ⟨k, Or.inr (Or.inr (Or.inr (by unfold parcloselaw32_LabelLattice_L3.f; rw [if_neg hlen]; exact hk)))⟩
end Go.Proofs.Ytiddidenjckjhaa.Fn
