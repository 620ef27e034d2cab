/- Part of the proof of MergeLooks: see the last text. (Words laid by the print, as far as they are named here; walks written by a program of this project; plain laws.) -/
import Derived.Test.YtalimpniimgheaaMergeLooksZ1
namespace Go.Proofs.Ytalimpniimgheaa.Fn
open Go.RowKit Go.Proofs.YtalimpniimgheaaW.PrintWords Go.Proofs.YtalimpniimgheaaW.PrintLast Go.Proofs.YtalimpniimgheaaW.PrintMore
set_option linter.unusedVariables false
set_option linter.unusedSimpArgs false
attribute [local go_sem] max2_mx min2_mn max_two min_two
section
variable (A : Option Addr) (c : Nat) (xs : List S67) (bx : Addr) (p : S67 → Bool)
set_option maxHeartbeats 4000000 in
set_option maxRecDepth 100000 in
theorem idx116_calls (w : World) (h : k67.C w A xs.length xs) (hl : xs.length ≤ 100000) (hp : ∀ wr x, Below w.heap.size w wr → Calls Try.prog 116 #[.agg #[.int .i64 x.f0, .int .i64 x.f1.f0, .int .i64 x.f1.f1, .int .i64 x.f1.f2, .int .i64 x.f1.f3], .pointer (some bx)] wr fun e w' => e = .returned (.bool (p x)) ∧ Below wr.heap.size wr w') :
  Calls Try.prog 83 #[.slice A xs.length c, .func (.func 116) #[] #[.pointer (some bx)]] w fun e w' => ∃ r, e = .returned (.int .i64 r) ∧ IdxOf p xs z67 r ∧ Below w.heap.size w w' := by
 have hu := Try.underlying67
 have HC := asd h
 have HP := asd hp
 have HL := asd hl
 clear h hp hl
 go_enter Try.func83, Try.ntmps83
 go_wp2
 go_loopw [8] (fun v wr => ∃ i : Nat, v = .int .i64 i ∧ Aside0 (i ≤ xs.length ∧ ∀ j, j < i → p (xs.getD j z67) = false) ∧ Aside0 (Below w.heap.size w wr)) (fun v _ => xs.length - (intOf v).toNat)
 case atStart => exact ⟨0, rfl, ⟨by omega, fun j hj => by omega⟩, ⟨Below.refl _ _⟩⟩
 case round =>
  obtain ⟨i, rfl, HX, HB⟩ := hrel
  have h99 : (xs.length : Int) ≤ 100000 := by have := HL.out; omega
  by_cases hlt : i < xs.length
  ·have q0 : ((i : Int) < (xs.length : Int)) = True := eq_true (by omega)
   have q1 : decide ((i : Int) < (xs.length : Int)) = true := decide_eq_true (by omega)
   have q2 : decide (i < xs.length) = true := decide_eq_true hlt
   obtain ⟨ad, rfl, y0, y1, y2, y3, y4⟩ := at_T67 (Kd.C_below HC.out HB.out) (i : Int) (by omega) (by omega)
   simp only [Int.toNat_natCast] at y0 y1 y2 y3 y4
   have HR : Aside0 (rd_T67 xs (i : Int) = xs.getD i z67) := ⟨by unfold rd_T67; rw [Int.toNat_natCast]⟩
   generalize rd_T67 xs (i : Int) = x at *
   have HPX := asd (fun wr hb2 => HP.out wr x hb2)
   cases hb : p x with
   | true =>
    rw [hb] at HPX
    have HT : Aside0 (p (xs.getD i z67) = true) := ⟨by rw [← HR.out]; exact hb⟩
    clear hb HR
    go_wp2_with (first | (go_at_call 116; refine (HPX.out _ HB.out).mono ?_; rintro e w1 ⟨rfl, hb⟩; have HB1 := asd (below_step HB.out hb); clear hb))
    go_ret
    exact ⟨_, rfl, .inr ⟨i, hlt, rfl, HT.out, HX.out.2⟩, HB1.out⟩
   | false =>
    rw [hb] at HPX
    have HT : Aside0 (p (xs.getD i z67) = false) := ⟨by rw [← HR.out]; exact hb⟩
    clear hb HR
    go_wp2_with (first | (go_at_call 116; refine (HPX.out _ HB.out).mono ?_; rintro e w1 ⟨rfl, hb⟩; have HB1 := asd (below_step HB.out hb); clear hb))
    go_roundw
    case rel => exact ⟨i + 1, by go_num, ⟨by omega, fun j hj => by
     rcases Nat.lt_or_ge j i with h1 | h1
     ·exact HX.out.2 j h1
     ·rw [show j = i by omega]; exact HT.out⟩, HB1⟩
    case measure => simp [intOf]; omega
  ·have q1 : decide ((i : Int) < (xs.length : Int)) = false := decide_eq_false (by omega)
   have q2 : decide (i < xs.length) = false := decide_eq_false hlt
   have e : i = xs.length := by have := HX.out.1; omega
   subst e
   clear hlt
   go_wp2
   go_ret
   exact ⟨-1, rfl, .inl ⟨rfl, HX.out.2⟩, HB.out⟩
end
section
variable (g c : Nat) (xs : List S67) (bx : Addr) (p : S67 → Bool)
set_option maxHeartbeats 8000000 in
set_option maxRecDepth 100000 in
theorem del116_calls (base : Nat) (ok : Nat → Prop) (w : World) (h : k67.R 67 w base ok (.slice (some ⟨g, 0, none⟩) xs.length c) xs) (hl : xs.length ≤ 100000) (hp : ∀ wr x, Chg (fun k => k = g) w wr → Calls Try.prog 116 #[.agg #[.int .i64 x.f0, .int .i64 x.f1.f0, .int .i64 x.f1.f1, .int .i64 x.f1.f2, .int .i64 x.f1.f3], .pointer (some bx)] wr fun e w' => e = .returned (.bool (p x)) ∧ Below wr.heap.size wr w') :
  Calls Try.prog 114 #[.slice (some ⟨g, 0, none⟩) xs.length c, .func (.func 116) #[] #[.pointer (some bx)]] w fun e w' => e = .returned (.slice (some ⟨g, 0, none⟩) (xs.filter (fun x => !p x)).length c) ∧ k67.R 67 w' base ok (.slice (some ⟨g, 0, none⟩) (xs.filter (fun x => !p x)).length c) (xs.filter (fun x => !p x)) ∧ Chg (fun k => k = g) w w' := by
 have hu := Try.underlying67
 have hu2 := Try.underlying56
 have HR := asd h
 have HP := asd hp
 have HL := asd hl
 have HCP := asd (show xs.length ≤ c from (Kd.R_reads' h).2.1)
 have IDX := asd (idx116_calls (some ⟨g, 0, none⟩) c xs bx p w (C_ofR h) hl (fun wr x hb => HP.out wr x (Chg.of_below hb _)))
 clear h hp hl
 go_enter Try.func114, Try.ntmps114
 go_wp2_with fail
 refine IDX.out.mono ?_
 rintro e w1 ⟨r, rfl, hr, hb⟩
 have HR1 := asd (Kd.R_below HR.out hb)
 have HC1 := asd (Chg.of_below hb (fun k => k = g))
 clear hb IDX
 rcases hr with ⟨rfl, hall⟩ | ⟨k, hk, rfl, ht, hall⟩
 ·have HF := asd (filter_none hall)
  clear hall
  go_wp2
  go_ret
  rw [HF.out]
  exact ⟨rfl, HR1.out, HC1.out⟩
 have M0 : Aside0 (Mid p xs xs k (k + 1)) := ⟨⟨rfl, by omega, hk, (filter_upto hk ht hall).symm, rfl⟩⟩
 have h99 : (xs.length : Int) ≤ 100000 := by have := HL.out; omega
 have k99 : (k : Int) < (xs.length : Int) := by omega
 have kne : ((k : Int) == -1) = false := beq_eq_false_iff_ne.2 (by omega)
 have kne2 : decide ((k : Int) = -1) = false := decide_eq_false (by omega)
 clear hall ht
 go_wp2
 go_loopw [5, 6] (fun v5 v6 wr => ∃ (i j : Nat) (zs : List S67), v5 = .int .i64 i ∧ v6 = .int .i64 j ∧ Aside0 (Mid p xs zs i j) ∧ Aside0 (k67.R 67 wr base ok (.slice (some ⟨g, 0, none⟩) xs.length c) zs) ∧ Aside0 (Chg (fun k => k = g) w wr)) (fun _ v _ => xs.length - (intOf v).toNat)
 case atStart => exact ⟨k, k + 1, xs, rfl, by go_num, M0, HR1, HC1⟩
 case round =>
  clear M0 HR1 HC1
  obtain ⟨i, j, zs, rfl, rfl, HM, HZ, HC⟩ := hrel
  have hjl : (j : Int) ≤ (xs.length : Int) := by have := HM.out.le; omega
  have hij : (i : Int) < (j : Int) := by have := HM.out.lt; omega
  by_cases hlt : j < xs.length
  ·have q0 : ((j : Int) < (xs.length : Int)) = True := eq_true (by omega)
   have q1 : decide ((j : Int) < (xs.length : Int)) = true := decide_eq_true (by omega)
   have q2 : decide (j < xs.length) = true := decide_eq_true hlt
   obtain ⟨ad, hae, y0, y1, y2, y3, y4⟩ := at_T67 (by have h2 := C_ofR HZ.out; rw [HM.out.len] at h2; exact h2) (j : Int) (by omega) (by omega)
   obtain rfl := Option.some.inj hae
   simp only [Int.toNat_natCast, add_plain] at y0 y1 y2 y3 y4
   have HRD : Aside0 (rd_T67 zs (j : Int) = xs.getD j z67) := ⟨by unfold rd_T67; rw [Int.toNat_natCast]; exact HM.out.get z67 hlt⟩
   generalize rd_T67 zs (j : Int) = x at *
   have HPX := asd (fun wr hb2 => HP.out wr x hb2)
   have HXA := asd (heap_alloc_new wr (.cells #[.int .i64 x.f0, .int .i64 x.f1.f0, .int .i64 x.f1.f1, .int .i64 x.f1.f2, .int .i64 x.f1.f3] 67))
   cases hb : p x with
   | true =>
    rw [hb] at HPX
    have NX : Aside0 (Mid p xs zs i (j + 1)) := ⟨HM.out.drop_ z67 hlt (by rw [← HRD.out]; exact hb)⟩
    clear hb HRD
    go_wp2_with (first | (go_at_call 116; refine (HPX.out _ (HC.out.alloc _)).mono ?_; rintro e w3 ⟨rfl, hb⟩; have HZ3 := asd (Kd.R_below (Kd.R_alloc HZ.out _) hb); have HC3 := asd ((HC.out.alloc _).below hb); clear hb))
    go_roundw
    case rel => exact ⟨i, j + 1, zs, rfl, by go_num, NX, HZ3, HC3⟩
    case measure => simp [intOf]; omega
   | false =>
    rw [hb] at HPX
    have NX : Aside0 (Mid p xs (zs.set i x) (i + 1) (j + 1)) := ⟨by have h2 := HM.out.keep_ z67 hlt (by rw [← HRD.out]; exact hb); rw [← HRD.out] at h2; exact h2⟩
    clear hb HRD
    go_wp2_with fail
    refine (HPX.out _ (HC.out.alloc _)).mono ?_
    rintro e w3 ⟨rfl, hb⟩
    have HZ3 := asd (Kd.R_below (Kd.R_alloc HZ.out _) hb)
    have HC3 := asd ((HC.out.alloc _).below hb)
    have HXB := asd (blk_below HXA.out hb)
    clear hb HZ HC HXA y0 y1 y2 y3 y4
    have hq0 := (blk_cell HXB.out 0).trans rfl; have hq1 := (blk_cell HXB.out 1).trans rfl; have hq2 := (blk_cell HXB.out 2).trans rfl; have hq3 := (blk_cell HXB.out 3).trans rfl; have hq4 := (blk_cell HXB.out 4).trans rfl
    have i0 : (0 ≤ (i : Int)) = True := eq_true (by omega)
    have i1 : ((i : Int) < (xs.length : Int)) = True := eq_true (by omega)
    obtain ⟨cc, hcl, hMM, hcc, hfz⟩ := Kd.R_elem HZ3.out z67 (i : Int) (by omega) (by omega)
    have HCL := asd hcl
    have HCC := asd hcc
    clear hcl hMM hcc hfz
    go_wp2_with (first | ((with_reducible refine gate_ (.store 67 (.tmp 33) (.tmp 32)) rfl ?_); refine Kd.R_store k67 (w0 := w3) base rfl rfl 67 (.tmp 33) (.tmp 32) rfl 67 (i : Int) 0 zs x (.agg #[.int .i64 x.f0, .int .i64 x.f1.f0, .int .i64 x.f1.f1, .int .i64 x.f1.f2, .int .i64 x.f1.f3]) [.int .i64 x.f0, .int .i64 x.f1.f0, .int .i64 x.f1.f1, .int .i64 x.f1.f2, .int .i64 x.f1.f3] cc ok (fun _ => False) rfl (by simp only [Int.toNat_natCast, Nat.add_zero]; rfl) rfl rfl rfl (by simp [Value.oneCell']) HZ3.out (by omega) (by omega) HCL.out HCC.out (Nat.le_refl 5) (by rw [List.take_zero, List.nil_append, List.drop_of_length_le (by rw [HCL.out]; exact Nat.le_refl 5), List.append_nil]; exact k67_mkM _ _ _ _) (fun _ hk => hk.elim) (Below.refl _ _) ?_; intro w4 ho hb hgr; have HZ4 := asd ho; have HC4 := asd (HC3.out.grown hgr (fun k hk => .inl (by injection hk with hk; exact hk.symm))); clear ho hb hgr))
    go_roundw
    case rel => exact ⟨i + 1, j + 1, zs.set i x, by go_num, by go_num, NX, ⟨by have h2 := HZ4.out; rw [Int.toNat_natCast] at h2; exact h2⟩, HC4⟩
    case measure => simp [intOf]; omega
  ·have q1 : decide ((j : Int) < (xs.length : Int)) = false := decide_eq_false (by omega)
   have q2 : decide (j < xs.length) = false := decide_eq_false hlt
   have e : j = xs.length := by have := HM.out.le; omega
   subst e
   have KP : Aside0 (zs.take i = xs.filter (fun x => !p x)) := ⟨by have := HM.out.kept; rwa [List.take_length] at this⟩
   have KL : Aside0 (i = (xs.filter (fun x => !p x)).length) := ⟨by rw [← KP.out, List.length_take, HM.out.len]; omega⟩
   obtain ⟨w4, hcl, hR4, hC4⟩ := clear_row (P := Try.prog) (t := 56) (m := i) (c' := c - i) HZ.out (by omega) Try.underlying56 (z := .agg #[.int .i64 0, .int .i64 0, .int .i64 0, .int .i64 0, .int .i64 0]) (fun w => by kernel_rfl) rfl (by intro u hu; have h2 : u ∈ [.int .i64 0, .int .i64 0, .int .i64 0, .int .i64 0, .int .i64 0] := hu; simp only [List.mem_cons, List.not_mem_nil, or_false, or_self] at h2; rw [h2]; rfl)
   have HZ4 := asd hR4
   have HC4 := asd (HC.out.trans hC4)
   replace hcl : ∀ ty, (Builtin.clear_ #[56] ty #[.slice (some ⟨g, i * 5, none⟩) (xs.length - i) (c - i)]).run Try.prog wr = .ok (.tuple #[]) w4 := hcl
   have i0 : (0 ≤ (i : Int)) = True := eq_true (by omega)
   have i1 : ((i : Int) ≤ (xs.length : Int)) = True := eq_true (by omega)
   have i2 : ((i : Int) ≤ (c : Int)) = True := eq_true (by have := HCP.out; omega)
   have i3 : ((xs.length : Int) ≤ (c : Int)) = True := eq_true (by have := HCP.out; omega)
   have i4 : (c = i) = False := eq_false (by have := HCP.out; omega)
   clear hR4 hC4 hlt
   go_wp2
   go_ret
   rw [← KL.out]
   exact ⟨rfl, by rw [← KP.out]; exact HZ4.out, HC4.out⟩
end
set_option maxHeartbeats 4000000 in
set_option maxRecDepth 100000 in
theorem del116_nil (bx : Addr) (p : S67 → Bool) (w : World) (hp : ∀ wr x, Below w.heap.size w wr → Calls Try.prog 116 #[.agg #[.int .i64 x.f0, .int .i64 x.f1.f0, .int .i64 x.f1.f1, .int .i64 x.f1.f2, .int .i64 x.f1.f3], .pointer (some bx)] wr fun e w' => e = .returned (.bool (p x)) ∧ Below wr.heap.size wr w') :
  Calls Try.prog 114 #[.slice none 0 0, .func (.func 116) #[] #[.pointer (some bx)]] w fun e w' => e = .returned (.slice none 0 0) ∧ Below w.heap.size w w' := by
 have IDX := asd (idx116_calls none 0 ([] : List S67) bx p w (Kd.C_nil k67 w) (by simp) hp)
 clear hp
 go_enter Try.func114, Try.ntmps114
 go_wp2_with fail
 refine IDX.out.mono ?_
 rintro e w1 ⟨r, rfl, hr, hb⟩
 have HB := asd hb
 clear hb IDX
 rcases hr with ⟨rfl, hall⟩ | ⟨k, hk, rfl, ht, hall⟩
 ·clear hall
  go_wp2
  go_ret
  exact ⟨rfl, HB.out⟩
 ·simp at hk
section
variable (A : Option Addr) (c : Nat) (xs : List S67)  (p : S67 → Bool)
end
set_option maxHeartbeats 8000000 in
set_option maxRecDepth 100000 in
theorem clone115_calls (A0 : Option Addr) (c0 : Nat) (l0 : List S67) (w : World) (hr0 : Kd.C k67 w A0 l0.length l0) (hl : l0.length < 3518437208883) :
  Calls Try.prog 115 #[.slice A0 l0.length c0] w fun e w' => ∃ v0_ : Value, e = .returned (v0_) ∧ Kd.R k67 67 w' w.heap.size (fun _ => True) v0_ l0 ∧ Below w.heap.size w w' := by
 have HR0 := asd hr0
 have HC1 := asd hl
 clear hr0 hl
 have hq := fun (w : World) (a : Option Addr) n c => Lib.run_eql_slice_nil (P := Try.prog) w 56 67 a n c 0 0 Try.underlying56
 cases A0 with
 | none =>
  have e0 : l0 = [] := by
   rcases Nat.eq_zero_or_pos l0.length with h0 | h0
   ·exact List.eq_nil_of_length_eq_zero h0
   ·obtain ⟨ad, h, _⟩ := HR0.out.2.2 h0; cases h
  subst e0
  go_enter Try.func115, Try.ntmps115
  go_wp2
  go_ret
  exact ⟨_, rfl, Kd.R_nil _ _ _ _ _, Below.refl _ _⟩
 | some ad =>
  go_enter Try.func115, Try.ntmps115
  go_wp2_with (first | ((with_reducible refine gate_dst (N := 5) rfl ?_); refine Kd.R_lit k67 _ 67 ?hg (N := 5) ?hd (xs := ([] : List S67)) (inner := []) (ok := fun _ => True) (okp := fun _ => True) ?hr ?hp (fun _ hk => hk) trivial (Below.refl _ _) (Nat.le_refl _) (by simp) ?_; (case hd => rfl); (case hg => rfl); (case hr => first | (go_simp; done) | (go_simp; rfl)); (case hp => exact (Reps.none _ _)); intro v1 w1 ho hb hg hat; have HO := asd ho; have HB := asd hb; clear ho hb hg hat) | ((with_reducible refine gate_builtin (b := .append) (xs := #[.tmp 5, .tmp 6]) rfl ?_); at_builtin; refine Kd.R_append_rows k67 (w0 := w) w.heap.size rfl (.tmp 5) (.tmp 6) 56 67 (.agg #[.int .i64 0, .int .i64 0, .int .i64 0, .int .i64 0, .int .i64 0]) 40 rfl Try.underlying56 info67 rfl (by decide) (by omega) v1 [] l0 _ _ _ (fun _ => True) (fun _ => False) rfl rfl ?aO ?aR (fun _ _ h => h) (fun _ h => h.elim) ?aF ?aB ?aS ?aL ?_; (case aR => exact Kd.C_below HR0.out HB.out); (case aB => exact HB.out); (case aF => exact (fun _ _ => trivial)); (case aO => exact HO.out); (case aS => exact HB.out.size); (case aL => have := HC1.out; simp only [List.length_nil]; omega); intro v2 w2 ho2 hb2 hg2 hat2; have HO2 := asd ho2; have HB2 := asd hb2; clear ho2 hb2 hg2 hat2))
  go_ret
  exact ⟨_, rfl, HO2.out, HB2.out⟩
def knownB (n : Int) : Bool := decide (0 ≤ n) && decide (n < 64)
set_option maxHeartbeats 2000000 in
set_option maxRecDepth 100000 in
theorem known86_calls (n : Int) (w : World) : Calls Try.prog 86 #[.int .i64 n] w fun e w' => e = .returned (.bool (knownB n)) ∧ w = w' := by
 by_cases h0 : 0 ≤ n
 ·have e : knownB n = decide (n < 64) := by unfold knownB; rw [decide_eq_true h0]; rfl
  rw [e]; clear e
  go_enter Try.func86, Try.ntmps86
  go_wp2
  go_ret
  simp
 ·have e : knownB n = false := by unfold knownB; rw [decide_eq_false h0]; rfl
  rw [e]; clear e
  have d0 : decide (0 ≤ n) = false := decide_eq_false h0
  have d1 : decide (n ≥ 0) = false := d0
  clear h0
  go_enter Try.func86, Try.ntmps86
  go_wp2
  go_ret
  simp
set_option maxHeartbeats 2000000 in
set_option maxRecDepth 100000 in
theorem clos85_calls (x : S67) (w : World) : Calls Try.prog 85 #[.agg #[.int .i64 x.f0, .int .i64 x.f1.f0, .int .i64 x.f1.f1, .int .i64 x.f1.f2, .int .i64 x.f1.f3]] w fun e w' => e = .returned (.bool (knownB x.f0)) ∧ Below w.heap.size w w' := by
 have hu := Try.underlying67
 go_enter Try.func85, Try.ntmps85
 go_wp2_with (first | (go_at_call 86; refine (known86_calls _ _).mono ?_; rintro e w1 ⟨rfl, rfl⟩))
 go_ret
 exact ⟨rfl, below_alloc (Below.refl _ _) _⟩
def betB (a b : Int) (x : S67) : Bool := decide (a ≤ x.f1.f0) && decide (x.f1.f0 < b)
set_option maxHeartbeats 2000000 in
set_option maxRecDepth 100000 in
theorem clos87_calls (x : S67) (b1 b2 : Addr) (a b : Int) (w : World) (h1 : w.cell? b1 = some (.int .i64 a)) (h2 : w.cell? b2 = some (.int .i64 b)) : Calls Try.prog 87 #[.agg #[.int .i64 x.f0, .int .i64 x.f1.f0, .int .i64 x.f1.f1, .int .i64 x.f1.f2, .int .i64 x.f1.f3], .pointer (some b1), .pointer (some b2)] w fun e w' => e = .returned (.bool (betB a b x)) ∧ Below w.heap.size w w' := by
 have hu := Try.underlying67
 have hu2 := Try.underlying65
 have g1 := pw_cell_below (below_alloc (Below.refl _ _) (.cells #[.int .i64 x.f0, .int .i64 x.f1.f0, .int .i64 x.f1.f1, .int .i64 x.f1.f2, .int .i64 x.f1.f3] 67)) h1
 have g2 := pw_cell_below (below_alloc (Below.refl _ _) (.cells #[.int .i64 x.f0, .int .i64 x.f1.f0, .int .i64 x.f1.f1, .int .i64 x.f1.f2, .int .i64 x.f1.f3] 67)) h2
 clear h1 h2
 by_cases h0 : a ≤ x.f1.f0
 ·have e : betB a b x = decide (x.f1.f0 < b) := by unfold betB; rw [decide_eq_true h0]; rfl
  rw [e]; clear e
  have d0 : decide (a ≤ x.f1.f0) = true := decide_eq_true h0
  have d1 : decide (x.f1.f0 ≥ a) = true := d0
  clear h0
  go_enter Try.func87, Try.ntmps87
  go_wp2
  go_ret
  exact ⟨rfl, below_alloc (Below.refl _ _) _⟩
 ·have e : betB a b x = false := by unfold betB; rw [decide_eq_false h0]; rfl
  rw [e]; clear e
  have d0 : decide (a ≤ x.f1.f0) = false := decide_eq_false h0
  have d1 : decide (x.f1.f0 ≥ a) = false := d0
  clear h0
  go_enter Try.func87, Try.ntmps87
  go_wp2
  go_ret
  exact ⟨rfl, below_alloc (Below.refl _ _) _⟩
set_option maxHeartbeats 2000000 in
set_option maxRecDepth 100000 in
theorem clos116_85_calls (x : S67) (bx : Addr)  (b : Bool) (w : World) (hb : w.cell? bx = some (.func (.func 85) #[] #[])) (h : ∀ wr, Below w.heap.size w wr → Calls Try.prog 85 #[.agg #[.int .i64 x.f0, .int .i64 x.f1.f0, .int .i64 x.f1.f1, .int .i64 x.f1.f2, .int .i64 x.f1.f3]] wr fun e w' => e = .returned (.bool b) ∧ Below wr.heap.size wr w') :
  Calls Try.prog 116 #[.agg #[.int .i64 x.f0, .int .i64 x.f1.f0, .int .i64 x.f1.f1, .int .i64 x.f1.f2, .int .i64 x.f1.f3], .pointer (some bx)] w fun e w' => e = .returned (.bool (!b)) ∧ Below w.heap.size w w' := by
 have hu := Try.underlying67
 have hb2 := pw_cell_below (below_alloc (Below.refl _ _) (.cells #[.int .i64 x.f0, .int .i64 x.f1.f0, .int .i64 x.f1.f1, .int .i64 x.f1.f2, .int .i64 x.f1.f3] 67)) hb
 have H := asd (h _ (below_alloc (Below.refl _ _) (.cells #[.int .i64 x.f0, .int .i64 x.f1.f0, .int .i64 x.f1.f1, .int .i64 x.f1.f2, .int .i64 x.f1.f3] 67)))
 have HB0 := asd (below_alloc (Below.refl w.heap.size w) (.cells #[.int .i64 x.f0, .int .i64 x.f1.f0, .int .i64 x.f1.f1, .int .i64 x.f1.f2, .int .i64 x.f1.f3] 67))
 clear h hb
 cases b with
 | true =>
  go_enter Try.func116, Try.ntmps116
  go_wp2_with (first | (go_at_call 85; refine H.out.mono ?_; rintro e w1 ⟨rfl, hb⟩; have HB := asd (below_step HB0.out hb); clear hb))
  go_ret
  exact ⟨rfl, HB.out⟩
 | false =>
  go_enter Try.func116, Try.ntmps116
  go_wp2_with (first | (go_at_call 85; refine H.out.mono ?_; rintro e w1 ⟨rfl, hb⟩; have HB := asd (below_step HB0.out hb); clear hb))
  go_ret
  exact ⟨rfl, HB.out⟩
set_option maxHeartbeats 2000000 in
set_option maxRecDepth 100000 in
theorem clos116_87_calls (x : S67) (bx : Addr) (b1 b2 : Addr) (b : Bool) (w : World) (hb : w.cell? bx = some (.func (.func 87) #[] #[.pointer (some b1), .pointer (some b2)])) (h : ∀ wr, Below w.heap.size w wr → Calls Try.prog 87 #[.agg #[.int .i64 x.f0, .int .i64 x.f1.f0, .int .i64 x.f1.f1, .int .i64 x.f1.f2, .int .i64 x.f1.f3], .pointer (some b1), .pointer (some b2)] wr fun e w' => e = .returned (.bool b) ∧ Below wr.heap.size wr w') :
  Calls Try.prog 116 #[.agg #[.int .i64 x.f0, .int .i64 x.f1.f0, .int .i64 x.f1.f1, .int .i64 x.f1.f2, .int .i64 x.f1.f3], .pointer (some bx)] w fun e w' => e = .returned (.bool (!b)) ∧ Below w.heap.size w w' := by
 have hu := Try.underlying67
 have hb2 := pw_cell_below (below_alloc (Below.refl _ _) (.cells #[.int .i64 x.f0, .int .i64 x.f1.f0, .int .i64 x.f1.f1, .int .i64 x.f1.f2, .int .i64 x.f1.f3] 67)) hb
 have H := asd (h _ (below_alloc (Below.refl _ _) (.cells #[.int .i64 x.f0, .int .i64 x.f1.f0, .int .i64 x.f1.f1, .int .i64 x.f1.f2, .int .i64 x.f1.f3] 67)))
 have HB0 := asd (below_alloc (Below.refl w.heap.size w) (.cells #[.int .i64 x.f0, .int .i64 x.f1.f0, .int .i64 x.f1.f1, .int .i64 x.f1.f2, .int .i64 x.f1.f3] 67))
 clear h hb
 cases b with
 | true =>
  go_enter Try.func116, Try.ntmps116
  go_wp2_with (first | (go_at_call 87; refine H.out.mono ?_; rintro e w1 ⟨rfl, hb⟩; have HB := asd (below_step HB0.out hb); clear hb))
  go_ret
  exact ⟨rfl, HB.out⟩
 | false =>
  go_enter Try.func116, Try.ntmps116
  go_wp2_with (first | (go_at_call 87; refine H.out.mono ?_; rintro e w1 ⟨rfl, hb⟩; have HB := asd (below_step HB0.out hb); clear hb))
  go_ret
  exact ⟨rfl, HB.out⟩
set_option maxHeartbeats 4000000 in
set_option maxRecDepth 100000 in
theorem keep85_calls (A : Option Addr) (c : Nat) (xs : List S67)  (p : S67 → Bool) (w : World) (hr : k67.C w A xs.length xs) (hl : xs.length ≤ 100000) (h : ∀ wr x, Below w.heap.size w wr → Calls Try.prog 85 #[.agg #[.int .i64 x.f0, .int .i64 x.f1.f0, .int .i64 x.f1.f1, .int .i64 x.f1.f2, .int .i64 x.f1.f3]] wr fun e w' => e = .returned (.bool (p x)) ∧ Below wr.heap.size wr w') :
  Calls Try.prog 84 #[.slice A xs.length c, .func (.func 85) #[] #[]] w fun e w' => ∃ v, e = .returned v ∧ k67.R 67 w' w.heap.size (fun _ => True) v (xs.filter p) ∧ Below w.heap.size w w' := by
 have FV : Aside0 (xs.filter (fun x => !(!p x)) = xs.filter p) := ⟨by congr 1; funext x; simp⟩
 have HP := asd h
 have HL := asd hl
 have BX := asd (heap_alloc_new w (.cells #[.func (.func 85) #[] #[]] 70))
 have CL := asd (clone115_calls A c xs (w.alloc (.cells #[.func (.func 85) #[] #[]] 70)) (Kd.C_below hr (below_alloc (Below.refl _ _) _)) (by omega))
 have HB0 := asd (below_alloc (Below.refl w.heap.size w) (.cells #[.func (.func 85) #[] #[]] 70))
 have SZ := asd (alloc_size w (.cells #[.func (.func 85) #[] #[]] 70))
 clear hr hl h
 go_enter Try.func84, Try.ntmps84
 go_wp2_with fail
 refine CL.out.mono ?_
 rintro e w1 ⟨v, rfl, hv, hb⟩
 have HB1 := asd (below_step HB0.out hb)
 have BX1 := asd (blk_below BX.out hb)
 rw [SZ.out] at hv
 obtain ⟨A1, c1, rfl⟩ := Kd.R_slice hv
 have HR1 := asd hv
 clear hv hb CL
 have NB : Aside0 (∀ k, (Value.slice A1 xs.length c1).ownBlock = some k → k ≠ w.heap.size) := ⟨fun k hk => by have := Kd.R_base HR1.out k hk; omega⟩
 cases A1 with
 | none =>
  have e0 : xs = [] := by
   rcases Nat.eq_zero_or_pos xs.length with h0 | h0
   ·exact List.eq_nil_of_length_eq_zero h0
   ·obtain ⟨g2, cap, hv2, _⟩ := Kd.R_form HR1.out h0
    cases hv2
  subst e0
  have e1 : c1 = 0 := by
   have h2 := HR1.out.2
   obtain ⟨_, ⟨_, ho⟩, _⟩ := h2
   rcases ho with ⟨h3, _⟩ | ⟨g2, c2, cc, h3, _⟩
   ·injection h3
   ·cases h3
  subst e1
  have DN := asd (del116_nil ⟨w.heap.size, 0, none⟩ (fun x => !p x) w1 (fun wr x hb => clos116_85_calls x ⟨w.heap.size, 0, none⟩  (p x) wr ((blk_cell (blk_below BX1.out hb) 0).trans rfl) (fun wr2 hb2 => HP.out wr2 x (below_step (below_step HB1.out hb) hb2))))
  go_wp2_with fail
  refine DN.out.mono ?_
  rintro e w2 ⟨rfl, hb⟩
  have HB2 := asd (below_step HB1.out hb)
  clear hb DN
  go_wp2
  go_ret
  exact ⟨_, rfl, Kd.R_nil _ _ _ _ _, HB2.out⟩
 | some ad =>
  obtain ⟨g, rfl⟩ : ∃ g, ad = ⟨g, 0, none⟩ := by
   obtain ⟨_, ⟨_, ho⟩, _⟩ := HR1.out.2
   rcases ho with ⟨h3, _⟩ | ⟨g2, c2, cc, h3, _⟩
   ·cases h3
   ·injection h3 with h4; injection h4 with h4; exact ⟨g2, h4⟩
  have GN : Aside0 (w.heap.size ≠ g ∧ w.heap.size ≤ g) := ⟨⟨fun e => NB.out g (by simp [Value.ownBlock]) e.symm, by have := Kd.R_base HR1.out g (by simp [Value.ownBlock]); omega⟩⟩
  have DN := asd (del116_calls g c1 xs ⟨w.heap.size, 0, none⟩ (fun x => !p x) _ _ w1 HR1.out HL.out (fun wr x hc => clos116_85_calls x ⟨w.heap.size, 0, none⟩  (p x) wr ((blk_cell (blk_chg BX1.out hc GN.out.1) 0).trans rfl) (fun wr2 hb2 => HP.out wr2 x (below_step (((Chg.of_belowB HB1.out).then_ hc (fun k hk => .inl (by rw [hk]; exact GN.out.2))).to_below (fun _ h => h) (Nat.le_refl _)) hb2))))
  go_wp2_with fail
  refine DN.out.mono ?_
  rintro e w2 ⟨rfl, hr2, hc2⟩
  have HR2 := asd hr2
  have HB2 : Aside0 (Below w.heap.size w w2) := ⟨((Chg.of_belowB HB1.out).then_ hc2 (fun k hk => .inl (by rw [hk]; exact GN.out.2))).to_below (fun _ h => h) (Nat.le_refl _)⟩
  clear hr2 hc2 DN
  go_wp2
  go_ret
  have h2 := HR2.out
  rw [FV.out] at h2
  exact ⟨.slice (some ⟨g, 0, none⟩) (xs.filter p).length c1, by first | rfl | simp, Kd.R_lower h2 (by omega), HB2.out⟩
set_option maxHeartbeats 4000000 in
set_option maxRecDepth 100000 in
theorem keep87_calls (A : Option Addr) (c : Nat) (xs : List S67) (b1 b2 : Addr) (p : S67 → Bool) (w : World) (hr : k67.C w A xs.length xs) (hl : xs.length ≤ 100000) (h : ∀ wr x, Below w.heap.size w wr → Calls Try.prog 87 #[.agg #[.int .i64 x.f0, .int .i64 x.f1.f0, .int .i64 x.f1.f1, .int .i64 x.f1.f2, .int .i64 x.f1.f3], .pointer (some b1), .pointer (some b2)] wr fun e w' => e = .returned (.bool (p x)) ∧ Below wr.heap.size wr w') :
  Calls Try.prog 84 #[.slice A xs.length c, .func (.func 87) #[] #[.pointer (some b1), .pointer (some b2)]] w fun e w' => ∃ v, e = .returned v ∧ k67.R 67 w' w.heap.size (fun _ => True) v (xs.filter p) ∧ Below w.heap.size w w' := by
 have FV : Aside0 (xs.filter (fun x => !(!p x)) = xs.filter p) := ⟨by congr 1; funext x; simp⟩
 have HP := asd h
 have HL := asd hl
 have BX := asd (heap_alloc_new w (.cells #[.func (.func 87) #[] #[.pointer (some b1), .pointer (some b2)]] 70))
 have CL := asd (clone115_calls A c xs (w.alloc (.cells #[.func (.func 87) #[] #[.pointer (some b1), .pointer (some b2)]] 70)) (Kd.C_below hr (below_alloc (Below.refl _ _) _)) (by omega))
 have HB0 := asd (below_alloc (Below.refl w.heap.size w) (.cells #[.func (.func 87) #[] #[.pointer (some b1), .pointer (some b2)]] 70))
 have SZ := asd (alloc_size w (.cells #[.func (.func 87) #[] #[.pointer (some b1), .pointer (some b2)]] 70))
 clear hr hl h
 go_enter Try.func84, Try.ntmps84
 go_wp2_with fail
 refine CL.out.mono ?_
 rintro e w1 ⟨v, rfl, hv, hb⟩
 have HB1 := asd (below_step HB0.out hb)
 have BX1 := asd (blk_below BX.out hb)
 rw [SZ.out] at hv
 obtain ⟨A1, c1, rfl⟩ := Kd.R_slice hv
 have HR1 := asd hv
 clear hv hb CL
 have NB : Aside0 (∀ k, (Value.slice A1 xs.length c1).ownBlock = some k → k ≠ w.heap.size) := ⟨fun k hk => by have := Kd.R_base HR1.out k hk; omega⟩
 cases A1 with
 | none =>
  have e0 : xs = [] := by
   rcases Nat.eq_zero_or_pos xs.length with h0 | h0
   ·exact List.eq_nil_of_length_eq_zero h0
   ·obtain ⟨g2, cap, hv2, _⟩ := Kd.R_form HR1.out h0
    cases hv2
  subst e0
  have e1 : c1 = 0 := by
   have h2 := HR1.out.2
   obtain ⟨_, ⟨_, ho⟩, _⟩ := h2
   rcases ho with ⟨h3, _⟩ | ⟨g2, c2, cc, h3, _⟩
   ·injection h3
   ·cases h3
  subst e1
  have DN := asd (del116_nil ⟨w.heap.size, 0, none⟩ (fun x => !p x) w1 (fun wr x hb => clos116_87_calls x ⟨w.heap.size, 0, none⟩ b1 b2 (p x) wr ((blk_cell (blk_below BX1.out hb) 0).trans rfl) (fun wr2 hb2 => HP.out wr2 x (below_step (below_step HB1.out hb) hb2))))
  go_wp2_with fail
  refine DN.out.mono ?_
  rintro e w2 ⟨rfl, hb⟩
  have HB2 := asd (below_step HB1.out hb)
  clear hb DN
  go_wp2
  go_ret
  exact ⟨_, rfl, Kd.R_nil _ _ _ _ _, HB2.out⟩
 | some ad =>
  obtain ⟨g, rfl⟩ : ∃ g, ad = ⟨g, 0, none⟩ := by
   obtain ⟨_, ⟨_, ho⟩, _⟩ := HR1.out.2
   rcases ho with ⟨h3, _⟩ | ⟨g2, c2, cc, h3, _⟩
   ·cases h3
   ·injection h3 with h4; injection h4 with h4; exact ⟨g2, h4⟩
  have GN : Aside0 (w.heap.size ≠ g ∧ w.heap.size ≤ g) := ⟨⟨fun e => NB.out g (by simp [Value.ownBlock]) e.symm, by have := Kd.R_base HR1.out g (by simp [Value.ownBlock]); omega⟩⟩
  have DN := asd (del116_calls g c1 xs ⟨w.heap.size, 0, none⟩ (fun x => !p x) _ _ w1 HR1.out HL.out (fun wr x hc => clos116_87_calls x ⟨w.heap.size, 0, none⟩ b1 b2 (p x) wr ((blk_cell (blk_chg BX1.out hc GN.out.1) 0).trans rfl) (fun wr2 hb2 => HP.out wr2 x (below_step (((Chg.of_belowB HB1.out).then_ hc (fun k hk => .inl (by rw [hk]; exact GN.out.2))).to_below (fun _ h => h) (Nat.le_refl _)) hb2))))
  go_wp2_with fail
  refine DN.out.mono ?_
  rintro e w2 ⟨rfl, hr2, hc2⟩
  have HR2 := asd hr2
  have HB2 : Aside0 (Below w.heap.size w w2) := ⟨((Chg.of_belowB HB1.out).then_ hc2 (fun k hk => .inl (by rw [hk]; exact GN.out.2))).to_below (fun _ h => h) (Nat.le_refl _)⟩
  clear hr2 hc2 DN
  go_wp2
  go_ret
  have h2 := HR2.out
  rw [FV.out] at h2
  exact ⟨.slice (some ⟨g, 0, none⟩) (xs.filter p).length c1, by first | rfl | simp, Kd.R_lower h2 (by omega), HB2.out⟩
set_option maxHeartbeats 4000000 in
set_option maxRecDepth 100000 in
theorem between_calls (A : Option Addr) (c : Nat) (xs : List S67) (a b : Int) (w : World) (hr : k67.C w A xs.length xs) (hl : xs.length ≤ 100000) :
  Calls Try.prog 50 #[.slice A xs.length c, .int .i64 a, .int .i64 b] w fun e w' => ∃ v, e = .returned v ∧ k67.R 67 w' w.heap.size (fun _ => True) v (xs.filter (betB a b)) ∧ Below w.heap.size w w' := by
 have B1 := heap_alloc_new w (.cells #[.int .i64 a] 3)
 have B2 := heap_alloc_new (w.alloc (.cells #[.int .i64 a] 3)) (.cells #[.int .i64 b] 3)
 have S1 := alloc_size w (.cells #[.int .i64 a] 3)
 rw [S1] at B2
 have X1 := asd (blk_alloc B1 (.cells #[.int .i64 b] 3))
 have X2 := asd B2
 have HB0 := asd (below_alloc (below_alloc (Below.refl w.heap.size w) (.cells #[.int .i64 a] 3)) (.cells #[.int .i64 b] 3))
 have HR0 := asd (Kd.C_below hr HB0.out)
 have KP := asd (keep87_calls A c xs ⟨w.heap.size, 0, none⟩ ⟨w.heap.size + 1, 0, none⟩ (betB a b) _ HR0.out hl (fun wr x hb => clos87_calls x _ _ a b wr ((blk_cell (blk_below X1.out hb) 0).trans rfl) ((blk_cell (blk_below X2.out hb) 0).trans rfl)))
 clear hr hl B1 B2 S1
 go_enter Try.func50, Try.ntmps50
 go_wp2_with fail
 refine KP.out.mono ?_
 rintro e w1 ⟨v, rfl, hv, hb⟩
 have HR1 := asd (Kd.R_lower hv (below_size HB0.out))
 have HB1 := asd (below_step HB0.out hb)
 clear hv hb KP
 go_wp2
 go_ret
 exact ⟨_, rfl, HR1.out, HB1.out⟩
end Go.Proofs.Ytalimpniimgheaa.Fn
namespace Go.Proofs.Ytalimpniimgheaa.Fn
open Go.RowKit Go.Proofs.YtalimpniimgheaaW.PrintWords Go.Proofs.YtalimpniimgheaaW.PrintLast Go.Proofs.YtalimpniimgheaaW.PrintMore
attribute [local go_sem] max2_mx min2_mn max_two min_two max_three min_three max_four min_four
set_option linter.unusedVariables false
set_option linter.unusedSimpArgs false
def merge_Split.l0 : Nat → Int → List (List (S65)) → List (S67) → Int → Int → Option ((List (List (S65))))
 | 0, _, _, _, _, _ => none
 | k + 1, x1, x5, x15, x16, x17 => if x17 < x16 then (if 0 ≤ x17 then (if x17 < (x15.length : Int) then (if ((rd_T67 x15 x17).f0) ≥ 0 then (if ((rd_T67 x15 x17).f0) < x1 then (if 0 ≤ ((rd_T67 x15 x17).f0) then (if ((rd_T67 x15 x17).f0) < (x5.length : Int) then (if (rd_L10 x5 ((rd_T67 x15 x17).f0)).length < 4398046511104 then (merge_Split.l0 k x1 (x5.set (((rd_T67 x15 x17).f0) : Int).toNat ((rd_L10 x5 ((rd_T67 x15 x17).f0)) ++ [(⟨(rd_T67 x15 x17).f1.f0, (rd_T67 x15 x17).f1.f1, (rd_T67 x15 x17).f1.f2, (rd_T67 x15 x17).f1.f3⟩ : S65)])) x15 x16 (wrap64 (x17 + 1))) else (none)) else (none)) else (none)) else (merge_Split.l0 k x1 x5 x15 x16 (wrap64 (x17 + 1)))) else (merge_Split.l0 k x1 x5 x15 x16 (wrap64 (x17 + 1)))) else (none)) else (none)) else (some x5)
def merge_Split.f (k : Nat) (l0 : List (S67)) (a1 : Int) : Option ((List (List (S65)))) := if (mn (mx a1 0) 64) = 0 then (some ([] : List (List (S65)))) else (if 0 ≤ (mn (mx a1 0) 64) then (if (mn (mx a1 0) 64 : Int).toNat ≤ 11728124029610 then (merge_Split.l0 k (mn (mx a1 0) 64) (List.replicate (mn (mx a1 0) 64 : Int).toNat []) l0 (l0.length : Int) 0) else (none)) else (none))
def merge_Split.T9 : Bool × List (List Nat × List Nat) := (true, [([], []), ([], []), ([1], [1]), ([], []), ([], []), ([4], [4]), ([3, 5], [3, 5]), ([6], [6]), ([], []), ([8], [8]), ([9], [9]), ([7, 10], [7, 10]), ([0, 2, 0, 1, 2, 3, 4, 5, 6, 7, 8, 9, 10, 11], [0, 2]), ([12, 11, 11, 0, 1, 2, 3, 4, 5, 6, 7, 8, 9, 10, 11], [11, 12])])
def merge_Split.B9 : List Nat := [0, 0, 2, 0, 0, 16, 56, 120, 0, 256, 768, 2040, 4095, 8191]
theorem merge_Split.tab9 : rtab .any (opsOf Try.f43 9) = merge_Split.T9 := by kernel_rfl
theorem merge_Split.bits9 : waitsOk merge_Split.T9.2 merge_Split.B9 = true := by kernel_rfl
set_option maxHeartbeats 8000000 in
set_option maxRecDepth 100000 in
theorem merge_Split.calls (k : Nat) (A0 : Option Addr) (c0 : Nat) (l0 : List (S67)) (a1 : Int) (r : List (List (S65))) (w : World) (hr0 : Kd.C k67 w A0 l0.length l0) (hc0 : l0.length ≤ c0) (h : merge_Split.f k l0 a1 = some r) :
  Calls Try.prog 43 #[.slice A0 l0.length c0, .int .i64 a1] w fun e w' => ∃ v0_ : Value, e = .returned (v0_) ∧ Kd.S (Kd.slice 65 k65) 31 w' w.heap.size (fun _ => True) v0_ r ∧ Below w.heap.size w w' := by
 have hu67 := Try.underlying67
 have hu65 := Try.underlying65
 have HR0 := asd hr0
 have HC0 := asd hc0
 clear hr0 hc0
 have HB := asd (Below.refl w.heap.size w)
 have H : (if (mn (mx a1 0) 64) = 0 then (some ([] : List (List (S65)))) else (if 0 ≤ (mn (mx a1 0) 64) then (if (mn (mx a1 0) 64 : Int).toNat ≤ 11728124029610 then (merge_Split.l0 k (mn (mx a1 0) 64) (List.replicate (mn (mx a1 0) 64 : Int).toNat []) l0 (l0.length : Int) 0) else (none)) else (none))) = some r := h
 clear h
 obtain ⟨ji3, hji3⟩ : ∃ j_ : Int, (mx a1 0) = j_ := ⟨_, rfl⟩
 replace H : (if (mn (ji3) 64) = 0 then (some ([] : List (List (S65)))) else (if 0 ≤ (mn (ji3) 64) then (if (mn (ji3) 64 : Int).toNat ≤ 11728124029610 then (merge_Split.l0 k (mn (ji3) 64) (List.replicate (mn (ji3) 64 : Int).toNat []) l0 (l0.length : Int) 0) else (none)) else (none))) = some r := by first | (rw [hji3] at H; exact H) | (simp only [hji3] at H ⊢; exact H)
 (try (have hji3l : 0 ≤ ji3 := by (rw [← hji3]; unfold mx; (repeat' split) <;> omega)))
 (try (have hji3m : 0 ≤ ji3 := by omega))
 obtain ⟨ji4, hji4⟩ : ∃ j_ : Int, (mn (ji3) 64) = j_ := ⟨_, rfl⟩
 replace H : (if (ji4) = 0 then (some ([] : List (List (S65)))) else (if 0 ≤ (ji4) then (if (ji4 : Int).toNat ≤ 11728124029610 then (merge_Split.l0 k ji4 (List.replicate (ji4 : Int).toNat []) l0 (l0.length : Int) 0) else (none)) else (none))) = some r := by first | (rw [hji4] at H; exact H) | (simp only [hji4] at H ⊢; exact H)
 by_cases c5 : (ji4) = 0
 ·rw [if_pos c5] at H
  have c5b0 : ((ji4) == 0) = true := beq_iff_eq.mpr c5
  have c5b1 : ((ji4) != 0) = false := bne_eq_false_iff_eq.mpr c5
  clear c5
  obtain rfl := Option.some.inj H
  go_enter Try.func43, Try.ntmps43
  go_wp2
  go_ret
  exact ⟨_, by first | rfl | (simp [errW_none, errW_some] <;> rfl) | (simp only [← hji3, ← hji4]; first | rfl | (simp [errW_none, errW_some] <;> rfl)) | (simp [*, errW_none, errW_some] <;> rfl), by first | exact Kd.S_nil _ _ _ _ _ | exact Kd.N_nil _ _ _ _ _ | exact Kd.V_nil _ _ _ _ _ | exact Kd.Q_nil _ _ _ _ _ | exact Kd.R_nil _ _ _ _ _, by repeat (first | (with_reducible first | exact HB.out | apply wa | apply wn | apply wd) | exact HB.out)⟩
 ·rw [if_neg c5] at H
  have c5b0 : ((ji4) == 0) = false := beq_eq_false_iff_ne.mpr c5
  have c5b1 : ((ji4) != 0) = true := bne_iff_ne.mpr c5
  by_cases c6 : 0 ≤ (ji4)
  ·rw [if_pos c6] at H
   have c6b0 := eq_true c6
   have c6b1 : decide (0 ≤ (ji4)) = true := decide_eq_true c6
   clear c6
   by_cases c7 : (ji4 : Int).toNat ≤ 11728124029610
   ·rw [if_pos c7] at H
    have c7b0 := eq_true c7
    have c7b1 : decide ((ji4 : Int).toNat ≤ 11728124029610) = true := decide_eq_true c7
    clear c7
    obtain ⟨y292, hy292⟩ : ∃ y_ : List (List (S65)), y_ = (List.replicate (ji4 : Int).toNat []) := ⟨_, rfl⟩
    replace H : (merge_Split.l0 k ji4 y292 l0 (l0.length : Int) 0) = some r := by first | (rw [hy292]; with_reducible exact H) | (have H2_ := (Option.bind_some _ _).symm.trans H; rw [hy292]; with_reducible exact H2_) | (have H2_ := (Option.bind_some _ _).symm.trans H; with_reducible exact H2_) | with_reducible exact H | (rw [hy292]; exact H) | exact H
    have Ny292 := asd hy292
    clear hy292
    have H' := asd H
    clear H
    go_enter Try.func43, Try.ntmps43
    go_wp2_with (first | ((with_reducible refine gate_dst (N := 14) rfl ?_); refine Kd.S_make (Kd.slice 65 k65) _ 31 rfl (N := 14) rfl 58 _ _ rfl ji4 rfl rfl Try.underlying58 (.slice none 0 0) 24 info31 rfl (by decide) (by omega) [] (ok := fun _ => True) (okp := fun _ => True) ⟨_, rfl, Kd.R_nil _ _ _ _ _⟩ (fun _ hk => hk) trivial (of_decide_eq_true (by assumption)) (Nat.le_trans (Nat.mul_le_mul_right _ (of_decide_eq_true (by assumption) : ji4.toNat ≤ 11728124029610)) (by omega)) (Below.refl _ _) (Nat.le_refl _) ?_; intro v293 w8 ho9 hb hg_ hnew_; clear hg_ hnew_; (first | rw [← Ny292.out] at ho9 | (simp only [Int.reduceToNat] at ho9; rw [← Ny292.out] at ho9)); have n0_ := asd (Kd.S_lower ho9 (below_size (by repeat (first | (with_reducible first | exact HB.out | apply wa | apply wn | apply wd) | exact HB.out)))); have n1_ := asd (below_step (by repeat (first | (with_reducible first | exact HB.out | apply wa | apply wn | apply wd) | exact HB.out)) hb); clear HB; have HO294 := n0_; have HB := n1_; clear n0_ n1_; clear hb ho9))
    go_loopg [17] k (fun kq v17 w' => ∃ (x5_1 : List (List (S65))) (x17_1 : Int), v17 = .int .i64 x17_1 ∧ Aside0 (merge_Split.l0 kq ji4 x5_1 l0 (l0.length : Int) x17_1 = some r) ∧ Aside0 (kq ≤ k) ∧ Aside0 (Kd.S (Kd.slice 65 k65) 31 w' w.heap.size (fun _ => True) v293 x5_1) ∧ Aside0 (Below w.heap.size w w'))
    case atStart => exact ⟨(y292), (0), (by first | rfl | (simp; done) | (simp [*]; done)), H', ⟨Nat.le_refl _⟩, ⟨by (with_reducible repeat (first | apply Kd.S_alloc | apply Kd.S_drewN | apply Kd.S_drew)); exact HO294.out⟩, ⟨by repeat (first | (with_reducible first | exact HB.out | apply wa | apply wn | apply wd) | exact HB.out)⟩⟩
    case round =>
     clear H'
     try clear p2
     try clear c4
     try clear c5
     try clear c5b0
     try clear c5b1
     try clear c6
     try clear c6b0
     try clear c6b1
     try clear c7
     try clear c7b0
     try clear c7b1
     obtain ⟨x5_1, x17_1, rfl, HA, HK1, HO_5, HB⟩ := hrel
     cases gk with
     | zero => exact absurd HA.out (by simp [merge_Split.l0])
     | succ k1 =>
      have H := HA.out
      clear HA
      simp only [merge_Split.l0] at H
      by_cases c10 : x17_1 < (l0.length : Int)
      ·rw [if_pos c10] at H
       have c10b0 : decide (x17_1 < (l0.length : Int)) = true := decide_eq_true c10
       clear c10
       by_cases c11 : 0 ≤ x17_1
       ·rw [if_pos c11] at H
        have c11b0 : decide (0 ≤ x17_1) = true := decide_eq_true c11
        clear c11
        by_cases c12 : x17_1 < (l0.length : Int)
        ·rw [if_pos c12] at H
         have c12b0 : decide (x17_1 < (l0.length : Int)) = true := decide_eq_true c12
         clear c12
         by_cases c13 : ((rd_T67 l0 x17_1).f0) ≥ 0
         ·rw [if_pos c13] at H
          have c13b0 : decide (0 ≤ ((rd_T67 l0 x17_1).f0)) = true := decide_eq_true c13
          clear c13
          by_cases c14 : ((rd_T67 l0 x17_1).f0) < ji4
          ·rw [if_pos c14] at H
           have c14b0 : decide (((rd_T67 l0 x17_1).f0) < ji4) = true := decide_eq_true c14
           clear c14
           by_cases c15 : 0 ≤ ((rd_T67 l0 x17_1).f0)
           ·rw [if_pos c15] at H
            have c15b0 : decide (0 ≤ ((rd_T67 l0 x17_1).f0)) = true := decide_eq_true c15
            clear c15
            by_cases c16 : ((rd_T67 l0 x17_1).f0) < (x5_1.length : Int)
            ·rw [if_pos c16] at H
             have c16b0 : decide (((rd_T67 l0 x17_1).f0) < (x5_1.length : Int)) = true := decide_eq_true c16
             clear c16
             by_cases c17 : (rd_L10 x5_1 ((rd_T67 l0 x17_1).f0)).length < 4398046511104
             ·rw [if_pos c17] at H
              have LMc17 := asd c17
              clear c17
              obtain ⟨y298, hy298⟩ : ∃ y_ : List (S65), y_ = ((rd_L10 x5_1 ((rd_T67 l0 x17_1).f0)) ++ [(⟨(rd_T67 l0 x17_1).f1.f0, (rd_T67 l0 x17_1).f1.f1, (rd_T67 l0 x17_1).f1.f2, (rd_T67 l0 x17_1).f1.f3⟩ : S65)]) := ⟨_, rfl⟩
              replace H : (merge_Split.l0 k1 ji4 (x5_1.set (((rd_T67 l0 x17_1).f0) : Int).toNat y298) l0 (l0.length : Int) (wrap64 (x17_1 + 1))) = some r := by first | (rw [hy298]; with_reducible exact H) | (have H2_ := (Option.bind_some _ _).symm.trans H; rw [hy298]; with_reducible exact H2_) | (have H2_ := (Option.bind_some _ _).symm.trans H; with_reducible exact H2_) | with_reducible exact H | (rw [hy298]; exact H) | exact H
              have Ny298 := asd hy298
              clear hy298
              obtain ⟨y301, hy301⟩ : ∃ y_ : List (List (S65)), y_ = (x5_1.set (((rd_T67 l0 x17_1).f0) : Int).toNat y298) := ⟨_, rfl⟩
              replace H : (merge_Split.l0 k1 ji4 y301 l0 (l0.length : Int) (wrap64 (x17_1 + 1))) = some r := by first | (rw [hy301]; with_reducible exact H) | (have H2_ := (Option.bind_some _ _).symm.trans H; rw [hy301]; with_reducible exact H2_) | (have H2_ := (Option.bind_some _ _).symm.trans H; with_reducible exact H2_) | with_reducible exact H | (rw [hy301]; exact H) | exact H
              have Ny301 := asd hy301
              clear hy301
              have H' := asd H
              clear H
              have p295 : 0 ≤ (x17_1 : Int) := of_decide_eq_true (by assumption)
              have q295 : x17_1 < (l0.length : Int) := of_decide_eq_true (by assumption)
              obtain ⟨ad295, e295, hx295_0, hx295_1, hx295_2, hx295_3, hx295_4⟩ := at_T67 HR0.out x17_1 p295 q295
              cases e295
              replace hx295_0 := (HB.out.cell (World.block_lt_of_cell? w _ hx295_0)).trans hx295_0
              replace hx295_1 := (HB.out.cell (World.block_lt_of_cell? w _ hx295_1)).trans hx295_1
              replace hx295_2 := (HB.out.cell (World.block_lt_of_cell? w _ hx295_2)).trans hx295_2
              replace hx295_3 := (HB.out.cell (World.block_lt_of_cell? w _ hx295_3)).trans hx295_3
              replace hx295_4 := (HB.out.cell (World.block_lt_of_cell? w _ hx295_4)).trans hx295_4
              replace p295 := eq_true p295
              replace q295 := eq_true q295
              try go_wp2_with (first | ((with_reducible refine gate_dst (N := 7) rfl ?_); refine box_event ?hg (N := 7) ?hd (cs := #[.int .i64 0, .int .i64 0, .int .i64 0, .int .i64 0, .int .i64 0]) (t := 67) ?hr ?_; (case hd => rfl); (case hg => rfl); (case hr => first | (go_simp; done) | (go_simp; rfl)); intro gb296 hg w19 hbox hb; have n0_ := asd (Kd.S_below (by (with_reducible repeat (first | apply Kd.S_alloc | apply Kd.S_drewN | apply Kd.S_drew)); exact HO_5.out) hb); have n1_ := asd (below_step (by repeat (first | (with_reducible first | exact HB.out | apply wa | apply wn | apply wd) | exact HB.out)) hb); have n2_ := asd (hbox); have n3_ := asd ((by rw [hg]; exact (below_size (by repeat (first | (with_reducible first | exact HB.out | apply wa | apply wn | apply wd) | exact HB.out))) : w.heap.size ≤ gb296)); have n4_ := asd ((by rw [hg]; exact (below_size (by repeat (first | (with_reducible first | exact HB.out | apply wa | apply wn | apply wd) | exact HB.out))) : w.heap.size ≤ gb296)); clear HO_5; clear HB; have HO_5 := n0_; have HB := n1_; have BK296 := n2_; have GW296 := n3_; have GE296 := n4_; clear n0_ n1_ n2_ n3_ n4_; clear hb hbox hg; have hcz20_0 : w19.cell? ⟨gb296, 0, none⟩ = some (.int .i64 0) := (blk_cell BK296.out 0).trans rfl; have hcz20_1 : w19.cell? ⟨gb296, 1, none⟩ = some (.int .i64 0) := (blk_cell BK296.out 1).trans rfl; have hcz20_2 : w19.cell? ⟨gb296, 2, none⟩ = some (.int .i64 0) := (blk_cell BK296.out 2).trans rfl; have hcz20_3 : w19.cell? ⟨gb296, 3, none⟩ = some (.int .i64 0) := (blk_cell BK296.out 3).trans rfl; have hcz20_4 : w19.cell? ⟨gb296, 4, none⟩ = some (.int .i64 0) := (blk_cell BK296.out 4).trans rfl; have hfz20_0 := blk_frozen BK296.out 0; have hfz20_1 := blk_frozen BK296.out 1; have hfz20_2 := blk_frozen BK296.out 2; have hfz20_3 := blk_frozen BK296.out 3; have hfz20_4 := blk_frozen BK296.out 4))
              have n0_ : Aside0 (Kd.S (Kd.slice 65 k65) 31 (((((w19.setCell ⟨gb296, 0, none⟩ (.int .i64 ((rd_T67 l0 x17_1).f0))).setCell ⟨gb296, 1, none⟩ (.int .i64 ((rd_T67 l0 x17_1).f1.f0))).setCell ⟨gb296, 2, none⟩ (.int .i64 ((rd_T67 l0 x17_1).f1.f1))).setCell ⟨gb296, 3, none⟩ (.int .i64 ((rd_T67 l0 x17_1).f1.f2))).setCell ⟨gb296, 4, none⟩ (.int .i64 ((rd_T67 l0 x17_1).f1.f3))) w.heap.size (fun _ => True) v293 x5_1) := ⟨by (with_reducible repeat (first | apply Kd.S_alloc | apply Kd.S_drewN | apply Kd.S_drew)); exact Kd.S_mono (Kd.S_far (p := ⟨gb296, 4, none⟩) (Kd.S_far (p := ⟨gb296, 3, none⟩) (Kd.S_far (p := ⟨gb296, 2, none⟩) (Kd.S_far (p := ⟨gb296, 1, none⟩) (Kd.S_far (p := ⟨gb296, 0, none⟩) (Kd.S_types HO_5.out BK296.out (by decide)) (fun _ hk => hk.2) (.int .i64 ((rd_T67 l0 x17_1).f0))) (fun _ hk => hk.2) (.int .i64 ((rd_T67 l0 x17_1).f1.f0))) (fun _ hk => hk.2) (.int .i64 ((rd_T67 l0 x17_1).f1.f1))) (fun _ hk => hk.2) (.int .i64 ((rd_T67 l0 x17_1).f1.f2))) (fun _ hk => hk.2) (.int .i64 ((rd_T67 l0 x17_1).f1.f3))) (fun _ hk => trivial)⟩
              have n1_ : Aside0 ((((((w19.setCell ⟨gb296, 0, none⟩ (.int .i64 ((rd_T67 l0 x17_1).f0))).setCell ⟨gb296, 1, none⟩ (.int .i64 ((rd_T67 l0 x17_1).f1.f0))).setCell ⟨gb296, 2, none⟩ (.int .i64 ((rd_T67 l0 x17_1).f1.f1))).setCell ⟨gb296, 3, none⟩ (.int .i64 ((rd_T67 l0 x17_1).f1.f2))).setCell ⟨gb296, 4, none⟩ (.int .i64 ((rd_T67 l0 x17_1).f1.f3))).heap[gb296]? = some (.cells #[.int .i64 ((rd_T67 l0 x17_1).f0), .int .i64 ((rd_T67 l0 x17_1).f1.f0), .int .i64 ((rd_T67 l0 x17_1).f1.f1), .int .i64 ((rd_T67 l0 x17_1).f1.f2), .int .i64 ((rd_T67 l0 x17_1).f1.f3)] 67 (0, 0))) := ⟨by (with_reducible repeat first | apply bn | apply bd | apply ba); refine blk_put (cs := #[.int .i64 ((rd_T67 l0 x17_1).f0), .int .i64 ((rd_T67 l0 x17_1).f1.f0), .int .i64 ((rd_T67 l0 x17_1).f1.f1), .int .i64 ((rd_T67 l0 x17_1).f1.f2), .int .i64 0]) ?_ 4 _ rfl; (with_reducible repeat first | apply bn | apply bd | apply ba); refine blk_put (cs := #[.int .i64 ((rd_T67 l0 x17_1).f0), .int .i64 ((rd_T67 l0 x17_1).f1.f0), .int .i64 ((rd_T67 l0 x17_1).f1.f1), .int .i64 0, .int .i64 0]) ?_ 3 _ rfl; (with_reducible repeat first | apply bn | apply bd | apply ba); refine blk_put (cs := #[.int .i64 ((rd_T67 l0 x17_1).f0), .int .i64 ((rd_T67 l0 x17_1).f1.f0), .int .i64 0, .int .i64 0, .int .i64 0]) ?_ 2 _ rfl; (with_reducible repeat first | apply bn | apply bd | apply ba); refine blk_put (cs := #[.int .i64 ((rd_T67 l0 x17_1).f0), .int .i64 0, .int .i64 0, .int .i64 0, .int .i64 0]) ?_ 1 _ rfl; (with_reducible repeat first | apply bn | apply bd | apply ba); refine blk_put (cs := #[.int .i64 0, .int .i64 0, .int .i64 0, .int .i64 0, .int .i64 0]) ?_ 0 _ rfl; (with_reducible repeat first | apply bn | apply bd | apply ba); exact BK296.out⟩
              have n2_ : Aside0 (Below w.heap.size w (((((w19.setCell ⟨gb296, 0, none⟩ (.int .i64 ((rd_T67 l0 x17_1).f0))).setCell ⟨gb296, 1, none⟩ (.int .i64 ((rd_T67 l0 x17_1).f1.f0))).setCell ⟨gb296, 2, none⟩ (.int .i64 ((rd_T67 l0 x17_1).f1.f1))).setCell ⟨gb296, 3, none⟩ (.int .i64 ((rd_T67 l0 x17_1).f1.f2))).setCell ⟨gb296, 4, none⟩ (.int .i64 ((rd_T67 l0 x17_1).f1.f3)))) := ⟨by repeat (first | (with_reducible first | exact HB.out | apply wa | apply wn | apply wd | refine ws ?_ GE296.out) | exact HB.out)⟩
              (try clear HO_5)
              (try clear BK296)
              (try clear HB)
              generalize (((((w19.setCell ⟨gb296, 0, none⟩ (.int .i64 ((rd_T67 l0 x17_1).f0))).setCell ⟨gb296, 1, none⟩ (.int .i64 ((rd_T67 l0 x17_1).f1.f0))).setCell ⟨gb296, 2, none⟩ (.int .i64 ((rd_T67 l0 x17_1).f1.f1))).setCell ⟨gb296, 3, none⟩ (.int .i64 ((rd_T67 l0 x17_1).f1.f2))).setCell ⟨gb296, 4, none⟩ (.int .i64 ((rd_T67 l0 x17_1).f1.f3))) = w21 at n0_ n1_ n2_ ⊢
              have HO_5 := n0_
              have BK296 := n1_
              have HB := n2_
              clear n0_ n1_ n2_
              have n0_ := asd (Kd.S_drew HO_5.out)
              have n1_ := asd (blk_drew BK296.out)
              have n2_ := asd (below_drew1 HB.out)
              clear HO_5
              clear BK296
              clear HB
              have HO_5 := n0_
              have BK296 := n1_
              have HB := n2_
              clear n0_ n1_ n2_
              obtain ⟨Ao23, co23, eo23⟩ := Kd.S_slice HO_5.out
              (first | subst eo23 | (injection eo23 with f1_ f2_ f3_; have f4_ := f1_.symm; have f5_ := f3_.symm; clear f1_ f2_ f3_; subst f4_; subst f5_))
              have p297 : 0 ≤ (((rd_T67 l0 x17_1).f0) : Int) := of_decide_eq_true (by assumption)
              have q297 : ((rd_T67 l0 x17_1).f0) < (x5_1.length : Int) := of_decide_eq_true (by assumption)
              obtain ⟨ad297, A297_0, c297_0, e297, hx297_0, hl297_0, hi297_0⟩ := at_L10 (Kd.S_reads' HO_5.out).2.2 ((rd_T67 l0 x17_1).f0) p297 q297
              cases e297
              obtain ⟨ce297, hce297, hMe297, hcc297⟩ := Kd.S_get HO_5.out [] ((rd_T67 l0 x17_1).f0) p297 (by first | exact q297 | exact of_decide_eq_true (by assumption) | (have e_ := (Kd.S_reads' HO_5.out).1; omega))
              obtain ⟨ve297_0, rfl, ge297_0⟩ := hMe297
              have hv297_0 := hcc297 0 _ rfl
              rw [Nat.add_zero, show ((Kd.slice 65 k65)).sz = 1 from rfl, Nat.mul_one] at hv297_0
              replace hv297_0 := Option.some.inj (hv297_0.symm.trans hx297_0)
              rw [hv297_0] at ge297_0
              have HL297_0 := asd (show Kd.R k65 65 _ _ _ _ (rd_L10 x5_1 ((rd_T67 l0 x17_1).f0)) from ge297_0)
              clear hv297_0 ge297_0
              have HX297_0 := asd hx297_0
              clear hcc297 hce297
              have HR297_0 := asd hi297_0
              have HC297_0 := asd hl297_0
              clear hi297_0 hl297_0
              replace p297 := eq_true p297
              replace q297 := eq_true q297
              obtain ⟨go24, co24, eo24, gb24, gl24, cl24, HG24⟩ := Kd.S_form HO_5.out (by have h_ : (((rd_T67 l0 x17_1).f0) : Int) < ((x5_1.length : Int) : Int) := of_decide_eq_true (by assumption); have h2_ : 0 ≤ (((rd_T67 l0 x17_1).f0) : Int) := (of_decide_eq_true (by assumption)); omega)
              (first | cases eo24 | (injection eo24 with ea_ en_ ec_; (first | subst ea_ | (injection ea_ with ea_; subst ea_)); subst ec_; clear en_))
              have GB24 := asd gb24
              have GG24 := asd HG24
              clear gb24 gl24 HG24
              (first | simp only [add_plain] at hx297_0 | skip)
              obtain ⟨oki24, ce24, hcl24, hM24, hcc24, _, _, hH24⟩ := Kd.S_elem HO_5.out [] (((rd_T67 l0 x17_1).f0) : Int) (of_decide_eq_true (by assumption)) (by have h_ : (((rd_T67 l0 x17_1).f0) : Int) < ((x5_1.length : Int) : Int) := of_decide_eq_true (by assumption); first | exact h_ | (have e_ := (Kd.S_reads' HO_5.out).1; omega) | simpa using h_)
              obtain ⟨ve24_0, rfl, ge24_0⟩ := hM24
              have hv24 := hcc24 0 _ rfl
              have hX24 := HX297_0.out
              (try simp only [add_plain] at hX24)
              (try simp only [Nat.add_zero] at hv24)
              (try rw [show ((Kd.slice 65 k65)).sz = 1 from rfl, Nat.mul_one] at hv24)
              replace hv24 := Option.some.inj (hv24.symm.trans hX24)
              subst hv24
              clear hX24 hcc24 hcl24
              have UU24 := asd (show Kd.R k65 65 _ w.heap.size oki24 (.slice A297_0 (rd_L10 x5_1 ((rd_T67 l0 x17_1).f0)).length c297_0) (rd_L10 x5_1 ((rd_T67 l0 x17_1).f0)) from ge24_0)
              have HH24 := asd hH24
              have HN24 := asd (Kd.S_reads' HO_5.out).1
              clear hH24 ge24_0
              refine start_ (n := 14) (S := fun w' => w'.cell? ⟨gb296, 0, none⟩ = some (.int .i64 ((rd_T67 l0 x17_1).f0)) ∧ w'.cell? ⟨gb296, 1, none⟩ = some (.int .i64 ((rd_T67 l0 x17_1).f1.f0)) ∧ w'.cell? ⟨gb296, 2, none⟩ = some (.int .i64 ((rd_T67 l0 x17_1).f1.f1)) ∧ w'.cell? ⟨gb296, 3, none⟩ = some (.int .i64 ((rd_T67 l0 x17_1).f1.f2)) ∧ w'.cell? ⟨gb296, 4, none⟩ = some (.int .i64 ((rd_T67 l0 x17_1).f1.f3)) ∧ w'.cell? ⟨go24, (((rd_T67 l0 x17_1).f0)).toNat, none⟩ = some (.slice A297_0 (rd_L10 x5_1 ((rd_T67 l0 x17_1).f0)).length c297_0)) (ds := [13]) #[false, false, false, false, false, false, false, false, false, false, false, false, false, false] (by kernel_rfl) rfl rfl ⟨(blk_cell BK296.out 0).trans rfl, (blk_cell BK296.out 1).trans rfl, (blk_cell BK296.out 2).trans rfl, (blk_cell BK296.out 3).trans rfl, (blk_cell BK296.out 4).trans rfl, hx297_0⟩ (fun hHeld => ?_); refine with_tabW merge_Split.tab9 merge_Split.bits9 (fun HT_ HW_ => ?_)
              generalize w21.drew = w22 at HO_5 BK296 HB GG24 HH24 HL297_0 HR297_0 HX297_0 UU24 hx297_0 hHeld ⊢
              refine pure_ (i := 0) (N := some 30) (v := ?_) (a' := ?_) #[true, false, false, false, false, false, false, false, false, false, false, false, false, false] rfl rfl (any_of HT_.out (by kernel_rfl)) (fun _ _ _ h => h) (Or.inl ⟨by rfl, ?_⟩) ?_ ?_
              rotate_left
              ·intro w'
               go_simp
               with_reducible rfl
              rotate_left
              ·simp only [Act.put, sB, i64_w, i32_w]
               rfl
              refine pure_ (i := 1) (N := some 31) (v := ?_) (a' := ?_) #[true, true, false, false, false, false, false, false, false, false, false, false, false, false] rfl rfl (any_of HT_.out (by kernel_rfl)) (fun _ _ _ h => h) (Or.inl ⟨by rfl, ?_⟩) ?_ ?_
              rotate_left
              ·intro w'
               go_simp
               with_reducible rfl
              rotate_left
              ·simp only [Act.put, sB, i64_w, i32_w]
               rfl
              refine pure_ (i := 3) (N := some 33) (v := ?_) (a' := ?_) #[true, true, false, true, false, false, false, false, false, false, false, false, false, false] rfl rfl (any_of HT_.out (by kernel_rfl)) (fun _ _ _ h => h) (Or.inl ⟨by rfl, ?_⟩) ?_ ?_
              rotate_left
              ·intro w'
               go_simp
               with_reducible rfl
              rotate_left
              ·simp only [Act.put, sB, i64_w, i32_w]
               rfl
              refine pure_ (i := 4) (N := some 34) (v := ?_) (a' := ?_) #[true, true, false, true, true, false, false, false, false, false, false, false, false, false] rfl rfl (any_of HT_.out (by kernel_rfl)) (fun _ _ _ h => h) (Or.inl ⟨by rfl, ?_⟩) ?_ ?_
              rotate_left
              ·intro w'
               go_simp
               with_reducible rfl
              rotate_left
              ·simp only [Act.put, sB, i64_w, i32_w]
               rfl
              refine pure_ (i := 8) (N := some 38) (v := ?_) (a' := ?_) #[true, true, false, true, true, false, false, false, true, false, false, false, false, false] rfl rfl (any_of HT_.out (by kernel_rfl)) (fun _ _ _ h => h) (Or.inl ⟨by rfl, ?_⟩) ?_ ?_
              rotate_left
              ·intro w'
               go_simp
               with_reducible rfl
              rotate_left
              ·simp only [Act.put, sB, i64_w, i32_w]
               rfl
              refine take_ (i := 2) (N := some 32) (v := ?_) (a' := ?_) #[true, true, true, true, true, false, false, false, true, false, false, false, false, false] rfl rfl (take_ofW HT_.out HW_.out (by kernel_rfl)) (fun _ _ _ h => h) (Or.inl ⟨by rfl, ?_⟩) hHeld ?_ ?_
              rotate_left
              ·rintro w' ⟨s0, s1, s2, s3, s4, s5⟩
               go_simp
               with_reducible rfl
              rotate_left
              ·simp only [Act.put, sB, i64_w, i32_w]
               rfl
              refine take_ (i := 5) (N := some 35) (v := ?_) (a' := ?_) #[true, true, true, true, true, true, false, false, true, false, false, false, false, false] rfl rfl (take_ofW HT_.out HW_.out (by kernel_rfl)) (fun _ _ _ h => h) (Or.inl ⟨by rfl, ?_⟩) hHeld ?_ ?_
              rotate_left
              ·rintro w' ⟨s0, s1, s2, s3, s4, s5⟩
               go_simp
               with_reducible rfl
              rotate_left
              ·simp only [Act.put, sB, i64_w, i32_w]
               rfl
              refine pure_ (i := 6) (N := some 36) (v := ?_) (a' := ?_) #[true, true, true, true, true, true, true, false, true, false, false, false, false, false] rfl rfl (any_of HT_.out (by kernel_rfl)) (fun _ _ _ h => h) (Or.inl ⟨by rfl, ?_⟩) ?_ ?_
              rotate_left
              ·intro w'
               go_simp
               with_reducible rfl
              rotate_left
              ·simp only [Act.put, sB, i64_w, i32_w]
               rfl
              refine take_ (i := 7) (N := some 37) (v := ?_) (a' := ?_) #[true, true, true, true, true, true, true, true, true, false, false, false, false, false] rfl rfl (take_ofW HT_.out HW_.out (by kernel_rfl)) (fun _ _ _ h => h) (Or.inl ⟨by rfl, ?_⟩) hHeld ?_ ?_
              rotate_left
              ·rintro w' ⟨s0, s1, s2, s3, s4, s5⟩
               go_simp
               with_reducible rfl
              rotate_left
              ·simp only [Act.put, sB, i64_w, i32_w]
               rfl
              refine take_ (i := 9) (N := some 39) (v := ?_) (a' := ?_) #[true, true, true, true, true, true, true, true, true, true, false, false, false, false] rfl rfl (take_ofW HT_.out HW_.out (by kernel_rfl)) (fun _ _ _ h => h) (Or.inl ⟨by rfl, ?_⟩) hHeld ?_ ?_
              rotate_left
              ·rintro w' ⟨s0, s1, s2, s3, s4, s5⟩
               go_simp
               with_reducible rfl
              rotate_left
              ·simp only [Act.put, sB, i64_w, i32_w]
               rfl
              refine one_ (i := 10) (N := some 40) #[true, true, true, true, true, true, true, true, true, true, true, false, false, false] rfl rfl (one_of HT_.out (by kernel_rfl)) (by decide) (fun K hK => ?_)
              refine value_ (w1 := ?_) (v := ?_) (by rfl) rfl ?_ ?_
              rotate_left 2
              ·go_simp
               constructor
               ·rfl
               ·rfl
              refine hK.out _ _ ⟨(blk_cell (blk_alloc BK296.out _) 0).trans rfl, (blk_cell (blk_alloc BK296.out _) 1).trans rfl, (blk_cell (blk_alloc BK296.out _) 2).trans rfl, (blk_cell (blk_alloc BK296.out _) 3).trans rfl, (blk_cell (blk_alloc BK296.out _) 4).trans rfl, (World.cell?_alloc_lt _ _ _ (World.block_lt_of_cell? _ _ (hHeld.2.2.2.2.2))).trans (hHeld.2.2.2.2.2)⟩ (fun hHeld => ?_)
              clear hK K
              refine norm_ (a' := ?_) ?_ ?_
              rotate_left
              ·show Act.put _ (some 40) _ = _
               simp only [Act.put, sB, i64_w, i32_w]
               rfl
              refine one_ (i := 11) (N := some 41) #[true, true, true, true, true, true, true, true, true, true, true, true, false, false] rfl rfl (one_of HT_.out (by kernel_rfl)) (by decide) (fun K hK => ?_)
              refine Kd.R_append_step k65 (w0 := w) w.heap.size (by rfl) (.tmp 37) (.tmp 40) 31 65 (.agg #[(.int .i64 0), (.int .i64 0), (.int .i64 0), (.int .i64 0)]) 32 rfl Try.underlying31 info65 rfl (by decide) (by omega) (.slice A297_0 (rd_L10 x5_1 ((rd_T67 l0 x17_1).f0)).length c297_0) (rd_L10 x5_1 ((rd_T67 l0 x17_1).f0)) (⟨(rd_T67 l0 x17_1).f1.f0, (rd_T67 l0 x17_1).f1.f1, (rd_T67 l0 x17_1).f1.f2, (rd_T67 l0 x17_1).f1.f3⟩ : S65) [.int .i64 ((rd_T67 l0 x17_1).f1.f0), .int .i64 ((rd_T67 l0 x17_1).f1.f1), .int .i64 ((rd_T67 l0 x17_1).f1.f2), .int .i64 ((rd_T67 l0 x17_1).f1.f3)] (fun k_ => oki24 k_ ∨ ((fun _ => True)) k_ ∧ w22.heap.size ≤ k_) (fun _ => False) rfl rfl ?aP (fun _ hk => hk.elim) ?aF ?aO ?aB ?aS ?aL ?_
              (case aP => exact k65_mkM _ _ _ (⟨(rd_T67 l0 x17_1).f1.f0, (rd_T67 l0 x17_1).f1.f1, (rd_T67 l0 x17_1).f1.f2, (rd_T67 l0 x17_1).f1.f3⟩ : S65))
              (case aB => exact (by repeat (first | (with_reducible first | exact HB.out | apply wa | apply wn | apply wd | refine ws ?_ GE296.out) | exact HB.out)))
              (case aF => exact (fun k_ hk => .inr ⟨trivial, hk⟩))
              (case aO => exact (by (with_reducible repeat (first | apply Kd.R_alloc | apply Kd.R_drewN | apply Kd.R_drew)); exact Kd.R_mono UU24.out (fun _ hk => .inl hk)))
              (case aS => exact (below_size (by repeat (first | (with_reducible first | exact HB.out | apply wa | apply wn | apply wd | refine ws ?_ GE296.out) | exact HB.out))))
              (case aL => have := LMc17.out; omega)
              intro v299 w25 ho hb hg hat
              (first | have HS5_ := cell_grown hg (hHeld.2.2.2.2.2) (by first | (rw [add_block]; exact (fun e_ => ((HL297_0.out.1 _ e_.symm).2) rfl)) | (show some (Addr.add _ _).block ≠ _; rw [add_block]; exact (fun e_ => ((HL297_0.out.1 _ e_.symm).2) rfl)) | exact (fun e_ => ((HL297_0.out.1 _ e_.symm).2) rfl)) | have HS5_ := cell_grown hg (cell_unalloc (hHeld.2.2.2.2.2) (by first | (rw [add_block]; exact Kd.S_lt HO_5.out _ rfl) | (show (Addr.add _ _).block < _; rw [add_block]; exact Kd.S_lt HO_5.out _ rfl) | exact Kd.S_lt HO_5.out _ rfl)) (by first | (rw [add_block]; exact (fun e_ => ((HL297_0.out.1 _ e_.symm).2) rfl)) | (show some (Addr.add _ _).block ≠ _; rw [add_block]; exact (fun e_ => ((HL297_0.out.1 _ e_.symm).2) rfl)) | exact (fun e_ => ((HL297_0.out.1 _ e_.symm).2) rfl)))
              rw [← Ny298.out] at ho
              have n0_ := asd (blk_grown (g := gb296) (o := .cells #[.int .i64 ((rd_T67 l0 x17_1).f0), .int .i64 ((rd_T67 l0 x17_1).f1.f0), .int .i64 ((rd_T67 l0 x17_1).f1.f1), .int .i64 ((rd_T67 l0 x17_1).f1.f2), .int .i64 ((rd_T67 l0 x17_1).f1.f3)] 67 (0, 0)) (by (with_reducible repeat first | apply bn | apply bd | apply ba); exact BK296.out) hg (Kd.R_ne HL297_0.out BK296.out (by decide)))
              have n1_ := asd (hb)
              have n2_ := asd (Kd.H_grown (Kd.H_widen (by repeat (first | exact HH24.out | refine Kd.H_alloc ?_ _ | refine Kd.H_drewN ?_ _ | refine Kd.H_drew ?_))) hg (fun k_ e_ => .inl (UU24.out.1 k_ e_)))
              have n3_ := asd (ho)
              clear BK296
              clear HB
              clear HH24
              clear HO_5
              clear UU24
              clear HL297_0
              have BK296 := n0_
              have HB := n1_
              have HH24 := n2_
              have HO300 := n3_
              clear n0_ n1_ n2_ n3_
              clear ho hb hg hat
              have p18 : 0 ≤ (((rd_T67 l0 x17_1).f0) : Int) := of_decide_eq_true (by assumption)
              have q18 : (((rd_T67 l0 x17_1).f0) : Int) < ((x5_1.length : Int) : Int) := of_decide_eq_true (by assumption)
              replace p18 := eq_true p18
              replace q18 := eq_true q18
              obtain ⟨Ao28, co28, eo28⟩ := Kd.R_slice HO300.out
              (first | subst eo28 | (injection eo28 with f1_ f2_ f3_; have f4_ := f1_.symm; have f5_ := f3_.symm; clear f1_ f2_ f3_; subst f4_; subst f5_))
              obtain ⟨_, _, hraw26, _, _, hcc26, _⟩ := Kd.H_raw HH24.out (of_decide_eq_true (by assumption)) (by have h_ : (((rd_T67 l0 x17_1).f0) : Int) < ((x5_1.length : Int) : Int) := of_decide_eq_true (by assumption); first | exact h_ | (have e_ := (HN24.out); omega) | simpa using h_)
              obtain ⟨_, hfr26⟩ := Kd.H_at HH24.out (of_decide_eq_true (by assumption)) (by have h_ : (((rd_T67 l0 x17_1).f0) : Int) < ((x5_1.length : Int) : Int) := of_decide_eq_true (by assumption); first | exact h_ | (have e_ := (HN24.out); omega) | simpa using h_)
              have hx26_0 := hcc26 0 _ rfl
              have hf26_0 := hfr26 0
              (try simp only [Nat.add_zero] at hx26_0 hf26_0)
              (try rw [show ((Kd.slice 65 k65)).sz = 1 from rfl, Nat.mul_one] at hx26_0)
              (try rw [show ((Kd.slice 65 k65)).sz = 1 from rfl, Nat.mul_one] at hf26_0)
              have HP26 := Kd.S_seg0 HH24.out (of_decide_eq_true (by assumption)) (by have h_ : (((rd_T67 l0 x17_1).f0) : Int) < ((x5_1.length : Int) : Int) := of_decide_eq_true (by assumption); first | exact h_ | (have e_ := (HN24.out); omega) | simpa using h_) (seg := [.slice Ao28 y298.length co28]) (j := 0) (show 1 ≤ 1 from by decide) (x' := y298) (Kd.M_row HO300.out) (fun _ hk => hk)
              (try simp only [show ((Kd.slice 65 k65)).sz = 1 from rfl, Nat.mul_one, Nat.add_zero] at HP26)
              clear hcc26 hfr26
              have HNB296_go24 := asd (show gb296 ≠ go24 from by have h_ := Kd.R_ne hraw26 BK296.out (by decide); intro e_; exact h_ (by rw [e_]; rfl))
              have HS26 := HP26.1
              rw [← Ny301.out] at HS26
              have HQ26 := asd HS26
              obtain ⟨_, hgg26⟩ := Kd.R_typed hraw26 go24 rfl
              have GG26_ := asd hgg26
              clear HP26 HS26 hgg26
              refine hK.out _ _ ⟨(blk_cell BK296.out 0).trans rfl, (blk_cell BK296.out 1).trans rfl, (blk_cell BK296.out 2).trans rfl, (blk_cell BK296.out 3).trans rfl, (blk_cell BK296.out 4).trans rfl, HS5_⟩ (fun hHeld => ?_)
              clear hK K
              refine norm_ (a' := ?_) ?_ ?_
              rotate_left
              ·show Act.put _ (some 41) _ = _
               simp only [Act.put, sB, i64_w, i32_w]
               rfl
              refine pure_ (i := 12) (N := some 42) (v := ?_) (a' := ?_) #[true, true, true, true, true, true, true, true, true, true, true, true, true, false] rfl rfl (any_of HT_.out (by kernel_rfl)) (fun _ _ _ h => h) (Or.inl ⟨by rfl, ?_⟩) ?_ ?_
              rotate_left
              ·intro w'
               go_simp
               with_reducible rfl
              rotate_left
              ·simp only [Act.put, sB, i64_w, i32_w]
               rfl
              refine last_ (i := 13) (N := none) #[true, true, true, true, true, true, true, true, true, true, true, true, true, true] rfl rfl (one_of HT_.out (by kernel_rfl)) (by decide) (fun K hK => ?_)
              refine skip_ (w1 := ?_) (by rfl) rfl ?_ ?_
              rotate_left
              ·go_simp
               rfl
              refine hK.out _ _ ?_
              clear hK K
              refine done_ (done_of HT_.out (by kernel_rfl)) ?_
              try go_wp2
              go_roundg k1
              case measure => have := HK1.out; omega
              case rel => exact ⟨(y301), (wrap64 (x17_1 + 1)), (by first | rfl | (simp; done) | (simp [*]; done)), H', ⟨by have := HK1.out; omega⟩, ⟨by (with_reducible repeat (first | apply Kd.S_alloc | apply Kd.S_drewN | apply Kd.S_drew)); exact HQ26.out⟩, ⟨by repeat (first | (with_reducible first | exact HB.out | apply wa | apply wn | apply wd | refine ws ?_ GB24.out | refine ws ?_ GE296.out) | exact HB.out)⟩⟩
             ·rw [if_neg c17] at H
              exact absurd H (by simp)
            ·rw [if_neg c16] at H
             exact absurd H (by simp)
           ·rw [if_neg c15] at H
            exact absurd H (by simp)
          ·rw [if_neg c14] at H
           have c14b0 : decide (((rd_T67 l0 x17_1).f0) < ji4) = false := decide_eq_false c14
           clear c14
           have H' := asd H
           clear H
           have p295 : 0 ≤ (x17_1 : Int) := of_decide_eq_true (by assumption)
           have q295 : x17_1 < (l0.length : Int) := of_decide_eq_true (by assumption)
           obtain ⟨ad295, e295, hx295_0, hx295_1, hx295_2, hx295_3, hx295_4⟩ := at_T67 HR0.out x17_1 p295 q295
           cases e295
           replace hx295_0 := (HB.out.cell (World.block_lt_of_cell? w _ hx295_0)).trans hx295_0
           replace hx295_1 := (HB.out.cell (World.block_lt_of_cell? w _ hx295_1)).trans hx295_1
           replace hx295_2 := (HB.out.cell (World.block_lt_of_cell? w _ hx295_2)).trans hx295_2
           replace hx295_3 := (HB.out.cell (World.block_lt_of_cell? w _ hx295_3)).trans hx295_3
           replace hx295_4 := (HB.out.cell (World.block_lt_of_cell? w _ hx295_4)).trans hx295_4
           replace p295 := eq_true p295
           replace q295 := eq_true q295
           go_wp2_with (first | ((with_reducible refine gate_dst (N := 7) rfl ?_); refine box_event ?hg (N := 7) ?hd (cs := #[.int .i64 0, .int .i64 0, .int .i64 0, .int .i64 0, .int .i64 0]) (t := 67) ?hr ?_; (case hd => rfl); (case hg => rfl); (case hr => first | (go_simp; done) | (go_simp; rfl)); intro gb296 hg w29 hbox hb; have n0_ := asd (Kd.S_below (by (with_reducible repeat (first | apply Kd.S_alloc | apply Kd.S_drewN | apply Kd.S_drew)); exact HO_5.out) hb); have n1_ := asd (below_step (by repeat (first | (with_reducible first | exact HB.out | apply wa | apply wn | apply wd) | exact HB.out)) hb); have n2_ := asd (hbox); have n3_ := asd ((by rw [hg]; exact (below_size (by repeat (first | (with_reducible first | exact HB.out | apply wa | apply wn | apply wd) | exact HB.out))) : w.heap.size ≤ gb296)); have n4_ := asd ((by rw [hg]; exact (below_size (by repeat (first | (with_reducible first | exact HB.out | apply wa | apply wn | apply wd) | exact HB.out))) : w.heap.size ≤ gb296)); clear HO_5; clear HB; have HO_5 := n0_; have HB := n1_; have BK296 := n2_; have GW296 := n3_; have GE296 := n4_; clear n0_ n1_ n2_ n3_ n4_; clear hb hbox hg; have hcz30_0 : w29.cell? ⟨gb296, 0, none⟩ = some (.int .i64 0) := (blk_cell BK296.out 0).trans rfl; have hcz30_1 : w29.cell? ⟨gb296, 1, none⟩ = some (.int .i64 0) := (blk_cell BK296.out 1).trans rfl; have hcz30_2 : w29.cell? ⟨gb296, 2, none⟩ = some (.int .i64 0) := (blk_cell BK296.out 2).trans rfl; have hcz30_3 : w29.cell? ⟨gb296, 3, none⟩ = some (.int .i64 0) := (blk_cell BK296.out 3).trans rfl; have hcz30_4 : w29.cell? ⟨gb296, 4, none⟩ = some (.int .i64 0) := (blk_cell BK296.out 4).trans rfl; have hfz30_0 := blk_frozen BK296.out 0; have hfz30_1 := blk_frozen BK296.out 1; have hfz30_2 := blk_frozen BK296.out 2; have hfz30_3 := blk_frozen BK296.out 3; have hfz30_4 := blk_frozen BK296.out 4))
           go_roundg k1
           case measure => have := HK1.out; omega
           case rel => exact ⟨(x5_1), (wrap64 (x17_1 + 1)), (by first | rfl | (simp; done) | (simp [*]; done)), H', ⟨by have := HK1.out; omega⟩, ⟨by (with_reducible repeat (first | apply Kd.S_alloc | apply Kd.S_drewN | apply Kd.S_drew)); exact Kd.S_mono (Kd.S_far (p := ⟨gb296, 4, none⟩) (Kd.S_far (p := ⟨gb296, 3, none⟩) (Kd.S_far (p := ⟨gb296, 2, none⟩) (Kd.S_far (p := ⟨gb296, 1, none⟩) (Kd.S_far (p := ⟨gb296, 0, none⟩) (Kd.S_types HO_5.out BK296.out (by decide)) (fun _ hk => hk.2) (.int .i64 ((rd_T67 l0 x17_1).f0))) (fun _ hk => hk.2) (.int .i64 ((rd_T67 l0 x17_1).f1.f0))) (fun _ hk => hk.2) (.int .i64 ((rd_T67 l0 x17_1).f1.f1))) (fun _ hk => hk.2) (.int .i64 ((rd_T67 l0 x17_1).f1.f2))) (fun _ hk => hk.2) (.int .i64 ((rd_T67 l0 x17_1).f1.f3))) (fun _ hk => trivial)⟩, ⟨by repeat (first | (with_reducible first | exact HB.out | apply wa | apply wn | apply wd | refine ws ?_ GE296.out) | exact HB.out)⟩⟩
         ·rw [if_neg c13] at H
          have c13b0 : decide (0 ≤ ((rd_T67 l0 x17_1).f0)) = false := decide_eq_false c13
          clear c13
          have H' := asd H
          clear H
          have p295 : 0 ≤ (x17_1 : Int) := of_decide_eq_true (by assumption)
          have q295 : x17_1 < (l0.length : Int) := of_decide_eq_true (by assumption)
          obtain ⟨ad295, e295, hx295_0, hx295_1, hx295_2, hx295_3, hx295_4⟩ := at_T67 HR0.out x17_1 p295 q295
          cases e295
          replace hx295_0 := (HB.out.cell (World.block_lt_of_cell? w _ hx295_0)).trans hx295_0
          replace hx295_1 := (HB.out.cell (World.block_lt_of_cell? w _ hx295_1)).trans hx295_1
          replace hx295_2 := (HB.out.cell (World.block_lt_of_cell? w _ hx295_2)).trans hx295_2
          replace hx295_3 := (HB.out.cell (World.block_lt_of_cell? w _ hx295_3)).trans hx295_3
          replace hx295_4 := (HB.out.cell (World.block_lt_of_cell? w _ hx295_4)).trans hx295_4
          replace p295 := eq_true p295
          replace q295 := eq_true q295
          go_wp2_with (first | ((with_reducible refine gate_dst (N := 7) rfl ?_); refine box_event ?hg (N := 7) ?hd (cs := #[.int .i64 0, .int .i64 0, .int .i64 0, .int .i64 0, .int .i64 0]) (t := 67) ?hr ?_; (case hd => rfl); (case hg => rfl); (case hr => first | (go_simp; done) | (go_simp; rfl)); intro gb296 hg w31 hbox hb; have n0_ := asd (Kd.S_below (by (with_reducible repeat (first | apply Kd.S_alloc | apply Kd.S_drewN | apply Kd.S_drew)); exact HO_5.out) hb); have n1_ := asd (below_step (by repeat (first | (with_reducible first | exact HB.out | apply wa | apply wn | apply wd) | exact HB.out)) hb); have n2_ := asd (hbox); have n3_ := asd ((by rw [hg]; exact (below_size (by repeat (first | (with_reducible first | exact HB.out | apply wa | apply wn | apply wd) | exact HB.out))) : w.heap.size ≤ gb296)); have n4_ := asd ((by rw [hg]; exact (below_size (by repeat (first | (with_reducible first | exact HB.out | apply wa | apply wn | apply wd) | exact HB.out))) : w.heap.size ≤ gb296)); clear HO_5; clear HB; have HO_5 := n0_; have HB := n1_; have BK296 := n2_; have GW296 := n3_; have GE296 := n4_; clear n0_ n1_ n2_ n3_ n4_; clear hb hbox hg; have hcz32_0 : w31.cell? ⟨gb296, 0, none⟩ = some (.int .i64 0) := (blk_cell BK296.out 0).trans rfl; have hcz32_1 : w31.cell? ⟨gb296, 1, none⟩ = some (.int .i64 0) := (blk_cell BK296.out 1).trans rfl; have hcz32_2 : w31.cell? ⟨gb296, 2, none⟩ = some (.int .i64 0) := (blk_cell BK296.out 2).trans rfl; have hcz32_3 : w31.cell? ⟨gb296, 3, none⟩ = some (.int .i64 0) := (blk_cell BK296.out 3).trans rfl; have hcz32_4 : w31.cell? ⟨gb296, 4, none⟩ = some (.int .i64 0) := (blk_cell BK296.out 4).trans rfl; have hfz32_0 := blk_frozen BK296.out 0; have hfz32_1 := blk_frozen BK296.out 1; have hfz32_2 := blk_frozen BK296.out 2; have hfz32_3 := blk_frozen BK296.out 3; have hfz32_4 := blk_frozen BK296.out 4))
          go_roundg k1
          case measure => have := HK1.out; omega
          case rel => exact ⟨(x5_1), (wrap64 (x17_1 + 1)), (by first | rfl | (simp; done) | (simp [*]; done)), H', ⟨by have := HK1.out; omega⟩, ⟨by (with_reducible repeat (first | apply Kd.S_alloc | apply Kd.S_drewN | apply Kd.S_drew)); exact Kd.S_mono (Kd.S_far (p := ⟨gb296, 4, none⟩) (Kd.S_far (p := ⟨gb296, 3, none⟩) (Kd.S_far (p := ⟨gb296, 2, none⟩) (Kd.S_far (p := ⟨gb296, 1, none⟩) (Kd.S_far (p := ⟨gb296, 0, none⟩) (Kd.S_types HO_5.out BK296.out (by decide)) (fun _ hk => hk.2) (.int .i64 ((rd_T67 l0 x17_1).f0))) (fun _ hk => hk.2) (.int .i64 ((rd_T67 l0 x17_1).f1.f0))) (fun _ hk => hk.2) (.int .i64 ((rd_T67 l0 x17_1).f1.f1))) (fun _ hk => hk.2) (.int .i64 ((rd_T67 l0 x17_1).f1.f2))) (fun _ hk => hk.2) (.int .i64 ((rd_T67 l0 x17_1).f1.f3))) (fun _ hk => trivial)⟩, ⟨by repeat (first | (with_reducible first | exact HB.out | apply wa | apply wn | apply wd | refine ws ?_ GE296.out) | exact HB.out)⟩⟩
        ·rw [if_neg c12] at H
         exact absurd H (by simp)
       ·rw [if_neg c11] at H
        exact absurd H (by simp)
      ·rw [if_neg c10] at H
       have c10b0 : decide (x17_1 < (l0.length : Int)) = false := decide_eq_false c10
       clear c10
       obtain rfl := Option.some.inj H
       go_wp2
       go_ret
       exact ⟨_, by first | rfl | (simp [errW_none, errW_some] <;> rfl) | (simp only [← hji3, ← hji4]; first | rfl | (simp [errW_none, errW_some] <;> rfl)) | (simp [*, errW_none, errW_some] <;> rfl), by (with_reducible repeat (first | apply Kd.S_alloc | apply Kd.S_drewN | apply Kd.S_drew)); exact HO_5.out, by repeat (first | (with_reducible first | exact HB.out | apply wa | apply wn | apply wd) | exact HB.out)⟩
   ·rw [if_neg c7] at H
    exact absurd H (by simp)
  ·rw [if_neg c6] at H
   exact absurd H (by simp)
end Go.Proofs.Ytalimpniimgheaa.Fn
namespace Go.Proofs.Ytalimpniimgheaa.Fn
open Go.RowKit Go.Proofs.YtalimpniimgheaaW.PrintWords Go.Proofs.YtalimpniimgheaaW.PrintLast Go.Proofs.YtalimpniimgheaaW.PrintMore
attribute [local go_sem] max2_int min2_int max_two min_two max_three min_three max_four min_four
set_option linter.unusedVariables false
set_option linter.unusedSimpArgs false
def parcloselaw40_rows.l0 : Nat → List (S117) → List (S67) → Int → Option ((List (S67)))
 | 0, _, _, _ => none
 | k + 1, x0, x3, x4 => if x4 < (x0.length : Int) then (if 0 ≤ x4 then (if x3.length < 3518437208883 then (parcloselaw40_rows.l0 k x0 (x3 ++ [(⟨(rd_T117 x0 x4).f0, (⟨(rd_T117 x0 x4).f1.f0, (rd_T117 x0 x4).f1.f1, (rd_T117 x0 x4).f1.f2, (rd_T117 x0 x4).f1.f3⟩ : S65)⟩ : S67)]) (wrap64 (x4 + 1))) else (none)) else (none)) else (some x3)
def parcloselaw40_rows.f (k : Nat) (l0 : List (S117)) : Option ((List (S67))) := parcloselaw40_rows.l0 k l0 ([] : List (S67)) 0
def parcloselaw40_rows.T5 : Bool × List (List Nat × List Nat) := (true, [([], []), ([], []), ([], []), ([1, 2], [1, 2]), ([3], [3]), ([4], [4]), ([], []), ([], []), ([6, 7], [6, 7]), ([8], [8]), ([9], [9]), ([5, 10], [5, 10]), ([11], [11]), ([0, 12], [0, 12]), ([13, 13, 0, 1, 2, 3, 4, 5, 6, 7, 8, 9, 10, 11, 12, 13], [0, 13])])
def parcloselaw40_rows.B5 : List Nat := [0, 0, 0, 6, 14, 30, 0, 0, 192, 448, 960, 2046, 4094, 8191, 16383]
theorem parcloselaw40_rows.tab5 : rtab .any (opsOf Try.f46 5) = parcloselaw40_rows.T5 := by kernel_rfl
theorem parcloselaw40_rows.bits5 : waitsOk parcloselaw40_rows.T5.2 parcloselaw40_rows.B5 = true := by kernel_rfl
set_option maxHeartbeats 8000000 in
set_option maxRecDepth 100000 in
theorem parcloselaw40_rows.calls (k : Nat) (A0 : Option Addr) (c0 : Nat) (l0 : List (S117)) (r : List (S67)) (w : World) (hr0 : Kd.C k117 w A0 l0.length l0) (hc0 : l0.length ≤ c0) (h : parcloselaw40_rows.f k l0 = some r) :
  Calls Try.prog 46 #[.slice A0 l0.length c0] w fun e w' => ∃ v0_ : Value, e = .returned (v0_) ∧ Kd.R k67 67 w' w.heap.size (fun _ => True) v0_ r ∧ Below w.heap.size w w' := by
 have hu64 := Try.underlying64
 have hu67 := Try.underlying67
 have HR0 := asd hr0
 have HC0 := asd hc0
 clear hr0 hc0
 have HB := asd (Below.refl w.heap.size w)
 have H : (parcloselaw40_rows.l0 k l0 ([] : List (S67)) 0) = some r := h
 clear h
 have H' := asd H
 clear H
 go_enter Try.func46, Try.ntmps46
 go_wp2
 go_loopg [3, 4] k (fun kq v3 v4 w' => ∃ (x3_1 : List (S67)) (x4_1 : Int), v4 = .int .i64 x4_1 ∧ Aside0 (parcloselaw40_rows.l0 kq l0 x3_1 x4_1 = some r) ∧ Aside0 (kq ≤ k) ∧ Aside0 (Kd.R k67 67 w' w.heap.size (fun _ => True) v3 x3_1) ∧ Aside0 (Below w.heap.size w w'))
 case atStart => exact ⟨(([] : List (S67))), (0), (by first | rfl | (simp; done) | (simp [*]; done)), H', ⟨Nat.le_refl _⟩, ⟨by first | exact Kd.R_nil _ _ _ _ _ | exact Kd.N_nil _ _ _ _ _ | exact Kd.V_nil _ _ _ _ _ | exact Kd.Q_nil _ _ _ _ _ | exact Kd.S_nil _ _ _ _ _⟩, ⟨by repeat (first | (with_reducible first | exact HB.out | apply wa | apply wn | apply wd) | exact HB.out)⟩⟩
 case round =>
  clear H'
  obtain ⟨x3_1, x4_1, rfl, HA, HK1, HO_3, HB⟩ := hrel
  cases gk with
  | zero => exact absurd HA.out (by simp [parcloselaw40_rows.l0])
  | succ k1 =>
   have H := HA.out
   clear HA
   simp only [parcloselaw40_rows.l0] at H
   by_cases c2 : x4_1 < (l0.length : Int)
   ·rw [if_pos c2] at H
    have c2b0 : decide (x4_1 < (l0.length : Int)) = true := decide_eq_true c2
    clear c2
    by_cases c3 : 0 ≤ x4_1
    ·rw [if_pos c3] at H
     have c3b0 : decide (0 ≤ x4_1) = true := decide_eq_true c3
     clear c3
     by_cases c4 : x3_1.length < 3518437208883
     ·rw [if_pos c4] at H
      have LMc4 := asd c4
      clear c4
      obtain ⟨y308, hy308⟩ : ∃ y_ : List (S67), y_ = (x3_1 ++ [(⟨(rd_T117 l0 x4_1).f0, (⟨(rd_T117 l0 x4_1).f1.f0, (rd_T117 l0 x4_1).f1.f1, (rd_T117 l0 x4_1).f1.f2, (rd_T117 l0 x4_1).f1.f3⟩ : S65)⟩ : S67)]) := ⟨_, rfl⟩
      replace H : (parcloselaw40_rows.l0 k1 l0 y308 (wrap64 (x4_1 + 1))) = some r := by first | (rw [hy308]; with_reducible exact H) | (have H2_ := (Option.bind_some _ _).symm.trans H; rw [hy308]; with_reducible exact H2_) | (have H2_ := (Option.bind_some _ _).symm.trans H; with_reducible exact H2_) | with_reducible exact H | (rw [hy308]; exact H) | exact H
      have Ny308 := asd hy308
      clear hy308
      have H' := asd H
      clear H
      try go_wp2
      have n0_ := asd (Kd.R_drew HO_3.out)
      have n1_ := asd (below_drew1 HB.out)
      clear HO_3
      clear HB
      have HO_3 := n0_
      have HB := n1_
      clear n0_ n1_
      have p306 : 0 ≤ (x4_1 : Int) := of_decide_eq_true (by assumption)
      have q306 : x4_1 < (l0.length : Int) := of_decide_eq_true (by assumption)
      obtain ⟨ad306, e306, hx306_0, hx306_1, hx306_2, hx306_3, hx306_4⟩ := at_T117 HR0.out x4_1 p306 q306
      have hw306_4 := hx306_4
      have hw306_3 := hx306_3
      have hw306_2 := hx306_2
      have hw306_1 := hx306_1
      have hw306_0 := hx306_0
      cases e306
      replace hx306_0 := (HB.out.cell (World.block_lt_of_cell? w _ hx306_0)).trans hx306_0
      replace hx306_1 := (HB.out.cell (World.block_lt_of_cell? w _ hx306_1)).trans hx306_1
      replace hx306_2 := (HB.out.cell (World.block_lt_of_cell? w _ hx306_2)).trans hx306_2
      replace hx306_3 := (HB.out.cell (World.block_lt_of_cell? w _ hx306_3)).trans hx306_3
      replace hx306_4 := (HB.out.cell (World.block_lt_of_cell? w _ hx306_4)).trans hx306_4
      replace p306 := eq_true p306
      replace q306 := eq_true q306
      have p307 : 0 ≤ (x4_1 : Int) := of_decide_eq_true (by assumption)
      have q307 : x4_1 < (l0.length : Int) := of_decide_eq_true (by assumption)
      obtain ⟨ad307, e307, hx307_0, hx307_1, hx307_2, hx307_3, hx307_4⟩ := at_T117 HR0.out x4_1 p307 q307
      have hw307_4 := hx307_4
      have hw307_3 := hx307_3
      have hw307_2 := hx307_2
      have hw307_1 := hx307_1
      have hw307_0 := hx307_0
      obtain rfl : ad306 = ad307 := (by injection e307)
      replace hx307_0 := (HB.out.cell (World.block_lt_of_cell? w _ hx307_0)).trans hx307_0
      replace hx307_1 := (HB.out.cell (World.block_lt_of_cell? w _ hx307_1)).trans hx307_1
      replace hx307_2 := (HB.out.cell (World.block_lt_of_cell? w _ hx307_2)).trans hx307_2
      replace hx307_3 := (HB.out.cell (World.block_lt_of_cell? w _ hx307_3)).trans hx307_3
      replace hx307_4 := (HB.out.cell (World.block_lt_of_cell? w _ hx307_4)).trans hx307_4
      replace p307 := eq_true p307
      replace q307 := eq_true q307
      refine start_ (n := 15) (S := fun w' => w'.cell? (ad306.add ((x4_1).toNat * 5)) = some (.int .i64 ((rd_T117 l0 x4_1).f0)) ∧ w'.cell? ⟨(ad306.add ((x4_1).toNat * 5)).block, (ad306.add ((x4_1).toNat * 5)).off + 1, none⟩ = some (.int .i64 ((rd_T117 l0 x4_1).f1.f0)) ∧ w'.cell? ⟨(ad306.add ((x4_1).toNat * 5)).block, (ad306.add ((x4_1).toNat * 5)).off + 2, none⟩ = some (.int .i64 ((rd_T117 l0 x4_1).f1.f1)) ∧ w'.cell? ⟨(ad306.add ((x4_1).toNat * 5)).block, (ad306.add ((x4_1).toNat * 5)).off + 3, none⟩ = some (.int .i64 ((rd_T117 l0 x4_1).f1.f2)) ∧ w'.cell? ⟨(ad306.add ((x4_1).toNat * 5)).block, (ad306.add ((x4_1).toNat * 5)).off + 4, none⟩ = some (.int .i64 ((rd_T117 l0 x4_1).f1.f3)) ∧ w'.cell? (ad306.add ((x4_1).toNat * 5)) = some (.int .i64 ((rd_T117 l0 x4_1).f0)) ∧ w'.cell? ⟨(ad306.add ((x4_1).toNat * 5)).block, (ad306.add ((x4_1).toNat * 5)).off + 1, none⟩ = some (.int .i64 ((rd_T117 l0 x4_1).f1.f0)) ∧ w'.cell? ⟨(ad306.add ((x4_1).toNat * 5)).block, (ad306.add ((x4_1).toNat * 5)).off + 2, none⟩ = some (.int .i64 ((rd_T117 l0 x4_1).f1.f1)) ∧ w'.cell? ⟨(ad306.add ((x4_1).toNat * 5)).block, (ad306.add ((x4_1).toNat * 5)).off + 3, none⟩ = some (.int .i64 ((rd_T117 l0 x4_1).f1.f2)) ∧ w'.cell? ⟨(ad306.add ((x4_1).toNat * 5)).block, (ad306.add ((x4_1).toNat * 5)).off + 4, none⟩ = some (.int .i64 ((rd_T117 l0 x4_1).f1.f3))) (ds := []) #[false, false, false, false, false, false, false, false, false, false, false, false, false, false, false] (by kernel_rfl) rfl rfl ⟨((HB.out.cell (World.block_lt_of_cell? w _ hw306_0)).trans hw306_0), ((HB.out.cell (World.block_lt_of_cell? w _ hw306_1)).trans hw306_1), ((HB.out.cell (World.block_lt_of_cell? w _ hw306_2)).trans hw306_2), ((HB.out.cell (World.block_lt_of_cell? w _ hw306_3)).trans hw306_3), ((HB.out.cell (World.block_lt_of_cell? w _ hw306_4)).trans hw306_4), ((HB.out.cell (World.block_lt_of_cell? w _ hw307_0)).trans hw307_0), ((HB.out.cell (World.block_lt_of_cell? w _ hw307_1)).trans hw307_1), ((HB.out.cell (World.block_lt_of_cell? w _ hw307_2)).trans hw307_2), ((HB.out.cell (World.block_lt_of_cell? w _ hw307_3)).trans hw307_3), ((HB.out.cell (World.block_lt_of_cell? w _ hw307_4)).trans hw307_4)⟩ (fun hHeld => ?_); refine with_tabW parcloselaw40_rows.tab5 parcloselaw40_rows.bits5 (fun HT_ HW_ => ?_)
      generalize wr.drew = w5 at HO_3 HB hx306_0 hx306_1 hx306_2 hx306_3 hx306_4 hx307_0 hx307_1 hx307_2 hx307_3 hx307_4 hHeld ⊢
      refine pure_ (i := 0) (N := some 11) (v := ?_) (a' := ?_) #[true, false, false, false, false, false, false, false, false, false, false, false, false, false, false] rfl rfl (any_of HT_.out (by kernel_rfl)) (fun _ _ _ h => h) (Or.inl ⟨by rfl, ?_⟩) ?_ ?_
      rotate_left
      ·intro w'
       go_simp
       with_reducible rfl
      rotate_left
      ·simp only [Act.put, sB, i64_w, i32_w]
       rfl
      refine pure_ (i := 1) (N := some 12) (v := ?_) (a' := ?_) #[true, true, false, false, false, false, false, false, false, false, false, false, false, false, false] rfl rfl (any_of HT_.out (by kernel_rfl)) (fun _ _ _ h => h) (Or.inl ⟨by rfl, ?_⟩) ?_ ?_
      rotate_left
      ·intro w'
       go_simp
       with_reducible rfl
      rotate_left
      ·simp only [Act.put, sB, i64_w, i32_w]
       rfl
      refine pure_ (i := 2) (N := some 13) (v := ?_) (a' := ?_) #[true, true, true, false, false, false, false, false, false, false, false, false, false, false, false] rfl rfl (any_of HT_.out (by kernel_rfl)) (fun _ _ _ h => h) (Or.inl ⟨by rfl, ?_⟩) ?_ ?_
      rotate_left
      ·intro w'
       go_simp
       with_reducible rfl
      rotate_left
      ·simp only [Act.put, sB, i64_w, i32_w]
       rfl
      refine pure_ (i := 3) (N := some 14) (v := ?_) (a' := ?_) #[true, true, true, true, false, false, false, false, false, false, false, false, false, false, false] rfl rfl (any_of HT_.out (by kernel_rfl)) (fun _ _ _ h => h) (Or.inl ⟨by rfl, ?_⟩) ?_ ?_
      rotate_left
      ·intro w'
       go_simp
       with_reducible rfl
      rotate_left
      ·simp only [Act.put, sB, i64_w, i32_w]
       rfl
      refine pure_ (i := 4) (N := some 15) (v := ?_) (a' := ?_) #[true, true, true, true, true, false, false, false, false, false, false, false, false, false, false] rfl rfl (any_of HT_.out (by kernel_rfl)) (fun _ _ _ h => h) (Or.inl ⟨by rfl, ?_⟩) ?_ ?_
      rotate_left
      ·intro w'
       go_simp
       with_reducible rfl
      rotate_left
      ·simp only [Act.put, sB, i64_w, i32_w]
       rfl
      refine pure_ (i := 6) (N := some 17) (v := ?_) (a' := ?_) #[true, true, true, true, true, false, true, false, false, false, false, false, false, false, false] rfl rfl (any_of HT_.out (by kernel_rfl)) (fun _ _ _ h => h) (Or.inl ⟨by rfl, ?_⟩) ?_ ?_
      rotate_left
      ·intro w'
       go_simp
       with_reducible rfl
      rotate_left
      ·simp only [Act.put, sB, i64_w, i32_w]
       rfl
      refine pure_ (i := 7) (N := some 18) (v := ?_) (a' := ?_) #[true, true, true, true, true, false, true, true, false, false, false, false, false, false, false] rfl rfl (any_of HT_.out (by kernel_rfl)) (fun _ _ _ h => h) (Or.inl ⟨by rfl, ?_⟩) ?_ ?_
      rotate_left
      ·intro w'
       go_simp
       with_reducible rfl
      rotate_left
      ·simp only [Act.put, sB, i64_w, i32_w]
       rfl
      refine pure_ (i := 8) (N := some 19) (v := ?_) (a' := ?_) #[true, true, true, true, true, false, true, true, true, false, false, false, false, false, false] rfl rfl (any_of HT_.out (by kernel_rfl)) (fun _ _ _ h => h) (Or.inl ⟨by rfl, ?_⟩) ?_ ?_
      rotate_left
      ·intro w'
       go_simp
       with_reducible rfl
      rotate_left
      ·simp only [Act.put, sB, i64_w, i32_w]
       rfl
      refine pure_ (i := 9) (N := some 20) (v := ?_) (a' := ?_) #[true, true, true, true, true, false, true, true, true, true, false, false, false, false, false] rfl rfl (any_of HT_.out (by kernel_rfl)) (fun _ _ _ h => h) (Or.inl ⟨by rfl, ?_⟩) ?_ ?_
      rotate_left
      ·intro w'
       go_simp
       with_reducible rfl
      rotate_left
      ·simp only [Act.put, sB, i64_w, i32_w]
       rfl
      refine take_ (i := 5) (N := some 16) (v := ?_) (a' := ?_) #[true, true, true, true, true, true, true, true, true, true, false, false, false, false, false] rfl rfl (take_ofW HT_.out HW_.out (by kernel_rfl)) (fun _ _ _ h => h) (Or.inl ⟨by rfl, ?_⟩) hHeld ?_ ?_
      rotate_left
      ·rintro w' ⟨s0, s1, s2, s3, s4, s5, s6, s7, s8, s9⟩
       go_simp
       with_reducible rfl
      rotate_left
      ·simp only [Act.put, sB, i64_w, i32_w]
       rfl
      refine take_ (i := 10) (N := some 21) (v := ?_) (a' := ?_) #[true, true, true, true, true, true, true, true, true, true, true, false, false, false, false] rfl rfl (take_ofW HT_.out HW_.out (by kernel_rfl)) (fun _ _ _ h => h) (Or.inl ⟨by rfl, ?_⟩) hHeld ?_ ?_
      rotate_left
      ·rintro w' ⟨s0, s1, s2, s3, s4, s5, s6, s7, s8, s9⟩
       go_simp
       with_reducible rfl
      rotate_left
      ·simp only [Act.put, sB, i64_w, i32_w]
       rfl
      refine pure_ (i := 11) (N := some 22) (v := ?_) (a' := ?_) #[true, true, true, true, true, true, true, true, true, true, true, true, false, false, false] rfl rfl (any_of HT_.out (by kernel_rfl)) (fun _ _ _ h => h) (Or.inl ⟨by rfl, ?_⟩) ?_ ?_
      rotate_left
      ·intro w'
       go_simp
       with_reducible rfl
      rotate_left
      ·simp only [Act.put, sB, i64_w, i32_w]
       rfl
      refine one_ (i := 12) (N := some 23) #[true, true, true, true, true, true, true, true, true, true, true, true, true, false, false] rfl rfl (one_of HT_.out (by kernel_rfl)) (by decide) (fun K hK => ?_)
      refine value_ (w1 := ?_) (v := ?_) (by rfl) rfl ?_ ?_
      rotate_left 2
      ·go_simp
       constructor
       ·rfl
       ·rfl
      refine hK.out _ _ ⟨(World.cell?_alloc_lt _ _ _ (World.block_lt_of_cell? _ _ (((HB.out.cell (World.block_lt_of_cell? w _ hw306_0)).trans hw306_0)))).trans (((HB.out.cell (World.block_lt_of_cell? w _ hw306_0)).trans hw306_0)), (World.cell?_alloc_lt _ _ _ (World.block_lt_of_cell? _ _ (((HB.out.cell (World.block_lt_of_cell? w _ hw306_1)).trans hw306_1)))).trans (((HB.out.cell (World.block_lt_of_cell? w _ hw306_1)).trans hw306_1)), (World.cell?_alloc_lt _ _ _ (World.block_lt_of_cell? _ _ (((HB.out.cell (World.block_lt_of_cell? w _ hw306_2)).trans hw306_2)))).trans (((HB.out.cell (World.block_lt_of_cell? w _ hw306_2)).trans hw306_2)), (World.cell?_alloc_lt _ _ _ (World.block_lt_of_cell? _ _ (((HB.out.cell (World.block_lt_of_cell? w _ hw306_3)).trans hw306_3)))).trans (((HB.out.cell (World.block_lt_of_cell? w _ hw306_3)).trans hw306_3)), (World.cell?_alloc_lt _ _ _ (World.block_lt_of_cell? _ _ (((HB.out.cell (World.block_lt_of_cell? w _ hw306_4)).trans hw306_4)))).trans (((HB.out.cell (World.block_lt_of_cell? w _ hw306_4)).trans hw306_4)), (World.cell?_alloc_lt _ _ _ (World.block_lt_of_cell? _ _ (((HB.out.cell (World.block_lt_of_cell? w _ hw307_0)).trans hw307_0)))).trans (((HB.out.cell (World.block_lt_of_cell? w _ hw307_0)).trans hw307_0)), (World.cell?_alloc_lt _ _ _ (World.block_lt_of_cell? _ _ (((HB.out.cell (World.block_lt_of_cell? w _ hw307_1)).trans hw307_1)))).trans (((HB.out.cell (World.block_lt_of_cell? w _ hw307_1)).trans hw307_1)), (World.cell?_alloc_lt _ _ _ (World.block_lt_of_cell? _ _ (((HB.out.cell (World.block_lt_of_cell? w _ hw307_2)).trans hw307_2)))).trans (((HB.out.cell (World.block_lt_of_cell? w _ hw307_2)).trans hw307_2)), (World.cell?_alloc_lt _ _ _ (World.block_lt_of_cell? _ _ (((HB.out.cell (World.block_lt_of_cell? w _ hw307_3)).trans hw307_3)))).trans (((HB.out.cell (World.block_lt_of_cell? w _ hw307_3)).trans hw307_3)), (World.cell?_alloc_lt _ _ _ (World.block_lt_of_cell? _ _ (((HB.out.cell (World.block_lt_of_cell? w _ hw307_4)).trans hw307_4)))).trans (((HB.out.cell (World.block_lt_of_cell? w _ hw307_4)).trans hw307_4))⟩ (fun hHeld => ?_)
      clear hK K
      refine norm_ (a' := ?_) ?_ ?_
      rotate_left
      ·show Act.put _ (some 23) _ = _
       simp only [Act.put, sB, i64_w, i32_w]
       rfl
      refine one_ (i := 13) (N := some 24) #[true, true, true, true, true, true, true, true, true, true, true, true, true, true, false] rfl rfl (one_of HT_.out (by kernel_rfl)) (by decide) (fun K hK => ?_)
      refine Kd.R_append_step k67 (w0 := w) w.heap.size (by rfl) (.tmp 11) (.tmp 23) 56 67 (.agg #[(.int .i64 0), (.int .i64 0), (.int .i64 0), (.int .i64 0), (.int .i64 0)]) 40 rfl Try.underlying56 info67 rfl (by decide) (by omega) u3 x3_1 (⟨(rd_T117 l0 x4_1).f0, (⟨(rd_T117 l0 x4_1).f1.f0, (rd_T117 l0 x4_1).f1.f1, (rd_T117 l0 x4_1).f1.f2, (rd_T117 l0 x4_1).f1.f3⟩ : S65)⟩ : S67) [.int .i64 ((rd_T117 l0 x4_1).f0), .int .i64 ((rd_T117 l0 x4_1).f1.f0), .int .i64 ((rd_T117 l0 x4_1).f1.f1), .int .i64 ((rd_T117 l0 x4_1).f1.f2), .int .i64 ((rd_T117 l0 x4_1).f1.f3)] (fun _ => True) (fun _ => False) rfl rfl ?aP (fun _ hk => hk.elim) ?aF ?aO ?aB ?aS ?aL ?_
      (case aP => exact k67_mkM _ _ _ (⟨(rd_T117 l0 x4_1).f0, (⟨(rd_T117 l0 x4_1).f1.f0, (rd_T117 l0 x4_1).f1.f1, (rd_T117 l0 x4_1).f1.f2, (rd_T117 l0 x4_1).f1.f3⟩ : S65)⟩ : S67))
      (case aB => exact (by repeat (first | (with_reducible first | exact HB.out | apply wa | apply wn | apply wd) | exact HB.out)))
      (case aF => exact (fun _ _ => trivial))
      (case aO => exact (by (with_reducible repeat (first | apply Kd.R_alloc | apply Kd.R_drewN | apply Kd.R_drew)); exact HO_3.out))
      (case aS => exact (below_size (by repeat (first | (with_reducible first | exact HB.out | apply wa | apply wn | apply wd) | exact HB.out))))
      (case aL => have := LMc4.out; omega)
      intro v309 w6 ho hb hg hat
      rw [← Ny308.out] at ho
      have n0_ := asd (hb)
      have n1_ := asd (ho)
      clear HB
      clear HO_3
      have HB := n0_
      have HO310 := n1_
      clear n0_ n1_
      clear ho hb hg hat
      refine hK.out _ _ ⟨((HB.out.cell (World.block_lt_of_cell? w _ hw306_0)).trans hw306_0), ((HB.out.cell (World.block_lt_of_cell? w _ hw306_1)).trans hw306_1), ((HB.out.cell (World.block_lt_of_cell? w _ hw306_2)).trans hw306_2), ((HB.out.cell (World.block_lt_of_cell? w _ hw306_3)).trans hw306_3), ((HB.out.cell (World.block_lt_of_cell? w _ hw306_4)).trans hw306_4), ((HB.out.cell (World.block_lt_of_cell? w _ hw307_0)).trans hw307_0), ((HB.out.cell (World.block_lt_of_cell? w _ hw307_1)).trans hw307_1), ((HB.out.cell (World.block_lt_of_cell? w _ hw307_2)).trans hw307_2), ((HB.out.cell (World.block_lt_of_cell? w _ hw307_3)).trans hw307_3), ((HB.out.cell (World.block_lt_of_cell? w _ hw307_4)).trans hw307_4)⟩ (fun hHeld => ?_)
      clear hK K
      refine norm_ (a' := ?_) ?_ ?_
      rotate_left
      ·show Act.put _ (some 24) _ = _
       simp only [Act.put, sB, i64_w, i32_w]
       rfl
      refine pure_ (i := 14) (N := some 3) (v := ?_) (a' := ?_) #[true, true, true, true, true, true, true, true, true, true, true, true, true, true, true] rfl rfl (any_of HT_.out (by kernel_rfl)) (fun _ _ _ h => h) (Or.inl ⟨by rfl, ?_⟩) ?_ ?_
      rotate_left
      ·intro w'
       go_simp
       with_reducible rfl
      rotate_left
      ·simp only [Act.put, sB, i64_w, i32_w]
       rfl
      refine done_ (done_of HT_.out (by kernel_rfl)) ?_
      try go_wp2
      go_roundg k1
      case measure => have := HK1.out; omega
      case rel => exact ⟨(y308), (wrap64 (x4_1 + 1)), (by first | rfl | (simp; done) | (simp [*]; done)), H', ⟨by have := HK1.out; omega⟩, ⟨by (with_reducible repeat (first | apply Kd.R_alloc | apply Kd.R_drewN | apply Kd.R_drew)); exact HO310.out⟩, ⟨by repeat (first | (with_reducible first | exact HB.out | apply wa | apply wn | apply wd) | exact HB.out)⟩⟩
     ·rw [if_neg c4] at H
      exact absurd H (by simp)
    ·rw [if_neg c3] at H
     exact absurd H (by simp)
   ·rw [if_neg c2] at H
    have c2b0 : decide (x4_1 < (l0.length : Int)) = false := decide_eq_false c2
    clear c2
    obtain rfl := Option.some.inj H
    go_wp2
    go_ret
    exact ⟨_, by first | rfl | (simp [*] <;> rfl), by (with_reducible repeat (first | apply Kd.R_alloc | apply Kd.R_drewN | apply Kd.R_drew)); exact HO_3.out, by repeat (first | (with_reducible first | exact HB.out | apply wa | apply wn | apply wd) | exact HB.out)⟩
end Go.Proofs.Ytalimpniimgheaa.Fn
namespace Go.Proofs.Ytalimpniimgheaa.Fn
open Go.RowKit Go.Proofs.YtalimpniimgheaaW.PrintWords Go.Proofs.YtalimpniimgheaaW.PrintLast Go.Proofs.YtalimpniimgheaaW.PrintMore
attribute [local go_sem] max2_int min2_int max_two min_two max_three min_three max_four min_four
set_option linter.unusedVariables false
set_option linter.unusedSimpArgs false
mutual
def parcloseref40_Split.l0 : Nat → List (S117) → Int → List (List (S64)) → Int → Option ((List (List (S64))))
 | 0, _, _, _, _ => none
 | k + 1, x0, x1, x5, x6 => if x6 < x1 then (parcloseref40_Split.l1 k x0 x1 x5 x6 ([] : List (S64)) 0) else (some x5)
def parcloseref40_Split.l1 : Nat → List (S117) → Int → List (List (S64)) → Int → List (S64) → Int → Option ((List (List (S64))))
 | 0, _, _, _, _, _, _ => none
 | k + 1, x0, x1, x5, x6, x7, x8 => if x8 < (x0.length : Int) then (if 0 ≤ x8 then (if ((rd_T117 x0 x8).f0) = x6 then (if x7.length < 4398046511104 then (parcloseref40_Split.l1 k x0 x1 x5 x6 (x7 ++ [(⟨(rd_T117 x0 x8).f1.f0, (rd_T117 x0 x8).f1.f1, (rd_T117 x0 x8).f1.f2, (rd_T117 x0 x8).f1.f3⟩ : S64)]) (wrap64 (x8 + 1))) else (none)) else (parcloseref40_Split.l1 k x0 x1 x5 x6 x7 (wrap64 (x8 + 1)))) else (none)) else (if x5.length < 5864062014805 then (parcloseref40_Split.l0 k x0 x1 (x5 ++ [x7]) (wrap64 (x6 + 1))) else (none))
end
def parcloseref40_Split.f (k : Nat) (l0 : List (S117)) (a1 : Int) : Option ((List (List (S64)))) := parcloseref40_Split.l0 k l0 (mn (mx a1 0) 64) ([] : List (List (S64))) 0
set_option maxHeartbeats 8000000 in
set_option maxRecDepth 100000 in
theorem parcloseref40_Split.calls (k : Nat) (A0 : Option Addr) (c0 : Nat) (l0 : List (S117)) (a1 : Int) (r : List (List (S64))) (w : World) (hr0 : Kd.C k117 w A0 l0.length l0) (hc0 : l0.length ≤ c0) (h : parcloseref40_Split.f k l0 a1 = some r) :
  Calls Try.prog 47 #[.slice A0 l0.length c0, .int .i64 a1] w fun e w' => ∃ v0_ : Value, e = .returned (v0_) ∧ Kd.S (Kd.slice 64 k64) 29 w' w.heap.size (fun _ => True) v0_ r ∧ Below w.heap.size w w' := by
 have hu64 := Try.underlying64
 have HR0 := asd hr0
 have HC0 := asd hc0
 clear hr0 hc0
 have HB := asd (Below.refl w.heap.size w)
 have H : (parcloseref40_Split.l0 k l0 (mn (mx a1 0) 64) ([] : List (List (S64))) 0) = some r := h
 clear h
 obtain ⟨ji3, hji3⟩ : ∃ j_ : Int, (mx a1 0) = j_ := ⟨_, rfl⟩
 replace H : (parcloseref40_Split.l0 k l0 (mn (ji3) 64) ([] : List (List (S64))) 0) = some r := by first | (rw [hji3] at H; exact H) | (simp only [hji3] at H ⊢; exact H)
 (try (have hji3l : 0 ≤ ji3 := by (rw [← hji3]; unfold mx; (repeat' split) <;> omega)))
 (try (have hji3m : 0 ≤ ji3 := by omega))
 have hji3_ : (if a1 < 0 then 0 else a1) = ji3 := hji3
 obtain ⟨ji4, hji4⟩ : ∃ j_ : Int, (mn (ji3) 64) = j_ := ⟨_, rfl⟩
 replace H : (parcloseref40_Split.l0 k l0 ji4 ([] : List (List (S64))) 0) = some r := by first | (rw [hji4] at H; exact H) | (simp only [hji4] at H ⊢; exact H)
 have hji4_ : (if 64 < (ji3) then 64 else (ji3)) = ji4 := hji4
 have H' := asd H
 clear H
 go_enter Try.func47, Try.ntmps47
 go_wp2
 go_loopg [5, 6] k (fun kq v5 v6 w' => ∃ (x5_1 : List (List (S64))) (x6_1 : Int), v6 = .int .i64 x6_1 ∧ Aside0 (parcloseref40_Split.l0 kq l0 ji4 x5_1 x6_1 = some r) ∧ Aside0 (kq ≤ k) ∧ Aside0 (Kd.S (Kd.slice 64 k64) 29 w' w.heap.size (fun _ => True) v5 x5_1) ∧ Aside0 (Below w.heap.size w w'))
 case atStart => exact ⟨(([] : List (List (S64)))), (0), (by first | rfl | (simp; done) | (simp [*]; done)), H', ⟨Nat.le_refl _⟩, ⟨by first | exact Kd.S_nil _ _ _ _ _ | exact Kd.N_nil _ _ _ _ _ | exact Kd.V_nil _ _ _ _ _ | exact Kd.Q_nil _ _ _ _ _ | exact Kd.R_nil _ _ _ _ _⟩, ⟨by repeat (first | (with_reducible first | exact HB.out | apply wa | apply wn | apply wd) | exact HB.out)⟩⟩
 case round =>
  clear H'
  try clear p2
  try clear c4
  obtain ⟨x5_1, x6_1, rfl, HA, HK1, HO_5, HB⟩ := hrel
  cases gk with
  | zero => exact absurd HA.out (by simp [parcloseref40_Split.l0])
  | succ k1 =>
   have H := HA.out
   clear HA
   simp only [parcloseref40_Split.l0] at H
   by_cases c5 : x6_1 < ji4
   ·rw [if_pos c5] at H
    have c5b0 : decide (x6_1 < ji4) = true := decide_eq_true c5
    clear c5
    have H' := asd H
    clear H
    go_wp2
    go_loopg [7, 8] k1 (fun kq v7 v8 w' => ∃ (x7_2 : List (S64)) (x8_2 : Int), v8 = .int .i64 x8_2 ∧ Aside0 (parcloseref40_Split.l1 kq l0 ji4 x5_1 x6_1 x7_2 x8_2 = some r) ∧ Aside0 (kq ≤ k1) ∧ Aside0 (Kd.S (Kd.slice 64 k64) 29 w' w.heap.size (fun k_ => some k_ ≠ (v7 : Value).ownBlock) u5 x5_1) ∧ Aside0 (Kd.R k64 64 w' w.heap.size (fun _ => True) v7 x7_2) ∧ Aside0 (Below w.heap.size w w'))
    case atStart => exact ⟨(([] : List (S64))), (0), (by first | rfl | (simp; done) | (simp [*]; done)), H', ⟨Nat.le_refl _⟩, ⟨by (with_reducible repeat (first | apply Kd.S_alloc | apply Kd.S_drewN | apply Kd.S_drew)); exact Kd.S_mono HO_5.out (fun _ hk => (by simp [Value.ownBlock]))⟩, ⟨by first | exact Kd.R_nil _ _ _ _ _ | exact Kd.N_nil _ _ _ _ _ | exact Kd.V_nil _ _ _ _ _ | exact Kd.Q_nil _ _ _ _ _ | exact Kd.S_nil _ _ _ _ _⟩, ⟨by repeat (first | (with_reducible first | exact HB.out | apply wa | apply wn | apply wd) | exact HB.out)⟩⟩
    case round =>
     clear H'
     try clear p2
     try clear c4
     try clear c5
     try clear c5b0
     try clear p2
     obtain ⟨x7_2, x8_2, rfl, HA, HK2, HO_5, HO_7, HB⟩ := hrel
     cases gk with
     | zero => exact absurd HA.out (by simp [parcloseref40_Split.l1])
     | succ k2 =>
      have H := HA.out
      clear HA
      simp only [parcloseref40_Split.l1] at H
      by_cases c6 : x8_2 < (l0.length : Int)
      ·rw [if_pos c6] at H
       have c6b0 : decide (x8_2 < (l0.length : Int)) = true := decide_eq_true c6
       clear c6
       by_cases c7 : 0 ≤ x8_2
       ·rw [if_pos c7] at H
        have c7b0 : decide (0 ≤ x8_2) = true := decide_eq_true c7
        clear c7
        by_cases c8 : ((rd_T117 l0 x8_2).f0) = x6_1
        ·rw [if_pos c8] at H
         have c8b0 : (((rd_T117 l0 x8_2).f0) == x6_1) = true := beq_iff_eq.mpr c8
         have c8b1 : (((rd_T117 l0 x8_2).f0) != x6_1) = false := bne_eq_false_iff_eq.mpr c8
         clear c8
         by_cases c9 : x7_2.length < 4398046511104
         ·rw [if_pos c9] at H
          have LMc9 := asd c9
          clear c9
          obtain ⟨y313, hy313⟩ : ∃ y_ : List (S64), y_ = (x7_2 ++ [(⟨(rd_T117 l0 x8_2).f1.f0, (rd_T117 l0 x8_2).f1.f1, (rd_T117 l0 x8_2).f1.f2, (rd_T117 l0 x8_2).f1.f3⟩ : S64)]) := ⟨_, rfl⟩
          replace H : (parcloseref40_Split.l1 k2 l0 ji4 x5_1 x6_1 y313 (wrap64 (x8_2 + 1))) = some r := by first | (rw [hy313]; with_reducible exact H) | (have H2_ := (Option.bind_some _ _).symm.trans H; rw [hy313]; with_reducible exact H2_) | (have H2_ := (Option.bind_some _ _).symm.trans H; with_reducible exact H2_) | with_reducible exact H | (rw [hy313]; exact H) | exact H
          have Ny313 := asd hy313
          clear hy313
          have H' := asd H
          clear H
          have p311 : 0 ≤ (x8_2 : Int) := of_decide_eq_true (by assumption)
          have q311 : x8_2 < (l0.length : Int) := of_decide_eq_true (by assumption)
          obtain ⟨ad311, e311, hx311_0, hx311_1, hx311_2, hx311_3, hx311_4⟩ := at_T117 HR0.out x8_2 p311 q311
          cases e311
          replace hx311_0 := (HB.out.cell (World.block_lt_of_cell? w _ hx311_0)).trans hx311_0
          replace hx311_1 := (HB.out.cell (World.block_lt_of_cell? w _ hx311_1)).trans hx311_1
          replace hx311_2 := (HB.out.cell (World.block_lt_of_cell? w _ hx311_2)).trans hx311_2
          replace hx311_3 := (HB.out.cell (World.block_lt_of_cell? w _ hx311_3)).trans hx311_3
          replace hx311_4 := (HB.out.cell (World.block_lt_of_cell? w _ hx311_4)).trans hx311_4
          replace p311 := eq_true p311
          replace q311 := eq_true q311
          have p312 : 0 ≤ (x8_2 : Int) := of_decide_eq_true (by assumption)
          have q312 : x8_2 < (l0.length : Int) := of_decide_eq_true (by assumption)
          obtain ⟨ad312, e312, hx312_0, hx312_1, hx312_2, hx312_3, hx312_4⟩ := at_T117 HR0.out x8_2 p312 q312
          obtain rfl : ad311 = ad312 := (by injection e312)
          replace hx312_0 := (HB.out.cell (World.block_lt_of_cell? w _ hx312_0)).trans hx312_0
          replace hx312_1 := (HB.out.cell (World.block_lt_of_cell? w _ hx312_1)).trans hx312_1
          replace hx312_2 := (HB.out.cell (World.block_lt_of_cell? w _ hx312_2)).trans hx312_2
          replace hx312_3 := (HB.out.cell (World.block_lt_of_cell? w _ hx312_3)).trans hx312_3
          replace hx312_4 := (HB.out.cell (World.block_lt_of_cell? w _ hx312_4)).trans hx312_4
          replace p312 := eq_true p312
          replace q312 := eq_true q312
          go_wp2_with (first | ((with_reducible refine gate_builtin (b := .append) (xs := #[.tmp 30, .tmp 36]) rfl ?_); at_builtin; refine Kd.R_append k64 (w0 := w) w.heap.size rfl (.tmp 30) (.tmp 36) 29 64 (.agg #[(.int .i64 0), (.int .i64 0), (.int .i64 0), (.int .i64 0)]) 32 rfl Try.underlying29 info64 rfl (by decide) (by omega) u7 x7_2 (⟨(rd_T117 l0 x8_2).f1.f0, (rd_T117 l0 x8_2).f1.f1, (rd_T117 l0 x8_2).f1.f2, (rd_T117 l0 x8_2).f1.f3⟩ : S64) [.int .i64 ((rd_T117 l0 x8_2).f1.f0), .int .i64 ((rd_T117 l0 x8_2).f1.f1), .int .i64 ((rd_T117 l0 x8_2).f1.f2), .int .i64 ((rd_T117 l0 x8_2).f1.f3)] (fun _ => True) (fun _ => False) rfl rfl ?aP (fun _ hk => hk.elim) ?aF ?aO ?aB ?aS ?aL ?_; (case aP => exact k64_mkM _ _ _ (⟨(rd_T117 l0 x8_2).f1.f0, (rd_T117 l0 x8_2).f1.f1, (rd_T117 l0 x8_2).f1.f2, (rd_T117 l0 x8_2).f1.f3⟩ : S64)); (case aB => exact (by repeat (first | (with_reducible first | exact HB.out | apply wa | apply wn | apply wd) | exact HB.out))); (case aF => exact (fun _ _ => trivial)); (case aO => exact (by (with_reducible repeat (first | apply Kd.R_alloc | apply Kd.R_drewN | apply Kd.R_drew)); exact HO_7.out)); (case aS => exact (below_size (by repeat (first | (with_reducible first | exact HB.out | apply wa | apply wn | apply wd) | exact HB.out)))); (case aL => have := LMc9.out; omega); intro v314 w10 ho hb hg hat; rw [← Ny313.out] at ho; have n0_ := asd (Kd.S_after (ok := (fun _ => True)) (by (with_reducible repeat (first | apply Kd.S_alloc | apply Kd.S_drewN | apply Kd.S_drew)); exact Kd.S_mono HO_5.out (fun _ hk => ⟨trivial, hk⟩)) hg hat); have n1_ := asd (hb); have n2_ := asd (ho); clear HO_5; clear HB; clear HO_7; have HO_5 := n0_; have HB := n1_; have HO315 := n2_; clear n0_ n1_ n2_; clear ho hb hg hat))
          go_roundg k2
          case measure => have := HK1.out; have := HK2.out; omega
          case rel => exact ⟨(y313), (wrap64 (x8_2 + 1)), (by first | rfl | (simp; done) | (simp [*]; done)), H', ⟨by have := HK1.out; have := HK2.out; omega⟩, ⟨by (with_reducible repeat (first | apply Kd.S_alloc | apply Kd.S_drewN | apply Kd.S_drew)); exact Kd.S_mono HO_5.out (fun _ hk => hk.2)⟩, ⟨by (with_reducible repeat (first | apply Kd.R_alloc | apply Kd.R_drewN | apply Kd.R_drew)); exact HO315.out⟩, ⟨by repeat (first | (with_reducible first | exact HB.out | apply wa | apply wn | apply wd) | exact HB.out)⟩⟩
         ·rw [if_neg c9] at H
          exact absurd H (by simp)
        ·rw [if_neg c8] at H
         have c8b0 : (((rd_T117 l0 x8_2).f0) == x6_1) = false := beq_eq_false_iff_ne.mpr c8
         have c8b1 : (((rd_T117 l0 x8_2).f0) != x6_1) = true := bne_iff_ne.mpr c8
         have H' := asd H
         clear H
         have p311 : 0 ≤ (x8_2 : Int) := of_decide_eq_true (by assumption)
         have q311 : x8_2 < (l0.length : Int) := of_decide_eq_true (by assumption)
         obtain ⟨ad311, e311, hx311_0, hx311_1, hx311_2, hx311_3, hx311_4⟩ := at_T117 HR0.out x8_2 p311 q311
         cases e311
         replace hx311_0 := (HB.out.cell (World.block_lt_of_cell? w _ hx311_0)).trans hx311_0
         replace hx311_1 := (HB.out.cell (World.block_lt_of_cell? w _ hx311_1)).trans hx311_1
         replace hx311_2 := (HB.out.cell (World.block_lt_of_cell? w _ hx311_2)).trans hx311_2
         replace hx311_3 := (HB.out.cell (World.block_lt_of_cell? w _ hx311_3)).trans hx311_3
         replace hx311_4 := (HB.out.cell (World.block_lt_of_cell? w _ hx311_4)).trans hx311_4
         replace p311 := eq_true p311
         replace q311 := eq_true q311
         go_wp2
         go_roundg k2
         case measure => have := HK1.out; have := HK2.out; omega
         case rel => exact ⟨(x7_2), (wrap64 (x8_2 + 1)), (by first | rfl | (simp; done) | (simp [*]; done)), H', ⟨by have := HK1.out; have := HK2.out; omega⟩, ⟨by (with_reducible repeat (first | apply Kd.S_alloc | apply Kd.S_drewN | apply Kd.S_drew)); exact HO_5.out⟩, ⟨by (with_reducible repeat (first | apply Kd.R_alloc | apply Kd.R_drewN | apply Kd.R_drew)); exact HO_7.out⟩, ⟨by repeat (first | (with_reducible first | exact HB.out | apply wa | apply wn | apply wd) | exact HB.out)⟩⟩
       ·rw [if_neg c7] at H
        exact absurd H (by simp)
      ·rw [if_neg c6] at H
       have c6b0 : decide (x8_2 < (l0.length : Int)) = false := decide_eq_false c6
       clear c6
       by_cases c11 : x5_1.length < 5864062014805
       ·rw [if_pos c11] at H
        have LMc11 := asd c11
        clear c11
        obtain ⟨y316, hy316⟩ : ∃ y_ : List (List (S64)), y_ = (x5_1 ++ [x7_2]) := ⟨_, rfl⟩
        replace H : (parcloseref40_Split.l0 k2 l0 ji4 y316 (wrap64 (x6_1 + 1))) = some r := by first | (rw [hy316]; with_reducible exact H) | (have H2_ := (Option.bind_some _ _).symm.trans H; rw [hy316]; with_reducible exact H2_) | (have H2_ := (Option.bind_some _ _).symm.trans H; with_reducible exact H2_) | with_reducible exact H | (rw [hy316]; exact H) | exact H
        have Ny316 := asd hy316
        clear hy316
        have H' := asd H
        clear H
        obtain ⟨Ao13, co13, eo13⟩ := Kd.R_slice HO_7.out
        subst eo13
        go_wp2_with (first | ((with_reducible refine gate_builtin (b := .append) (xs := #[.tmp 38, .tmp 40]) rfl ?_); at_builtin; refine Kd.S_append (Kd.slice 64 k64) (w0 := w) w.heap.size rfl (.tmp 38) (.tmp 40) 22 29 (.slice none 0 0) 24 rfl Try.underlying22 info29 rfl (by decide) (by omega) u5 x5_1 x7_2 [.slice Ao13 x7_2.length co13] (fun _ => True) (fun k_ => some k_ = (.slice Ao13 x7_2.length co13 : Value).ownBlock) rfl rfl ?aP (fun k_ hk_ => ((Kd.R_mono (ok' := fun k_ => ((fun _ => True)) k_ ∧ some k_ ≠ (u5 : Value).ownBlock) (Kd.R_apart' (HO_7.out) (Kd.S_typed HO_5.out) (by decide)) (fun k_ hk => ⟨trivial, hk.2⟩))).1 k_ hk_.symm) ?aF ?aO ?aB ?aS ?aL ?_; (case aP => exact Kd.M_row (Kd.R_mono (Kd.R_tight rfl (Kd.R_mono (ok' := fun k_ => ((fun _ => True)) k_ ∧ some k_ ≠ (u5 : Value).ownBlock) (Kd.R_apart' (HO_7.out) (Kd.S_typed HO_5.out) (by decide)) (fun k_ hk => ⟨trivial, hk.2⟩))) (fun _ h_ => h_))); (case aB => exact (by repeat (first | (with_reducible first | exact HB.out | apply wa | apply wn | apply wd) | exact HB.out))); (case aF => exact (fun _ _ => trivial)); (case aO => exact (by (with_reducible repeat (first | apply Kd.S_alloc | apply Kd.S_drewN | apply Kd.S_drew)); exact Kd.S_mono HO_5.out (fun k_ hk => ⟨trivial, fun e_ => hk e_⟩))); (case aS => exact (below_size (by repeat (first | (with_reducible first | exact HB.out | apply wa | apply wn | apply wd) | exact HB.out)))); (case aL => have := LMc11.out; omega); intro v317 w12 ho hb hg hat; rw [← Ny316.out] at ho; have n0_ := asd (hb); have n1_ := asd (ho); clear HB; clear HO_5; clear HO_7; have HB := n0_; have HO318 := n1_; clear n0_ n1_; clear ho hb hg hat))
        go_roundg k2
        case measure => have := HK1.out; have := HK2.out; omega
        case rel => exact ⟨(y316), (wrap64 (x6_1 + 1)), (by first | rfl | (simp; done) | (simp [*]; done)), H', ⟨by have := HK1.out; have := HK2.out; omega⟩, ⟨by (with_reducible repeat (first | apply Kd.S_alloc | apply Kd.S_drewN | apply Kd.S_drew)); exact HO318.out⟩, ⟨by repeat (first | (with_reducible first | exact HB.out | apply wa | apply wn | apply wd) | exact HB.out)⟩⟩
       ·rw [if_neg c11] at H
        exact absurd H (by simp)
   ·rw [if_neg c5] at H
    have c5b0 : decide (x6_1 < ji4) = false := decide_eq_false c5
    clear c5
    obtain rfl := Option.some.inj H
    go_wp2
    go_ret
    exact ⟨_, by first | rfl | (simp [errW_none, errW_some] <;> rfl) | (simp only [← hji3, ← hji4]; first | rfl | (simp [errW_none, errW_some] <;> rfl)) | (simp [*, errW_none, errW_some] <;> rfl), by (with_reducible repeat (first | apply Kd.S_alloc | apply Kd.S_drewN | apply Kd.S_drew)); exact HO_5.out, by repeat (first | (with_reducible first | exact HB.out | apply wa | apply wn | apply wd) | exact HB.out)⟩
end Go.Proofs.Ytalimpniimgheaa.Fn
namespace Go.Proofs.Ytalimpniimgheaa.Fn
open Go.RowKit Go.Proofs.YtalimpniimgheaaW.PrintWords Go.Proofs.YtalimpniimgheaaW.PrintLast Go.Proofs.YtalimpniimgheaaW.PrintMore
attribute [local go_sem] max2_int min2_int max_two min_two max_three min_three max_four min_four
set_option linter.unusedVariables false
set_option linter.unusedSimpArgs false
mutual
def parcloseref40_Count.l0 : Nat → List (S117) → Int → Int → Int → Option (List Int)
 | 0, _, _, _, _ => none
 | k + 1, x0, x1, x5, x6 => if x6 < (x0.length : Int) then (if 0 ≤ x6 then (if ((rd_T117 x0 x6).f0) ≥ 0 then (if ((rd_T117 x0 x6).f0) < 64 then (parcloseref40_Count.l0 k x0 x1 (mx x5 ((rd_T117 x0 x6).f0)) (wrap64 (x6 + 1))) else (parcloseref40_Count.l0 k x0 x1 x5 (wrap64 (x6 + 1)))) else (parcloseref40_Count.l0 k x0 x1 x5 (wrap64 (x6 + 1)))) else (none)) else (if 0 ≤ (wrap64 (x5 + 1)) then (if (wrap64 (x5 + 1) : Int).toNat ≤ 35184372088832 then (parcloseref40_Count.l1 k x0 x1 (List.replicate (wrap64 (x5 + 1) : Int).toNat 0) 0) else (none)) else (none))
def parcloseref40_Count.l1 : Nat → List (S117) → Int → List Int → Int → Option (List Int)
 | 0, _, _, _, _ => none
 | k + 1, x0, x1, x7, x8 => if x8 < (x0.length : Int) then (if 0 ≤ x8 then (if ((rd_T117 x0 x8).f0) ≥ 0 then (if ((rd_T117 x0 x8).f0) < 64 then (if ((rd_T117 x0 x8).f1.f1) = x1 then (if 0 ≤ ((rd_T117 x0 x8).f0) then (if ((rd_T117 x0 x8).f0) < (x7.length : Int) then (parcloseref40_Count.l1 k x0 x1 (x7.set (((rd_T117 x0 x8).f0) : Int).toNat (wrap64 ((rd x7 ((rd_T117 x0 x8).f0)) + 1))) (wrap64 (x8 + 1))) else (none)) else (none)) else (parcloseref40_Count.l1 k x0 x1 x7 (wrap64 (x8 + 1)))) else (parcloseref40_Count.l1 k x0 x1 x7 (wrap64 (x8 + 1)))) else (parcloseref40_Count.l1 k x0 x1 x7 (wrap64 (x8 + 1)))) else (none)) else (some x7)
end
def parcloseref40_Count.f (k : Nat) (l0 : List (S117)) (a1 : Int) : Option (List Int) := parcloseref40_Count.l0 k l0 a1 (-1) 0
set_option maxHeartbeats 8000000 in
set_option maxRecDepth 100000 in
theorem parcloseref40_Count.calls (k : Nat) (A0 : Option Addr) (c0 : Nat) (l0 : List (S117)) (a1 : Int) (r : List Int) (w : World) (hr0 : Kd.C k117 w A0 l0.length l0) (hc0 : l0.length ≤ c0) (h : parcloseref40_Count.f k l0 a1 = some r) :
  Calls Try.prog 49 #[.slice A0 l0.length c0, .int .i64 a1] w fun e w' => ∃ v0_ : Value, e = .returned (v0_) ∧ Kd.R (Kd.int .i64) 3 w' w.heap.size (fun _ => True) v0_ r ∧ Below w.heap.size w w' := by
 have HR0 := asd hr0
 have HC0 := asd hc0
 clear hr0 hc0
 have HB := asd (Below.refl w.heap.size w)
 have H : (parcloseref40_Count.l0 k l0 a1 (-1) 0) = some r := h
 clear h
 have H' := asd H
 clear H
 go_enter Try.func49, Try.ntmps49
 go_wp2
 go_loopg [5, 6] k (fun kq v5 v6 w' => ∃ (x5_1 : Int) (x6_1 : Int), v5 = .int .i64 x5_1 ∧ v6 = .int .i64 x6_1 ∧ Aside0 (parcloseref40_Count.l0 kq l0 a1 x5_1 x6_1 = some r) ∧ Aside0 (kq ≤ k) ∧ Aside0 (Below w.heap.size w w'))
 case atStart => exact ⟨((-1)), (0), (by first | rfl | (simp; done) | (simp [*]; done)), (by first | rfl | (simp; done) | (simp [*]; done)), H', ⟨Nat.le_refl _⟩, ⟨by repeat (first | (with_reducible first | exact HB.out | apply wa | apply wn | apply wd) | exact HB.out)⟩⟩
 case round =>
  clear H'
  try clear p2
  obtain ⟨x5_1, x6_1, rfl, rfl, HA, HK1, HB⟩ := hrel
  cases gk with
  | zero => exact absurd HA.out (by simp [parcloseref40_Count.l0])
  | succ k1 =>
   have H := HA.out
   clear HA
   simp only [parcloseref40_Count.l0] at H
   by_cases c3 : x6_1 < (l0.length : Int)
   ·rw [if_pos c3] at H
    have c3b0 : decide (x6_1 < (l0.length : Int)) = true := decide_eq_true c3
    clear c3
    by_cases c4 : 0 ≤ x6_1
    ·rw [if_pos c4] at H
     have c4b0 : decide (0 ≤ x6_1) = true := decide_eq_true c4
     clear c4
     by_cases c5 : ((rd_T117 l0 x6_1).f0) ≥ 0
     ·rw [if_pos c5] at H
      have c5b0 : decide (0 ≤ ((rd_T117 l0 x6_1).f0)) = true := decide_eq_true c5
      clear c5
      by_cases c6 : ((rd_T117 l0 x6_1).f0) < 64
      ·rw [if_pos c6] at H
       have c6b0 : decide (((rd_T117 l0 x6_1).f0) < 64) = true := decide_eq_true c6
       clear c6
       obtain ⟨ji7, hji7⟩ : ∃ j_ : Int, (mx x5_1 ((rd_T117 l0 x6_1).f0)) = j_ := ⟨_, rfl⟩
       replace H : (parcloseref40_Count.l0 k1 l0 a1 ji7 (wrap64 (x6_1 + 1))) = some r := by first | (rw [hji7] at H; exact H) | (simp only [hji7] at H ⊢; exact H)
       have hji7_ : (if x5_1 < ((rd_T117 l0 x6_1).f0) then ((rd_T117 l0 x6_1).f0) else x5_1) = ji7 := hji7
       have H' := asd H
       clear H
       have p325 : 0 ≤ (x6_1 : Int) := of_decide_eq_true (by assumption)
       have q325 : x6_1 < (l0.length : Int) := of_decide_eq_true (by assumption)
       obtain ⟨ad325, e325, hx325_0, hx325_1, hx325_2, hx325_3, hx325_4⟩ := at_T117 HR0.out x6_1 p325 q325
       cases e325
       replace hx325_0 := (HB.out.cell (World.block_lt_of_cell? w _ hx325_0)).trans hx325_0
       replace hx325_1 := (HB.out.cell (World.block_lt_of_cell? w _ hx325_1)).trans hx325_1
       replace hx325_2 := (HB.out.cell (World.block_lt_of_cell? w _ hx325_2)).trans hx325_2
       replace hx325_3 := (HB.out.cell (World.block_lt_of_cell? w _ hx325_3)).trans hx325_3
       replace hx325_4 := (HB.out.cell (World.block_lt_of_cell? w _ hx325_4)).trans hx325_4
       replace p325 := eq_true p325
       replace q325 := eq_true q325
       have p326 : 0 ≤ (x6_1 : Int) := of_decide_eq_true (by assumption)
       have q326 : x6_1 < (l0.length : Int) := of_decide_eq_true (by assumption)
       obtain ⟨ad326, e326, hx326_0, hx326_1, hx326_2, hx326_3, hx326_4⟩ := at_T117 HR0.out x6_1 p326 q326
       obtain rfl : ad325 = ad326 := (by injection e326)
       replace hx326_0 := (HB.out.cell (World.block_lt_of_cell? w _ hx326_0)).trans hx326_0
       replace hx326_1 := (HB.out.cell (World.block_lt_of_cell? w _ hx326_1)).trans hx326_1
       replace hx326_2 := (HB.out.cell (World.block_lt_of_cell? w _ hx326_2)).trans hx326_2
       replace hx326_3 := (HB.out.cell (World.block_lt_of_cell? w _ hx326_3)).trans hx326_3
       replace hx326_4 := (HB.out.cell (World.block_lt_of_cell? w _ hx326_4)).trans hx326_4
       replace p326 := eq_true p326
       replace q326 := eq_true q326
       have p327 : 0 ≤ (x6_1 : Int) := of_decide_eq_true (by assumption)
       have q327 : x6_1 < (l0.length : Int) := of_decide_eq_true (by assumption)
       obtain ⟨ad327, e327, hx327_0, hx327_1, hx327_2, hx327_3, hx327_4⟩ := at_T117 HR0.out x6_1 p327 q327
       obtain rfl : ad325 = ad327 := (by injection e327)
       replace hx327_0 := (HB.out.cell (World.block_lt_of_cell? w _ hx327_0)).trans hx327_0
       replace hx327_1 := (HB.out.cell (World.block_lt_of_cell? w _ hx327_1)).trans hx327_1
       replace hx327_2 := (HB.out.cell (World.block_lt_of_cell? w _ hx327_2)).trans hx327_2
       replace hx327_3 := (HB.out.cell (World.block_lt_of_cell? w _ hx327_3)).trans hx327_3
       replace hx327_4 := (HB.out.cell (World.block_lt_of_cell? w _ hx327_4)).trans hx327_4
       replace p327 := eq_true p327
       replace q327 := eq_true q327
       go_wp2
       go_roundg k1
       case measure => have := HK1.out; omega
       case rel => exact ⟨(ji7), (wrap64 (x6_1 + 1)), (by first | rfl | (simp; done) | (simp only [← hji7] <;> (first | rfl | simp)) | (simp [*]; done)), (by first | rfl | (simp; done) | (simp [*]; done)), H', ⟨by have := HK1.out; omega⟩, ⟨by repeat (first | (with_reducible first | exact HB.out | apply wa | apply wn | apply wd) | exact HB.out)⟩⟩
      ·rw [if_neg c6] at H
       have c6b0 : decide (((rd_T117 l0 x6_1).f0) < 64) = false := decide_eq_false c6
       clear c6
       have H' := asd H
       clear H
       have p325 : 0 ≤ (x6_1 : Int) := of_decide_eq_true (by assumption)
       have q325 : x6_1 < (l0.length : Int) := of_decide_eq_true (by assumption)
       obtain ⟨ad325, e325, hx325_0, hx325_1, hx325_2, hx325_3, hx325_4⟩ := at_T117 HR0.out x6_1 p325 q325
       cases e325
       replace hx325_0 := (HB.out.cell (World.block_lt_of_cell? w _ hx325_0)).trans hx325_0
       replace hx325_1 := (HB.out.cell (World.block_lt_of_cell? w _ hx325_1)).trans hx325_1
       replace hx325_2 := (HB.out.cell (World.block_lt_of_cell? w _ hx325_2)).trans hx325_2
       replace hx325_3 := (HB.out.cell (World.block_lt_of_cell? w _ hx325_3)).trans hx325_3
       replace hx325_4 := (HB.out.cell (World.block_lt_of_cell? w _ hx325_4)).trans hx325_4
       replace p325 := eq_true p325
       replace q325 := eq_true q325
       have p326 : 0 ≤ (x6_1 : Int) := of_decide_eq_true (by assumption)
       have q326 : x6_1 < (l0.length : Int) := of_decide_eq_true (by assumption)
       obtain ⟨ad326, e326, hx326_0, hx326_1, hx326_2, hx326_3, hx326_4⟩ := at_T117 HR0.out x6_1 p326 q326
       obtain rfl : ad325 = ad326 := (by injection e326)
       replace hx326_0 := (HB.out.cell (World.block_lt_of_cell? w _ hx326_0)).trans hx326_0
       replace hx326_1 := (HB.out.cell (World.block_lt_of_cell? w _ hx326_1)).trans hx326_1
       replace hx326_2 := (HB.out.cell (World.block_lt_of_cell? w _ hx326_2)).trans hx326_2
       replace hx326_3 := (HB.out.cell (World.block_lt_of_cell? w _ hx326_3)).trans hx326_3
       replace hx326_4 := (HB.out.cell (World.block_lt_of_cell? w _ hx326_4)).trans hx326_4
       replace p326 := eq_true p326
       replace q326 := eq_true q326
       go_wp2
       go_roundg k1
       case measure => have := HK1.out; omega
       case rel => exact ⟨(x5_1), (wrap64 (x6_1 + 1)), (by first | rfl | (simp; done) | (simp [*]; done)), (by first | rfl | (simp; done) | (simp [*]; done)), H', ⟨by have := HK1.out; omega⟩, ⟨by repeat (first | (with_reducible first | exact HB.out | apply wa | apply wn | apply wd) | exact HB.out)⟩⟩
     ·rw [if_neg c5] at H
      have c5b0 : decide (0 ≤ ((rd_T117 l0 x6_1).f0)) = false := decide_eq_false c5
      clear c5
      have H' := asd H
      clear H
      have p325 : 0 ≤ (x6_1 : Int) := of_decide_eq_true (by assumption)
      have q325 : x6_1 < (l0.length : Int) := of_decide_eq_true (by assumption)
      obtain ⟨ad325, e325, hx325_0, hx325_1, hx325_2, hx325_3, hx325_4⟩ := at_T117 HR0.out x6_1 p325 q325
      cases e325
      replace hx325_0 := (HB.out.cell (World.block_lt_of_cell? w _ hx325_0)).trans hx325_0
      replace hx325_1 := (HB.out.cell (World.block_lt_of_cell? w _ hx325_1)).trans hx325_1
      replace hx325_2 := (HB.out.cell (World.block_lt_of_cell? w _ hx325_2)).trans hx325_2
      replace hx325_3 := (HB.out.cell (World.block_lt_of_cell? w _ hx325_3)).trans hx325_3
      replace hx325_4 := (HB.out.cell (World.block_lt_of_cell? w _ hx325_4)).trans hx325_4
      replace p325 := eq_true p325
      replace q325 := eq_true q325
      go_wp2
      go_roundg k1
      case measure => have := HK1.out; omega
      case rel => exact ⟨(x5_1), (wrap64 (x6_1 + 1)), (by first | rfl | (simp; done) | (simp [*]; done)), (by first | rfl | (simp; done) | (simp [*]; done)), H', ⟨by have := HK1.out; omega⟩, ⟨by repeat (first | (with_reducible first | exact HB.out | apply wa | apply wn | apply wd) | exact HB.out)⟩⟩
    ·rw [if_neg c4] at H
     exact absurd H (by simp)
   ·rw [if_neg c3] at H
    have c3b0 : decide (x6_1 < (l0.length : Int)) = false := decide_eq_false c3
    clear c3
    obtain ⟨ji8, hji8⟩ : ∃ j_ : Int, (wrap64 (x5_1 + 1)) = j_ := ⟨_, rfl⟩
    replace H : (if 0 ≤ (ji8) then (if (ji8 : Int).toNat ≤ 35184372088832 then (parcloseref40_Count.l1 k1 l0 a1 (List.replicate (ji8 : Int).toNat 0) 0) else (none)) else (none)) = some r := by first | (rw [hji8] at H; exact H) | (simp only [hji8] at H ⊢; exact H)
    have hji8w : (IntKind.i64.wrap (x5_1 + 1)) = ji8 := (i64_w _).trans hji8
    by_cases c9 : 0 ≤ (ji8)
    ·rw [if_pos c9] at H
     have c9b0 := eq_true c9
     have c9b1 : decide (0 ≤ (ji8)) = true := decide_eq_true c9
     clear c9
     by_cases c10 : (ji8 : Int).toNat ≤ 35184372088832
     ·rw [if_pos c10] at H
      have c10b0 := eq_true c10
      have c10b1 : decide ((ji8 : Int).toNat ≤ 35184372088832) = true := decide_eq_true c10
      clear c10
      obtain ⟨y328, hy328⟩ : ∃ y_ : List Int, y_ = (List.replicate (ji8 : Int).toNat 0) := ⟨_, rfl⟩
      replace H : (parcloseref40_Count.l1 k1 l0 a1 y328 0) = some r := by first | (rw [hy328]; with_reducible exact H) | (have H2_ := (Option.bind_some _ _).symm.trans H; rw [hy328]; with_reducible exact H2_) | (have H2_ := (Option.bind_some _ _).symm.trans H; with_reducible exact H2_) | with_reducible exact H | (rw [hy328]; exact H) | exact H
      have Ny328 := asd hy328
      clear hy328
      have H' := asd H
      clear H
      go_wp2_with (first | ((with_reducible refine gate_dst (N := 38) rfl ?_); refine Kd.R_make (Kd.int .i64) _ 3 rfl (N := 38) rfl 23 _ _ rfl ji8 rfl rfl Try.underlying23 (.int .i64 0) 8 info3 rfl (by decide) (by omega) 0 (ok := fun _ => True) (okp := fun _ => True) rfl (fun _ hk => hk) trivial (of_decide_eq_true (by assumption)) (Nat.le_trans (Nat.mul_le_mul_right _ (of_decide_eq_true (by assumption) : ji8.toNat ≤ 35184372088832)) (by omega)) (Below.refl _ _) (Nat.le_refl _) ?_; intro v329 w11 ho12 hb hg_ hnew_; clear hg_ hnew_; (first | rw [← Ny328.out] at ho12 | (simp only [Int.reduceToNat] at ho12; rw [← Ny328.out] at ho12)); have n0_ := asd (Kd.R_lower ho12 (below_size (by repeat (first | (with_reducible first | exact HB.out | apply wa | apply wn | apply wd) | exact HB.out)))); have n1_ := asd (below_step (by repeat (first | (with_reducible first | exact HB.out | apply wa | apply wn | apply wd) | exact HB.out)) hb); clear HB; have HO330 := n0_; have HB := n1_; clear n0_ n1_; clear hb ho12))
      go_loopg [8] k1 (fun kq v8 w' => ∃ (x7_2 : List Int) (x8_2 : Int), v8 = .int .i64 x8_2 ∧ Aside0 (parcloseref40_Count.l1 kq l0 a1 x7_2 x8_2 = some r) ∧ Aside0 (kq ≤ k1) ∧ Aside0 (Kd.R (Kd.int .i64) 3 w' w.heap.size (fun _ => True) v329 x7_2) ∧ Aside0 (Below w.heap.size w w'))
      case atStart => exact ⟨(y328), (0), (by first | rfl | (simp; done) | (simp [*]; done)), H', ⟨Nat.le_refl _⟩, ⟨by (with_reducible repeat (first | apply Kd.R_alloc | apply Kd.R_drewN | apply Kd.R_drew)); exact HO330.out⟩, ⟨by repeat (first | (with_reducible first | exact HB.out | apply wa | apply wn | apply wd) | exact HB.out)⟩⟩
      case round =>
       clear H'
       try clear c1
       try clear p2
       try clear c3
       try clear c3b0
       try clear p3
       try clear q3
       try clear hx3
       try clear c4
       try clear c4b0
       try clear c5
       try clear c5b0
       try clear c6
       try clear c6b0
       try clear p6
       try clear c9
       try clear c9b0
       try clear c9b1
       try clear c10
       try clear c10b0
       try clear c10b1
       try clear hx325_0
       try clear hx325_1
       try clear hx325_2
       try clear hx325_3
       try clear hx325_4
       try clear hx326_0
       try clear hx326_1
       try clear hx326_2
       try clear hx326_3
       try clear hx326_4
       try clear hx327_0
       try clear hx327_1
       try clear hx327_2
       try clear hx327_3
       try clear hx327_4
       try clear p2
       try clear p325
       try clear p326
       try clear p327
       try clear q325
       try clear q326
       try clear q327
       obtain ⟨x7_2, x8_2, rfl, HA, HK2, HO_7, HB⟩ := hrel
       cases gk with
       | zero => exact absurd HA.out (by simp [parcloseref40_Count.l1])
       | succ k2 =>
        have H := HA.out
        clear HA
        simp only [parcloseref40_Count.l1] at H
        by_cases c13 : x8_2 < (l0.length : Int)
        ·rw [if_pos c13] at H
         have c13b0 : decide (x8_2 < (l0.length : Int)) = true := decide_eq_true c13
         clear c13
         by_cases c14 : 0 ≤ x8_2
         ·rw [if_pos c14] at H
          have c14b0 : decide (0 ≤ x8_2) = true := decide_eq_true c14
          clear c14
          by_cases c15 : ((rd_T117 l0 x8_2).f0) ≥ 0
          ·rw [if_pos c15] at H
           have c15b0 : decide (0 ≤ ((rd_T117 l0 x8_2).f0)) = true := decide_eq_true c15
           clear c15
           by_cases c16 : ((rd_T117 l0 x8_2).f0) < 64
           ·rw [if_pos c16] at H
            have c16b0 : decide (((rd_T117 l0 x8_2).f0) < 64) = true := decide_eq_true c16
            clear c16
            by_cases c17 : ((rd_T117 l0 x8_2).f1.f1) = a1
            ·rw [if_pos c17] at H
             have c17b0 : (((rd_T117 l0 x8_2).f1.f1) == a1) = true := beq_iff_eq.mpr c17
             have c17b1 : (((rd_T117 l0 x8_2).f1.f1) != a1) = false := bne_eq_false_iff_eq.mpr c17
             clear c17
             by_cases c18 : 0 ≤ ((rd_T117 l0 x8_2).f0)
             ·rw [if_pos c18] at H
              have c18b0 : decide (0 ≤ ((rd_T117 l0 x8_2).f0)) = true := decide_eq_true c18
              clear c18
              by_cases c19 : ((rd_T117 l0 x8_2).f0) < (x7_2.length : Int)
              ·rw [if_pos c19] at H
               have c19b0 : decide (((rd_T117 l0 x8_2).f0) < (x7_2.length : Int)) = true := decide_eq_true c19
               clear c19
               obtain ⟨y336, hy336⟩ : ∃ y_ : List Int, y_ = (x7_2.set (((rd_T117 l0 x8_2).f0) : Int).toNat (wrap64 ((rd x7_2 ((rd_T117 l0 x8_2).f0)) + 1))) := ⟨_, rfl⟩
               replace H : (parcloseref40_Count.l1 k2 l0 a1 y336 (wrap64 (x8_2 + 1))) = some r := by first | (rw [hy336]; with_reducible exact H) | (have H2_ := (Option.bind_some _ _).symm.trans H; rw [hy336]; with_reducible exact H2_) | (have H2_ := (Option.bind_some _ _).symm.trans H; with_reducible exact H2_) | with_reducible exact H | (rw [hy336]; exact H) | exact H
               have Ny336 := asd hy336
               clear hy336
               have H' := asd H
               clear H
               have p331 : 0 ≤ (x8_2 : Int) := of_decide_eq_true (by assumption)
               have q331 : x8_2 < (l0.length : Int) := of_decide_eq_true (by assumption)
               obtain ⟨ad331, e331, hx331_0, hx331_1, hx331_2, hx331_3, hx331_4⟩ := at_T117 HR0.out x8_2 p331 q331
               cases e331
               replace hx331_0 := (HB.out.cell (World.block_lt_of_cell? w _ hx331_0)).trans hx331_0
               replace hx331_1 := (HB.out.cell (World.block_lt_of_cell? w _ hx331_1)).trans hx331_1
               replace hx331_2 := (HB.out.cell (World.block_lt_of_cell? w _ hx331_2)).trans hx331_2
               replace hx331_3 := (HB.out.cell (World.block_lt_of_cell? w _ hx331_3)).trans hx331_3
               replace hx331_4 := (HB.out.cell (World.block_lt_of_cell? w _ hx331_4)).trans hx331_4
               replace p331 := eq_true p331
               replace q331 := eq_true q331
               have p332 : 0 ≤ (x8_2 : Int) := of_decide_eq_true (by assumption)
               have q332 : x8_2 < (l0.length : Int) := of_decide_eq_true (by assumption)
               obtain ⟨ad332, e332, hx332_0, hx332_1, hx332_2, hx332_3, hx332_4⟩ := at_T117 HR0.out x8_2 p332 q332
               obtain rfl : ad331 = ad332 := (by injection e332)
               replace hx332_0 := (HB.out.cell (World.block_lt_of_cell? w _ hx332_0)).trans hx332_0
               replace hx332_1 := (HB.out.cell (World.block_lt_of_cell? w _ hx332_1)).trans hx332_1
               replace hx332_2 := (HB.out.cell (World.block_lt_of_cell? w _ hx332_2)).trans hx332_2
               replace hx332_3 := (HB.out.cell (World.block_lt_of_cell? w _ hx332_3)).trans hx332_3
               replace hx332_4 := (HB.out.cell (World.block_lt_of_cell? w _ hx332_4)).trans hx332_4
               replace p332 := eq_true p332
               replace q332 := eq_true q332
               have p333 : 0 ≤ (x8_2 : Int) := of_decide_eq_true (by assumption)
               have q333 : x8_2 < (l0.length : Int) := of_decide_eq_true (by assumption)
               obtain ⟨ad333, e333, hx333_0, hx333_1, hx333_2, hx333_3, hx333_4⟩ := at_T117 HR0.out x8_2 p333 q333
               obtain rfl : ad331 = ad333 := (by injection e333)
               replace hx333_0 := (HB.out.cell (World.block_lt_of_cell? w _ hx333_0)).trans hx333_0
               replace hx333_1 := (HB.out.cell (World.block_lt_of_cell? w _ hx333_1)).trans hx333_1
               replace hx333_2 := (HB.out.cell (World.block_lt_of_cell? w _ hx333_2)).trans hx333_2
               replace hx333_3 := (HB.out.cell (World.block_lt_of_cell? w _ hx333_3)).trans hx333_3
               replace hx333_4 := (HB.out.cell (World.block_lt_of_cell? w _ hx333_4)).trans hx333_4
               replace p333 := eq_true p333
               replace q333 := eq_true q333
               have p334 : 0 ≤ (x8_2 : Int) := of_decide_eq_true (by assumption)
               have q334 : x8_2 < (l0.length : Int) := of_decide_eq_true (by assumption)
               obtain ⟨ad334, e334, hx334_0, hx334_1, hx334_2, hx334_3, hx334_4⟩ := at_T117 HR0.out x8_2 p334 q334
               obtain rfl : ad331 = ad334 := (by injection e334)
               replace hx334_0 := (HB.out.cell (World.block_lt_of_cell? w _ hx334_0)).trans hx334_0
               replace hx334_1 := (HB.out.cell (World.block_lt_of_cell? w _ hx334_1)).trans hx334_1
               replace hx334_2 := (HB.out.cell (World.block_lt_of_cell? w _ hx334_2)).trans hx334_2
               replace hx334_3 := (HB.out.cell (World.block_lt_of_cell? w _ hx334_3)).trans hx334_3
               replace hx334_4 := (HB.out.cell (World.block_lt_of_cell? w _ hx334_4)).trans hx334_4
               replace p334 := eq_true p334
               replace q334 := eq_true q334
               obtain ⟨Ao21, co21, eo21⟩ := Kd.R_slice HO_7.out
               subst eo21
               have p335 : 0 ≤ (((rd_T117 l0 x8_2).f0) : Int) := of_decide_eq_true (by assumption)
               have q335 : ((rd_T117 l0 x8_2).f0) < (x7_2.length : Int) := of_decide_eq_true (by assumption)
               obtain ⟨ad335, e335, hx335_0⟩ := Kd.at_int (Kd.R_reads' HO_7.out).2.2 ((rd_T117 l0 x8_2).f0) p335 q335
               cases e335
               replace p335 := eq_true p335
               replace q335 := eq_true q335
               have p20 : 0 ≤ (((rd_T117 l0 x8_2).f0) : Int) := of_decide_eq_true (by assumption)
               have q20 : (((rd_T117 l0 x8_2).f0) : Int) < ((x7_2.length : Int) : Int) := of_decide_eq_true (by assumption)
               obtain ⟨go20, co20, eo20, gb20, gl20, cl20, HG20⟩ := Kd.R_form HO_7.out (by omega)
               (first | cases eo20 | (injection eo20 with ea_ en_ ec_; (first | subst ea_ | (injection ea_ with ea_; subst ea_)); subst ec_; clear en_))
               have GB20 := asd gb20
               have GG20 := asd HG20
               clear gb20 gl20 HG20
               (first | simp only [add_plain] at hx335_0 | skip)
               obtain ⟨hx20_0, hf20_0⟩ := Kd.R_celln 0 HO_7.out (((rd_T117 l0 x8_2).f0) : Int) p20 q20
               replace p20 := eq_true p20
               replace q20 := eq_true q20
               have HP22 := Kd.R_putg HO_7.out (((rd_T117 l0 x8_2).f0) : Int) (wrap64 ((rd x7_2 ((rd_T117 l0 x8_2).f0)) + 1))
               go_wp2_with (first | ((with_reducible refine gate_store (t := 3) (p := 78) rfl ?_); refine store_event (t := 3) (p := 78) (v := ?vo_w23) (w1 := (wr.setCell ⟨go20, (((rd_T117 l0 x8_2).f0) : Int).toNat, none⟩ (.int .i64 (wrap64 ((rd x7_2 ((rd_T117 l0 x8_2).f0)) + 1))))) ?hg ?ho ?hn ?hr ?_; (case ho => rfl); (case hg => rfl); (case hn => rfl); (case hr => first | (go_simp; done) | (go_simp; rfl)); intro w23 hw; have hg : wr.grownBy w23 (some go20) := (by rw [hw]; exact HP22.2); have hp_ : Kd.R (Kd.int .i64) 3 w23 w.heap.size (fun _ => True) (.slice (some ⟨go20, 0, none⟩) x7_2.length co21) y336 := (by rw [hw, Ny336.out]; exact HP22.1); clear HP22; have n0_ := asd (hp_); have n1_ := asd ((by rw [hw]; exact below_set (HB.out) GB20.out : Below w.heap.size w w23)); clear HO_7; clear HB; have HO_7 := n0_; have HB := n1_; clear n0_ n1_; clear hg hw hp_))
               go_roundg k2
               case measure => have := HK1.out; have := HK2.out; omega
               case rel => exact ⟨(y336), (wrap64 (x8_2 + 1)), (by first | rfl | (simp; done) | (simp [*]; done)), H', ⟨by have := HK1.out; have := HK2.out; omega⟩, ⟨by (with_reducible repeat (first | apply Kd.R_alloc | apply Kd.R_drewN | apply Kd.R_drew)); exact HO_7.out⟩, ⟨by repeat (first | (with_reducible first | exact HB.out | apply wa | apply wn | apply wd) | exact HB.out)⟩⟩
              ·rw [if_neg c19] at H
               exact absurd H (by simp)
             ·rw [if_neg c18] at H
              exact absurd H (by simp)
            ·rw [if_neg c17] at H
             have c17b0 : (((rd_T117 l0 x8_2).f1.f1) == a1) = false := beq_eq_false_iff_ne.mpr c17
             have c17b1 : (((rd_T117 l0 x8_2).f1.f1) != a1) = true := bne_iff_ne.mpr c17
             have H' := asd H
             clear H
             have p331 : 0 ≤ (x8_2 : Int) := of_decide_eq_true (by assumption)
             have q331 : x8_2 < (l0.length : Int) := of_decide_eq_true (by assumption)
             obtain ⟨ad331, e331, hx331_0, hx331_1, hx331_2, hx331_3, hx331_4⟩ := at_T117 HR0.out x8_2 p331 q331
             cases e331
             replace hx331_0 := (HB.out.cell (World.block_lt_of_cell? w _ hx331_0)).trans hx331_0
             replace hx331_1 := (HB.out.cell (World.block_lt_of_cell? w _ hx331_1)).trans hx331_1
             replace hx331_2 := (HB.out.cell (World.block_lt_of_cell? w _ hx331_2)).trans hx331_2
             replace hx331_3 := (HB.out.cell (World.block_lt_of_cell? w _ hx331_3)).trans hx331_3
             replace hx331_4 := (HB.out.cell (World.block_lt_of_cell? w _ hx331_4)).trans hx331_4
             replace p331 := eq_true p331
             replace q331 := eq_true q331
             have p332 : 0 ≤ (x8_2 : Int) := of_decide_eq_true (by assumption)
             have q332 : x8_2 < (l0.length : Int) := of_decide_eq_true (by assumption)
             obtain ⟨ad332, e332, hx332_0, hx332_1, hx332_2, hx332_3, hx332_4⟩ := at_T117 HR0.out x8_2 p332 q332
             obtain rfl : ad331 = ad332 := (by injection e332)
             replace hx332_0 := (HB.out.cell (World.block_lt_of_cell? w _ hx332_0)).trans hx332_0
             replace hx332_1 := (HB.out.cell (World.block_lt_of_cell? w _ hx332_1)).trans hx332_1
             replace hx332_2 := (HB.out.cell (World.block_lt_of_cell? w _ hx332_2)).trans hx332_2
             replace hx332_3 := (HB.out.cell (World.block_lt_of_cell? w _ hx332_3)).trans hx332_3
             replace hx332_4 := (HB.out.cell (World.block_lt_of_cell? w _ hx332_4)).trans hx332_4
             replace p332 := eq_true p332
             replace q332 := eq_true q332
             have p333 : 0 ≤ (x8_2 : Int) := of_decide_eq_true (by assumption)
             have q333 : x8_2 < (l0.length : Int) := of_decide_eq_true (by assumption)
             obtain ⟨ad333, e333, hx333_0, hx333_1, hx333_2, hx333_3, hx333_4⟩ := at_T117 HR0.out x8_2 p333 q333
             obtain rfl : ad331 = ad333 := (by injection e333)
             replace hx333_0 := (HB.out.cell (World.block_lt_of_cell? w _ hx333_0)).trans hx333_0
             replace hx333_1 := (HB.out.cell (World.block_lt_of_cell? w _ hx333_1)).trans hx333_1
             replace hx333_2 := (HB.out.cell (World.block_lt_of_cell? w _ hx333_2)).trans hx333_2
             replace hx333_3 := (HB.out.cell (World.block_lt_of_cell? w _ hx333_3)).trans hx333_3
             replace hx333_4 := (HB.out.cell (World.block_lt_of_cell? w _ hx333_4)).trans hx333_4
             replace p333 := eq_true p333
             replace q333 := eq_true q333
             go_wp2
             go_roundg k2
             case measure => have := HK1.out; have := HK2.out; omega
             case rel => exact ⟨(x7_2), (wrap64 (x8_2 + 1)), (by first | rfl | (simp; done) | (simp [*]; done)), H', ⟨by have := HK1.out; have := HK2.out; omega⟩, ⟨by (with_reducible repeat (first | apply Kd.R_alloc | apply Kd.R_drewN | apply Kd.R_drew)); exact HO_7.out⟩, ⟨by repeat (first | (with_reducible first | exact HB.out | apply wa | apply wn | apply wd) | exact HB.out)⟩⟩
           ·rw [if_neg c16] at H
            have c16b0 : decide (((rd_T117 l0 x8_2).f0) < 64) = false := decide_eq_false c16
            clear c16
            have H' := asd H
            clear H
            have p331 : 0 ≤ (x8_2 : Int) := of_decide_eq_true (by assumption)
            have q331 : x8_2 < (l0.length : Int) := of_decide_eq_true (by assumption)
            obtain ⟨ad331, e331, hx331_0, hx331_1, hx331_2, hx331_3, hx331_4⟩ := at_T117 HR0.out x8_2 p331 q331
            cases e331
            replace hx331_0 := (HB.out.cell (World.block_lt_of_cell? w _ hx331_0)).trans hx331_0
            replace hx331_1 := (HB.out.cell (World.block_lt_of_cell? w _ hx331_1)).trans hx331_1
            replace hx331_2 := (HB.out.cell (World.block_lt_of_cell? w _ hx331_2)).trans hx331_2
            replace hx331_3 := (HB.out.cell (World.block_lt_of_cell? w _ hx331_3)).trans hx331_3
            replace hx331_4 := (HB.out.cell (World.block_lt_of_cell? w _ hx331_4)).trans hx331_4
            replace p331 := eq_true p331
            replace q331 := eq_true q331
            have p332 : 0 ≤ (x8_2 : Int) := of_decide_eq_true (by assumption)
            have q332 : x8_2 < (l0.length : Int) := of_decide_eq_true (by assumption)
            obtain ⟨ad332, e332, hx332_0, hx332_1, hx332_2, hx332_3, hx332_4⟩ := at_T117 HR0.out x8_2 p332 q332
            obtain rfl : ad331 = ad332 := (by injection e332)
            replace hx332_0 := (HB.out.cell (World.block_lt_of_cell? w _ hx332_0)).trans hx332_0
            replace hx332_1 := (HB.out.cell (World.block_lt_of_cell? w _ hx332_1)).trans hx332_1
            replace hx332_2 := (HB.out.cell (World.block_lt_of_cell? w _ hx332_2)).trans hx332_2
            replace hx332_3 := (HB.out.cell (World.block_lt_of_cell? w _ hx332_3)).trans hx332_3
            replace hx332_4 := (HB.out.cell (World.block_lt_of_cell? w _ hx332_4)).trans hx332_4
            replace p332 := eq_true p332
            replace q332 := eq_true q332
            go_wp2
            go_roundg k2
            case measure => have := HK1.out; have := HK2.out; omega
            case rel => exact ⟨(x7_2), (wrap64 (x8_2 + 1)), (by first | rfl | (simp; done) | (simp [*]; done)), H', ⟨by have := HK1.out; have := HK2.out; omega⟩, ⟨by (with_reducible repeat (first | apply Kd.R_alloc | apply Kd.R_drewN | apply Kd.R_drew)); exact HO_7.out⟩, ⟨by repeat (first | (with_reducible first | exact HB.out | apply wa | apply wn | apply wd) | exact HB.out)⟩⟩
          ·rw [if_neg c15] at H
           have c15b0 : decide (0 ≤ ((rd_T117 l0 x8_2).f0)) = false := decide_eq_false c15
           clear c15
           have H' := asd H
           clear H
           have p331 : 0 ≤ (x8_2 : Int) := of_decide_eq_true (by assumption)
           have q331 : x8_2 < (l0.length : Int) := of_decide_eq_true (by assumption)
           obtain ⟨ad331, e331, hx331_0, hx331_1, hx331_2, hx331_3, hx331_4⟩ := at_T117 HR0.out x8_2 p331 q331
           cases e331
           replace hx331_0 := (HB.out.cell (World.block_lt_of_cell? w _ hx331_0)).trans hx331_0
           replace hx331_1 := (HB.out.cell (World.block_lt_of_cell? w _ hx331_1)).trans hx331_1
           replace hx331_2 := (HB.out.cell (World.block_lt_of_cell? w _ hx331_2)).trans hx331_2
           replace hx331_3 := (HB.out.cell (World.block_lt_of_cell? w _ hx331_3)).trans hx331_3
           replace hx331_4 := (HB.out.cell (World.block_lt_of_cell? w _ hx331_4)).trans hx331_4
           replace p331 := eq_true p331
           replace q331 := eq_true q331
           go_wp2
           go_roundg k2
           case measure => have := HK1.out; have := HK2.out; omega
           case rel => exact ⟨(x7_2), (wrap64 (x8_2 + 1)), (by first | rfl | (simp; done) | (simp [*]; done)), H', ⟨by have := HK1.out; have := HK2.out; omega⟩, ⟨by (with_reducible repeat (first | apply Kd.R_alloc | apply Kd.R_drewN | apply Kd.R_drew)); exact HO_7.out⟩, ⟨by repeat (first | (with_reducible first | exact HB.out | apply wa | apply wn | apply wd) | exact HB.out)⟩⟩
         ·rw [if_neg c14] at H
          exact absurd H (by simp)
        ·rw [if_neg c13] at H
         have c13b0 : decide (x8_2 < (l0.length : Int)) = false := decide_eq_false c13
         clear c13
         obtain rfl := Option.some.inj H
         go_wp2
         go_ret
         exact ⟨_, by first | rfl | (simp [errW_none, errW_some] <;> rfl) | (simp only [← hji8]; first | rfl | (simp [errW_none, errW_some] <;> rfl)) | (simp [*, errW_none, errW_some] <;> rfl), by (with_reducible repeat (first | apply Kd.R_alloc | apply Kd.R_drewN | apply Kd.R_drew)); exact HO_7.out, by repeat (first | (with_reducible first | exact HB.out | apply wa | apply wn | apply wd) | exact HB.out)⟩
     ·rw [if_neg c10] at H
      exact absurd H (by simp)
    ·rw [if_neg c9] at H
     exact absurd H (by simp)
end Go.Proofs.Ytalimpniimgheaa.Fn
namespace Go.Proofs.Ytalimpniimgheaa.Fn
open Go.RowKit Go.Proofs.YtalimpniimgheaaW.PrintWords Go.Proofs.YtalimpniimgheaaW.PrintLast Go.Proofs.YtalimpniimgheaaW.PrintMore
attribute [local go_sem] max2_int min2_int max_two min_two max_three min_three max_four min_four
set_option linter.unusedVariables false
set_option linter.unusedSimpArgs false
def parcloseref40_Between.l0 : Nat → List (S117) → Int → Int → List (S117) → Int → Option ((List (S117)))
 | 0, _, _, _, _, _ => none
 | k + 1, x0, x1, x2, x7, x8 => if x8 < (x0.length : Int) then (if 0 ≤ x8 then (if ((rd_T117 x0 x8).f1.f0) ≥ x1 then (if ((rd_T117 x0 x8).f1.f0) < x2 then (if x7.length < 3518437208883 then (parcloseref40_Between.l0 k x0 x1 x2 (x7 ++ [(⟨(rd_T117 x0 x8).f0, (⟨(rd_T117 x0 x8).f1.f0, (rd_T117 x0 x8).f1.f1, (rd_T117 x0 x8).f1.f2, (rd_T117 x0 x8).f1.f3⟩ : S64)⟩ : S117)]) (wrap64 (x8 + 1))) else (none)) else (parcloseref40_Between.l0 k x0 x1 x2 x7 (wrap64 (x8 + 1)))) else (parcloseref40_Between.l0 k x0 x1 x2 x7 (wrap64 (x8 + 1)))) else (none)) else (some x7)
def parcloseref40_Between.f (k : Nat) (l0 : List (S117)) (a1 : Int) (a2 : Int) : Option ((List (S117))) := parcloseref40_Between.l0 k l0 a1 a2 ([] : List (S117)) 0
set_option maxHeartbeats 8000000 in
set_option maxRecDepth 100000 in
theorem parcloseref40_Between.calls (k : Nat) (A0 : Option Addr) (c0 : Nat) (l0 : List (S117)) (a1 : Int) (a2 : Int) (r : List (S117)) (w : World) (hr0 : Kd.C k117 w A0 l0.length l0) (hc0 : l0.length ≤ c0) (h : parcloseref40_Between.f k l0 a1 a2 = some r) :
  Calls Try.prog 51 #[.slice A0 l0.length c0, .int .i64 a1, .int .i64 a2] w fun e w' => ∃ v0_ : Value, e = .returned (v0_) ∧ Kd.R k117 117 w' w.heap.size (fun _ => True) v0_ r ∧ Below w.heap.size w w' := by
 have hu117 := Try.underlying117
 have HR0 := asd hr0
 have HC0 := asd hc0
 clear hr0 hc0
 have HB := asd (Below.refl w.heap.size w)
 have H : (parcloseref40_Between.l0 k l0 a1 a2 ([] : List (S117)) 0) = some r := h
 clear h
 have H' := asd H
 clear H
 go_enter Try.func51, Try.ntmps51
 go_wp2
 go_loopg [7, 8] k (fun kq v7 v8 w' => ∃ (x7_1 : List (S117)) (x8_1 : Int), v8 = .int .i64 x8_1 ∧ Aside0 (parcloseref40_Between.l0 kq l0 a1 a2 x7_1 x8_1 = some r) ∧ Aside0 (kq ≤ k) ∧ Aside0 (Kd.R k117 117 w' w.heap.size (fun _ => True) v7 x7_1) ∧ Aside0 (Below w.heap.size w w'))
 case atStart => exact ⟨(([] : List (S117))), (0), (by first | rfl | (simp; done) | (simp [*]; done)), H', ⟨Nat.le_refl _⟩, ⟨by first | exact Kd.R_nil _ _ _ _ _ | exact Kd.N_nil _ _ _ _ _ | exact Kd.V_nil _ _ _ _ _ | exact Kd.Q_nil _ _ _ _ _ | exact Kd.S_nil _ _ _ _ _⟩, ⟨by repeat (first | (with_reducible first | exact HB.out | apply wa | apply wn | apply wd) | exact HB.out)⟩⟩
 case round =>
  clear H'
  try clear p2
  obtain ⟨x7_1, x8_1, rfl, HA, HK1, HO_7, HB⟩ := hrel
  cases gk with
  | zero => exact absurd HA.out (by simp [parcloseref40_Between.l0])
  | succ k1 =>
   have H := HA.out
   clear HA
   simp only [parcloseref40_Between.l0] at H
   by_cases c4 : x8_1 < (l0.length : Int)
   ·rw [if_pos c4] at H
    have c4b0 : decide (x8_1 < (l0.length : Int)) = true := decide_eq_true c4
    clear c4
    by_cases c5 : 0 ≤ x8_1
    ·rw [if_pos c5] at H
     have c5b0 : decide (0 ≤ x8_1) = true := decide_eq_true c5
     clear c5
     by_cases c6 : ((rd_T117 l0 x8_1).f1.f0) ≥ a1
     ·rw [if_pos c6] at H
      have c6b0 : decide (a1 ≤ ((rd_T117 l0 x8_1).f1.f0)) = true := decide_eq_true c6
      clear c6
      by_cases c7 : ((rd_T117 l0 x8_1).f1.f0) < a2
      ·rw [if_pos c7] at H
       have c7b0 : decide (((rd_T117 l0 x8_1).f1.f0) < a2) = true := decide_eq_true c7
       clear c7
       by_cases c8 : x7_1.length < 3518437208883
       ·rw [if_pos c8] at H
        have LMc8 := asd c8
        clear c8
        obtain ⟨y340, hy340⟩ : ∃ y_ : List (S117), y_ = (x7_1 ++ [(⟨(rd_T117 l0 x8_1).f0, (⟨(rd_T117 l0 x8_1).f1.f0, (rd_T117 l0 x8_1).f1.f1, (rd_T117 l0 x8_1).f1.f2, (rd_T117 l0 x8_1).f1.f3⟩ : S64)⟩ : S117)]) := ⟨_, rfl⟩
        replace H : (parcloseref40_Between.l0 k1 l0 a1 a2 y340 (wrap64 (x8_1 + 1))) = some r := by first | (rw [hy340]; with_reducible exact H) | (have H2_ := (Option.bind_some _ _).symm.trans H; rw [hy340]; with_reducible exact H2_) | (have H2_ := (Option.bind_some _ _).symm.trans H; with_reducible exact H2_) | with_reducible exact H | (rw [hy340]; exact H) | exact H
        have Ny340 := asd hy340
        clear hy340
        have H' := asd H
        clear H
        have p337 : 0 ≤ (x8_1 : Int) := of_decide_eq_true (by assumption)
        have q337 : x8_1 < (l0.length : Int) := of_decide_eq_true (by assumption)
        obtain ⟨ad337, e337, hx337_0, hx337_1, hx337_2, hx337_3, hx337_4⟩ := at_T117 HR0.out x8_1 p337 q337
        cases e337
        replace hx337_0 := (HB.out.cell (World.block_lt_of_cell? w _ hx337_0)).trans hx337_0
        replace hx337_1 := (HB.out.cell (World.block_lt_of_cell? w _ hx337_1)).trans hx337_1
        replace hx337_2 := (HB.out.cell (World.block_lt_of_cell? w _ hx337_2)).trans hx337_2
        replace hx337_3 := (HB.out.cell (World.block_lt_of_cell? w _ hx337_3)).trans hx337_3
        replace hx337_4 := (HB.out.cell (World.block_lt_of_cell? w _ hx337_4)).trans hx337_4
        replace p337 := eq_true p337
        replace q337 := eq_true q337
        have p338 : 0 ≤ (x8_1 : Int) := of_decide_eq_true (by assumption)
        have q338 : x8_1 < (l0.length : Int) := of_decide_eq_true (by assumption)
        obtain ⟨ad338, e338, hx338_0, hx338_1, hx338_2, hx338_3, hx338_4⟩ := at_T117 HR0.out x8_1 p338 q338
        obtain rfl : ad337 = ad338 := (by injection e338)
        replace hx338_0 := (HB.out.cell (World.block_lt_of_cell? w _ hx338_0)).trans hx338_0
        replace hx338_1 := (HB.out.cell (World.block_lt_of_cell? w _ hx338_1)).trans hx338_1
        replace hx338_2 := (HB.out.cell (World.block_lt_of_cell? w _ hx338_2)).trans hx338_2
        replace hx338_3 := (HB.out.cell (World.block_lt_of_cell? w _ hx338_3)).trans hx338_3
        replace hx338_4 := (HB.out.cell (World.block_lt_of_cell? w _ hx338_4)).trans hx338_4
        replace p338 := eq_true p338
        replace q338 := eq_true q338
        have p339 : 0 ≤ (x8_1 : Int) := of_decide_eq_true (by assumption)
        have q339 : x8_1 < (l0.length : Int) := of_decide_eq_true (by assumption)
        obtain ⟨ad339, e339, hx339_0, hx339_1, hx339_2, hx339_3, hx339_4⟩ := at_T117 HR0.out x8_1 p339 q339
        obtain rfl : ad337 = ad339 := (by injection e339)
        replace hx339_0 := (HB.out.cell (World.block_lt_of_cell? w _ hx339_0)).trans hx339_0
        replace hx339_1 := (HB.out.cell (World.block_lt_of_cell? w _ hx339_1)).trans hx339_1
        replace hx339_2 := (HB.out.cell (World.block_lt_of_cell? w _ hx339_2)).trans hx339_2
        replace hx339_3 := (HB.out.cell (World.block_lt_of_cell? w _ hx339_3)).trans hx339_3
        replace hx339_4 := (HB.out.cell (World.block_lt_of_cell? w _ hx339_4)).trans hx339_4
        replace p339 := eq_true p339
        replace q339 := eq_true q339
        go_wp2_with (first | ((with_reducible refine gate_builtin (b := .append) (xs := #[.tmp 33, .tmp 38]) rfl ?_); at_builtin; refine Kd.R_append k117 (w0 := w) w.heap.size rfl (.tmp 33) (.tmp 38) 60 117 (.agg #[(.int .i64 0), (.int .i64 0), (.int .i64 0), (.int .i64 0), (.int .i64 0)]) 40 rfl Try.underlying60 info117 rfl (by decide) (by omega) u7 x7_1 (⟨(rd_T117 l0 x8_1).f0, (⟨(rd_T117 l0 x8_1).f1.f0, (rd_T117 l0 x8_1).f1.f1, (rd_T117 l0 x8_1).f1.f2, (rd_T117 l0 x8_1).f1.f3⟩ : S64)⟩ : S117) [.int .i64 ((rd_T117 l0 x8_1).f0), .int .i64 ((rd_T117 l0 x8_1).f1.f0), .int .i64 ((rd_T117 l0 x8_1).f1.f1), .int .i64 ((rd_T117 l0 x8_1).f1.f2), .int .i64 ((rd_T117 l0 x8_1).f1.f3)] (fun _ => True) (fun _ => False) rfl rfl ?aP (fun _ hk => hk.elim) ?aF ?aO ?aB ?aS ?aL ?_; (case aP => exact k117_mkM _ _ _ (⟨(rd_T117 l0 x8_1).f0, (⟨(rd_T117 l0 x8_1).f1.f0, (rd_T117 l0 x8_1).f1.f1, (rd_T117 l0 x8_1).f1.f2, (rd_T117 l0 x8_1).f1.f3⟩ : S64)⟩ : S117)); (case aB => exact (by repeat (first | (with_reducible first | exact HB.out | apply wa | apply wn | apply wd) | exact HB.out))); (case aF => exact (fun _ _ => trivial)); (case aO => exact (by (with_reducible repeat (first | apply Kd.R_alloc | apply Kd.R_drewN | apply Kd.R_drew)); exact HO_7.out)); (case aS => exact (below_size (by repeat (first | (with_reducible first | exact HB.out | apply wa | apply wn | apply wd) | exact HB.out)))); (case aL => have := LMc8.out; omega); intro v341 w9 ho hb hg hat; rw [← Ny340.out] at ho; have n0_ := asd (hb); have n1_ := asd (ho); clear HB; clear HO_7; have HB := n0_; have HO342 := n1_; clear n0_ n1_; clear ho hb hg hat))
        go_roundg k1
        case measure => have := HK1.out; omega
        case rel => exact ⟨(y340), (wrap64 (x8_1 + 1)), (by first | rfl | (simp; done) | (simp [*]; done)), H', ⟨by have := HK1.out; omega⟩, ⟨by (with_reducible repeat (first | apply Kd.R_alloc | apply Kd.R_drewN | apply Kd.R_drew)); exact HO342.out⟩, ⟨by repeat (first | (with_reducible first | exact HB.out | apply wa | apply wn | apply wd) | exact HB.out)⟩⟩
       ·rw [if_neg c8] at H
        exact absurd H (by simp)
      ·rw [if_neg c7] at H
       have c7b0 : decide (((rd_T117 l0 x8_1).f1.f0) < a2) = false := decide_eq_false c7
       clear c7
       have H' := asd H
       clear H
       have p337 : 0 ≤ (x8_1 : Int) := of_decide_eq_true (by assumption)
       have q337 : x8_1 < (l0.length : Int) := of_decide_eq_true (by assumption)
       obtain ⟨ad337, e337, hx337_0, hx337_1, hx337_2, hx337_3, hx337_4⟩ := at_T117 HR0.out x8_1 p337 q337
       cases e337
       replace hx337_0 := (HB.out.cell (World.block_lt_of_cell? w _ hx337_0)).trans hx337_0
       replace hx337_1 := (HB.out.cell (World.block_lt_of_cell? w _ hx337_1)).trans hx337_1
       replace hx337_2 := (HB.out.cell (World.block_lt_of_cell? w _ hx337_2)).trans hx337_2
       replace hx337_3 := (HB.out.cell (World.block_lt_of_cell? w _ hx337_3)).trans hx337_3
       replace hx337_4 := (HB.out.cell (World.block_lt_of_cell? w _ hx337_4)).trans hx337_4
       replace p337 := eq_true p337
       replace q337 := eq_true q337
       have p338 : 0 ≤ (x8_1 : Int) := of_decide_eq_true (by assumption)
       have q338 : x8_1 < (l0.length : Int) := of_decide_eq_true (by assumption)
       obtain ⟨ad338, e338, hx338_0, hx338_1, hx338_2, hx338_3, hx338_4⟩ := at_T117 HR0.out x8_1 p338 q338
       obtain rfl : ad337 = ad338 := (by injection e338)
       replace hx338_0 := (HB.out.cell (World.block_lt_of_cell? w _ hx338_0)).trans hx338_0
       replace hx338_1 := (HB.out.cell (World.block_lt_of_cell? w _ hx338_1)).trans hx338_1
       replace hx338_2 := (HB.out.cell (World.block_lt_of_cell? w _ hx338_2)).trans hx338_2
       replace hx338_3 := (HB.out.cell (World.block_lt_of_cell? w _ hx338_3)).trans hx338_3
       replace hx338_4 := (HB.out.cell (World.block_lt_of_cell? w _ hx338_4)).trans hx338_4
       replace p338 := eq_true p338
       replace q338 := eq_true q338
       go_wp2
       go_roundg k1
       case measure => have := HK1.out; omega
       case rel => exact ⟨(x7_1), (wrap64 (x8_1 + 1)), (by first | rfl | (simp; done) | (simp [*]; done)), H', ⟨by have := HK1.out; omega⟩, ⟨by (with_reducible repeat (first | apply Kd.R_alloc | apply Kd.R_drewN | apply Kd.R_drew)); exact HO_7.out⟩, ⟨by repeat (first | (with_reducible first | exact HB.out | apply wa | apply wn | apply wd) | exact HB.out)⟩⟩
     ·rw [if_neg c6] at H
      have c6b0 : decide (a1 ≤ ((rd_T117 l0 x8_1).f1.f0)) = false := decide_eq_false c6
      clear c6
      have H' := asd H
      clear H
      have p337 : 0 ≤ (x8_1 : Int) := of_decide_eq_true (by assumption)
      have q337 : x8_1 < (l0.length : Int) := of_decide_eq_true (by assumption)
      obtain ⟨ad337, e337, hx337_0, hx337_1, hx337_2, hx337_3, hx337_4⟩ := at_T117 HR0.out x8_1 p337 q337
      cases e337
      replace hx337_0 := (HB.out.cell (World.block_lt_of_cell? w _ hx337_0)).trans hx337_0
      replace hx337_1 := (HB.out.cell (World.block_lt_of_cell? w _ hx337_1)).trans hx337_1
      replace hx337_2 := (HB.out.cell (World.block_lt_of_cell? w _ hx337_2)).trans hx337_2
      replace hx337_3 := (HB.out.cell (World.block_lt_of_cell? w _ hx337_3)).trans hx337_3
      replace hx337_4 := (HB.out.cell (World.block_lt_of_cell? w _ hx337_4)).trans hx337_4
      replace p337 := eq_true p337
      replace q337 := eq_true q337
      go_wp2
      go_roundg k1
      case measure => have := HK1.out; omega
      case rel => exact ⟨(x7_1), (wrap64 (x8_1 + 1)), (by first | rfl | (simp; done) | (simp [*]; done)), H', ⟨by have := HK1.out; omega⟩, ⟨by (with_reducible repeat (first | apply Kd.R_alloc | apply Kd.R_drewN | apply Kd.R_drew)); exact HO_7.out⟩, ⟨by repeat (first | (with_reducible first | exact HB.out | apply wa | apply wn | apply wd) | exact HB.out)⟩⟩
    ·rw [if_neg c5] at H
     exact absurd H (by simp)
   ·rw [if_neg c4] at H
    have c4b0 : decide (x8_1 < (l0.length : Int)) = false := decide_eq_false c4
    clear c4
    obtain rfl := Option.some.inj H
    go_wp2
    go_ret
    exact ⟨_, by first | rfl | (simp [*] <;> rfl), by (with_reducible repeat (first | apply Kd.R_alloc | apply Kd.R_drewN | apply Kd.R_drew)); exact HO_7.out, by repeat (first | (with_reducible first | exact HB.out | apply wa | apply wn | apply wd) | exact HB.out)⟩
end Go.Proofs.Ytalimpniimgheaa.Fn
namespace Go.Proofs.Ytalimpniimgheaa.Fn
open Go.RowKit Go.Proofs.YtalimpniimgheaaW.PrintWords Go.Proofs.YtalimpniimgheaaW.PrintLast Go.Proofs.YtalimpniimgheaaW.PrintMore
attribute [local go_sem] max2_int min2_int max_two min_two max_three min_three max_four min_four
set_option linter.unusedVariables false
set_option linter.unusedSimpArgs false
attribute [local go_sem high] eqA64
def parcloseref23_Same.l0 : Nat → List (S64) → List (S64) → Int → Option (Bool)
 | 0, _, _, _ => none
 | k + 1, x0, x1, x5 => if x5 < (x0.length : Int) then (if 0 ≤ x5 then (if x5 < (x1.length : Int) then (if (!(((rd_T64 x0 x5).f0) == ((rd_T64 x1 x5).f0)) || (!(((rd_T64 x0 x5).f1) == ((rd_T64 x1 x5).f1)) || (!(((rd_T64 x0 x5).f2) == ((rd_T64 x1 x5).f2)) || (!(((rd_T64 x0 x5).f3) == ((rd_T64 x1 x5).f3)))))) = true then (some false) else (parcloseref23_Same.l0 k x0 x1 (wrap64 (x5 + 1)))) else (none)) else (none)) else (some true)
def parcloseref23_Same.f (k : Nat) (l0 : List (S64)) (l1 : List (S64)) : Option (Bool) := if (l0.length : Int) = (l1.length : Int) then (parcloseref23_Same.l0 k l0 l1 0) else (some false)
set_option maxHeartbeats 8000000 in
set_option maxRecDepth 100000 in
theorem parcloseref23_Same.calls (k : Nat) (A0 : Option Addr) (c0 : Nat) (l0 : List (S64)) (A1 : Option Addr) (c1 : Nat) (l1 : List (S64)) (r : Bool) (w : World) (hr0 : Kd.C k64 w A0 l0.length l0) (hc0 : l0.length ≤ c0) (hr1 : Kd.C k64 w A1 l1.length l1) (hc1 : l1.length ≤ c1) (h : parcloseref23_Same.f k l0 l1 = some r) :
  Calls Try.prog 22 #[.slice A0 l0.length c0, .slice A1 l1.length c1] w fun e w' => e = .returned (.bool r) ∧ Drawn0 w w' := by
 have hu64 := Try.underlying64
 have HR0 := asd hr0
 have HC0 := asd hc0
 clear hr0 hc0
 have HR1 := asd hr1
 have HC1 := asd hc1
 clear hr1 hc1
 have H : (if (l0.length : Int) = (l1.length : Int) then (parcloseref23_Same.l0 k l0 l1 0) else (some false)) = some r := h
 clear h
 by_cases c3 : (l0.length : Int) = (l1.length : Int)
 ·rw [if_pos c3] at H
  have c3b0 : ((l0.length : Int) == (l1.length : Int)) = true := beq_iff_eq.mpr c3
  have c3b1 : ((l0.length : Int) != (l1.length : Int)) = false := bne_eq_false_iff_eq.mpr c3
  have c3b2 : (l0.length == l1.length) = true := by first | simpa using c3 | (simp at c3 ⊢; omega)
  clear c3
  have H' := asd H
  clear H
  go_enter Try.func22, Try.ntmps22
  go_wp2
  repeat (go_quiet (fail); try go_wp2)
  go_loopg [5] k (fun kq v5 w' => ∃ (x5_1 : Int), v5 = .int .i64 x5_1 ∧ Aside0 (parcloseref23_Same.l0 kq l0 l1 x5_1 = some r) ∧ Aside0 (kq ≤ k) ∧ Drawn0 w w')
  case atStart => exact ⟨(0), (by first | rfl | (simp; done) | (simp [*]; done)), H', ⟨Nat.le_refl _⟩, by repeat (first | exact Drawn0.refl _ | apply Drawn0.step)⟩
  case round =>
   clear H'
   try clear c1
   try clear c2
   try clear p2
   try clear c3
   try clear c3b0
   try clear c3b1
   try clear c3b2
   obtain ⟨x5_1, rfl, HA, HK1, ⟨m1, rfl⟩⟩ := hrel
   cases gk with
   | zero => exact absurd HA.out (by simp [parcloseref23_Same.l0])
   | succ k1 =>
    have H := HA.out
    clear HA
    simp only [parcloseref23_Same.l0] at H
    by_cases c4 : x5_1 < (l0.length : Int)
    ·rw [if_pos c4] at H
     have c4b0 : decide (x5_1 < (l0.length : Int)) = true := decide_eq_true c4
     clear c4
     by_cases c5 : 0 ≤ x5_1
     ·rw [if_pos c5] at H
      have c5b0 : decide (0 ≤ x5_1) = true := decide_eq_true c5
      clear c5
      by_cases c6 : x5_1 < (l1.length : Int)
      ·rw [if_pos c6] at H
       have c6b0 : decide (x5_1 < (l1.length : Int)) = true := decide_eq_true c6
       clear c6
       by_cases c7 : (!(((rd_T64 l0 x5_1).f0) == ((rd_T64 l1 x5_1).f0)) || (!(((rd_T64 l0 x5_1).f1) == ((rd_T64 l1 x5_1).f1)) || (!(((rd_T64 l0 x5_1).f2) == ((rd_T64 l1 x5_1).f2)) || (!(((rd_T64 l0 x5_1).f3) == ((rd_T64 l1 x5_1).f3)))))) = true
       ·rw [if_pos c7] at H
        have c7b0 : (!(((rd_T64 l0 x5_1).f0) == ((rd_T64 l1 x5_1).f0)) || (!(((rd_T64 l0 x5_1).f1) == ((rd_T64 l1 x5_1).f1)) || (!(((rd_T64 l0 x5_1).f2) == ((rd_T64 l1 x5_1).f2)) || (!(((rd_T64 l0 x5_1).f3) == ((rd_T64 l1 x5_1).f3)))))) = true := c7
        clear c7
        obtain rfl := Option.some.inj H
        have p116 : 0 ≤ (x5_1 : Int) := of_decide_eq_true (by assumption)
        have q116 : x5_1 < (l0.length : Int) := of_decide_eq_true (by assumption)
        obtain ⟨ad116, e116, hx116_0, hx116_1, hx116_2, hx116_3⟩ := at_T64 HR0.out x5_1 p116 q116
        cases e116
        replace p116 := eq_true p116
        replace q116 := eq_true q116
        have p117 : 0 ≤ (x5_1 : Int) := of_decide_eq_true (by assumption)
        have q117 : x5_1 < (l1.length : Int) := of_decide_eq_true (by assumption)
        obtain ⟨ad117, e117, hx117_0, hx117_1, hx117_2, hx117_3⟩ := at_T64 HR1.out x5_1 p117 q117
        cases e117
        replace p117 := eq_true p117
        replace q117 := eq_true q117
        go_wp2
        repeat (go_quiet (fail); try go_wp2)
        go_ret
        exact ⟨by first | rfl | (simp; done) | (simp [*]; done), by repeat (first | exact Drawn0.refl _ | apply Drawn0.step)⟩
       ·rw [if_neg c7] at H
        have c7b0 : (!(((rd_T64 l0 x5_1).f0) == ((rd_T64 l1 x5_1).f0)) || (!(((rd_T64 l0 x5_1).f1) == ((rd_T64 l1 x5_1).f1)) || (!(((rd_T64 l0 x5_1).f2) == ((rd_T64 l1 x5_1).f2)) || (!(((rd_T64 l0 x5_1).f3) == ((rd_T64 l1 x5_1).f3)))))) = false := by simpa using c7
        clear c7
        have H' := asd H
        clear H
        have p116 : 0 ≤ (x5_1 : Int) := of_decide_eq_true (by assumption)
        have q116 : x5_1 < (l0.length : Int) := of_decide_eq_true (by assumption)
        obtain ⟨ad116, e116, hx116_0, hx116_1, hx116_2, hx116_3⟩ := at_T64 HR0.out x5_1 p116 q116
        cases e116
        replace p116 := eq_true p116
        replace q116 := eq_true q116
        have p117 : 0 ≤ (x5_1 : Int) := of_decide_eq_true (by assumption)
        have q117 : x5_1 < (l1.length : Int) := of_decide_eq_true (by assumption)
        obtain ⟨ad117, e117, hx117_0, hx117_1, hx117_2, hx117_3⟩ := at_T64 HR1.out x5_1 p117 q117
        cases e117
        replace p117 := eq_true p117
        replace q117 := eq_true q117
        go_wp2
        repeat (go_quiet (fail); try go_wp2)
        go_roundg k1
        case measure => have := HK1.out; omega
        case rel => exact ⟨(wrap64 (x5_1 + 1)), (by first | rfl | (simp; done) | (simp [*]; done)), H', ⟨by have := HK1.out; omega⟩, by repeat (first | exact Drawn0.refl _ | apply Drawn0.step)⟩
      ·rw [if_neg c6] at H
       exact absurd H (by simp)
     ·rw [if_neg c5] at H
      exact absurd H (by simp)
    ·rw [if_neg c4] at H
     have c4b0 : decide (x5_1 < (l0.length : Int)) = false := decide_eq_false c4
     clear c4
     obtain rfl := Option.some.inj H
     go_wp2
     repeat (go_quiet (fail); try go_wp2)
     go_ret
     exact ⟨by first | rfl | (simp; done) | (simp [*]; done), by repeat (first | exact Drawn0.refl _ | apply Drawn0.step)⟩
 ·rw [if_neg c3] at H
  have c3b0 : ((l0.length : Int) == (l1.length : Int)) = false := beq_eq_false_iff_ne.mpr c3
  have c3b1 : ((l0.length : Int) != (l1.length : Int)) = true := bne_iff_ne.mpr c3
  have c3b2 : (l0.length == l1.length) = false := by first | simpa using c3 | (simp at c3 ⊢; omega)
  obtain rfl := Option.some.inj H
  go_enter Try.func22, Try.ntmps22
  go_wp2
  repeat (go_quiet (fail); try go_wp2)
  go_ret
  exact ⟨by first | rfl | (simp; done) | (simp [*]; done), by repeat (first | exact Drawn0.refl _ | apply Drawn0.step)⟩
end Go.Proofs.Ytalimpniimgheaa.Fn
namespace Go.Proofs.Ytalimpniimgheaa.Fn
open Go.RowKit Go.Proofs.YtalimpniimgheaaW.PrintWords Go.Proofs.YtalimpniimgheaaW.PrintLast Go.Proofs.YtalimpniimgheaaW.PrintMore
attribute [local go_sem] max2_int min2_int max_two min_two max_three min_three max_four min_four
set_option linter.unusedVariables false
set_option linter.unusedSimpArgs false
def parcloselaw23_Refs.l0 : Nat → List (S65) → List (S64) → Int → Option ((List (S64)))
 | 0, _, _, _ => none
 | k + 1, x0, x3, x4 => if x4 < (x0.length : Int) then (if 0 ≤ x4 then (if x3.length < 4398046511104 then (parcloselaw23_Refs.l0 k x0 (x3 ++ [(⟨(rd_T65 x0 x4).f0, (rd_T65 x0 x4).f1, (rd_T65 x0 x4).f2, (rd_T65 x0 x4).f3⟩ : S64)]) (wrap64 (x4 + 1))) else (none)) else (none)) else (some x3)
def parcloselaw23_Refs.f (k : Nat) (l0 : List (S65)) : Option ((List (S64))) := parcloselaw23_Refs.l0 k l0 ([] : List (S64)) 0
set_option maxHeartbeats 8000000 in
set_option maxRecDepth 100000 in
theorem parcloselaw23_Refs.calls (k : Nat) (A0 : Option Addr) (c0 : Nat) (l0 : List (S65)) (r : List (S64)) (w : World) (hr0 : Kd.C k65 w A0 l0.length l0) (hc0 : l0.length ≤ c0) (h : parcloselaw23_Refs.f k l0 = some r) :
  Calls Try.prog 23 #[.slice A0 l0.length c0] w fun e w' => ∃ v0_ : Value, e = .returned (v0_) ∧ Kd.R k64 64 w' w.heap.size (fun _ => True) v0_ r ∧ Below w.heap.size w w' := by
 have hu65 := Try.underlying65
 have HR0 := asd hr0
 have HC0 := asd hc0
 clear hr0 hc0
 have HB := asd (Below.refl w.heap.size w)
 have H : (parcloselaw23_Refs.l0 k l0 ([] : List (S64)) 0) = some r := h
 clear h
 have H' := asd H
 clear H
 go_enter Try.func23, Try.ntmps23
 go_wp2
 go_loopg [3, 4] k (fun kq v3 v4 w' => ∃ (x3_1 : List (S64)) (x4_1 : Int), v4 = .int .i64 x4_1 ∧ Aside0 (parcloselaw23_Refs.l0 kq l0 x3_1 x4_1 = some r) ∧ Aside0 (kq ≤ k) ∧ Aside0 (Kd.R k64 64 w' w.heap.size (fun _ => True) v3 x3_1) ∧ Aside0 (Below w.heap.size w w'))
 case atStart => exact ⟨(([] : List (S64))), (0), (by first | rfl | (simp; done) | (simp [*]; done)), H', ⟨Nat.le_refl _⟩, ⟨by first | exact Kd.R_nil _ _ _ _ _ | exact Kd.N_nil _ _ _ _ _ | exact Kd.V_nil _ _ _ _ _ | exact Kd.Q_nil _ _ _ _ _ | exact Kd.S_nil _ _ _ _ _⟩, ⟨by repeat (first | (with_reducible first | exact HB.out | apply wa | apply wn | apply wd) | exact HB.out)⟩⟩
 case round =>
  clear H'
  obtain ⟨x3_1, x4_1, rfl, HA, HK1, HO_3, HB⟩ := hrel
  cases gk with
  | zero => exact absurd HA.out (by simp [parcloselaw23_Refs.l0])
  | succ k1 =>
   have H := HA.out
   clear HA
   simp only [parcloselaw23_Refs.l0] at H
   by_cases c2 : x4_1 < (l0.length : Int)
   ·rw [if_pos c2] at H
    have c2b0 : decide (x4_1 < (l0.length : Int)) = true := decide_eq_true c2
    clear c2
    by_cases c3 : 0 ≤ x4_1
    ·rw [if_pos c3] at H
     have c3b0 : decide (0 ≤ x4_1) = true := decide_eq_true c3
     clear c3
     by_cases c4 : x3_1.length < 4398046511104
     ·rw [if_pos c4] at H
      have LMc4 := asd c4
      clear c4
      obtain ⟨y119, hy119⟩ : ∃ y_ : List (S64), y_ = (x3_1 ++ [(⟨(rd_T65 l0 x4_1).f0, (rd_T65 l0 x4_1).f1, (rd_T65 l0 x4_1).f2, (rd_T65 l0 x4_1).f3⟩ : S64)]) := ⟨_, rfl⟩
      replace H : (parcloselaw23_Refs.l0 k1 l0 y119 (wrap64 (x4_1 + 1))) = some r := by first | (rw [hy119]; with_reducible exact H) | (have H2_ := (Option.bind_some _ _).symm.trans H; rw [hy119]; with_reducible exact H2_) | (have H2_ := (Option.bind_some _ _).symm.trans H; with_reducible exact H2_) | with_reducible exact H | (rw [hy119]; exact H) | exact H
      have Ny119 := asd hy119
      clear hy119
      have H' := asd H
      clear H
      have p118 : 0 ≤ (x4_1 : Int) := of_decide_eq_true (by assumption)
      have q118 : x4_1 < (l0.length : Int) := of_decide_eq_true (by assumption)
      obtain ⟨ad118, e118, hx118_0, hx118_1, hx118_2, hx118_3⟩ := at_T65 HR0.out x4_1 p118 q118
      cases e118
      replace hx118_0 := (HB.out.cell (World.block_lt_of_cell? w _ hx118_0)).trans hx118_0
      replace hx118_1 := (HB.out.cell (World.block_lt_of_cell? w _ hx118_1)).trans hx118_1
      replace hx118_2 := (HB.out.cell (World.block_lt_of_cell? w _ hx118_2)).trans hx118_2
      replace hx118_3 := (HB.out.cell (World.block_lt_of_cell? w _ hx118_3)).trans hx118_3
      replace p118 := eq_true p118
      replace q118 := eq_true q118
      go_wp2_with (first | ((with_reducible refine gate_builtin (b := .append) (xs := #[.tmp 11, .tmp 16]) rfl ?_); at_builtin; refine Kd.R_append k64 (w0 := w) w.heap.size rfl (.tmp 11) (.tmp 16) 29 64 (.agg #[(.int .i64 0), (.int .i64 0), (.int .i64 0), (.int .i64 0)]) 32 rfl Try.underlying29 info64 rfl (by decide) (by omega) u3 x3_1 (⟨(rd_T65 l0 x4_1).f0, (rd_T65 l0 x4_1).f1, (rd_T65 l0 x4_1).f2, (rd_T65 l0 x4_1).f3⟩ : S64) [.int .i64 ((rd_T65 l0 x4_1).f0), .int .i64 ((rd_T65 l0 x4_1).f1), .int .i64 ((rd_T65 l0 x4_1).f2), .int .i64 ((rd_T65 l0 x4_1).f3)] (fun _ => True) (fun _ => False) rfl rfl ?aP (fun _ hk => hk.elim) ?aF ?aO ?aB ?aS ?aL ?_; (case aP => exact k64_mkM _ _ _ (⟨(rd_T65 l0 x4_1).f0, (rd_T65 l0 x4_1).f1, (rd_T65 l0 x4_1).f2, (rd_T65 l0 x4_1).f3⟩ : S64)); (case aB => exact (by repeat (first | (with_reducible first | exact HB.out | apply wa | apply wn | apply wd) | exact HB.out))); (case aF => exact (fun _ _ => trivial)); (case aO => exact (by (with_reducible repeat (first | apply Kd.R_alloc | apply Kd.R_drewN | apply Kd.R_drew)); exact HO_3.out)); (case aS => exact (below_size (by repeat (first | (with_reducible first | exact HB.out | apply wa | apply wn | apply wd) | exact HB.out)))); (case aL => have := LMc4.out; omega); intro v120 w5 ho hb hg hat; rw [← Ny119.out] at ho; have n0_ := asd (hb); have n1_ := asd (ho); clear HB; clear HO_3; have HB := n0_; have HO121 := n1_; clear n0_ n1_; clear ho hb hg hat))
      go_roundg k1
      case measure => have := HK1.out; omega
      case rel => exact ⟨(y119), (wrap64 (x4_1 + 1)), (by first | rfl | (simp; done) | (simp [*]; done)), H', ⟨by have := HK1.out; omega⟩, ⟨by (with_reducible repeat (first | apply Kd.R_alloc | apply Kd.R_drewN | apply Kd.R_drew)); exact HO121.out⟩, ⟨by repeat (first | (with_reducible first | exact HB.out | apply wa | apply wn | apply wd) | exact HB.out)⟩⟩
     ·rw [if_neg c4] at H
      exact absurd H (by simp)
    ·rw [if_neg c3] at H
     exact absurd H (by simp)
   ·rw [if_neg c2] at H
    have c2b0 : decide (x4_1 < (l0.length : Int)) = false := decide_eq_false c2
    clear c2
    obtain rfl := Option.some.inj H
    go_wp2
    go_ret
    exact ⟨_, by first | rfl | (simp [*] <;> rfl), by (with_reducible repeat (first | apply Kd.R_alloc | apply Kd.R_drewN | apply Kd.R_drew)); exact HO_3.out, by repeat (first | (with_reducible first | exact HB.out | apply wa | apply wn | apply wd) | exact HB.out)⟩
end Go.Proofs.Ytalimpniimgheaa.Fn
namespace Go.Proofs.Ytalimpniimgheaa.Fn
open Go.RowKit Go.Proofs.YtalimpniimgheaaW.PrintWords Go.Proofs.YtalimpniimgheaaW.PrintLast Go.Proofs.YtalimpniimgheaaW.PrintMore
set_option linter.unusedVariables false
set_option linter.unusedSimpArgs false
instance : DecidableEq S64 := fun a b => decidable_of_iff (a.f0 = b.f0 ∧ a.f1 = b.f1 ∧ a.f2 = b.f2 ∧ a.f3 = b.f3) (by cases a; cases b; simp)
def toR4 (x : S65) : S64 := ⟨x.f0, x.f1, x.f2, x.f3⟩
theorem refs23_ev (l : List S65) (hl : l.length ≤ 65536) : ∀ (n x : Nat) (acc : List S64), x + n = l.length → acc.length ≤ x → Ev (fun k => parcloselaw23_Refs.l0 k l acc (x : Int)) (acc ++ (l.drop x).map toR4) := by
 intro n
 induction n with
 | zero =>
  intro x acc hx ha
  refine Ev.step (f := fun _ => some acc) (fun k => by simp only [parcloselaw23_Refs.l0]; rw [if_neg (by omega)]) ?_
  rw [List.drop_of_length_le (by omega)]
  simp only [List.map_nil, List.append_nil]
  exact Ev.now _
 | succ n ih =>
  intro x acc hx ha
  refine Ev.step (f := fun k => parcloselaw23_Refs.l0 k l (acc ++ [toR4 (l.getD x z65)]) ((x + 1 : Nat) : Int)) (fun k => by
   simp only [parcloselaw23_Refs.l0]
   rw [if_pos (by omega), if_pos (by omega), if_pos (by omega), show wrap64 ((x : Int) + 1) = ((x + 1 : Nat) : Int) by unfold wrap64; omega]
   rfl) ?_
  have h := ih (x + 1) (acc ++ [toR4 (l.getD x z65)]) (by omega) (by simp; omega)
  rw [List.append_assoc] at h
  have e : l.drop x = l.getD x z65 :: l.drop (x + 1) := by rw [getD_lt l z65 (by omega)]; exact List.drop_eq_getElem_cons (by omega)
  rw [e, List.map_cons]
  exact h
theorem refs23_f (l : List S65) (hl : l.length ≤ 65536) : ∃ k, parcloselaw23_Refs.f k l = some (l.map toR4) := by
 have h := refs23_ev l hl l.length 0 [] (by omega) (by simp)
 simp only [List.nil_append, List.drop_zero] at h
 exact h.rounds
theorem same23_ev (a b : List S64) (hl : a.length = b.length) (ha : a.length ≤ 100000) : ∀ (n x : Nat), x + n = a.length → Ev (fun k => parcloseref23_Same.l0 k a b (x : Int)) (decide (a.drop x = b.drop x)) := by
 intro n
 induction n with
 | zero =>
  intro x hx
  rw [List.drop_of_length_le (by omega), List.drop_of_length_le (by omega)]
  refine Ev.step (f := fun _ => some true) (fun k => by simp only [parcloseref23_Same.l0]; rw [if_neg (by omega)]) ?_
  exact Ev.now _
 | succ n ih =>
  intro x hx
  have ea : a.drop x = a.getD x z64 :: a.drop (x + 1) := by rw [getD_lt a z64 (by omega)]; exact List.drop_eq_getElem_cons (by omega)
  have eb : b.drop x = b.getD x z64 :: b.drop (x + 1) := by rw [getD_lt b z64 (by omega)]; exact List.drop_eq_getElem_cons (by omega)
  have ra : rd_T64 a (x : Int) = a.getD x z64 := by unfold rd_T64; rw [Int.toNat_natCast]
  have rb : rd_T64 b (x : Int) = b.getD x z64 := by unfold rd_T64; rw [Int.toNat_natCast]
  by_cases he : a.getD x z64 = b.getD x z64
  ·have hd : decide (a.drop x = b.drop x) = decide (a.drop (x + 1) = b.drop (x + 1)) := by rw [ea, eb, he]; simp
   rw [hd]
   refine Ev.step (f := fun k => parcloseref23_Same.l0 k a b ((x + 1 : Nat) : Int)) (fun k => by
    simp only [parcloseref23_Same.l0]
    rw [if_pos (by omega), if_pos (by omega), if_pos (by omega), ra, rb, he, if_neg (by simp), show wrap64 ((x : Int) + 1) = ((x + 1 : Nat) : Int) by unfold wrap64; omega]) (ih (x + 1) (by omega))
  ·have hd : decide (a.drop x = b.drop x) = false := decide_eq_false (by rw [ea, eb]; intro h; exact he (List.cons.inj h).1)
   rw [hd]
   refine Ev.step (f := fun _ => some false) (fun k => by
    simp only [parcloseref23_Same.l0]
    rw [if_pos (by omega), if_pos (by omega), if_pos (by omega), ra, rb, if_pos]
    have h4 : ¬ ((a.getD x z64).f0 = (b.getD x z64).f0 ∧ (a.getD x z64).f1 = (b.getD x z64).f1 ∧ (a.getD x z64).f2 = (b.getD x z64).f2 ∧ (a.getD x z64).f3 = (b.getD x z64).f3) := by
     rintro ⟨h0, h1, h2, h3⟩
     apply he
     cases h5 : a.getD x z64
     cases h6 : b.getD x z64
     simp_all
    simp only [Bool.or_eq_true, Bool.not_eq_true', beq_eq_false_iff_ne, ne_eq]
    omega) (Ev.now _)
theorem same23_f (a b : List S64) (ha : a.length ≤ 100000) : ∃ k, parcloseref23_Same.f k a b = some (decide (a = b)) := by
 unfold parcloseref23_Same.f
 by_cases h : a.length = b.length
 ·have h2 := same23_ev a b h ha a.length 0 (by omega)
  simp only [List.drop_zero] at h2
  obtain ⟨k, hk⟩ := h2.rounds
  exact ⟨k, by rw [if_pos (by omega)]; exact hk⟩
 ·exact ⟨0, by rw [if_neg (by omega), decide_eq_false (fun e => h (by rw [e]))]⟩
def o67 (x : S117) : S67 := ⟨x.f0, e65 x.f1⟩
theorem rd117 (xs : List S117) (i : Nat) : rd_T117 xs (i : Int) = xs.getD i z117 := by unfold rd_T117; rw [Int.toNat_natCast]
theorem rd67 (xs : List S67) (i : Nat) : rd_T67 xs (i : Int) = xs.getD i z67 := by unfold rd_T67; rw [Int.toNat_natCast]
theorem rows_go (l : List S117) (hl : l.length ≤ 100000) : ∀ n (i : Nat), l.length - i = n → i ≤ l.length → ∃ k, parcloselaw40_rows.l0 k l ((l.take i).map o67) (i : Int) = some (l.map o67) := by
 intro n
 induction n with
 | zero =>
  intro i hn hi
  refine ⟨1, ?_⟩
  unfold parcloselaw40_rows.l0
  rw [if_neg (by omega), List.take_of_length_le (by omega)]
 | succ n ih =>
  intro i hn hi
  obtain ⟨k, hk⟩ := ih (i + 1) (by omega) (by omega)
  refine ⟨k + 1, ?_⟩
  unfold parcloselaw40_rows.l0
  rw [if_pos (by omega), if_pos (by omega), if_pos (by rw [List.length_map, List.length_take]; omega), rd117, w64n i (by omega)]
  rw [← take_succ_map o67 l z117 i (by omega)] at hk
  exact hk
theorem rows_ev (l : List S117) (hl : l.length ≤ 100000) : ∃ k, parcloselaw40_rows.f k l = some (l.map o67) := rows_go l hl _ 0 rfl (Nat.zero_le _)
def ofP {α : Type} (f : α → Int) (p : Nat) (xs : List α) : List α := xs.filter (fun x => decide (f x = (p : Int)))
def splitP {α β : Type} (f : α → Int) (g : α → β) (xs : List α) (n : Nat) : List (List β) := (List.range n).map (fun p => (ofP f p xs).map g)
theorem splitP_len {α β : Type} (f : α → Int) (g : α → β) (xs : List α) (n : Nat) : (splitP f g xs n).length = n := by simp [splitP]
theorem splitP_get {α β : Type} (f : α → Int) (g : α → β) (xs : List α) (n p : Nat) (h : p < n) : (splitP f g xs n).getD p [] = (ofP f p xs).map g := by
 simp [splitP, List.getD_eq_getElem?_getD, List.getElem?_map, List.getElem?_range h]
theorem ofP_snoc {α : Type} (f : α → Int) (p : Nat) (xs : List α) (x : α) : ofP f p (xs ++ [x]) = if f x = (p : Int) then ofP f p xs ++ [x] else ofP f p xs := by
 unfold ofP
 rw [List.filter_append]
 by_cases h : f x = (p : Int)
 ·rw [if_pos h]; simp [h]
 ·rw [if_neg h]; simp [h]
theorem getD_ext {α : Type} (d : α) {a b : List α} (hl : a.length = b.length) (h : ∀ i, i < a.length → a.getD i d = b.getD i d) : a = b := by
 refine List.ext_getElem hl (fun i h1 h2 => ?_)
 have := h i h1
 rwa [List.getD_eq_getElem?_getD, List.getD_eq_getElem?_getD, List.getElem?_eq_getElem h1, List.getElem?_eq_getElem h2] at this
theorem splitP_in {α β : Type} (f : α → Int) (g : α → β) (xs : List α) (n : Nat) (x : α) (p : Nat) (hp : f x = (p : Int)) (hn : p < n) : (splitP f g xs n).set p ((splitP f g xs n).getD p [] ++ [g x]) = splitP f g (xs ++ [x]) n := by
 refine getD_ext [] (by rw [List.length_set, splitP_len, splitP_len]) (fun i hi => ?_)
 rw [List.length_set, splitP_len] at hi
 rw [getD_set, splitP_get _ _ _ _ _ hi, splitP_get _ _ _ _ _ hn, splitP_get _ _ _ _ _ hi, ofP_snoc, splitP_len]
 by_cases e : p = i
 ·subst e
  rw [if_pos ⟨rfl, hn⟩, if_pos hp, List.map_append]; rfl
 ·rw [if_neg (fun q => e q.1), if_neg (fun q => e (by omega))]
theorem splitP_out {α β : Type} (f : α → Int) (g : α → β) (xs : List α) (n : Nat) (x : α) (hp : ¬ (0 ≤ f x ∧ f x < (n : Int))) : splitP f g (xs ++ [x]) n = splitP f g xs n := by
 refine getD_ext [] (by rw [splitP_len, splitP_len]) (fun i hi => ?_)
 rw [splitP_len] at hi
 rw [splitP_get _ _ _ _ _ hi, splitP_get _ _ _ _ _ hi, ofP_snoc, if_neg (fun q => hp (by omega))]
theorem splitP_nil {α β : Type} (f : α → Int) (g : α → β) (n : Nat) : splitP f g [] n = List.replicate n [] := by
 refine getD_ext [] (by rw [splitP_len, List.length_replicate]) (fun i hi => ?_)
 rw [splitP_len] at hi
 rw [splitP_get _ _ _ _ _ hi]
 simp [ofP, List.getD_eq_getElem?_getD, List.getElem?_replicate, hi]
theorem take_snoc {α : Type} (l : List α) (d : α) (i : Nat) (h : i < l.length) : l.take (i + 1) = l.take i ++ [l.getD i d] := by
 rw [List.take_succ_eq_append_getElem h]; simp [List.getD, h]
def ns (parts : Int) : Nat := (mn (mx parts 0) 64).toNat
theorem ns_eq (parts : Int) : mn (mx parts 0) 64 = (ns parts : Int) := by unfold ns mn mx; (repeat' split) <;> omega
theorem ns_le (parts : Int) : ns parts ≤ 64 := by unfold ns mn mx; (repeat' split) <;> omega
def f67 (x : S67) : Int := x.f0
def g67 (x : S67) : S65 := x.f1
def f117 (x : S117) : Int := x.f0
def g117 (x : S117) : S64 := x.f1
theorem msplit_go (ys : List S67) (n : Nat) (hn : n ≤ 64) (hl : ys.length ≤ 100000) : ∀ m (i : Nat), ys.length - i = m → i ≤ ys.length → ∃ k, merge_Split.l0 k (n : Int) (splitP f67 g67 (ys.take i) n) ys (ys.length : Int) (i : Int) = some (splitP f67 g67 ys n) := by
 intro m
 induction m with
 | zero =>
  intro i hm hi
  refine ⟨1, ?_⟩
  unfold merge_Split.l0
  rw [if_neg (by omega), List.take_of_length_le (by omega)]
 | succ m ih =>
  intro i hm hi
  obtain ⟨k, hk⟩ := ih (i + 1) (by omega) (by omega)
  refine ⟨k + 1, ?_⟩
  unfold merge_Split.l0
  rw [if_pos (by omega), if_pos (by omega), if_pos (by omega), rd67, w64n i (by omega)]
  rw [take_snoc ys z67 i (by omega)] at hk
  by_cases h0 : (ys.getD i z67).f0 ≥ 0
  ·rw [if_pos h0]
   by_cases h1 : (ys.getD i z67).f0 < (n : Int)
   ·have hp : f67 (ys.getD i z67) = (((ys.getD i z67).f0.toNat : Nat) : Int) := by unfold f67; omega
    have hpn : (ys.getD i z67).f0.toNat < n := by omega
    rw [← splitP_in f67 g67 (ys.take i) n (ys.getD i z67) _ hp hpn] at hk
    have hlen : ((splitP f67 g67 (ys.take i) n).getD (ys.getD i z67).f0.toNat []).length ≤ 100000 := by
     rw [splitP_get _ _ _ _ _ hpn, List.length_map]
     unfold ofP
     have := List.length_filter_le (fun x => decide (f67 x = (((ys.getD i z67).f0.toNat : Nat) : Int))) (ys.take i)
     rw [List.length_take] at this; omega
    rw [if_pos h1, if_pos (by omega), if_pos (by rw [splitP_len]; exact h1), if_pos (by unfold rd_L10; omega)]
    exact hk
   ·rw [if_neg h1]
    rw [splitP_out f67 g67 _ n _ (fun q => h1 q.2)] at hk
    exact hk
  ·rw [if_neg h0]
   rw [splitP_out f67 g67 _ n _ (fun q => h0 q.1)] at hk
   exact hk
theorem msplit_ev (ys : List S67) (parts : Int) (hl : ys.length ≤ 100000) : ∃ k, merge_Split.f k ys parts = some (splitP f67 g67 ys (ns parts)) := by
 unfold merge_Split.f
 rw [ns_eq]
 have h64 := ns_le parts
 by_cases h : (ns parts : Int) = 0
 ·have e : ns parts = 0 := by omega
  exact ⟨0, by rw [if_pos h, e]; rfl⟩
 ·obtain ⟨k, hk⟩ := msplit_go ys (ns parts) h64 hl _ 0 rfl (Nat.zero_le _)
  rw [List.take_zero, splitP_nil] at hk
  exact ⟨k, by rw [if_neg h, if_pos (by omega), if_pos (by omega), Int.toNat_natCast]; exact hk⟩
theorem rsplit_in (xs : List S117) (n : Nat) (hn : n ≤ 64) (hl : xs.length ≤ 100000) (p : Nat) (hp : p < n) (Pr : List (List S64) → Prop) (hfin : ∃ k r, parcloseref40_Split.l0 k xs (n : Int) (splitP f117 g117 xs (p + 1)) ((p + 1 : Nat) : Int) = some r ∧ Pr r) : ∀ m (i : Nat), xs.length - i = m → i ≤ xs.length → ∃ k r, parcloseref40_Split.l1 k xs (n : Int) (splitP f117 g117 xs p) (p : Int) ((ofP f117 p (xs.take i)).map g117) (i : Int) = some r ∧ Pr r := by
 intro m
 induction m with
 | zero =>
  intro i hm hi
  obtain ⟨k, r, hk, hr⟩ := hfin
  refine ⟨k + 1, r, ?_, hr⟩
  unfold parcloseref40_Split.l1
  rw [if_neg (by omega), if_pos (by rw [splitP_len]; omega), w64n p (by omega), List.take_of_length_le (by omega)]
  have e : splitP f117 g117 xs p ++ [(ofP f117 p xs).map g117] = splitP f117 g117 xs (p + 1) := by unfold splitP; rw [List.range_succ, List.map_append]; rfl
  rw [e]; exact hk
 | succ m ih =>
  intro i hm hi
  obtain ⟨k, r, hk, hr⟩ := ih (i + 1) (by omega) (by omega)
  refine ⟨k + 1, r, ?_, hr⟩
  unfold parcloseref40_Split.l1
  rw [if_pos (by omega), if_pos (by omega), rd117, w64n i (by omega)]
  rw [take_snoc xs z117 i (by omega), ofP_snoc] at hk
  by_cases h : (xs.getD i z117).f0 = (p : Int)
  ·rw [if_pos h]
   rw [if_pos (show f117 (xs.getD i z117) = (p : Int) from h), List.map_append] at hk
   rw [if_pos (by
    rw [List.length_map]; unfold ofP
    have := List.length_filter_le (fun x => decide (f117 x = (p : Int))) (xs.take i)
    rw [List.length_take] at this; omega)]
   exact hk
  ·rw [if_neg h]
   rw [if_neg (show ¬ f117 (xs.getD i z117) = (p : Int) from h)] at hk
   exact hk
theorem rsplit_go (xs : List S117) (n : Nat) (hn : n ≤ 64) (hl : xs.length ≤ 100000) : ∀ m (p : Nat), n - p = m → p ≤ n → ∃ k r, parcloseref40_Split.l0 k xs (n : Int) (splitP f117 g117 xs p) (p : Int) = some r ∧ r = splitP f117 g117 xs n := by
 intro m
 induction m with
 | zero =>
  intro p hm hp
  refine ⟨1, _, ?_, rfl⟩
  unfold parcloseref40_Split.l0
  rw [if_neg (by omega)]
  obtain rfl : p = n := by omega
  rfl
 | succ m ih =>
  intro p hm hp
  obtain ⟨k, r, hk, hr⟩ := rsplit_in xs n hn hl p (by omega) (fun r => r = splitP f117 g117 xs n) (ih (p + 1) (by omega) (by omega)) _ 0 rfl (Nat.zero_le _)
  refine ⟨k + 1, r, ?_, hr⟩
  unfold parcloseref40_Split.l0
  rw [if_pos (by omega)]
  exact hk
theorem rsplit_ev (xs : List S117) (parts : Int) (hl : xs.length ≤ 100000) : ∃ k, parcloseref40_Split.f k xs parts = some (splitP f117 g117 xs (ns parts)) := by
 obtain ⟨k, r, hk, hr⟩ := rsplit_go xs (ns parts) (ns_le parts) hl _ 0 rfl (Nat.zero_le _)
 refine ⟨k, ?_⟩
 unfold parcloseref40_Split.f
 rw [ns_eq, ← hr]
 exact hk
theorem ofP_map (xs : List S117) (p : Nat) : ofP f67 p (xs.map o67) = (ofP f117 p xs).map o67 := by unfold ofP; rw [List.filter_map]; rfl
theorem split_same (xs : List S117) (n : Nat) : splitP f67 g67 (xs.map o67) n = (splitP f117 g117 xs n).map (·.map e65) := by
 unfold splitP
 rw [List.map_map]
 refine List.map_congr_left (fun p _ => ?_)
 rw [ofP_map]
 simp only [Function.comp, List.map_map]
 rfl
theorem rbet_go (xs : List S117) (a b : Int) (hl : xs.length ≤ 100000) : ∀ m (i : Nat), xs.length - i = m → i ≤ xs.length → ∃ k, parcloseref40_Between.l0 k xs a b ((xs.take i).filter (fun x => decide (a ≤ x.f1.f0) && decide (x.f1.f0 < b))) (i : Int) = some (xs.filter (fun x => decide (a ≤ x.f1.f0) && decide (x.f1.f0 < b))) := by
 intro m
 induction m with
 | zero =>
  intro i hm hi
  refine ⟨1, ?_⟩
  unfold parcloseref40_Between.l0
  rw [if_neg (by omega), List.take_of_length_le (by omega)]
 | succ m ih =>
  intro i hm hi
  obtain ⟨k, hk⟩ := ih (i + 1) (by omega) (by omega)
  refine ⟨k + 1, ?_⟩
  unfold parcloseref40_Between.l0
  rw [if_pos (by omega), if_pos (by omega), rd117, w64n i (by omega)]
  rw [take_snoc xs z117 i (by omega), List.filter_append] at hk
  have hf := List.length_filter_le (fun x : S117 => decide (a ≤ x.f1.f0) && decide (x.f1.f0 < b)) (xs.take i)
  rw [List.length_take] at hf
  by_cases h0 : (xs.getD i z117).f1.f0 ≥ a
  ·rw [if_pos h0]
   by_cases h1 : (xs.getD i z117).f1.f0 < b
   ·rw [if_pos h1, if_pos (by omega)]
    have e : [xs.getD i z117].filter (fun x => decide (a ≤ x.f1.f0) && decide (x.f1.f0 < b)) = [xs.getD i z117] := by
     rw [List.filter_cons, if_pos (by rw [decide_eq_true h0, decide_eq_true h1]; rfl)]; rfl
    rw [e] at hk
    exact hk
   ·rw [if_neg h1]
    have e : [xs.getD i z117].filter (fun x => decide (a ≤ x.f1.f0) && decide (x.f1.f0 < b)) = [] := by
     rw [List.filter_cons, if_neg (by rw [decide_eq_false h1, Bool.and_false]; simp)]; rfl
    rw [e, List.append_nil] at hk
    exact hk
  ·rw [if_neg h0]
   have e : [xs.getD i z117].filter (fun x => decide (a ≤ x.f1.f0) && decide (x.f1.f0 < b)) = [] := by
    rw [List.filter_cons, if_neg (by rw [decide_eq_false (show ¬ a ≤ (xs.getD i z117).f1.f0 from h0), Bool.false_and]; simp)]; rfl
   rw [e, List.append_nil] at hk
   exact hk
theorem rbet_ev (xs : List S117) (a b : Int) (hl : xs.length ≤ 100000) : ∃ k, parcloseref40_Between.f k xs a b = some (xs.filter (fun x => decide (a ≤ x.f1.f0) && decide (x.f1.f0 < b))) := rbet_go xs a b hl _ 0 rfl (Nat.zero_le _)
def knB (n : Int) : Bool := decide (0 ≤ n) && decide (n < 64)
def mostP (qs : List (Int × Int)) : Int := qs.foldl (fun m q => if knB q.1 = true then mx m q.1 else m) (-1)
theorem mostP_snoc (qs : List (Int × Int)) (q : Int × Int) : mostP (qs ++ [q]) = if knB q.1 = true then mx (mostP qs) q.1 else mostP qs := by unfold mostP; rw [List.foldl_append]; rfl
theorem knB_iff (n : Int) : knB n = true ↔ 0 ≤ n ∧ n < 64 := by unfold knB; simp
theorem list_snoc {α : Type} (P : List α → Prop) (h0 : P []) (h1 : ∀ l x, P l → P (l ++ [x])) (l : List α) : P l := by
 have h : ∀ n, ∀ l : List α, l.length = n → P l := by
  intro n
  induction n with
  | zero => intro l hl; rw [List.eq_nil_of_length_eq_zero hl]; exact h0
  | succ n ih =>
   intro l hl
   have hne : l ≠ [] := fun e => by rw [e] at hl; simp at hl
   rw [← List.dropLast_concat_getLast hne]
   exact h1 _ _ (ih _ (by rw [List.length_dropLast]; omega))
 exact h _ l rfl
theorem mostP_bd (qs : List (Int × Int)) : -1 ≤ mostP qs ∧ mostP qs < 64 := by
 refine list_snoc (fun qs => -1 ≤ mostP qs ∧ mostP qs < 64) ⟨by decide, by decide⟩ (fun l x ih => ?_) qs
 rw [mostP_snoc]
 by_cases h : knB x.1 = true
 ·rw [if_pos h]
  have := (knB_iff _).1 h
  unfold mx; split <;> omega
 ·rw [if_neg h]; exact ih
theorem mostP_ge (qs : List (Int × Int)) : ∀ q, q ∈ qs → knB q.1 = true → q.1 ≤ mostP qs := by
 refine list_snoc (fun qs => ∀ q, q ∈ qs → knB q.1 = true → q.1 ≤ mostP qs) (fun q hq => by simp at hq) (fun l x ih q hq hk => ?_) qs
 rw [mostP_snoc]
 rcases List.mem_append.1 hq with h | h
 ·have := ih q h hk
  by_cases h2 : knB x.1 = true
  ·rw [if_pos h2]; unfold mx; split <;> omega
  ·rw [if_neg h2]; exact this
 ·obtain rfl : q = x := by simpa using h
  rw [if_pos hk]; unfold mx; split <;> omega
theorem mostP_filter (qs : List (Int × Int)) : mostP (qs.filter (fun q => knB q.1)) = mostP qs := by
 refine list_snoc (fun qs => mostP (qs.filter (fun q => knB q.1)) = mostP qs) rfl (fun l x ih => ?_) qs
 rw [List.filter_append, mostP_snoc]
 by_cases h : knB x.1 = true
 ·rw [if_pos h, show [x].filter (fun q => knB q.1) = [x] by simp [h], mostP_snoc, if_pos h, ih]
 ·rw [if_neg h, show [x].filter (fun q => knB q.1) = [] by simp [h], List.append_nil, ih]
def cntP (kind : Int) (qs : List (Int × Int)) (p : Nat) : Nat := qs.countP (fun q => decide (q.1 = (p : Int)) && decide (q.2 = kind))
theorem cntP_snoc (kind : Int) (qs : List (Int × Int)) (q : Int × Int) (p : Nat) : cntP kind (qs ++ [q]) p = cntP kind qs p + if q.1 = (p : Int) ∧ q.2 = kind then 1 else 0 := by
 unfold cntP
 rw [List.countP_append]
 by_cases h : q.1 = (p : Int) ∧ q.2 = kind
 ·rw [if_pos h]; simp [h.1, h.2]
 ·rw [if_neg h]
  have : (decide (q.1 = (p : Int)) && decide (q.2 = kind)) = false := by
   rw [Bool.and_eq_false_iff]
   by_cases h1 : q.1 = (p : Int)
   ·exact .inr (decide_eq_false (fun h2 => h ⟨h1, h2⟩))
   ·exact .inl (decide_eq_false h1)
  simp [this]
theorem cntP_filter (kind : Int) (qs : List (Int × Int)) (p : Nat) (hp : p < 64) : cntP kind (qs.filter (fun q => knB q.1)) p = cntP kind qs p := by
 refine list_snoc (fun qs => cntP kind (qs.filter (fun q => knB q.1)) p = cntP kind qs p) rfl (fun l x ih => ?_) qs
 rw [List.filter_append, cntP_snoc]
 by_cases h : knB x.1 = true
 ·rw [show [x].filter (fun q => knB q.1) = [x] by simp [h], cntP_snoc, ih]
 ·rw [show [x].filter (fun q => knB q.1) = [] by simp [h], List.append_nil, ih, if_neg (fun q => h ((knB_iff _).2 (by omega))), Nat.add_zero]
theorem cntP_le (kind : Int) (qs : List (Int × Int)) (p : Nat) : cntP kind qs p ≤ qs.length := List.countP_le_length
theorem cntP_far (kind : Int) (qs : List (Int × Int)) (p : Nat) (hp : p < 64) (h : mostP qs < (p : Int)) : cntP kind qs p = 0 := by
 unfold cntP
 rw [List.countP_eq_zero]
 intro q hq
 have := mostP_ge qs q hq
 intro hc
 simp only [Bool.and_eq_true, decide_eq_true_eq] at hc
 have h2 := this ((knB_iff _).2 (by omega))
 omega
structure IsCnt (kind : Int) (qs : List (Int × Int)) (cs : List Int) : Prop where
 len : cs.length = (mostP qs + 1).toNat
 at_ : ∀ p, p < cs.length → cs.getD p 0 = (cntP kind qs p : Int)
theorem isCnt_fun {kind : Int} {qs : List (Int × Int)} {a b : List Int} (h : IsCnt kind qs a) (k : IsCnt kind qs b) : a = b :=
 getD_ext 0 (by rw [h.len, k.len]) (fun i hi => by rw [h.at_ i hi, k.at_ i (by rw [k.len, ← h.len]; exact hi)])
theorem isCnt_filter {kind : Int} {qs : List (Int × Int)} {a : List Int} (h : IsCnt kind (qs.filter (fun q => knB q.1)) a) : IsCnt kind qs a := by
 have h1 := h.len
 rw [mostP_filter] at h1
 refine ⟨h1, fun p hp => ?_⟩
 rw [h.at_ p hp, cntP_filter]
 have := (mostP_bd qs).2
 omega
theorem isCnt_nil (kind : Int) : IsCnt kind [] [] := ⟨rfl, fun p hp => absurd hp (by simp)⟩
theorem isCnt_step {kind : Int} {qs : List (Int × Int)} {cs : List Int} (h : IsCnt kind qs cs) (p : Nat) (k : Int) (hp : p < 64) :
  IsCnt kind (qs ++ [((p : Int), k)]) (if k = kind then (cs ++ List.replicate (p + 1 - cs.length) 0).set p ((cs ++ List.replicate (p + 1 - cs.length) 0).getD p 0 + 1) else cs ++ List.replicate (p + 1 - cs.length) 0) := by
 have hkn : knB (p : Int) = true := (knB_iff _).2 (by omega)
 have hbd := mostP_bd qs
 have hl := h.len
 have hlen : (cs ++ List.replicate (p + 1 - cs.length) 0).length = (mostP (qs ++ [((p : Int), k)]) + 1).toNat := by
  rw [mostP_snoc, if_pos hkn, List.length_append, List.length_replicate]
  unfold mx; split <;> omega
 have hget : ∀ i, i < (cs ++ List.replicate (p + 1 - cs.length) 0).length → (cs ++ List.replicate (p + 1 - cs.length) (0 : Int)).getD i 0 = (cntP kind qs i : Int) := fun i hi => by
  rw [List.length_append, List.length_replicate] at hi
  by_cases q : i < cs.length
  ·rw [List.getD_eq_getElem?_getD, List.getElem?_append_left q, ← List.getD_eq_getElem?_getD]; exact h.at_ i q
  ·have e : (cs ++ List.replicate (p + 1 - cs.length) (0 : Int)).getD i 0 = 0 := by
    rw [List.getD_eq_getElem?_getD, List.getElem?_append_right (by omega), List.getElem?_replicate]; split <;> rfl
   rw [e, cntP_far kind qs i (by omega) (by omega)]; rfl
 by_cases hk : k = kind
 ·rw [if_pos hk]
  refine ⟨by rw [List.length_set]; exact hlen, fun i hi => ?_⟩
  rw [List.length_set] at hi
  rw [getD_set, cntP_snoc]
  by_cases e : p = i
  ·subst e
   rw [if_pos ⟨rfl, hi⟩, hget p hi, if_pos ⟨rfl, hk⟩]
   omega
  ·rw [if_neg (fun q => e q.1), hget i hi, if_neg (fun q => e (by have : (p : Int) = (i : Int) := q.1; omega))]
   omega
 ·rw [if_neg hk]
  refine ⟨hlen, fun i hi => ?_⟩
  rw [hget i hi, cntP_snoc, if_neg (fun q => hk q.2)]
  omega
def q117 (x : S117) : Int × Int := (x.f0, x.f1.f1)
def q67 (x : S67) : Int × Int := (x.f0, x.f1.f1)
theorem wrap_small (n : Int) (h0 : -1000000000 ≤ n) (h1 : n ≤ 1000000000) : wrap64 n = n := by unfold wrap64; omega
theorem rcnt_go1 (xs : List S117) (kind : Int) (hl : xs.length ≤ 100000) : ∀ m (i : Nat), xs.length - i = m → i ≤ xs.length → ∀ cs : List Int, cs.length = (mostP (xs.map q117) + 1).toNat → (∀ p, p < cs.length → cs.getD p 0 = (cntP kind ((xs.take i).map q117) p : Int)) → ∃ k r, parcloseref40_Count.l1 k xs kind cs (i : Int) = some r ∧ IsCnt kind (xs.map q117) r := by
 intro m
 induction m with
 | zero =>
  intro i hm hi cs hc h
  refine ⟨1, cs, ?_, hc, ?_⟩
  ·unfold parcloseref40_Count.l1
   rw [if_neg (by omega)]
  ·rw [List.take_of_length_le (by omega)] at h; exact h
 | succ m ih =>
  intro i hm hi cs hc h
  have hmem : q117 (xs.getD i z117) ∈ xs.map q117 := List.mem_map.2 ⟨_, by rw [List.getD_eq_getElem?_getD, List.getElem?_eq_getElem (by omega)]; exact List.getElem_mem _, rfl⟩
  have hge := mostP_ge _ _ hmem
  have hsn : (xs.take (i + 1)).map q117 = (xs.take i).map q117 ++ [q117 (xs.getD i z117)] := by rw [take_snoc xs z117 i (by omega), List.map_append]; rfl
  have skip : (∀ p, p < cs.length → ¬ ((q117 (xs.getD i z117)).1 = (p : Int) ∧ (q117 (xs.getD i z117)).2 = kind)) → ∃ k r, parcloseref40_Count.l1 k xs kind cs ((i + 1 : Nat) : Int) = some r ∧ IsCnt kind (xs.map q117) r := fun hs =>
   ih (i + 1) (by omega) (by omega) cs hc (fun p hp => by rw [hsn, cntP_snoc, if_neg (hs p hp), Nat.add_zero]; exact h p hp)
  have hbd := mostP_bd (xs.map q117)
  by_cases h0 : (xs.getD i z117).f0 ≥ 0
  ·by_cases h1 : (xs.getD i z117).f0 < 64
   ·by_cases h2 : (xs.getD i z117).f1.f1 = kind
    ·have hge2 : (xs.getD i z117).f0 ≤ mostP (xs.map q117) := hge ((knB_iff _).2 ⟨h0, h1⟩)
     have hpl : (xs.getD i z117).f0.toNat < cs.length := by omega
     obtain ⟨k, r, hk, hr⟩ := ih (i + 1) (by omega) (by omega) (cs.set (xs.getD i z117).f0.toNat (cs.getD (xs.getD i z117).f0.toNat 0 + 1)) (by rw [List.length_set]; exact hc) (fun p hp => by
      rw [List.length_set] at hp
      rw [hsn, cntP_snoc, getD_set]
      by_cases e : (xs.getD i z117).f0.toNat = p
      ·subst e
       rw [if_pos ⟨rfl, hp⟩, h _ hp, if_pos ⟨show (xs.getD i z117).f0 = _ by omega, h2⟩]; omega
      ·rw [if_neg (fun q => e q.1), h p hp, if_neg (fun q => e (by have : (xs.getD i z117).f0 = (p : Int) := q.1; omega))]; omega)
     refine ⟨k + 1, r, ?_, hr⟩
     have hv := h _ hpl
     have hcl := cntP_le kind ((xs.take i).map q117) (xs.getD i z117).f0.toNat
     rw [List.length_map, List.length_take] at hcl
     unfold parcloseref40_Count.l1
     rw [if_pos (by omega), if_pos (by omega), rd117, if_pos h0, if_pos h1, if_pos h2, if_pos (by omega), if_pos (by omega), w64n i (by omega), show rd cs (xs.getD i z117).f0 = cs.getD (xs.getD i z117).f0.toNat 0 from rfl, wrap_small _ (by omega) (by omega)]
     exact hk
    ·obtain ⟨k, r, hk, hr⟩ := skip (fun p hp q => h2 q.2)
     refine ⟨k + 1, r, ?_, hr⟩
     unfold parcloseref40_Count.l1
     rw [if_pos (by omega), if_pos (by omega), rd117, if_pos h0, if_pos h1, if_neg h2, w64n i (by omega)]
     exact hk
   ·obtain ⟨k, r, hk, hr⟩ := skip (fun p hp q => h1 (by have : (xs.getD i z117).f0 = (p : Int) := q.1; omega))
    refine ⟨k + 1, r, ?_, hr⟩
    unfold parcloseref40_Count.l1
    rw [if_pos (by omega), if_pos (by omega), rd117, if_pos h0, if_neg h1, w64n i (by omega)]
    exact hk
  ·obtain ⟨k, r, hk, hr⟩ := skip (fun p hp q => h0 (by have : (xs.getD i z117).f0 = (p : Int) := q.1; omega))
   refine ⟨k + 1, r, ?_, hr⟩
   unfold parcloseref40_Count.l1
   rw [if_pos (by omega), if_pos (by omega), rd117, if_neg h0, w64n i (by omega)]
   exact hk
theorem rcnt_go (xs : List S117) (kind : Int) (hl : xs.length ≤ 100000) : ∀ m (i : Nat), xs.length - i = m → i ≤ xs.length → ∃ k r, parcloseref40_Count.l0 k xs kind (mostP ((xs.take i).map q117)) (i : Int) = some r ∧ IsCnt kind (xs.map q117) r := by
 intro m
 induction m with
 | zero =>
  intro i hm hi
  rw [List.take_of_length_le (by omega)]
  have hbd := mostP_bd (xs.map q117)
  obtain ⟨k, r, hk, hr⟩ := rcnt_go1 xs kind hl _ 0 rfl (Nat.zero_le _) (List.replicate (mostP (xs.map q117) + 1).toNat 0) (by rw [List.length_replicate]) (fun p hp => by
   rw [List.take_zero, List.getD_eq_getElem?_getD, List.getElem?_replicate]; split <;> rfl)
  refine ⟨k + 1, r, ?_, hr⟩
  unfold parcloseref40_Count.l0
  rw [if_neg (by omega), wrap_small _ (by omega) (by omega), if_pos (by omega), if_pos (by omega)]
  exact hk
 | succ m ih =>
  intro i hm hi
  obtain ⟨k, r, hk, hr⟩ := ih (i + 1) (by omega) (by omega)
  refine ⟨k + 1, r, ?_, hr⟩
  have hsn : (xs.take (i + 1)).map q117 = (xs.take i).map q117 ++ [q117 (xs.getD i z117)] := by rw [take_snoc xs z117 i (by omega), List.map_append]; rfl
  rw [hsn, mostP_snoc] at hk
  unfold parcloseref40_Count.l0
  rw [if_pos (by omega), if_pos (by omega), rd117, w64n i (by omega)]
  by_cases h : knB (q117 (xs.getD i z117)).1 = true
  ·rw [if_pos h] at hk
   have h2 := (knB_iff _).1 h
   rw [if_pos (show (xs.getD i z117).f0 ≥ 0 from h2.1), if_pos (show (xs.getD i z117).f0 < 64 from h2.2)]
   exact hk
  ·rw [if_neg h] at hk
   by_cases h0 : (xs.getD i z117).f0 ≥ 0
   ·rw [if_pos h0, if_neg (show ¬ (xs.getD i z117).f0 < 64 from fun h1 => h ((knB_iff _).2 ⟨h0, h1⟩))]; exact hk
   ·rw [if_neg h0]; exact hk
theorem rcnt_ev (xs : List S117) (kind : Int) (hl : xs.length ≤ 100000) : ∃ k r, parcloseref40_Count.f k xs kind = some r ∧ IsCnt kind (xs.map q117) r := rcnt_go xs kind hl _ 0 rfl (Nat.zero_le _)
end Go.Proofs.Ytalimpniimgheaa.Fn
namespace Go.Proofs.Ytalimpniimgheaa.Fn
open Go.RowKit Go.Proofs.YtalimpniimgheaaW.PrintWords Go.Proofs.YtalimpniimgheaaW.PrintLast Go.Proofs.YtalimpniimgheaaW.PrintMore
set_option linter.unusedVariables false
set_option linter.unusedSimpArgs false
theorem known_same (xs : List S67) : (xs.filter (fun x => knownB x.f0)).map q67 = (xs.map q67).filter (fun q => knB q.1) := by rw [List.filter_map]; rfl
set_option maxHeartbeats 8000000 in
set_option maxRecDepth 100000 in
theorem count_calls (A : Option Addr) (c : Nat) (xs : List S67) (kind : Int) (w : World) (hr : k67.C w A xs.length xs) (hl : xs.length ≤ 100000) :
  Calls Try.prog 48 #[.slice A xs.length c, .int .i64 kind] w fun e w' => ∃ v cs, e = .returned v ∧ IsCnt kind (xs.map q67) cs ∧ (Kd.int .i64).R 3 w' w.heap.size (fun _ => True) v cs ∧ Below w.heap.size w w' := by
 have hu67 := Try.underlying67
 have hu65 := Try.underlying65
 have KP := asd (keep85_calls A c xs (fun x => knownB x.f0) w hr hl (fun wr x _ => clos85_calls x wr))
 have KS0 := asd (known_same xs)
 have HYL : Aside0 ((xs.filter (fun x => knownB x.f0)).length ≤ 100000 ∧ ∀ y, y ∈ xs.filter (fun x => knownB x.f0) → 0 ≤ y.f0 ∧ y.f0 < 64) := ⟨by have := List.length_filter_le (fun x : S67 => knownB x.f0) xs; omega, fun y hy => by
  have h2 := (List.mem_filter.1 hy).2
  unfold knownB at h2
  simpa using h2⟩
 generalize xs.filter (fun x => knownB x.f0) = ys at KP KS0 HYL
 clear hr hl
 go_enter Try.func48, Try.ntmps48
 go_wp2_with (first | (go_at_call 84; refine KP.out.mono ?_; rintro e w1 ⟨v, rfl, hv, hb⟩; obtain ⟨A1, c1, rfl, hc1, hC1⟩ := Kd.R_reads hv; have HC := asd (And.intro hc1 hC1); have HB0 := asd hb; clear hv hb hc1 hC1))
 clear KP
 go_loopw [5, 11] (fun v5 v11 wr => ∃ (i : Nat) (A5 : Option Addr) (c5 : Nat) (cs : List Int), v5 = .slice A5 cs.length c5 ∧ v11 = .int .i64 i ∧ Aside0 (i ≤ ys.length ∧ cs.length ≤ 64) ∧ Aside0 (IsCnt kind ((ys.take i).map q67) cs) ∧ Aside0 ((Kd.int .i64).R 3 wr w1.heap.size (fun _ => True) (.slice A5 cs.length c5) cs) ∧ Aside0 (Below w1.heap.size w1 wr)) (fun _ v => fun _ => ys.length - (intOf v).toNat)
 case atStart => exact ⟨0, none, 0, [], rfl, rfl, ⟨by omega, by simp⟩, ⟨by rw [List.take_zero]; exact isCnt_nil _⟩, ⟨Kd.R_nil _ _ _ _ _⟩, ⟨Below.refl _ _⟩⟩
 case round =>
  obtain ⟨i, A5, c5, cs, rfl, rfl, HX, HI, HR, HB⟩ := hrel
  have h99 : (ys.length : Int) ≤ 100000 := by have := HYL.out.1; omega
  by_cases hlt : i < ys.length
  ·have q0 : ((i : Int) < (ys.length : Int)) = True := eq_true (by omega)
   have q1 : decide ((i : Int) < (ys.length : Int)) = true := decide_eq_true (by omega)
   have q2 : decide (i < ys.length) = true := decide_eq_true hlt
   obtain ⟨ad, rfl, y0, y1, y2, y3, y4⟩ := at_T67 (Kd.C_below HC.out.2 HB.out) (i : Int) (by omega) (by omega)
   simp only [Int.toNat_natCast] at y0 y1 y2 y3 y4
   have RD := asd (rd67 ys i)
   have HM : Aside0 (0 ≤ (rd_T67 ys (i : Int)).f0 ∧ (rd_T67 ys (i : Int)).f0 < 64) := ⟨by
    rw [RD.out]
    exact HYL.out.2 _ (by rw [List.getD_eq_getElem?_getD, List.getElem?_eq_getElem hlt]; exact List.getElem_mem _)⟩
   have TS := asd (take_snoc ys z67 i hlt)
   rw [← RD.out] at TS
   clear RD
   generalize rd_T67 ys (i : Int) = y at y0 y1 y2 y3 y4 HM TS
   have HI2 : Aside0 (∀ cs2, cs2 = (if y.f1.f1 = kind then (cs ++ List.replicate (y.f0.toNat + 1 - cs.length) 0).set y.f0.toNat ((cs ++ List.replicate (y.f0.toNat + 1 - cs.length) 0).getD y.f0.toNat 0 + 1) else cs ++ List.replicate (y.f0.toNat + 1 - cs.length) 0) → IsCnt kind ((ys.take (i + 1)).map q67) cs2) := ⟨fun cs2 e => by
    have h2 := isCnt_step HI.out y.f0.toNat y.f1.f1 (by have := HM.out; omega)
    rw [TS.out, List.map_append, e]
    have e2 : ((y.f0.toNat : Nat) : Int) = y.f0 := by have := HM.out; omega
    rw [e2] at h2
    exact h2⟩
   have BY := asd (heap_alloc_new wr (.cells #[.int .i64 y.f0, .int .i64 y.f1.f0, .int .i64 y.f1.f1, .int .i64 y.f1.f2, .int .i64 y.f1.f3] 67))
   have HR1 := asd (Kd.R_alloc HR.out (.cells #[.int .i64 y.f0, .int .i64 y.f1.f0, .int .i64 y.f1.f1, .int .i64 y.f1.f2, .int .i64 y.f1.f3] 67))
   have HB1 : Aside0 (Below w1.heap.size w1 (wr.alloc (.cells #[.int .i64 y.f0, .int .i64 y.f1.f0, .int .i64 y.f1.f1, .int .i64 y.f1.f2, .int .i64 y.f1.f3] 67))) := ⟨HB.out.alloc (below_size HB.out) _⟩
   have SB := asd (below_size HB.out)
   clear HR HB HI TS
   go_wp2
   generalize wr.alloc (.cells #[.int .i64 y.f0, .int .i64 y.f1.f0, .int .i64 y.f1.f1, .int .i64 y.f1.f2, .int .i64 y.f1.f3] 67) = w3 at BY HR1 HB1 ⊢
   generalize wr.heap.size = b7 at BY SB ⊢
   clear y0 y1 y2 y3 y4
   go_loopw [5] (fun v5 wr => ∃ (A5 : Option Addr) (c5 m : Nat) (ds : List Int), v5 = .slice A5 ds.length c5 ∧ Aside0 (ds = cs ++ List.replicate m 0 ∧ m ≤ y.f0.toNat + 1 - cs.length) ∧ Aside0 (wr.heap[b7]? = some (.cells #[.int .i64 y.f0, .int .i64 y.f1.f0, .int .i64 y.f1.f1, .int .i64 y.f1.f2, .int .i64 y.f1.f3] 67 (0, 0))) ∧ Aside0 ((Kd.int .i64).R 3 wr w1.heap.size (fun _ => True) (.slice A5 ds.length c5) ds) ∧ Aside0 (Below w1.heap.size w1 wr)) (fun v => fun _ => 100 - lenV v)
   case atStart => exact ⟨A5, c5, 0, cs, rfl, ⟨by simp, Nat.zero_le _⟩, BY, HR1, HB1⟩
   case round =>
    clear BY HR1 HB1
    obtain ⟨A5, c5, m, ds, rfl, HD, BY, HR, HB⟩ := hrel
    have y0 := (blk_cell BY.out 0).trans rfl
    have dl : ds.length = cs.length + m := by rw [HD.out.1]; simp
    by_cases hc : (ds.length : Int) ≤ y.f0
    ·have d0 : decide ((ds.length : Int) ≤ y.f0) = true := decide_eq_true hc
     have HL : Aside0 (ds.length ≤ 64 ∧ m + 1 ≤ y.f0.toNat + 1 - cs.length) := ⟨by have := HM.out; omega, by have := HM.out; omega⟩
     clear hc dl
     go_wp2_with (first | (at_builtin; refine Kd.R_append (Kd.int .i64) (w0 := w1) w1.heap.size rfl (.tmp 20) (.tmp 21) 23 3 (.int .i64 0) 8 rfl Try.underlying23 info3 rfl (by decide) (by omega) (.slice A5 ds.length c5) ds 0 [.int .i64 0] (fun _ => True) (fun _ => False) rfl rfl rfl (fun _ hk => hk.elim) (fun _ _ => trivial) HR.out HB.out (below_size HB.out) (by have := HL.out; omega) ?_; intro v1 w4 ho hb hg hat; obtain ⟨A6, c6, rfl⟩ := Kd.R_slice ho; have HR4 := asd ho; have HB4 := asd hb; have BY4 := asd (blk_grown BY.out hg (Kd.R_ne HR.out BY.out (by decide))); clear ho hb hg hat))
     go_roundw
     case rel => exact ⟨A6, c6, m + 1, ds ++ [0], by simp, ⟨by rw [HD.out.1, List.append_assoc, List.replicate_succ'], HL.out.2⟩, BY4, HR4, HB4⟩
     case measure => have := HL.out; simp [lenV]; omega
    ·have d0 : decide ((ds.length : Int) ≤ y.f0) = false := decide_eq_false hc
     have EM : Aside0 (ds = cs ++ List.replicate (y.f0.toNat + 1 - cs.length) 0) := ⟨by
      rw [HD.out.1]
      have h1 := HD.out.2
      have h2 := HM.out
      rw [show m = y.f0.toNat + 1 - cs.length by omega]⟩
     have LT : Aside0 (y.f0 < (ds.length : Int) ∧ ds.length ≤ 64) := ⟨by omega, by have := HD.out.2; have := HX.out.2; have := HM.out; omega⟩
     clear hc dl
     have y2 := (blk_cell BY.out 2).trans rfl
     by_cases hk : y.f1.f1 = kind
     ·have b0 : (y.f1.f1 == kind) = true := beq_iff_eq.2 hk
      obtain ⟨g5, cc, hv, _⟩ := Kd.R_form HR.out (by have := LT.out; have := HM.out; omega)
      injection hv with ha
      subst ha
      have hcl := Kd.R_celln (enc := Value.int .i64) (h1 := fun _ => rfl) (0 : Int) HR.out y.f0 HM.out.1 LT.out.1
      have z0 : wr.cell? ⟨g5, y.f0.toNat, none⟩ = some (.int .i64 (ds.getD y.f0.toNat 0)) := hcl.1
      have z1 := hcl.2
      clear hcl
      have p0 : (0 ≤ y.f0) = True := eq_true HM.out.1
      have p1 : (y.f0 < (ds.length : Int)) = True := eq_true LT.out.1
      have HI3 : Aside0 (∀ v, v = ds.getD y.f0.toNat 0 + 1 → IsCnt kind ((ys.take (i + 1)).map q67) (ds.set y.f0.toNat v)) := ⟨fun v e => HI2.out _ (by rw [if_pos hk, ← EM.out, e])⟩
      have VB : Aside0 (wrap64 (ds.getD y.f0.toNat 0 + 1) = ds.getD y.f0.toNat 0 + 1) := ⟨by
       have h2 := HI2.out _ rfl
       rw [if_pos hk, ← EM.out] at h2
       have h3 := h2.at_ y.f0.toNat (by rw [List.length_set]; have := LT.out; have := HM.out; omega)
       rw [getD_set, if_pos ⟨rfl, by have := LT.out; have := HM.out; omega⟩] at h3
       have h4 := cntP_le kind ((ys.take (i + 1)).map q67) y.f0.toNat
       rw [List.length_map, List.length_take] at h4
       have := HYL.out.1
       rw [h3]
       unfold wrap64; omega⟩
      have BV : Aside0 (0 ≤ ds.getD y.f0.toNat 0 + 1 ∧ ds.getD y.f0.toNat 0 ≤ 100001) := ⟨by
       have h2 := HI2.out _ rfl
       rw [if_pos hk, ← EM.out] at h2
       have h3 := h2.at_ y.f0.toNat (by rw [List.length_set]; have := LT.out; have := HM.out; omega)
       rw [getD_set, if_pos ⟨rfl, by have := LT.out; have := HM.out; omega⟩] at h3
       have h4 := cntP_le kind ((ys.take (i + 1)).map q67) y.f0.toNat
       rw [List.length_map, List.length_take] at h4
       have := HYL.out.1
       omega⟩
      generalize ds.getD y.f0.toNat 0 = u at z0 HI3 VB BV
      have b1 : -1 ≤ u := by have := BV.out; omega
      have b2 : u ≤ 100001 := BV.out.2
      clear hk HI2 EM
      go_wp2
      go_roundw
      case rel => exact ⟨i + 1, some ⟨g5, 0, none⟩, c5, ds.set y.f0.toNat (u + 1), by simp, by go_num, ⟨hlt, by rw [List.length_set]; exact LT.out.2⟩, ⟨HI3.out _ rfl⟩, ⟨by rw [List.length_set]; exact Kd.R_putn (enc := Value.int .i64) (h1 := fun _ => rfl) HR.out y.f0 (u + 1)⟩, ⟨HB.out.setCell (p := ⟨g5, y.f0.toNat, none⟩) (Kd.R_base HR.out g5 (by simp [Value.ownBlock])) _⟩⟩
      case measure => simp [intOf]; omega
     ·have b0 : (y.f1.f1 == kind) = false := beq_eq_false_iff_ne.2 hk
      have HI3 : Aside0 (IsCnt kind ((ys.take (i + 1)).map q67) ds) := ⟨HI2.out _ (by rw [if_neg hk]; exact EM.out)⟩
      clear hk HI2 EM
      go_wp2
      go_roundw
      case rel => exact ⟨i + 1, A5, c5, ds, rfl, by go_num, ⟨hlt, LT.out.2⟩, HI3, HR, HB⟩
      case measure => simp [intOf]; omega
  ·have q0 : ((i : Int) < (ys.length : Int)) = False := eq_false (by omega)
   have q1 : decide ((i : Int) < (ys.length : Int)) = false := decide_eq_false (by omega)
   have q2 : decide (i < ys.length) = false := decide_eq_false hlt
   have HI3 : Aside0 (IsCnt kind (xs.map q67) cs) := ⟨by
    have h2 := HI.out
    rw [List.take_of_length_le (by omega), KS0.out] at h2
    exact isCnt_filter h2⟩
   clear hlt
   go_wp2
   go_ret
   exact ⟨_, cs, rfl, HI3.out, Kd.R_lower HR.out (below_size HB0.out), below_step HB0.out HB.out⟩
end Go.Proofs.Ytalimpniimgheaa.Fn
namespace Go.Proofs.Ytalimpniimgheaa.Fn
open Go.RowKit Go.Proofs.YtalimpniimgheaaW.PrintWords Go.Proofs.YtalimpniimgheaaW.PrintLast Go.Proofs.YtalimpniimgheaaW.PrintMore
set_option linter.unusedVariables false
set_option linter.unusedSimpArgs false
attribute [local go_sem] max2_mx min2_mn max_two min_two
theorem run_equalIn_nilfunc {P : Program} (w : World) (d : Nat) (t : TypeId) {ps rs : Array TypeId} {vd : Bool} (h : P.underlying t = some (.func ps rs vd)) : (Op.equalIn (d + 1) t .nilFunc .nilFunc).run P w = .ok true w := by
 simp [Op.equalIn, run_underlying h]
theorem run_eql_nilfunc {P : Program} (w : World) (t : TypeId) {ps rs : Array TypeId} {vd : Bool} (h : P.underlying t = some (.func ps rs vd)) : (Go.binOp .eql t .nilFunc .nilFunc).run P w = .ok (.bool true) w := by
 simp only [Go.binOp]
 simp [Op.equal, Op.maxDepth, run_equalIn_nilfunc w 9999 t h]
theorem und70 : Try.prog.underlying 70 = some (.func #[67] #[4] false) := by kernel_rfl
set_option maxHeartbeats 4000000 in
set_option maxRecDepth 100000 in
theorem firstnil_calls (v : Value) (w : World) : Calls Try.prog 44 #[v, .nilFunc] w fun e w' => e = .returned (.tuple #[.int .i64 0, .bool false]) ∧ w = w' := by
 have hq := fun w => run_eql_nilfunc (P := Try.prog) w 70 und70
 go_enter Try.func44, Try.ntmps44
 go_wp2
 go_ret2
 exact ⟨rfl, rfl⟩
def firstI (r : Int) : Int := mx r 0
end Go.Proofs.Ytalimpniimgheaa.Fn
namespace Go.Proofs.Ytalimpniimgheaa.Fn
open Go.RowKit Go.Proofs.YtalimpniimgheaaW.PrintWords Go.Proofs.YtalimpniimgheaaW.PrintLast Go.Proofs.YtalimpniimgheaaW.PrintMore
set_option linter.unusedVariables false
set_option linter.unusedSimpArgs false
def mlk13T : Bool × List (List Nat × List Nat) := (true, [([], []), ([], []), ([0, 1], [0, 1]), ([2], [2]), ([3], [3]), ([], []), ([], []), ([5, 6], [5, 6]), ([7], [7]), ([4, 8, 4], [4, 8]), ([9], [9])])
def mlk13B : List Nat := [0, 0, 3, 7, 15, 0, 0, 96, 224, 511, 1023]
theorem mlk13_tab : rtab .any (opsOf Try.f8 13) = mlk13T := by kernel_rfl
theorem mlk13_bits : waitsOk mlk13T.2 mlk13B = true := by kernel_rfl
theorem refsb_calls (A : Option Addr) (c : Nat) (b : List S64) (w : World) (hr : Kd.C k65 w A b.length (b.map e65)) (hc : b.length ≤ c) (hl : b.length ≤ 65536) :
  Calls Try.prog 23 #[.slice A b.length c] w fun e w' => ∃ A' c', e = .returned (.slice A' b.length c') ∧ b.length ≤ c' ∧ Kd.C k64 w' A' b.length b ∧ Below w.heap.size w w' := by
 obtain ⟨k, hk⟩ := refs23_f (b.map e65) (by rw [List.length_map]; exact hl)
 have e2 : (b.map e65).map toR4 = b := by rw [List.map_map]; exact List.map_id'' (fun x => rfl) b
 rw [e2] at hk
 have hL : (b.map e65).length = b.length := List.length_map _
 have h := parcloselaw23_Refs.calls k A c (b.map e65) b w (by rw [hL]; exact hr) (by rw [hL]; exact hc) hk
 rw [hL] at h
 refine h.mono ?_
 rintro e w1 ⟨v, rfl, hv, hb⟩
 obtain ⟨A', c', rfl, hc', hC'⟩ := Kd.R_reads hv
 exact ⟨A', c', rfl, hc', hC', hb⟩
theorem sameb_calls (A0 : Option Addr) (c0 : Nat) (A1 : Option Addr) (c1 : Nat) (b : List S64) (w : World) (hr0 : Kd.C k64 w A0 b.length b) (hc0 : b.length ≤ c0) (hr1 : Kd.C k64 w A1 b.length b) (hc1 : b.length ≤ c1) (hl : b.length ≤ 65536) :
  Calls Try.prog 22 #[.slice A0 b.length c0, .slice A1 b.length c1] w fun e w' => e = .returned (.bool true) ∧ Below w.heap.size w w' := by
 obtain ⟨k, hk⟩ := same23_f b b (by omega)
 rw [decide_eq_true rfl] at hk
 refine (parcloseref23_Same.calls k A0 c0 b A1 c1 b true w hr0 hc0 hr1 hc1 hk).mono ?_
 rintro e w1 ⟨rfl, hd⟩
 exact ⟨rfl, hd.below⟩
theorem samer_go (rs : List S117) (hl : rs.length ≤ 100000) : ∀ n (i : Nat), rs.length - i = n → i ≤ rs.length → ∃ k, parcloselaw40_same.l0 k (rs.map o67) rs (i : Int) = some true := by
 intro n
 induction n with
 | zero =>
  intro i hn hi
  refine ⟨1, ?_⟩
  unfold parcloselaw40_same.l0
  rw [if_neg (by rw [List.length_map]; omega)]
 | succ n ih =>
  intro i hn hi
  obtain ⟨k, hk⟩ := ih (i + 1) (by omega) (by omega)
  refine ⟨k + 1, ?_⟩
  have e1 : rd_T67 (rs.map o67) (i : Int) = o67 (rs.getD i z117) := by unfold rd_T67; rw [Int.toNat_natCast]; exact getD_map o67 rs i z117
  unfold parcloselaw40_same.l0
  rw [if_pos (by rw [List.length_map]; omega), if_pos (by omega), if_pos (by omega), e1, rd117, if_pos (show (o67 (rs.getD i z117)).f0 = (rs.getD i z117).f0 from rfl), if_neg (by simp [o67, e65]), w64n i (by omega)]
  exact hk
theorem samer_ev (rs : List S117) (hl : rs.length ≤ 100000) : ∃ k, parcloselaw40_same.f k (rs.map o67) rs = some true := by
 obtain ⟨k, hk⟩ := samer_go rs hl _ 0 rfl (Nat.zero_le _)
 refine ⟨k, ?_⟩
 unfold parcloselaw40_same.f
 rw [if_pos (by rw [List.length_map])]
 exact hk
theorem bet_same (xs : List S117) (a b : Int) : (xs.map o67).filter (betB a b) = (xs.filter (fun x => decide (a ≤ x.f1.f0) && decide (x.f1.f0 < b))).map o67 := by rw [List.filter_map]; rfl
theorem q_same (xs : List S117) : (xs.map o67).map q67 = xs.map q117 := by rw [List.map_map]; rfl
set_option maxHeartbeats 2000000 in
set_option maxRecDepth 100000 in
theorem mlooks_dark (a0 : Option Addr) (c0 : Nat) (x0 : List S117) (n1 n2 n3 n4 : Int) (w : World) (hn : ¬ x0.length ≤ 200) : Calls Try.prog 8 #[.slice a0 x0.length c0, .int .i64 n1, .int .i64 n2, .int .i64 n3, .int .i64 n4] w fun e w' => e = .returned (.bool true) ∧ Below w.heap.size w w' := by
 have d : decide (200 < (x0.length : Int)) = true := decide_eq_true (by omega)
 have d2 : decide ((x0.length : Int) > 200) = true := d
 clear hn
 go_enter Try.func8, Try.ntmps8
 go_wp2_with (first | (go_at_call 38; refine (mknows_calls _).mono ?_; rintro e w2 ⟨rfl, hb⟩; have HB2 := asd hb; clear hb))
 go_ret
 exact ⟨rfl, HB2.out⟩
set_option maxHeartbeats 8000000 in
set_option maxRecDepth 100000 in
theorem mlooks_light (a0 : Option Addr) (c0 : Nat) (x0 : List S117) (n1 n2 n3 n4 : Int) (w : World) (hr : Kd.C k117 w a0 x0.length x0) (hc : x0.length ≤ c0) (hn : x0.length ≤ 200) : Calls Try.prog 8 #[.slice a0 x0.length c0, .int .i64 n1, .int .i64 n2, .int .i64 n3, .int .i64 n4] w fun e w' => e = .returned (.bool true) ∧ Below w.heap.size w w' := by
 have d : decide (200 < (x0.length : Int)) = false := decide_eq_false (by omega)
 have d2 : decide ((x0.length : Int) > 200) = false := d
 obtain ⟨k1, hk1⟩ := rows_ev x0 (by omega)
 obtain ⟨k2, hk2⟩ := msplit_ev (x0.map o67) n1 (by rw [List.length_map]; omega)
 obtain ⟨k3, hk3⟩ := rsplit_ev x0 n1 (by omega)
 obtain ⟨k4, cs, hk4, hcs⟩ := rcnt_ev x0 n4 (by omega)
 obtain ⟨k5, hk5⟩ := rbet_ev x0 n2 n3 (by omega)
 obtain ⟨k6, hk6⟩ := samer_ev (x0.filter (fun x => decide (n2 ≤ x.f1.f0) && decide (x.f1.f0 < n3))) (by have := List.length_filter_le (fun x : S117 => decide (n2 ≤ x.f1.f0) && decide (x.f1.f0 < n3)) x0; omega)
 have HR := asd hr
 have hml : (x0.map o67).length = x0.length := List.length_map _
 have RW := asd (parcloselaw40_rows.calls k1 a0 c0 x0 _ w hr hc hk1)
 have SP := asd (fun A c w1 (h : Kd.C k67 w1 A x0.length (x0.map o67)) (h2 : x0.length ≤ c) => merge_Split.calls k2 A c (x0.map o67) n1 _ w1 (by rw [hml]; exact h) (by rw [hml]; exact h2) hk2)
 have RS := asd (fun w1 (h : Kd.C k117 w1 a0 x0.length x0) => parcloseref40_Split.calls k3 a0 c0 x0 n1 _ w1 h hc hk3)
 have CN := asd (fun A c w1 (h : Kd.C k67 w1 A x0.length (x0.map o67)) => count_calls A c (x0.map o67) n4 w1 (by rw [hml]; exact h) (by rw [hml]; omega))
 have RC := asd (fun w1 (h : Kd.C k117 w1 a0 x0.length x0) => parcloseref40_Count.calls k4 a0 c0 x0 n4 _ w1 h hc hk4)
 have BT := asd (fun A c w1 (h : Kd.C k67 w1 A x0.length (x0.map o67)) => between_calls A c (x0.map o67) n2 n3 w1 (by rw [hml]; exact h) (by rw [hml]; omega))
 have RB := asd (fun w1 (h : Kd.C k117 w1 a0 x0.length x0) => parcloseref40_Between.calls k5 a0 c0 x0 n2 n3 _ w1 h hc hk5)
 rw [bet_same] at BT
 simp only [q_same] at CN
 have FL : Aside0 (∀ i, i < ns n1 → ((splitP f117 g117 x0 (ns n1)).getD i []).length ≤ 200) := ⟨fun i hi => by
  rw [splitP_get _ _ _ _ _ hi, List.length_map]; unfold ofP
  have := List.length_filter_le (fun x => decide (f117 x = (i : Int))) x0
  omega⟩
 have SS := asd (split_same x0 (ns n1))
 have NS := asd (ns_le n1)
 have L1 := splitP_len f67 g67 (x0.map o67) (ns n1)
 have L2 := splitP_len f117 g117 x0 (ns n1)
 generalize splitP f67 g67 (x0.map o67) (ns n1) = sa at SP SS L1
 generalize splitP f117 g117 x0 (ns n1) = sb at RS SS FL L2
 generalize x0.filter (fun x => decide (n2 ≤ x.f1.f0) && decide (x.f1.f0 < n3)) = bs at BT RB hk6
 have LL := asd (And.intro L1 L2)
 have HC := asd hcs
 have SM := asd (fun A c A' c' w1 (h : Kd.C k67 w1 A bs.length (bs.map o67)) (h2 : bs.length ≤ c) (h3 : Kd.C k117 w1 A' bs.length bs) (h4 : bs.length ≤ c') => parcloselaw40_same.calls k6 A c (bs.map o67) A' c' bs true w1 (by rw [List.length_map]; exact h) (by rw [List.length_map]; exact h2) h3 h4 hk6)
 simp only [List.length_map] at SM BT CN SP
 have CL : Aside0 (cs.length ≤ 64) := ⟨by have h1 := hcs.len; have h2 := (mostP_bd (x0.map q117)).2; omega⟩
 generalize hm : ns n1 = m at NS FL SS LL
 clear hr hc hn hk1 hk2 hk3 hk4 hk5 hk6 hcs hml L1 L2 hm
 go_enter Try.func8, Try.ntmps8
 go_wp2_with fail
 refine RW.out.mono ?_
 rintro e w1 ⟨v, rfl, hv, hb⟩
 obtain ⟨A1, c1, rfl, hc1, hC1⟩ := Kd.R_reads hv
 rw [List.length_map] at hc1 hC1
 simp only [List.length_map]
 have C1 := asd (And.intro hc1 hC1)
 have HB1 := asd hb
 clear hv hb hc1 hC1 RW
 go_wp2_with fail
 refine (SP.out A1 c1 w1 C1.out.2 C1.out.1).mono ?_
 rintro e w2 ⟨v, rfl, hv, hb⟩
 obtain ⟨A2, c2, rfl, hc2, hC2⟩ := Kd.S_reads hv
 rw [LL.out.1] at hc2 hC2
 rw [LL.out.1]
 have C2 := asd (And.intro hc2 hC2)
 have HB2 := asd (below_step HB1.out hb)
 have C1b := asd (Kd.C_below C1.out.2 hb)
 clear hv hb hc2 hC2 SP
 go_wp2_with fail
 refine (RS.out w2 (Kd.C_below HR.out HB2.out)).mono ?_
 rintro e w3 ⟨v, rfl, hv, hb⟩
 obtain ⟨A3, c3, rfl, hc3, hC3⟩ := Kd.S_reads hv
 rw [LL.out.2] at hc3 hC3
 rw [LL.out.2]
 have C3 := asd (And.intro hc3 hC3)
 have HB3 := asd (below_step HB2.out hb)
 have C1c := asd (Kd.C_below C1b.out hb)
 have C2b := asd (Kd.C_below C2.out.2 hb)
 clear hv hb hc3 hC3 RS C1b
 go_wp2_with fail
 refine (CN.out A1 c1 w3 C1c.out).mono ?_
 rintro e w4 ⟨v, cs2, rfl, hcn, hv, hb⟩
 obtain rfl : cs2 = cs := isCnt_fun hcn HC.out
 obtain ⟨A4, c4, rfl, hc4, hC4⟩ := Kd.R_reads hv
 have C4 := asd (And.intro hc4 hC4)
 have HB4 := asd (below_step HB3.out hb)
 have C1d := asd (Kd.C_below C1c.out hb)
 have C2c := asd (Kd.C_below C2b.out hb)
 have C3b := asd (Kd.C_below C3.out.2 hb)
 clear hv hb hc4 hC4 CN C1c C2b hcn
 go_wp2_with fail
 refine (RC.out w4 (Kd.C_below HR.out HB4.out)).mono ?_
 rintro e w5 ⟨v, rfl, hv, hb⟩
 obtain ⟨A5, c5, rfl, hc5, hC5⟩ := Kd.R_reads hv
 have C5 := asd (And.intro hc5 hC5)
 have HB5 := asd (below_step HB4.out hb)
 have C1e := asd (Kd.C_below C1d.out hb)
 have C2d := asd (Kd.C_below C2c.out hb)
 have C3c := asd (Kd.C_below C3b.out hb)
 have C4b := asd (Kd.C_below C4.out.2 hb)
 clear hv hb hc5 hC5 RC C1d C2c C3b
 go_wp2
 go_loopw [16] (fun v wr => ∃ i : Nat, v = .int .i64 i ∧ Aside0 (i ≤ m) ∧ Aside0 (Below w5.heap.size w5 wr)) (fun v => fun _ => 100 - (intOf v).toNat)
 case atStart => exact ⟨0, rfl, ⟨Nat.zero_le _⟩, ⟨Below.refl _ _⟩⟩
 case round =>
  obtain ⟨i, rfl, HX, HB⟩ := hrel
  have h99 : (m : Int) ≤ 64 := by have := NS.out; omega
  by_cases hlt : i < m
  ·have q1 : decide ((i : Int) < (m : Int)) = true := decide_eq_true (by omega)
   have q0 : ((i : Int) < (m : Int)) = True := eq_true (by omega)
   have q2 : decide (i < m) = true := decide_eq_true hlt
   obtain ⟨ad2, B10, d10, rfl, y1, hd10, hC10⟩ := at_L10 (Kd.C_below C2d.out HB.out) (i : Int) (by omega) (by omega)
   obtain ⟨ad3, B7, d7, rfl, y2, hd7, hC7⟩ := at_L7 (Kd.C_below C3c.out HB.out) (i : Int) (by omega) (by omega)
   have e1 : rd_L10 sa (i : Int) = (rd_L7 sb (i : Int)).map e65 := by
    unfold rd_L10 rd_L7
    rw [Int.toNat_natCast, SS.out]
    exact getD_map (·.map e65) sb i []
   have hbl : (rd_L7 sb (i : Int)).length ≤ 200 := by unfold rd_L7; rw [Int.toNat_natCast]; exact FL.out i hlt
   rw [e1] at y1 hd10 hC10
   rw [List.length_map] at y1 hd10 hC10
   generalize rd_L7 sb (i : Int) = b at y1 y2 hd10 hC10 hd7 hC7 hbl
   clear e1
   have BL : Aside0 (b.length ≤ 65536) := ⟨by omega⟩
   have C10 := asd (And.intro hd10 hC10)
   have C7 := asd (And.intro hd7 hC7)
   clear hbl hd10 hC10 hd7 hC7
   simp only [Int.toNat_natCast] at y1 y2
   go_wp2
   refine start_ (n := 11) (S := fun w' => w'.cell? (ad2.add i) = some (.slice B10 b.length d10) ∧ w'.cell? (ad3.add i) = some (.slice B7 b.length d7)) (ds := []) #[false, false, false, false, false, false, false, false, false, false, false] (by kernel_rfl) rfl rfl ⟨y1, y2⟩ (fun hHeld => ?_); refine with_tabW mlk13_tab mlk13_bits (fun HT_ HW_ => ?_)
   have HB2 := asd (below_drew1 HB.out)
   have C10b := asd (Kd.C_drew C10.out.2)
   have C7b := asd (Kd.C_drew C7.out.2)
   clear y1 y2 HB
   generalize wr.drew = wd at HB2 C10b C7b hHeld ⊢
   refine pure_ (i := 0) (N := (some 56)) (v := ?_) (a' := ?_) #[true, false, false, false, false, false, false, false, false, false, false] rfl rfl (any_of HT_.out (by kernel_rfl)) (fun _ _ _ h => h) (Or.inl ⟨by rfl, ?_⟩) ?_ ?_
   rotate_left
   ·intro w'
    go_simp
    with_reducible rfl
   rotate_left
   ·simp only [Act.put, sB, i64_w, i32_w]
    rfl
   refine pure_ (i := 1) (N := (some 57)) (v := ?_) (a' := ?_) #[true, true, false, false, false, false, false, false, false, false, false] rfl rfl (any_of HT_.out (by kernel_rfl)) (fun _ _ _ h => h) (Or.inl ⟨by rfl, ?_⟩) ?_ ?_
   rotate_left
   ·intro w'
    go_simp
    with_reducible rfl
   rotate_left
   ·simp only [Act.put, sB, i64_w, i32_w]
    rfl
   refine pure_ (i := 2) (N := (some 58)) (v := ?_) (a' := ?_) #[true, true, true, false, false, false, false, false, false, false, false] rfl rfl (any_of HT_.out (by kernel_rfl)) (fun _ _ _ h => h) (Or.inl ⟨by rfl, ?_⟩) ?_ ?_
   rotate_left
   ·intro w'
    go_simp
    with_reducible rfl
   rotate_left
   ·simp only [Act.put, sB, i64_w, i32_w]
    rfl
   refine take_ (i := 3) (N := (some 59)) (v := ?_) (a' := ?_) #[true, true, true, true, false, false, false, false, false, false, false] rfl rfl (take_ofW HT_.out HW_.out (by kernel_rfl)) (fun _ _ _ h => h) (Or.inl ⟨by rfl, ?_⟩) hHeld ?_ ?_
   rotate_left
   ·rintro w' ⟨s0, s1⟩
    go_simp
    with_reducible rfl
   rotate_left
   ·simp only [Act.put, sB, i64_w, i32_w]
    rfl
   refine pure_ (i := 5) (N := (some 61)) (v := ?_) (a' := ?_) #[true, true, true, true, false, true, false, false, false, false, false] rfl rfl (any_of HT_.out (by kernel_rfl)) (fun _ _ _ h => h) (Or.inl ⟨by rfl, ?_⟩) ?_ ?_
   rotate_left
   ·intro w'
    go_simp
    with_reducible rfl
   rotate_left
   ·simp only [Act.put, sB, i64_w, i32_w]
    rfl
   refine pure_ (i := 6) (N := (some 62)) (v := ?_) (a' := ?_) #[true, true, true, true, false, true, true, false, false, false, false] rfl rfl (any_of HT_.out (by kernel_rfl)) (fun _ _ _ h => h) (Or.inl ⟨by rfl, ?_⟩) ?_ ?_
   rotate_left
   ·intro w'
    go_simp
    with_reducible rfl
   rotate_left
   ·simp only [Act.put, sB, i64_w, i32_w]
    rfl
   refine pure_ (i := 7) (N := (some 63)) (v := ?_) (a' := ?_) #[true, true, true, true, false, true, true, true, false, false, false] rfl rfl (any_of HT_.out (by kernel_rfl)) (fun _ _ _ h => h) (Or.inl ⟨by rfl, ?_⟩) ?_ ?_
   rotate_left
   ·intro w'
    go_simp
    with_reducible rfl
   rotate_left
   ·simp only [Act.put, sB, i64_w, i32_w]
    rfl
   refine take_ (i := 8) (N := (some 64)) (v := ?_) (a' := ?_) #[true, true, true, true, false, true, true, true, true, false, false] rfl rfl (take_ofW HT_.out HW_.out (by kernel_rfl)) (fun _ _ _ h => h) (Or.inl ⟨by rfl, ?_⟩) hHeld ?_ ?_
   rotate_left
   ·rintro w' ⟨s0, s1⟩
    go_simp
    with_reducible rfl
   rotate_left
   ·simp only [Act.put, sB, i64_w, i32_w]
    rfl
   refine one_ (i := 4) (N := (some 60)) #[true, true, true, true, true, true, true, true, true, false, false] rfl rfl (one_of HT_.out (by kernel_rfl)) (by decide) (fun K hK => ?_)
   refine goes_ Try.func23 (by kernel_rfl) rfl #[.slice B10 b.length d10] (by rfl) rfl rfl (by simp [Act.eval]) ?_
   refine (refsb_calls B10 d10 b wd C10b.out C10.out.1 BL.out).mono ?_
   rintro e wq ⟨A8, c8, rfl, hc8, hC8, hb⟩
   have C8 := asd (And.intro hc8 hC8)
   have HB3 := asd (below_step HB2.out hb)
   have HBD := asd hb
   have C7c := asd (Kd.C_below C7b.out hb)
   clear hc8 hC8 hb
   refine ⟨_, rfl, ?_⟩
   refine hK.out _ _ ⟨pw_cell_below HBD.out hHeld.1, pw_cell_below HBD.out hHeld.2⟩ (fun hHeld => ?_)
   clear hK K
   refine norm_ (a' := ?_) ?_ ?_
   rotate_left
   ·show Act.put _ (some 60) _ = _
    simp only [Act.put, sB, i64_w, i32_w]
    rfl
   refine one_ (i := 9) (N := (some 65)) #[true, true, true, true, true, true, true, true, true, true, false] rfl rfl (one_of HT_.out (by kernel_rfl)) (by decide) (fun K hK => ?_)
   refine goes_ Try.func22 (by kernel_rfl) rfl #[.slice A8 b.length c8, .slice B7 b.length d7] (by rfl) rfl rfl (by simp [Act.eval]) ?_
   refine (sameb_calls A8 c8 B7 d7 b wq C8.out.2 C8.out.1 C7c.out C7.out.1 BL.out).mono ?_
   rintro e wz ⟨rfl, hb⟩
   have HB4 := asd (below_step HB3.out hb)
   have HBD2 := asd hb
   clear hb
   refine ⟨_, rfl, ?_⟩
   refine hK.out _ _ ⟨pw_cell_below HBD2.out hHeld.1, pw_cell_below HBD2.out hHeld.2⟩ (fun hHeld => ?_)
   clear hK K
   refine norm_ (a' := ?_) ?_ ?_
   rotate_left
   ·show Act.put _ (some 65) _ = _
    simp only [Act.put, sB, i64_w, i32_w]
    rfl
   refine pure_ (i := 10) (N := (some 66)) (v := ?_) (a' := ?_) #[true, true, true, true, true, true, true, true, true, true, true] rfl rfl (any_of HT_.out (by kernel_rfl)) (fun _ _ _ h => h) (Or.inl ⟨by rfl, ?_⟩) ?_ ?_
   rotate_left
   ·intro w'
    go_simp
    with_reducible rfl
   rotate_left
   ·simp only [Act.put, sB, i64_w, i32_w]
    rfl
   refine done_ (done_of HT_.out (by kernel_rfl)) ?_
   try go_wp2
   go_roundw
   case rel => exact ⟨i + 1, by go_num, ⟨by omega⟩, HB4⟩
   case measure => simp [intOf]; omega
  ·have q1 : decide ((i : Int) < (m : Int)) = false := decide_eq_false (by omega)
   have q2 : decide (i < m) = false := decide_eq_false hlt
   have C1f := asd (Kd.C_below C1e.out HB.out)
   have C4c := asd (Kd.C_below C4b.out HB.out)
   have C5b := asd (Kd.C_below C5.out.2 HB.out)
   have HB6 := asd (below_step HB5.out HB.out)
   clear hlt C1e C2d C3c C4b HB
   go_wp2
   go_loopw [17] (fun v w2 => ∃ i : Nat, v = .int .i64 i ∧ Aside0 (i ≤ cs2.length) ∧ Aside0 (Below wr.heap.size wr w2)) (fun v => fun _ => 100 - (intOf v).toNat)
   case atStart => exact ⟨0, rfl, ⟨Nat.zero_le _⟩, ⟨Below.refl _ _⟩⟩
   case round =>
    rename World => wq
    obtain ⟨j, rfl, HY, HD⟩ := hrel
    have h98 : (cs2.length : Int) ≤ 64 := by have := CL.out; omega
    by_cases hlt : j < cs2.length
    ·have r1 : decide ((j : Int) < (cs2.length : Int)) = true := decide_eq_true (by omega)
     have r0 : ((j : Int) < (cs2.length : Int)) = True := eq_true (by omega)
     have r2 : decide (j < cs2.length) = true := decide_eq_true hlt
     obtain ⟨ad4, rfl, y1⟩ := hat_int (Kd.C_below C4c.out HD.out) (j : Int) (by omega) (by omega)
     obtain ⟨ad5, rfl, y2⟩ := hat_int (Kd.C_below C5b.out HD.out) (j : Int) (by omega) (by omega)
     simp only [Int.toNat_natCast] at y1 y2
     generalize cs2.getD j 0 = u at y1 y2
     go_wp2
     go_region
     all_goals go_wp2
     all_goals go_roundw
     all_goals first
      | exact ⟨j + 1, by go_num, ⟨by omega⟩, ⟨below_drew1 HD.out⟩⟩
      | (simp [intOf]; omega)
    ·have r1 : decide ((j : Int) < (cs2.length : Int)) = false := decide_eq_false (by omega)
     have r2 : decide (j < cs2.length) = false := decide_eq_false hlt
     have C1g := asd (Kd.C_below C1f.out HD.out)
     have HB7 := asd (below_step HB6.out HD.out)
     clear hlt C1f C4c C5b HD
     go_wp2_with (first
      | (go_at_call 44; refine (firstnil_calls _ _).mono ?_; rintro e wa ⟨rfl, rfl⟩)
      | (go_at_call 50; refine (BT.out A1 c1 _ C1g.out).mono ?_; rintro e wb ⟨v, rfl, hv, hb⟩; obtain ⟨A6, c6, rfl, hc6, hC6⟩ := Kd.R_reads hv; rw [List.length_map] at hc6 hC6; simp only [List.length_map]; have C6 := asd (And.intro hc6 hC6); have HB8 := asd (below_step HB7.out hb); clear hv hb hc6 hC6)
      | (go_at_call 51; refine (RB.out _ (Kd.C_below HR.out HB8.out)).mono ?_; rintro e wc ⟨v, rfl, hv, hb⟩; obtain ⟨A7, c7, rfl, hc7, hC7⟩ := Kd.R_reads hv; have C7 := asd (And.intro hc7 hC7); have HB9 := asd (below_step HB8.out hb); have C6b := asd (Kd.C_below C6.out.2 hb); clear hv hb hc7 hC7)
      | (go_at_call 39; refine (SM.out A6 c6 A7 c7 _ C6b.out C6.out.1 C7.out.2 C7.out.1).mono ?_; rintro e wd ⟨rfl, hd⟩; have HB10 := asd (below_step HB9.out hd.below); clear hd)
      | (go_at_call 38; refine (mknows_calls _).mono ?_; rintro e we ⟨rfl, hb⟩; have HB11 := asd (below_step HB10.out hb); clear hb))
     go_ret
     exact ⟨rfl, HB11.out⟩
end Go.Proofs.Ytalimpniimgheaa.Fn
