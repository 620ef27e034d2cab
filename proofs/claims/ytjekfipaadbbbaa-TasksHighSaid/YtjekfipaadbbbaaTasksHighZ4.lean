/- Part of the proof of TasksHigh: see the last text. (Words laid by the print, as far as they are named here; walks written by a program of this project; plain laws.) -/
import Derived.Test.YtjekfipaadbbbaaTasksHighZ3
namespace Go.Proofs.Ytjekfipaadbbbaa.Fn
open Go.RowKit Go.Proofs.YtjekfipaadbbbaaW.PrintWords Go.Proofs.YtjekfipaadbbbaaW.PrintLast Go.Proofs.YtjekfipaadbbbaaW.PrintMore
set_option linter.unusedVariables false
set_option linter.unusedSimpArgs false
def do20T : Bool × List (List Nat × List Nat) := (true, [([], []), ([], []), ([1], [1]), ([0, 2], [0, 2]), ([], []), ([], []), ([5], [5]), ([4, 6, 3], [4, 6]), ([3, 7, 7], [3, 7]), ([8, 8, 0, 1, 2, 3, 4, 5, 6, 7, 8], [8])])
def do20B : List Nat := [0, 0, 2, 7, 0, 0, 32, 127, 255, 511]
theorem do20_tab : rtab .any (opsOf Try.f48 20) = do20T := by kernel_rfl
theorem do20_bits : waitsOk do20T.2 do20B = true := by kernel_rfl
section
variable {w w0 : World} {base g r : Nat} {T : TD} {R : RD} {l : List S44}
set_option maxHeartbeats 32000000 in
set_option maxRecDepth 100000 in
theorem do_run2 (hT : TabOK w base g T) (hR : RTab w w0 r R) (hb0 : w0.heap.size ≤ base) (hP : PI l T R) (kk arr wrk : Int) (A : Option Addr) (c : Nat) (xs : List S134) (hC : Kd.C k134 w0 A xs.length xs) (hc : xs.length ≤ c) (h70 : xs.length ≤ 70) (tsk dn : Int) : Calls Try.prog 48 #[.pointer (some ⟨g, 0, none⟩), .pointer (some ⟨r, 0, none⟩), .agg #[.int .i64 2, .int .i64 kk, .int .i64 tsk, .int .i64 arr, .int .i64 wrk, .int .i64 dn, .slice A xs.length c]] w fun e w' => e = .returned (.bool true) ∧ DoPost w0 w' base g r l := by
 have hu65 := Try.underlying65
 have hu63 := Try.underlying63
 have hu76 := Try.underlying76
 have hu134 := Try.underlying134
 have hu90 := Try.underlying90
 have ZA := asd (heap_alloc_new w (.cells #[.int .i64 2, .int .i64 kk, .int .i64 tsk, .int .i64 arr, .int .i64 wrk, .int .i64 dn, .slice A xs.length c] 65))
 have HB := below_alloc (Below.refl w.heap.size w) (.cells #[.int .i64 2, .int .i64 kk, .int .i64 tsk, .int .i64 arr, .int .i64 wrk, .int .i64 dn, .slice A xs.length c] 65)
 have HT := asd (hT.below HB)
 have HR := asd (hR.below HB)
 have HP := asd hP
 have HB0 := asd hb0
 have SLT : Aside0 (¬ T.S g w.heap.size) := ⟨fun q => Nat.lt_irrefl _ (hT.lt _ q)⟩
 have SNR : Aside0 (w.heap.size ≠ r) := ⟨fun q => by have := blk_lt hR.blk; omega⟩
 have CX := asd (And.intro hC (And.intro hc h70))
 clear hT hR hP hb0 hC hc h70 HB
 have a0 := (blk_cell ZA.out 0).trans rfl
 have a1 := (blk_cell ZA.out 1).trans rfl
 by_cases hs : ∃ k0, R.is k0 = true
 ·obtain ⟨k0, hk0⟩ := hs
  have HK0 := asd hk0
  clear hk0
  go_enter Try.func48, Try.ntmps48
  go_wp2_with fail
  generalize w.alloc (.cells #[.int .i64 2, .int .i64 kk, .int .i64 tsk, .int .i64 arr, .int .i64 wrk, .int .i64 dn, .slice A xs.length c] 65) = wa at ZA HT HR ⊢
  generalize w.heap.size = s at ZA SLT SNR ⊢
  clear a0 a1
  go_wp2_with fail
  refine (rfirst_some HR.out HK0.out).mono ?_
  rintro e w1 ⟨⟨k, rfl, hle⟩, hb⟩
  have HT1 := asd (HT.out.below hb)
  have HR1 := asd (HR.out.below hb)
  have ZA1 := asd (blk_below ZA.out hb)
  have LE := asd hle
  clear hb hle
  obtain ⟨b, HBP, HIS⟩ : ∃ b, Aside0 (T.pt k = some b) ∧ Aside0 (R.is k = true ∧ R.jr k = T.jb k) := by
   have hk := LE.out.1
   have h1 : R.js k = some (R.jr k) := by unfold RD.js; rw [if_pos hk]
   rw [HP.out.js] at h1
   obtain ⟨_, _, b, hb⟩ := TD.js_some h1
   exact ⟨b, ⟨hb⟩, ⟨HP.out.is_some hb⟩⟩
  have HJS : Aside0 (T.js k = some (T.jb k)) := ⟨by unfold TD.js; rw [HBP.out]; rfl⟩
  have HKL : Aside0 (k < T.sl.length) := ⟨(TD.js_some HJS.out).1⟩
  have HRT : Aside0 (R.tk k = T.tk k) := ⟨HP.out.rtk (by rw [← HP.out.len]; exact HKL.out)⟩
  have HD : Aside0 ((T.jb k).dn < (T.jb k).wrk) := ⟨(HP.out.job k _ HJS.out).1⟩
  have a0 := (blk_cell ZA1.out 0).trans rfl
  have a1 := (blk_cell ZA1.out 1).trans rfl
  go_wp2_with fail
  refine (trun_calls HT1.out k b HKL.out HBP.out HD.out).mono ?_
  rintro e w2 ⟨rfl, T2, h2, r2, c2, s2⟩
  have HT2 := asd h2
  have RL := asd r2
  have HR2 := asd (HR1.out.other (wt := w1) HT1.out HB0.out c2)
  clear h2 r2 c2 s2 a0 a1
  have HB3 := asd (below_alloc (Below.refl w2.heap.size w2) (.cells #[.int .i64 (opJ (T.jb k)).f0, .int .i64 (opJ (T.jb k)).f1, .int .i64 (opJ (T.jb k)).f2] 76))
  have RC := asd (rrun_calls (HR2.out.below HB3.out) k HIS.out.1 (by rw [HIS.out.2]; exact HD.out))
  rw [HIS.out.2, HRT.out, HP.out.hi] at RC
  have B3 := asd (heap_alloc_new w2 (.cells #[.int .i64 (opJ (T.jb k)).f0, .int .i64 (opJ (T.jb k)).f1, .int .i64 (opJ (T.jb k)).f2] 76))
  generalize opJ (T.jb k) = o at RC HB3 B3 ⊢
  generalize outJ T.hi (T.tk k) (T.jb k) = u at RC ⊢
  unfold opV at RC ⊢
  go_wp2_with fail
  refine RC.out.mono ?_
  rintro e w4 ⟨rfl, R4, h4, k4, i4, j4, c4⟩
  have HR4 := asd (And.intro h4 (And.intro k4 (And.intro i4 j4)))
  have HT4 := asd ((HT2.out.below HB3.out).doc (HR2.out.below HB3.out) c4)
  have B4 := blk_chg B3.out c4 (fun e => by have := blk_lt HR2.out.blk; omega)
  clear h4 k4 i4 j4 c4
  have B5 := blk_alloc B4 (.cells #[.int .i64 o.f0, .int .i64 o.f1, .int .i64 o.f2] 134)
  have B6 := heap_alloc_new w4 (.cells #[.int .i64 o.f0, .int .i64 o.f1, .int .i64 o.f2] 134)
  have HB5 := asd (below_alloc (Below.refl w4.heap.size w4) (.cells #[.int .i64 o.f0, .int .i64 o.f1, .int .i64 o.f2] 134))
  clear B4
  go_upto_region 14 with fail
  generalize w4.alloc (.cells #[.int .i64 o.f0, .int .i64 o.f1, .int .i64 o.f2] 134) = w5 at B5 B6 HB5 ⊢
  have x0 := (blk_cell B5 0).trans rfl
  have x1 := (blk_cell B5 1).trans rfl
  have x2 := (blk_cell B5 2).trans rfl
  have z0 := (blk_cell B6 0).trans rfl
  have z1 := (blk_cell B6 1).trans rfl
  have z2 := (blk_cell B6 2).trans rfl
  clear B5 B6
  go_wp2
  go_ret
  have hb5 := HB5.out
  exact ⟨by first | rfl | simp, T2, R4, HT4.out.below hb5, HR4.out.1.below hb5, HP.out.step RL.out HR4.out.2.1 HR4.out.2.2.1 HR4.out.2.2.2 (HP.out.run HKL.out HBP.out) (HP.out.dm RL.out) (fun i j hj _ => HP.out.run_job HKL.out HBP.out HT1.out i j hj)⟩
 ·have HNA : Aside0 (∀ k, R.js k = none) := ⟨fun k => RD.js_none.2 (by cases e : R.is k with | false => rfl | true => exact absurd ⟨k, e⟩ hs)⟩
  have HNR : Aside0 (kk < 0 ∨ R.js kk.toNat = none) := ⟨.inr (HNA.out _)⟩
  have HNO : Aside0 (kk < 0 ∨ T.js kk.toNat = none) := ⟨.inr (by rw [← HP.out.js]; exact HNA.out _)⟩
  clear hs
  go_enter Try.func48, Try.ntmps48
  go_wp2_with fail
  generalize w.alloc (.cells #[.int .i64 2, .int .i64 kk, .int .i64 tsk, .int .i64 arr, .int .i64 wrk, .int .i64 dn, .slice A xs.length c] 65) = wa at ZA HT HR ⊢
  generalize w.heap.size = s at ZA SLT SNR ⊢
  clear a0 a1
  go_wp2_with fail
  refine (rfirst_none HR.out HNA.out).mono ?_
  rintro e w1 ⟨rfl, hb⟩
  have HT1 := asd (HT.out.below hb)
  have HR1 := asd (HR.out.below hb)
  have ZA1 := asd (blk_below ZA.out hb)
  clear hb
  have a0 := (blk_cell ZA1.out 0).trans rfl
  have a1 := (blk_cell ZA1.out 1).trans rfl
  go_wp2_with fail
  refine (trun_nobody HT1.out kk HNO.out).mono ?_
  rintro e w2 ⟨rfl, hb⟩
  have HT2 := asd (HT1.out.below hb)
  have HR2 := asd (HR1.out.below hb)
  clear hb a0 a1
  have HB3 := asd (below_alloc (Below.refl w2.heap.size w2) (.cells #[.int .i64 0, .int .i64 0, .int .i64 0] 76))
  have B3 := asd (heap_alloc_new w2 (.cells #[.int .i64 0, .int .i64 0, .int .i64 0] 76))
  go_wp2_with fail
  refine (rrun_nobody (HR2.out.below HB3.out) kk HNR.out).mono ?_
  rintro e w4 ⟨rfl, hb⟩
  have HR4 := asd ((HR2.out.below HB3.out).below hb)
  have HT4 := asd ((HT2.out.below HB3.out).below hb)
  have B4 := blk_below B3.out hb
  clear hb
  have B5 := blk_alloc B4 (.cells #[.int .i64 0, .int .i64 0, .int .i64 0] 134)
  have B6 := heap_alloc_new w4 (.cells #[.int .i64 0, .int .i64 0, .int .i64 0] 134)
  have HB5 := asd (below_alloc (Below.refl w4.heap.size w4) (.cells #[.int .i64 0, .int .i64 0, .int .i64 0] 134))
  clear B4
  go_upto_region 14 with fail
  generalize w4.alloc (.cells #[.int .i64 0, .int .i64 0, .int .i64 0] 134) = w5 at B5 B6 HB5 ⊢
  have x0 := (blk_cell B5 0).trans rfl
  have x1 := (blk_cell B5 1).trans rfl
  have x2 := (blk_cell B5 2).trans rfl
  have z0 := (blk_cell B6 0).trans rfl
  have z1 := (blk_cell B6 1).trans rfl
  have z2 := (blk_cell B6 2).trans rfl
  clear B5 B6
  go_wp2
  go_ret
  have hb5 := HB5.out
  exact ⟨by first | rfl | simp, T, R, HT4.out.below hb5, HR4.out.below hb5, HP.out⟩
set_option maxHeartbeats 32000000 in
set_option maxRecDepth 100000 in
theorem do_run3 (hT : TabOK w base g T) (hR : RTab w w0 r R) (hb0 : w0.heap.size ≤ base) (hP : PI l T R) (kk arr wrk : Int) (A : Option Addr) (c : Nat) (xs : List S134) (hC : Kd.C k134 w0 A xs.length xs) (hc : xs.length ≤ c) (h70 : xs.length ≤ 70) (tsk dn : Int) : Calls Try.prog 48 #[.pointer (some ⟨g, 0, none⟩), .pointer (some ⟨r, 0, none⟩), .agg #[.int .i64 3, .int .i64 kk, .int .i64 tsk, .int .i64 arr, .int .i64 wrk, .int .i64 dn, .slice A xs.length c]] w fun e w' => e = .returned (.bool true) ∧ DoPost w0 w' base g r l := by
 have hu65 := Try.underlying65
 have hu63 := Try.underlying63
 have hu76 := Try.underlying76
 have hu134 := Try.underlying134
 have hu90 := Try.underlying90
 have ZA := asd (heap_alloc_new w (.cells #[.int .i64 3, .int .i64 kk, .int .i64 tsk, .int .i64 arr, .int .i64 wrk, .int .i64 dn, .slice A xs.length c] 65))
 have HB := below_alloc (Below.refl w.heap.size w) (.cells #[.int .i64 3, .int .i64 kk, .int .i64 tsk, .int .i64 arr, .int .i64 wrk, .int .i64 dn, .slice A xs.length c] 65)
 have HT := asd (hT.below HB)
 have HR := asd (hR.below HB)
 have HP := asd hP
 have HB0 := asd hb0
 have SLT : Aside0 (¬ T.S g w.heap.size) := ⟨fun q => Nat.lt_irrefl _ (hT.lt _ q)⟩
 have SNR : Aside0 (w.heap.size ≠ r) := ⟨fun q => by have := blk_lt hR.blk; omega⟩
 have CX := asd (And.intro hC (And.intro hc h70))
 clear hT hR hP hb0 hC hc h70 HB
 have a0 := (blk_cell ZA.out 0).trans rfl
 have a1 := (blk_cell ZA.out 1).trans rfl
 by_cases hs : ∃ k0, R.is k0 = true
 ·obtain ⟨k0, hk0⟩ := hs
  have HK0 := asd hk0
  clear hk0
  go_enter Try.func48, Try.ntmps48
  go_wp2_with fail
  generalize w.alloc (.cells #[.int .i64 3, .int .i64 kk, .int .i64 tsk, .int .i64 arr, .int .i64 wrk, .int .i64 dn, .slice A xs.length c] 65) = wa at ZA HT HR ⊢
  generalize w.heap.size = s at ZA SLT SNR ⊢
  clear a0 a1
  go_wp2_with fail
  refine (rfirst_some HR.out HK0.out).mono ?_
  rintro e w1 ⟨⟨k, rfl, hle⟩, hb⟩
  have HT1 := asd (HT.out.below hb)
  have HR1 := asd (HR.out.below hb)
  have ZA1 := asd (blk_below ZA.out hb)
  have LE := asd hle
  clear hb hle
  obtain ⟨b, HBP, HIS⟩ : ∃ b, Aside0 (T.pt k = some b) ∧ Aside0 (R.is k = true ∧ R.jr k = T.jb k) := by
   have hk := LE.out.1
   have h1 : R.js k = some (R.jr k) := by unfold RD.js; rw [if_pos hk]
   rw [HP.out.js] at h1
   obtain ⟨_, _, b, hb⟩ := TD.js_some h1
   exact ⟨b, ⟨hb⟩, ⟨HP.out.is_some hb⟩⟩
  have HJS : Aside0 (T.js k = some (T.jb k)) := ⟨by unfold TD.js; rw [HBP.out]; rfl⟩
  have HKL : Aside0 (k < T.sl.length) := ⟨(TD.js_some HJS.out).1⟩
  have HRT : Aside0 (R.tk k = T.tk k) := ⟨HP.out.rtk (by rw [← HP.out.len]; exact HKL.out)⟩
  have HD : Aside0 ((T.jb k).dn < (T.jb k).wrk) := ⟨(HP.out.job k _ HJS.out).1⟩
  have a0 := (blk_cell ZA1.out 0).trans rfl
  have a1 := (blk_cell ZA1.out 1).trans rfl
  go_wp2_with fail
  refine (trun_calls HT1.out k b HKL.out HBP.out HD.out).mono ?_
  rintro e w2 ⟨rfl, T2, h2, r2, c2, s2⟩
  have HT2 := asd h2
  have RL := asd r2
  have HR2 := asd (HR1.out.other (wt := w1) HT1.out HB0.out c2)
  clear h2 r2 c2 s2 a0 a1
  have HB3 := asd (below_alloc (Below.refl w2.heap.size w2) (.cells #[.int .i64 (opJ (T.jb k)).f0, .int .i64 (opJ (T.jb k)).f1, .int .i64 (opJ (T.jb k)).f2] 76))
  have RC := asd (rrun_calls (HR2.out.below HB3.out) k HIS.out.1 (by rw [HIS.out.2]; exact HD.out))
  rw [HIS.out.2, HRT.out, HP.out.hi] at RC
  have B3 := asd (heap_alloc_new w2 (.cells #[.int .i64 (opJ (T.jb k)).f0, .int .i64 (opJ (T.jb k)).f1, .int .i64 (opJ (T.jb k)).f2] 76))
  generalize opJ (T.jb k) = o at RC HB3 B3 ⊢
  generalize outJ T.hi (T.tk k) (T.jb k) = u at RC ⊢
  unfold opV at RC ⊢
  go_wp2_with fail
  refine RC.out.mono ?_
  rintro e w4 ⟨rfl, R4, h4, k4, i4, j4, c4⟩
  have HR4 := asd (And.intro h4 (And.intro k4 (And.intro i4 j4)))
  have HT4 := asd ((HT2.out.below HB3.out).doc (HR2.out.below HB3.out) c4)
  have B4 := blk_chg B3.out c4 (fun e => by have := blk_lt HR2.out.blk; omega)
  clear h4 k4 i4 j4 c4
  have B5 := blk_alloc B4 (.cells #[.int .i64 o.f0, .int .i64 o.f1, .int .i64 o.f2] 134)
  have B6 := heap_alloc_new w4 (.cells #[.int .i64 o.f0, .int .i64 o.f1, .int .i64 o.f2] 134)
  have HB5 := asd (below_alloc (Below.refl w4.heap.size w4) (.cells #[.int .i64 o.f0, .int .i64 o.f1, .int .i64 o.f2] 134))
  clear B4
  go_upto_region 14 with fail
  generalize w4.alloc (.cells #[.int .i64 o.f0, .int .i64 o.f1, .int .i64 o.f2] 134) = w5 at B5 B6 HB5 ⊢
  have x0 := (blk_cell B5 0).trans rfl
  have x1 := (blk_cell B5 1).trans rfl
  have x2 := (blk_cell B5 2).trans rfl
  have z0 := (blk_cell B6 0).trans rfl
  have z1 := (blk_cell B6 1).trans rfl
  have z2 := (blk_cell B6 2).trans rfl
  clear B5 B6
  go_wp2
  go_ret
  have hb5 := HB5.out
  exact ⟨by first | rfl | simp, T2, R4, HT4.out.below hb5, HR4.out.1.below hb5, HP.out.step RL.out HR4.out.2.1 HR4.out.2.2.1 HR4.out.2.2.2 (HP.out.run HKL.out HBP.out) (HP.out.dm RL.out) (fun i j hj _ => HP.out.run_job HKL.out HBP.out HT1.out i j hj)⟩
 ·have HNA : Aside0 (∀ k, R.js k = none) := ⟨fun k => RD.js_none.2 (by cases e : R.is k with | false => rfl | true => exact absurd ⟨k, e⟩ hs)⟩
  have HNR : Aside0 (kk < 0 ∨ R.js kk.toNat = none) := ⟨.inr (HNA.out _)⟩
  have HNO : Aside0 (kk < 0 ∨ T.js kk.toNat = none) := ⟨.inr (by rw [← HP.out.js]; exact HNA.out _)⟩
  clear hs
  go_enter Try.func48, Try.ntmps48
  go_wp2_with fail
  generalize w.alloc (.cells #[.int .i64 3, .int .i64 kk, .int .i64 tsk, .int .i64 arr, .int .i64 wrk, .int .i64 dn, .slice A xs.length c] 65) = wa at ZA HT HR ⊢
  generalize w.heap.size = s at ZA SLT SNR ⊢
  clear a0 a1
  go_wp2_with fail
  refine (rfirst_none HR.out HNA.out).mono ?_
  rintro e w1 ⟨rfl, hb⟩
  have HT1 := asd (HT.out.below hb)
  have HR1 := asd (HR.out.below hb)
  have ZA1 := asd (blk_below ZA.out hb)
  clear hb
  have a0 := (blk_cell ZA1.out 0).trans rfl
  have a1 := (blk_cell ZA1.out 1).trans rfl
  go_wp2_with fail
  refine (trun_nobody HT1.out kk HNO.out).mono ?_
  rintro e w2 ⟨rfl, hb⟩
  have HT2 := asd (HT1.out.below hb)
  have HR2 := asd (HR1.out.below hb)
  clear hb a0 a1
  have HB3 := asd (below_alloc (Below.refl w2.heap.size w2) (.cells #[.int .i64 0, .int .i64 0, .int .i64 0] 76))
  have B3 := asd (heap_alloc_new w2 (.cells #[.int .i64 0, .int .i64 0, .int .i64 0] 76))
  go_wp2_with fail
  refine (rrun_nobody (HR2.out.below HB3.out) kk HNR.out).mono ?_
  rintro e w4 ⟨rfl, hb⟩
  have HR4 := asd ((HR2.out.below HB3.out).below hb)
  have HT4 := asd ((HT2.out.below HB3.out).below hb)
  have B4 := blk_below B3.out hb
  clear hb
  have B5 := blk_alloc B4 (.cells #[.int .i64 0, .int .i64 0, .int .i64 0] 134)
  have B6 := heap_alloc_new w4 (.cells #[.int .i64 0, .int .i64 0, .int .i64 0] 134)
  have HB5 := asd (below_alloc (Below.refl w4.heap.size w4) (.cells #[.int .i64 0, .int .i64 0, .int .i64 0] 134))
  clear B4
  go_upto_region 14 with fail
  generalize w4.alloc (.cells #[.int .i64 0, .int .i64 0, .int .i64 0] 134) = w5 at B5 B6 HB5 ⊢
  have x0 := (blk_cell B5 0).trans rfl
  have x1 := (blk_cell B5 1).trans rfl
  have x2 := (blk_cell B5 2).trans rfl
  have z0 := (blk_cell B6 0).trans rfl
  have z1 := (blk_cell B6 1).trans rfl
  have z2 := (blk_cell B6 2).trans rfl
  clear B5 B6
  go_wp2
  go_ret
  have hb5 := HB5.out
  exact ⟨by first | rfl | simp, T, R, HT4.out.below hb5, HR4.out.below hb5, HP.out⟩
set_option maxHeartbeats 32000000 in
set_option maxRecDepth 100000 in
theorem do_run4 (hT : TabOK w base g T) (hR : RTab w w0 r R) (hb0 : w0.heap.size ≤ base) (hP : PI l T R) (kk arr wrk : Int) (A : Option Addr) (c : Nat) (xs : List S134) (hC : Kd.C k134 w0 A xs.length xs) (hc : xs.length ≤ c) (h70 : xs.length ≤ 70) (tsk dn : Int) : Calls Try.prog 48 #[.pointer (some ⟨g, 0, none⟩), .pointer (some ⟨r, 0, none⟩), .agg #[.int .i64 4, .int .i64 kk, .int .i64 tsk, .int .i64 arr, .int .i64 wrk, .int .i64 dn, .slice A xs.length c]] w fun e w' => e = .returned (.bool true) ∧ DoPost w0 w' base g r l := by
 have hu65 := Try.underlying65
 have hu63 := Try.underlying63
 have hu76 := Try.underlying76
 have hu134 := Try.underlying134
 have hu90 := Try.underlying90
 have ZA := asd (heap_alloc_new w (.cells #[.int .i64 4, .int .i64 kk, .int .i64 tsk, .int .i64 arr, .int .i64 wrk, .int .i64 dn, .slice A xs.length c] 65))
 have HB := below_alloc (Below.refl w.heap.size w) (.cells #[.int .i64 4, .int .i64 kk, .int .i64 tsk, .int .i64 arr, .int .i64 wrk, .int .i64 dn, .slice A xs.length c] 65)
 have HT := asd (hT.below HB)
 have HR := asd (hR.below HB)
 have HP := asd hP
 have HB0 := asd hb0
 have SLT : Aside0 (¬ T.S g w.heap.size) := ⟨fun q => Nat.lt_irrefl _ (hT.lt _ q)⟩
 have SNR : Aside0 (w.heap.size ≠ r) := ⟨fun q => by have := blk_lt hR.blk; omega⟩
 have CX := asd (And.intro hC (And.intro hc h70))
 clear hT hR hP hb0 hC hc h70 HB
 have a0 := (blk_cell ZA.out 0).trans rfl
 have a1 := (blk_cell ZA.out 1).trans rfl
 by_cases hs : ∃ k0, R.is k0 = true
 ·obtain ⟨k0, hk0⟩ := hs
  have HK0 := asd hk0
  clear hk0
  go_enter Try.func48, Try.ntmps48
  go_wp2_with fail
  generalize w.alloc (.cells #[.int .i64 4, .int .i64 kk, .int .i64 tsk, .int .i64 arr, .int .i64 wrk, .int .i64 dn, .slice A xs.length c] 65) = wa at ZA HT HR ⊢
  generalize w.heap.size = s at ZA SLT SNR ⊢
  clear a0 a1
  go_wp2_with fail
  refine (rfirst_some HR.out HK0.out).mono ?_
  rintro e w1 ⟨⟨k, rfl, hle⟩, hb⟩
  have HT1 := asd (HT.out.below hb)
  have HR1 := asd (HR.out.below hb)
  have ZA1 := asd (blk_below ZA.out hb)
  have LE := asd hle
  clear hb hle
  obtain ⟨b, HBP, HIS⟩ : ∃ b, Aside0 (T.pt k = some b) ∧ Aside0 (R.is k = true ∧ R.jr k = T.jb k) := by
   have hk := LE.out.1
   have h1 : R.js k = some (R.jr k) := by unfold RD.js; rw [if_pos hk]
   rw [HP.out.js] at h1
   obtain ⟨_, _, b, hb⟩ := TD.js_some h1
   exact ⟨b, ⟨hb⟩, ⟨HP.out.is_some hb⟩⟩
  have HJS : Aside0 (T.js k = some (T.jb k)) := ⟨by unfold TD.js; rw [HBP.out]; rfl⟩
  have HKL : Aside0 (k < T.sl.length) := ⟨(TD.js_some HJS.out).1⟩
  have HRT : Aside0 (R.tk k = T.tk k) := ⟨HP.out.rtk (by rw [← HP.out.len]; exact HKL.out)⟩
  have HD : Aside0 ((T.jb k).dn < (T.jb k).wrk) := ⟨(HP.out.job k _ HJS.out).1⟩
  have a0 := (blk_cell ZA1.out 0).trans rfl
  have a1 := (blk_cell ZA1.out 1).trans rfl
  go_wp2_with fail
  refine (trun_calls HT1.out k b HKL.out HBP.out HD.out).mono ?_
  rintro e w2 ⟨rfl, T2, h2, r2, c2, s2⟩
  have HT2 := asd h2
  have RL := asd r2
  have HR2 := asd (HR1.out.other (wt := w1) HT1.out HB0.out c2)
  clear h2 r2 c2 s2 a0 a1
  have HB3 := asd (below_alloc (Below.refl w2.heap.size w2) (.cells #[.int .i64 (opJ (T.jb k)).f0, .int .i64 (opJ (T.jb k)).f1, .int .i64 (opJ (T.jb k)).f2] 76))
  have RC := asd (rrun_calls (HR2.out.below HB3.out) k HIS.out.1 (by rw [HIS.out.2]; exact HD.out))
  rw [HIS.out.2, HRT.out, HP.out.hi] at RC
  have B3 := asd (heap_alloc_new w2 (.cells #[.int .i64 (opJ (T.jb k)).f0, .int .i64 (opJ (T.jb k)).f1, .int .i64 (opJ (T.jb k)).f2] 76))
  generalize opJ (T.jb k) = o at RC HB3 B3 ⊢
  generalize outJ T.hi (T.tk k) (T.jb k) = u at RC ⊢
  unfold opV at RC ⊢
  go_wp2_with fail
  refine RC.out.mono ?_
  rintro e w4 ⟨rfl, R4, h4, k4, i4, j4, c4⟩
  have HR4 := asd (And.intro h4 (And.intro k4 (And.intro i4 j4)))
  have HT4 := asd ((HT2.out.below HB3.out).doc (HR2.out.below HB3.out) c4)
  have B4 := blk_chg B3.out c4 (fun e => by have := blk_lt HR2.out.blk; omega)
  clear h4 k4 i4 j4 c4
  have B5 := blk_alloc B4 (.cells #[.int .i64 o.f0, .int .i64 o.f1, .int .i64 o.f2] 134)
  have B6 := heap_alloc_new w4 (.cells #[.int .i64 o.f0, .int .i64 o.f1, .int .i64 o.f2] 134)
  have HB5 := asd (below_alloc (Below.refl w4.heap.size w4) (.cells #[.int .i64 o.f0, .int .i64 o.f1, .int .i64 o.f2] 134))
  clear B4
  go_upto_region 14 with fail
  generalize w4.alloc (.cells #[.int .i64 o.f0, .int .i64 o.f1, .int .i64 o.f2] 134) = w5 at B5 B6 HB5 ⊢
  have x0 := (blk_cell B5 0).trans rfl
  have x1 := (blk_cell B5 1).trans rfl
  have x2 := (blk_cell B5 2).trans rfl
  have z0 := (blk_cell B6 0).trans rfl
  have z1 := (blk_cell B6 1).trans rfl
  have z2 := (blk_cell B6 2).trans rfl
  clear B5 B6
  go_wp2
  go_ret
  have hb5 := HB5.out
  exact ⟨by first | rfl | simp, T2, R4, HT4.out.below hb5, HR4.out.1.below hb5, HP.out.step RL.out HR4.out.2.1 HR4.out.2.2.1 HR4.out.2.2.2 (HP.out.run HKL.out HBP.out) (HP.out.dm RL.out) (fun i j hj _ => HP.out.run_job HKL.out HBP.out HT1.out i j hj)⟩
 ·have HNA : Aside0 (∀ k, R.js k = none) := ⟨fun k => RD.js_none.2 (by cases e : R.is k with | false => rfl | true => exact absurd ⟨k, e⟩ hs)⟩
  have HNR : Aside0 (kk < 0 ∨ R.js kk.toNat = none) := ⟨.inr (HNA.out _)⟩
  have HNO : Aside0 (kk < 0 ∨ T.js kk.toNat = none) := ⟨.inr (by rw [← HP.out.js]; exact HNA.out _)⟩
  clear hs
  go_enter Try.func48, Try.ntmps48
  go_wp2_with fail
  generalize w.alloc (.cells #[.int .i64 4, .int .i64 kk, .int .i64 tsk, .int .i64 arr, .int .i64 wrk, .int .i64 dn, .slice A xs.length c] 65) = wa at ZA HT HR ⊢
  generalize w.heap.size = s at ZA SLT SNR ⊢
  clear a0 a1
  go_wp2_with fail
  refine (rfirst_none HR.out HNA.out).mono ?_
  rintro e w1 ⟨rfl, hb⟩
  have HT1 := asd (HT.out.below hb)
  have HR1 := asd (HR.out.below hb)
  have ZA1 := asd (blk_below ZA.out hb)
  clear hb
  have a0 := (blk_cell ZA1.out 0).trans rfl
  have a1 := (blk_cell ZA1.out 1).trans rfl
  go_wp2_with fail
  refine (trun_nobody HT1.out kk HNO.out).mono ?_
  rintro e w2 ⟨rfl, hb⟩
  have HT2 := asd (HT1.out.below hb)
  have HR2 := asd (HR1.out.below hb)
  clear hb a0 a1
  have HB3 := asd (below_alloc (Below.refl w2.heap.size w2) (.cells #[.int .i64 0, .int .i64 0, .int .i64 0] 76))
  have B3 := asd (heap_alloc_new w2 (.cells #[.int .i64 0, .int .i64 0, .int .i64 0] 76))
  go_wp2_with fail
  refine (rrun_nobody (HR2.out.below HB3.out) kk HNR.out).mono ?_
  rintro e w4 ⟨rfl, hb⟩
  have HR4 := asd ((HR2.out.below HB3.out).below hb)
  have HT4 := asd ((HT2.out.below HB3.out).below hb)
  have B4 := blk_below B3.out hb
  clear hb
  have B5 := blk_alloc B4 (.cells #[.int .i64 0, .int .i64 0, .int .i64 0] 134)
  have B6 := heap_alloc_new w4 (.cells #[.int .i64 0, .int .i64 0, .int .i64 0] 134)
  have HB5 := asd (below_alloc (Below.refl w4.heap.size w4) (.cells #[.int .i64 0, .int .i64 0, .int .i64 0] 134))
  clear B4
  go_upto_region 14 with fail
  generalize w4.alloc (.cells #[.int .i64 0, .int .i64 0, .int .i64 0] 134) = w5 at B5 B6 HB5 ⊢
  have x0 := (blk_cell B5 0).trans rfl
  have x1 := (blk_cell B5 1).trans rfl
  have x2 := (blk_cell B5 2).trans rfl
  have z0 := (blk_cell B6 0).trans rfl
  have z1 := (blk_cell B6 1).trans rfl
  have z2 := (blk_cell B6 2).trans rfl
  clear B5 B6
  go_wp2
  go_ret
  have hb5 := HB5.out
  exact ⟨by first | rfl | simp, T, R, HT4.out.below hb5, HR4.out.below hb5, HP.out⟩
set_option maxHeartbeats 32000000 in
set_option maxRecDepth 100000 in
theorem do_run5 (hT : TabOK w base g T) (hR : RTab w w0 r R) (hb0 : w0.heap.size ≤ base) (hP : PI l T R) (kk arr wrk : Int) (A : Option Addr) (c : Nat) (xs : List S134) (hC : Kd.C k134 w0 A xs.length xs) (hc : xs.length ≤ c) (h70 : xs.length ≤ 70) (tsk dn : Int) : Calls Try.prog 48 #[.pointer (some ⟨g, 0, none⟩), .pointer (some ⟨r, 0, none⟩), .agg #[.int .i64 5, .int .i64 kk, .int .i64 tsk, .int .i64 arr, .int .i64 wrk, .int .i64 dn, .slice A xs.length c]] w fun e w' => e = .returned (.bool true) ∧ DoPost w0 w' base g r l := by
 have hu65 := Try.underlying65
 have hu63 := Try.underlying63
 have hu76 := Try.underlying76
 have hu134 := Try.underlying134
 have hu90 := Try.underlying90
 have ZA := asd (heap_alloc_new w (.cells #[.int .i64 5, .int .i64 kk, .int .i64 tsk, .int .i64 arr, .int .i64 wrk, .int .i64 dn, .slice A xs.length c] 65))
 have HB := below_alloc (Below.refl w.heap.size w) (.cells #[.int .i64 5, .int .i64 kk, .int .i64 tsk, .int .i64 arr, .int .i64 wrk, .int .i64 dn, .slice A xs.length c] 65)
 have HT := asd (hT.below HB)
 have HR := asd (hR.below HB)
 have HP := asd hP
 have HB0 := asd hb0
 have SLT : Aside0 (¬ T.S g w.heap.size) := ⟨fun q => Nat.lt_irrefl _ (hT.lt _ q)⟩
 have SNR : Aside0 (w.heap.size ≠ r) := ⟨fun q => by have := blk_lt hR.blk; omega⟩
 have CX := asd (And.intro hC (And.intro hc h70))
 clear hT hR hP hb0 hC hc h70 HB
 have a0 := (blk_cell ZA.out 0).trans rfl
 have a1 := (blk_cell ZA.out 1).trans rfl
 by_cases hs : ∃ k0, R.is k0 = true
 ·obtain ⟨k0, hk0⟩ := hs
  have HK0 := asd hk0
  clear hk0
  by_cases hkk : 0 ≤ kk ∧ R.is kk.toNat = true
  ·obtain ⟨hk0, hki⟩ := hkk
   obtain ⟨k, rfl⟩ : ∃ k : Nat, kk = k := ⟨kk.toNat, by omega⟩
   rw [Int.toNat_natCast] at hki
   have HKI := asd hki
   clear hki hk0
   obtain ⟨b, HBP, HIS⟩ : ∃ b, Aside0 (T.pt k = some b) ∧ Aside0 (R.is k = true ∧ R.jr k = T.jb k) := by
    have hk := HKI.out
    have h1 : R.js k = some (R.jr k) := by unfold RD.js; rw [if_pos hk]
    rw [HP.out.js] at h1
    obtain ⟨_, _, b, hb⟩ := TD.js_some h1
    exact ⟨b, ⟨hb⟩, ⟨HP.out.is_some hb⟩⟩
   have HJS : Aside0 (T.js k = some (T.jb k)) := ⟨by unfold TD.js; rw [HBP.out]; rfl⟩
   have HKL : Aside0 (k < T.sl.length) := ⟨(TD.js_some HJS.out).1⟩
   have HRT : Aside0 (R.tk k = T.tk k) := ⟨HP.out.rtk (by rw [← HP.out.len]; exact HKL.out)⟩
   have HD : Aside0 ((T.jb k).dn < (T.jb k).wrk) := ⟨(HP.out.job k _ HJS.out).1⟩
   go_enter Try.func48, Try.ntmps48
   go_wp2_with fail
   generalize w.alloc (.cells #[.int .i64 5, .int .i64 (k : Int), .int .i64 tsk, .int .i64 arr, .int .i64 wrk, .int .i64 dn, .slice A xs.length c] 65) = wa at ZA HT HR ⊢
   generalize w.heap.size = s at ZA SLT SNR ⊢
   clear a0 a1
   go_wp2_with fail
   refine (rfirst_some HR.out HK0.out).mono ?_
   rintro e w1 ⟨⟨k1, rfl, hle⟩, hb⟩
   have HT1 := asd (HT.out.below hb)
   have HR1 := asd (HR.out.below hb)
   have ZA1 := asd (blk_below ZA.out hb)
   have LE := asd hle
   clear hb hle
   have a0 := (blk_cell ZA1.out 0).trans rfl
   have a1 := (blk_cell ZA1.out 1).trans rfl
   go_wp2_with fail
   refine (trun_calls HT1.out k b HKL.out HBP.out HD.out).mono ?_
   rintro e w2 ⟨rfl, T2, h2, r2, c2, s2⟩
   have HT2 := asd h2
   have RL := asd r2
   have HR2 := asd (HR1.out.other (wt := w1) HT1.out HB0.out c2)
   clear h2 r2 c2 s2 a0 a1
   have HB3 := asd (below_alloc (Below.refl w2.heap.size w2) (.cells #[.int .i64 (opJ (T.jb k)).f0, .int .i64 (opJ (T.jb k)).f1, .int .i64 (opJ (T.jb k)).f2] 76))
   have RC := asd (rrun_calls (HR2.out.below HB3.out) k HIS.out.1 (by rw [HIS.out.2]; exact HD.out))
   rw [HIS.out.2, HRT.out, HP.out.hi] at RC
   have B3 := asd (heap_alloc_new w2 (.cells #[.int .i64 (opJ (T.jb k)).f0, .int .i64 (opJ (T.jb k)).f1, .int .i64 (opJ (T.jb k)).f2] 76))
   generalize opJ (T.jb k) = o at RC HB3 B3 ⊢
   generalize outJ T.hi (T.tk k) (T.jb k) = u at RC ⊢
   unfold opV at RC ⊢
   go_wp2_with fail
   refine RC.out.mono ?_
   rintro e w4 ⟨rfl, R4, h4, k4, i4, j4, c4⟩
   have HR4 := asd (And.intro h4 (And.intro k4 (And.intro i4 j4)))
   have HT4 := asd ((HT2.out.below HB3.out).doc (HR2.out.below HB3.out) c4)
   have B4 := blk_chg B3.out c4 (fun e => by have := blk_lt HR2.out.blk; omega)
   clear h4 k4 i4 j4 c4
   have B5 := blk_alloc B4 (.cells #[.int .i64 o.f0, .int .i64 o.f1, .int .i64 o.f2] 134)
   have B6 := heap_alloc_new w4 (.cells #[.int .i64 o.f0, .int .i64 o.f1, .int .i64 o.f2] 134)
   have HB5 := asd (below_alloc (Below.refl w4.heap.size w4) (.cells #[.int .i64 o.f0, .int .i64 o.f1, .int .i64 o.f2] 134))
   clear B4
   go_upto_region 14 with fail
   generalize w4.alloc (.cells #[.int .i64 o.f0, .int .i64 o.f1, .int .i64 o.f2] 134) = w5 at B5 B6 HB5 ⊢
   have x0 := (blk_cell B5 0).trans rfl
   have x1 := (blk_cell B5 1).trans rfl
   have x2 := (blk_cell B5 2).trans rfl
   have z0 := (blk_cell B6 0).trans rfl
   have z1 := (blk_cell B6 1).trans rfl
   have z2 := (blk_cell B6 2).trans rfl
   clear B5 B6
   go_wp2
   go_ret
   have hb5 := HB5.out
   exact ⟨by first | rfl | simp, T2, R4, HT4.out.below hb5, HR4.out.1.below hb5, HP.out.step RL.out HR4.out.2.1 HR4.out.2.2.1 HR4.out.2.2.2 (HP.out.run HKL.out HBP.out) (HP.out.dm RL.out) (fun i j hj _ => HP.out.run_job HKL.out HBP.out HT1.out i j hj)⟩
  ·have HNR : Aside0 (kk < 0 ∨ R.js kk.toNat = none) := ⟨by
    by_cases q : kk < 0
    ·exact .inl q
    ·exact .inr (RD.js_none.2 (by cases e : R.is kk.toNat with | false => rfl | true => exact absurd ⟨by omega, e⟩ hkk))⟩
   have HNO : Aside0 (kk < 0 ∨ T.js kk.toNat = none) := ⟨HNR.out.imp_right (fun q => by rw [← HP.out.js]; exact q)⟩
   clear hkk
   go_enter Try.func48, Try.ntmps48
   go_wp2_with fail
   generalize w.alloc (.cells #[.int .i64 5, .int .i64 kk, .int .i64 tsk, .int .i64 arr, .int .i64 wrk, .int .i64 dn, .slice A xs.length c] 65) = wa at ZA HT HR ⊢
   generalize w.heap.size = s at ZA SLT SNR ⊢
   clear a0 a1
   go_wp2_with fail
   refine (rfirst_some HR.out HK0.out).mono ?_
   rintro e w1 ⟨⟨k1, rfl, hle⟩, hb⟩
   have HT1 := asd (HT.out.below hb)
   have HR1 := asd (HR.out.below hb)
   have ZA1 := asd (blk_below ZA.out hb)
   have LE := asd hle
   clear hb hle
   have a0 := (blk_cell ZA1.out 0).trans rfl
   have a1 := (blk_cell ZA1.out 1).trans rfl
   go_wp2_with fail
   refine (trun_nobody HT1.out kk HNO.out).mono ?_
   rintro e w2 ⟨rfl, hb⟩
   have HT2 := asd (HT1.out.below hb)
   have HR2 := asd (HR1.out.below hb)
   clear hb a0 a1
   have HB3 := asd (below_alloc (Below.refl w2.heap.size w2) (.cells #[.int .i64 0, .int .i64 0, .int .i64 0] 76))
   have B3 := asd (heap_alloc_new w2 (.cells #[.int .i64 0, .int .i64 0, .int .i64 0] 76))
   go_wp2_with fail
   refine (rrun_nobody (HR2.out.below HB3.out) kk HNR.out).mono ?_
   rintro e w4 ⟨rfl, hb⟩
   have HR4 := asd ((HR2.out.below HB3.out).below hb)
   have HT4 := asd ((HT2.out.below HB3.out).below hb)
   have B4 := blk_below B3.out hb
   clear hb
   have B5 := blk_alloc B4 (.cells #[.int .i64 0, .int .i64 0, .int .i64 0] 134)
   have B6 := heap_alloc_new w4 (.cells #[.int .i64 0, .int .i64 0, .int .i64 0] 134)
   have HB5 := asd (below_alloc (Below.refl w4.heap.size w4) (.cells #[.int .i64 0, .int .i64 0, .int .i64 0] 134))
   clear B4
   go_upto_region 14 with fail
   generalize w4.alloc (.cells #[.int .i64 0, .int .i64 0, .int .i64 0] 134) = w5 at B5 B6 HB5 ⊢
   have x0 := (blk_cell B5 0).trans rfl
   have x1 := (blk_cell B5 1).trans rfl
   have x2 := (blk_cell B5 2).trans rfl
   have z0 := (blk_cell B6 0).trans rfl
   have z1 := (blk_cell B6 1).trans rfl
   have z2 := (blk_cell B6 2).trans rfl
   clear B5 B6
   go_wp2
   go_ret
   have hb5 := HB5.out
   exact ⟨by first | rfl | simp, T, R, HT4.out.below hb5, HR4.out.below hb5, HP.out⟩
 ·have HNA : Aside0 (∀ k, R.js k = none) := ⟨fun k => RD.js_none.2 (by cases e : R.is k with | false => rfl | true => exact absurd ⟨k, e⟩ hs)⟩
  have HNR : Aside0 (kk < 0 ∨ R.js kk.toNat = none) := ⟨.inr (HNA.out _)⟩
  have HNO : Aside0 (kk < 0 ∨ T.js kk.toNat = none) := ⟨.inr (by rw [← HP.out.js]; exact HNA.out _)⟩
  clear hs
  go_enter Try.func48, Try.ntmps48
  go_wp2_with fail
  generalize w.alloc (.cells #[.int .i64 5, .int .i64 kk, .int .i64 tsk, .int .i64 arr, .int .i64 wrk, .int .i64 dn, .slice A xs.length c] 65) = wa at ZA HT HR ⊢
  generalize w.heap.size = s at ZA SLT SNR ⊢
  clear a0 a1
  go_wp2_with fail
  refine (rfirst_none HR.out HNA.out).mono ?_
  rintro e w1 ⟨rfl, hb⟩
  have HT1 := asd (HT.out.below hb)
  have HR1 := asd (HR.out.below hb)
  have ZA1 := asd (blk_below ZA.out hb)
  clear hb
  have a0 := (blk_cell ZA1.out 0).trans rfl
  have a1 := (blk_cell ZA1.out 1).trans rfl
  go_wp2_with fail
  refine (trun_nobody HT1.out kk HNO.out).mono ?_
  rintro e w2 ⟨rfl, hb⟩
  have HT2 := asd (HT1.out.below hb)
  have HR2 := asd (HR1.out.below hb)
  clear hb a0 a1
  have HB3 := asd (below_alloc (Below.refl w2.heap.size w2) (.cells #[.int .i64 0, .int .i64 0, .int .i64 0] 76))
  have B3 := asd (heap_alloc_new w2 (.cells #[.int .i64 0, .int .i64 0, .int .i64 0] 76))
  go_wp2_with fail
  refine (rrun_nobody (HR2.out.below HB3.out) kk HNR.out).mono ?_
  rintro e w4 ⟨rfl, hb⟩
  have HR4 := asd ((HR2.out.below HB3.out).below hb)
  have HT4 := asd ((HT2.out.below HB3.out).below hb)
  have B4 := blk_below B3.out hb
  clear hb
  have B5 := blk_alloc B4 (.cells #[.int .i64 0, .int .i64 0, .int .i64 0] 134)
  have B6 := heap_alloc_new w4 (.cells #[.int .i64 0, .int .i64 0, .int .i64 0] 134)
  have HB5 := asd (below_alloc (Below.refl w4.heap.size w4) (.cells #[.int .i64 0, .int .i64 0, .int .i64 0] 134))
  clear B4
  go_upto_region 14 with fail
  generalize w4.alloc (.cells #[.int .i64 0, .int .i64 0, .int .i64 0] 134) = w5 at B5 B6 HB5 ⊢
  have x0 := (blk_cell B5 0).trans rfl
  have x1 := (blk_cell B5 1).trans rfl
  have x2 := (blk_cell B5 2).trans rfl
  have z0 := (blk_cell B6 0).trans rfl
  have z1 := (blk_cell B6 1).trans rfl
  have z2 := (blk_cell B6 2).trans rfl
  clear B5 B6
  go_wp2
  go_ret
  have hb5 := HB5.out
  exact ⟨by first | rfl | simp, T, R, HT4.out.below hb5, HR4.out.below hb5, HP.out⟩
set_option maxHeartbeats 32000000 in
set_option maxRecDepth 100000 in
theorem do_rise (hT : TabOK w base g T) (hR : RTab w w0 r R) (hb0 : w0.heap.size ≤ base) (hP : PI l T R) (kk arr wrk : Int) (A : Option Addr) (c : Nat) (xs : List S134) (hC : Kd.C k134 w0 A xs.length xs) (hc : xs.length ≤ c) (h70 : xs.length ≤ 70) (tsk dn : Int) : Calls Try.prog 48 #[.pointer (some ⟨g, 0, none⟩), .pointer (some ⟨r, 0, none⟩), .agg #[.int .i64 6, .int .i64 kk, .int .i64 tsk, .int .i64 arr, .int .i64 wrk, .int .i64 dn, .slice A xs.length c]] w fun e w' => e = .returned (.bool true) ∧ DoPost w0 w' base g r l := by
 have hu65 := Try.underlying65
 have hu63 := Try.underlying63
 have hu76 := Try.underlying76
 have hu134 := Try.underlying134
 have hu90 := Try.underlying90
 have ZA := asd (heap_alloc_new w (.cells #[.int .i64 6, .int .i64 kk, .int .i64 tsk, .int .i64 arr, .int .i64 wrk, .int .i64 dn, .slice A xs.length c] 65))
 have HB := below_alloc (Below.refl w.heap.size w) (.cells #[.int .i64 6, .int .i64 kk, .int .i64 tsk, .int .i64 arr, .int .i64 wrk, .int .i64 dn, .slice A xs.length c] 65)
 have HT := asd (hT.below HB)
 have HR := asd (hR.below HB)
 have HP := asd hP
 have HB0 := asd hb0
 have SLT : Aside0 (¬ T.S g w.heap.size) := ⟨fun q => Nat.lt_irrefl _ (hT.lt _ q)⟩
 have SNR : Aside0 (w.heap.size ≠ r) := ⟨fun q => by have := blk_lt hR.blk; omega⟩
 have CX := asd (And.intro hC (And.intro hc h70))
 clear hT hR hP hb0 hC hc h70 HB
 have a0 := (blk_cell ZA.out 0).trans rfl
 have a1 := (blk_cell ZA.out 1).trans rfl
 have WHO : Aside0 (whoR R (fun i _ => !(R.tk i).f0) R.K.length = whoP T (fun i _ => !(T.tk i).f0) T.sl.length) := ⟨by rw [HP.out.K, HP.out.len]; exact HP.out.who (fun i j hi => by rw [HP.out.rtk hi]) _⟩
 obtain ⟨ki, hki⟩ := ints_ev (whoP T (fun i _ => !(T.tk i).f0) T.sl.length) (by have := whoP_len T (fun i _ => !(T.tk i).f0) T.sl.length; have := HT.out.n6; omega)
 have IC := asd hki
 clear hki
 go_enter Try.func48, Try.ntmps48
 go_wp2_with fail
 generalize w.alloc (.cells #[.int .i64 6, .int .i64 kk, .int .i64 tsk, .int .i64 arr, .int .i64 wrk, .int .i64 dn, .slice A xs.length c] 65) = wa at ZA HT HR ⊢
 generalize w.heap.size = s at ZA SLT SNR ⊢
 clear a0 a1
 refine (trise_calls HT.out).mono ?_
 rintro e w2 ⟨⟨A1, c1, rfl, hrow⟩, T2, h2, r2, c2, _, _, hd2⟩
 have HT2 := asd h2
 have RL := asd (And.intro r2 hd2)
 have HR2 := asd (HR.out.other (wt := wa) HT.out HB0.out c2)
 have ROW := asd hrow
 clear hrow h2 r2 c2 hd2
 go_wp2_with fail
 have RC := rrise_calls HR2.out
 rw [WHO.out] at RC
 refine RC.mono ?_
 rintro e w3 ⟨⟨A2, c2, rfl, hrow⟩, R3, h3, k3, i3, j3, c3⟩
 have HR3 := asd (And.intro h3 (And.intro k3 (And.intro i3 j3)))
 have HT3 := asd (HT2.out.doc HR2.out c3)
 have ROW1 := asd (R_chgT rfl ROW.out c3 (fun q cells hc e => by
  rw [e, HR2.out.blk] at hc
  injection hc with hc
  injection hc with _ h2
  exact absurd h2 (by decide)))
 have ROW2 := asd hrow
 clear hrow h3 k3 i3 j3 c3 ROW RC
 go_wp2_with fail
 refine (parcloselaw19_ints.calls ki A1 c1 _ A2 c2 _ true w3 (C_ofR ROW1.out) (Kd.R_reads' ROW1.out).2.1 (C_ofR ROW2.out) (Kd.R_reads' ROW2.out).2.1 IC.out).mono ?_
 rintro e w4 ⟨rfl, hd⟩
 go_wp2
 go_ret
 have hb := hd.below
 refine ⟨rfl, T2, R3, HT3.out.below hb, HR3.out.1.below hb, HP.out.step RL.out.1 HR3.out.2.1 HR3.out.2.2.1 HR3.out.2.2.2 (HP.out.gone (fun i j hi => by rw [HP.out.rtk hi])) RL.out.2 (fun i j hj _ => ?_)⟩
 obtain ⟨q1, q2⟩ := goneP_some hj
 exact ⟨(HP.out.job i j q1).1, fun _ => by simpa using q2⟩
set_option maxHeartbeats 32000000 in
set_option maxRecDepth 100000 in
theorem do_fall (hT : TabOK w base g T) (hR : RTab w w0 r R) (hb0 : w0.heap.size ≤ base) (hP : PI l T R) (kk arr wrk : Int) (A : Option Addr) (c : Nat) (xs : List S134) (hC : Kd.C k134 w0 A xs.length xs) (hc : xs.length ≤ c) (h70 : xs.length ≤ 70) (tsk dn : Int) : Calls Try.prog 48 #[.pointer (some ⟨g, 0, none⟩), .pointer (some ⟨r, 0, none⟩), .agg #[.int .i64 7, .int .i64 kk, .int .i64 tsk, .int .i64 arr, .int .i64 wrk, .int .i64 dn, .slice A xs.length c]] w fun e w' => e = .returned (.bool true) ∧ DoPost w0 w' base g r l := by
 have hu65 := Try.underlying65
 have hu63 := Try.underlying63
 have hu76 := Try.underlying76
 have hu134 := Try.underlying134
 have hu90 := Try.underlying90
 have ZA := asd (heap_alloc_new w (.cells #[.int .i64 7, .int .i64 kk, .int .i64 tsk, .int .i64 arr, .int .i64 wrk, .int .i64 dn, .slice A xs.length c] 65))
 have HB := below_alloc (Below.refl w.heap.size w) (.cells #[.int .i64 7, .int .i64 kk, .int .i64 tsk, .int .i64 arr, .int .i64 wrk, .int .i64 dn, .slice A xs.length c] 65)
 have HT := asd (hT.below HB)
 have HR := asd (hR.below HB)
 have HP := asd hP
 have HB0 := asd hb0
 have SLT : Aside0 (¬ T.S g w.heap.size) := ⟨fun q => Nat.lt_irrefl _ (hT.lt _ q)⟩
 have SNR : Aside0 (w.heap.size ≠ r) := ⟨fun q => by have := blk_lt hR.blk; omega⟩
 have CX := asd (And.intro hC (And.intro hc h70))
 clear hT hR hP hb0 hC hc h70 HB
 have a0 := (blk_cell ZA.out 0).trans rfl
 have a1 := (blk_cell ZA.out 1).trans rfl
 by_cases hf : T.hi = true ∧ T.H.ats.length = 0
 ·have HF := asd hf
  clear hf
  go_enter Try.func48, Try.ntmps48
  go_wp2_with fail
  generalize w.alloc (.cells #[.int .i64 7, .int .i64 kk, .int .i64 tsk, .int .i64 arr, .int .i64 wrk, .int .i64 dn, .slice A xs.length c] 65) = wa at ZA HT HR ⊢
  generalize w.heap.size = s at ZA SLT SNR ⊢
  clear a0 a1
  refine (tfall_yes HT.out HF.out.1 HF.out.2).mono ?_
  rintro e w2 ⟨rfl, rfl, h2⟩
  have HT2 := asd h2
  have HR2 := asd (HR.out.other (wt := wa) HT.out HB0.out ((Chg.refl (T.S g) wa).set_ (p := ⟨g, 2, none⟩) (.inl (.inl rfl)) (.bool false)))
  clear h2
  generalize wa.setCell ⟨g, 2, none⟩ (.bool false) = w2 at HT2 HR2 ⊢
  go_wp2_with fail
  refine (rfall_yes HR2.out (by rw [HP.out.hi]; exact HF.out.1) (by rw [HP.out.num, ← HT.out.cnt]; exact HF.out.2)).mono ?_
  rintro e w3 ⟨rfl, R3, h3, k3, i3, j3, c3⟩
  have HR3 := asd (And.intro h3 (And.intro k3 (And.intro i3 j3)))
  have HT3 := asd (HT2.out.doc HR2.out c3)
  clear h3 k3 i3 j3 c3
  go_wp2
  go_ret
  exact ⟨by first | rfl | simp, _, R3, HT3.out, HR3.out.1, HP.out.hiset (HT.out.len0.1 HF.out.2) HR3.out.2.1 HR3.out.2.2.1 HR3.out.2.2.2⟩
 ·have HF : Aside0 (T.hi = false ∨ 0 < T.H.ats.length) := ⟨by
   by_cases q : T.hi = true
   ·exact .inr (Nat.pos_of_ne_zero (fun q2 => hf ⟨q, q2⟩))
   ·exact .inl (by simpa using q)⟩
  clear hf
  go_enter Try.func48, Try.ntmps48
  go_wp2_with fail
  generalize w.alloc (.cells #[.int .i64 7, .int .i64 kk, .int .i64 tsk, .int .i64 arr, .int .i64 wrk, .int .i64 dn, .slice A xs.length c] 65) = wa at ZA HT HR ⊢
  generalize w.heap.size = s at ZA SLT SNR ⊢
  clear a0 a1
  refine (tfall_no HT.out HF.out).mono ?_
  rintro e w2 ⟨rfl, rfl⟩
  go_wp2_with fail
  refine (rfall_no HR.out (by rw [HP.out.hi, HP.out.num, ← HT.out.cnt]; exact HF.out)).mono ?_
  rintro e w3 ⟨rfl, rfl⟩
  go_wp2
  go_ret
  exact ⟨by first | rfl | simp, T, R, HT.out, HR.out, HP.out⟩
set_option maxHeartbeats 32000000 in
set_option maxRecDepth 100000 in
theorem do_missed (hT : TabOK w base g T) (hR : RTab w w0 r R) (hb0 : w0.heap.size ≤ base) (hP : PI l T R) (kk arr wrk : Int) (A : Option Addr) (c : Nat) (xs : List S134) (hC : Kd.C k134 w0 A xs.length xs) (hc : xs.length ≤ c) (h70 : xs.length ≤ 70) (tsk dn : Int) : Calls Try.prog 48 #[.pointer (some ⟨g, 0, none⟩), .pointer (some ⟨r, 0, none⟩), .agg #[.int .i64 8, .int .i64 kk, .int .i64 tsk, .int .i64 arr, .int .i64 wrk, .int .i64 dn, .slice A xs.length c]] w fun e w' => e = .returned (.bool true) ∧ DoPost w0 w' base g r l := by
 have hu65 := Try.underlying65
 have hu63 := Try.underlying63
 have hu76 := Try.underlying76
 have hu134 := Try.underlying134
 have hu90 := Try.underlying90
 have ZA := asd (heap_alloc_new w (.cells #[.int .i64 8, .int .i64 kk, .int .i64 tsk, .int .i64 arr, .int .i64 wrk, .int .i64 dn, .slice A xs.length c] 65))
 have HB := below_alloc (Below.refl w.heap.size w) (.cells #[.int .i64 8, .int .i64 kk, .int .i64 tsk, .int .i64 arr, .int .i64 wrk, .int .i64 dn, .slice A xs.length c] 65)
 have HT := asd (hT.below HB)
 have HR := asd (hR.below HB)
 have HP := asd hP
 have HB0 := asd hb0
 have SLT : Aside0 (¬ T.S g w.heap.size) := ⟨fun q => Nat.lt_irrefl _ (hT.lt _ q)⟩
 have SNR : Aside0 (w.heap.size ≠ r) := ⟨fun q => by have := blk_lt hR.blk; omega⟩
 have CX := asd (And.intro hC (And.intro hc h70))
 clear hT hR hP hb0 hC hc h70 HB
 have a0 := (blk_cell ZA.out 0).trans rfl
 have a1 := (blk_cell ZA.out 1).trans rfl
 have WHO : Aside0 (whoR R (fun i j => decide (j.arr + (R.tk i).f2 ≤ kk)) R.K.length = whoP T (fun i j => decide (j.arr + (T.tk i).f2 ≤ kk)) T.sl.length) := ⟨by rw [HP.out.K, HP.out.len]; exact HP.out.who (fun i j hi => by rw [HP.out.rtk hi]) _⟩
 obtain ⟨ki, hki⟩ := ints_ev (whoP T (fun i j => decide (j.arr + (T.tk i).f2 ≤ kk)) T.sl.length) (by have := whoP_len T (fun i j => decide (j.arr + (T.tk i).f2 ≤ kk)) T.sl.length; have := HT.out.n6; omega)
 have IC := asd hki
 clear hki
 go_enter Try.func48, Try.ntmps48
 go_wp2
 generalize w.alloc (.cells #[.int .i64 8, .int .i64 kk, .int .i64 tsk, .int .i64 arr, .int .i64 wrk, .int .i64 dn, .slice A xs.length c] 65) = wa at ZA HT HR ⊢
 generalize w.heap.size = s at ZA SLT SNR ⊢
 clear a0 a1
 refine start_ (n := 10) (S := fun w' => w'.cell? ⟨s, 1, none⟩ = some (.int .i64 kk)) (ds := [7, 8]) #[false, false, false, false, false, false, false, false, false, false] (by kernel_rfl) rfl rfl ((blk_cell ZA.out 1).trans rfl) (fun hHeld => ?_); refine with_tabW do20_tab do20_bits (fun HT_ HW_ => ?_)
 have ZAa := asd (blk_drew ZA.out)
 have HTa := asd (HT.out.drew)
 have HRa := asd (HR.out.drew)
 clear HT HR
 generalize wa.drew = wb at ZAa HTa HRa hHeld ⊢
 refine pure_ (i := 0) (N := (some 86)) (v := ?_) (a' := ?_) #[true, false, false, false, false, false, false, false, false, false] rfl rfl (any_of HT_.out (by kernel_rfl)) (fun _ _ _ h => h) (Or.inl ⟨by rfl, ?_⟩) ?_ ?_
 rotate_left
 ·intro w'
  go_simp
  with_reducible rfl
 rotate_left
 ·simp only [Act.put, sB, i64_w, i32_w]
  rfl
 refine pure_ (i := 1) (N := (some 87)) (v := ?_) (a' := ?_) #[true, true, false, false, false, false, false, false, false, false] rfl rfl (any_of HT_.out (by kernel_rfl)) (fun _ _ _ h => h) (Or.inl ⟨by rfl, ?_⟩) ?_ ?_
 rotate_left
 ·intro w'
  go_simp
  with_reducible rfl
 rotate_left
 ·simp only [Act.put, sB, i64_w, i32_w]
  rfl
 refine take_ (i := 2) (N := (some 88)) (v := ?_) (a' := ?_) #[true, true, true, false, false, false, false, false, false, false] rfl rfl (take_ofW HT_.out HW_.out (by kernel_rfl)) (fun _ _ _ h => h) (Or.inl ⟨by rfl, ?_⟩) hHeld ?_ ?_
 rotate_left
 ·rintro w' s0
  go_simp
  with_reducible rfl
 rotate_left
 ·simp only [Act.put, sB, i64_w, i32_w]
  rfl
 refine pure_ (i := 4) (N := (some 90)) (v := ?_) (a' := ?_) #[true, true, true, false, true, false, false, false, false, false] rfl rfl (any_of HT_.out (by kernel_rfl)) (fun _ _ _ h => h) (Or.inl ⟨by rfl, ?_⟩) ?_ ?_
 rotate_left
 ·intro w'
  go_simp
  with_reducible rfl
 rotate_left
 ·simp only [Act.put, sB, i64_w, i32_w]
  rfl
 refine pure_ (i := 5) (N := (some 91)) (v := ?_) (a' := ?_) #[true, true, true, false, true, true, false, false, false, false] rfl rfl (any_of HT_.out (by kernel_rfl)) (fun _ _ _ h => h) (Or.inl ⟨by rfl, ?_⟩) ?_ ?_
 rotate_left
 ·intro w'
  go_simp
  with_reducible rfl
 rotate_left
 ·simp only [Act.put, sB, i64_w, i32_w]
  rfl
 refine take_ (i := 6) (N := (some 92)) (v := ?_) (a' := ?_) #[true, true, true, false, true, true, true, false, false, false] rfl rfl (take_ofW HT_.out HW_.out (by kernel_rfl)) (fun _ _ _ h => h) (Or.inl ⟨by rfl, ?_⟩) hHeld ?_ ?_
 rotate_left
 ·rintro w' s0
  go_simp
  with_reducible rfl
 rotate_left
 ·simp only [Act.put, sB, i64_w, i32_w]
  rfl
 refine one_ (i := 3) (N := (some 89)) #[true, true, true, true, true, true, true, false, false, false] rfl rfl (one_of HT_.out (by kernel_rfl)) (by decide) (fun K hK => ?_)
 refine goes_ Try.func42 (by kernel_rfl) rfl #[.pointer (some ⟨g, 0, none⟩), .int .i64 kk] (by rfl) rfl rfl (by simp [Act.eval]) ?_
 refine (tmissed_calls HTa.out kk).mono ?_
 rintro e w2 ⟨⟨A1, c1, rfl, hrow⟩, T2, h2, r2, c2, s2⟩
 have HT2 := asd h2
 have RL := asd r2
 have HR2 := asd (HRa.out.other (wt := wb) HTa.out HB0.out c2)
 have ROW := asd hrow
 have ZA2 := asd (blk_chg ZAa.out c2 SLT.out)
 clear hrow h2 r2 c2 s2 HTa HRa ZAa
 have RC := rmissed_calls HR2.out kk
 rw [WHO.out] at RC
 refine ⟨_, rfl, ?_⟩
 refine hK.out _ _ ((blk_cell ZA2.out 1).trans rfl) (fun hHeld => ?_)
 clear hK K
 refine norm_ (a' := ?_) ?_ ?_
 rotate_left
 ·show Act.put _ (some 89) _ = _
  simp only [Act.put, sB, i64_w, i32_w]
  rfl
 refine last_ (i := 7) (N := (some 93)) #[true, true, true, true, true, true, true, true, false, false] rfl rfl (one_of HT_.out (by kernel_rfl)) (by decide) (fun K hK => ?_)
 refine goes_ Try.func97 (by kernel_rfl) rfl #[.pointer (some ⟨r, 0, none⟩), .int .i64 kk] (by rfl) rfl rfl (by simp [Act.eval]) ?_
 refine (RC).mono ?_
 rintro e w3 ⟨⟨A2, c2, rfl, hrow⟩, R3, h3, k3, i3, j3, c3⟩
 have HR3 := asd (And.intro h3 (And.intro k3 (And.intro i3 j3)))
 have HT3 := asd (HT2.out.doc HR2.out c3)
 have ROW1 := asd (R_chgT rfl ROW.out c3 (fun q cells hc e => by
  rw [e, HR2.out.blk] at hc
  injection hc with hc
  injection hc with _ h2
  exact absurd h2 (by decide)))
 have ROW2 := asd hrow
 clear hrow h3 k3 i3 j3 c3 ROW RC
 refine ⟨_, rfl, ?_⟩
 refine hK.out _ _ ?_
 clear hK K
 refine norm_ (a' := ?_) ?_ ?_
 rotate_left
 ·show Act.put _ (some 93) _ = _
  simp only [Act.put, sB, i64_w, i32_w]
  rfl
 refine last_ (i := 8) (N := (some 94)) #[true, true, true, true, true, true, true, true, true, false] rfl rfl (one_of HT_.out (by kernel_rfl)) (by decide) (fun K hK => ?_)
 refine goes_ Try.func94 (by kernel_rfl) rfl #[.slice A1 (whoP T (fun i j => decide (j.arr + (T.tk i).f2 ≤ kk)) T.sl.length).length c1, .slice A2 (whoP T (fun i j => decide (j.arr + (T.tk i).f2 ≤ kk)) T.sl.length).length c2] (by rfl) rfl rfl (by simp [Act.eval]) ?_
 refine (parcloselaw19_ints.calls ki A1 c1 _ A2 c2 _ true w3 (C_ofR ROW1.out) (Kd.R_reads' ROW1.out).2.1 (C_ofR ROW2.out) (Kd.R_reads' ROW2.out).2.1 IC.out).mono ?_
 rintro e w4 ⟨rfl, hd⟩
 have HDB := asd hd.below
 clear hd
 refine ⟨_, rfl, ?_⟩
 refine hK.out _ _ ?_
 clear hK K
 refine norm_ (a' := ?_) ?_ ?_
 rotate_left
 ·show Act.put _ (some 94) _ = _
  simp only [Act.put, sB, i64_w, i32_w]
  rfl
 refine pure_ (i := 9) (N := (some 6)) (v := ?_) (a' := ?_) #[true, true, true, true, true, true, true, true, true, true] rfl rfl (any_of HT_.out (by kernel_rfl)) (fun _ _ _ h => h) (Or.inl ⟨by rfl, ?_⟩) ?_ ?_
 rotate_left
 ·intro w'
  go_simp
  with_reducible rfl
 rotate_left
 ·simp only [Act.put, sB, i64_w, i32_w]
  rfl
 refine done_ (done_of HT_.out (by kernel_rfl)) ?_
 try go_wp2
 go_ret
 have hb := HDB.out
 refine ⟨rfl, T2, R3, HT3.out.below hb, HR3.out.1.below hb, HP.out.step RL.out HR3.out.2.1 (HR3.out.2.2.1.trans HP.out.hi) HR3.out.2.2.2 (HP.out.gone (fun i j hi => by rw [HP.out.rtk hi])) (HP.out.dm RL.out) (fun i j hj _ => ?_)⟩
 exact HP.out.job i j (goneP_some hj).1
set_option maxHeartbeats 32000000 in
set_option maxRecDepth 100000 in
theorem do_clear (hT : TabOK w base g T) (hR : RTab w w0 r R) (hb0 : w0.heap.size ≤ base) (hP : PI l T R) (kk arr wrk : Int) (A : Option Addr) (c : Nat) (xs : List S134) (hC : Kd.C k134 w0 A xs.length xs) (hc : xs.length ≤ c) (h70 : xs.length ≤ 70) (tsk dn : Int) : Calls Try.prog 48 #[.pointer (some ⟨g, 0, none⟩), .pointer (some ⟨r, 0, none⟩), .agg #[.int .i64 9, .int .i64 kk, .int .i64 tsk, .int .i64 arr, .int .i64 wrk, .int .i64 dn, .slice A xs.length c]] w fun e w' => e = .returned (.bool true) ∧ DoPost w0 w' base g r l := by
 have hu65 := Try.underlying65
 have hu63 := Try.underlying63
 have hu76 := Try.underlying76
 have hu134 := Try.underlying134
 have hu90 := Try.underlying90
 have ZA := asd (heap_alloc_new w (.cells #[.int .i64 9, .int .i64 kk, .int .i64 tsk, .int .i64 arr, .int .i64 wrk, .int .i64 dn, .slice A xs.length c] 65))
 have HB := below_alloc (Below.refl w.heap.size w) (.cells #[.int .i64 9, .int .i64 kk, .int .i64 tsk, .int .i64 arr, .int .i64 wrk, .int .i64 dn, .slice A xs.length c] 65)
 have HT := asd (hT.below HB)
 have HR := asd (hR.below HB)
 have HP := asd hP
 have HB0 := asd hb0
 have SLT : Aside0 (¬ T.S g w.heap.size) := ⟨fun q => Nat.lt_irrefl _ (hT.lt _ q)⟩
 have SNR : Aside0 (w.heap.size ≠ r) := ⟨fun q => by have := blk_lt hR.blk; omega⟩
 have CX := asd (And.intro hC (And.intro hc h70))
 clear hT hR hP hb0 hC hc h70 HB
 have a0 := (blk_cell ZA.out 0).trans rfl
 have a1 := (blk_cell ZA.out 1).trans rfl
 go_enter Try.func48, Try.ntmps48
 go_wp2_with fail
 generalize w.alloc (.cells #[.int .i64 9, .int .i64 kk, .int .i64 tsk, .int .i64 arr, .int .i64 wrk, .int .i64 dn, .slice A xs.length c] 65) = wa at ZA HT HR ⊢
 generalize w.heap.size = s at ZA SLT SNR ⊢
 clear a0 a1
 refine (tclear_calls HT.out).mono ?_
 rintro e w2 ⟨rfl, T2, h2, r2, c2, s2, hd2⟩
 have HT2 := asd h2
 have RL := asd (And.intro r2 hd2)
 have HR2 := asd (HR.out.other (wt := wa) HT.out HB0.out c2)
 clear h2 r2 c2 s2 hd2
 go_wp2_with fail
 refine (rclear_calls HR2.out).mono ?_
 rintro e w3 ⟨rfl, R3, h3, k3, i3, j3, c3⟩
 have HR3 := asd (And.intro h3 (And.intro k3 (And.intro i3 j3)))
 have HT3 := asd (HT2.out.doc HR2.out c3)
 clear h3 k3 i3 j3 c3
 go_wp2
 go_ret
 exact ⟨rfl, T2, R3, HT3.out, HR3.out.1, HP.out.step RL.out.1 HR3.out.2.1 HR3.out.2.2.1 HR3.out.2.2.2 (fun _ => rfl) RL.out.2 (fun i j hj _ => by cases hj)⟩
set_option maxHeartbeats 32000000 in
set_option maxRecDepth 100000 in
theorem do_other (hT : TabOK w base g T) (hR : RTab w w0 r R) (hb0 : w0.heap.size ≤ base) (hP : PI l T R) (kk arr wrk : Int) (A : Option Addr) (c : Nat) (xs : List S134) (hC : Kd.C k134 w0 A xs.length xs) (hc : xs.length ≤ c) (h70 : xs.length ≤ 70) (kd tsk dn : Int) (n0 : kd ≠ 0) (n1 : kd ≠ 1) (n2 : kd ≠ 2) (n3 : kd ≠ 3) (n4 : kd ≠ 4) (n5 : kd ≠ 5) (n6 : kd ≠ 6) (n7 : kd ≠ 7) (n8 : kd ≠ 8) (n9 : kd ≠ 9) : Calls Try.prog 48 #[.pointer (some ⟨g, 0, none⟩), .pointer (some ⟨r, 0, none⟩), .agg #[.int .i64 kd, .int .i64 kk, .int .i64 tsk, .int .i64 arr, .int .i64 wrk, .int .i64 dn, .slice A xs.length c]] w fun e w' => e = .returned (.bool true) ∧ DoPost w0 w' base g r l := by
 have e0 : (kd == 0) = false := beq_eq_false_iff_ne.2 n0
 have f0 : decide (kd = 0) = false := decide_eq_false n0
 have e1 : (kd == 1) = false := beq_eq_false_iff_ne.2 n1
 have f1 : decide (kd = 1) = false := decide_eq_false n1
 have e2 : (kd == 2) = false := beq_eq_false_iff_ne.2 n2
 have f2 : decide (kd = 2) = false := decide_eq_false n2
 have e3 : (kd == 3) = false := beq_eq_false_iff_ne.2 n3
 have f3 : decide (kd = 3) = false := decide_eq_false n3
 have e4 : (kd == 4) = false := beq_eq_false_iff_ne.2 n4
 have f4 : decide (kd = 4) = false := decide_eq_false n4
 have e5 : (kd == 5) = false := beq_eq_false_iff_ne.2 n5
 have f5 : decide (kd = 5) = false := decide_eq_false n5
 have e6 : (kd == 6) = false := beq_eq_false_iff_ne.2 n6
 have f6 : decide (kd = 6) = false := decide_eq_false n6
 have e7 : (kd == 7) = false := beq_eq_false_iff_ne.2 n7
 have f7 : decide (kd = 7) = false := decide_eq_false n7
 have e8 : (kd == 8) = false := beq_eq_false_iff_ne.2 n8
 have f8 : decide (kd = 8) = false := decide_eq_false n8
 have e9 : (kd == 9) = false := beq_eq_false_iff_ne.2 n9
 have f9 : decide (kd = 9) = false := decide_eq_false n9
 clear n0 n1 n2 n3 n4 n5 n6 n7 n8 n9
 have hu65 := Try.underlying65
 have hu63 := Try.underlying63
 have hu76 := Try.underlying76
 have hu134 := Try.underlying134
 have hu90 := Try.underlying90
 have ZA := asd (heap_alloc_new w (.cells #[.int .i64 kd, .int .i64 kk, .int .i64 tsk, .int .i64 arr, .int .i64 wrk, .int .i64 dn, .slice A xs.length c] 65))
 have HB := below_alloc (Below.refl w.heap.size w) (.cells #[.int .i64 kd, .int .i64 kk, .int .i64 tsk, .int .i64 arr, .int .i64 wrk, .int .i64 dn, .slice A xs.length c] 65)
 have HT := asd (hT.below HB)
 have HR := asd (hR.below HB)
 have HP := asd hP
 have HB0 := asd hb0
 have SLT : Aside0 (¬ T.S g w.heap.size) := ⟨fun q => Nat.lt_irrefl _ (hT.lt _ q)⟩
 have SNR : Aside0 (w.heap.size ≠ r) := ⟨fun q => by have := blk_lt hR.blk; omega⟩
 have CX := asd (And.intro hC (And.intro hc h70))
 clear hT hR hP hb0 hC hc h70 HB
 have a0 := (blk_cell ZA.out 0).trans rfl
 have a1 := (blk_cell ZA.out 1).trans rfl
 go_enter Try.func48, Try.ntmps48
 go_wp2
 go_ret
 exact ⟨rfl, T, R, HT.out, HR.out, HP.out⟩
end
end Go.Proofs.Ytjekfipaadbbbaa.Fn
namespace Go.Proofs.Ytjekfipaadbbbaa.Fn
open Go.RowKit Go.Proofs.YtjekfipaadbbbaaW.PrintWords Go.Proofs.YtjekfipaadbbbaaW.PrintLast Go.Proofs.YtjekfipaadbbbaaW.PrintMore
set_option linter.unusedVariables false
set_option linter.unusedSimpArgs false
section
variable {w w0 : World} {base g r : Nat} {T : TD} {R : RD} {l : List S44}
theorem do_calls (hT : TabOK w base g T) (hR : RTab w w0 r R) (hb0 : w0.heap.size ≤ base) (hP : PI l T R) (x : S65) (A : Option Addr) (c : Nat) (hC : Kd.C k134 w0 A x.f2.f4.length x.f2.f4) (hc : x.f2.f4.length ≤ c) (h70 : x.f2.f4.length ≤ 70) : Calls Try.prog 48 #[.pointer (some ⟨g, 0, none⟩), .pointer (some ⟨r, 0, none⟩), .agg #[.int .i64 x.f0, .int .i64 x.f1, .int .i64 x.f2.f0, .int .i64 x.f2.f1, .int .i64 x.f2.f2, .int .i64 x.f2.f3, .slice A x.f2.f4.length c]] w fun e w' => e = .returned (.bool true) ∧ DoPost w0 w' base g r l := by
 obtain ⟨kd, kk, tsk, arr, wrk, dn, xs⟩ := x
 have hC : Kd.C k134 w0 A xs.length xs := hC
 have hc : xs.length ≤ c := hc
 have h70 : xs.length ≤ 70 := h70
 show Calls Try.prog 48 #[.pointer (some ⟨g, 0, none⟩), .pointer (some ⟨r, 0, none⟩), .agg #[.int .i64 kd, .int .i64 kk, .int .i64 tsk, .int .i64 arr, .int .i64 wrk, .int .i64 dn, .slice A xs.length c]] w fun e w' => e = .returned (.bool true) ∧ DoPost w0 w' base g r l
 by_cases n0 : kd = 0
 ·subst n0
  by_cases hk : 0 ≤ tsk ∧ tsk < T.sl.length
  ·obtain ⟨k, rfl⟩ : ∃ k : Nat, tsk = k := ⟨tsk.toNat, by omega⟩
   have hkl : k < T.sl.length := by omega
   cases hj : rjob arr wrk dn (xs.map jop) with
   | false => exact do_put0_bad hT hR hb0 hP kk arr wrk A c xs hC hc h70 k dn hkl hj
   | true =>
    cases hp : T.pt k with
    | some b => exact do_put0_there hT hR hb0 hP kk arr wrk A c xs hC hc h70 k b dn hkl hp hj
    | none =>
     have hd0 : dn = 0 := (of_decide_eq_true hj).2.2.1
     by_cases hd : T.hi = true ∧ (T.tk k).f0 = false
     ·exact do_put0_drop hT hR hb0 hP kk arr wrk A c xs hC hc h70 k dn hkl hp hd.1 hd.2 hj
     ·subst hd0
      refine do_put0_ok hT hR hb0 hP kk arr wrk A c xs hC hc h70 k hkl hp ?_ hj
      cases e : T.hi with
      | false => exact .inl rfl
      | true => exact .inr (by cases e2 : (T.tk k).f0 with | true => rfl | false => exact absurd ⟨e, e2⟩ hd)
  ·exact do_put0_out hT hR hb0 hP kk arr wrk A c xs hC hc h70 tsk dn hk
 by_cases n1 : kd = 1
 ·subst n1
  by_cases hk : 0 ≤ tsk ∧ tsk < T.sl.length
  ·obtain ⟨k, rfl⟩ : ∃ k : Nat, tsk = k := ⟨tsk.toNat, by omega⟩
   have hkl : k < T.sl.length := by omega
   cases hj : rjob arr wrk dn (xs.map jop) with
   | false => exact do_put1_bad hT hR hb0 hP kk arr wrk A c xs hC hc h70 k dn hkl hj
   | true =>
    cases hp : T.pt k with
    | some b => exact do_put1_there hT hR hb0 hP kk arr wrk A c xs hC hc h70 k b dn hkl hp hj
    | none =>
     have hd0 : dn = 0 := (of_decide_eq_true hj).2.2.1
     by_cases hd : T.hi = true ∧ (T.tk k).f0 = false
     ·exact do_put1_drop hT hR hb0 hP kk arr wrk A c xs hC hc h70 k dn hkl hp hd.1 hd.2 hj
     ·subst hd0
      refine do_put1_ok hT hR hb0 hP kk arr wrk A c xs hC hc h70 k hkl hp ?_ hj
      cases e : T.hi with
      | false => exact .inl rfl
      | true => exact .inr (by cases e2 : (T.tk k).f0 with | true => rfl | false => exact absurd ⟨e, e2⟩ hd)
  ·exact do_put1_out hT hR hb0 hP kk arr wrk A c xs hC hc h70 tsk dn hk
 by_cases n2 : kd = 2
 ·subst n2; exact do_run2 hT hR hb0 hP kk arr wrk A c xs hC hc h70 tsk dn
 by_cases n3 : kd = 3
 ·subst n3; exact do_run3 hT hR hb0 hP kk arr wrk A c xs hC hc h70 tsk dn
 by_cases n4 : kd = 4
 ·subst n4; exact do_run4 hT hR hb0 hP kk arr wrk A c xs hC hc h70 tsk dn
 by_cases n5 : kd = 5
 ·subst n5; exact do_run5 hT hR hb0 hP kk arr wrk A c xs hC hc h70 tsk dn
 by_cases n6 : kd = 6
 ·subst n6; exact do_rise hT hR hb0 hP kk arr wrk A c xs hC hc h70 tsk dn
 by_cases n7 : kd = 7
 ·subst n7; exact do_fall hT hR hb0 hP kk arr wrk A c xs hC hc h70 tsk dn
 by_cases n8 : kd = 8
 ·subst n8; exact do_missed hT hR hb0 hP kk arr wrk A c xs hC hc h70 tsk dn
 by_cases n9 : kd = 9
 ·subst n9; exact do_clear hT hR hb0 hP kk arr wrk A c xs hC hc h70 tsk dn
 exact do_other hT hR hb0 hP kk arr wrk A c xs hC hc h70 kd tsk dn n0 n1 n2 n3 n4 n5 n6 n7 n8 n9
theorem TD.Least.one {k k' : Nat} {j j' : JB} (h : T.Least k j) (h' : T.Least k' j') : k' = k ∧ j' = j := by
 have a := h.2 k' j' h'.1
 have b := h'.2 k j h.1
 have e : k' = k := by rcases a with a | a <;> rcases b with b | b <;> omega
 subst e
 have q := h.1
 rw [h'.1] at q
 exact ⟨rfl, Option.some.inj q⟩
end
end Go.Proofs.Ytjekfipaadbbbaa.Fn
namespace Go.Proofs.Ytjekfipaadbbbaa.Fn
open Go.RowKit Go.Proofs.YtjekfipaadbbbaaW.PrintWords Go.Proofs.YtjekfipaadbbbaaW.PrintLast Go.Proofs.YtjekfipaadbbbaaW.PrintMore
set_option linter.unusedVariables false
set_option linter.unusedSimpArgs false
set_option maxHeartbeats 32000000 in
set_option maxRecDepth 100000 in
theorem high_walk (a0 : Option Addr) (c0 : Nat) (l : List S44) (a1 : Option Addr) (c1 : Nat) (xs : List S65) (w : World) (hr0 : Kd.C k44 w a0 l.length l) (hr1 : Kd.C k65 w a1 xs.length xs) (hc1 : xs.length ≤ c1) (hl : l.length * 48 ≤ 140737488351232) : Calls Try.prog 9 #[.slice a0 l.length c0, .slice a1 xs.length c1] w fun e w' => e = .returned (.bool true) ∧ Below w.heap.size w w' := by
 have OC := asd (town_calls a0 c0 l w hr0 hl)
 have HR0 := asd hr0
 have HR1 := asd hr1
 have HC1 := asd hc1
 obtain ⟨kl, lb, hkl, hlb⟩ := light_ev xs
 have LC := asd (fun wq (hq : Kd.C k65 wq a1 xs.length xs) => parcloselaw19_light.calls kl a1 c1 xs lb wq hq hc1 hkl)
 have LB := asd hlb
 have hu65 := Try.underlying65
 have hu63 := Try.underlying63
 have hu69 := Try.underlying69
 have hu44 := Try.underlying44
 have hu90 := Try.underlying90
 clear hr0 hr1 hc1 hkl hlb hl
 by_cases hm : l.length ≤ 6 ∧ l.all rtC = true
 ·have HM := asd hm
  have d0 : decide ((l.length : Int) > 20) = false := decide_eq_false (by omega)
  have d1 : decide (20 < (l.length : Int)) = false := d0
  have d2 : decide (20 < l.length) = false := decide_eq_false (by omega)
  clear hm
  go_enter Try.func9, Try.ntmps9
  go_wp2_with fail
  refine OC.out.mono ?_
  rintro e w1 ⟨hmade, hb1⟩
  unfold TMade at hmade
  rw [if_pos HM.out] at hmade
  obtain ⟨base, g, T, rfl, ht, hsl, hhi, hdm, hlo⟩ := hmade
  have HB1 := asd hb1
  cases lb with
  | false =>
   clear ht hsl hhi hdm hlo hb1
   go_wp2_with fail
   refine (LC.out w1 (Kd.C_below HR1.out HB1.out)).mono ?_
   rintro e w2 ⟨rfl, hd⟩
   have HB2 := asd (below_step HB1.out hd.below)
   clear hd
   go_wp2_with fail
   refine (tknows_calls _).mono ?_
   rintro e wk ⟨rfl, hb⟩
   have HBK := asd (below_step HB2.out hb)
   clear hb
   go_wp2
   go_ret
   exact ⟨rfl, HBK.out⟩
  | true =>
   have X120 := asd (LB.out rfl)
   have HT1 := asd ht
   have LO := asd hlo
   have NOJ : Aside0 (∀ k, T.js k = none) := ⟨fun k => TD.js_none.2 (by
    unfold TD.pt
    rw [hsl, List.getD_eq_getElem?_getD, List.getElem?_map]
    cases hq : l[k]? with
    | none => simp [zSl]
    | some q => simp)⟩
   have HSL := asd hsl
   have HHI := asd hhi
   have HDM := asd hdm
   clear ht hsl hhi hdm hlo hb1
   go_wp2_with fail
   refine (LC.out w1 (Kd.C_below HR1.out HB1.out)).mono ?_
   rintro e w2 ⟨rfl, hd⟩
   have HB2 := asd (below_step HB1.out hd.below)
   have HT2 := asd (HT1.out.below hd.below)
   clear hd HT1
   go_wp2_with fail
   refine (tknows_calls _).mono ?_
   rintro e w3 ⟨rfl, hb⟩
   have HT3 := asd (HT2.out.below hb)
   have HB3 := asd (below_step HB2.out hb)
   clear hb HT2
   go_wp2_with fail
   refine (rnew_calls a0 c0 l w3 w HB3.out HR0.out (by have := HM.out.1; omega)).mono ?_
   rintro e w4 ⟨hmade, hb⟩
   unfold RMade at hmade
   rw [if_pos HM.out] at hmade
   obtain ⟨r, R, rfl, hr, hrK, hri, hrh⟩ := hmade
   have HT4 := asd (HT3.out.below hb)
   have HR4 := asd hr
   have P4 : Aside0 (PI l T R) := ⟨⟨by rw [HSL.out, List.length_map], hrK, fun i hi => by
    unfold TD.tk
    rw [HSL.out, List.getD_eq_getElem?_getD, List.getElem?_map, List.getElem?_eq_getElem hi, getD_lt l z44 hi]; rfl, HDM.out, by rw [hrh, HHI.out], fun k => by
    rw [RD.js_none.2 (hri k)]
    exact (NOJ.out k).symm, fun k j hj => by rw [NOJ.out k] at hj; cases hj⟩⟩
   clear hb HT3 hr hrK hri hrh
   go_wp2
   go_loopw [7] (fun v7 wr => ∃ (i : Nat) (T : TD) (R : RD), v7 = .int .i64 i ∧ Aside0 (i ≤ xs.length) ∧ Aside0 (TabOK wr base g T) ∧ Aside0 (RTab wr w r R) ∧ Aside0 (PI l T R)) (fun v _ => xs.length - (intOf v).toNat)
   case atStart => exact ⟨0, T, R, rfl, ⟨by omega⟩, HT4, HR4, P4⟩
   case round =>
    clear HT4 HR4 P4
    obtain ⟨i, T, R, rfl, HI, HT, HR, HP⟩ := hrel
    have i99 : (i : Int) ≤ 120 := by have := HI.out; have := X120.out.1; omega
    by_cases hi : i < xs.length
    ·have q1 : decide ((i : Int) < (xs.length : Int)) = true := decide_eq_true (by omega)
     have q2 : decide (i < xs.length) = true := decide_eq_true hi
     have p0 : (0 ≤ (i : Int)) = True := eq_true (by omega)
     have p1 : ((i : Int) < (xs.length : Int)) = True := eq_true (by omega)
     have p2 : (i < xs.length) = True := eq_true hi
     have HII := asd hi
     obtain ⟨ad, A6, c6, hae, y0, y1, y2, y3, y4, y5, y6, hl6, hcc6⟩ := at_T65 HR1.out (i : Int) (by omega) (by omega)
     subst hae
     have CO := asd (And.intro hl6 hcc6)
     have er : rd_T65 xs (i : Int) = xs.getD i z65 := by unfold rd_T65; rw [Int.toNat_natCast]
     rw [er] at y0 y1 y2 y3 y4 y5 y6 CO
     rw [Int.toNat_natCast] at y0 y1 y2 y3 y4 y5 y6
     have X70 := asd (X120.out.2 i hi)
     generalize xs.getD i z65 = x at y0 y1 y2 y3 y4 y5 y6 CO X70
     have Y1 := asd y1
     replace y0 := pw_cell_below HR.out.fr y0
     replace y1 := pw_cell_below HR.out.fr y1
     replace y2 := pw_cell_below HR.out.fr y2
     replace y3 := pw_cell_below HR.out.fr y3
     replace y4 := pw_cell_below HR.out.fr y4
     replace y5 := pw_cell_below HR.out.fr y5
     replace y6 := pw_cell_below HR.out.fr y6
     clear hi hl6 hcc6 er
     go_wp2_with fail
     refine (do_calls HT.out HR.out LO.out HP.out x A6 c6 CO.out.2 CO.out.1 X70.out).mono ?_
     rintro e w5 ⟨rfl, T2, R2, h2, h3, h4⟩
     have HT2 := asd h2
     have HR2 := asd h3
     have HP2 := asd h4
     clear h2 h3 h4 y0 y1 y2 y3 y4 y5 y6 p0 p1 p2 q1 q2
     go_wp2
     go_loopw [8] (fun v8 wq => ∃ (k : Nat), v8 = .int .i64 k ∧ Aside0 (k ≤ l.length) ∧ Aside0 (TabOK wq base g T2) ∧ Aside0 (RTab wq w r R2)) (fun v _ => l.length - (intOf v).toNat)
     case atStart => exact ⟨0, rfl, ⟨by omega⟩, HT2, HR2⟩
     case round =>
      obtain ⟨k, rfl, HK, HT, HR⟩ := hrel
      by_cases hlt : k < l.length
      ·have HL := asd hlt
       have k9 : k ≤ 1000 := by have := HM.out.1; omega
       have wi : wrap64 ((k : Int) + 1) = ((k + 1 : Nat) : Int) := by unfold wrap64; omega
       have p0 : (0 ≤ (k : Int)) = True := eq_true (by omega)
       have p1 : ((k : Int) < (l.length : Int)) = True := eq_true (by omega)
       have p4 : (k < l.length) = True := eq_true hlt
       have e1 : decide ((k : Int) < (l.length : Int)) = true := decide_eq_true (by omega)
       have e2 : decide (k < l.length) = true := decide_eq_true hlt
       cases hj : T2.pt k with
       | none =>
        have HNO : Aside0 ((k : Int) < 0 ∨ T2.js (k : Int).toNat = none) := ⟨.inr (TD.js_none.2 (by rw [Int.toNat_natCast]; exact hj))⟩
        clear hlt hj k9
        go_wp2_with fail
        refine (tget_none HT.out (k : Int) HNO.out).mono ?_
        rintro e w6 ⟨rfl, hb⟩
        have hb6 := below_step hb (below_alloc (Below.refl w6.heap.size w6) (.cells #[.int .i64 0, .int .i64 0, .int .i64 0, .int .i64 0, .slice none 0 0] 69))
        have HT6 := asd (HT.out.below hb6)
        have HR6 := asd (HR.out.below hb6)
        clear hb hb6
        go_wp2
        go_roundw
        case rel => exact ⟨k + 1, by rw [wi], ⟨by have := HL.out; omega⟩, HT6, HR6⟩
        case measure => rw [wi]; exact Nat.sub_lt_sub_left HL.out (Nat.lt_succ_self k)
       | some b =>
        have HKL : Aside0 (k < T2.sl.length) := ⟨by rw [HP2.out.len]; exact hlt⟩
        have HBP := asd hj
        have HHI : Aside0 (T2.hi = true → (rd_T44 l (k : Int)).f0 = true) := ⟨fun q => by
         have h1 := (HP2.out.job k (T2.jb k) (by unfold TD.js; rw [hj]; rfl)).2 q
         rw [HP2.out.tk k hlt] at h1
         unfold rd_T44
         rw [Int.toNat_natCast]
         exact h1⟩
        clear hlt hj k9
        go_wp2_with fail
        refine (tget_some HT.out k b HKL.out HBP.out).mono ?_
        rintro e w6 ⟨A7, c7, rfl, hc7, hC7, hb⟩
        generalize T2.jb k = j at hc7 hC7 ⊢
        have hb6 := below_step hb (below_alloc (Below.refl w6.heap.size w6) (.cells #[.int .i64 j.tsk, .int .i64 j.arr, .int .i64 j.wrk, .int .i64 j.dn, .slice A7 j.ops.length c7] 69))
        have HT6 := asd (HT.out.below hb6)
        have HR6 := asd (HR.out.below hb6)
        clear hb hb6 hc7 hC7
        obtain ⟨ae, hae, y0, _⟩ := at_T44 (Kd.C_below HR0.out HR6.out.fr) (k : Int) (by omega) (by have := HL.out; omega)
        subst hae
        rw [Int.toNat_natCast] at y0
        go_wp2_with fail
        refine (thigh_calls HT6.out).mono ?_
        rintro e w7 ⟨rfl, rfl⟩
        cases hh : T2.hi with
        | false =>
         clear hh
         go_wp2
         go_roundw
         case rel => exact ⟨k + 1, by rw [wi], ⟨by have := HL.out; omega⟩, HT6, HR6⟩
         case measure => rw [wi]; exact Nat.sub_lt_sub_left HL.out (Nat.lt_succ_self k)
        | true =>
         rw [HHI.out hh] at y0
         clear hh
         go_wp2
         go_roundw
         case rel => exact ⟨k + 1, by rw [wi], ⟨by have := HL.out; omega⟩, HT6, HR6⟩
         case measure => rw [wi]; exact Nat.sub_lt_sub_left HL.out (Nat.lt_succ_self k)
      ·have e : k = l.length := by have := HK.out; omega
       subst e
       have e1 : decide ((l.length : Int) < (l.length : Int)) = false := decide_eq_false (by omega)
       have e2 : decide (l.length < l.length) = false := decide_eq_false (by omega)
       have p4 : (l.length < l.length) = False := eq_false (by omega)
       have wi : wrap64 ((i : Int) + 1) = ((i + 1 : Nat) : Int) := by unfold wrap64; omega
       clear hlt
       go_wp2
       go_roundw
       case rel => exact ⟨i + 1, T2, R2, by first | (rw [wi]) | rfl, ⟨by have := HII.out; omega⟩, HT, HR, HP2⟩
       case measure => first | (rw [wi]; exact Nat.sub_lt_sub_left HII.out (Nat.lt_succ_self i)) | exact Nat.sub_lt_sub_left HII.out (Nat.lt_succ_self i)
    ·have q1 : decide ((i : Int) < (xs.length : Int)) = false := decide_eq_false (by omega)
     have q2 : decide (i < xs.length) = false := decide_eq_false hi
     have p2 : (i < xs.length) = False := eq_false hi
     clear hi
     go_wp2
     go_ret
     exact ⟨rfl, HR.out.fr⟩
 ·have HM := asd hm
  clear hm
  by_cases h20 : l.length ≤ 20
  ·have d0 : decide ((l.length : Int) > 20) = false := decide_eq_false (by omega)
   have d1 : decide (20 < (l.length : Int)) = false := d0
   have d2 : decide (20 < l.length) = false := decide_eq_false (by omega)
   clear h20
   go_enter Try.func9, Try.ntmps9
   go_wp2_with fail
   refine OC.out.mono ?_
   rintro e w1 ⟨hmade, hb1⟩
   unfold TMade at hmade
   rw [if_neg HM.out] at hmade
   subst hmade
   have HB1 := asd hb1
   clear hb1
   cases lb with
   | false =>
    go_wp2_with fail
    refine (LC.out w1 (Kd.C_below HR1.out HB1.out)).mono ?_
    rintro e w2 ⟨rfl, hd⟩
    have HB2 := asd (below_step HB1.out hd.below)
    clear hd
    go_wp2_with fail
    refine (tknows_calls _).mono ?_
    rintro e wk ⟨rfl, hb⟩
    have HBK := asd (below_step HB2.out hb)
    clear hb
    go_wp2
    go_ret
    exact ⟨rfl, HBK.out⟩
   | true =>
    go_wp2_with fail
    refine (LC.out w1 (Kd.C_below HR1.out HB1.out)).mono ?_
    rintro e w2 ⟨rfl, hd⟩
    have HB2 := asd (below_step HB1.out hd.below)
    clear hd
    go_wp2_with fail
    refine (tknows_calls _).mono ?_
    rintro e wk ⟨rfl, hb⟩
    have HBK := asd (below_step HB2.out hb)
    clear hb
    go_wp2
    go_ret
    exact ⟨rfl, HBK.out⟩
  ·have d0 : decide ((l.length : Int) > 20) = true := decide_eq_true (by omega)
   have d1 : decide (20 < (l.length : Int)) = true := d0
   have d2 : decide (20 < l.length) = true := decide_eq_true (by omega)
   clear h20
   go_enter Try.func9, Try.ntmps9
   go_wp2_with fail
   refine OC.out.mono ?_
   rintro e w1 ⟨hmade, hb1⟩
   unfold TMade at hmade
   rw [if_neg HM.out] at hmade
   subst hmade
   have HB1 := asd hb1
   clear hb1
   go_wp2_with fail
   refine (tknows_calls _).mono ?_
   rintro e wk ⟨rfl, hb⟩
   have HBK := asd (below_step HB1.out hb)
   clear hb
   go_wp2
   go_ret
   exact ⟨rfl, HBK.out⟩
end Go.Proofs.Ytjekfipaadbbbaa.Fn
