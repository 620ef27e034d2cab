/- Part of the proof of GanttCounts: see the last text. (Words laid by the print, as far as they are named here; walks written by a program of this project; plain laws.) -/
import Derived.Test.YtalimpniimgheaaGanttCountsZ1
namespace Go.Proofs.Ytalimpniimgheaa.Fn
open Go.RowKit Go.Proofs.YtalimpniimgheaaW.PrintWords Go.Proofs.YtalimpniimgheaaW.PrintLast Go.Proofs.YtalimpniimgheaaW.PrintMore
set_option linter.unusedVariables false
set_option linter.unusedSimpArgs false
theorem cellsG {w : World} {ad : Addr} {n : Nat} {Ds : List S97} (h : Kd.C k97 w (some ad) n Ds) (i : Nat) (hi : i < n) : w.cell? (ad.add (i * 4)) = some (.int .i64 (Ds.getD i z97).f0) ∧ w.cell? ⟨(ad.add (i * 4)).block, (ad.add (i * 4)).off + 1, none⟩ = some (.int .i64 (Ds.getD i z97).f1) ∧ w.cell? ⟨(ad.add (i * 4)).block, (ad.add (i * 4)).off + 2, none⟩ = some (.int .i64 (Ds.getD i z97).f2) ∧ w.cell? ⟨(ad.add (i * 4)).block, (ad.add (i * 4)).off + 3, none⟩ = some (.int .i64 (Ds.getD i z97).f3) := by
 obtain ⟨ad', e, r⟩ := at_T97 h (i : Int) (by omega) (by omega)
 obtain rfl := Option.some.inj e
 rw [rd97g, Int.toNat_natCast] at r
 exact r
theorem cells2 {a b c d e f g h : Prop} (h1 : a ∧ b ∧ c ∧ d) (h2 : e ∧ f ∧ g ∧ h) : a ∧ b ∧ c ∧ d ∧ e ∧ f ∧ g ∧ h := ⟨h1.1, h1.2.1, h1.2.2.1, h1.2.2.2, h2⟩
theorem goesV_ {P : Program} {ops : Array Oper} {Q : Exit → Act → World → Prop} {oi : Oper} {N : Option Tmp} {a : Act} {w : World} {K : Act → World → Prop} {f : FuncId} {fn : Func} {ops1 : Array Operand} {ts : Array TypeId} (tm : Operand) (hf : P.funcs[f]? = some fn) (hname : (fn.name == "runtime.NumGoroutine") = false) (hb : fn.body.isSome = true) (args : Array Value)
  (hw : Region.wanted oi (yielded ops a.tmps) = true) (hN : oi.dst = N) (hv : a.eval tm = .func (.func f) #[] #[]) (hop : oi.op = .call { callee := .value tm, args := ops1, argTypes := ts }) (hargs : ops1.map a.eval = args)
  (h : Calls P f args w fun e w' => ∃ v, e = .returned v ∧ K (a.put N v) w') : if Region.wanted oi (yielded ops a.tmps) = true then Oper.wp P oi a w K Q else K (a.put N undef) w := by
 refine call_ f args hw hN ?_ h
 have he := enters_ hf hname hb args w
 unfold execOp
 simp [hop, resolve, hv, Deferred.ofValue, invoke, hargs, he]
def RisG (Ds : List S97) : Prop := ∀ i j, i < j → j < Ds.length → (Ds.getD i z97).f0 < (Ds.getD j z97).f0
def ginsT : Bool × List (List Nat × List Nat) := (true, [([], []), ([], []), ([0, 1], [0, 1]), ([2], [2]), ([3], [3]), ([3], [3]), ([3], [3]), ([5, 6, 3], [3, 5, 6]), ([7, 3], [3, 7]), ([3], [3]), ([3], [3]), ([10, 3], [3, 10]), ([9, 11, 3], [3, 9, 11]), ([12, 3], [3, 12]), ([4, 8, 13, 3, 3], [3, 4, 8, 13]), ([14, 3], [3, 14]), ([3, 15], [3, 15])])
def ginsB : List Nat := [0, 0, 3, 7, 15, 15, 15, 111, 239, 15, 15, 1039, 3599, 7695, 16383, 32767, 65535]
theorem gins_tab : rtab .any (opsOf Try.f143 4) = ginsT := by kernel_rfl
theorem gins_bits : waitsOk ginsT.2 ginsB = true := by kernel_rfl
def gsy5T : Bool × List (List Nat × List Nat) := (true, [([], []), ([], []), ([], []), ([1, 2], [1, 2]), ([3], [3]), ([], []), ([], []), ([5, 6], [5, 6]), ([7], [7]), ([0, 4, 8], [0, 4, 8]), ([9], [9])])
def gsy5B : List Nat := [0, 0, 0, 6, 14, 0, 0, 96, 224, 511, 1023]
theorem gsy5_tab : rtab .any (opsOf Try.f144 5) = gsy5T := by kernel_rfl
theorem gsy5_bits : waitsOk gsy5T.2 gsy5B = true := by kernel_rfl
def gsy17T : Bool × List (List Nat × List Nat) := (true, [([], []), ([], []), ([], []), ([1, 2], [1, 2]), ([3], [3]), ([], []), ([], []), ([5, 6], [5, 6]), ([7], [7]), ([0, 4, 8], [0, 4, 8]), ([9], [9]), ([10], [10])])
def gsy17B : List Nat := [0, 0, 0, 6, 14, 0, 0, 96, 224, 511, 1023, 2047]
theorem gsy17_tab : rtab .any (opsOf Try.f144 17) = gsy17T := by kernel_rfl
theorem gsy17_bits : waitsOk gsy17T.2 gsy17B = true := by kernel_rfl
def gsy35T : Bool × List (List Nat × List Nat) := (true, [([], []), ([], []), ([], []), ([], []), ([2, 3], [2, 3]), ([1, 4], [1, 4]), ([5], [5]), ([], []), ([], []), ([7, 8], [7, 8]), ([9], [9]), ([0, 6, 10], [0, 6, 10]), ([11], [11]), ([12], [12])])
def gsy35B : List Nat := [0, 0, 0, 0, 12, 30, 62, 0, 0, 384, 896, 2047, 4095, 8191]
theorem gsy35_tab : rtab .any (opsOf Try.f144 35) = gsy35T := by kernel_rfl
theorem gsy35_bits : waitsOk gsy35T.2 gsy35B = true := by kernel_rfl
section
variable (ad : Addr) (c : Nat) (Ds : List S97)
set_option maxHeartbeats 16000000 in
set_option maxRecDepth 100000 in
theorem gins_calls (w : World) (h : Kd.C k97 w (some ad) Ds.length Ds) (hr : RisG Ds) (a b : Nat) (hab : a ≤ b) (hb : b ≤ Ds.length) (hl : Ds.length ≤ 1000) : Calls Try.prog 143 #[.slice (some ad) Ds.length c, .int .i64 a, .int .i64 b, .func (.func 105) #[] #[]] w fun e w' => e = .returned (.tuple #[]) ∧ Below w.heap.size w w' := by
 have hu97 := Try.underlying97
 have HC := asd h
 have HR := asd hr
 have HBL := asd hb
 have wa : wrap64 ((a : Int) + 1) = ((a + 1 : Nat) : Int) := by unfold wrap64; omega
 clear h hr
 go_enter Try.func143, Try.ntmps143
 go_wp2
 go_loopw [8] (fun v wr => ∃ (i : Nat), v = .int .i64 i ∧ Aside0 (a + 1 ≤ i ∧ i ≤ b + 1) ∧ Aside0 (Below w.heap.size w wr)) (fun v _ => b + 1 - (intOf v).toNat)
 case atStart => exact ⟨a + 1, by first | (rw [wa]) | rfl, ⟨by omega⟩, ⟨Below.refl _ _⟩⟩
 case round =>
  obtain ⟨i, rfl, HI, HB⟩ := hrel
  by_cases hlt : i < b
  ·have d1 : decide ((i : Int) < (b : Int)) = true := decide_eq_true (by omega)
   have d2 : decide (i < b) = true := decide_eq_true hlt
   obtain ⟨p, hp⟩ : ∃ p : Nat, i = p + 1 := ⟨i - 1, by have := HI.out; omega⟩
   have g1 : decide ((i : Int) > (a : Int)) = true := decide_eq_true (by have := HI.out; omega)
   have g2 : decide ((a : Int) < (i : Int)) = true := g1
   have g3 : decide (a < i) = true := decide_eq_true (by have := HI.out; omega)
   have wq : wrap64 ((i : Int) - 1) = (p : Int) := by unfold wrap64; omega
   have wi : wrap64 ((i : Int) + 1) = ((i + 1 : Nat) : Int) := by unfold wrap64; omega
   have q0 : (0 ≤ (i : Int)) = True := eq_true (by omega)
   have q1 : ((i : Int) < (Ds.length : Int)) = True := eq_true (by omega)
   have q2 : (i < Ds.length) = True := eq_true (by omega)
   have q3 : (0 ≤ (p : Int)) = True := eq_true (by omega)
   have q4 : ((p : Int) < (Ds.length : Int)) = True := eq_true (by omega)
   have q5 : (p < Ds.length) = True := eq_true (by omega)
   have lt := HR.out p i (by omega) (by omega)
   have NE : Aside0 ((Ds.getD i z97).f0 ≠ (Ds.getD p z97).f0) := ⟨by omega⟩
   have CM : cmpI (Ds.getD i z97).f0 (Ds.getD p z97).f0 = 1 := by unfold cmpI; rw [if_neg (by omega), if_pos (by omega)]
   have HLT := asd hlt
   have hil : i < Ds.length := by omega
   have hpl : p < Ds.length := by omega
   clear hp lt
   have CX : Aside0 (∀ wq, Below w.heap.size w wq → wq.cell? (ad.add (i * 4)) = some (.int .i64 (Ds.getD i z97).f0) ∧ wq.cell? ⟨(ad.add (i * 4)).block, (ad.add (i * 4)).off + 1, none⟩ = some (.int .i64 (Ds.getD i z97).f1) ∧ wq.cell? ⟨(ad.add (i * 4)).block, (ad.add (i * 4)).off + 2, none⟩ = some (.int .i64 (Ds.getD i z97).f2) ∧ wq.cell? ⟨(ad.add (i * 4)).block, (ad.add (i * 4)).off + 3, none⟩ = some (.int .i64 (Ds.getD i z97).f3) ∧ wq.cell? (ad.add (p * 4)) = some (.int .i64 (Ds.getD p z97).f0) ∧ wq.cell? ⟨(ad.add (p * 4)).block, (ad.add (p * 4)).off + 1, none⟩ = some (.int .i64 (Ds.getD p z97).f1) ∧ wq.cell? ⟨(ad.add (p * 4)).block, (ad.add (p * 4)).off + 2, none⟩ = some (.int .i64 (Ds.getD p z97).f2) ∧ wq.cell? ⟨(ad.add (p * 4)).block, (ad.add (p * 4)).off + 3, none⟩ = some (.int .i64 (Ds.getD p z97).f3)) := ⟨fun wq hq => cells2 (cellsG (Kd.C_below HC.out hq) i hil) (cellsG (Kd.C_below HC.out hq) p hpl)⟩
   generalize Ds.getD i z97 = x at CX NE CM
   generalize Ds.getD p z97 = y at CX NE CM
   go_wp2
   refine wp_loop_rounds 1 ?_
   rw [rounds_succ]
   go_wp2_with fail
   refine start_ (n := 17) (S := fun w' => w'.cell? (ad.add (i * 4)) = some (.int .i64 x.f0) ∧ w'.cell? ⟨(ad.add (i * 4)).block, (ad.add (i * 4)).off + 1, none⟩ = some (.int .i64 x.f1) ∧ w'.cell? ⟨(ad.add (i * 4)).block, (ad.add (i * 4)).off + 2, none⟩ = some (.int .i64 x.f2) ∧ w'.cell? ⟨(ad.add (i * 4)).block, (ad.add (i * 4)).off + 3, none⟩ = some (.int .i64 x.f3) ∧ w'.cell? (ad.add (p * 4)) = some (.int .i64 y.f0) ∧ w'.cell? ⟨(ad.add (p * 4)).block, (ad.add (p * 4)).off + 1, none⟩ = some (.int .i64 y.f1) ∧ w'.cell? ⟨(ad.add (p * 4)).block, (ad.add (p * 4)).off + 2, none⟩ = some (.int .i64 y.f2) ∧ w'.cell? ⟨(ad.add (p * 4)).block, (ad.add (p * 4)).off + 3, none⟩ = some (.int .i64 y.f3)) (ds := [14]) #[false, false, false, false, false, false, false, false, false, false, false, false, false, false, false, false, false] (by kernel_rfl) rfl rfl (CX.out _ (below_drew HB.out)) (fun hHeld => ?_); refine with_tabW gins_tab gins_bits (fun HT_ HW_ => ?_)
   have HBd := asd (below_drew HB.out)
   generalize wr.drew = wd at HBd hHeld ⊢
   refine pure_ (i := 0) (N := (some 18)) (v := ?_) (a' := ?_) #[true, false, false, false, false, false, false, false, false, false, false, false, false, false, false, false, false] rfl rfl (any_of HT_.out (by kernel_rfl)) (fun _ _ _ h => h) (Or.inl ⟨by rfl, ?_⟩) ?_ ?_
   rotate_left
   ·intro w'
    go_simp
    with_reducible rfl
   rotate_left
   ·simp only [Act.put, sB, i64_w, i32_w]
    rfl
   refine pure_ (i := 1) (N := (some 19)) (v := ?_) (a' := ?_) #[true, true, false, false, false, false, false, false, false, false, false, false, false, false, false, false, false] rfl rfl (any_of HT_.out (by kernel_rfl)) (fun _ _ _ h => h) (Or.inl ⟨by rfl, ?_⟩) ?_ ?_
   rotate_left
   ·intro w'
    go_simp
    with_reducible rfl
   rotate_left
   ·simp only [Act.put, sB, i64_w, i32_w]
    rfl
   refine pure_ (i := 2) (N := (some 20)) (v := ?_) (a' := ?_) #[true, true, true, false, false, false, false, false, false, false, false, false, false, false, false, false, false] rfl rfl (any_of HT_.out (by kernel_rfl)) (fun _ _ _ h => h) (Or.inl ⟨by rfl, ?_⟩) ?_ ?_
   rotate_left
   ·intro w'
    go_simp
    with_reducible rfl
   rotate_left
   ·simp only [Act.put, sB, i64_w, i32_w]
    rfl
   try (first | rw [g1] | rw [g2] | rw [g3])
   refine pure_ (i := 3) (N := (some 21)) (v := ?_) (a' := ?_) #[true, true, true, true, false, false, false, false, false, false, false, false, false, false, false, false, false] rfl rfl (any_of HT_.out (by kernel_rfl)) (fun _ _ _ h => h) (Or.inl ⟨by rfl, ?_⟩) ?_ ?_
   rotate_left
   ·intro w'
    go_simp
    with_reducible rfl
   rotate_left
   ·simp only [Act.put, sB, i64_w, i32_w]
    rfl
   refine pure_ (i := 4) (N := (some 22)) (v := ?_) (a' := ?_) #[true, true, true, true, true, false, false, false, false, false, false, false, false, false, false, false, false] rfl rfl (any_of HT_.out (by kernel_rfl)) (fun _ _ _ h => h) (Or.inl ⟨by rfl, ?_⟩) ?_ ?_
   rotate_left
   ·intro w'
    go_simp
    with_reducible rfl
   rotate_left
   ·simp only [Act.put, sB, i64_w, i32_w]
    rfl
   refine pure_ (i := 5) (N := (some 23)) (v := ?_) (a' := ?_) #[true, true, true, true, true, true, false, false, false, false, false, false, false, false, false, false, false] rfl rfl (any_of HT_.out (by kernel_rfl)) (fun _ _ _ h => h) (Or.inl ⟨by rfl, ?_⟩) ?_ ?_
   rotate_left
   ·intro w'
    go_simp
    with_reducible rfl
   rotate_left
   ·simp only [Act.put, sB, i64_w, i32_w]
    rfl
   refine pure_ (i := 6) (N := (some 24)) (v := ?_) (a' := ?_) #[true, true, true, true, true, true, true, false, false, false, false, false, false, false, false, false, false] rfl rfl (any_of HT_.out (by kernel_rfl)) (fun _ _ _ h => h) (Or.inl ⟨by rfl, ?_⟩) ?_ ?_
   rotate_left
   ·intro w'
    go_simp
    with_reducible rfl
   rotate_left
   ·simp only [Act.put, sB, i64_w, i32_w]
    rfl
   refine pure_ (i := 7) (N := (some 25)) (v := ?_) (a' := ?_) #[true, true, true, true, true, true, true, true, false, false, false, false, false, false, false, false, false] rfl rfl (any_of HT_.out (by kernel_rfl)) (fun _ _ _ h => h) (Or.inl ⟨by rfl, ?_⟩) ?_ ?_
   rotate_left
   ·intro w'
    go_simp
    with_reducible rfl
   rotate_left
   ·simp only [Act.put, sB, i64_w, i32_w]
    rfl
   refine take_ (i := 8) (N := (some 26)) (v := ?_) (a' := ?_) #[true, true, true, true, true, true, true, true, true, false, false, false, false, false, false, false, false] rfl rfl (take_ofW HT_.out HW_.out (by kernel_rfl)) (fun _ _ _ h => h) (Or.inl ⟨by rfl, ?_⟩) hHeld ?_ ?_
   rotate_left
   ·rintro w' ⟨s0, s1, s2, s3, s4, s5, s6, s7⟩
    go_simp
    with_reducible rfl
   rotate_left
   ·simp only [Act.put, sB, i64_w, i32_w]
    rfl
   refine pure_ (i := 9) (N := (some 27)) (v := ?_) (a' := ?_) #[true, true, true, true, true, true, true, true, true, true, false, false, false, false, false, false, false] rfl rfl (any_of HT_.out (by kernel_rfl)) (fun _ _ _ h => h) (Or.inl ⟨by rfl, ?_⟩) ?_ ?_
   rotate_left
   ·intro w'
    go_simp
    with_reducible rfl
   rotate_left
   ·simp only [Act.put, sB, i64_w, i32_w]
    rfl
   refine pure_ (i := 10) (N := (some 28)) (v := ?_) (a' := ?_) #[true, true, true, true, true, true, true, true, true, true, true, false, false, false, false, false, false] rfl rfl (any_of HT_.out (by kernel_rfl)) (fun _ _ _ h => h) (Or.inl ⟨by rfl, ?_⟩) ?_ ?_
   rotate_left
   ·intro w'
    go_simp
    with_reducible rfl
   rotate_left
   ·simp only [Act.put, sB, i64_w, i32_w]
    rfl
   refine pure_ (i := 11) (N := (some 29)) (v := ?_) (a' := ?_) #[true, true, true, true, true, true, true, true, true, true, true, true, false, false, false, false, false] rfl rfl (any_of HT_.out (by kernel_rfl)) (fun _ _ _ h => h) (Or.inl ⟨by rfl, ?_⟩) ?_ ?_
   rotate_left
   ·intro w'
    go_simp
    with_reducible rfl
   rotate_left
   ·simp only [Act.put, sB, i64_w, i32_w]
    rfl
   refine pure_ (i := 12) (N := (some 30)) (v := ?_) (a' := ?_) #[true, true, true, true, true, true, true, true, true, true, true, true, true, false, false, false, false] rfl rfl (any_of HT_.out (by kernel_rfl)) (fun _ _ _ h => h) (Or.inl ⟨by rfl, ?_⟩) ?_ ?_
   rotate_left
   ·intro w'
    go_simp
    with_reducible rfl
   rotate_left
   ·simp only [Act.put, sB, i64_w, i32_w]
    rfl
   refine take_ (i := 13) (N := (some 31)) (v := ?_) (a' := ?_) #[true, true, true, true, true, true, true, true, true, true, true, true, true, true, false, false, false] rfl rfl (take_ofW HT_.out HW_.out (by kernel_rfl)) (fun _ _ _ h => h) (Or.inl ⟨by rfl, ?_⟩) hHeld ?_ ?_
   rotate_left
   ·rintro w' ⟨s0, s1, s2, s3, s4, s5, s6, s7⟩
    go_simp
    with_reducible rfl
   rotate_left
   ·simp only [Act.put, sB, i64_w, i32_w]
    rfl
   refine last_ (i := 14) (N := (some 32)) #[true, true, true, true, true, true, true, true, true, true, true, true, true, true, true, false, false] rfl rfl (one_of HT_.out (by kernel_rfl)) (by decide) (fun K hK => ?_)
   refine goesV_ (.tmp 22) Try.func105 (by kernel_rfl) rfl #[.agg #[.int .i64 x.f0, .int .i64 x.f1, .int .i64 x.f2, .int .i64 x.f3], .agg #[.int .i64 y.f0, .int .i64 y.f1, .int .i64 y.f2, .int .i64 y.f3]] (by rfl) rfl rfl rfl (by simp [Act.eval]) ?_
   refine (gorder_calls x y wd NE.out).mono ?_
   rintro e we ⟨rfl, hb⟩
   have HBe := asd (below_step HBd.out hb)
   clear hb
   rw [CM]
   refine ⟨_, rfl, ?_⟩
   refine hK.out _ _ ?_
   clear hK K
   refine norm_ (a' := ?_) ?_ ?_
   rotate_left
   ·show Act.put _ (some 32) _ = _
    simp only [Act.put, sB, i64_w, i32_w]
    rfl
   refine pure_ (i := 15) (N := (some 33)) (v := ?_) (a' := ?_) #[true, true, true, true, true, true, true, true, true, true, true, true, true, true, true, true, false] rfl rfl (any_of HT_.out (by kernel_rfl)) (fun _ _ _ h => h) (Or.inl ⟨by rfl, ?_⟩) ?_ ?_
   rotate_left
   ·intro w'
    go_simp
    with_reducible rfl
   rotate_left
   ·simp only [Act.put, sB, i64_w, i32_w]
    rfl
   refine pure_ (i := 16) (N := (some 34)) (v := ?_) (a' := ?_) #[true, true, true, true, true, true, true, true, true, true, true, true, true, true, true, true, true] rfl rfl (any_of HT_.out (by kernel_rfl)) (fun _ _ _ h => h) (Or.inl ⟨by rfl, ?_⟩) ?_ ?_
   rotate_left
   ·intro w'
    go_simp
    with_reducible rfl
   rotate_left
   ·simp only [Act.put, sB, i64_w, i32_w]
    rfl
   refine done_ (done_of HT_.out (by kernel_rfl)) ?_
   try go_wp2
   go_roundw
   case rel => exact ⟨i + 1, by first | (rw [wi]) | rfl, ⟨by have := HI.out; have := HLT.out; omega⟩, HBe⟩
   case measure => have := HLT.out; exact Nat.sub_lt_sub_left (show i < b + 1 by omega) (Nat.lt_succ_self i)
  ·have d1 : decide ((i : Int) < (b : Int)) = false := decide_eq_false (by omega)
   have d2 : decide (i < b) = false := decide_eq_false hlt
   clear hlt
   go_wp2
   go_end0
   exact ⟨rfl, HB.out⟩
theorem wSub (x y z : Nat) (h : z + y = x) (hx : x ≤ 100000) : wrap64 ((x : Int) - (y : Int)) = (z : Int) := by unfold wrap64; omega
theorem wAdd (x y z : Nat) (h : x + y = z) (hx : z ≤ 100000) : wrap64 ((x : Int) + (y : Int)) = (z : Int) := by unfold wrap64; omega
theorem wSub1 (x z : Nat) (h : z + 1 = x) (hx : x ≤ 100000) : wrap64 ((x : Int) - 1) = (z : Int) := by unfold wrap64; omega
theorem wAdd1 (x : Nat) (hx : x ≤ 100000) : wrap64 ((x : Int) + 1) = ((x + 1 : Nat) : Int) := by unfold wrap64; omega
theorem midN (i j : Nat) (h : i + j ≤ 100000) : wrap64 (IntKind.u64.wrap (wrap64 ((i : Int) + (j : Int))) / 2) = (((i + j) / 2 : Nat) : Int) := by
 have e : wrap64 ((i : Int) + (j : Int)) = ((i + j : Nat) : Int) := by unfold wrap64; omega
 have e2 : IntKind.u64.wrap ((i + j : Nat) : Int) = ((i + j : Nat) : Int) := by simp [IntKind.wrap, IntKind.bits, IntKind.signed]; omega
 rw [e, e2]
 unfold wrap64
 omega
set_option maxHeartbeats 16000000 in
set_option maxRecDepth 100000 in
theorem gsym_calls (hr : RisG Ds) (hl : Ds.length ≤ 1000) : ∀ (k a m b : Nat), b - a ≤ k → a < m → m < b → b ≤ Ds.length → ∀ w, Kd.C k97 w (some ad) Ds.length Ds → Calls Try.prog 144 #[.slice (some ad) Ds.length c, .int .i64 a, .int .i64 m, .int .i64 b, .func (.func 105) #[] #[]] w fun e w' => e = .returned (.tuple #[]) ∧ Below w.heap.size w w' := by
 intro k
 induction k with
 | zero => intro a m b h1 h2 h3; omega
 | succ k ih =>
  intro a m b h1 h2 h3 h4 w h
  have hu97 := Try.underlying97
  have HC := asd h
  have HR := asd hr
  have IH := asd ih
  have HO := asd (And.intro h1 (And.intro h2 (And.intro h3 (And.intro h4 hl))))
  clear h hr ih
  by_cases c1 : m = a + 1
  ·have be1 : (wrap64 ((m : Int) - (a : Int)) == 1) = true := beq_iff_eq.2 (by unfold wrap64; omega)
   have be2 : (((m : Int) - (a : Int)) == 1) = true := beq_iff_eq.2 (by omega)
   have be3 : decide (wrap64 ((m : Int) - (a : Int)) = 1) = true := decide_eq_true (by unfold wrap64; omega)
   have be4 : decide (((m : Int) - (a : Int)) = 1) = true := decide_eq_true (by omega)
   have HM := asd c1
   clear c1 h1 h2 h3 h4
   go_enter Try.func144, Try.ntmps144
   go_wp2
   go_loopw [10, 11] (fun v10 v11 wr => ∃ (j : Nat), v10 = .int .i64 m ∧ v11 = .int .i64 j ∧ Aside0 (m ≤ j ∧ j ≤ b) ∧ Aside0 (Below w.heap.size w wr)) (fun _ v _ => (intOf v).toNat)
   case atStart => exact ⟨b, rfl, rfl, ⟨by clear be1 be2 be3 be4; have := HO.out; omega⟩, ⟨Below.refl _ _⟩⟩
   case round =>
    obtain ⟨j, rfl, rfl, HJ, HB⟩ := hrel
    clear be1 be2 be3 be4
    by_cases hlt : m < j
    ·obtain ⟨h1, h2, h3, h4, h5⟩ := HO.out
     have hj := HJ.out
     have hm := HM.out
     have d1 : decide ((m : Int) < (j : Int)) = true := decide_eq_true (by omega)
     have d2 : decide (m < j) = true := decide_eq_true hlt
     obtain ⟨h, hhe⟩ : ∃ h : Nat, h = (m + j) / 2 := ⟨_, rfl⟩
     have WH : Aside0 (wrap64 (IntKind.u64.wrap (wrap64 ((m : Int) + (j : Int))) / 2) = (h : Int)) := ⟨by rw [midN m j (by omega), ← hhe]⟩
     have q0h : (0 ≤ (h : Int)) = True := eq_true (by omega)
     have q1h : ((h : Int) < (Ds.length : Int)) = True := eq_true (by omega)
     have q2h : (h < Ds.length) = True := eq_true (by omega)
     have lh : h < Ds.length := by omega
     have q0a : (0 ≤ (a : Int)) = True := eq_true (by omega)
     have q1a : ((a : Int) < (Ds.length : Int)) = True := eq_true (by omega)
     have q2a : (a < Ds.length) = True := eq_true (by omega)
     have la : a < Ds.length := by omega
     have lt := HR.out a h (by omega) (by omega)
     have NE : Aside0 ((Ds.getD h z97).f0 ≠ (Ds.getD a z97).f0) := ⟨by omega⟩
     have CM : cmpI (Ds.getD h z97).f0 (Ds.getD a z97).f0 = 1 := by unfold cmpI; rw [if_neg (by omega), if_pos (by omega)]
     have HH : Aside0 (m ≤ h ∧ h ≤ b ∧ h < j) := ⟨by omega⟩
     clear lt hhe hlt hj hm h1 h2 h3 h4 h5
     have CX : Aside0 (∀ wq, Below w.heap.size w wq → wq.cell? (ad.add (h * 4)) = some (.int .i64 (Ds.getD h z97).f0) ∧ wq.cell? ⟨(ad.add (h * 4)).block, (ad.add (h * 4)).off + 1, none⟩ = some (.int .i64 (Ds.getD h z97).f1) ∧ wq.cell? ⟨(ad.add (h * 4)).block, (ad.add (h * 4)).off + 2, none⟩ = some (.int .i64 (Ds.getD h z97).f2) ∧ wq.cell? ⟨(ad.add (h * 4)).block, (ad.add (h * 4)).off + 3, none⟩ = some (.int .i64 (Ds.getD h z97).f3) ∧ wq.cell? (ad.add (a * 4)) = some (.int .i64 (Ds.getD a z97).f0) ∧ wq.cell? ⟨(ad.add (a * 4)).block, (ad.add (a * 4)).off + 1, none⟩ = some (.int .i64 (Ds.getD a z97).f1) ∧ wq.cell? ⟨(ad.add (a * 4)).block, (ad.add (a * 4)).off + 2, none⟩ = some (.int .i64 (Ds.getD a z97).f2) ∧ wq.cell? ⟨(ad.add (a * 4)).block, (ad.add (a * 4)).off + 3, none⟩ = some (.int .i64 (Ds.getD a z97).f3)) := ⟨fun wq hq => cells2 (cellsG (Kd.C_below HC.out hq) h lh) (cellsG (Kd.C_below HC.out hq) a la)⟩
     generalize Ds.getD h z97 = x at CX NE CM
     generalize Ds.getD a z97 = y at CX NE CM
     have wh := WH.out
     go_wp2_with fail
     try rw [wh]
     refine start_ (n := 11) (S := fun w' => w'.cell? (ad.add (h * 4)) = some (.int .i64 x.f0) ∧ w'.cell? ⟨(ad.add (h * 4)).block, (ad.add (h * 4)).off + 1, none⟩ = some (.int .i64 x.f1) ∧ w'.cell? ⟨(ad.add (h * 4)).block, (ad.add (h * 4)).off + 2, none⟩ = some (.int .i64 x.f2) ∧ w'.cell? ⟨(ad.add (h * 4)).block, (ad.add (h * 4)).off + 3, none⟩ = some (.int .i64 x.f3) ∧ w'.cell? (ad.add (a * 4)) = some (.int .i64 y.f0) ∧ w'.cell? ⟨(ad.add (a * 4)).block, (ad.add (a * 4)).off + 1, none⟩ = some (.int .i64 y.f1) ∧ w'.cell? ⟨(ad.add (a * 4)).block, (ad.add (a * 4)).off + 2, none⟩ = some (.int .i64 y.f2) ∧ w'.cell? ⟨(ad.add (a * 4)).block, (ad.add (a * 4)).off + 3, none⟩ = some (.int .i64 y.f3)) (ds := [9]) #[false, false, false, false, false, false, false, false, false, false, false] (by kernel_rfl) rfl rfl (CX.out _ (below_drew HB.out)) (fun hHeld => ?_); refine with_tabW gsy5_tab gsy5_bits (fun HT_ HW_ => ?_)
     have HBd := asd (below_drew HB.out)
     generalize wr.drew = wd at HBd hHeld ⊢
     refine pure_ (i := 0) (N := (some 40)) (v := ?_) (a' := ?_) #[true, false, false, false, false, false, false, false, false, false, false] rfl rfl (any_of HT_.out (by kernel_rfl)) (fun _ _ _ h => h) (Or.inl ⟨by rfl, ?_⟩) ?_ ?_
     rotate_left
     ·intro w'
      go_simp
      with_reducible rfl
     rotate_left
     ·simp only [Act.put, sB, i64_w, i32_w]
      rfl
     refine pure_ (i := 1) (N := (some 41)) (v := ?_) (a' := ?_) #[true, true, false, false, false, false, false, false, false, false, false] rfl rfl (any_of HT_.out (by kernel_rfl)) (fun _ _ _ h => h) (Or.inl ⟨by rfl, ?_⟩) ?_ ?_
     rotate_left
     ·intro w'
      go_simp
      with_reducible rfl
     rotate_left
     ·simp only [Act.put, sB, i64_w, i32_w]
      rfl
     refine pure_ (i := 2) (N := (some 42)) (v := ?_) (a' := ?_) #[true, true, true, false, false, false, false, false, false, false, false] rfl rfl (any_of HT_.out (by kernel_rfl)) (fun _ _ _ h => h) (Or.inl ⟨by rfl, ?_⟩) ?_ ?_
     rotate_left
     ·intro w'
      go_simp
      with_reducible rfl
     rotate_left
     ·simp only [Act.put, sB, i64_w, i32_w]
      rfl
     refine pure_ (i := 5) (N := (some 45)) (v := ?_) (a' := ?_) #[true, true, true, false, false, true, false, false, false, false, false] rfl rfl (any_of HT_.out (by kernel_rfl)) (fun _ _ _ h => h) (Or.inl ⟨by rfl, ?_⟩) ?_ ?_
     rotate_left
     ·intro w'
      go_simp
      with_reducible rfl
     rotate_left
     ·simp only [Act.put, sB, i64_w, i32_w]
      rfl
     refine pure_ (i := 6) (N := (some 46)) (v := ?_) (a' := ?_) #[true, true, true, false, false, true, true, false, false, false, false] rfl rfl (any_of HT_.out (by kernel_rfl)) (fun _ _ _ h => h) (Or.inl ⟨by rfl, ?_⟩) ?_ ?_
     rotate_left
     ·intro w'
      go_simp
      with_reducible rfl
     rotate_left
     ·simp only [Act.put, sB, i64_w, i32_w]
      rfl
     refine pure_ (i := 3) (N := (some 43)) (v := ?_) (a' := ?_) #[true, true, true, true, false, true, true, false, false, false, false] rfl rfl (any_of HT_.out (by kernel_rfl)) (fun _ _ _ h => h) (Or.inl ⟨by rfl, ?_⟩) ?_ ?_
     rotate_left
     ·intro w'
      go_simp
      with_reducible rfl
     rotate_left
     ·simp only [Act.put, sB, i64_w, i32_w]
      rfl
     refine take_ (i := 4) (N := (some 44)) (v := ?_) (a' := ?_) #[true, true, true, true, true, true, true, false, false, false, false] rfl rfl (take_ofW HT_.out HW_.out (by kernel_rfl)) (fun _ _ _ h => h) (Or.inl ⟨by rfl, ?_⟩) hHeld ?_ ?_
     rotate_left
     ·rintro w' ⟨s0, s1, s2, s3, s4, s5, s6, s7⟩
      go_simp
      with_reducible rfl
     rotate_left
     ·simp only [Act.put, sB, i64_w, i32_w]
      rfl
     refine pure_ (i := 7) (N := (some 47)) (v := ?_) (a' := ?_) #[true, true, true, true, true, true, true, true, false, false, false] rfl rfl (any_of HT_.out (by kernel_rfl)) (fun _ _ _ h => h) (Or.inl ⟨by rfl, ?_⟩) ?_ ?_
     rotate_left
     ·intro w'
      go_simp
      with_reducible rfl
     rotate_left
     ·simp only [Act.put, sB, i64_w, i32_w]
      rfl
     refine take_ (i := 8) (N := (some 48)) (v := ?_) (a' := ?_) #[true, true, true, true, true, true, true, true, true, false, false] rfl rfl (take_ofW HT_.out HW_.out (by kernel_rfl)) (fun _ _ _ h => h) (Or.inl ⟨by rfl, ?_⟩) hHeld ?_ ?_
     rotate_left
     ·rintro w' ⟨s0, s1, s2, s3, s4, s5, s6, s7⟩
      go_simp
      with_reducible rfl
     rotate_left
     ·simp only [Act.put, sB, i64_w, i32_w]
      rfl
     refine last_ (i := 9) (N := (some 49)) #[true, true, true, true, true, true, true, true, true, true, false] rfl rfl (one_of HT_.out (by kernel_rfl)) (by decide) (fun K hK => ?_)
     refine goesV_ (.tmp 40) Try.func105 (by kernel_rfl) rfl #[.agg #[.int .i64 x.f0, .int .i64 x.f1, .int .i64 x.f2, .int .i64 x.f3], .agg #[.int .i64 y.f0, .int .i64 y.f1, .int .i64 y.f2, .int .i64 y.f3]] (by rfl) rfl rfl rfl (by simp [Act.eval]) ?_
     refine (gorder_calls x y wd NE.out).mono ?_
     rintro e we ⟨rfl, hb⟩
     have HBe := asd (below_step HBd.out hb)
     clear hb
     rw [CM]
     refine ⟨_, rfl, ?_⟩
     refine hK.out _ _ ?_
     clear hK K
     refine norm_ (a' := ?_) ?_ ?_
     rotate_left
     ·show Act.put _ (some 49) _ = _
      simp only [Act.put, sB, i64_w, i32_w]
      rfl
     refine pure_ (i := 10) (N := (some 50)) (v := ?_) (a' := ?_) #[true, true, true, true, true, true, true, true, true, true, true] rfl rfl (any_of HT_.out (by kernel_rfl)) (fun _ _ _ h => h) (Or.inl ⟨by rfl, ?_⟩) ?_ ?_
     rotate_left
     ·intro w'
      go_simp
      with_reducible rfl
     rotate_left
     ·simp only [Act.put, sB, i64_w, i32_w]
      rfl
     refine done_ (done_of HT_.out (by kernel_rfl)) ?_
     try go_wp2
     go_roundw
     case rel => exact ⟨h, rfl, rfl, ⟨by have := HH.out; omega⟩, HBe⟩
     case measure => exact HH.out.2.2
    ·have e : j = m := by have := HJ.out; omega
     subst e
     have d1 : decide ((j : Int) < (j : Int)) = false := decide_eq_false (by omega)
     have d2 : decide (j < j) = false := decide_eq_false hlt
     have d4 : (j < j) = False := eq_false hlt
     have WJ := asd (wSub1 j a (by have := HM.out; omega) (by have := HO.out; omega))
     have d3 : decide ((a : Int) < (a : Int)) = false := decide_eq_false (by omega)
     have d5 : decide (a < a) = false := decide_eq_false (by omega)
     have d6 : (a < a) = False := eq_false (by omega)
     have wj := WJ.out
     clear hlt
     go_wp2
     refine wp_loop_rounds 1 ?_
     rw [rounds_succ]
     go_wp2
     refine bodyPost_ret (results_none rfl _ _ _) rfl ?_
     exact ⟨rfl, HB.out⟩
  ·have beW : Aside0 (wrap64 ((m : Int) - (a : Int)) ≠ 1) := ⟨by rw [wSub m a (m - a) (by omega) (by omega)]; omega⟩
   have beV : Aside0 ((m : Int) - (a : Int) ≠ 1) := ⟨by omega⟩
   by_cases c2 : b = m + 1
   ·have bfW : Aside0 (wrap64 ((b : Int) - (m : Int)) = 1) := ⟨by rw [wSub b m (b - m) (by omega) (by omega)]; omega⟩
    have bfV : Aside0 ((b : Int) - (m : Int) = 1) := ⟨by omega⟩
    have HM := asd c2
    clear c1 c2 h1 h2 h3 h4
    have be1 : (wrap64 ((m : Int) - (a : Int)) == 1) = false := beq_eq_false_iff_ne.2 beW.out
    have be2 : (((m : Int) - (a : Int)) == 1) = false := beq_eq_false_iff_ne.2 beV.out
    have be3 : decide (wrap64 ((m : Int) - (a : Int)) = 1) = false := decide_eq_false beW.out
    have be4 : decide (((m : Int) - (a : Int)) = 1) = false := decide_eq_false beV.out
    have bf1 : (wrap64 ((b : Int) - (m : Int)) == 1) = true := beq_iff_eq.2 bfW.out
    have bf2 : (((b : Int) - (m : Int)) == 1) = true := beq_iff_eq.2 bfV.out
    have bf3 : decide (wrap64 ((b : Int) - (m : Int)) = 1) = true := decide_eq_true bfW.out
    have bf4 : decide (((b : Int) - (m : Int)) = 1) = true := decide_eq_true bfV.out
    go_enter Try.func144, Try.ntmps144
    go_wp2
    go_loopw [14, 15] (fun v14 v15 wr => ∃ (i : Nat), v14 = .int .i64 i ∧ v15 = .int .i64 m ∧ Aside0 (a ≤ i ∧ i ≤ m) ∧ Aside0 (Below w.heap.size w wr)) (fun v _ _ => m - (intOf v).toNat)
    case atStart => exact ⟨a, rfl, rfl, ⟨by clear be1 be2 be3 be4 bf1 bf2 bf3 bf4; have := HO.out; omega⟩, ⟨Below.refl _ _⟩⟩
    case round =>
     obtain ⟨i, rfl, rfl, HJ, HB⟩ := hrel
     clear be1 be2 be3 be4 bf1 bf2 bf3 bf4
     by_cases hlt : i < m
     ·obtain ⟨h1, h2, h3, h4, h5⟩ := HO.out
      have hj := HJ.out
      have hm := HM.out
      have d1 : decide ((i : Int) < (m : Int)) = true := decide_eq_true (by omega)
      have d2 : decide (i < m) = true := decide_eq_true hlt
      obtain ⟨h, hhe⟩ : ∃ h : Nat, h = (i + m) / 2 := ⟨_, rfl⟩
      have WH : Aside0 (wrap64 (IntKind.u64.wrap (wrap64 ((i : Int) + (m : Int))) / 2) = (h : Int)) := ⟨by rw [midN i m (by omega), ← hhe]⟩
      have q0h : (0 ≤ (h : Int)) = True := eq_true (by omega)
      have q1h : ((h : Int) < (Ds.length : Int)) = True := eq_true (by omega)
      have q2h : (h < Ds.length) = True := eq_true (by omega)
      have lh : h < Ds.length := by omega
      have q0m : (0 ≤ (m : Int)) = True := eq_true (by omega)
      have q1m : ((m : Int) < (Ds.length : Int)) = True := eq_true (by omega)
      have q2m : (m < Ds.length) = True := eq_true (by omega)
      have lm : m < Ds.length := by omega
      have lt := HR.out h m (by omega) (by omega)
      have NE : Aside0 ((Ds.getD m z97).f0 ≠ (Ds.getD h z97).f0) := ⟨by omega⟩
      have CM : cmpI (Ds.getD m z97).f0 (Ds.getD h z97).f0 = 1 := by unfold cmpI; rw [if_neg (by omega), if_pos (by omega)]
      have WH1 := asd (wAdd1 h (by omega))
      have HH : Aside0 (a ≤ h + 1 ∧ h + 1 ≤ m ∧ i < h + 1 ∧ i < m) := ⟨by omega⟩
      clear lt hhe hlt hj hm h1 h2 h3 h4 h5
      have CX : Aside0 (∀ wq, Below w.heap.size w wq → wq.cell? (ad.add (m * 4)) = some (.int .i64 (Ds.getD m z97).f0) ∧ wq.cell? ⟨(ad.add (m * 4)).block, (ad.add (m * 4)).off + 1, none⟩ = some (.int .i64 (Ds.getD m z97).f1) ∧ wq.cell? ⟨(ad.add (m * 4)).block, (ad.add (m * 4)).off + 2, none⟩ = some (.int .i64 (Ds.getD m z97).f2) ∧ wq.cell? ⟨(ad.add (m * 4)).block, (ad.add (m * 4)).off + 3, none⟩ = some (.int .i64 (Ds.getD m z97).f3) ∧ wq.cell? (ad.add (h * 4)) = some (.int .i64 (Ds.getD h z97).f0) ∧ wq.cell? ⟨(ad.add (h * 4)).block, (ad.add (h * 4)).off + 1, none⟩ = some (.int .i64 (Ds.getD h z97).f1) ∧ wq.cell? ⟨(ad.add (h * 4)).block, (ad.add (h * 4)).off + 2, none⟩ = some (.int .i64 (Ds.getD h z97).f2) ∧ wq.cell? ⟨(ad.add (h * 4)).block, (ad.add (h * 4)).off + 3, none⟩ = some (.int .i64 (Ds.getD h z97).f3)) := ⟨fun wq hq => cells2 (cellsG (Kd.C_below HC.out hq) m lm) (cellsG (Kd.C_below HC.out hq) h lh)⟩
      generalize Ds.getD m z97 = x at CX NE CM
      generalize Ds.getD h z97 = y at CX NE CM
      have wh := WH.out
      have wh1 := WH1.out
      go_wp2_with fail
      try rw [wh]
      refine start_ (n := 12) (S := fun w' => w'.cell? (ad.add (m * 4)) = some (.int .i64 x.f0) ∧ w'.cell? ⟨(ad.add (m * 4)).block, (ad.add (m * 4)).off + 1, none⟩ = some (.int .i64 x.f1) ∧ w'.cell? ⟨(ad.add (m * 4)).block, (ad.add (m * 4)).off + 2, none⟩ = some (.int .i64 x.f2) ∧ w'.cell? ⟨(ad.add (m * 4)).block, (ad.add (m * 4)).off + 3, none⟩ = some (.int .i64 x.f3) ∧ w'.cell? (ad.add (h * 4)) = some (.int .i64 y.f0) ∧ w'.cell? ⟨(ad.add (h * 4)).block, (ad.add (h * 4)).off + 1, none⟩ = some (.int .i64 y.f1) ∧ w'.cell? ⟨(ad.add (h * 4)).block, (ad.add (h * 4)).off + 2, none⟩ = some (.int .i64 y.f2) ∧ w'.cell? ⟨(ad.add (h * 4)).block, (ad.add (h * 4)).off + 3, none⟩ = some (.int .i64 y.f3)) (ds := [9]) #[false, false, false, false, false, false, false, false, false, false, false, false] (by kernel_rfl) rfl rfl (CX.out _ (below_drew HB.out)) (fun hHeld => ?_); refine with_tabW gsy17_tab gsy17_bits (fun HT_ HW_ => ?_)
      have HBd := asd (below_drew HB.out)
      generalize wr.drew = wd at HBd hHeld ⊢
      refine pure_ (i := 0) (N := (some 92)) (v := ?_) (a' := ?_) #[true, false, false, false, false, false, false, false, false, false, false, false] rfl rfl (any_of HT_.out (by kernel_rfl)) (fun _ _ _ h => h) (Or.inl ⟨by rfl, ?_⟩) ?_ ?_
      rotate_left
      ·intro w'
       go_simp
       with_reducible rfl
      rotate_left
      ·simp only [Act.put, sB, i64_w, i32_w]
       rfl
      refine pure_ (i := 1) (N := (some 93)) (v := ?_) (a' := ?_) #[true, true, false, false, false, false, false, false, false, false, false, false] rfl rfl (any_of HT_.out (by kernel_rfl)) (fun _ _ _ h => h) (Or.inl ⟨by rfl, ?_⟩) ?_ ?_
      rotate_left
      ·intro w'
       go_simp
       with_reducible rfl
      rotate_left
      ·simp only [Act.put, sB, i64_w, i32_w]
       rfl
      refine pure_ (i := 2) (N := (some 94)) (v := ?_) (a' := ?_) #[true, true, true, false, false, false, false, false, false, false, false, false] rfl rfl (any_of HT_.out (by kernel_rfl)) (fun _ _ _ h => h) (Or.inl ⟨by rfl, ?_⟩) ?_ ?_
      rotate_left
      ·intro w'
       go_simp
       with_reducible rfl
      rotate_left
      ·simp only [Act.put, sB, i64_w, i32_w]
       rfl
      refine pure_ (i := 5) (N := (some 97)) (v := ?_) (a' := ?_) #[true, true, true, false, false, true, false, false, false, false, false, false] rfl rfl (any_of HT_.out (by kernel_rfl)) (fun _ _ _ h => h) (Or.inl ⟨by rfl, ?_⟩) ?_ ?_
      rotate_left
      ·intro w'
       go_simp
       with_reducible rfl
      rotate_left
      ·simp only [Act.put, sB, i64_w, i32_w]
       rfl
      refine pure_ (i := 6) (N := (some 98)) (v := ?_) (a' := ?_) #[true, true, true, false, false, true, true, false, false, false, false, false] rfl rfl (any_of HT_.out (by kernel_rfl)) (fun _ _ _ h => h) (Or.inl ⟨by rfl, ?_⟩) ?_ ?_
      rotate_left
      ·intro w'
       go_simp
       with_reducible rfl
      rotate_left
      ·simp only [Act.put, sB, i64_w, i32_w]
       rfl
      refine pure_ (i := 3) (N := (some 95)) (v := ?_) (a' := ?_) #[true, true, true, true, false, true, true, false, false, false, false, false] rfl rfl (any_of HT_.out (by kernel_rfl)) (fun _ _ _ h => h) (Or.inl ⟨by rfl, ?_⟩) ?_ ?_
      rotate_left
      ·intro w'
       go_simp
       with_reducible rfl
      rotate_left
      ·simp only [Act.put, sB, i64_w, i32_w]
       rfl
      refine take_ (i := 4) (N := (some 96)) (v := ?_) (a' := ?_) #[true, true, true, true, true, true, true, false, false, false, false, false] rfl rfl (take_ofW HT_.out HW_.out (by kernel_rfl)) (fun _ _ _ h => h) (Or.inl ⟨by rfl, ?_⟩) hHeld ?_ ?_
      rotate_left
      ·rintro w' ⟨s0, s1, s2, s3, s4, s5, s6, s7⟩
       go_simp
       with_reducible rfl
      rotate_left
      ·simp only [Act.put, sB, i64_w, i32_w]
       rfl
      refine pure_ (i := 7) (N := (some 99)) (v := ?_) (a' := ?_) #[true, true, true, true, true, true, true, true, false, false, false, false] rfl rfl (any_of HT_.out (by kernel_rfl)) (fun _ _ _ h => h) (Or.inl ⟨by rfl, ?_⟩) ?_ ?_
      rotate_left
      ·intro w'
       go_simp
       with_reducible rfl
      rotate_left
      ·simp only [Act.put, sB, i64_w, i32_w]
       rfl
      refine take_ (i := 8) (N := (some 100)) (v := ?_) (a' := ?_) #[true, true, true, true, true, true, true, true, true, false, false, false] rfl rfl (take_ofW HT_.out HW_.out (by kernel_rfl)) (fun _ _ _ h => h) (Or.inl ⟨by rfl, ?_⟩) hHeld ?_ ?_
      rotate_left
      ·rintro w' ⟨s0, s1, s2, s3, s4, s5, s6, s7⟩
       go_simp
       with_reducible rfl
      rotate_left
      ·simp only [Act.put, sB, i64_w, i32_w]
       rfl
      refine last_ (i := 9) (N := (some 101)) #[true, true, true, true, true, true, true, true, true, true, false, false] rfl rfl (one_of HT_.out (by kernel_rfl)) (by decide) (fun K hK => ?_)
      refine goesV_ (.tmp 92) Try.func105 (by kernel_rfl) rfl #[.agg #[.int .i64 x.f0, .int .i64 x.f1, .int .i64 x.f2, .int .i64 x.f3], .agg #[.int .i64 y.f0, .int .i64 y.f1, .int .i64 y.f2, .int .i64 y.f3]] (by rfl) rfl rfl rfl (by simp [Act.eval]) ?_
      refine (gorder_calls x y wd NE.out).mono ?_
      rintro e we ⟨rfl, hb⟩
      have HBe := asd (below_step HBd.out hb)
      clear hb
      rw [CM]
      refine ⟨_, rfl, ?_⟩
      refine hK.out _ _ ?_
      clear hK K
      refine norm_ (a' := ?_) ?_ ?_
      rotate_left
      ·show Act.put _ (some 101) _ = _
       simp only [Act.put, sB, i64_w, i32_w]
       rfl
      refine pure_ (i := 10) (N := (some 102)) (v := ?_) (a' := ?_) #[true, true, true, true, true, true, true, true, true, true, true, false] rfl rfl (any_of HT_.out (by kernel_rfl)) (fun _ _ _ h => h) (Or.inl ⟨by rfl, ?_⟩) ?_ ?_
      rotate_left
      ·intro w'
       go_simp
       with_reducible rfl
      rotate_left
      ·simp only [Act.put, sB, i64_w, i32_w]
       rfl
      refine pure_ (i := 11) (N := (some 103)) (v := ?_) (a' := ?_) #[true, true, true, true, true, true, true, true, true, true, true, true] rfl rfl (any_of HT_.out (by kernel_rfl)) (fun _ _ _ h => h) (Or.inl ⟨by rfl, ?_⟩) ?_ ?_
      rotate_left
      ·intro w'
       go_simp
       with_reducible rfl
      rotate_left
      ·simp only [Act.put, sB, i64_w, i32_w]
       rfl
      refine done_ (done_of HT_.out (by kernel_rfl)) ?_
      try go_wp2
      go_roundw
      case rel => exact ⟨h + 1, by first | (rw [wh1]) | rfl, rfl, ⟨by have := HH.out; omega⟩, HBe⟩
      case measure => first | (rw [wh1]; exact Nat.sub_lt_sub_left HH.out.2.2.2 HH.out.2.2.1) | exact Nat.sub_lt_sub_left HH.out.2.2.2 HH.out.2.2.1
     ·have e : i = m := by have := HJ.out; omega
      subst e
      have d1 : decide ((i : Int) < (i : Int)) = false := decide_eq_false (by omega)
      have d2 : decide (i < i) = false := decide_eq_false hlt
      have d4 : (i < i) = False := eq_false hlt
      clear hlt
      go_wp2
      refine wp_loop_rounds 1 ?_
      rw [rounds_succ]
      go_wp2
      refine bodyPost_ret (results_none rfl _ _ _) rfl ?_
      exact ⟨rfl, HB.out⟩
   ·have bfW : Aside0 (wrap64 ((b : Int) - (m : Int)) ≠ 1) := ⟨by rw [wSub b m (b - m) (by omega) (by omega)]; omega⟩
    have bfV : Aside0 ((b : Int) - (m : Int) ≠ 1) := ⟨by omega⟩
    obtain ⟨d, hde⟩ : ∃ d : Nat, d = (a + b) / 2 := ⟨_, rfl⟩
    have WD : Aside0 (wrap64 (IntKind.u64.wrap (wrap64 ((a : Int) + (b : Int))) / 2) = (d : Int)) := ⟨by rw [midN a b (by omega), ← hde]⟩
    obtain ⟨n, hn⟩ : ∃ n : Nat, n = d + m := ⟨_, rfl⟩
    have WN := asd (wAdd d m n hn.symm (by omega))
    obtain ⟨p, hp⟩ : ∃ p : Nat, p + 1 = n := ⟨n - 1, by omega⟩
    have WP := asd (wSub1 n p hp (by omega))
    by_cases hbig : d < m
    ·have dbig1 : decide ((m : Int) > (d : Int)) = true := decide_eq_true (by omega)
     have dbig2 : decide ((d : Int) < (m : Int)) = true := dbig1
     have dbig3 : decide (d < m) = true := decide_eq_true (by omega)
     obtain ⟨lo, hlo⟩ : ∃ lo : Nat, lo + b = d + m := ⟨d + m - b, by omega⟩
     have WLO := asd (wSub n b lo (by omega) (by omega))
     have HD : Aside0 (d = (a + b) / 2 ∧ n = d + m ∧ p + 1 = n ∧ lo + b = d + m ∧ d < m) := ⟨by omega⟩
     clear c1 c2 hde hn hp hbig hlo h1 h2 h3 h4
     have be1 : (wrap64 ((m : Int) - (a : Int)) == 1) = false := beq_eq_false_iff_ne.2 beW.out
     have be2 : (((m : Int) - (a : Int)) == 1) = false := beq_eq_false_iff_ne.2 beV.out
     have be3 : decide (wrap64 ((m : Int) - (a : Int)) = 1) = false := decide_eq_false beW.out
     have be4 : decide (((m : Int) - (a : Int)) = 1) = false := decide_eq_false beV.out
     have bf1 : (wrap64 ((b : Int) - (m : Int)) == 1) = false := beq_eq_false_iff_ne.2 bfW.out
     have bf2 : (((b : Int) - (m : Int)) == 1) = false := beq_eq_false_iff_ne.2 bfV.out
     have bf3 : decide (wrap64 ((b : Int) - (m : Int)) = 1) = false := decide_eq_false bfW.out
     have bf4 : decide (((b : Int) - (m : Int)) = 1) = false := decide_eq_false bfV.out
     have wd := WD.out
     have wn := WN.out
     have wp := WP.out
     have wlo := WLO.out
     go_enter Try.func144, Try.ntmps144
     go_wp2
     try rw [wd]
     try rw [wn]
     try rw [wp]
     try rw [wlo]
     go_loopw [20, 21] (fun v20 v21 wr => ∃ (i : Nat), v20 = .int .i64 i ∧ v21 = .int .i64 d ∧ Aside0 (lo ≤ i ∧ i ≤ d) ∧ Aside0 (Below w.heap.size w wr)) (fun v _ _ => d - (intOf v).toNat)
     case atStart => exact ⟨lo, rfl, rfl, ⟨by clear be1 be2 be3 be4 bf1 bf2 bf3 bf4 wd wn wp wlo; have := HO.out; have := HD.out; omega⟩, ⟨Below.refl _ _⟩⟩
     case round =>
      obtain ⟨i, rfl, rfl, HJ, HB⟩ := hrel
      clear be1 be2 be3 be4 bf1 bf2 bf3 bf4 wd wn wp wlo
      by_cases hlt : i < d
      ·obtain ⟨h1, h2, h3, h4, h5⟩ := HO.out
       have hj := HJ.out
       have hd := HD.out
       have d1 : decide ((i : Int) < (d : Int)) = true := decide_eq_true (by omega)
       have d2 : decide (i < d) = true := decide_eq_true hlt
       obtain ⟨h, hhe⟩ : ∃ h : Nat, h = (i + d) / 2 := ⟨_, rfl⟩
       have WH : Aside0 (wrap64 (IntKind.u64.wrap (wrap64 ((i : Int) + (d : Int))) / 2) = (h : Int)) := ⟨by rw [midN i d (by omega), ← hhe]⟩
       obtain ⟨q, hq⟩ : ∃ q : Nat, q + h = p := ⟨p - h, by omega⟩
       have WQ := asd (wSub p h q hq (by omega))
       have q0h : (0 ≤ (h : Int)) = True := eq_true (by omega)
       have q1h : ((h : Int) < (Ds.length : Int)) = True := eq_true (by omega)
       have q2h : (h < Ds.length) = True := eq_true (by omega)
       have lh : h < Ds.length := by omega
       have q0q : (0 ≤ (q : Int)) = True := eq_true (by omega)
       have q1q : ((q : Int) < (Ds.length : Int)) = True := eq_true (by omega)
       have q2q : (q < Ds.length) = True := eq_true (by omega)
       have lq : q < Ds.length := by omega
       have lt := HR.out h q (by omega) (by omega)
       have NE : Aside0 ((Ds.getD q z97).f0 ≠ (Ds.getD h z97).f0) := ⟨by omega⟩
       have CM : cmpI (Ds.getD q z97).f0 (Ds.getD h z97).f0 = 1 := by unfold cmpI; rw [if_neg (by omega), if_pos (by omega)]
       have WH1 := asd (wAdd1 h (by omega))
       have HH : Aside0 (lo ≤ h + 1 ∧ h + 1 ≤ d ∧ i < h + 1 ∧ i < d) := ⟨by omega⟩
       clear lt hhe hlt hj hd hq h1 h2 h3 h4 h5
       have CX : Aside0 (∀ wq, Below w.heap.size w wq → wq.cell? (ad.add (q * 4)) = some (.int .i64 (Ds.getD q z97).f0) ∧ wq.cell? ⟨(ad.add (q * 4)).block, (ad.add (q * 4)).off + 1, none⟩ = some (.int .i64 (Ds.getD q z97).f1) ∧ wq.cell? ⟨(ad.add (q * 4)).block, (ad.add (q * 4)).off + 2, none⟩ = some (.int .i64 (Ds.getD q z97).f2) ∧ wq.cell? ⟨(ad.add (q * 4)).block, (ad.add (q * 4)).off + 3, none⟩ = some (.int .i64 (Ds.getD q z97).f3) ∧ wq.cell? (ad.add (h * 4)) = some (.int .i64 (Ds.getD h z97).f0) ∧ wq.cell? ⟨(ad.add (h * 4)).block, (ad.add (h * 4)).off + 1, none⟩ = some (.int .i64 (Ds.getD h z97).f1) ∧ wq.cell? ⟨(ad.add (h * 4)).block, (ad.add (h * 4)).off + 2, none⟩ = some (.int .i64 (Ds.getD h z97).f2) ∧ wq.cell? ⟨(ad.add (h * 4)).block, (ad.add (h * 4)).off + 3, none⟩ = some (.int .i64 (Ds.getD h z97).f3)) := ⟨fun wq hq => cells2 (cellsG (Kd.C_below HC.out hq) q lq) (cellsG (Kd.C_below HC.out hq) h lh)⟩
       generalize Ds.getD q z97 = x at CX NE CM
       generalize Ds.getD h z97 = y at CX NE CM
       have wh := WH.out
       have wh1 := WH1.out
       have wq := WQ.out
       go_wp2_with fail
       try rw [wh]
       refine start_ (n := 14) (S := fun w' => w'.cell? (ad.add (q * 4)) = some (.int .i64 x.f0) ∧ w'.cell? ⟨(ad.add (q * 4)).block, (ad.add (q * 4)).off + 1, none⟩ = some (.int .i64 x.f1) ∧ w'.cell? ⟨(ad.add (q * 4)).block, (ad.add (q * 4)).off + 2, none⟩ = some (.int .i64 x.f2) ∧ w'.cell? ⟨(ad.add (q * 4)).block, (ad.add (q * 4)).off + 3, none⟩ = some (.int .i64 x.f3) ∧ w'.cell? (ad.add (h * 4)) = some (.int .i64 y.f0) ∧ w'.cell? ⟨(ad.add (h * 4)).block, (ad.add (h * 4)).off + 1, none⟩ = some (.int .i64 y.f1) ∧ w'.cell? ⟨(ad.add (h * 4)).block, (ad.add (h * 4)).off + 2, none⟩ = some (.int .i64 y.f2) ∧ w'.cell? ⟨(ad.add (h * 4)).block, (ad.add (h * 4)).off + 3, none⟩ = some (.int .i64 y.f3)) (ds := [11]) #[false, false, false, false, false, false, false, false, false, false, false, false, false, false] (by kernel_rfl) rfl rfl (CX.out _ (below_drew HB.out)) (fun hHeld => ?_); refine with_tabW gsy35_tab gsy35_bits (fun HT_ HW_ => ?_)
       have HBd := asd (below_drew HB.out)
       generalize wr.drew = wd at HBd hHeld ⊢
       refine pure_ (i := 0) (N := (some 158)) (v := ?_) (a' := ?_) #[true, false, false, false, false, false, false, false, false, false, false, false, false, false] rfl rfl (any_of HT_.out (by kernel_rfl)) (fun _ _ _ h => h) (Or.inl ⟨by rfl, ?_⟩) ?_ ?_
       rotate_left
       ·intro w'
        go_simp
        with_reducible rfl
       rotate_left
       ·simp only [Act.put, sB, i64_w, i32_w]
        rfl
       refine pure_ (i := 1) (N := (some 159)) (v := ?_) (a' := ?_) #[true, true, false, false, false, false, false, false, false, false, false, false, false, false] rfl rfl (any_of HT_.out (by kernel_rfl)) (fun _ _ _ h => h) (Or.inl ⟨by rfl, ?_⟩) ?_ ?_
       rotate_left
       ·intro w'
        go_simp
        with_reducible rfl
       rotate_left
       ·simp only [Act.put, sB, i64_w, i32_w]
        rfl
       refine pure_ (i := 2) (N := (some 160)) (v := ?_) (a' := ?_) #[true, true, true, false, false, false, false, false, false, false, false, false, false, false] rfl rfl (any_of HT_.out (by kernel_rfl)) (fun _ _ _ h => h) (Or.inl ⟨by rfl, ?_⟩) ?_ ?_
       rotate_left
       ·intro w'
        go_simp
        with_reducible rfl
       rotate_left
       ·simp only [Act.put, sB, i64_w, i32_w]
        rfl
       refine pure_ (i := 3) (N := (some 161)) (v := ?_) (a' := ?_) #[true, true, true, true, false, false, false, false, false, false, false, false, false, false] rfl rfl (any_of HT_.out (by kernel_rfl)) (fun _ _ _ h => h) (Or.inl ⟨by rfl, ?_⟩) ?_ ?_
       rotate_left
       ·intro w'
        go_simp
        with_reducible rfl
       rotate_left
       ·simp only [Act.put, sB, i64_w, i32_w]
        rfl
       refine pure_ (i := 7) (N := (some 165)) (v := ?_) (a' := ?_) #[true, true, true, true, false, false, false, true, false, false, false, false, false, false] rfl rfl (any_of HT_.out (by kernel_rfl)) (fun _ _ _ h => h) (Or.inl ⟨by rfl, ?_⟩) ?_ ?_
       rotate_left
       ·intro w'
        go_simp
        with_reducible rfl
       rotate_left
       ·simp only [Act.put, sB, i64_w, i32_w]
        rfl
       refine pure_ (i := 8) (N := (some 166)) (v := ?_) (a' := ?_) #[true, true, true, true, false, false, false, true, true, false, false, false, false, false] rfl rfl (any_of HT_.out (by kernel_rfl)) (fun _ _ _ h => h) (Or.inl ⟨by rfl, ?_⟩) ?_ ?_
       rotate_left
       ·intro w'
        go_simp
        with_reducible rfl
       rotate_left
       ·simp only [Act.put, sB, i64_w, i32_w]
        rfl
       refine pure_ (i := 4) (N := (some 162)) (v := ?_) (a' := ?_) #[true, true, true, true, true, false, false, true, true, false, false, false, false, false] rfl rfl (any_of HT_.out (by kernel_rfl)) (fun _ _ _ h => h) (Or.inl ⟨by rfl, ?_⟩) ?_ ?_
       rotate_left
       ·intro w'
        go_simp
        with_reducible rfl
       rotate_left
       ·simp only [Act.put, sB, i64_w, i32_w]
        rfl
       refine pure_ (i := 5) (N := (some 163)) (v := ?_) (a' := ?_) #[true, true, true, true, true, true, false, true, true, false, false, false, false, false] rfl rfl (any_of HT_.out (by kernel_rfl)) (fun _ _ _ h => h) (Or.inl ⟨by rfl, ?_⟩) ?_ ?_
       rotate_left
       ·intro w'
        go_simp
        with_reducible rfl
       rotate_left
       ·simp only [Act.put, sB, i64_w, i32_w]
        rfl
       refine take_ (i := 6) (N := (some 164)) (v := ?_) (a' := ?_) #[true, true, true, true, true, true, true, true, true, false, false, false, false, false] rfl rfl (take_ofW HT_.out HW_.out (by kernel_rfl)) (fun _ _ _ h => h) (Or.inl ⟨by rfl, ?_⟩) hHeld ?_ ?_
       rotate_left
       ·rintro w' ⟨s0, s1, s2, s3, s4, s5, s6, s7⟩
        go_simp
        with_reducible rfl
       rotate_left
       ·simp only [Act.put, sB, i64_w, i32_w]
        rfl
       refine pure_ (i := 9) (N := (some 167)) (v := ?_) (a' := ?_) #[true, true, true, true, true, true, true, true, true, true, false, false, false, false] rfl rfl (any_of HT_.out (by kernel_rfl)) (fun _ _ _ h => h) (Or.inl ⟨by rfl, ?_⟩) ?_ ?_
       rotate_left
       ·intro w'
        go_simp
        with_reducible rfl
       rotate_left
       ·simp only [Act.put, sB, i64_w, i32_w]
        rfl
       refine take_ (i := 10) (N := (some 168)) (v := ?_) (a' := ?_) #[true, true, true, true, true, true, true, true, true, true, true, false, false, false] rfl rfl (take_ofW HT_.out HW_.out (by kernel_rfl)) (fun _ _ _ h => h) (Or.inl ⟨by rfl, ?_⟩) hHeld ?_ ?_
       rotate_left
       ·rintro w' ⟨s0, s1, s2, s3, s4, s5, s6, s7⟩
        go_simp
        with_reducible rfl
       rotate_left
       ·simp only [Act.put, sB, i64_w, i32_w]
        rfl
       refine last_ (i := 11) (N := (some 169)) #[true, true, true, true, true, true, true, true, true, true, true, true, false, false] rfl rfl (one_of HT_.out (by kernel_rfl)) (by decide) (fun K hK => ?_)
       refine goesV_ (.tmp 158) Try.func105 (by kernel_rfl) rfl #[.agg #[.int .i64 x.f0, .int .i64 x.f1, .int .i64 x.f2, .int .i64 x.f3], .agg #[.int .i64 y.f0, .int .i64 y.f1, .int .i64 y.f2, .int .i64 y.f3]] (by rfl) rfl rfl rfl (by simp [Act.eval]) ?_
       refine (gorder_calls x y wd NE.out).mono ?_
       rintro e we ⟨rfl, hb⟩
       have HBe := asd (below_step HBd.out hb)
       clear hb
       rw [CM]
       refine ⟨_, rfl, ?_⟩
       refine hK.out _ _ ?_
       clear hK K
       refine norm_ (a' := ?_) ?_ ?_
       rotate_left
       ·show Act.put _ (some 169) _ = _
        simp only [Act.put, sB, i64_w, i32_w]
        rfl
       refine pure_ (i := 12) (N := (some 170)) (v := ?_) (a' := ?_) #[true, true, true, true, true, true, true, true, true, true, true, true, true, false] rfl rfl (any_of HT_.out (by kernel_rfl)) (fun _ _ _ h => h) (Or.inl ⟨by rfl, ?_⟩) ?_ ?_
       rotate_left
       ·intro w'
        go_simp
        with_reducible rfl
       rotate_left
       ·simp only [Act.put, sB, i64_w, i32_w]
        rfl
       refine pure_ (i := 13) (N := (some 171)) (v := ?_) (a' := ?_) #[true, true, true, true, true, true, true, true, true, true, true, true, true, true] rfl rfl (any_of HT_.out (by kernel_rfl)) (fun _ _ _ h => h) (Or.inl ⟨by rfl, ?_⟩) ?_ ?_
       rotate_left
       ·intro w'
        go_simp
        with_reducible rfl
       rotate_left
       ·simp only [Act.put, sB, i64_w, i32_w]
        rfl
       refine done_ (done_of HT_.out (by kernel_rfl)) ?_
       try go_wp2
       go_roundw
       case rel => exact ⟨h + 1, by first | (rw [wh1]) | rfl, rfl, ⟨by have := HH.out; omega⟩, HBe⟩
       case measure => first | (rw [wh1]; exact Nat.sub_lt_sub_left HH.out.2.2.2 HH.out.2.2.1) | exact Nat.sub_lt_sub_left HH.out.2.2.2 HH.out.2.2.1
      ·have e0 : i = d := by have := HJ.out; omega
       obtain ⟨h1, h2, h3, h4, h5⟩ := HO.out
       have hj := HD.out
       have d1 : decide ((i : Int) < (d : Int)) = false := decide_eq_false (by omega)
       have d2 : decide (i < d) = false := decide_eq_false hlt
       have d4 : (i < d) = False := eq_false hlt
       have WE := asd (wSub n d m (by omega) (by omega))
       rw [e0]
       have t1 : decide ((d : Int) < (m : Int)) = true := decide_eq_true (by omega)
       have t2 : decide (d < m) = true := decide_eq_true (by omega)
       have t3 : decide ((m : Int) < (m : Int)) = false := decide_eq_false (by omega)
       have t4 : decide (m < m) = false := decide_eq_false (by omega)
       have t5 : (m < m) = False := eq_false (by omega)
       have t6 : decide ((d : Int) < (d : Int)) = false := decide_eq_false (by omega)
       have t7 : decide (d < d) = false := decide_eq_false (by omega)
       have t8 : (d < d) = False := eq_false (by omega)
       have t9 : decide ((m : Int) < (b : Int)) = true := decide_eq_true (by omega)
       have ta : decide (m < b) = true := decide_eq_true (by omega)
       have tb : decide ((a : Int) < (d : Int)) = true := decide_eq_true (by omega)
       have tc : decide (a < d) = true := decide_eq_true (by omega)
       have HG : Aside0 (b - d ≤ k ∧ d < m ∧ m < b ∧ b ≤ Ds.length) := ⟨by omega⟩
       have IHC := asd (IH.out d m b HG.out.1 HG.out.2.1 HG.out.2.2.1 HG.out.2.2.2 wr (Kd.C_below HC.out HB.out))
       have wend := WE.out
       clear hlt hj h1 h2 h3 h4 h5
       go_wp2_with (first | (go_at_call 144; refine IHC.out.mono ?_; rintro e w5 ⟨rfl, hb⟩; have HB5 := asd (below_step HB.out hb); clear hb))
       go_end0
       exact ⟨rfl, HB5.out⟩
    ·have dbig1 : decide ((m : Int) > (d : Int)) = false := decide_eq_false (by omega)
     have dbig2 : decide ((d : Int) < (m : Int)) = false := dbig1
     have dbig3 : decide (d < m) = false := decide_eq_false (by omega)
     have HD : Aside0 (d = (a + b) / 2 ∧ n = d + m ∧ p + 1 = n ∧ m ≤ d) := ⟨by omega⟩
     clear c1 c2 hde hn hp hbig  h1 h2 h3 h4
     have be1 : (wrap64 ((m : Int) - (a : Int)) == 1) = false := beq_eq_false_iff_ne.2 beW.out
     have be2 : (((m : Int) - (a : Int)) == 1) = false := beq_eq_false_iff_ne.2 beV.out
     have be3 : decide (wrap64 ((m : Int) - (a : Int)) = 1) = false := decide_eq_false beW.out
     have be4 : decide (((m : Int) - (a : Int)) = 1) = false := decide_eq_false beV.out
     have bf1 : (wrap64 ((b : Int) - (m : Int)) == 1) = false := beq_eq_false_iff_ne.2 bfW.out
     have bf2 : (((b : Int) - (m : Int)) == 1) = false := beq_eq_false_iff_ne.2 bfV.out
     have bf3 : decide (wrap64 ((b : Int) - (m : Int)) = 1) = false := decide_eq_false bfW.out
     have bf4 : decide (((b : Int) - (m : Int)) = 1) = false := decide_eq_false bfV.out
     have wd := WD.out
     have wn := WN.out
     have wp := WP.out
 
     go_enter Try.func144, Try.ntmps144
     go_wp2
     try rw [wd]
     try rw [wn]
     try rw [wp]
 
     go_loopw [20, 21] (fun v20 v21 wr => ∃ (i : Nat), v20 = .int .i64 i ∧ v21 = .int .i64 m ∧ Aside0 (a ≤ i ∧ i ≤ m) ∧ Aside0 (Below w.heap.size w wr)) (fun v _ _ => m - (intOf v).toNat)
     case atStart => exact ⟨a, rfl, rfl, ⟨by clear be1 be2 be3 be4 bf1 bf2 bf3 bf4 wd wn wp ; have := HO.out; have := HD.out; omega⟩, ⟨Below.refl _ _⟩⟩
     case round =>
      obtain ⟨i, rfl, rfl, HJ, HB⟩ := hrel
      clear be1 be2 be3 be4 bf1 bf2 bf3 bf4 wd wn wp 
      by_cases hlt : i < m
      ·obtain ⟨h1, h2, h3, h4, h5⟩ := HO.out
       have hj := HJ.out
       have hd := HD.out
       have d1 : decide ((i : Int) < (m : Int)) = true := decide_eq_true (by omega)
       have d2 : decide (i < m) = true := decide_eq_true hlt
       obtain ⟨h, hhe⟩ : ∃ h : Nat, h = (i + m) / 2 := ⟨_, rfl⟩
       have WH : Aside0 (wrap64 (IntKind.u64.wrap (wrap64 ((i : Int) + (m : Int))) / 2) = (h : Int)) := ⟨by rw [midN i m (by omega), ← hhe]⟩
       obtain ⟨q, hq⟩ : ∃ q : Nat, q + h = p := ⟨p - h, by omega⟩
       have WQ := asd (wSub p h q hq (by omega))
       have q0h : (0 ≤ (h : Int)) = True := eq_true (by omega)
       have q1h : ((h : Int) < (Ds.length : Int)) = True := eq_true (by omega)
       have q2h : (h < Ds.length) = True := eq_true (by omega)
       have lh : h < Ds.length := by omega
       have q0q : (0 ≤ (q : Int)) = True := eq_true (by omega)
       have q1q : ((q : Int) < (Ds.length : Int)) = True := eq_true (by omega)
       have q2q : (q < Ds.length) = True := eq_true (by omega)
       have lq : q < Ds.length := by omega
       have lt := HR.out h q (by omega) (by omega)
       have NE : Aside0 ((Ds.getD q z97).f0 ≠ (Ds.getD h z97).f0) := ⟨by omega⟩
       have CM : cmpI (Ds.getD q z97).f0 (Ds.getD h z97).f0 = 1 := by unfold cmpI; rw [if_neg (by omega), if_pos (by omega)]
       have WH1 := asd (wAdd1 h (by omega))
       have HH : Aside0 (a ≤ h + 1 ∧ h + 1 ≤ m ∧ i < h + 1 ∧ i < m) := ⟨by omega⟩
       clear lt hhe hlt hj hd hq h1 h2 h3 h4 h5
       have CX : Aside0 (∀ wq, Below w.heap.size w wq → wq.cell? (ad.add (q * 4)) = some (.int .i64 (Ds.getD q z97).f0) ∧ wq.cell? ⟨(ad.add (q * 4)).block, (ad.add (q * 4)).off + 1, none⟩ = some (.int .i64 (Ds.getD q z97).f1) ∧ wq.cell? ⟨(ad.add (q * 4)).block, (ad.add (q * 4)).off + 2, none⟩ = some (.int .i64 (Ds.getD q z97).f2) ∧ wq.cell? ⟨(ad.add (q * 4)).block, (ad.add (q * 4)).off + 3, none⟩ = some (.int .i64 (Ds.getD q z97).f3) ∧ wq.cell? (ad.add (h * 4)) = some (.int .i64 (Ds.getD h z97).f0) ∧ wq.cell? ⟨(ad.add (h * 4)).block, (ad.add (h * 4)).off + 1, none⟩ = some (.int .i64 (Ds.getD h z97).f1) ∧ wq.cell? ⟨(ad.add (h * 4)).block, (ad.add (h * 4)).off + 2, none⟩ = some (.int .i64 (Ds.getD h z97).f2) ∧ wq.cell? ⟨(ad.add (h * 4)).block, (ad.add (h * 4)).off + 3, none⟩ = some (.int .i64 (Ds.getD h z97).f3)) := ⟨fun wq hq => cells2 (cellsG (Kd.C_below HC.out hq) q lq) (cellsG (Kd.C_below HC.out hq) h lh)⟩
       generalize Ds.getD q z97 = x at CX NE CM
       generalize Ds.getD h z97 = y at CX NE CM
       have wh := WH.out
       have wh1 := WH1.out
       have wq := WQ.out
       go_wp2_with fail
       try rw [wh]
       refine start_ (n := 14) (S := fun w' => w'.cell? (ad.add (q * 4)) = some (.int .i64 x.f0) ∧ w'.cell? ⟨(ad.add (q * 4)).block, (ad.add (q * 4)).off + 1, none⟩ = some (.int .i64 x.f1) ∧ w'.cell? ⟨(ad.add (q * 4)).block, (ad.add (q * 4)).off + 2, none⟩ = some (.int .i64 x.f2) ∧ w'.cell? ⟨(ad.add (q * 4)).block, (ad.add (q * 4)).off + 3, none⟩ = some (.int .i64 x.f3) ∧ w'.cell? (ad.add (h * 4)) = some (.int .i64 y.f0) ∧ w'.cell? ⟨(ad.add (h * 4)).block, (ad.add (h * 4)).off + 1, none⟩ = some (.int .i64 y.f1) ∧ w'.cell? ⟨(ad.add (h * 4)).block, (ad.add (h * 4)).off + 2, none⟩ = some (.int .i64 y.f2) ∧ w'.cell? ⟨(ad.add (h * 4)).block, (ad.add (h * 4)).off + 3, none⟩ = some (.int .i64 y.f3)) (ds := [11]) #[false, false, false, false, false, false, false, false, false, false, false, false, false, false] (by kernel_rfl) rfl rfl (CX.out _ (below_drew HB.out)) (fun hHeld => ?_); refine with_tabW gsy35_tab gsy35_bits (fun HT_ HW_ => ?_)
       have HBd := asd (below_drew HB.out)
       generalize wr.drew = wd at HBd hHeld ⊢
       refine pure_ (i := 0) (N := (some 158)) (v := ?_) (a' := ?_) #[true, false, false, false, false, false, false, false, false, false, false, false, false, false] rfl rfl (any_of HT_.out (by kernel_rfl)) (fun _ _ _ h => h) (Or.inl ⟨by rfl, ?_⟩) ?_ ?_
       rotate_left
       ·intro w'
        go_simp
        with_reducible rfl
       rotate_left
       ·simp only [Act.put, sB, i64_w, i32_w]
        rfl
       refine pure_ (i := 1) (N := (some 159)) (v := ?_) (a' := ?_) #[true, true, false, false, false, false, false, false, false, false, false, false, false, false] rfl rfl (any_of HT_.out (by kernel_rfl)) (fun _ _ _ h => h) (Or.inl ⟨by rfl, ?_⟩) ?_ ?_
       rotate_left
       ·intro w'
        go_simp
        with_reducible rfl
       rotate_left
       ·simp only [Act.put, sB, i64_w, i32_w]
        rfl
       refine pure_ (i := 2) (N := (some 160)) (v := ?_) (a' := ?_) #[true, true, true, false, false, false, false, false, false, false, false, false, false, false] rfl rfl (any_of HT_.out (by kernel_rfl)) (fun _ _ _ h => h) (Or.inl ⟨by rfl, ?_⟩) ?_ ?_
       rotate_left
       ·intro w'
        go_simp
        with_reducible rfl
       rotate_left
       ·simp only [Act.put, sB, i64_w, i32_w]
        rfl
       refine pure_ (i := 3) (N := (some 161)) (v := ?_) (a' := ?_) #[true, true, true, true, false, false, false, false, false, false, false, false, false, false] rfl rfl (any_of HT_.out (by kernel_rfl)) (fun _ _ _ h => h) (Or.inl ⟨by rfl, ?_⟩) ?_ ?_
       rotate_left
       ·intro w'
        go_simp
        with_reducible rfl
       rotate_left
       ·simp only [Act.put, sB, i64_w, i32_w]
        rfl
       refine pure_ (i := 7) (N := (some 165)) (v := ?_) (a' := ?_) #[true, true, true, true, false, false, false, true, false, false, false, false, false, false] rfl rfl (any_of HT_.out (by kernel_rfl)) (fun _ _ _ h => h) (Or.inl ⟨by rfl, ?_⟩) ?_ ?_
       rotate_left
       ·intro w'
        go_simp
        with_reducible rfl
       rotate_left
       ·simp only [Act.put, sB, i64_w, i32_w]
        rfl
       refine pure_ (i := 8) (N := (some 166)) (v := ?_) (a' := ?_) #[true, true, true, true, false, false, false, true, true, false, false, false, false, false] rfl rfl (any_of HT_.out (by kernel_rfl)) (fun _ _ _ h => h) (Or.inl ⟨by rfl, ?_⟩) ?_ ?_
       rotate_left
       ·intro w'
        go_simp
        with_reducible rfl
       rotate_left
       ·simp only [Act.put, sB, i64_w, i32_w]
        rfl
       refine pure_ (i := 4) (N := (some 162)) (v := ?_) (a' := ?_) #[true, true, true, true, true, false, false, true, true, false, false, false, false, false] rfl rfl (any_of HT_.out (by kernel_rfl)) (fun _ _ _ h => h) (Or.inl ⟨by rfl, ?_⟩) ?_ ?_
       rotate_left
       ·intro w'
        go_simp
        with_reducible rfl
       rotate_left
       ·simp only [Act.put, sB, i64_w, i32_w]
        rfl
       refine pure_ (i := 5) (N := (some 163)) (v := ?_) (a' := ?_) #[true, true, true, true, true, true, false, true, true, false, false, false, false, false] rfl rfl (any_of HT_.out (by kernel_rfl)) (fun _ _ _ h => h) (Or.inl ⟨by rfl, ?_⟩) ?_ ?_
       rotate_left
       ·intro w'
        go_simp
        with_reducible rfl
       rotate_left
       ·simp only [Act.put, sB, i64_w, i32_w]
        rfl
       refine take_ (i := 6) (N := (some 164)) (v := ?_) (a' := ?_) #[true, true, true, true, true, true, true, true, true, false, false, false, false, false] rfl rfl (take_ofW HT_.out HW_.out (by kernel_rfl)) (fun _ _ _ h => h) (Or.inl ⟨by rfl, ?_⟩) hHeld ?_ ?_
       rotate_left
       ·rintro w' ⟨s0, s1, s2, s3, s4, s5, s6, s7⟩
        go_simp
        with_reducible rfl
       rotate_left
       ·simp only [Act.put, sB, i64_w, i32_w]
        rfl
       refine pure_ (i := 9) (N := (some 167)) (v := ?_) (a' := ?_) #[true, true, true, true, true, true, true, true, true, true, false, false, false, false] rfl rfl (any_of HT_.out (by kernel_rfl)) (fun _ _ _ h => h) (Or.inl ⟨by rfl, ?_⟩) ?_ ?_
       rotate_left
       ·intro w'
        go_simp
        with_reducible rfl
       rotate_left
       ·simp only [Act.put, sB, i64_w, i32_w]
        rfl
       refine take_ (i := 10) (N := (some 168)) (v := ?_) (a' := ?_) #[true, true, true, true, true, true, true, true, true, true, true, false, false, false] rfl rfl (take_ofW HT_.out HW_.out (by kernel_rfl)) (fun _ _ _ h => h) (Or.inl ⟨by rfl, ?_⟩) hHeld ?_ ?_
       rotate_left
       ·rintro w' ⟨s0, s1, s2, s3, s4, s5, s6, s7⟩
        go_simp
        with_reducible rfl
       rotate_left
       ·simp only [Act.put, sB, i64_w, i32_w]
        rfl
       refine last_ (i := 11) (N := (some 169)) #[true, true, true, true, true, true, true, true, true, true, true, true, false, false] rfl rfl (one_of HT_.out (by kernel_rfl)) (by decide) (fun K hK => ?_)
       refine goesV_ (.tmp 158) Try.func105 (by kernel_rfl) rfl #[.agg #[.int .i64 x.f0, .int .i64 x.f1, .int .i64 x.f2, .int .i64 x.f3], .agg #[.int .i64 y.f0, .int .i64 y.f1, .int .i64 y.f2, .int .i64 y.f3]] (by rfl) rfl rfl rfl (by simp [Act.eval]) ?_
       refine (gorder_calls x y wd NE.out).mono ?_
       rintro e we ⟨rfl, hb⟩
       have HBe := asd (below_step HBd.out hb)
       clear hb
       rw [CM]
       refine ⟨_, rfl, ?_⟩
       refine hK.out _ _ ?_
       clear hK K
       refine norm_ (a' := ?_) ?_ ?_
       rotate_left
       ·show Act.put _ (some 169) _ = _
        simp only [Act.put, sB, i64_w, i32_w]
        rfl
       refine pure_ (i := 12) (N := (some 170)) (v := ?_) (a' := ?_) #[true, true, true, true, true, true, true, true, true, true, true, true, true, false] rfl rfl (any_of HT_.out (by kernel_rfl)) (fun _ _ _ h => h) (Or.inl ⟨by rfl, ?_⟩) ?_ ?_
       rotate_left
       ·intro w'
        go_simp
        with_reducible rfl
       rotate_left
       ·simp only [Act.put, sB, i64_w, i32_w]
        rfl
       refine pure_ (i := 13) (N := (some 171)) (v := ?_) (a' := ?_) #[true, true, true, true, true, true, true, true, true, true, true, true, true, true] rfl rfl (any_of HT_.out (by kernel_rfl)) (fun _ _ _ h => h) (Or.inl ⟨by rfl, ?_⟩) ?_ ?_
       rotate_left
       ·intro w'
        go_simp
        with_reducible rfl
       rotate_left
       ·simp only [Act.put, sB, i64_w, i32_w]
        rfl
       refine done_ (done_of HT_.out (by kernel_rfl)) ?_
       try go_wp2
       go_roundw
       case rel => exact ⟨h + 1, by first | (rw [wh1]) | rfl, rfl, ⟨by have := HH.out; omega⟩, HBe⟩
       case measure => first | (rw [wh1]; exact Nat.sub_lt_sub_left HH.out.2.2.2 HH.out.2.2.1) | exact Nat.sub_lt_sub_left HH.out.2.2.2 HH.out.2.2.1
      ·have e0 : i = m := by have := HJ.out; omega
       obtain ⟨h1, h2, h3, h4, h5⟩ := HO.out
       have hj := HD.out
       have d1 : decide ((i : Int) < (m : Int)) = false := decide_eq_false (by omega)
       have d2 : decide (i < m) = false := decide_eq_false hlt
       have d4 : (i < m) = False := eq_false hlt
       have WE := asd (wSub n m d (by omega) (by omega))
       rw [e0]
       have t1 : decide ((m : Int) < (m : Int)) = false := decide_eq_false (by omega)
       have t2 : decide (m < m) = false := decide_eq_false (by omega)
       have t3 : (m < m) = False := eq_false (by omega)
       have t4 : decide ((a : Int) < (m : Int)) = true := decide_eq_true (by omega)
       have t5 : decide (a < m) = true := decide_eq_true (by omega)
       have t6 : decide ((d : Int) < (d : Int)) = false := decide_eq_false (by omega)
       have t7 : decide (d < d) = false := decide_eq_false (by omega)
       have t8 : (d < d) = False := eq_false (by omega)
       by_cases md : m < d
       ·have t9 : decide ((m : Int) < (d : Int)) = true := decide_eq_true (by omega)
        have ta : decide (m < d) = true := decide_eq_true md
        have HG : Aside0 (d - a ≤ k ∧ a < m ∧ m < d ∧ d ≤ Ds.length) := ⟨by omega⟩
        have IHC := asd (IH.out a m d HG.out.1 HG.out.2.1 HG.out.2.2.1 HG.out.2.2.2 wr (Kd.C_below HC.out HB.out))
        have wend := WE.out
        clear hlt hj md h1 h2 h3 h4 h5
        go_wp2_with (first | (go_at_call 144; refine IHC.out.mono ?_; rintro e w5 ⟨rfl, hb⟩; have HB5 := asd (below_step HB.out hb); clear hb))
        go_end0
        exact ⟨rfl, HB5.out⟩
       ·have t9 : decide ((m : Int) < (d : Int)) = false := decide_eq_false (by omega)
        have ta : decide (m < d) = false := decide_eq_false md
        have wend := WE.out
        clear hlt hj md h1 h2 h3 h4 h5
        go_wp2
        go_end0
        exact ⟨rfl, HB.out⟩
end
end Go.Proofs.Ytalimpniimgheaa.Fn
namespace Go.Proofs.Ytalimpniimgheaa.Fn
open Go.RowKit Go.Proofs.YtalimpniimgheaaW.PrintWords Go.Proofs.YtalimpniimgheaaW.PrintLast Go.Proofs.YtalimpniimgheaaW.PrintMore
set_option linter.unusedVariables false
set_option linter.unusedSimpArgs false
section
variable (ad : Addr) (c : Nat) (Ds : List S97)
set_option maxHeartbeats 16000000 in
set_option maxRecDepth 100000 in
theorem gstab_calls (hr : RisG Ds) (hl : Ds.length ≤ 1000) (w : World) (h : Kd.C k97 w (some ad) Ds.length Ds) : Calls Try.prog 131 #[.slice (some ad) Ds.length c, .int .i64 Ds.length, .func (.func 105) #[] #[]] w fun e w' => e = .returned (.tuple #[]) ∧ Below w.heap.size w w' := by
 have HC := asd h
 have HR := asd hr
 have HL := asd hl
 generalize hn : Ds.length = n at HL
 have HN := asd hn
 clear h hr hl hn
 go_enter Try.func131, Try.ntmps131
 go_wp2
 go_loopw [7, 8] (fun v7 v8 wr => ∃ (a b : Nat), v7 = .int .i64 a ∧ v8 = .int .i64 b ∧ Aside0 (a ≤ n ∧ b = a + 20) ∧ Aside0 (Below w.heap.size w wr)) (fun _ v _ => n + 20 - (intOf v).toNat)
 case atStart => exact ⟨0, 20, rfl, rfl, ⟨by omega⟩, ⟨Below.refl _ _⟩⟩
 case round =>
  obtain ⟨a, b, rfl, rfl, HA, HB⟩ := hrel
  by_cases hle : b ≤ n
  ·have d1 : decide ((b : Int) ≤ (n : Int)) = true := decide_eq_true (by omega)
   have d2 : decide (b ≤ n) = true := decide_eq_true hle
   have WB := asd (wAdd b 20 (b + 20) rfl (by have := HL.out; omega))
   have HLE := asd hle
   have IC := asd (gins_calls ad c Ds wr (Kd.C_below HC.out HB.out) HR.out a b (by have := HA.out; omega) (by rw [HN.out]; exact hle) (by rw [HN.out]; exact HL.out))
   rw [HN.out] at IC
   clear hle
   go_wp2_with fail
   refine IC.out.mono ?_
   rintro e w1 ⟨rfl, hb⟩
   have HB1 := asd (below_step HB.out hb)
   clear hb
   have wb := WB.out
   have wb2 : wrap64 ((b : Int) + 20) = ((b + 20 : Nat) : Int) := wb
   clear wb
   go_wp2
   go_roundw
   case rel => exact ⟨b, b + 20, rfl, by first | (rw [wb2]) | rfl, ⟨HLE.out, rfl⟩, HB1⟩
   case measure => first | (rw [wb2]; exact Nat.sub_lt_sub_left (show b < n + 20 by have := HLE.out; omega) (show b < b + 20 by omega)) | exact Nat.sub_lt_sub_left (show b < n + 20 by have := HLE.out; omega) (show b < b + 20 by omega)
  ·have d1 : decide ((b : Int) ≤ (n : Int)) = false := decide_eq_false (by omega)
   have d2 : decide (b ≤ n) = false := decide_eq_false hle
   have IC := asd (gins_calls ad c Ds wr (Kd.C_below HC.out HB.out) HR.out a n HA.out.1 (by rw [HN.out]; exact Nat.le_refl _) (by rw [HN.out]; exact HL.out))
   rw [HN.out] at IC
   clear hle
   go_wp2_with fail
   refine IC.out.mono ?_
   rintro e w1 ⟨rfl, hb⟩
   have HB1 := asd (below_step HB.out hb)
   clear hb HA HB IC d1 d2
   go_wp2
   go_loopw [6] (fun v6 wr => ∃ (s : Nat), v6 = .int .i64 s ∧ Aside0 (20 ≤ s ∧ s ≤ 3000) ∧ Aside0 (Below w.heap.size w wr)) (fun v _ => 3000 - (intOf v).toNat)
   case atStart => exact ⟨20, rfl, ⟨by omega⟩, HB1⟩
   case round =>
    obtain ⟨s, rfl, HS, HB⟩ := hrel
    by_cases hlt : s < n
    ·have d1 : decide ((s : Int) < (n : Int)) = true := decide_eq_true (by omega)
     have d2 : decide (s < n) = true := decide_eq_true hlt
     have HLT := asd hlt
     have WS : Aside0 (wrap64 (2 * (s : Int)) = ((2 * s : Nat) : Int)) := ⟨by have := HS.out; unfold wrap64; omega⟩
     clear hlt
     go_wp2
     go_loopw [7, 8] (fun v7 v8 wr => ∃ (a b : Nat), v7 = .int .i64 a ∧ v8 = .int .i64 b ∧ Aside0 (a ≤ n ∧ b = a + 2 * s) ∧ Aside0 (Below w.heap.size w wr)) (fun _ v _ => n + 2 * s - (intOf v).toNat)
     case atStart => exact ⟨0, 2 * s, rfl, by first | (rw [WS.out]) | rfl, ⟨by omega⟩, HB⟩
     case round =>
      obtain ⟨a, b, rfl, rfl, HA, HB⟩ := hrel
      by_cases hle : b ≤ n
      ·have d1 : decide ((b : Int) ≤ (n : Int)) = true := decide_eq_true (by omega)
       have d2 : decide (b ≤ n) = true := decide_eq_true hle
       have WB := asd (wAdd b (2 * s) (b + 2 * s) rfl (by have := HL.out; have := HS.out; omega))
       have WM := asd (wAdd a s (a + s) rfl (by have := HL.out; have := HS.out; have := HA.out; omega))
       have HLE := asd hle
       have SC := asd (gsym_calls ad c Ds HR.out (by rw [HN.out]; exact HL.out) (b - a) a (a + s) b (Nat.le_refl _) (by have := HS.out; omega) (by have := HA.out; have := HS.out; omega) (by rw [HN.out]; exact hle) wr (Kd.C_below HC.out HB.out))
       rw [HN.out] at SC
       clear hle
       have wm := WM.out
       go_wp2_with fail
       try rw [wm]
       refine SC.out.mono ?_
       rintro e w2 ⟨rfl, hb⟩
       have HB2 := asd (below_step HB.out hb)
       clear hb wm
       go_wp2
       go_roundw
       case rel => exact ⟨b, b + 2 * s, rfl, by first | (rw [WS.out, WB.out]) | rfl, ⟨HLE.out, rfl⟩, HB2⟩
       case measure => first | (rw [WS.out, WB.out]; exact Nat.sub_lt_sub_left (show b < n + 2 * s by have := HLE.out; have := HS.out; omega) (show b < b + 2 * s by have := HS.out; omega)) | (exact Nat.sub_lt_sub_left (show b < n + 2 * s by have := HLE.out; have := HS.out; omega) (show b < b + 2 * s by have := HS.out; omega)) | exact Nat.sub_lt_sub_left (show b < n + 2 * s by have := HLE.out; have := HS.out; omega) (show b < b + 2 * s by have := HS.out; omega)
      ·have d1 : decide ((b : Int) ≤ (n : Int)) = false := decide_eq_false (by omega)
       have d2 : decide (b ≤ n) = false := decide_eq_false hle
       have WM := asd (wAdd a s (a + s) rfl (by have := HL.out; have := HS.out; have := HA.out; omega))
       have WT : Aside0 (wrap64 ((s : Int) * 2) = ((2 * s : Nat) : Int)) := ⟨by have := HS.out; unfold wrap64; omega⟩
       have HLE := asd hle
       clear hle
       by_cases hmn : a + s < n
       ·have e1 : decide (((a + s : Nat) : Int) < (n : Int)) = true := decide_eq_true (by omega)
        have e2 : decide (a + s < n) = true := decide_eq_true hmn
        have SC := asd (gsym_calls ad c Ds HR.out (by rw [HN.out]; exact HL.out) (n - a) a (a + s) n (Nat.le_refl _) (by have := HS.out; omega) hmn (by rw [HN.out]; exact Nat.le_refl _) wr (Kd.C_below HC.out HB.out))
        rw [HN.out] at SC
        clear hmn
        generalize hms : a + s = m at WM e1 e2 SC
        clear hms
        have wm := WM.out
        go_wp2_with fail
        try rw [wm]
        refine SC.out.mono ?_
        rintro e w2 ⟨rfl, hb⟩
        have HB2 := asd (below_step HB.out hb)
        clear hb wm
        have wt := WT.out
        go_wp2
        go_roundw
        case rel => exact ⟨2 * s, by first | (rw [wt]) | rfl, ⟨by have := HS.out; have := HLT.out; have := HL.out; omega⟩, HB2⟩
        case measure => first | (rw [wt]; exact Nat.sub_lt_sub_left (show s < 3000 by have := HLT.out; have := HL.out; omega) (show s < 2 * s by have := HS.out; omega)) | exact Nat.sub_lt_sub_left (show s < 3000 by have := HLT.out; have := HL.out; omega) (show s < 2 * s by have := HS.out; omega)
       ·have e1 : decide (((a + s : Nat) : Int) < (n : Int)) = false := decide_eq_false (by omega)
        have e2 : decide (a + s < n) = false := decide_eq_false hmn
        clear hmn
        generalize hms : a + s = m at WM e1 e2
        clear hms
        have wm := WM.out
        have wt := WT.out
        go_wp2
        go_roundw
        case rel => exact ⟨2 * s, by first | (rw [wt]) | rfl, ⟨by have := HS.out; have := HLT.out; have := HL.out; omega⟩, HB⟩
        case measure => first | (rw [wt]; exact Nat.sub_lt_sub_left (show s < 3000 by have := HLT.out; have := HL.out; omega) (show s < 2 * s by have := HS.out; omega)) | exact Nat.sub_lt_sub_left (show s < 3000 by have := HLT.out; have := HL.out; omega) (show s < 2 * s by have := HS.out; omega)
    ·have d1 : decide ((s : Int) < (n : Int)) = false := decide_eq_false (by omega)
     have d2 : decide (s < n) = false := decide_eq_false hlt
     clear hlt
     go_wp2
     go_end0
     exact ⟨rfl, HB.out⟩
set_option maxHeartbeats 16000000 in
set_option maxRecDepth 100000 in
theorem gsort_calls (hr : RisG Ds) (hl : Ds.length ≤ 1000) (w : World) (h : Kd.C k97 w (some ad) Ds.length Ds) : Calls Try.prog 104 #[.slice (some ad) Ds.length c, .func (.func 105) #[] #[]] w fun e w' => e = .returned (.tuple #[]) ∧ Below w.heap.size w w' := by
 have SC := asd (gstab_calls ad c Ds hr hl w h)
 generalize Ds.length = n at SC
 clear h hr hl
 go_enter Try.func104, Try.ntmps104
 go_wp2_with (first | (go_at_call 131; refine SC.out.mono ?_; rintro e w1 ⟨rfl, hb⟩; have HB := asd hb; clear hb))
 go_end0
 exact ⟨rfl, HB.out⟩
end
set_option maxHeartbeats 16000000 in
set_option maxRecDepth 100000 in
theorem gsort_nil (A : Option Addr) (c : Nat) (w : World) : Calls Try.prog 104 #[.slice A 0 c, .func (.func 105) #[] #[]] w fun e w' => e = .returned (.tuple #[]) ∧ Below w.heap.size w w' := by
 have IC : ∀ wq, Calls Try.prog 143 #[.slice A 0 c, .int .i64 0, .int .i64 0, .func (.func 105) #[] #[]] wq fun e w' => e = .returned (.tuple #[]) ∧ wq = w' := fun wq => by
  go_enter Try.func143, Try.ntmps143
  go_wp2
  refine wp_loop_rounds 1 ?_
  rw [rounds_succ]
  go_wp2
  go_end0
  exact ⟨rfl, rfl⟩
 have SC : ∀ wq, Calls Try.prog 131 #[.slice A 0 c, .int .i64 0, .func (.func 105) #[] #[]] wq fun e w' => e = .returned (.tuple #[]) ∧ wq = w' := fun wq => by
  go_enter Try.func131, Try.ntmps131
  go_wp2
  refine wp_loop_rounds 1 ?_
  rw [rounds_succ]
  go_wp2_with (first | (go_at_call 143; refine (IC _).mono ?_; rintro e w1 ⟨rfl, rfl⟩))
  refine wp_loop_rounds 1 ?_
  rw [rounds_succ]
  go_wp2
  go_end0
  exact ⟨rfl, rfl⟩
 go_enter Try.func104, Try.ntmps104
 go_wp2_with (first | (go_at_call 131; refine (SC _).mono ?_; rintro e w1 ⟨rfl, rfl⟩))
 go_end0
 exact ⟨rfl, Below.refl _ _⟩
end Go.Proofs.Ytalimpniimgheaa.Fn
namespace Go.Proofs.Ytalimpniimgheaa.Fn
open Go.RowKit Go.Proofs.YtalimpniimgheaaW.PrintWords Go.Proofs.YtalimpniimgheaaW.PrintLast Go.Proofs.YtalimpniimgheaaW.PrintMore
set_option linter.unusedVariables false
set_option linter.unusedSimpArgs false
attribute [local go_sem] max2_int min2_int max_two min_two
def pAt (tick : Int) (x : S97) : Bool := decide (x.f0 ≤ tick) && decide (tick < x.f1)
def pMeet (y x : S97) : Bool := decide (mx x.f0 y.f0 < mn x.f1 y.f1)
set_option maxHeartbeats 16000000 in
set_option maxRecDepth 100000 in
theorem cl102 (x : S97) (tick : Int) (bx : Nat) (w : World) (hb : w.heap[bx]? = some (.cells #[.int .i64 tick] 3 (0, 0))) : Calls Try.prog 102 #[.agg #[.int .i64 x.f0, .int .i64 x.f1, .int .i64 x.f2, .int .i64 x.f3], .pointer (some ⟨bx, 0, none⟩)] w fun e w' => e = .returned (.bool (pAt tick x)) ∧ Below w.heap.size w w' := by
 have hu97 := Try.underlying97
 have HB := asd (below_alloc (Below.refl w.heap.size w) (.cells #[.int .i64 x.f0, .int .i64 x.f1, .int .i64 x.f2, .int .i64 x.f3] 97))
 have z0 := (blk_cell hb 0).trans rfl
 have y0 := (blk_cell (blk_alloc hb (.cells #[.int .i64 x.f0, .int .i64 x.f1, .int .i64 x.f2, .int .i64 x.f3] 97)) 0).trans rfl
 clear hb
 unfold pAt
 by_cases h1 : x.f0 ≤ tick
 ·have d1 : decide (x.f0 ≤ tick) = true := decide_eq_true h1
  have d2 : decide (tick ≥ x.f0) = true := d1
  rw [d1, Bool.true_and]
  clear h1
  go_enter Try.func102, Try.ntmps102
  go_wp2
  go_ret
  exact ⟨rfl, HB.out⟩
 ·have d1 : decide (x.f0 ≤ tick) = false := decide_eq_false h1
  have d2 : decide (tick ≥ x.f0) = false := d1
  rw [d1, Bool.false_and]
  clear h1
  go_enter Try.func102, Try.ntmps102
  go_wp2
  go_ret
  exact ⟨rfl, HB.out⟩
set_option maxHeartbeats 16000000 in
set_option maxRecDepth 100000 in
theorem meet_calls (x y : S97) (w : World) : Calls Try.prog 108 #[.agg #[.int .i64 x.f0, .int .i64 x.f1, .int .i64 x.f2, .int .i64 x.f3], .agg #[.int .i64 y.f0, .int .i64 y.f1, .int .i64 y.f2, .int .i64 y.f3]] w fun e w' => e = .returned (.bool (pMeet y x)) ∧ Below w.heap.size w w' := by
 have hu97 := Try.underlying97
 have HB := asd (below_alloc (below_alloc (Below.refl w.heap.size w) (.cells #[.int .i64 x.f0, .int .i64 x.f1, .int .i64 x.f2, .int .i64 x.f3] 97)) (.cells #[.int .i64 y.f0, .int .i64 y.f1, .int .i64 y.f2, .int .i64 y.f3] 97))
 unfold pMeet
 go_enter Try.func108, Try.ntmps108
 go_wp2
 all_goals (go_ret; refine ⟨congrArg (fun b => Ending.returned (.bool b)) ?_, HB.out⟩; simp only [decide_eq_decide]; unfold mx mn; (repeat' split) <;> omega)
set_option maxHeartbeats 16000000 in
set_option maxRecDepth 100000 in
theorem cl107 (x y : S97) (bx : Nat) (w : World) (hb : w.heap[bx]? = some (.cells #[.int .i64 y.f0, .int .i64 y.f1, .int .i64 y.f2, .int .i64 y.f3] 97 (0, 0))) : Calls Try.prog 107 #[.agg #[.int .i64 x.f0, .int .i64 x.f1, .int .i64 x.f2, .int .i64 x.f3], .pointer (some ⟨bx, 0, none⟩)] w fun e w' => e = .returned (.bool (pMeet y x)) ∧ Below w.heap.size w w' := by
 have hu97 := Try.underlying97
 have HB := asd (below_alloc (Below.refl w.heap.size w) (.cells #[.int .i64 x.f0, .int .i64 x.f1, .int .i64 x.f2, .int .i64 x.f3] 97))
 have b1 := blk_alloc hb (.cells #[.int .i64 x.f0, .int .i64 x.f1, .int .i64 x.f2, .int .i64 x.f3] 97)
 have y0 := (blk_cell b1 0).trans rfl
 have y1 := (blk_cell b1 1).trans rfl
 have y2 := (blk_cell b1 2).trans rfl
 have y3 := (blk_cell b1 3).trans rfl
 clear hb b1
 go_enter Try.func107, Try.ntmps107
 go_wp2_with fail
 refine (meet_calls x y _).mono ?_
 rintro e w2 ⟨rfl, hb⟩
 have HB2 := asd (below_step HB.out hb)
 clear hb
 go_wp2
 go_ret
 exact ⟨rfl, HB2.out⟩
section
variable (A : Option Addr) (c : Nat) (xs : List S97) (bx : Nat) (p : S97 → Bool)
set_option maxHeartbeats 4000000 in
set_option maxRecDepth 100000 in
theorem idx102_calls (w : World) (h : k97.C w A xs.length xs) (hl : xs.length ≤ 100000) (hp : ∀ wr x, Below w.heap.size w wr → Calls Try.prog 102 #[.agg #[.int .i64 x.f0, .int .i64 x.f1, .int .i64 x.f2, .int .i64 x.f3], .pointer (some ⟨bx, 0, none⟩)] wr fun e w' => e = .returned (.bool (p x)) ∧ Below wr.heap.size wr w') :
  Calls Try.prog 101 #[.slice A xs.length c, .func (.func 102) #[] #[.pointer (some ⟨bx, 0, none⟩)]] w fun e w' => ∃ r, e = .returned (.int .i64 r) ∧ IdxOf p xs z97 r ∧ Below w.heap.size w w' := by
 have hu := Try.underlying97
 have HC := asd h
 have HP := asd hp
 have HL := asd hl
 clear h hp hl
 go_enter Try.func101, Try.ntmps101
 go_wp2
 go_loopw [8] (fun v wr => ∃ i : Nat, v = .int .i64 i ∧ Aside0 (i ≤ xs.length ∧ ∀ j, j < i → p (xs.getD j z97) = false) ∧ Aside0 (Below w.heap.size w wr)) (fun v _ => xs.length - (intOf v).toNat)
 case atStart => exact ⟨0, rfl, ⟨by omega, fun j hj => by omega⟩, ⟨Below.refl _ _⟩⟩
 case round =>
  obtain ⟨i, rfl, HX, HB⟩ := hrel
  have h99 : (xs.length : Int) ≤ 100000 := by have := HL.out; omega
  by_cases hlt : i < xs.length
  ·have q0 : ((i : Int) < (xs.length : Int)) = True := eq_true (by omega)
   have q1 : decide ((i : Int) < (xs.length : Int)) = true := decide_eq_true (by omega)
   have q2 : decide (i < xs.length) = true := decide_eq_true hlt
   obtain ⟨ad, rfl, y0, y1, y2, y3⟩ := at_T97 (Kd.C_below HC.out HB.out) (i : Int) (by omega) (by omega)
   simp only [Int.toNat_natCast] at y0 y1 y2 y3
   have HR : Aside0 (rd_T97 xs (i : Int) = xs.getD i z97) := ⟨by unfold rd_T97; rw [Int.toNat_natCast]⟩
   generalize rd_T97 xs (i : Int) = x at *
   have HPX := asd (fun wr hb2 => HP.out wr x hb2)
   cases hb : p x with
   | true =>
    rw [hb] at HPX
    have HT : Aside0 (p (xs.getD i z97) = true) := ⟨by rw [← HR.out]; exact hb⟩
    clear hb HR
    go_wp2_with (first | (go_at_call 102; refine (HPX.out _ HB.out).mono ?_; rintro e w1 ⟨rfl, hb⟩; have HB1 := asd (below_step HB.out hb); clear hb))
    go_ret
    exact ⟨_, rfl, .inr ⟨i, hlt, rfl, HT.out, HX.out.2⟩, HB1.out⟩
   | false =>
    rw [hb] at HPX
    have HT : Aside0 (p (xs.getD i z97) = false) := ⟨by rw [← HR.out]; exact hb⟩
    clear hb HR
    go_wp2_with (first | (go_at_call 102; refine (HPX.out _ HB.out).mono ?_; rintro e w1 ⟨rfl, hb⟩; have HB1 := asd (below_step HB.out hb); clear hb))
    go_roundw
    case rel => exact ⟨i + 1, by go_num, ⟨by omega, fun j hj => by
     rcases Nat.lt_or_ge j i with h1 | h1
     ·exact HX.out.2 j h1
     ·rw [show j = i by omega]; exact HT.out⟩, HB1⟩
    case measure => simp [intOf]; omega
  ·have q1 : decide ((i : Int) < (xs.length : Int)) = false := decide_eq_false (by omega)
   have q2 : decide (i < xs.length) = false := decide_eq_false hlt
   have e : i = xs.length := by have := HX.out.1; omega
   subst e
   clear hlt
   go_wp2
   go_ret
   exact ⟨-1, rfl, .inl ⟨rfl, HX.out.2⟩, HB.out⟩
end
section
variable (A : Option Addr) (c : Nat) (xs : List S97) (bx : Nat) (p : S97 → Bool)
set_option maxHeartbeats 4000000 in
set_option maxRecDepth 100000 in
theorem idx107_calls (w : World) (h : k97.C w A xs.length xs) (hl : xs.length ≤ 100000) (hp : ∀ wr x, Below w.heap.size w wr → Calls Try.prog 107 #[.agg #[.int .i64 x.f0, .int .i64 x.f1, .int .i64 x.f2, .int .i64 x.f3], .pointer (some ⟨bx, 0, none⟩)] wr fun e w' => e = .returned (.bool (p x)) ∧ Below wr.heap.size wr w') :
  Calls Try.prog 101 #[.slice A xs.length c, .func (.func 107) #[] #[.pointer (some ⟨bx, 0, none⟩)]] w fun e w' => ∃ r, e = .returned (.int .i64 r) ∧ IdxOf p xs z97 r ∧ Below w.heap.size w w' := by
 have hu := Try.underlying97
 have HC := asd h
 have HP := asd hp
 have HL := asd hl
 clear h hp hl
 go_enter Try.func101, Try.ntmps101
 go_wp2
 go_loopw [8] (fun v wr => ∃ i : Nat, v = .int .i64 i ∧ Aside0 (i ≤ xs.length ∧ ∀ j, j < i → p (xs.getD j z97) = false) ∧ Aside0 (Below w.heap.size w wr)) (fun v _ => xs.length - (intOf v).toNat)
 case atStart => exact ⟨0, rfl, ⟨by omega, fun j hj => by omega⟩, ⟨Below.refl _ _⟩⟩
 case round =>
  obtain ⟨i, rfl, HX, HB⟩ := hrel
  have h99 : (xs.length : Int) ≤ 100000 := by have := HL.out; omega
  by_cases hlt : i < xs.length
  ·have q0 : ((i : Int) < (xs.length : Int)) = True := eq_true (by omega)
   have q1 : decide ((i : Int) < (xs.length : Int)) = true := decide_eq_true (by omega)
   have q2 : decide (i < xs.length) = true := decide_eq_true hlt
   obtain ⟨ad, rfl, y0, y1, y2, y3⟩ := at_T97 (Kd.C_below HC.out HB.out) (i : Int) (by omega) (by omega)
   simp only [Int.toNat_natCast] at y0 y1 y2 y3
   have HR : Aside0 (rd_T97 xs (i : Int) = xs.getD i z97) := ⟨by unfold rd_T97; rw [Int.toNat_natCast]⟩
   generalize rd_T97 xs (i : Int) = x at *
   have HPX := asd (fun wr hb2 => HP.out wr x hb2)
   cases hb : p x with
   | true =>
    rw [hb] at HPX
    have HT : Aside0 (p (xs.getD i z97) = true) := ⟨by rw [← HR.out]; exact hb⟩
    clear hb HR
    go_wp2_with (first | (go_at_call 107; refine (HPX.out _ HB.out).mono ?_; rintro e w1 ⟨rfl, hb⟩; have HB1 := asd (below_step HB.out hb); clear hb))
    go_ret
    exact ⟨_, rfl, .inr ⟨i, hlt, rfl, HT.out, HX.out.2⟩, HB1.out⟩
   | false =>
    rw [hb] at HPX
    have HT : Aside0 (p (xs.getD i z97) = false) := ⟨by rw [← HR.out]; exact hb⟩
    clear hb HR
    go_wp2_with (first | (go_at_call 107; refine (HPX.out _ HB.out).mono ?_; rintro e w1 ⟨rfl, hb⟩; have HB1 := asd (below_step HB.out hb); clear hb))
    go_roundw
    case rel => exact ⟨i + 1, by go_num, ⟨by omega, fun j hj => by
     rcases Nat.lt_or_ge j i with h1 | h1
     ·exact HX.out.2 j h1
     ·rw [show j = i by omega]; exact HT.out⟩, HB1⟩
    case measure => simp [intOf]; omega
  ·have q1 : decide ((i : Int) < (xs.length : Int)) = false := decide_eq_false (by omega)
   have q2 : decide (i < xs.length) = false := decide_eq_false hlt
   have e : i = xs.length := by have := HX.out.1; omega
   subst e
   clear hlt
   go_wp2
   go_ret
   exact ⟨-1, rfl, .inl ⟨rfl, HX.out.2⟩, HB.out⟩
end
set_option maxHeartbeats 16000000 in
set_option maxRecDepth 100000 in
theorem has107 (A : Option Addr) (c : Nat) (xs : List S97) (bx : Nat) (y : S97) (w : World) (h : Kd.C k97 w A xs.length xs) (hl : xs.length ≤ 100000) (hb : w.heap[bx]? = some (.cells #[.int .i64 y.f0, .int .i64 y.f1, .int .i64 y.f2, .int .i64 y.f3] 97 (0, 0))) (hno : ∀ j, j < xs.length → pMeet y (xs.getD j z97) = false) : Calls Try.prog 106 #[.slice A xs.length c, .func (.func 107) #[] #[.pointer (some ⟨bx, 0, none⟩)]] w fun e w' => e = .returned (.bool false) ∧ Below w.heap.size w w' := by
 have IC := asd (idx107_calls A c xs bx (pMeet y) w h hl (fun wr x hq => cl107 x y bx wr (blk_below hb hq)))
 have NO := asd hno
 clear h hl hb hno
 go_enter Try.func106, Try.ntmps106
 go_wp2_with fail
 refine IC.out.mono ?_
 rintro e w1 ⟨r, rfl, hr, hb⟩
 have HB := asd hb
 have e1 : r = -1 := by
  rcases hr with ⟨h1, _⟩ | ⟨k, h1, _, h3, _⟩
  ·exact h1
  ·rw [NO.out k (by first | exact h1 | assumption | omega)] at h3; cases h3
 subst e1
 clear hr hb
 go_wp2
 go_ret
 exact ⟨rfl, HB.out⟩
end Go.Proofs.Ytalimpniimgheaa.Fn
namespace Go.Proofs.Ytalimpniimgheaa.Fn
open Go.RowKit Go.Proofs.YtalimpniimgheaaW.PrintWords Go.Proofs.YtalimpniimgheaaW.PrintLast Go.Proofs.YtalimpniimgheaaW.PrintMore
set_option linter.unusedVariables false
set_option linter.unusedSimpArgs false
theorem results_row2 {P : Program} {fn : Func} {p q : Tmp} {ty : TypeId} (h : fn.results = #[.cell p ty, .tmp q]) (tmps : Array Value) (w : World) (g : Nat) (t : TypeId) (cs : Array Value) (fr : Nat × Nat) (d : TypeDesc) (v : Value)
  (hp : tmps.getD p undef = .pointer (some ⟨g, 0, none⟩)) (hq : tmps.getD q undef = v) (hg : w.heap[g]? = some (.cells cs t fr))
  (hu : P.underlying ty = some d) (hd : (match d with | .struct _ | .array _ _ => true | _ => false) = true) (hi : (P.info? ty).map (·.size) = some cs.size) :
  (results fn tmps).run P w = .ok (.tuple #[.agg cs, v]) w := by
 have hp' : tmps[p]?.getD undef = .pointer (some ⟨g, 0, none⟩) := by simpa using hp
 have hq' : tmps[q]?.getD undef = v := by simpa using hq
 simp [results, h, hp', hq', asAddr, run_loadVar_row w g t ty cs fr d hg hu hd hi]
theorem ginfo97 : (Try.prog.info? 97).map (fun i => (i.zero, i.size, i.bytes)) = some (some (.agg #[.int .i64 0, .int .i64 0, .int .i64 0, .int .i64 0]), 4, 32) := by kernel_rfl
set_option maxHeartbeats 16000000 in
set_option maxRecDepth 100000 in
theorem gat_calls (A : Option Addr) (c : Nat) (xs : List S97) (tick : Int) (w : World) (h : Kd.C k97 w A xs.length xs) (hl : xs.length ≤ 100000) (hex : ∃ k, k < xs.length ∧ pAt tick (xs.getD k z97) = true) : Calls Try.prog 64 #[.slice A xs.length c, .int .i64 tick] w fun e w' => (∃ k, k < xs.length ∧ pAt tick (xs.getD k z97) = true ∧ e = .returned (.tuple #[.agg #[.int .i64 (xs.getD k z97).f0, .int .i64 (xs.getD k z97).f1, .int .i64 (xs.getD k z97).f2, .int .i64 (xs.getD k z97).f3], .bool true])) ∧ Below w.heap.size w w' := by
 have hu97 := Try.underlying97
 have e1 : (w.alloc (.cells #[.int .i64 tick] 3)).heap.size = w.heap.size + 1 := by unfold World.alloc; exact Array.size_push ..
 have BT := asd (blk_alloc (heap_alloc_new w (.cells #[.int .i64 tick] 3)) (.cells #[.int .i64 0, .int .i64 0, .int .i64 0, .int .i64 0] 97))
 have b2 := heap_alloc_new (w.alloc (.cells #[.int .i64 tick] 3)) (.cells #[.int .i64 0, .int .i64 0, .int .i64 0, .int .i64 0] 97)
 rw [e1] at b2
 have BZ := asd b2
 have HB := asd (below_alloc (below_alloc (Below.refl w.heap.size w) (.cells #[.int .i64 tick] 3)) (.cells #[.int .i64 0, .int .i64 0, .int .i64 0, .int .i64 0] 97))
 have HC := asd h
 have HX := asd hex
 have HL := asd hl
 clear h hex hl b2 e1
 go_enter Try.func64, Try.ntmps64
 go_wp2_with fail
 generalize (w.alloc (.cells #[.int .i64 tick] 3)).alloc (.cells #[.int .i64 0, .int .i64 0, .int .i64 0, .int .i64 0] 97) = wa at BT BZ HB ⊢
 refine (idx102_calls A c xs w.heap.size (pAt tick) wa (Kd.C_below HC.out HB.out) HL.out (fun wr x hq => cl102 x tick w.heap.size wr (blk_below BT.out hq))).mono ?_
 rintro e w1 ⟨r, rfl, hr, hb⟩
 have BZ1 := asd (blk_below BZ.out hb)
 have HB1 := asd (below_step HB.out hb)
 obtain ⟨k, hk, rfl, hp, _⟩ : ∃ k : Nat, k < xs.length ∧ r = (k : Int) ∧ pAt tick (xs.getD k z97) = true ∧ True := by
  rcases hr with ⟨_, h2⟩ | ⟨k, h1, h2, h3, _⟩
  ·obtain ⟨k, h4, h5⟩ := HX.out
   rw [h2 k h4] at h5; cases h5
  ·exact ⟨k, h1, h2, h3, trivial⟩
 have HK := asd (And.intro hk hp)
 clear hr hb hp BT BZ HB
 have d1 : decide ((k : Int) < 0) = false := decide_eq_false (by omega)
 have q0 : (0 ≤ (k : Int)) = True := eq_true (by omega)
 have q1 : ((k : Int) < (xs.length : Int)) = True := eq_true (by omega)
 have q2 : (k < xs.length) = True := eq_true hk
 obtain ⟨ad, rfl, y0, y1, y2, y3⟩ := at_T97 (Kd.C_below HC.out HB1.out) (k : Int) (by omega) (by omega)
 rw [rd97g, Int.toNat_natCast] at y0 y1 y2 y3
 have z0 := (blk_cell BZ1.out 0).trans rfl
 have z1 := (blk_cell BZ1.out 1).trans rfl
 have z2 := (blk_cell BZ1.out 2).trans rfl
 have z3 := (blk_cell BZ1.out 3).trans rfl
 have r0 := blk_frozen BZ1.out 0
 have r1 := blk_frozen BZ1.out 1
 have r2 := blk_frozen BZ1.out 2
 have r3 := blk_frozen BZ1.out 3
 generalize hx : xs.getD k z97 = x at y0 y1 y2 y3
 have HXX := asd hx
 clear hk hx
 go_wp2
 have F4 := blk_put (blk_put (blk_put (blk_put BZ1.out 0 (.int .i64 x.f0) rfl) 1 (.int .i64 x.f1) rfl) 2 (.int .i64 x.f2) rfl) 3 (.int .i64 x.f3) rfl
 refine bodyPost_ret (results_row2 Try.results64 _ _ (w.heap.size + 1) 97 #[.int .i64 x.f0, .int .i64 x.f1, .int .i64 x.f2, .int .i64 x.f3] (0, 0) _ (.bool true) rfl rfl F4 Try.underlying97 rfl (by kernel_rfl)) rfl ?_
 refine ⟨⟨k, HK.out.1, HK.out.2, by rw [HXX.out]⟩, ?_⟩
 exact (((HB1.out.setCell (p := ⟨w.heap.size + 1, 0, none⟩) (by show w.heap.size ≤ w.heap.size + 1; omega) _).setCell (p := ⟨w.heap.size + 1, 1, none⟩) (by show w.heap.size ≤ w.heap.size + 1; omega) _).setCell (p := ⟨w.heap.size + 1, 2, none⟩) (by show w.heap.size ≤ w.heap.size + 1; omega) _).setCell (p := ⟨w.heap.size + 1, 3, none⟩) (by show w.heap.size ≤ w.heap.size + 1; omega) _
set_option maxHeartbeats 16000000 in
set_option maxRecDepth 100000 in
theorem ggrow_calls (n : Nat) (hn : n ≤ 100000) (w : World) : Calls Try.prog 130 #[.slice none 0 0, .int .i64 n] w fun e w' => ∃ v, e = .returned v ∧ k97.R 97 w' w.heap.size (fun _ => True) v [] ∧ Below w.heap.size w w' := by
 have HN := asd hn
 have d0 : decide ((n : Int) < 0) = false := decide_eq_false (by omega)
 by_cases h0 : n = 0
 ·subst h0
  clear hn
  go_enter Try.func130, Try.ntmps130
  go_wp2
  go_ret
  exact ⟨_, rfl, Kd.R_nil _ _ _ _ _, Below.refl _ _⟩
 ·have d1 : decide ((n : Int) > 0) = true := decide_eq_true (by omega)
  have d2 : decide (0 < (n : Int)) = true := d1
  have d3 : decide (0 < n) = true := decide_eq_true (by omega)
  have p0 : (0 < n) = True := eq_true (by omega)
  have wn : wrap64 (n : Int) = (n : Int) := by unfold wrap64; omega
  clear h0 hn
  go_enter Try.func130, Try.ntmps130
  go_wp2_with (first | ((with_reducible refine gate_builtin (b := .append) (xs := #[.tmp 20, .tmp 21]) rfl ?_); at_builtin; refine Kd.R_append_zeros k97 (w0 := w) w.heap.size rfl (.tmp 20) (.tmp 21) 44 3 97 (.agg #[.int .i64 0, .int .i64 0, .int .i64 0, .int .i64 0]) 32 rfl Try.underlying44 Try.underlying3 ginfo97 rfl (by decide) (by decide) (.slice none 0 0) [] z97 (wrap64 (n : Int)) (fun _ => True) rfl rfl (k97_mkM _ _ _ _) (fun _ _ => trivial) (Kd.R_nil _ _ _ _ _) (by rw [wn]; omega) (Below.refl _ _) (Nat.le_refl _) (by have := HN.out; rw [wn]; simp only [List.length_nil, Int.toNat_natCast]; omega) ?_; intro v1 w1 ho hb hg hat; have HO := asd ho; have HB := asd hb; clear ho hb hg hat; obtain ⟨A1, c1, rfl⟩ := Kd.R_slice HO.out))
  go_ret
  exact ⟨_, rfl, Kd.R_take HO.out (m := 0) (by omega), HB.out⟩
end Go.Proofs.Ytalimpniimgheaa.Fn
namespace Go.Proofs.Ytalimpniimgheaa.Fn
open Go.RowKit Go.Proofs.YtalimpniimgheaaW.PrintWords Go.Proofs.YtalimpniimgheaaW.PrintLast Go.Proofs.YtalimpniimgheaaW.PrintMore
set_option linter.unusedVariables false
set_option linter.unusedSimpArgs false
attribute [local go_sem] max2_int min2_int max_two min_two
set_option maxHeartbeats 16000000 in
set_option maxRecDepth 100000 in
theorem gconcat_calls (A : Option Addr) (c : Nat) (xs : List S97) (q : Nat) (w : World) (hq : w.heap[q]? = some (.cells #[.slice A xs.length c] 44 (0, 0))) (h : Kd.C k97 w A xs.length xs) (hl : xs.length ≤ 100000) : Calls Try.prog 103 #[.slice (some ⟨q, 0, none⟩) 1 1] w fun e w' => ∃ v, e = .returned v ∧ k97.R 97 w' w.heap.size (fun _ => True) v xs ∧ Below w.heap.size w w' := by
 have HC := asd h
 have HL := asd hl
 have HQ := asd hq
 have y0 := (blk_cell hq 0).trans rfl
 have wn : wrap64 (xs.length : Int) = (xs.length : Int) := by unfold wrap64; omega
 have d0 : decide ((xs.length : Int) < 0) = false := decide_eq_false (by omega)
 have GC := asd (ggrow_calls xs.length hl w)
 clear h hl hq
 go_enter Try.func103, Try.ntmps103
 go_wp2
 refine wp_loop_rounds 2 ?_
 rw [rounds_succ]
 go_wp2
 rw [rounds_succ]
 go_wp2_with fail
 try rw [wn]
 refine GC.out.mono ?_
 rintro e w1 ⟨v, rfl, hv, hb⟩
 have HO := asd hv
 have HB := asd hb
 clear hv hb y0
 have y0 := (blk_cell (blk_below HQ.out HB.out) 0).trans rfl
 go_wp2
 refine wp_loop_rounds 2 ?_
 rw [rounds_succ]
 go_wp2_with (first | ((with_reducible refine gate_builtin (b := .append) (xs := #[.tmp 31, .tmp 32]) rfl ?_); at_builtin; refine Kd.R_append_rows k97 (w0 := w) w.heap.size rfl (.tmp 31) (.tmp 32) 44 97 (.agg #[.int .i64 0, .int .i64 0, .int .i64 0, .int .i64 0]) 32 rfl Try.underlying44 info97 rfl (by decide) (by omega) v [] xs _ _ _ (fun _ => True) (fun _ => False) rfl rfl ?aO ?aR (fun _ _ h => h) (fun _ h => h.elim) ?aF ?aB ?aS ?aL ?_; (case aR => exact Kd.C_below HC.out HB.out); (case aB => exact HB.out); (case aF => exact (fun _ _ => trivial)); (case aO => exact HO.out); (case aS => exact below_size HB.out); (case aL => have := HL.out; simp only [List.length_nil]; omega); intro v2 w2 ho2 hb2 hg2 hat2; have HO2 := asd ho2; have HB2 := asd hb2; clear ho2 hb2 hg2 hat2))
 rw [rounds_succ]
 go_wp2
 go_ret
 exact ⟨_, rfl, HO2.out, HB2.out⟩
set_option maxHeartbeats 16000000 in
set_option maxRecDepth 100000 in
theorem gjoin_calls (A : Option Addr) (c : Nat) (xs : List S97) (q : Nat) (w : World) (hq : w.heap[q]? = some (.cells #[.slice A xs.length c] 44 (0, 0))) (h : Kd.C k97 w A xs.length xs) (hl : xs.length ≤ 1000) (hr : RisG xs) (hno : ∀ i j, j < i → i < xs.length → pMeet (xs.getD i z97) (xs.getD j z97) = false) : Calls Try.prog 65 #[.slice (some ⟨q, 0, none⟩) 1 1] w fun e w' => (∃ v, e = .returned (.tuple #[v, .bool true])) ∧ Below w.heap.size w w' := by
 have hu97 := Try.underlying97
 have CC := asd (gconcat_calls A c xs q w hq h (by omega))
 have HL := asd hl
 have HR := asd hr
 have NO := asd hno
 clear h hl hq hr hno
 go_enter Try.func65, Try.ntmps65
 go_wp2_with fail
 refine CC.out.mono ?_
 rintro e w1 ⟨v, rfl, hv, hb⟩
 obtain ⟨A2, c2, rfl⟩ := Kd.R_slice hv
 have HC := asd (C_ofR hv)
 have HCAP := asd (Kd.R_reads' hv).2.1
 have HB := asd hb
 clear hv hb CC
 have SC : Aside0 (Calls Try.prog 104 #[.slice A2 xs.length c2, .func (.func 105) #[] #[]] w1 fun e w' => e = .returned (.tuple #[]) ∧ Below w1.heap.size w1 w') := ⟨by
  rcases Nat.eq_zero_or_pos xs.length with h0 | h0
  ·rw [h0]; exact gsort_nil A2 c2 w1
  ·obtain ⟨ad, hA, _⟩ := at_T97 HC.out 0 (by omega) (by omega)
   subst hA
   exact gsort_calls ad c2 xs HR.out HL.out w1 HC.out⟩
 go_wp2_with fail
 refine SC.out.mono ?_
 rintro e w2 ⟨rfl, hb⟩
 have HC2 := asd (Kd.C_below HC.out hb)
 have HB2 := asd (below_step HB.out hb)
 clear hb SC HC HB
 generalize hn : xs.length = n at HC2 HCAP
 have HN := asd hn
 clear hn
 go_wp2
 go_loopw [13] (fun v13 wr => ∃ (i : Nat), v13 = .int .i64 i ∧ Aside0 (i ≤ n) ∧ Aside0 (Below w2.heap.size w2 wr)) (fun v _ => n - (intOf v).toNat)
 case atStart => exact ⟨0, rfl, ⟨by omega⟩, ⟨Below.refl _ _⟩⟩
 case round =>
  obtain ⟨i, rfl, HI, HB⟩ := hrel
  by_cases hlt : i < n
  ·have HLT := asd hlt
   have hn1 : n ≤ 1000 := by have := HL.out; have := HN.out; omega
   have d1 : decide ((i : Int) < (n : Int)) = true := decide_eq_true (by omega)
   have d2 : decide (i < n) = true := decide_eq_true hlt
   have q0 : (0 ≤ (i : Int)) = True := eq_true (by omega)
   have q1 : ((i : Int) < (n : Int)) = True := eq_true (by omega)
   have q2 : (i < n) = True := eq_true hlt
   have q3 : ((i : Int) ≤ (c2 : Int)) = True := eq_true (by have := HCAP.out; omega)
   have q4 : (i ≤ c2) = True := eq_true (by have := HCAP.out; omega)
   have wi : wrap64 ((i : Int) + 1) = ((i + 1 : Nat) : Int) := by unfold wrap64; omega
   obtain ⟨ad, hA, y0, y1, y2, y3⟩ := at_T97 (Kd.C_below HC2.out HB.out) (i : Int) (by omega) (by omega)
   subst hA
   rw [rd97g, Int.toNat_natCast] at y0 y1 y2 y3
   have HX : Aside0 (∀ j, j < i → pMeet (xs.getD i z97) (xs.getD j z97) = false) := ⟨fun j hj => NO.out i j hj (by rw [HN.out]; exact hlt)⟩
   generalize xs.getD i z97 = x at y0 y1 y2 y3 HX
   have BX := asd (heap_alloc_new wr (.cells #[.int .i64 x.f0, .int .i64 x.f1, .int .i64 x.f2, .int .i64 x.f3] 97))
   have HBA := asd (below_alloc (Below.refl wr.heap.size wr) (.cells #[.int .i64 x.f0, .int .i64 x.f1, .int .i64 x.f2, .int .i64 x.f3] 97))
   have HCX : Kd.C k97 (wr.alloc (.cells #[.int .i64 x.f0, .int .i64 x.f1, .int .i64 x.f2, .int .i64 x.f3] 97)) (some ad) xs.length xs := by rw [HN.out]; exact Kd.C_below (Kd.C_below HC2.out HB.out) HBA.out
   have CT := Kd.C_take HCX (m := i) (by rw [HN.out]; omega)
   have elen : (xs.take i).length = i := by rw [List.length_take, HN.out]; omega
   have HH := has107 (some ad) c2 (xs.take i) wr.heap.size x _ CT (by rw [elen]; omega) BX.out (fun j hj => by
    rw [elen] at hj
    have e2 : (xs.take i).getD j z97 = xs.getD j z97 := by
     rw [List.getD_eq_getElem?_getD, List.getD_eq_getElem?_getD, List.getElem?_take_of_lt hj]
    rw [e2]; exact HX.out j hj)
   rw [elen] at HH
   have HHA := asd HH
   clear HH CT HCX elen hlt
   go_wp2_with fail
   refine HHA.out.mono ?_
   rintro e w5 ⟨rfl, hb⟩
   have HB5 := asd (below_step (below_step HB.out HBA.out) hb)
   clear hb
   go_wp2
   go_roundw
   case rel => exact ⟨i + 1, by first | (rw [wi]) | rfl, ⟨by have := HLT.out; omega⟩, HB5⟩
   case measure => first | (rw [wi]; exact Nat.sub_lt_sub_left HLT.out (Nat.lt_succ_self i)) | exact Nat.sub_lt_sub_left HLT.out (Nat.lt_succ_self i)
  ·have d1 : decide ((i : Int) < (n : Int)) = false := decide_eq_false (by omega)
   have d2 : decide (i < n) = false := decide_eq_false hlt
   have d4 : (i < n) = False := eq_false hlt
   clear hlt
   go_wp2
   go_ret2
   exact ⟨⟨_, rfl⟩, below_step HB2.out HB.out⟩
def busyG : List S97 → Int
 | [] => 0
 | b :: bs => (b.f1 - b.f0) + busyG bs
theorem busyG_app (a b : List S97) : busyG (a ++ b) = busyG a + busyG b := by
 induction a with
 | nil => simp [busyG]
 | cons x a ih => show (x.f1 - x.f0) + busyG (a ++ b) = (x.f1 - x.f0) + busyG a + busyG b; rw [ih]; omega
theorem busyG_map (bs : List S110) : busyG (bs.map toB) = busyB bs := by
 induction bs with
 | nil => rfl
 | cons x bs ih => show (x.f1 - x.f0) + busyG (bs.map toB) = (x.f1 - x.f0) + busyB bs; rw [ih]
theorem busyG_take (xs : List S97) (i : Nat) (hi : i < xs.length) : busyG (xs.take (i + 1)) = busyG (xs.take i) + ((xs.getD i z97).f1 - (xs.getD i z97).f0) := by
 rw [List.take_succ_eq_append_getElem hi, busyG_app]
 have e : xs.getD i z97 = xs[i] := by simp [List.getD, hi]
 rw [e]
 show _ + ((xs[i].f1 - xs[i].f0) + 0) = _
 omega
theorem busyG_bd (xs : List S97) (m : Int) (h : ∀ k, k < xs.length → 0 ≤ (xs.getD k z97).f0 ∧ (xs.getD k z97).f0 < (xs.getD k z97).f1 ∧ (xs.getD k z97).f1 ≤ m) (hm : 0 ≤ m) : ∀ i : Nat, i ≤ xs.length → 0 ≤ busyG (xs.take i) ∧ busyG (xs.take i) ≤ i * m := by
 intro i
 induction i with
 | zero => intro _; simp [busyG]
 | succ i ih =>
  intro hi
  obtain ⟨h1, h2⟩ := ih (by omega)
  have h3 := h i (by omega)
  rw [busyG_take xs i (by omega)]
  have e : ((i + 1 : Nat) : Int) * m = (i : Int) * m + m := by rw [Int.natCast_add, Int.add_mul]; simp
  rw [e]
  omega
set_option maxHeartbeats 16000000 in
set_option maxRecDepth 100000 in
theorem gbusy_calls (A : Option Addr) (c : Nat) (xs : List S97) (m : Int) (w : World) (h : Kd.C k97 w A xs.length xs) (hl : xs.length ≤ 1000) (hm : 0 ≤ m ∧ m ≤ 100000) (hb : ∀ k, k < xs.length → 0 ≤ (xs.getD k z97).f0 ∧ (xs.getD k z97).f0 < (xs.getD k z97).f1 ∧ (xs.getD k z97).f1 ≤ m) : Calls Try.prog 66 #[.slice A xs.length c, .int .i64 0, .int .i64 m] w fun e w' => e = .returned (.int .i64 (busyG xs)) ∧ Below w.heap.size w w' := by
 have hu97 := Try.underlying97
 have HC := asd h
 have HL := asd hl
 have HM := asd hm
 have HBD := asd hb
 have HT := asd (busyG_bd xs m hb hm.1)
 have HST := asd (busyG_take xs)
 clear h hl hb hm
 go_enter Try.func66, Try.ntmps66
 go_wp2
 go_loopw [7, 14] (fun v7 v14 wr => ∃ (i : Nat), v14 = .int .i64 i ∧ v7 = .int .i64 (busyG (xs.take i)) ∧ Aside0 (i ≤ xs.length) ∧ Aside0 (Below w.heap.size w wr)) (fun _ v _ => xs.length - (intOf v).toNat)
 case atStart => exact ⟨0, rfl, rfl, ⟨by omega⟩, ⟨Below.refl _ _⟩⟩
 case round =>
  obtain ⟨i, rfl, rfl, HI, HB⟩ := hrel
  by_cases hlt : i < xs.length
  ·have HLT := asd hlt
   have hl := HL.out
   have hm := HM.out
   have d1 : decide ((i : Int) < (xs.length : Int)) = true := decide_eq_true (by omega)
   have d2 : decide (i < xs.length) = true := decide_eq_true hlt
   have q0 : (0 ≤ (i : Int)) = True := eq_true (by omega)
   have q1 : ((i : Int) < (xs.length : Int)) = True := eq_true (by omega)
   have q2 : (i < xs.length) = True := eq_true hlt
   have wi : wrap64 ((i : Int) + 1) = ((i + 1 : Nat) : Int) := by unfold wrap64; omega
   obtain ⟨ad, hA, y0, y1, y2, y3⟩ := at_T97 (Kd.C_below HC.out HB.out) (i : Int) (by omega) (by omega)
   subst hA
   rw [rd97g, Int.toNat_natCast] at y0 y1 y2 y3
   have hx := HBD.out i hlt
   have ht := HST.out i hlt
   have hbd := HT.out i (by omega)
   have hmul : (i : Int) * m ≤ 100000000 := by
    have h1 : (i : Int) * m ≤ 1000 * m := Int.mul_le_mul_of_nonneg_right (by omega) hm.1
    omega
   generalize xs.getD i z97 = x at y0 y1 y2 y3 hx ht
   generalize busyG (xs.take i) = s at ht hbd ⊢
   have STP := asd ht
   have n1 : ¬ (x.f0 < 0) := by omega
   have n2 : ¬ (m < x.f1) := by omega
   have n3 : decide (x.f1 > x.f0) = true := decide_eq_true (by omega)
   have n4 : decide (x.f0 < x.f1) = true := n3
   have w1 : wrap64 (x.f1 - x.f0) = x.f1 - x.f0 := by unfold wrap64; omega
   have w2 : wrap64 (s + (x.f1 - x.f0)) = s + (x.f1 - x.f0) := by unfold wrap64; omega
   have HBA := asd (below_alloc HB.out (.cells #[.int .i64 x.f0, .int .i64 x.f1, .int .i64 x.f2, .int .i64 x.f3] 97))
   clear ht hbd hmul hx hl hm hlt
   go_wp2
   go_region
   go_wp2
   go_roundw
   case rel => exact ⟨i + 1, by first | (rw [wi]) | rfl, by first | (rw [w2, STP.out]) | (rw [STP.out]), ⟨by have := HLT.out; omega⟩, ⟨below_drew HBA.out⟩⟩
   case measure => first | (rw [wi]; exact Nat.sub_lt_sub_left HLT.out (Nat.lt_succ_self i)) | exact Nat.sub_lt_sub_left HLT.out (Nat.lt_succ_self i)
  ·have e : i = xs.length := by have := HI.out; omega
   have d1 : decide ((i : Int) < (xs.length : Int)) = false := decide_eq_false (by omega)
   have d2 : decide (i < xs.length) = false := decide_eq_false hlt
   have d4 : (i < xs.length) = False := eq_false hlt
   have ET : Aside0 (busyG (xs.take i) = busyG xs) := ⟨by rw [e, List.take_length]⟩
   clear hlt e
   go_wp2
   go_ret
   exact ⟨by rw [ET.out]; rfl, HB.out⟩
end Go.Proofs.Ytalimpniimgheaa.Fn
namespace Go.Proofs.Ytalimpniimgheaa.Fn
open Go.RowKit Go.Proofs.YtalimpniimgheaaW.PrintWords Go.Proofs.YtalimpniimgheaaW.PrintLast Go.Proofs.YtalimpniimgheaaW.PrintMore
set_option linter.unusedVariables false
set_option linter.unusedSimpArgs false
def gc9T : Bool × List (List Nat × List Nat) := (true, [([], []), ([], []), ([], []), ([], []), ([2, 3], [2, 3]), ([4], [4]), ([5], [5]), ([6], [6]), ([], []), ([], []), ([8, 9], [8, 9]), ([10], [10]), ([11], [11]), ([12], [12]), ([13], [13]), ([1, 7, 14], [1, 7, 14]), ([15], [15]), ([0, 16], [0, 16]), ([17, 17, 0, 1, 2, 3, 4, 5, 6, 7, 8, 9, 10, 11, 12, 13, 14, 15, 16, 17], [0, 17])])
def gc9B : List Nat := [0, 0, 0, 0, 12, 28, 60, 124, 0, 0, 768, 1792, 3840, 7936, 16128, 32766, 65534, 131071, 262143]
theorem gc9_tab : rtab .any (opsOf Try.f13 9) = gc9T := by kernel_rfl
theorem gc9_bits : waitsOk gc9T.2 gc9B = true := by kernel_rfl
theorem hat_u8 {w : World} {A : Option Addr} {n : Nat} {ys : List Int} (h : Kd.C (Kd.int .u8) w A n ys) (i : Int) (h0 : 0 ≤ i) (h1 : i < n) : ∃ ad, A = some ad ∧ w.cell? (ad.add i.toNat) = some (.int .u8 (ys.getD i.toNat 0)) := by
 obtain ⟨ad, cc, rfl, _, hK, hc0⟩ := Kd.C_get h 0 i h0 h1
 have ee : cc = [.int .u8 (ys.getD i.toNat 0)] := hK
 subst ee
 refine ⟨ad, rfl, ?_⟩
 have h := hc0 0 _ rfl
 rwa [show i.toNat * (Kd.int .u8).sz + 0 = i.toNat from Nat.mul_one _] at h
theorem gbm (bs : List S110) (i : Nat) (hi : i < bs.length) : (bs.map toB).getD i z97 = toB (gb bs i) := by
 unfold gb
 rw [getD_lt _ _ (by rw [List.length_map]; exact hi), List.getElem_map, getD_lt bs z110 hi]
theorem esm (es : List S64) (i : Nat) (hi : i < es.length) : (es.map toE).getD i z65 = toE (es.getD i z64) := by
 rw [getD_lt _ _ (by rw [List.length_map]; exact hi), List.getElem_map, getD_lt es z64 hi]
theorem BI.risG {es : List S64} {bs : List S110} {hi : Int} (h : BI es bs hi) : RisG (bs.map toB) := fun i j hij hj => by
 rw [List.length_map] at hj
 rw [gbm bs i (by omega), gbm bs j hj]
 have h1 := h.apart hij hj
 have h2 := (h.pos i (by omega)).2.1
 show (gb bs i).f0 < (gb bs j).f0
 omega
theorem BI.noMeet {es : List S64} {bs : List S110} {hi : Int} (h : BI es bs hi) (i j : Nat) (hij : j < i) (hi' : i < (bs.map toB).length) : pMeet ((bs.map toB).getD i z97) ((bs.map toB).getD j z97) = false := by
 rw [List.length_map] at hi'
 rw [gbm bs i hi', gbm bs j (by omega)]
 have h1 := h.apart hij hi'
 unfold pMeet
 refine decide_eq_false ?_
 show ¬ (mx (gb bs j).f0 (gb bs i).f0 < mn (gb bs j).f1 (gb bs i).f1)
 unfold mx mn
 split <;> split <;> omega
theorem BI.busy {es : List S64} {bs : List S110} {hi : Int} (h : BI es bs hi) (k : Nat) (hk : k < (bs.map toB).length) : 0 ≤ ((bs.map toB).getD k z97).f0 ∧ ((bs.map toB).getD k z97).f0 < ((bs.map toB).getD k z97).f1 ∧ ((bs.map toB).getD k z97).f1 ≤ hi := by
 rw [List.length_map] at hk
 rw [gbm bs k hk]
 exact h.pos k hk
theorem BI.hit {es : List S64} {bs : List S110} {hi : Int} (h : BI es bs hi) (i : Nat) (hi' : i < es.length) : ∃ k, k < (bs.map toB).length ∧ pAt (es.getD i z64).f0 ((bs.map toB).getD k z97) = true := by
 obtain ⟨k, k1, k2, k3, _⟩ := h.cov i hi'
 refine ⟨k, by rw [List.length_map]; exact k1, ?_⟩
 rw [gbm bs k k1]
 unfold pAt
 rw [show decide ((toB (gb bs k)).f0 ≤ (es.getD i z64).f0) = true from decide_eq_true k2, show decide ((es.getD i z64).f0 < (toB (gb bs k)).f1) = true from decide_eq_true k3]
 rfl
theorem BI.same {es : List S64} {bs : List S110} {hi : Int} (h : BI es bs hi) (i : Nat) (hi' : i < es.length) (k : Nat) (hk : k < (bs.map toB).length) (hp : pAt (es.getD i z64).f0 ((bs.map toB).getD k z97) = true) : ((bs.map toB).getD k z97).f2 = (es.getD i z64).f2 ∧ ((bs.map toB).getD k z97).f3 = (es.getD i z64).f3 := by
 rw [List.length_map] at hk
 rw [gbm bs k hk] at hp ⊢
 obtain ⟨m, m1, m2, m3, m4, m5⟩ := h.cov i hi'
 unfold pAt at hp
 rw [Bool.and_eq_true, decide_eq_true_iff, decide_eq_true_iff] at hp
 have p1 : (gb bs k).f0 ≤ (es.getD i z64).f0 := hp.1
 have p2 : (es.getD i z64).f0 < (gb bs k).f1 := hp.2
 have e : m = k := by
  rcases Nat.lt_trichotomy m k with q | q | q
  ·have := h.apart q hk; omega
  ·exact q
  ·have := h.apart q m1; omega
 subst e
 exact ⟨m4, m5⟩
set_option maxHeartbeats 16000000 in
set_option maxRecDepth 100000 in
theorem gcounts_walk (a0 : Option Addr) (c0 : Nat) (st : List Int) (a1 : Option Addr) (c1 : Nat) (wh : List Int) (w : World) (hr0 : Kd.C (Kd.int .u8) w a0 st.length st) (hr1 : Kd.C (Kd.int .u8) w a1 wh.length wh) (hs : ∀ x ∈ st, 0 ≤ x ∧ x ≤ 255) (hw : ∀ x ∈ wh, 0 ≤ x ∧ x ≤ 255) : Calls Try.prog 13 #[.slice a0 st.length c0, .slice a1 wh.length c1] w fun e w' => e = .returned (.bool true) ∧ Below w.heap.size w w' := by
 have hu97 := Try.underlying97
 have hu65 := Try.underlying65
 have HR0 := asd hr0
 have HR1 := asd hr1
 have HS := asd (fun i (hi : i < st.length) => hs (st.getD i 0) (by rw [getD_lt st 0 hi]; exact List.getElem_mem hi))
 have HW := asd (fun i (hi : i < wh.length) => hw (wh.getD i 0) (by rw [getD_lt wh 0 hi]; exact List.getElem_mem hi))
 clear hr0 hr1 hs hw
 by_cases h150 : st.length ≤ 150
 ·have d0 : decide ((st.length : Int) > 150) = false := decide_eq_false (by omega)
  have d1 : decide (150 < (st.length : Int)) = false := d0
  have d2 : decide (150 < st.length) = false := decide_eq_false (by omega)
  have H150 := asd h150
  by_cases hlen : st.length ≤ wh.length
  ·have e0 : decide ((wh.length : Int) < (st.length : Int)) = false := decide_eq_false (by omega)
   have e1 : decide (wh.length < st.length) = false := decide_eq_false (by omega)
   have HLEN := asd hlen
   clear h150 hlen
   go_enter Try.func13, Try.ntmps13
   go_wp2_with fail
   refine (knows27_calls _).mono ?_
   rintro e w1 ⟨rfl, hb⟩
   have HB1 := asd hb
   clear hb
   go_wp2
   go_loopw [5, 6, 7] (fun v5 v6 v7 wr => ∃ (i : Nat) (es : List S64) (now : Int) (A' : Option Addr) (c' : Nat), v7 = .int .i64 i ∧ v6 = .int .i64 now ∧ v5 = .slice A' es.length c' ∧ Aside0 (i ≤ st.length ∧ es.length = i ∧ 0 ≤ now ∧ now ≤ 4 * i) ∧ Aside0 (Rise es (now + 1)) ∧ Aside0 (k65.R 65 wr w.heap.size (fun _ => True) (.slice A' es.length c') (es.map toE)) ∧ Aside0 (Below w.heap.size w wr)) (fun _ _ v _ => st.length - (intOf v).toNat)
   case atStart => exact ⟨0, [], 0, none, 0, rfl, rfl, rfl, ⟨by simp⟩, ⟨Rise.nil 1⟩, ⟨Kd.R_nil _ _ _ _ _⟩, HB1⟩
   case round =>
    obtain ⟨i, es, now, A', c', rfl, rfl, rfl, HI, HRI, HO, HB⟩ := hrel
    by_cases hlt : i < st.length
    ·have q1 : decide ((i : Int) < (st.length : Int)) = true := decide_eq_true (by omega)
     have q2 : decide (i < st.length) = true := decide_eq_true hlt
     have hI := HI.out
     have hL := HLEN.out
     have hN := H150.out
     have p0 : (0 ≤ (i : Int)) = True := eq_true (by omega)
     have p1 : ((i : Int) < (st.length : Int)) = True := eq_true (by omega)
     have p2 : (i < st.length) = True := eq_true hlt
     have p3 : ((i : Int) < (wh.length : Int)) = True := eq_true (by omega)
     have p4 : (i < wh.length) = True := eq_true (by omega)
     have wi : wrap64 ((i : Int) + 1) = ((i + 1 : Nat) : Int) := by unfold wrap64; omega
     obtain ⟨ad0, hA0, y0⟩ := hat_u8 (Kd.C_below HR0.out HB.out) (i : Int) (by omega) (by omega)
     obtain ⟨ad1, hA1, y1⟩ := hat_u8 (Kd.C_below HR1.out HB.out) (i : Int) (by omega) (by omega)
     subst hA0 hA1
     rw [Int.toNat_natCast] at y0 y1
     have sb := HS.out i hlt
     have wb := HW.out i (by omega)
     generalize st.getD i 0 = s at y0 sb
     generalize wh.getD i 0 = u at y1 wb
     have HLT := asd hlt
     have SB := asd sb
     have WB := asd wb
     obtain ⟨tk, htk⟩ : ∃ tk : Int, tk = now + 1 + s % 4 := ⟨_, rfl⟩
     have wt : wrap64 (wrap64 (now + 1) + (wrap64 s).tmod 4) = tk := by
      have e1 : wrap64 s = s := by unfold wrap64; omega
      have e2 : wrap64 (now + 1) = now + 1 := by unfold wrap64; omega
      rw [e1, e2, Int.tmod_eq_emod_of_nonneg sb.1]
      unfold wrap64; omega
     have TB : Aside0 (now + 1 ≤ tk ∧ tk ≤ now + 4) := ⟨by omega⟩
     have y1d := pw_cell_below (below_drew (Below.refl wr.heap.size wr)) y1
     obtain ⟨fa, hfa⟩ : ∃ fa : Int, fa = (wrap64 u).tmod 3 := ⟨_, rfl⟩
     obtain ⟨fb, hfb⟩ : ∃ fb : Int, fb = (wrap64 ((wrap64 u).tdiv 3)).tmod 2 := ⟨_, rfl⟩
     have wfa : (wrap64 u).tmod 3 = fa := hfa.symm
     have wfb : (wrap64 ((wrap64 u).tdiv 3)).tmod 2 = fb := hfb.symm
     clear hlt hI hL hN sb wb htk hfa hfb
     go_wp2_with fail
     rw [wt]
     clear wt
     refine start_ (n := 19) (S := fun w' => w'.cell? (ad1.add i) = some (.int .u8 u)) (ds := [16, 17]) #[false, false, false, false, false, false, false, false, false, false, false, false, false, false, false, false, false, false, false] (by kernel_rfl) rfl rfl y1d (fun hHeld => ?_); refine with_tabW gc9_tab gc9_bits (fun HT_ HW_ => ?_)
     have HBd := asd (below_drew HB.out)
     have HOd := asd (Kd.R_drew HO.out)
     clear HB HO y0 y1 y1d
     generalize wr.drew = wd at HBd HOd hHeld ⊢
     refine pure_ (i := 0) (N := (some 45)) (v := ?_) (a' := ?_) #[true, false, false, false, false, false, false, false, false, false, false, false, false, false, false, false, false, false, false] rfl rfl (any_of HT_.out (by kernel_rfl)) (fun _ _ _ h => h) (Or.inl ⟨by rfl, ?_⟩) ?_ ?_
     rotate_left
     ·intro w'
      go_simp
      with_reducible rfl
     rotate_left
     ·simp only [Act.put, sB, i64_w, i32_w]
      rfl
     refine pure_ (i := 1) (N := (some 46)) (v := ?_) (a' := ?_) #[true, true, false, false, false, false, false, false, false, false, false, false, false, false, false, false, false, false, false] rfl rfl (any_of HT_.out (by kernel_rfl)) (fun _ _ _ h => h) (Or.inl ⟨by rfl, ?_⟩) ?_ ?_
     rotate_left
     ·intro w'
      go_simp
      with_reducible rfl
     rotate_left
     ·simp only [Act.put, sB, i64_w, i32_w]
      rfl
     refine pure_ (i := 2) (N := (some 47)) (v := ?_) (a' := ?_) #[true, true, true, false, false, false, false, false, false, false, false, false, false, false, false, false, false, false, false] rfl rfl (any_of HT_.out (by kernel_rfl)) (fun _ _ _ h => h) (Or.inl ⟨by rfl, ?_⟩) ?_ ?_
     rotate_left
     ·intro w'
      go_simp
      with_reducible rfl
     rotate_left
     ·simp only [Act.put, sB, i64_w, i32_w]
      rfl
     refine pure_ (i := 3) (N := (some 48)) (v := ?_) (a' := ?_) #[true, true, true, true, false, false, false, false, false, false, false, false, false, false, false, false, false, false, false] rfl rfl (any_of HT_.out (by kernel_rfl)) (fun _ _ _ h => h) (Or.inl ⟨by rfl, ?_⟩) ?_ ?_
     rotate_left
     ·intro w'
      go_simp
      with_reducible rfl
     rotate_left
     ·simp only [Act.put, sB, i64_w, i32_w]
      rfl
     refine pure_ (i := 4) (N := (some 49)) (v := ?_) (a' := ?_) #[true, true, true, true, true, false, false, false, false, false, false, false, false, false, false, false, false, false, false] rfl rfl (any_of HT_.out (by kernel_rfl)) (fun _ _ _ h => h) (Or.inl ⟨by rfl, ?_⟩) ?_ ?_
     rotate_left
     ·intro w'
      go_simp
      with_reducible rfl
     rotate_left
     ·simp only [Act.put, sB, i64_w, i32_w]
      rfl
     refine take_ (i := 5) (N := (some 50)) (v := ?_) (a' := ?_) #[true, true, true, true, true, true, false, false, false, false, false, false, false, false, false, false, false, false, false] rfl rfl (take_ofW HT_.out HW_.out (by kernel_rfl)) (fun _ _ _ h => h) (Or.inl ⟨by rfl, ?_⟩) hHeld ?_ ?_
     rotate_left
     ·rintro w' s0
      go_simp
      with_reducible rfl
     rotate_left
     ·simp only [Act.put, sB, i64_w, i32_w]
      rfl
     refine pure_ (i := 6) (N := (some 51)) (v := ?_) (a' := ?_) #[true, true, true, true, true, true, true, false, false, false, false, false, false, false, false, false, false, false, false] rfl rfl (any_of HT_.out (by kernel_rfl)) (fun _ _ _ h => h) (Or.inl ⟨by rfl, ?_⟩) ?_ ?_
     rotate_left
     ·intro w'
      go_simp
      with_reducible rfl
     rotate_left
     ·simp only [Act.put, sB, i64_w, i32_w]
      rfl
     refine pure_ (i := 7) (N := (some 52)) (v := ?_) (a' := ?_) #[true, true, true, true, true, true, true, true, false, false, false, false, false, false, false, false, false, false, false] rfl rfl (any_of HT_.out (by kernel_rfl)) (fun _ _ _ h => h) (Or.inl ⟨by rfl, ?_⟩) ?_ ?_
     rotate_left
     ·intro w'
      go_simp
      with_reducible rfl
     rotate_left
     ·simp only [Act.put, sB, i64_w, i32_w]
      rfl
     refine pure_ (i := 8) (N := (some 53)) (v := ?_) (a' := ?_) #[true, true, true, true, true, true, true, true, true, false, false, false, false, false, false, false, false, false, false] rfl rfl (any_of HT_.out (by kernel_rfl)) (fun _ _ _ h => h) (Or.inl ⟨by rfl, ?_⟩) ?_ ?_
     rotate_left
     ·intro w'
      go_simp
      with_reducible rfl
     rotate_left
     ·simp only [Act.put, sB, i64_w, i32_w]
      rfl
     refine pure_ (i := 9) (N := (some 54)) (v := ?_) (a' := ?_) #[true, true, true, true, true, true, true, true, true, true, false, false, false, false, false, false, false, false, false] rfl rfl (any_of HT_.out (by kernel_rfl)) (fun _ _ _ h => h) (Or.inl ⟨by rfl, ?_⟩) ?_ ?_
     rotate_left
     ·intro w'
      go_simp
      with_reducible rfl
     rotate_left
     ·simp only [Act.put, sB, i64_w, i32_w]
      rfl
     refine pure_ (i := 10) (N := (some 55)) (v := ?_) (a' := ?_) #[true, true, true, true, true, true, true, true, true, true, true, false, false, false, false, false, false, false, false] rfl rfl (any_of HT_.out (by kernel_rfl)) (fun _ _ _ h => h) (Or.inl ⟨by rfl, ?_⟩) ?_ ?_
     rotate_left
     ·intro w'
      go_simp
      with_reducible rfl
     rotate_left
     ·simp only [Act.put, sB, i64_w, i32_w]
      rfl
     refine take_ (i := 11) (N := (some 56)) (v := ?_) (a' := ?_) #[true, true, true, true, true, true, true, true, true, true, true, true, false, false, false, false, false, false, false] rfl rfl (take_ofW HT_.out HW_.out (by kernel_rfl)) (fun _ _ _ h => h) (Or.inl ⟨by rfl, ?_⟩) hHeld ?_ ?_
     rotate_left
     ·rintro w' s0
      go_simp
      with_reducible rfl
     rotate_left
     ·simp only [Act.put, sB, i64_w, i32_w]
      rfl
     refine pure_ (i := 12) (N := (some 57)) (v := ?_) (a' := ?_) #[true, true, true, true, true, true, true, true, true, true, true, true, true, false, false, false, false, false, false] rfl rfl (any_of HT_.out (by kernel_rfl)) (fun _ _ _ h => h) (Or.inl ⟨by rfl, ?_⟩) ?_ ?_
     rotate_left
     ·intro w'
      go_simp
      with_reducible rfl
     rotate_left
     ·simp only [Act.put, sB, i64_w, i32_w]
      rfl
     refine pure_ (i := 13) (N := (some 58)) (v := ?_) (a' := ?_) #[true, true, true, true, true, true, true, true, true, true, true, true, true, true, false, false, false, false, false] rfl rfl (any_of HT_.out (by kernel_rfl)) (fun _ _ _ h => h) (Or.inl ⟨by rfl, ?_⟩) ?_ ?_
     rotate_left
     ·intro w'
      go_simp
      with_reducible rfl
     rotate_left
     ·simp only [Act.put, sB, i64_w, i32_w]
      rfl
     refine pure_ (i := 14) (N := (some 59)) (v := ?_) (a' := ?_) #[true, true, true, true, true, true, true, true, true, true, true, true, true, true, true, false, false, false, false] rfl rfl (any_of HT_.out (by kernel_rfl)) (fun _ _ _ h => h) (Or.inl ⟨by rfl, ?_⟩) ?_ ?_
     rotate_left
     ·intro w'
      go_simp
      with_reducible rfl
     rotate_left
     ·simp only [Act.put, sB, i64_w, i32_w]
      rfl
     refine pure_ (i := 15) (N := (some 60)) (v := ?_) (a' := ?_) #[true, true, true, true, true, true, true, true, true, true, true, true, true, true, true, true, false, false, false] rfl rfl (any_of HT_.out (by kernel_rfl)) (fun _ _ _ h => h) (Or.inl ⟨by rfl, ?_⟩) ?_ ?_
     rotate_left
     ·intro w'
      go_simp
      with_reducible rfl
     rotate_left
     ·simp only [Act.put, sB, i64_w, i32_w]
      rfl
     refine last_ (i := 16) (N := (some 61)) #[true, true, true, true, true, true, true, true, true, true, true, true, true, true, true, true, true, false, false] rfl rfl (one_of HT_.out (by kernel_rfl)) (by decide) (fun K hK => ?_)
     refine value_ (w1 := ?_) (v := ?_) (by rfl) rfl ?_ ?_
     rotate_left 2
     ·go_simp
      constructor
      ·rfl
      ·rfl
     refine hK.out _ _ ?_
     clear hK K
     refine norm_ (a' := ?_) ?_ ?_
     rotate_left
     ·show Act.put _ (some 61) _ = _
      simp only [Act.put, sB, i64_w, i32_w]
      rfl
     refine last_ (i := 17) (N := (some 62)) #[true, true, true, true, true, true, true, true, true, true, true, true, true, true, true, true, true, true, false] rfl rfl (one_of HT_.out (by kernel_rfl)) (by decide) (fun K hK => ?_)
     refine Kd.R_append_step k65 (w0 := w) w.heap.size (by rfl) (.tmp 45) (.tmp 61) 31 65 (.agg #[.int .i64 0, .int .i64 0, .int .i64 0, .int .i64 0]) 32 rfl Try.underlying31 info65 rfl (by decide) (by omega) (.slice A' es.length c') (es.map toE) (toE ⟨tk, 3, fa, fb⟩) [.int .i64 tk, .int .i64 3, .int .i64 fa, .int .i64 fb] (fun _ => True) (fun _ => False) rfl rfl (k65_mkM _ _ _ _) (fun _ hk => hk.elim) (fun _ _ => trivial) HOd.out HBd.out (below_size HBd.out) (by rw [List.length_map]; have := HI.out; have := H150.out; omega) ?_
     intro v9 w9 ho hb hgr hat
     obtain ⟨A9, c9, rfl⟩ := Kd.R_slice ho
     have HO9 := asd ho
     have HB9 := asd hb
     clear ho hb hgr hat HOd HBd
     refine hK.out _ _ ?_
     clear hK K
     refine norm_ (a' := ?_) ?_ ?_
     rotate_left
     ·show Act.put _ (some 62) _ = _
      simp only [Act.put, sB, i64_w, i32_w]
      rfl
     refine pure_ (i := 18) (N := (some 5)) (v := ?_) (a' := ?_) #[true, true, true, true, true, true, true, true, true, true, true, true, true, true, true, true, true, true, true] rfl rfl (any_of HT_.out (by kernel_rfl)) (fun _ _ _ h => h) (Or.inl ⟨by rfl, ?_⟩) ?_ ?_
     rotate_left
     ·intro w'
      go_simp
      with_reducible rfl
     rotate_left
     ·simp only [Act.put, sB, i64_w, i32_w]
      rfl
     refine done_ (done_of HT_.out (by kernel_rfl)) ?_
     try go_wp2
     go_roundw
     case rel =>
      have RI2 := HRI.out.snoc ⟨tk, 3, fa, fb⟩ rfl (by have := HI.out; have := TB.out; show 0 ≤ tk; omega) (by have := TB.out; show now + 1 ≤ tk; omega) (by have := HI.out; have := TB.out; have := H150.out; show tk < 4611686018427387904; omega)
      refine ⟨i + 1, es ++ [⟨tk, 3, fa, fb⟩], tk, A9, c9, by first | (rw [wi]) | rfl, rfl, ?_, ⟨by have := HLT.out; omega, by rw [List.length_append, HI.out.2.1]; rfl, by have := HI.out; have := TB.out; omega, by have := HI.out; have := TB.out; omega⟩, ⟨RI2⟩, ⟨?_⟩, HB9⟩
      ·first | rfl | (congr 1; simp)
      ·have h := HO9.out
       rw [List.map_append]
       simpa using h
     case measure => first | (rw [wi]; exact Nat.sub_lt_sub_left HLT.out (Nat.lt_succ_self i)) | exact Nat.sub_lt_sub_left HLT.out (Nat.lt_succ_self i)
    ·have q1 : decide ((i : Int) < (st.length : Int)) = false := decide_eq_false (by omega)
     have q2 : decide (i < st.length) = false := decide_eq_false hlt
     have q3 : (i < st.length) = False := eq_false hlt
     have HE : Aside0 (es.length ≤ 150) := ⟨by have := HI.out; have := H150.out; omega⟩
     have HNOW : Aside0 (0 ≤ now ∧ now ≤ 600) := ⟨by have := HI.out; have := H150.out; omega⟩
     have HC := Kd.R_reads' HO.out
     rw [List.length_map] at HC
     have HES := asd HC.2.2
     have GB := asd (gbars_calls wr es HC.2.2 HC.2.1 (by have := HE.out; omega))
     clear hlt HC
     go_wp2_with fail
     refine GB.out.mono ?_
     rintro e w2 ⟨A2, c2, rfl, ⟨hC2, hc2, _⟩, hb⟩
     have HC2 := asd hC2
     have HB2 := asd (below_step HB.out hb)
     have HES2 := asd (Kd.C_below HES.out hb)
     clear hC2 hc2 hb GB HES HB
     generalize hbs : barsOf es = bs at HC2 ⊢
     have BIS : Aside0 (BI es bs (now + 1)) := ⟨by rw [← hbs]; exact HRI.out.bi⟩
     have HN : Aside0 (bs.length ≤ 150) := ⟨by have := BIS.out.len; have := HE.out; omega⟩
     clear hbs q1 q2 q3
     go_wp2
     go_loopw [9] (fun v9 wr => ∃ (i : Nat), v9 = .int .i64 i ∧ Aside0 (i ≤ bs.length) ∧ Aside0 (Below w2.heap.size w2 wr)) (fun v _ => bs.length - (intOf v).toNat)
     case atStart => exact ⟨0, rfl, ⟨by omega⟩, ⟨Below.refl _ _⟩⟩
     case round =>
      obtain ⟨i, rfl, HI, HB⟩ := hrel
      by_cases hlt : i < bs.length
      ·have HLT := asd hlt
       have hn := HN.out
       have q1 : decide ((i : Int) < (bs.length : Int)) = true := decide_eq_true (by omega)
       have q2 : decide (i < bs.length) = true := decide_eq_true hlt
       have p0 : (0 ≤ (i : Int)) = True := eq_true (by omega)
       have p1 : ((i : Int) < (bs.length : Int)) = True := eq_true (by omega)
       have p2 : (i < bs.length) = True := eq_true hlt
       have wi : wrap64 ((i : Int) + 1) = ((i + 1 : Nat) : Int) := by unfold wrap64; omega
       obtain ⟨ad, hA, y0, y1, y2, y3⟩ := at_T97 (Kd.C_below HC2.out HB.out) (i : Int) (by omega) (by omega)
       subst hA
       rw [rd97g, gbm bs i hlt, Int.toNat_natCast] at y0 y1 y2 y3
       have hp := BIS.out.pos i hlt
       have HBD := asd (below_drew (below_drew HB.out))
       by_cases hi0 : 0 < i
       ·obtain ⟨p, hpp⟩ : ∃ p : Nat, p + 1 = i := ⟨i - 1, by omega⟩
        have g1 : decide ((i : Int) > 0) = true := decide_eq_true (by omega)
        have g2 : decide (0 < (i : Int)) = true := g1
        have g3 : decide (0 < i) = true := decide_eq_true hi0
        have g4 : (0 < i) = True := eq_true hi0
        have wq := wSub1 i p hpp (by omega)
        have p3 : (0 ≤ (p : Int)) = True := eq_true (by omega)
        have p4 : ((p : Int) < (bs.length : Int)) = True := eq_true (by omega)
        have p5 : (p < bs.length) = True := eq_true (by omega)
        obtain ⟨ad2, hA2, z0, z1, z2, z3⟩ := at_T97 (Kd.C_below HC2.out HB.out) (p : Int) (by omega) (by omega)
        obtain rfl := Option.some.inj hA2
        rw [rd97g, gbm bs p (by omega), Int.toNat_natCast] at z0 z1 z2 z3
        have hri := BIS.out.ris p (by omega)
        rw [hpp] at hri
        replace y0 : _ = some (Value.int .i64 (gb bs i).f0) := y0
        replace y1 : _ = some (Value.int .i64 (gb bs i).f1) := y1
        replace y2 : _ = some (Value.int .i64 (gb bs i).f2) := y2
        replace y3 : _ = some (Value.int .i64 (gb bs i).f3) := y3
        replace z0 : _ = some (Value.int .i64 (gb bs p).f0) := z0
        replace z1 : _ = some (Value.int .i64 (gb bs p).f1) := z1
        replace z2 : _ = some (Value.int .i64 (gb bs p).f2) := z2
        replace z3 : _ = some (Value.int .i64 (gb bs p).f3) := z3
        generalize gb bs i = x at y0 y1 y2 y3 hp hri
        generalize gb bs p = y at z0 z1 z2 z3 hri
        have f1 : decide (x.f1 ≤ x.f0) = false := decide_eq_false (by omega)
        have f2 : decide (x.f0 < y.f1) = false := decide_eq_false (by omega)
        by_cases c1 : x.f0 = y.f1
        ·have h1 : (x.f0 == y.f1) = true := beq_iff_eq.2 c1
         by_cases c2 : x.f2 = y.f2
         ·have h2 : (x.f2 == y.f2) = true := beq_iff_eq.2 c2
          have h3 : (x.f3 == y.f3) = false := beq_eq_false_iff_ne.2 (fun c3 => hri.2 ⟨c1.symm, c2.symm, c3.symm⟩)
          clear hlt hn hp hpp hri c1 c2 hi0
          go_wp2_with fail
          go_big_region
          go_wp2_with fail
          go_big_region
          go_wp2
          go_roundw
          case rel => exact ⟨i + 1, by first | (rw [wi]) | rfl, ⟨by have := HLT.out; omega⟩, HBD⟩
          case measure => first | (rw [wi]; exact Nat.sub_lt_sub_left HLT.out (Nat.lt_succ_self i)) | exact Nat.sub_lt_sub_left HLT.out (Nat.lt_succ_self i)
         ·have h2 : (x.f2 == y.f2) = false := beq_eq_false_iff_ne.2 c2
          clear hlt hn hp hpp hri c1 c2 hi0
          go_wp2_with fail
          go_big_region
          go_wp2_with fail
          go_big_region
          go_wp2
          go_roundw
          case rel => exact ⟨i + 1, by first | (rw [wi]) | rfl, ⟨by have := HLT.out; omega⟩, HBD⟩
          case measure => first | (rw [wi]; exact Nat.sub_lt_sub_left HLT.out (Nat.lt_succ_self i)) | exact Nat.sub_lt_sub_left HLT.out (Nat.lt_succ_self i)
        ·have h1 : (x.f0 == y.f1) = false := beq_eq_false_iff_ne.2 c1
         clear hlt hn hp hpp hri c1 hi0
         go_wp2_with fail
         go_big_region
         go_wp2_with fail
         go_big_region
         go_wp2
         go_roundw
         case rel => exact ⟨i + 1, by first | (rw [wi]) | rfl, ⟨by have := HLT.out; omega⟩, HBD⟩
         case measure => first | (rw [wi]; exact Nat.sub_lt_sub_left HLT.out (Nat.lt_succ_self i)) | exact Nat.sub_lt_sub_left HLT.out (Nat.lt_succ_self i)
       ·have g1 : decide ((i : Int) > 0) = false := decide_eq_false (by omega)
        have g2 : decide (0 < (i : Int)) = false := g1
        have g3 : decide (0 < i) = false := decide_eq_false hi0
        have g4 : (0 < i) = False := eq_false hi0
        replace y0 : _ = some (Value.int .i64 (gb bs i).f0) := y0
        replace y1 : _ = some (Value.int .i64 (gb bs i).f1) := y1
        generalize gb bs i = x at y0 y1 hp
        have f1 : decide (x.f1 ≤ x.f0) = false := decide_eq_false (by omega)
        clear hlt hn hp hi0 y2 y3
        go_wp2_with fail
        go_big_region
        go_wp2_with fail
        go_big_region
        go_wp2
        go_roundw
        case rel => exact ⟨i + 1, by first | (rw [wi]) | rfl, ⟨by have := HLT.out; omega⟩, HBD⟩
        case measure => first | (rw [wi]; exact Nat.sub_lt_sub_left HLT.out (Nat.lt_succ_self i)) | exact Nat.sub_lt_sub_left HLT.out (Nat.lt_succ_self i)
      ·have q1 : decide ((i : Int) < (bs.length : Int)) = false := decide_eq_false (by omega)
       have q2 : decide (i < bs.length) = false := decide_eq_false hlt
       have q3 : (i < bs.length) = False := eq_false hlt
       have HC3 := asd (Kd.C_below HC2.out HB.out)
       have HES3 := asd (Kd.C_below HES2.out HB.out)
       have HB3 := asd (below_step HB2.out HB.out)
       clear hlt
       go_wp2
       go_loopw [10] (fun v10 wr => ∃ (i : Nat), v10 = .int .i64 i ∧ Aside0 (i ≤ es.length) ∧ Aside0 (k97.C wr A2 bs.length (bs.map toB)) ∧ Aside0 (k65.C wr A' es.length (es.map toE)) ∧ Aside0 (Below w.heap.size w wr)) (fun v _ => es.length - (intOf v).toNat)
       case atStart => exact ⟨0, rfl, ⟨by omega⟩, HC3, HES3, HB3⟩
       case round =>
        clear HC3 HES3 HB3
        obtain ⟨i, rfl, HI, HC3, HES3, HB⟩ := hrel
        by_cases hlt : i < es.length
        ·have HLT := asd hlt
         have hn := HE.out
         have q1 : decide ((i : Int) < (es.length : Int)) = true := decide_eq_true (by omega)
         have q2 : decide (i < es.length) = true := decide_eq_true hlt
         have p0 : (0 ≤ (i : Int)) = True := eq_true (by omega)
         have p1 : ((i : Int) < (es.length : Int)) = True := eq_true (by omega)
         have p2 : (i < es.length) = True := eq_true hlt
         have wi : wrap64 ((i : Int) + 1) = ((i + 1 : Nat) : Int) := by unfold wrap64; omega
         have er : rd_T65 (es.map toE) (i : Int) = toE (es.getD i z64) := by unfold rd_T65; rw [Int.toNat_natCast]; exact esm es i hlt
         obtain ⟨ad, hA, z0, _⟩ := at_T65 HES3.out (i : Int) (by omega) (by omega)
         subst hA
         rw [er, Int.toNat_natCast] at z0
         replace z0 : _ = some (Value.int .i64 (es.getD i z64).f0) := z0
         have GA := gat_calls A2 c2 (bs.map toB) (es.getD i z64).f0 wr (by rw [List.length_map]; exact HC3.out) (by rw [List.length_map]; have := HN.out; omega) (BIS.out.hit i hlt)
         rw [List.length_map] at GA
         have GAA := asd GA
         have SAME := asd (fun k hk hp => BIS.out.same i hlt k (by rw [List.length_map]; exact hk) hp)
         generalize es.getD i z64 = en at z0 GAA SAME er
         clear GA hlt hn
         go_wp2_with fail
         refine GAA.out.mono ?_
         rintro e w5 ⟨⟨k, hk, hp, rfl⟩, hb⟩
         have hs := SAME.out k hk hp
         generalize (bs.map toB).getD k z97 = x at hs ⊢
         have HB5 := asd hb
         have HBA := asd (below_alloc HB5.out (.cells #[.int .i64 x.f0, .int .i64 x.f1, .int .i64 x.f2, .int .i64 x.f3] 97))
         have HBD := asd (below_drew HBA.out)
         obtain ⟨ad2, hA2, _, _, z2, z3⟩ := at_T65 (Kd.C_below HES3.out HBA.out) (i : Int) (by omega) (by have := HLT.out; omega)
         obtain rfl := Option.some.inj hA2
         rw [er, Int.toNat_natCast] at z2 z3
         replace z2 : _ = some (Value.int .i64 en.f2) := z2
         replace z3 : _ = some (Value.int .i64 en.f3) := z3
         rw [← hs.1] at z2
         rw [← hs.2] at z3
         have h2 : (x.f2 == x.f2) = true := beq_self_eq_true _
         have h3 : (x.f3 == x.f3) = true := beq_self_eq_true _
         clear hk hp hs hb z0 er
         have e1 : (w5.alloc (.cells #[.int .i64 x.f0, .int .i64 x.f1, .int .i64 x.f2, .int .i64 x.f3] 97)).heap.size = w5.heap.size + 1 := by unfold World.alloc; exact Array.size_push ..
         have BX := heap_alloc_new w5 (.cells #[.int .i64 x.f0, .int .i64 x.f1, .int .i64 x.f2, .int .i64 x.f3] 97)
         go_wp2_with fail
         generalize w5.alloc (.cells #[.int .i64 x.f0, .int .i64 x.f1, .int .i64 x.f2, .int .i64 x.f3] 97) = w6 at z2 z3 BX HBA HBD ⊢
         have x2 := (blk_cell BX 2).trans rfl
         have x3 := (blk_cell BX 3).trans rfl
         clear BX e1
         go_big_region
         go_wp2
         go_roundw
         case rel => exact ⟨i + 1, by first | (rw [wi]) | rfl, ⟨by have := HLT.out; omega⟩, ⟨Kd.C_below HC3.out HBD.out⟩, ⟨Kd.C_below HES3.out HBD.out⟩, ⟨below_step HB.out HBD.out⟩⟩
         case measure => first | (rw [wi]; exact Nat.sub_lt_sub_left HLT.out (Nat.lt_succ_self i)) | exact Nat.sub_lt_sub_left HLT.out (Nat.lt_succ_self i)
        ·have q1 : decide ((i : Int) < (es.length : Int)) = false := decide_eq_false (by omega)
         have q2 : decide (i < es.length) = false := decide_eq_false hlt
         have q3 : (i < es.length) = False := eq_false hlt
         have hnow := HNOW.out
         have wn : wrap64 (now + 1) = now + 1 := by unfold wrap64; omega
         have HBA := asd (below_alloc (Below.refl wr.heap.size wr) (.cells #[.slice A2 bs.length c2] 44))
         have GJ := gjoin_calls A2 c2 (bs.map toB) wr.heap.size (wr.alloc (.cells #[.slice A2 bs.length c2] 44)) (by rw [List.length_map]; exact heap_alloc_new wr _) (by rw [List.length_map]; exact Kd.C_below HC3.out HBA.out) (by rw [List.length_map]; have := HN.out; omega) BIS.out.risG (fun i j hij hi => BIS.out.noMeet i j hij hi)
         have GJA := asd GJ
         have BUSY : Aside0 (∀ wz, k97.C wz A2 bs.length (bs.map toB) → Calls Try.prog 66 #[.slice A2 bs.length c2, .int .i64 0, .int .i64 (now + 1)] wz fun e w' => e = .returned (.int .i64 es.length) ∧ Below wz.heap.size wz w') := ⟨fun wz hz => by
          have h1 := gbusy_calls A2 c2 (bs.map toB) (now + 1) wz (by rw [List.length_map]; exact hz) (by rw [List.length_map]; have := HN.out; omega) (by omega) (fun k hk => BIS.out.busy k hk)
          rw [List.length_map, busyG_map, BIS.out.sum] at h1
          exact h1⟩
         clear GJ hlt hnow
         go_wp2_with fail
         refine GJA.out.mono ?_
         rintro e w7 ⟨⟨v, rfl⟩, hb⟩
         have HB7 := asd (below_step HBA.out hb)
         clear hb GJA HBA
         go_wp2_with fail
         try rw [wn]
         refine (BUSY.out w7 (Kd.C_below HC3.out HB7.out)).mono ?_
         rintro e w8 ⟨rfl, hb⟩
         have HB8 := asd (below_step HB7.out hb)
         clear hb
         go_wp2
         go_ret
         exact ⟨by first | rfl | simp, below_step HB.out HB8.out⟩
  ·have e0 : decide ((wh.length : Int) < (st.length : Int)) = true := decide_eq_true (by omega)
   have e1 : decide (wh.length < st.length) = true := decide_eq_true (by omega)
   clear h150 hlen
   go_enter Try.func13, Try.ntmps13
   go_wp2_with fail
   refine (knows27_calls _).mono ?_
   rintro e w1 ⟨rfl, hb⟩
   have HB1 := asd hb
   clear hb
   go_wp2
   go_ret
   exact ⟨rfl, HB1.out⟩
 ·have d0 : decide ((st.length : Int) > 150) = true := decide_eq_true (by omega)
  have d1 : decide (150 < (st.length : Int)) = true := d0
  have d2 : decide (150 < st.length) = true := decide_eq_true (by omega)
  clear h150
  go_enter Try.func13, Try.ntmps13
  go_wp2_with fail
  refine (knows27_calls _).mono ?_
  rintro e w1 ⟨rfl, hb⟩
  have HB1 := asd hb
  clear hb
  go_wp2
  go_ret
  exact ⟨rfl, HB1.out⟩
end Go.Proofs.Ytalimpniimgheaa.Fn
