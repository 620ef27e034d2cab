/- TasksPlays: the statement, for every input. -/
import Derived.Test.YtjekfipaadbbbaaRows
import Derived.WalkKit
import Derived.ProofKit
import Derived.OpenShut
import Derived.ShutString
import Derived.ChangeOld
import Derived.Below
import Derived.SizedLaws
import Derived.Test.YtjekfipaadbbbaaTasksPlaysZ4
/- TasksPlays: the row. -/
namespace Go.Proofs.Ytjekfipaadbbbaa.Fn
open Go.RowKit Go.Proofs.YtjekfipaadbbbaaW.PrintWords Go.Proofs.YtjekfipaadbbbaaW.PrintLast Go.Proofs.YtjekfipaadbbbaaW.PrintMore
open Go.ChangeShapes Go.WideShapes
set_option linter.unusedVariables false
set_option linter.unusedSimpArgs false
theorem cellsO3 : Try.prog.cellsOf 3 = 1 := by kernel_rfl
theorem cellsO4 : Try.prog.cellsOf 4 = 1 := by kernel_rfl
theorem cellsO61 : Try.prog.cellsOf 61 = 1 := by kernel_rfl
theorem cellsO44 : Try.prog.cellsOf 44 = 6 := by kernel_rfl
theorem cellsO134 : Try.prog.cellsOf 134 = 3 := by kernel_rfl
theorem cellsO63 : Try.prog.cellsOf 63 = 5 := by kernel_rfl
theorem cellsO65 : Try.prog.cellsOf 65 = 7 := by kernel_rfl
def qk44_44 (x : S44) : Prop := qAny x.f0 ∧ (qInt .i64) x.f1 ∧ (qInt .i64) x.f2 ∧ (qInt .i64) x.f3 ∧ (qInt .i64) x.f4 ∧ (qInt .i64) x.f5
set_option maxRecDepth 100000 in
theorem opens44 : Opens Try.prog 44 k44 qk44_44 := by
 intro H enc w base spare held fuel cs x h
 obtain ⟨xs, n, rfl, _, hlen, hxs, hf⟩ := DataW.trod_struct Try.underlying44 h
 rw [cellsO44] at hlen
 have g0 : DataW.trod enc Try.prog w base spare held n 4 ((cs.drop (0)).take (Try.prog.cellsOf 4)) = xs[0]? := hf 0 _ rfl
 rw [cellsO4] at g0
 obtain ⟨a0, K0', Q0⟩ := (opens_bool Try.underlying4) H enc w base spare held n _ _ (g0.trans (List.getElem?_eq_getElem (by rw [hxs]; decide)))
 have g1 : DataW.trod enc Try.prog w base spare held n 3 ((cs.drop (1)).take (Try.prog.cellsOf 3)) = xs[1]? := hf 1 _ rfl
 rw [cellsO3] at g1
 obtain ⟨a1, K1', Q1⟩ := (opens_int Try.underlying3) H enc w base spare held n _ _ (g1.trans (List.getElem?_eq_getElem (by rw [hxs]; decide)))
 have g2 : DataW.trod enc Try.prog w base spare held n 3 ((cs.drop (2)).take (Try.prog.cellsOf 3)) = xs[2]? := hf 2 _ rfl
 rw [cellsO3] at g2
 obtain ⟨a2, K2', Q2⟩ := (opens_int Try.underlying3) H enc w base spare held n _ _ (g2.trans (List.getElem?_eq_getElem (by rw [hxs]; decide)))
 have g3 : DataW.trod enc Try.prog w base spare held n 3 ((cs.drop (3)).take (Try.prog.cellsOf 3)) = xs[3]? := hf 3 _ rfl
 rw [cellsO3] at g3
 obtain ⟨a3, K3', Q3⟩ := (opens_int Try.underlying3) H enc w base spare held n _ _ (g3.trans (List.getElem?_eq_getElem (by rw [hxs]; decide)))
 have g4 : DataW.trod enc Try.prog w base spare held n 3 ((cs.drop (4)).take (Try.prog.cellsOf 3)) = xs[4]? := hf 4 _ rfl
 rw [cellsO3] at g4
 obtain ⟨a4, K4', Q4⟩ := (opens_int Try.underlying3) H enc w base spare held n _ _ (g4.trans (List.getElem?_eq_getElem (by rw [hxs]; decide)))
 have g5 : DataW.trod enc Try.prog w base spare held n 3 ((cs.drop (5)).take (Try.prog.cellsOf 3)) = xs[5]? := hf 5 _ rfl
 rw [cellsO3] at g5
 obtain ⟨a5, K5', Q5⟩ := (opens_int Try.underlying3) H enc w base spare held n _ _ (g5.trans (List.getElem?_eq_getElem (by rw [hxs]; decide)))
 exact ⟨⟨a0, a1, a2, a3, a4, a5⟩, ⟨_, _, (List.take_append_drop 1 _).symm, (by simpa only [List.drop_drop, List.drop_zero] using K0'), ⟨_, _, (List.take_append_drop 1 _).symm, (by simpa only [List.drop_drop, List.drop_zero] using K1'), ⟨_, _, (List.take_append_drop 1 _).symm, (by simpa only [List.drop_drop, List.drop_zero] using K2'), ⟨_, _, (List.take_append_drop 1 _).symm, (by simpa only [List.drop_drop, List.drop_zero] using K3'), ⟨_, _, (List.take_append_drop 1 _).symm, (by simpa only [List.drop_drop, List.drop_zero] using K4'), (by have h_ := K5'; rw [List.take_of_length_le (by rw [List.length_drop]; omega)] at h_; simpa only [List.drop_drop, List.drop_zero] using h_)⟩⟩⟩⟩⟩, Q0, Q1, Q2, Q3, Q4, Q5⟩
def qk134_134 (x : S134) : Prop := (qInt .i64) x.f0 ∧ (qInt .i64) x.f1 ∧ (qInt .i64) x.f2
set_option maxRecDepth 100000 in
theorem opens134 : Opens Try.prog 134 k134 qk134_134 := by
 intro H enc w base spare held fuel cs x h
 obtain ⟨xs, n, rfl, _, hlen, hxs, hf⟩ := DataW.trod_struct Try.underlying134 h
 rw [cellsO134] at hlen
 have g0 : DataW.trod enc Try.prog w base spare held n 3 ((cs.drop (0)).take (Try.prog.cellsOf 3)) = xs[0]? := hf 0 _ rfl
 rw [cellsO3] at g0
 obtain ⟨a0, K0', Q0⟩ := (opens_int Try.underlying3) H enc w base spare held n _ _ (g0.trans (List.getElem?_eq_getElem (by rw [hxs]; decide)))
 have g1 : DataW.trod enc Try.prog w base spare held n 3 ((cs.drop (1)).take (Try.prog.cellsOf 3)) = xs[1]? := hf 1 _ rfl
 rw [cellsO3] at g1
 obtain ⟨a1, K1', Q1⟩ := (opens_int Try.underlying3) H enc w base spare held n _ _ (g1.trans (List.getElem?_eq_getElem (by rw [hxs]; decide)))
 have g2 : DataW.trod enc Try.prog w base spare held n 3 ((cs.drop (2)).take (Try.prog.cellsOf 3)) = xs[2]? := hf 2 _ rfl
 rw [cellsO3] at g2
 obtain ⟨a2, K2', Q2⟩ := (opens_int Try.underlying3) H enc w base spare held n _ _ (g2.trans (List.getElem?_eq_getElem (by rw [hxs]; decide)))
 exact ⟨⟨a0, a1, a2⟩, ⟨_, _, (List.take_append_drop 1 _).symm, (by simpa only [List.drop_drop, List.drop_zero] using K0'), ⟨_, _, (List.take_append_drop 1 _).symm, (by simpa only [List.drop_drop, List.drop_zero] using K1'), (by have h_ := K2'; rw [List.take_of_length_le (by rw [List.length_drop]; omega)] at h_; simpa only [List.drop_drop, List.drop_zero] using h_)⟩⟩, Q0, Q1, Q2⟩
def qk63_63 (x : S63) : Prop := (qInt .i64) x.f0 ∧ (qInt .i64) x.f1 ∧ (qInt .i64) x.f2 ∧ (qInt .i64) x.f3 ∧ (qList qk134_134) x.f4
set_option maxRecDepth 100000 in
theorem opens63 : Opens Try.prog 63 k63 qk63_63 := by
 intro H enc w base spare held fuel cs x h
 obtain ⟨xs, n, rfl, _, hlen, hxs, hf⟩ := DataW.trod_struct Try.underlying63 h
 rw [cellsO63] at hlen
 have g0 : DataW.trod enc Try.prog w base spare held n 3 ((cs.drop (0)).take (Try.prog.cellsOf 3)) = xs[0]? := hf 0 _ rfl
 rw [cellsO3] at g0
 obtain ⟨a0, K0', Q0⟩ := (opens_int Try.underlying3) H enc w base spare held n _ _ (g0.trans (List.getElem?_eq_getElem (by rw [hxs]; decide)))
 have g1 : DataW.trod enc Try.prog w base spare held n 3 ((cs.drop (1)).take (Try.prog.cellsOf 3)) = xs[1]? := hf 1 _ rfl
 rw [cellsO3] at g1
 obtain ⟨a1, K1', Q1⟩ := (opens_int Try.underlying3) H enc w base spare held n _ _ (g1.trans (List.getElem?_eq_getElem (by rw [hxs]; decide)))
 have g2 : DataW.trod enc Try.prog w base spare held n 3 ((cs.drop (2)).take (Try.prog.cellsOf 3)) = xs[2]? := hf 2 _ rfl
 rw [cellsO3] at g2
 obtain ⟨a2, K2', Q2⟩ := (opens_int Try.underlying3) H enc w base spare held n _ _ (g2.trans (List.getElem?_eq_getElem (by rw [hxs]; decide)))
 have g3 : DataW.trod enc Try.prog w base spare held n 3 ((cs.drop (3)).take (Try.prog.cellsOf 3)) = xs[3]? := hf 3 _ rfl
 rw [cellsO3] at g3
 obtain ⟨a3, K3', Q3⟩ := (opens_int Try.underlying3) H enc w base spare held n _ _ (g3.trans (List.getElem?_eq_getElem (by rw [hxs]; decide)))
 have g4 : DataW.trod enc Try.prog w base spare held n 61 ((cs.drop (4)).take (Try.prog.cellsOf 61)) = xs[4]? := hf 4 _ rfl
 rw [cellsO61] at g4
 obtain ⟨a4, K4', Q4⟩ := (opens_slice Try.underlying61 cellsO134 opens134) H enc w base spare held n _ _ (g4.trans (List.getElem?_eq_getElem (by rw [hxs]; decide)))
 exact ⟨⟨a0, a1, a2, a3, a4⟩, ⟨_, _, (List.take_append_drop 1 _).symm, (by simpa only [List.drop_drop, List.drop_zero] using K0'), ⟨_, _, (List.take_append_drop 1 _).symm, (by simpa only [List.drop_drop, List.drop_zero] using K1'), ⟨_, _, (List.take_append_drop 1 _).symm, (by simpa only [List.drop_drop, List.drop_zero] using K2'), ⟨_, _, (List.take_append_drop 1 _).symm, (by simpa only [List.drop_drop, List.drop_zero] using K3'), (by have h_ := K4'; rw [List.take_of_length_le (by rw [List.length_drop]; omega)] at h_; simpa only [List.drop_drop, List.drop_zero] using h_)⟩⟩⟩⟩, Q0, Q1, Q2, Q3, Q4⟩
def qk65_65 (x : S65) : Prop := (qInt .i64) x.f0 ∧ (qInt .i64) x.f1 ∧ qk63_63 x.f2
set_option maxRecDepth 100000 in
theorem opens65 : Opens Try.prog 65 k65 qk65_65 := by
 intro H enc w base spare held fuel cs x h
 obtain ⟨xs, n, rfl, _, hlen, hxs, hf⟩ := DataW.trod_struct Try.underlying65 h
 rw [cellsO65] at hlen
 have g0 : DataW.trod enc Try.prog w base spare held n 3 ((cs.drop (0)).take (Try.prog.cellsOf 3)) = xs[0]? := hf 0 _ rfl
 rw [cellsO3] at g0
 obtain ⟨a0, K0', Q0⟩ := (opens_int Try.underlying3) H enc w base spare held n _ _ (g0.trans (List.getElem?_eq_getElem (by rw [hxs]; decide)))
 have g1 : DataW.trod enc Try.prog w base spare held n 3 ((cs.drop (1)).take (Try.prog.cellsOf 3)) = xs[1]? := hf 1 _ rfl
 rw [cellsO3] at g1
 obtain ⟨a1, K1', Q1⟩ := (opens_int Try.underlying3) H enc w base spare held n _ _ (g1.trans (List.getElem?_eq_getElem (by rw [hxs]; decide)))
 have g2 : DataW.trod enc Try.prog w base spare held n 63 ((cs.drop (2)).take (Try.prog.cellsOf 63)) = xs[2]? := hf 2 _ rfl
 rw [cellsO63] at g2
 obtain ⟨a2, K2', Q2⟩ := opens63 H enc w base spare held n _ _ (g2.trans (List.getElem?_eq_getElem (by rw [hxs]; decide)))
 exact ⟨⟨a0, a1, a2⟩, ⟨_, _, (List.take_append_drop 1 _).symm, (by simpa only [List.drop_drop, List.drop_zero] using K0'), ⟨_, _, (List.take_append_drop 1 _).symm, (by simpa only [List.drop_drop, List.drop_zero] using K1'), (by have h_ := K2'; rw [List.take_of_length_le (by rw [List.length_drop]; omega)] at h_; simpa only [List.drop_drop, List.drop_zero] using h_)⟩⟩, Q0, Q1, Q2⟩
theorem sized_any {H : Type} {enc : TypeId × Value → H} {P : Program} {W : World} {base : Nat} {spare : Nat → Bool} {held : Bool} {t e : TypeId} {a : Option Addr} {len cap : Nat} {d : DataW H} {ps : List MemPlace} {ts : List TypeId} {ds : List (DataW H)} {j : Nat}
  (hsz : (DataW.weightsEach P ts ds).all (· ≤ reachBytes) = true) (ht : ts[j]? = some t) (hd : ds[j]? = some d) (hu : P.underlying t = some (.slice e)) {B : Nat} (hB : P.bytesOf e = B)
  (h : DataW.Trod enc P W base spare held t (.slice a len cap) d ps) : len * B ≤ 140737488351232 := by
 obtain ⟨fuel, hf⟩ := h
 rcases Go.Deep.open_slice hu hf with ⟨hcs, _⟩ | ⟨a', len', cap', m, n, D, Pl, hcs, _, hl, _, _, hx, _⟩
 ·simp [Value.cells] at hcs
  obtain ⟨rfl, rfl, rfl⟩ := hcs
  simp
 ·simp [Value.cells] at hcs
  obtain ⟨rfl, rfl, rfl⟩ := hcs
  obtain ⟨hx, _⟩ := Prod.mk.inj hx
  subst hx
  have z := sized_slice hsz ht hd hu
  rw [hB] at z
  simp only [List.length_map, List.length_range] at z
  exact Nat.le_trans (Nat.mul_le_mul_right _ (by omega)) z
end Go.Proofs.Ytjekfipaadbbbaa.Fn
namespace Go.Proofs.Ytjekfipaadbbbaa.LawTasksPlays
open Go.ChangeShapes Go.WideShapes Go.ChangeAt Go.RowKit Go.Proofs.YtjekfipaadbbbaaW.PrintWords Go.Proofs.Ytjekfipaadbbbaa.Fn
open Go.ChangeMaps (open_string shut_string)

set_option linter.unusedVariables false
theorem own : ownKnob Try.prog.godebug = none := by kernel_rfl
theorem laidOut : laidOutB Try.prog = true := by kernel_rfl
set_option maxRecDepth 100000 in
set_option maxHeartbeats 2000000 in
theorem lifted (os : Os) (started : os.Started) (H : Type) (enc : TypeId × Value → H) :
  ReturnsInHanded {} Try.checked os 8 .any (Rows.tasksPlaysSpec.pre6 enc Try.prog Try.f8 Rows.tasksPlaysRow.domain false) (Rows.tasksPlaysSpec.post enc Try.prog Try.f8 false true false false) := by
 refine returnsInHanded_of_change_sized (C := Try.checked) own started (by kernel_rfl) Try.func8
  (ChangeSpec.witness6 (enc := enc) (C := Try.checked) false ⟨#[], #[.slice none 0 0, .slice none 0 0], []⟩ 8 (by kernel_rfl) (by kernel_rfl) (by kernel_rfl) (by kernel_rfl)) ?_
 intro W base args ds gs before hval0 hW hcnd hsz _
 have hval : ∀ (j : Nat) t v, Try.f8.params[j]? = some t → args[j]? = some v → Value.okWide Try.prog W .any base t v := hval0
 have hW' := hW
 obtain ⟨p, q, hA0, hV, rfl, hfz, hnd⟩ := hW
 have hA : DataW.TrodAll enc Try.prog W 0 (fun _ => true) true Try.f8.params.toList args.toList ds p := hA0
 rw [Try.params8] at hA hval
 obtain ⟨v0, vs0, d0, ds0, p0, q0, hargs, rfl, rfl, h0, r0⟩ := trodAll_cons hA
 obtain ⟨v1, vs1, d1, ds1, p1, q1, rfl, rfl, rfl, h1, r1⟩ := trodAll_cons r0
 obtain ⟨rfl, rfl, rfl⟩ := trodAll_nil r1
 obtain rfl : args = #[v0, v1] := by cases args; simp_all
 obtain ⟨rfl, rfl⟩ := trodVars_none hV
 obtain ⟨a0, len0, cap0, rfl⟩ := okWide_slice Try.underlying22 (hval 0 22 v0 rfl rfl)
 have k0 := h0
 have lt0 : ∀ x ∈ p0, x.block < W.heap.size := by obtain ⟨m, hm⟩ := k0; exact DataW.trod_lt m _ _ _ hm
 obtain ⟨fuel0, hf0⟩ := h0
 obtain ⟨x0, K0, Q0⟩ := (opens_slice Try.underlying22 cellsO44 opens44) H enc W 0 _ true fuel0 _ _ hf0
 obtain ⟨A0, c0, e0, hc0, hr0⟩ := K0
 have e0' : Value.slice a0 len0 cap0 = .slice A0 x0.length c0 := by simpa [Value.cells] using e0
 injection e0' with e0a e0l e0c
 subst e0a e0l e0c
 obtain ⟨a1, len1, cap1, rfl⟩ := okWide_slice Try.underlying56 (hval 1 56 v1 rfl rfl)
 have k1 := h1
 have lt1 : ∀ x ∈ p1, x.block < W.heap.size := by obtain ⟨m, hm⟩ := k1; exact DataW.trod_lt m _ _ _ hm
 obtain ⟨fuel1, hf1⟩ := h1
 obtain ⟨x1, K1, Q1⟩ := (opens_slice Try.underlying56 cellsO65 opens65) H enc W 0 _ true fuel1 _ _ hf1
 obtain ⟨A1, c1, e1, hc1, hr1⟩ := K1
 have e1' : Value.slice a1 len1 cap1 = .slice A1 x1.length c1 := by simpa [Value.cells] using e1
 injection e1' with e1a e1l e1c
 subst e1a e1l e1c
 clear hA0 hval0
 have h : Calls Try.prog 8 #[.slice a0 x0.length cap0, .slice a1 x1.length cap1] W fun e w' => e = .returned (.bool true) ∧ Below W.heap.size W w' := by
  exact tplays_walk _ _ x0 _ _ x1 W hr0 hr1 hc1 (sized_any (j := 0) hsz (by kernel_rfl) rfl Try.underlying22 (B := 48) (by kernel_rfl) k0)
 ·refine h.mono fun e W' ⟨he, bel⟩ => ?_
  subst he
  exact ⟨_, rfl, _, _, _, [], _, [], hW', trodAll_mk1 (shut_bool Try.underlying4 _), (trodAll_cons_mk (Below.trod laidOut (by kernel_rfl) (of_decide_eq_true (by kernel_rfl)) k0 bel lt0) (trodAll_cons_mk (Below.trod laidOut (by kernel_rfl) (of_decide_eq_true (by kernel_rfl)) k1 bel lt1) trodAll_mk0)), rfl, bel.frame _, fun h => by cases h⟩
theorem over : Rows.tasksPlaysRow.holds Try.pinned (OpenSpec.ofChange Rows.tasksPlaysSpec) :=
 OpenClaim.holds_of_wide 8 Try.f8 rfl rfl rfl rfl rfl rfl rfl ⟨rfl, rfl, rfl, rfl, rfl⟩ rfl rfl rfl rfl rfl (by kernel_rfl) Try.func8 (by kernel_rfl)
  (of_decide_eq_true (by kernel_rfl)) (by unfold Func.isWrapper; first | (rw [if_pos (by decide +kernel)]; kernel_rfl) | (rw [if_neg (by decide +kernel)]; exact ⟨rfl, rfl⟩))
  (fun os started H enc _ => lifted os started H enc)
end Go.Proofs.Ytjekfipaadbbbaa.LawTasksPlays
namespace Go.Proofs.Ytjekfipaadbbbaa
theorem tasksPlays_holds : Rows.TasksPlaysSaid := LawTasksPlays.over
#print axioms tasksPlays_holds
end Go.Proofs.Ytjekfipaadbbbaa
