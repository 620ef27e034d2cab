/- TasksNil: the statement, for every input. -/
import Derived.Test.YtjekfipaadbbbaaRows
import Derived.WalkKit
import Derived.ProofKit
import Derived.OpenShut
import Derived.ShutString
import Derived.ChangeOld
import Derived.Below
import Derived.SizedLaws
import Derived.Test.YtjekfipaadbbbaaTasksNilZ3
/- TasksNil: the row. -/
namespace Go.Proofs.Ytjekfipaadbbbaa.Fn
open Go.RowKit Go.Proofs.YtjekfipaadbbbaaW.PrintWords Go.Proofs.YtjekfipaadbbbaaW.PrintLast Go.Proofs.YtjekfipaadbbbaaW.PrintMore
open Go.ChangeShapes Go.WideShapes
set_option linter.unusedVariables false
set_option linter.unusedSimpArgs false
theorem cellsO3 : Try.prog.cellsOf 3 = 1 := by kernel_rfl
theorem cellsO61 : Try.prog.cellsOf 61 = 1 := by kernel_rfl
theorem cellsO134 : Try.prog.cellsOf 134 = 3 := by kernel_rfl
theorem cellsO63 : Try.prog.cellsOf 63 = 5 := by kernel_rfl
theorem cellsO65 : Try.prog.cellsOf 65 = 7 := by kernel_rfl
def qk134_134 (x : S134) : Prop := (qInt .i64) x.f0 ∧ (qInt .i64) x.f1 ∧ (qInt .i64) x.f2
set_option maxRecDepth 100000 in
theorem opens134 : Opens Try.prog 134 k134 qk134_134 := by
 intro H enc w base spare held fuel cs x h
 obtain ⟨xs, n, rfl, _, hlen, hxs, hf⟩ := DataW.trod_struct Try.underlying134 h
 rw [cellsO134] at hlen
 have g0 : DataW.trod enc Try.prog w base spare held n 3 ((cs.drop (0)).take (Try.prog.cellsOf 3)) = xs[0]? := hf 0 _ rfl
 rw [cellsO3] at g0
 obtain ⟨a0, K0', Q0⟩ := (opens_int Try.underlying3) H enc w base spare held n _ _ (g0.trans (List.getElem?_eq_getElem (by rw [hxs]; decide)))
 have g1 : DataW.trod enc Try.prog w base spare held n 3 ((cs.drop (1)).take (Try.prog.cellsOf 3)) = xs[1]? := hf 1 _ rfl
 rw [cellsO3] at g1
 obtain ⟨a1, K1', Q1⟩ := (opens_int Try.underlying3) H enc w base spare held n _ _ (g1.trans (List.getElem?_eq_getElem (by rw [hxs]; decide)))
 have g2 : DataW.trod enc Try.prog w base spare held n 3 ((cs.drop (2)).take (Try.prog.cellsOf 3)) = xs[2]? := hf 2 _ rfl
 rw [cellsO3] at g2
 obtain ⟨a2, K2', Q2⟩ := (opens_int Try.underlying3) H enc w base spare held n _ _ (g2.trans (List.getElem?_eq_getElem (by rw [hxs]; decide)))
 exact ⟨⟨a0, a1, a2⟩, ⟨_, _, (List.take_append_drop 1 _).symm, (by simpa only [List.drop_drop, List.drop_zero] using K0'), ⟨_, _, (List.take_append_drop 1 _).symm, (by simpa only [List.drop_drop, List.drop_zero] using K1'), (by have h_ := K2'; rw [List.take_of_length_le (by rw [List.length_drop]; omega)] at h_; simpa only [List.drop_drop, List.drop_zero] using h_)⟩⟩, Q0, Q1, Q2⟩
def qk63_63 (x : S63) : Prop := (qInt .i64) x.f0 ∧ (qInt .i64) x.f1 ∧ (qInt .i64) x.f2 ∧ (qInt .i64) x.f3 ∧ (qList qk134_134) x.f4
set_option maxRecDepth 100000 in
theorem opens63 : Opens Try.prog 63 k63 qk63_63 := by
 intro H enc w base spare held fuel cs x h
 obtain ⟨xs, n, rfl, _, hlen, hxs, hf⟩ := DataW.trod_struct Try.underlying63 h
 rw [cellsO63] at hlen
 have g0 : DataW.trod enc Try.prog w base spare held n 3 ((cs.drop (0)).take (Try.prog.cellsOf 3)) = xs[0]? := hf 0 _ rfl
 rw [cellsO3] at g0
 obtain ⟨a0, K0', Q0⟩ := (opens_int Try.underlying3) H enc w base spare held n _ _ (g0.trans (List.getElem?_eq_getElem (by rw [hxs]; decide)))
 have g1 : DataW.trod enc Try.prog w base spare held n 3 ((cs.drop (1)).take (Try.prog.cellsOf 3)) = xs[1]? := hf 1 _ rfl
 rw [cellsO3] at g1
 obtain ⟨a1, K1', Q1⟩ := (opens_int Try.underlying3) H enc w base spare held n _ _ (g1.trans (List.getElem?_eq_getElem (by rw [hxs]; decide)))
 have g2 : DataW.trod enc Try.prog w base spare held n 3 ((cs.drop (2)).take (Try.prog.cellsOf 3)) = xs[2]? := hf 2 _ rfl
 rw [cellsO3] at g2
 obtain ⟨a2, K2', Q2⟩ := (opens_int Try.underlying3) H enc w base spare held n _ _ (g2.trans (List.getElem?_eq_getElem (by rw [hxs]; decide)))
 have g3 : DataW.trod enc Try.prog w base spare held n 3 ((cs.drop (3)).take (Try.prog.cellsOf 3)) = xs[3]? := hf 3 _ rfl
 rw [cellsO3] at g3
 obtain ⟨a3, K3', Q3⟩ := (opens_int Try.underlying3) H enc w base spare held n _ _ (g3.trans (List.getElem?_eq_getElem (by rw [hxs]; decide)))
 have g4 : DataW.trod enc Try.prog w base spare held n 61 ((cs.drop (4)).take (Try.prog.cellsOf 61)) = xs[4]? := hf 4 _ rfl
 rw [cellsO61] at g4
 obtain ⟨a4, K4', Q4⟩ := (opens_slice Try.underlying61 cellsO134 opens134) H enc w base spare held n _ _ (g4.trans (List.getElem?_eq_getElem (by rw [hxs]; decide)))
 exact ⟨⟨a0, a1, a2, a3, a4⟩, ⟨_, _, (List.take_append_drop 1 _).symm, (by simpa only [List.drop_drop, List.drop_zero] using K0'), ⟨_, _, (List.take_append_drop 1 _).symm, (by simpa only [List.drop_drop, List.drop_zero] using K1'), ⟨_, _, (List.take_append_drop 1 _).symm, (by simpa only [List.drop_drop, List.drop_zero] using K2'), ⟨_, _, (List.take_append_drop 1 _).symm, (by simpa only [List.drop_drop, List.drop_zero] using K3'), (by have h_ := K4'; rw [List.take_of_length_le (by rw [List.length_drop]; omega)] at h_; simpa only [List.drop_drop, List.drop_zero] using h_)⟩⟩⟩⟩, Q0, Q1, Q2, Q3, Q4⟩
def qk65_65 (x : S65) : Prop := (qInt .i64) x.f0 ∧ (qInt .i64) x.f1 ∧ qk63_63 x.f2
set_option maxRecDepth 100000 in
theorem opens65 : Opens Try.prog 65 k65 qk65_65 := by
 intro H enc w base spare held fuel cs x h
 obtain ⟨xs, n, rfl, _, hlen, hxs, hf⟩ := DataW.trod_struct Try.underlying65 h
 rw [cellsO65] at hlen
 have g0 : DataW.trod enc Try.prog w base spare held n 3 ((cs.drop (0)).take (Try.prog.cellsOf 3)) = xs[0]? := hf 0 _ rfl
 rw [cellsO3] at g0
 obtain ⟨a0, K0', Q0⟩ := (opens_int Try.underlying3) H enc w base spare held n _ _ (g0.trans (List.getElem?_eq_getElem (by rw [hxs]; decide)))
 have g1 : DataW.trod enc Try.prog w base spare held n 3 ((cs.drop (1)).take (Try.prog.cellsOf 3)) = xs[1]? := hf 1 _ rfl
 rw [cellsO3] at g1
 obtain ⟨a1, K1', Q1⟩ := (opens_int Try.underlying3) H enc w base spare held n _ _ (g1.trans (List.getElem?_eq_getElem (by rw [hxs]; decide)))
 have g2 : DataW.trod enc Try.prog w base spare held n 63 ((cs.drop (2)).take (Try.prog.cellsOf 63)) = xs[2]? := hf 2 _ rfl
 rw [cellsO63] at g2
 obtain ⟨a2, K2', Q2⟩ := opens63 H enc w base spare held n _ _ (g2.trans (List.getElem?_eq_getElem (by rw [hxs]; decide)))
 exact ⟨⟨a0, a1, a2⟩, ⟨_, _, (List.take_append_drop 1 _).symm, (by simpa only [List.drop_drop, List.drop_zero] using K0'), ⟨_, _, (List.take_append_drop 1 _).symm, (by simpa only [List.drop_drop, List.drop_zero] using K1'), (by have h_ := K2'; rw [List.take_of_length_le (by rw [List.length_drop]; omega)] at h_; simpa only [List.drop_drop, List.drop_zero] using h_)⟩⟩, Q0, Q1, Q2⟩
end Go.Proofs.Ytjekfipaadbbbaa.Fn
namespace Go.Proofs.Ytjekfipaadbbbaa.LawTasksNil
open Go.ChangeShapes Go.WideShapes Go.ChangeAt Go.RowKit Go.Proofs.YtjekfipaadbbbaaW.PrintWords Go.Proofs.Ytjekfipaadbbbaa.Fn
open Go.ChangeMaps (open_string shut_string)

set_option linter.unusedVariables false
theorem own : ownKnob Try.prog.godebug = none := by kernel_rfl
theorem laidOut : laidOutB Try.prog = true := by kernel_rfl
set_option maxRecDepth 100000 in
set_option maxHeartbeats 2000000 in
theorem lifted (os : Os) (started : os.Started) (H : Type) (enc : TypeId × Value → H) :
  ReturnsInHanded {} Try.checked os 10 .any (Rows.tasksNilSpec.pre6 enc Try.prog Try.f10 Rows.tasksNilRow.domain false) (Rows.tasksNilSpec.post enc Try.prog Try.f10 false true false false) := by
 refine returnsInHanded_of_change (C := Try.checked) own started (by kernel_rfl) Try.func10
  (ChangeSpec.witness6 (enc := enc) (C := Try.checked) false ⟨#[], #[.agg #[(.int .i64 0), (.int .i64 0), (.int .i64 0), (.int .i64 0), (.int .i64 0), (.int .i64 0), (.slice none 0 0)]], []⟩ 8 (by kernel_rfl) (by kernel_rfl) (by kernel_rfl) (by kernel_rfl)) ?_
 intro W base args ds gs before hval0 hW hcnd _
 have hval : ∀ (j : Nat) t v, Try.f10.params[j]? = some t → args[j]? = some v → Value.okWide Try.prog W .any base t v := hval0
 have hW' := hW
 obtain ⟨p, q, hA0, hV, rfl, hfz, hnd⟩ := hW
 have hA : DataW.TrodAll enc Try.prog W 0 (fun _ => true) true Try.f10.params.toList args.toList ds p := hA0
 rw [Try.params10] at hA hval
 obtain ⟨v0, vs0, d0, ds0, p0, q0, hargs, rfl, rfl, h0, r0⟩ := trodAll_cons hA
 obtain ⟨rfl, rfl, rfl⟩ := trodAll_nil r0
 obtain rfl : args = #[v0] := by cases args; simp_all
 obtain ⟨rfl, rfl⟩ := trodVars_none hV
 obtain ⟨cs0, rfl, _⟩ := okWide_struct Try.underlying65 (hval 0 65 v0 rfl rfl)
 have k0 := h0
 have lt0 : ∀ x ∈ p0, x.block < W.heap.size := by obtain ⟨m, hm⟩ := k0; exact DataW.trod_lt m _ _ _ hm
 obtain ⟨fuel0, hf0⟩ := h0
 obtain ⟨x0, K0, Q0⟩ := opens65 H enc W 0 _ true fuel0 _ _ hf0
 obtain ⟨A6, c6, e0, hc6, hr6⟩ := k65_open K0
 obtain ⟨lst0⟩ := cs0
 have e0' : lst0 = _ := e0
 subst e0'
 clear hA0 hval0
 have h : Calls Try.prog 10 #[.agg #[.int .i64 x0.f0, .int .i64 x0.f1, .int .i64 x0.f2.f0, .int .i64 x0.f2.f1, .int .i64 x0.f2.f2, .int .i64 x0.f2.f3, .slice A6 x0.f2.f4.length c6]] W fun e w' => e = .returned (.bool true) ∧ Below W.heap.size W w' := by
  exact tnil_walk x0 A6 c6 W hr6 hc6
 ·refine h.mono fun e W' ⟨he, bel⟩ => ?_
  subst he
  exact ⟨_, rfl, _, _, _, [], _, [], hW', trodAll_mk1 (shut_bool Try.underlying4 _), (trodAll_cons_mk (Below.trod laidOut (by kernel_rfl) (of_decide_eq_true (by kernel_rfl)) k0 bel lt0) trodAll_mk0), rfl, bel.frame _, fun h => by cases h⟩
theorem over : Rows.tasksNilRow.holds Try.pinned (OpenSpec.ofChange Rows.tasksNilSpec) :=
 OpenClaim.holds_of_wide 10 Try.f10 rfl rfl rfl rfl rfl rfl rfl ⟨rfl, rfl, rfl, rfl, rfl⟩ rfl rfl rfl rfl rfl (by kernel_rfl) Try.func10 (by kernel_rfl)
  (of_decide_eq_true (by kernel_rfl)) (by unfold Func.isWrapper; first | (rw [if_pos (by decide +kernel)]; kernel_rfl) | (rw [if_neg (by decide +kernel)]; exact ⟨rfl, rfl⟩))
  (fun os started H enc _ => lifted os started H enc)
end Go.Proofs.Ytjekfipaadbbbaa.LawTasksNil
namespace Go.Proofs.Ytjekfipaadbbbaa
theorem tasksNil_holds : Rows.TasksNilSaid := LawTasksNil.over
#print axioms tasksNil_holds
end Go.Proofs.Ytjekfipaadbbbaa
