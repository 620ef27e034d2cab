/- ConfRights: the statement, for every input. -/
import Derived.Test.YtmjhnmdmopmfjaaRows
import Derived.WalkKit
import Derived.ProofKit
import Derived.OpenShut
import Derived.ShutString
import Derived.ChangeOld
import Derived.Below
import Derived.SizedLaws
import Derived.Test.YtmjhnmdmopmfjaaConfRightsZ2
namespace Go.Proofs.Ytmjhnmdmopmfjaa.LawConfRights
open Go.ChangeShapes Go.WideShapes Go.ChangeAt Go.RowKit Go.Proofs.YtmjhnmdmopmfjaaW.PrintWords Go.Proofs.Ytmjhnmdmopmfjaa.Fn
open Go.ChangeMaps (open_string shut_string)

set_option linter.unusedVariables false
theorem own : ownKnob Try.prog.godebug = none := by kernel_rfl
theorem laidOut : laidOutB Try.prog = true := by kernel_rfl
set_option maxRecDepth 100000 in
set_option maxHeartbeats 2000000 in
theorem lifted (os : Os) (started : os.Started) (H : Type) (enc : TypeId × Value → H) :
  ReturnsInHanded {} Try.checked os 5 .any (Rows.confRightsSpec.pre6 enc Try.prog Try.f5 Rows.confRightsRow.domain false) (Rows.confRightsSpec.post enc Try.prog Try.f5 false true false false) := by
 refine returnsInHanded_of_change (C := Try.checked) own started (by kernel_rfl) Try.func5
  (ChangeSpec.witness6 (enc := enc) (C := Try.checked) false ⟨#[], #[.agg #[(.bool false), (.int .i64 0), (.int .i64 0), (.int .i64 0), (.int .i64 0), (.int .i64 0)], .agg #[(.bool false), (.int .i64 0), (.int .i64 0)], .agg #[(.slice none 0 0), (.slice none 0 0), (.slice none 0 0), (.int .u8 0), (.int .u8 0), (.int .u8 0)]], []⟩ 8 (by kernel_rfl) (by kernel_rfl) (by kernel_rfl) (by kernel_rfl)) ?_
 intro W base args ds gs before hval0 hW hcnd _
 have hval : ∀ (j : Nat) t v, Try.f5.params[j]? = some t → args[j]? = some v → Value.okWide Try.prog W .any base t v := hval0
 have hW' := hW
 obtain ⟨p, q, hA0, hV, rfl, hfz, hnd⟩ := hW
 have hA : DataW.TrodAll enc Try.prog W 0 (fun _ => true) true Try.f5.params.toList args.toList ds p := hA0
 rw [Try.params5] at hA hval
 obtain ⟨v0, vs0, d0, ds0, p0, q0, hargs, rfl, rfl, h0, r0⟩ := trodAll_cons hA
 obtain ⟨v1, vs1, d1, ds1, p1, q1, rfl, rfl, rfl, h1, r1⟩ := trodAll_cons r0
 obtain ⟨v2, vs2, d2, ds2, p2, q2, rfl, rfl, rfl, h2, r2⟩ := trodAll_cons r1
 obtain ⟨rfl, rfl, rfl⟩ := trodAll_nil r2
 obtain rfl : args = #[v0, v1, v2] := by cases args; simp_all
 obtain ⟨rfl, rfl⟩ := trodVars_none hV
 obtain ⟨cs0, rfl, _⟩ := okWide_struct Try.underlying56 (hval 0 56 v0 rfl rfl)
 have k0 := h0
 have lt0 : ∀ x ∈ p0, x.block < W.heap.size := by obtain ⟨m, hm⟩ := k0; exact DataW.trod_lt m _ _ _ hm
 obtain ⟨fuel0, hf0⟩ := h0
 obtain ⟨x0, K0, Q0⟩ := opens56 H enc W 0 _ true fuel0 _ _ hf0
 obtain e0 := k56_open K0
 obtain ⟨lst0⟩ := cs0
 have e0' : lst0 = _ := e0
 subst e0'
 obtain ⟨cs1, rfl, _⟩ := okWide_struct Try.underlying57 (hval 1 57 v1 rfl rfl)
 have k1 := h1
 have lt1 : ∀ x ∈ p1, x.block < W.heap.size := by obtain ⟨m, hm⟩ := k1; exact DataW.trod_lt m _ _ _ hm
 obtain ⟨fuel1, hf1⟩ := h1
 obtain ⟨x1, K1, Q1⟩ := opens57 H enc W 0 _ true fuel1 _ _ hf1
 obtain e1 := k57_open K1
 obtain ⟨lst1⟩ := cs1
 have e1' : lst1 = _ := e1
 subst e1'
 obtain ⟨cs2, rfl, _⟩ := okWide_struct Try.underlying61 (hval 2 61 v2 rfl rfl)
 have k2 := h2
 have lt2 : ∀ x ∈ p2, x.block < W.heap.size := by obtain ⟨m, hm⟩ := k2; exact DataW.trod_lt m _ _ _ hm
 obtain ⟨fuel2, hf2⟩ := h2
 obtain ⟨x2, K2, Q2⟩ := opens61 H enc W 0 _ true fuel2 _ _ hf2
 obtain ⟨A2_0, c2_0, A2_1, c2_1, A2_2, c2_2, e2, hc2_0, hr2_0, hc2_1, hr2_1, hc2_2, hr2_2⟩ := k61_open K2
 obtain ⟨lst2⟩ := cs2
 have e2' : lst2 = _ := e2
 subst e2'
 clear hA0 hval0
 obtain ⟨k, h⟩ := P_ConfRights x0.f0 x0.f1 x0.f2 x0.f3 x0.f4 x0.f5 x1.f0 x1.f1 x1.f2 x2.f0 x2.f1 x2.f2 x2.f3.f0 x2.f3.f1 x2.f3.f2 Q0 Q1 Q2
 ·refine (parcloselaw03_ConfRights.calls k x0.f0 x0.f1 x0.f2 x0.f3 x0.f4 x0.f5 x1.f0 x1.f1 x1.f2 _ _ x2.f0 _ _ x2.f1 _ _ x2.f2 x2.f3.f0 x2.f3.f1 x2.f3.f2 true W hr2_0 hc2_0 hr2_1 hc2_1 hr2_2 hc2_2 rfl h).mono fun e W' ⟨he, bel⟩ => ?_
  subst he
  exact ⟨_, rfl, _, _, _, [], _, [], hW', trodAll_mk1 (shut_bool Try.underlying4 _), (trodAll_cons_mk (Below.trod laidOut (by kernel_rfl) (of_decide_eq_true (by kernel_rfl)) k0 bel lt0) (trodAll_cons_mk (Below.trod laidOut (by kernel_rfl) (of_decide_eq_true (by kernel_rfl)) k1 bel lt1) (trodAll_cons_mk (Below.trod laidOut (by kernel_rfl) (of_decide_eq_true (by kernel_rfl)) k2 bel lt2) trodAll_mk0))), rfl, bel.frame _, fun h => by cases h⟩
theorem over : Rows.confRightsRow.holds Try.pinned (OpenSpec.ofChange Rows.confRightsSpec) :=
 OpenClaim.holds_of_wide 5 Try.f5 rfl rfl rfl rfl rfl rfl rfl ⟨rfl, rfl, rfl, rfl, rfl⟩ rfl rfl rfl rfl rfl (by kernel_rfl) Try.func5 (by kernel_rfl)
  (of_decide_eq_true (by kernel_rfl)) (by unfold Func.isWrapper; first | (rw [if_pos (by decide +kernel)]; kernel_rfl) | (rw [if_neg (by decide +kernel)]; exact ⟨rfl, rfl⟩))
  (fun os started H enc _ => lifted os started H enc)
end Go.Proofs.Ytmjhnmdmopmfjaa.LawConfRights
namespace Go.Proofs.Ytmjhnmdmopmfjaa
theorem confRights_holds : Rows.ConfRightsSaid := LawConfRights.over
#print axioms confRights_holds
end Go.Proofs.Ytmjhnmdmopmfjaa
