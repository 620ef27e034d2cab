/- ConfSames: the statement, for every input. -/
import Derived.Test.YtmjhnmdmopmfjaaRows
import Derived.WalkKit
import Derived.ProofKit
import Derived.OpenShut
import Derived.ShutString
import Derived.ChangeOld
import Derived.Below
import Derived.SizedLaws
import Derived.Test.YtmjhnmdmopmfjaaConfSamesZ6
namespace Go.Proofs.Ytmjhnmdmopmfjaa.LawConfSames
open Go.ChangeShapes Go.WideShapes Go.ChangeAt Go.RowKit Go.Proofs.YtmjhnmdmopmfjaaW.PrintWords Go.Proofs.Ytmjhnmdmopmfjaa.Fn
open Go.ChangeMaps (open_string shut_string)

set_option linter.unusedVariables false
theorem own : ownKnob Try.prog.godebug = none := by kernel_rfl
theorem laidOut : laidOutB Try.prog = true := by kernel_rfl
set_option maxRecDepth 100000 in
set_option maxHeartbeats 2000000 in
theorem lifted (os : Os) (started : os.Started) (H : Type) (enc : TypeId × Value → H) :
  ReturnsInHanded {} Try.checked os 6 .any (Rows.confSamesSpec.pre6 enc Try.prog Try.f6 Rows.confSamesRow.domain false) (Rows.confSamesSpec.post enc Try.prog Try.f6 false true false false) := by
 refine returnsInHanded_of_change (C := Try.checked) own started (by kernel_rfl) Try.func6
  (ChangeSpec.witness6 (enc := enc) (C := Try.checked) false ⟨#[], #[.agg #[(.int .i64 0), (.int .i64 0), (.slice none 0 0), (.slice none 0 0), (.slice none 0 0)], .agg #[(.int .i64 0), (.int .i64 0), (.slice none 0 0), (.slice none 0 0), (.slice none 0 0)]], []⟩ 8 (by kernel_rfl) (by kernel_rfl) (by kernel_rfl) (by kernel_rfl)) ?_
 intro W base args ds gs before hval0 hW hcnd _
 have hval : ∀ (j : Nat) t v, Try.f6.params[j]? = some t → args[j]? = some v → Value.okWide Try.prog W .any base t v := hval0
 have hW' := hW
 obtain ⟨p, q, hA0, hV, rfl, hfz, hnd⟩ := hW
 have hA : DataW.TrodAll enc Try.prog W 0 (fun _ => true) true Try.f6.params.toList args.toList ds p := hA0
 rw [Try.params6] at hA hval
 obtain ⟨v0, vs0, d0, ds0, p0, q0, hargs, rfl, rfl, h0, r0⟩ := trodAll_cons hA
 obtain ⟨v1, vs1, d1, ds1, p1, q1, rfl, rfl, rfl, h1, r1⟩ := trodAll_cons r0
 obtain ⟨rfl, rfl, rfl⟩ := trodAll_nil r1
 obtain rfl : args = #[v0, v1] := by cases args; simp_all
 obtain ⟨rfl, rfl⟩ := trodVars_none hV
 obtain ⟨cs0, rfl, _⟩ := okWide_struct Try.underlying26 (hval 0 26 v0 rfl rfl)
 have k0 := h0
 have lt0 : ∀ x ∈ p0, x.block < W.heap.size := by obtain ⟨m, hm⟩ := k0; exact DataW.trod_lt m _ _ _ hm
 obtain ⟨fuel0, hf0⟩ := h0
 obtain ⟨x0, K0, Q0⟩ := opens26 H enc W 0 _ true fuel0 _ _ hf0
 obtain ⟨A0_2, c0_2, A0_3, c0_3, A0_4, c0_4, e0, hc0_2, hr0_2, hc0_3, hr0_3, hc0_4, hr0_4⟩ := k26_open K0
 obtain ⟨lst0⟩ := cs0
 have e0' : lst0 = _ := e0
 subst e0'
 obtain ⟨cs1, rfl, _⟩ := okWide_struct Try.underlying26 (hval 1 26 v1 rfl rfl)
 have k1 := h1
 have lt1 : ∀ x ∈ p1, x.block < W.heap.size := by obtain ⟨m, hm⟩ := k1; exact DataW.trod_lt m _ _ _ hm
 obtain ⟨fuel1, hf1⟩ := h1
 obtain ⟨x1, K1, Q1⟩ := opens26 H enc W 0 _ true fuel1 _ _ hf1
 obtain ⟨A1_2, c1_2, A1_3, c1_3, A1_4, c1_4, e1, hc1_2, hr1_2, hc1_3, hr1_3, hc1_4, hr1_4⟩ := k26_open K1
 obtain ⟨lst1⟩ := cs1
 have e1' : lst1 = _ := e1
 subst e1'
 clear hA0 hval0
 obtain ⟨k, h⟩ := P_ConfSames x0.f0 x0.f1 x0.f2 x0.f3 x0.f4 x1.f0 x1.f1 x1.f2 x1.f3 x1.f4 Q0 Q1
 ·refine (parcloselaw03_ConfSames.calls k x0.f0 x0.f1 _ _ x0.f2 _ _ x0.f3 _ _ x0.f4 x1.f0 x1.f1 _ _ x1.f2 _ _ x1.f3 _ _ x1.f4 true W hr0_2 hc0_2 hr0_3 hc0_3 hr0_4 hc0_4 hr1_2 hc1_2 hr1_3 hc1_3 hr1_4 hc1_4 rfl h).mono fun e W' ⟨he, bel⟩ => ?_
  subst he
  exact ⟨_, rfl, _, _, _, [], _, [], hW', trodAll_mk1 (shut_bool Try.underlying4 _), (trodAll_cons_mk (Below.trod laidOut (by kernel_rfl) (of_decide_eq_true (by kernel_rfl)) k0 bel lt0) (trodAll_cons_mk (Below.trod laidOut (by kernel_rfl) (of_decide_eq_true (by kernel_rfl)) k1 bel lt1) trodAll_mk0)), rfl, bel.frame _, fun h => by cases h⟩
theorem over : Rows.confSamesRow.holds Try.pinned (OpenSpec.ofChange Rows.confSamesSpec) :=
 OpenClaim.holds_of_wide 6 Try.f6 rfl rfl rfl rfl rfl rfl rfl ⟨rfl, rfl, rfl, rfl, rfl⟩ rfl rfl rfl rfl rfl (by kernel_rfl) Try.func6 (by kernel_rfl)
  (of_decide_eq_true (by kernel_rfl)) (by unfold Func.isWrapper; first | (rw [if_pos (by decide +kernel)]; kernel_rfl) | (rw [if_neg (by decide +kernel)]; exact ⟨rfl, rfl⟩))
  (fun os started H enc _ => lifted os started H enc)
end Go.Proofs.Ytmjhnmdmopmfjaa.LawConfSames
namespace Go.Proofs.Ytmjhnmdmopmfjaa
theorem confSames_holds : Rows.ConfSamesSaid := LawConfSames.over
#print axioms confSames_holds
end Go.Proofs.Ytmjhnmdmopmfjaa
