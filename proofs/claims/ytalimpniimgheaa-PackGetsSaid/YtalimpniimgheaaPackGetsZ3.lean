/- PackGets: the statement, for every input. -/
import Derived.Test.YtalimpniimgheaaRows
import Derived.WalkKit
import Derived.ProofKit
import Derived.OpenShut
import Derived.ShutString
import Derived.ChangeOld
import Derived.Below
import Derived.SizedLaws
import Derived.Test.YtalimpniimgheaaPackGetsZ2
/- PackGets: the row. -/
namespace Go.Proofs.Ytalimpniimgheaa.Fn
open Go.RowKit Go.Proofs.YtalimpniimgheaaW.PrintWords Go.Proofs.YtalimpniimgheaaW.PrintLast Go.Proofs.YtalimpniimgheaaW.PrintMore
open Go.ChangeShapes Go.WideShapes
set_option linter.unusedVariables false
set_option linter.unusedSimpArgs false
theorem cellsO5 : Try.prog.cellsOf 5 = 1 := by kernel_rfl
end Go.Proofs.Ytalimpniimgheaa.Fn
namespace Go.Proofs.Ytalimpniimgheaa.LawPackGets
open Go.ChangeShapes Go.WideShapes Go.ChangeAt Go.RowKit Go.Proofs.YtalimpniimgheaaW.PrintWords Go.Proofs.Ytalimpniimgheaa.Fn
open Go.ChangeMaps (open_string shut_string)

set_option linter.unusedVariables false
theorem own : ownKnob Try.prog.godebug = none := by kernel_rfl
theorem laidOut : laidOutB Try.prog = true := by kernel_rfl
set_option maxRecDepth 100000 in
set_option maxHeartbeats 2000000 in
theorem lifted (os : Os) (started : os.Started) (H : Type) (enc : TypeId × Value → H) :
  ReturnsInHanded {} Try.checked os 10 .any (Rows.packGetsSpec.pre6 enc Try.prog Try.f10 Rows.packGetsRow.domain false) (Rows.packGetsSpec.post enc Try.prog Try.f10 false true false false) := by
 refine returnsInHanded_of_change (C := Try.checked) own started (by kernel_rfl) Try.func10
  (ChangeSpec.witness6 (enc := enc) (C := Try.checked) false ⟨#[], #[.slice none 0 0], []⟩ 8 (by kernel_rfl) (by kernel_rfl) (by kernel_rfl) (by kernel_rfl)) ?_
 intro W base args ds gs before hval0 hW hcnd _
 have hval : ∀ (j : Nat) t v, Try.f10.params[j]? = some t → args[j]? = some v → Value.okWide Try.prog W .any base t v := hval0
 have hW' := hW
 obtain ⟨p, q, hA0, hV, rfl, hfz, hnd⟩ := hW
 have hA : DataW.TrodAll enc Try.prog W 0 (fun _ => true) true Try.f10.params.toList args.toList ds p := hA0
 rw [Try.params10] at hA hval
 obtain ⟨v0, vs0, d0, ds0, p0, q0, hargs, rfl, rfl, h0, r0⟩ := trodAll_cons hA
 obtain ⟨rfl, rfl, rfl⟩ := trodAll_nil r0
 obtain rfl : args = #[v0] := by cases args; simp_all
 obtain ⟨rfl, rfl⟩ := trodVars_none hV
 obtain ⟨a0, len0, cap0, rfl⟩ := okWide_slice Try.underlying78 (hval 0 78 v0 rfl rfl)
 have k0 := h0
 have lt0 : ∀ x ∈ p0, x.block < W.heap.size := by obtain ⟨m, hm⟩ := k0; exact DataW.trod_lt m _ _ _ hm
 obtain ⟨fuel0, hf0⟩ := h0
 obtain ⟨x0, K0, Q0⟩ := (opens_slice Try.underlying78 cellsO5 (opens_int Try.underlying5)) H enc W 0 _ true fuel0 _ _ hf0
 obtain ⟨A0, c0, e0, hc0, hr0⟩ := K0
 have e0' : Value.slice a0 len0 cap0 = .slice A0 x0.length c0 := by simpa [Value.cells] using e0
 injection e0' with e0a e0l e0c
 subst e0a e0l e0c
 clear hA0 hval0
 have h : Calls Try.prog 10 #[.slice a0 x0.length cap0] W fun e w' => e = .returned (.bool true) ∧ Below W.heap.size W w' := by
  exact pgets_walk _ _ x0 W hr0 hc0 (fun c hc => wf_u8 (Q0.2 c hc))
 ·refine h.mono fun e W' ⟨he, bel⟩ => ?_
  subst he
  exact ⟨_, rfl, _, _, _, [], _, [], hW', trodAll_mk1 (shut_bool Try.underlying4 _), (trodAll_cons_mk (Below.trod laidOut (by kernel_rfl) (of_decide_eq_true (by kernel_rfl)) k0 bel lt0) trodAll_mk0), rfl, bel.frame _, fun h => by cases h⟩
theorem over : Rows.packGetsRow.holds Try.pinned (OpenSpec.ofChange Rows.packGetsSpec) :=
 OpenClaim.holds_of_wide 10 Try.f10 rfl rfl rfl rfl rfl rfl rfl ⟨rfl, rfl, rfl, rfl, rfl⟩ rfl rfl rfl rfl rfl (by kernel_rfl) Try.func10 (by kernel_rfl)
  (of_decide_eq_true (by kernel_rfl)) (by unfold Func.isWrapper; first | (rw [if_pos (by decide +kernel)]; kernel_rfl) | (rw [if_neg (by decide +kernel)]; exact ⟨rfl, rfl⟩))
  (fun os started H enc _ => lifted os started H enc)
end Go.Proofs.Ytalimpniimgheaa.LawPackGets
namespace Go.Proofs.Ytalimpniimgheaa
theorem packGets_holds : Rows.PackGetsSaid := LawPackGets.over
#print axioms packGets_holds
end Go.Proofs.Ytalimpniimgheaa
