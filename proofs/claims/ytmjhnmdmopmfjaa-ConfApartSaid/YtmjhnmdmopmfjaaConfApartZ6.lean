/- ConfApart: the statement, for every input. -/
import Derived.Test.YtmjhnmdmopmfjaaRows
import Derived.WalkKit
import Derived.ProofKit
import Derived.OpenShut
import Derived.ShutString
import Derived.ChangeOld
import Derived.Below
import Derived.SizedLaws
import Derived.Test.YtmjhnmdmopmfjaaConfApartZ5
/- ConfApart: the row. What is stored into a system after it was cloned leaves the clone as it was: for every system. -/
namespace Go.Proofs.Ytmjhnmdmopmfjaa.LawConfApart
open Go.ChangeShapes Go.WideShapes Go.ChangeAt Go.RowKit Go.Proofs.YtmjhnmdmopmfjaaW.PrintWords Go.Proofs.Ytmjhnmdmopmfjaa.Fn
open Go.ChangeMaps (open_string shut_string)

set_option linter.unusedVariables false
theorem own : ownKnob Try.prog.godebug = none := by kernel_rfl
theorem laidOut : laidOutB Try.prog = true := by kernel_rfl
set_option maxRecDepth 100000 in
set_option maxHeartbeats 2000000 in
theorem lifted (os : Os) (started : os.Started) (H : Type) (enc : TypeId × Value → H) :
  ReturnsInHanded {} Try.checked os 4 .any (Rows.confApartSpec.pre6 enc Try.prog Try.f4 Rows.confApartRow.domain false) (Rows.confApartSpec.post enc Try.prog Try.f4 false true false false) := by
 refine returnsInHanded_of_change (C := Try.checked) own started (by kernel_rfl) Try.func4
  (ChangeSpec.witness6 (enc := enc) (C := Try.checked) false ⟨#[], #[.agg #[(.int .i64 0), (.int .i64 0), (.slice none 0 0), (.slice none 0 0), (.slice none 0 0)]], []⟩ 8 (by kernel_rfl) (by kernel_rfl) (by kernel_rfl) (by kernel_rfl)) ?_
 intro W base args ds gs before hval0 hW hcnd _
 have hval : ∀ (j : Nat) t v, Try.f4.params[j]? = some t → args[j]? = some v → Value.okWide Try.prog W .any base t v := hval0
 have hW' := hW
 obtain ⟨p, q, hA0, hV, rfl, hfz, hnd⟩ := hW
 have hA : DataW.TrodAll enc Try.prog W 0 (fun _ => true) true Try.f4.params.toList args.toList ds p := hA0
 rw [Try.params4] at hA hval
 obtain ⟨v0, vs0, d0, ds0, p0, q0, hargs, rfl, rfl, h0, r0⟩ := trodAll_cons hA
 obtain ⟨rfl, rfl, rfl⟩ := trodAll_nil r0
 obtain rfl : args = #[v0] := by cases args; simp_all
 obtain ⟨rfl, rfl⟩ := trodVars_none hV
 obtain ⟨cs0, rfl, _⟩ := okWide_struct Try.underlying26 (hval 0 26 v0 rfl rfl)
 have k0 := h0
 have lt0 : ∀ x ∈ p0, x.block < W.heap.size := by obtain ⟨m, hm⟩ := k0; exact DataW.trod_lt m _ _ _ hm
 obtain ⟨fuel0, hf0⟩ := h0
 obtain ⟨x0, K0, Q0⟩ := opens26 H enc W 0 _ true fuel0 _ _ hf0
 obtain ⟨A0_2, c0_2, A0_3, c0_3, A0_4, c0_4, e0, hc0_2, hr0_2, hc0_3, hr0_3, hc0_4, hr0_4⟩ := k26_open K0
 obtain ⟨lst0⟩ := cs0
 have e0' : lst0 = _ := e0
 subst e0'
 clear hA0 hval0
 have h : Calls Try.prog 4 #[.agg #[.int .i64 x0.f0, .int .i64 x0.f1, .slice A0_2 x0.f2.length c0_2, .slice A0_3 x0.f3.length c0_3, .slice A0_4 x0.f4.length c0_4]] W fun e w' => e = .returned (.bool true) ∧ Below W.heap.size W w' := by
  obtain ⟨kl, hl⟩ := light_ev x0.f0 x0.f1 x0.f2 x0.f3 x0.f4
  obtain ⟨kk, hk⟩ := knows3
  cases hlb : lightB x0.f2 x0.f3 x0.f4 with
  | false =>
   rw [hlb] at hl
   exact apart_dark (max kl kk) x0.f0 x0.f1 _ _ x0.f2 _ _ x0.f3 _ _ x0.f4 W hr0_2 hc0_2 hr0_3 hc0_3 hr0_4 hc0_4 (hl _ (by omega)) (hk _ (by omega))
  | true =>
   rw [hlb] at hl
   obtain ⟨h2, h3, h4, hf⟩ := light_of hlb
   obtain ⟨kc, hc⟩ := config_ev (a := x0.f0) (b := x0.f1) hlb
   obtain ⟨ky, hy⟩ := clone_ev (a := x0.f0) (b := x0.f1) (l2 := x0.f2.map cW) (l3 := x0.f3.map cP) (l4 := x0.f4.map cC) (by simp; omega) (by simp; omega) (by simp; omega) (cP_few hf)
   obtain ⟨kz, hz⟩ := rconfig_ev (a := x0.f0) (b := x0.f1) (l2 := x0.f2.map cW) (l3 := x0.f3.map cP) (l4 := x0.f4.map cC) (by simp; omega) (by simp; omega) (by simp; omega) (cP_few hf)
   obtain ⟨ks, hs⟩ := (RSame_ev x0.f0 x0.f1 x0.f2 x0.f3 x0.f4 x0.f0 x0.f1 x0.f2 x0.f3 x0.f4 (by omega) (by omega) hf (by omega)).1 ⟨rfl, rfl, rfl, rfl, rfl⟩
   rw [dW_cW, dP_cP, dC_cC] at hz
   obtain ⟨m, hm1, hm2, hm3, hm4, hm5, hm6⟩ : ∃ m, kl ≤ m ∧ kk ≤ m ∧ kc ≤ m ∧ ky ≤ m ∧ kz ≤ m ∧ ks ≤ m := ⟨kl + kk + kc + ky + kz + ks, by omega, by omega, by omega, by omega, by omega, by omega⟩
   refine apart_light m x0.f0 x0.f1 _ _ x0.f2 _ _ x0.f3 _ _ x0.f4 W hr0_2 hc0_2 hr0_3 hc0_3 hr0_4 hc0_4 (hl _ hm1) (hk _ hm2) _ _ _ _ _ (hc _ hm3) _ _ _ _ _ (hy _ hm4) _ _ _ _ _ (hz _ hm5) (hs _ hm6) (by simp; omega) (by simp; omega) (by simp; omega) (fun p hp => ?_)
   have := cP_few hf p hp
   exact ⟨by have := this.1; omega, by have := this.2.1; omega, by have := this.2.2; omega⟩
 ·refine h.mono fun e W' ⟨he, bel⟩ => ?_
  subst he
  exact ⟨_, rfl, _, _, _, [], _, [], hW', trodAll_mk1 (shut_bool Try.underlying4 _), (trodAll_cons_mk (Below.trod laidOut (by kernel_rfl) (of_decide_eq_true (by kernel_rfl)) k0 bel lt0) trodAll_mk0), rfl, bel.frame _, fun h => by cases h⟩
theorem over : Rows.confApartRow.holds Try.pinned (OpenSpec.ofChange Rows.confApartSpec) :=
 OpenClaim.holds_of_wide 4 Try.f4 rfl rfl rfl rfl rfl rfl rfl ⟨rfl, rfl, rfl, rfl, rfl⟩ rfl rfl rfl rfl rfl (by kernel_rfl) Try.func4 (by kernel_rfl)
  (of_decide_eq_true (by kernel_rfl)) (by unfold Func.isWrapper; first | (rw [if_pos (by decide +kernel)]; kernel_rfl) | (rw [if_neg (by decide +kernel)]; exact ⟨rfl, rfl⟩))
  (fun os started H enc _ => lifted os started H enc)
end Go.Proofs.Ytmjhnmdmopmfjaa.LawConfApart
namespace Go.Proofs.Ytmjhnmdmopmfjaa
theorem confApart_holds : Rows.ConfApartSaid := LawConfApart.over
#print axioms confApart_holds
end Go.Proofs.Ytmjhnmdmopmfjaa
