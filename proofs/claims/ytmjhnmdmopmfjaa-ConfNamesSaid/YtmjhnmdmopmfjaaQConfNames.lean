-- written by a program of this project (wip/myprint)
import Derived.Test.YtmjhnmdmopmfjaaO
import Derived.Test.YtmjhnmdmopmfjaaF3
namespace Go.Proofs.Ytmjhnmdmopmfjaa.Fn
open Go.RowKit Go.Proofs.YtmjhnmdmopmfjaaW.PrintWords Go.Proofs.YtmjhnmdmopmfjaaW.PrintLast Go.Proofs.YtmjhnmdmopmfjaaW.PrintMore
attribute [local go_sem] max2_int min2_int max_two min_two max_three min_three max_four min_four
set_option linter.unusedVariables false
set_option linter.unusedSimpArgs false

def parcloselaw03_ConfNames.Pure : Prop := ∀ (a0_0 : Int) (a0_1 : Int) (l0_2 : List (S77)) (l0_3 : List (S61)) (l0_4 : List (S78)) (a1 : Int) (l2 : List Int), q26 (⟨a0_0, a0_1, l0_2, l0_3, l0_4⟩ : S26) → (qInt .i64) a1 → (qList (qInt .i64)) l2 → ∃ k, parcloselaw03_ConfNames.f k a0_0 a0_1 l0_2 l0_3 l0_4 a1 l2 = some true
end Go.Proofs.Ytmjhnmdmopmfjaa.Fn
