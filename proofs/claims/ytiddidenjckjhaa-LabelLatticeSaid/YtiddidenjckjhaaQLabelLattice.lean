-- written by a program of this project (wip/myprint)
import Derived.Test.YtiddidenjckjhaaO
import Derived.Test.YtiddidenjckjhaaF3L0
import Derived.Test.YtiddidenjckjhaaF3L1
import Derived.Test.YtiddidenjckjhaaF3L2
import Derived.Test.YtiddidenjckjhaaF3L3
namespace Go.Proofs.Ytiddidenjckjhaa.Fn
open Go.RowKit Go.Proofs.YtiddidenjckjhaaW.PrintWords Go.Proofs.YtiddidenjckjhaaW.PrintLast Go.Proofs.YtiddidenjckjhaaW.PrintMore
attribute [local go_sem] max2_int min2_int max_two min_two max_three min_three max_four min_four
set_option linter.unusedVariables false
set_option linter.unusedSimpArgs false

def parcloselaw32_LabelLattice.Pure : Prop := ∀ (a0_0 : Int) (a0_1 : Int) (a1_0 : Int) (a1_1 : Int) (l2 : List (S24)), q24 (⟨a0_0, a0_1⟩ : S24) → q24 (⟨a1_0, a1_1⟩ : S24) → (qList q24) l2 → ∃ k, parcloselaw32_LabelLattice_L0.f k a0_0 a0_1 a1_0 a1_1 l2 = some true ∨ parcloselaw32_LabelLattice_L1.f k a0_0 a0_1 a1_0 a1_1 l2 = some true ∨ parcloselaw32_LabelLattice_L2.f k a0_0 a0_1 a1_0 a1_1 l2 = some true ∨ parcloselaw32_LabelLattice_L3.f k a0_0 a0_1 a1_0 a1_1 l2 = some true
end Go.Proofs.Ytiddidenjckjhaa.Fn
