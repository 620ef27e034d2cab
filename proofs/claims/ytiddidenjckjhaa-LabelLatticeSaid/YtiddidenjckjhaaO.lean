-- written by a program of this project (wip/myprint)
import Derived.Test.YtiddidenjckjhaaT0
import Derived.Test.YtiddidenjckjhaaOpen
namespace Go.Proofs.Ytiddidenjckjhaa.Fn
open Go.RowKit Go.Proofs.YtiddidenjckjhaaW.PrintWords Go.Proofs.YtiddidenjckjhaaW.PrintLast Go.Proofs.YtiddidenjckjhaaW.PrintMore
attribute [local go_sem] max2_int min2_int max_two min_two max_three min_three max_four min_four
set_option linter.unusedVariables false
set_option linter.unusedSimpArgs false

open Go.ChangeShapes Go.WideShapes
theorem cellsO3 : Try.prog.cellsOf 3 = 1 := by kernel_rfl
theorem cellsO22 : Try.prog.cellsOf 22 = 1 := by kernel_rfl
theorem cellsO24 : Try.prog.cellsOf 24 = 2 := by kernel_rfl
def q24 (x : S24) : Prop := (qInt .i64) x.f0 ∧ (qInt .u32) x.f1
set_option maxRecDepth 100000 in
theorem opens24 : Opens Try.prog 24 k24 q24 := by
  intro H enc w base spare held fuel cs x h
  obtain ⟨xs, n, rfl, _, hlen, hxs, hf⟩ := DataW.trod_struct Try.underlying24 h
  rw [cellsO24] at hlen
  have g0 : DataW.trod enc Try.prog w base spare held n 3 ((cs.drop (0)).take (Try.prog.cellsOf 3)) = xs[0]? := hf 0 _ rfl
  rw [cellsO3] at g0
  obtain ⟨a0, K0', Q0⟩ := (opens_int Try.underlying3) H enc w base spare held n _ _ (g0.trans (List.getElem?_eq_getElem (by rw [hxs]; decide)))
  have g1 : DataW.trod enc Try.prog w base spare held n 22 ((cs.drop (1)).take (Try.prog.cellsOf 22)) = xs[1]? := hf 1 _ rfl
  rw [cellsO22] at g1
  obtain ⟨a1, K1', Q1⟩ := (opens_int Try.underlying22) H enc w base spare held n _ _ (g1.trans (List.getElem?_eq_getElem (by rw [hxs]; decide)))
  exact ⟨⟨a0, a1⟩, ⟨_, _, (List.take_append_drop 1 _).symm, (by simpa only [List.drop_drop, List.drop_zero] using K0'), (by have h_ := K1'; rw [List.take_of_length_le (by rw [List.length_drop]; omega)] at h_; simpa only [List.drop_drop, List.drop_zero] using h_)⟩, Q0, Q1⟩
end Go.Proofs.Ytiddidenjckjhaa.Fn
