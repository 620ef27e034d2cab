-- written by a program of this project (wip/myprint)
import Derived.Test.YtmjhnmdmopmfjaaT0
import Derived.Test.YtmjhnmdmopmfjaaOpen
namespace Go.Proofs.Ytmjhnmdmopmfjaa.Fn
open Go.RowKit Go.Proofs.YtmjhnmdmopmfjaaW.PrintWords Go.Proofs.YtmjhnmdmopmfjaaW.PrintLast Go.Proofs.YtmjhnmdmopmfjaaW.PrintMore
attribute [local go_sem] max2_int min2_int max_two min_two max_three min_three max_four min_four
set_option linter.unusedVariables false
set_option linter.unusedSimpArgs false

open Go.ChangeShapes Go.WideShapes
theorem cellsO3 : Try.prog.cellsOf 3 = 1 := by kernel_rfl
theorem cellsO77 : Try.prog.cellsOf 77 = 3 := by kernel_rfl
def q77 (x : S77) : Prop := (qInt .i64) x.f0 ∧ (qInt .i64) x.f1 ∧ (qInt .i64) x.f2
set_option maxRecDepth 100000 in
theorem opens77 : Opens Try.prog 77 k77 q77 := by
  intro H enc w base spare held fuel cs x h
  obtain ⟨xs, n, rfl, _, hlen, hxs, hf⟩ := DataW.trod_struct Try.underlying77 h
  rw [cellsO77] at hlen
  have g0 : DataW.trod enc Try.prog w base spare held n 3 ((cs.drop (0)).take (Try.prog.cellsOf 3)) = xs[0]? := hf 0 _ rfl
  rw [cellsO3] at g0
  obtain ⟨a0, K0', Q0⟩ := (opens_int Try.underlying3) H enc w base spare held n _ _ (g0.trans (List.getElem?_eq_getElem (by rw [hxs]; decide)))
  have g1 : DataW.trod enc Try.prog w base spare held n 3 ((cs.drop (1)).take (Try.prog.cellsOf 3)) = xs[1]? := hf 1 _ rfl
  rw [cellsO3] at g1
  obtain ⟨a1, K1', Q1⟩ := (opens_int Try.underlying3) H enc w base spare held n _ _ (g1.trans (List.getElem?_eq_getElem (by rw [hxs]; decide)))
  have g2 : DataW.trod enc Try.prog w base spare held n 3 ((cs.drop (2)).take (Try.prog.cellsOf 3)) = xs[2]? := hf 2 _ rfl
  rw [cellsO3] at g2
  obtain ⟨a2, K2', Q2⟩ := (opens_int Try.underlying3) H enc w base spare held n _ _ (g2.trans (List.getElem?_eq_getElem (by rw [hxs]; decide)))
  exact ⟨⟨a0, a1, a2⟩, ⟨_, _, (List.take_append_drop 1 _).symm, (by simpa only [List.drop_drop, List.drop_zero] using K0'), ⟨_, _, (List.take_append_drop 1 _).symm, (by simpa only [List.drop_drop, List.drop_zero] using K1'), (by have h_ := K2'; rw [List.take_of_length_le (by rw [List.length_drop]; omega)] at h_; simpa only [List.drop_drop, List.drop_zero] using h_)⟩⟩, Q0, Q1, Q2⟩
theorem cellsO4 : Try.prog.cellsOf 4 = 1 := by kernel_rfl
theorem cellsO56 : Try.prog.cellsOf 56 = 6 := by kernel_rfl
def q56 (x : S56) : Prop := qAny x.f0 ∧ (qInt .i64) x.f1 ∧ (qInt .i64) x.f2 ∧ (qInt .i64) x.f3 ∧ (qInt .i64) x.f4 ∧ (qInt .i64) x.f5
set_option maxRecDepth 100000 in
theorem opens56 : Opens Try.prog 56 k56 q56 := by
  intro H enc w base spare held fuel cs x h
  obtain ⟨xs, n, rfl, _, hlen, hxs, hf⟩ := DataW.trod_struct Try.underlying56 h
  rw [cellsO56] at hlen
  have g0 : DataW.trod enc Try.prog w base spare held n 4 ((cs.drop (0)).take (Try.prog.cellsOf 4)) = xs[0]? := hf 0 _ rfl
  rw [cellsO4] at g0
  obtain ⟨a0, K0', Q0⟩ := (opens_bool Try.underlying4) H enc w base spare held n _ _ (g0.trans (List.getElem?_eq_getElem (by rw [hxs]; decide)))
  have g1 : DataW.trod enc Try.prog w base spare held n 3 ((cs.drop (1)).take (Try.prog.cellsOf 3)) = xs[1]? := hf 1 _ rfl
  rw [cellsO3] at g1
  obtain ⟨a1, K1', Q1⟩ := (opens_int Try.underlying3) H enc w base spare held n _ _ (g1.trans (List.getElem?_eq_getElem (by rw [hxs]; decide)))
  have g2 : DataW.trod enc Try.prog w base spare held n 3 ((cs.drop (2)).take (Try.prog.cellsOf 3)) = xs[2]? := hf 2 _ rfl
  rw [cellsO3] at g2
  obtain ⟨a2, K2', Q2⟩ := (opens_int Try.underlying3) H enc w base spare held n _ _ (g2.trans (List.getElem?_eq_getElem (by rw [hxs]; decide)))
  have g3 : DataW.trod enc Try.prog w base spare held n 3 ((cs.drop (3)).take (Try.prog.cellsOf 3)) = xs[3]? := hf 3 _ rfl
  rw [cellsO3] at g3
  obtain ⟨a3, K3', Q3⟩ := (opens_int Try.underlying3) H enc w base spare held n _ _ (g3.trans (List.getElem?_eq_getElem (by rw [hxs]; decide)))
  have g4 : DataW.trod enc Try.prog w base spare held n 3 ((cs.drop (4)).take (Try.prog.cellsOf 3)) = xs[4]? := hf 4 _ rfl
  rw [cellsO3] at g4
  obtain ⟨a4, K4', Q4⟩ := (opens_int Try.underlying3) H enc w base spare held n _ _ (g4.trans (List.getElem?_eq_getElem (by rw [hxs]; decide)))
  have g5 : DataW.trod enc Try.prog w base spare held n 3 ((cs.drop (5)).take (Try.prog.cellsOf 3)) = xs[5]? := hf 5 _ rfl
  rw [cellsO3] at g5
  obtain ⟨a5, K5', Q5⟩ := (opens_int Try.underlying3) H enc w base spare held n _ _ (g5.trans (List.getElem?_eq_getElem (by rw [hxs]; decide)))
  exact ⟨⟨a0, a1, a2, a3, a4, a5⟩, ⟨_, _, (List.take_append_drop 1 _).symm, (by simpa only [List.drop_drop, List.drop_zero] using K0'), ⟨_, _, (List.take_append_drop 1 _).symm, (by simpa only [List.drop_drop, List.drop_zero] using K1'), ⟨_, _, (List.take_append_drop 1 _).symm, (by simpa only [List.drop_drop, List.drop_zero] using K2'), ⟨_, _, (List.take_append_drop 1 _).symm, (by simpa only [List.drop_drop, List.drop_zero] using K3'), ⟨_, _, (List.take_append_drop 1 _).symm, (by simpa only [List.drop_drop, List.drop_zero] using K4'), (by have h_ := K5'; rw [List.take_of_length_le (by rw [List.length_drop]; omega)] at h_; simpa only [List.drop_drop, List.drop_zero] using h_)⟩⟩⟩⟩⟩, Q0, Q1, Q2, Q3, Q4, Q5⟩
theorem cellsO57 : Try.prog.cellsOf 57 = 3 := by kernel_rfl
def q57 (x : S57) : Prop := qAny x.f0 ∧ (qInt .i64) x.f1 ∧ (qInt .i64) x.f2
set_option maxRecDepth 100000 in
theorem opens57 : Opens Try.prog 57 k57 q57 := by
  intro H enc w base spare held fuel cs x h
  obtain ⟨xs, n, rfl, _, hlen, hxs, hf⟩ := DataW.trod_struct Try.underlying57 h
  rw [cellsO57] at hlen
  have g0 : DataW.trod enc Try.prog w base spare held n 4 ((cs.drop (0)).take (Try.prog.cellsOf 4)) = xs[0]? := hf 0 _ rfl
  rw [cellsO4] at g0
  obtain ⟨a0, K0', Q0⟩ := (opens_bool Try.underlying4) H enc w base spare held n _ _ (g0.trans (List.getElem?_eq_getElem (by rw [hxs]; decide)))
  have g1 : DataW.trod enc Try.prog w base spare held n 3 ((cs.drop (1)).take (Try.prog.cellsOf 3)) = xs[1]? := hf 1 _ rfl
  rw [cellsO3] at g1
  obtain ⟨a1, K1', Q1⟩ := (opens_int Try.underlying3) H enc w base spare held n _ _ (g1.trans (List.getElem?_eq_getElem (by rw [hxs]; decide)))
  have g2 : DataW.trod enc Try.prog w base spare held n 3 ((cs.drop (2)).take (Try.prog.cellsOf 3)) = xs[2]? := hf 2 _ rfl
  rw [cellsO3] at g2
  obtain ⟨a2, K2', Q2⟩ := (opens_int Try.underlying3) H enc w base spare held n _ _ (g2.trans (List.getElem?_eq_getElem (by rw [hxs]; decide)))
  exact ⟨⟨a0, a1, a2⟩, ⟨_, _, (List.take_append_drop 1 _).symm, (by simpa only [List.drop_drop, List.drop_zero] using K0'), ⟨_, _, (List.take_append_drop 1 _).symm, (by simpa only [List.drop_drop, List.drop_zero] using K1'), (by have h_ := K2'; rw [List.take_of_length_le (by rw [List.length_drop]; omega)] at h_; simpa only [List.drop_drop, List.drop_zero] using h_)⟩⟩, Q0, Q1, Q2⟩
theorem cellsO5 : Try.prog.cellsOf 5 = 1 := by kernel_rfl
theorem cellsO47 : Try.prog.cellsOf 47 = 3 := by kernel_rfl
def q47 (x : S47) : Prop := (qInt .u8) x.f0 ∧ (qInt .u8) x.f1 ∧ (qInt .u8) x.f2
set_option maxRecDepth 100000 in
theorem opens47 : Opens Try.prog 47 k47 q47 := by
  intro H enc w base spare held fuel cs x h
  obtain ⟨xs, n, rfl, _, hlen, hxs, hf⟩ := DataW.trod_array Try.underlying47 h
  rw [cellsO47] at hlen
  have g0 : DataW.trod enc Try.prog w base spare held n 5 ((cs.drop (0 * Try.prog.cellsOf 5)).take (Try.prog.cellsOf 5)) = xs[0]? := hf 0 (by decide)
  rw [cellsO5] at g0
  obtain ⟨a0, K0', Q0⟩ := (opens_int Try.underlying5) H enc w base spare held n _ _ (g0.trans (List.getElem?_eq_getElem (by rw [hxs]; decide)))
  simp only [Nat.reduceMul] at K0'
  have g1 : DataW.trod enc Try.prog w base spare held n 5 ((cs.drop (1 * Try.prog.cellsOf 5)).take (Try.prog.cellsOf 5)) = xs[1]? := hf 1 (by decide)
  rw [cellsO5] at g1
  obtain ⟨a1, K1', Q1⟩ := (opens_int Try.underlying5) H enc w base spare held n _ _ (g1.trans (List.getElem?_eq_getElem (by rw [hxs]; decide)))
  simp only [Nat.reduceMul] at K1'
  have g2 : DataW.trod enc Try.prog w base spare held n 5 ((cs.drop (2 * Try.prog.cellsOf 5)).take (Try.prog.cellsOf 5)) = xs[2]? := hf 2 (by decide)
  rw [cellsO5] at g2
  obtain ⟨a2, K2', Q2⟩ := (opens_int Try.underlying5) H enc w base spare held n _ _ (g2.trans (List.getElem?_eq_getElem (by rw [hxs]; decide)))
  simp only [Nat.reduceMul] at K2'
  exact ⟨⟨a0, a1, a2⟩, ⟨_, _, (List.take_append_drop 1 _).symm, (by simpa only [List.drop_drop, List.drop_zero] using K0'), ⟨_, _, (List.take_append_drop 1 _).symm, (by simpa only [List.drop_drop, List.drop_zero] using K1'), (by have h_ := K2'; rw [List.take_of_length_le (by rw [List.length_drop]; omega)] at h_; simpa only [List.drop_drop, List.drop_zero] using h_)⟩⟩, Q0, Q1, Q2⟩
theorem cellsO58 : Try.prog.cellsOf 58 = 1 := by kernel_rfl
theorem cellsO59 : Try.prog.cellsOf 59 = 1 := by kernel_rfl
theorem cellsO27 : Try.prog.cellsOf 27 = 1 := by kernel_rfl
theorem cellsO61 : Try.prog.cellsOf 61 = 6 := by kernel_rfl
def q61 (x : S61) : Prop := (qList q56) x.f0 ∧ (qList q57) x.f1 ∧ (qList (qInt .i64)) x.f2 ∧ q47 x.f3
set_option maxRecDepth 100000 in
theorem opens61 : Opens Try.prog 61 k61 q61 := by
  intro H enc w base spare held fuel cs x h
  obtain ⟨xs, n, rfl, _, hlen, hxs, hf⟩ := DataW.trod_struct Try.underlying61 h
  rw [cellsO61] at hlen
  have g0 : DataW.trod enc Try.prog w base spare held n 58 ((cs.drop (0)).take (Try.prog.cellsOf 58)) = xs[0]? := hf 0 _ rfl
  rw [cellsO58] at g0
  obtain ⟨a0, K0', Q0⟩ := (opens_slice Try.underlying58 cellsO56 opens56) H enc w base spare held n _ _ (g0.trans (List.getElem?_eq_getElem (by rw [hxs]; decide)))
  have g1 : DataW.trod enc Try.prog w base spare held n 59 ((cs.drop (1)).take (Try.prog.cellsOf 59)) = xs[1]? := hf 1 _ rfl
  rw [cellsO59] at g1
  obtain ⟨a1, K1', Q1⟩ := (opens_slice Try.underlying59 cellsO57 opens57) H enc w base spare held n _ _ (g1.trans (List.getElem?_eq_getElem (by rw [hxs]; decide)))
  have g2 : DataW.trod enc Try.prog w base spare held n 27 ((cs.drop (2)).take (Try.prog.cellsOf 27)) = xs[2]? := hf 2 _ rfl
  rw [cellsO27] at g2
  obtain ⟨a2, K2', Q2⟩ := (opens_slice Try.underlying27 cellsO3 (opens_int Try.underlying3)) H enc w base spare held n _ _ (g2.trans (List.getElem?_eq_getElem (by rw [hxs]; decide)))
  have g3 : DataW.trod enc Try.prog w base spare held n 47 ((cs.drop (3)).take (Try.prog.cellsOf 47)) = xs[3]? := hf 3 _ rfl
  rw [cellsO47] at g3
  obtain ⟨a3, K3', Q3⟩ := opens47 H enc w base spare held n _ _ (g3.trans (List.getElem?_eq_getElem (by rw [hxs]; decide)))
  exact ⟨⟨a0, a1, a2, a3⟩, ⟨_, _, (List.take_append_drop 1 _).symm, (by simpa only [List.drop_drop, List.drop_zero] using K0'), ⟨_, _, (List.take_append_drop 1 _).symm, (by simpa only [List.drop_drop, List.drop_zero] using K1'), ⟨_, _, (List.take_append_drop 1 _).symm, (by simpa only [List.drop_drop, List.drop_zero] using K2'), (by have h_ := K3'; rw [List.take_of_length_le (by rw [List.length_drop]; omega)] at h_; simpa only [List.drop_drop, List.drop_zero] using h_)⟩⟩⟩, Q0, Q1, Q2, Q3⟩
theorem cellsO78 : Try.prog.cellsOf 78 = 4 := by kernel_rfl
def q78 (x : S78) : Prop := qAny x.f0 ∧ (qInt .i64) x.f1 ∧ (qInt .i64) x.f2 ∧ (qInt .i64) x.f3
set_option maxRecDepth 100000 in
theorem opens78 : Opens Try.prog 78 k78 q78 := by
  intro H enc w base spare held fuel cs x h
  obtain ⟨xs, n, rfl, _, hlen, hxs, hf⟩ := DataW.trod_struct Try.underlying78 h
  rw [cellsO78] at hlen
  have g0 : DataW.trod enc Try.prog w base spare held n 4 ((cs.drop (0)).take (Try.prog.cellsOf 4)) = xs[0]? := hf 0 _ rfl
  rw [cellsO4] at g0
  obtain ⟨a0, K0', Q0⟩ := (opens_bool Try.underlying4) H enc w base spare held n _ _ (g0.trans (List.getElem?_eq_getElem (by rw [hxs]; decide)))
  have g1 : DataW.trod enc Try.prog w base spare held n 3 ((cs.drop (1)).take (Try.prog.cellsOf 3)) = xs[1]? := hf 1 _ rfl
  rw [cellsO3] at g1
  obtain ⟨a1, K1', Q1⟩ := (opens_int Try.underlying3) H enc w base spare held n _ _ (g1.trans (List.getElem?_eq_getElem (by rw [hxs]; decide)))
  have g2 : DataW.trod enc Try.prog w base spare held n 3 ((cs.drop (2)).take (Try.prog.cellsOf 3)) = xs[2]? := hf 2 _ rfl
  rw [cellsO3] at g2
  obtain ⟨a2, K2', Q2⟩ := (opens_int Try.underlying3) H enc w base spare held n _ _ (g2.trans (List.getElem?_eq_getElem (by rw [hxs]; decide)))
  have g3 : DataW.trod enc Try.prog w base spare held n 3 ((cs.drop (3)).take (Try.prog.cellsOf 3)) = xs[3]? := hf 3 _ rfl
  rw [cellsO3] at g3
  obtain ⟨a3, K3', Q3⟩ := (opens_int Try.underlying3) H enc w base spare held n _ _ (g3.trans (List.getElem?_eq_getElem (by rw [hxs]; decide)))
  exact ⟨⟨a0, a1, a2, a3⟩, ⟨_, _, (List.take_append_drop 1 _).symm, (by simpa only [List.drop_drop, List.drop_zero] using K0'), ⟨_, _, (List.take_append_drop 1 _).symm, (by simpa only [List.drop_drop, List.drop_zero] using K1'), ⟨_, _, (List.take_append_drop 1 _).symm, (by simpa only [List.drop_drop, List.drop_zero] using K2'), (by have h_ := K3'; rw [List.take_of_length_le (by rw [List.length_drop]; omega)] at h_; simpa only [List.drop_drop, List.drop_zero] using h_)⟩⟩⟩, Q0, Q1, Q2, Q3⟩
theorem cellsO22 : Try.prog.cellsOf 22 = 1 := by kernel_rfl
theorem cellsO23 : Try.prog.cellsOf 23 = 1 := by kernel_rfl
theorem cellsO24 : Try.prog.cellsOf 24 = 1 := by kernel_rfl
theorem cellsO26 : Try.prog.cellsOf 26 = 5 := by kernel_rfl
def q26 (x : S26) : Prop := (qInt .i64) x.f0 ∧ (qInt .i64) x.f1 ∧ (qList q77) x.f2 ∧ (qList q61) x.f3 ∧ (qList q78) x.f4
set_option maxRecDepth 100000 in
theorem opens26 : Opens Try.prog 26 k26 q26 := by
  intro H enc w base spare held fuel cs x h
  obtain ⟨xs, n, rfl, _, hlen, hxs, hf⟩ := DataW.trod_struct Try.underlying26 h
  rw [cellsO26] at hlen
  have g0 : DataW.trod enc Try.prog w base spare held n 3 ((cs.drop (0)).take (Try.prog.cellsOf 3)) = xs[0]? := hf 0 _ rfl
  rw [cellsO3] at g0
  obtain ⟨a0, K0', Q0⟩ := (opens_int Try.underlying3) H enc w base spare held n _ _ (g0.trans (List.getElem?_eq_getElem (by rw [hxs]; decide)))
  have g1 : DataW.trod enc Try.prog w base spare held n 3 ((cs.drop (1)).take (Try.prog.cellsOf 3)) = xs[1]? := hf 1 _ rfl
  rw [cellsO3] at g1
  obtain ⟨a1, K1', Q1⟩ := (opens_int Try.underlying3) H enc w base spare held n _ _ (g1.trans (List.getElem?_eq_getElem (by rw [hxs]; decide)))
  have g2 : DataW.trod enc Try.prog w base spare held n 22 ((cs.drop (2)).take (Try.prog.cellsOf 22)) = xs[2]? := hf 2 _ rfl
  rw [cellsO22] at g2
  obtain ⟨a2, K2', Q2⟩ := (opens_slice Try.underlying22 cellsO77 opens77) H enc w base spare held n _ _ (g2.trans (List.getElem?_eq_getElem (by rw [hxs]; decide)))
  have g3 : DataW.trod enc Try.prog w base spare held n 23 ((cs.drop (3)).take (Try.prog.cellsOf 23)) = xs[3]? := hf 3 _ rfl
  rw [cellsO23] at g3
  obtain ⟨a3, K3', Q3⟩ := (opens_slice Try.underlying23 cellsO61 opens61) H enc w base spare held n _ _ (g3.trans (List.getElem?_eq_getElem (by rw [hxs]; decide)))
  have g4 : DataW.trod enc Try.prog w base spare held n 24 ((cs.drop (4)).take (Try.prog.cellsOf 24)) = xs[4]? := hf 4 _ rfl
  rw [cellsO24] at g4
  obtain ⟨a4, K4', Q4⟩ := (opens_slice Try.underlying24 cellsO78 opens78) H enc w base spare held n _ _ (g4.trans (List.getElem?_eq_getElem (by rw [hxs]; decide)))
  exact ⟨⟨a0, a1, a2, a3, a4⟩, ⟨_, _, (List.take_append_drop 1 _).symm, (by simpa only [List.drop_drop, List.drop_zero] using K0'), ⟨_, _, (List.take_append_drop 1 _).symm, (by simpa only [List.drop_drop, List.drop_zero] using K1'), ⟨_, _, (List.take_append_drop 1 _).symm, (by simpa only [List.drop_drop, List.drop_zero] using K2'), ⟨_, _, (List.take_append_drop 1 _).symm, (by simpa only [List.drop_drop, List.drop_zero] using K3'), (by have h_ := K4'; rw [List.take_of_length_le (by rw [List.length_drop]; omega)] at h_; simpa only [List.drop_drop, List.drop_zero] using h_)⟩⟩⟩⟩, Q0, Q1, Q2, Q3, Q4⟩
end Go.Proofs.Ytmjhnmdmopmfjaa.Fn
