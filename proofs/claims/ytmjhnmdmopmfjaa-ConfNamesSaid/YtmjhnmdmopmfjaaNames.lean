/- conf.Config's Names: are others named, each once: what it answers, for every system and every list of numbers. -/
import Derived.Test.YtmjhnmdmopmfjaaSets
import Derived.Test.YtmjhnmdmopmfjaaF18
namespace Go.Proofs.Ytmjhnmdmopmfjaa.Fn
open Go.RowKit Go.Proofs.YtmjhnmdmopmfjaaW.PrintWords Go.Proofs.YtmjhnmdmopmfjaaW.PrintLast Go.Proofs.YtmjhnmdmopmfjaaW.PrintMore
set_option linter.unusedVariables false
set_option linter.unusedSimpArgs false

def namesGo (n : Nat) : List Int → List Int → Bool
  | _, [] => true
  | met, q :: qs => if q ∈ met then false else if 0 ≤ q ∧ q < (n : Int) then namesGo n (q :: met) qs else false
def conf_Config_Names.f (a0_0 : Int) (a0_1 : Int) (l0_2 : List S42) (l0_3 : List S49) (l0_4 : List S44) (a1 : Int) (l2 : List Int) : Option Bool :=
  if (Lit.int .i64 a1).wf = true ∧ (∀ x ∈ l2, (Lit.int .i64 x).wf = true) ∧ l2.length < 9223372036854775807 then some (if 0 ≤ a1 ∧ a1 < (l0_3.length : Int) then namesGo l0_3.length [a1] l2 else false) else none
theorem zero_bool4 (w : World) : (zeroValue 4).run Try.prog w = .ok (.bool false) w := by kernel_rfl
theorem has_f (a0_0 a0_1 : Int) (l2 : List S42) (l3 : List S49) (l4 : List S44) (q : Int) : conf_Config_Has.f a0_0 a0_1 l2 l3 l4 q = some (decide (0 ≤ q ∧ q < (l3.length : Int))) := by
  unfold conf_Config_Has.f
  by_cases h : q ≥ 0
  · rw [if_pos h]; simp [h]
  · rw [if_neg h]; simp; omega

set_option maxHeartbeats 8000000 in
set_option maxRecDepth 100000 in
theorem conf_Config_Names.calls (a0_0 : Int) (a0_1 : Int) (A0_2 : Option Addr) (c0_2 : Nat) (l0_2 : List S42) (A0_3 : Option Addr) (c0_3 : Nat) (l0_3 : List S49) (A0_4 : Option Addr) (c0_4 : Nat) (l0_4 : List S44) (a1 : Int) (A2 : Option Addr) (c2 : Nat) (l2 : List Int) (r : Bool) (w : World) (hr0_2 : Kd.C k42 w A0_2 l0_2.length l0_2) (hc0_2 : l0_2.length ≤ c0_2) (hr0_3 : Kd.C k49 w A0_3 l0_3.length l0_3) (hc0_3 : l0_3.length ≤ c0_3) (hr0_4 : Kd.C k44 w A0_4 l0_4.length l0_4) (hc0_4 : l0_4.length ≤ c0_4) (hr2 : Kd.C (Kd.int .i64) w A2 l2.length l2) (hc2 : l2.length ≤ c2) (h : conf_Config_Names.f a0_0 a0_1 l0_2 l0_3 l0_4 a1 l2 = some r) :
    Calls Try.prog 20 #[.agg #[.int .i64 a0_0, .int .i64 a0_1, .slice A0_2 l0_2.length c0_2, .slice A0_3 l0_3.length c0_3, .slice A0_4 l0_4.length c0_4], .int .i64 a1, .slice A2 l2.length c2] w fun e w' => e = .returned (.bool r) ∧ Below w.heap.size w w' := by
  unfold conf_Config_Names.f at h
  by_cases hok : (Lit.int .i64 a1).wf = true ∧ (∀ x ∈ l2, (Lit.int .i64 x).wf = true) ∧ l2.length < 9223372036854775807
  case neg => rw [if_neg hok] at h; cases h
  rw [if_pos hok] at h
  obtain ⟨hw1, hw2, hlen⟩ := hok
  have HR2 := Aside0.mk hr2
  have HLEN := Aside0.mk hlen
  have HR02 := Aside0.mk hr0_2
  have HR03 := Aside0.mk hr0_3
  have HR04 := Aside0.mk hr0_4
  have HC02 := Aside0.mk hc0_2
  have HC03 := Aside0.mk hc0_3
  have HC04 := Aside0.mk hc0_4
  have HW1 := Aside0.mk hw1
  have HW2 := Aside0.mk hw2
  clear hr2 hc2 hr0_2 hr0_3 hr0_4 hc0_2 hc0_3 hc0_4 hw1 hw2 hlen
  have hu34 := Try.underlying34
  have hmm := @run_makeMap Try.prog
  by_cases hp : 0 ≤ a1 ∧ a1 < (l0_3.length : Int)
  · rw [if_pos hp] at h
    have H := Aside0.mk (Option.some.inj h)
    have HAS : Aside0 (conf_Config_Has.f a0_0 a0_1 l0_2 l0_3 l0_4 a1 = some true) := Aside0.mk (by rw [has_f]; simp [hp])
    clear h
    go_enter Try.func20, Try.ntmps20
    go_wp2_with fail
    refine (conf_Config_Has.calls _ _ _ _ l0_2 _ _ l0_3 _ _ l0_4 _ true _ ?s1 ?s2 ?s3 ?s4 ?s5 ?s6 HAS.out).mono ?_
    case s1 => exact Kd.C_alloc HR02.out _
    case s2 => exact HC02.out
    case s3 => exact Kd.C_alloc HR03.out _
    case s4 => exact HC03.out
    case s5 => exact Kd.C_alloc HR04.out _
    case s6 => exact HC04.out
    rintro e w1 ⟨rfl, hb⟩
    have HB1 := Aside0.mk hb
    have hsz : w.heap.size < w1.heap.size := by have := hb.size; simp at this; omega
    have HSZ := Aside0.mk hsz
    have hcell0 : ∀ o < 5, w1.cell? ⟨w.heap.size, o, none⟩ = (w.alloc (.cells #[Value.int .i64 a0_0, .int .i64 a0_1, .slice A0_2 l0_2.length c0_2, .slice A0_3 l0_3.length c0_3, .slice A0_4 l0_4.length c0_4] 34)).cell? ⟨w.heap.size, o, none⟩ := fun o _ => hb.cell (p := ⟨w.heap.size, o, none⟩) (by simp)
    clear hb hsz
    go_wp2_with (first | ((with_reducible refine set_update _ rfl (.tmp 14) (.tmp 15) (.const (.bool true)) 103 (Or.inr rfl) 3 4 Try.underlying3 Try.underlying103 Try.underlying4 w1.heap.size 0 [] a1 ?xm ?xs ?xx ?xv HW1.out ?xn ?xK); (case xm => rfl); (case xs => exact SetMap.made _ _ _ _); (case xx => rfl); (case xv => rfl); (case xn => (unfold maxLen; omega)); intro w2 hs2 hg2; have HS2 := Aside0.mk hs2; have HG2 := Aside0.mk hg2; clear hs2 hg2))
    have hbw1 : Below w.heap.size w w1 := below_then (below_alloc (Below.refl _ _) _) (by simp) HB1.out
    have hb1 := blk_below (heap_alloc_new w (.cells #[Value.int .i64 a0_0, .int .i64 a0_1, .slice A0_2 l0_2.length c0_2, .slice A0_3 l0_3.length c0_3, .slice A0_4 l0_4.length c0_4] 34)) HB1.out
    have hb2 := blk_grown (blk_alloc hb1 _) HG2.out (by have := HSZ.out; intro hh; have := Option.some.inj hh; omega)
    have hbw2 : Below w.heap.size w w2 := pw_below_grown (below_alloc hbw1 _) (some w1.heap.size) (below_size (below_alloc hbw1 _)) HG2.out (fun j hj => by have := Option.some.inj hj; have := HSZ.out; omega)
    have HB2 := Aside0.mk hbw2
    have HX2 := Aside0.mk hb2
    clear hbw1 hb1 hb2 hbw2 hcell0 hp HB1 HG2
    go_loopw [19] (fun i wr => ∃ (k : Nat) (met : List Int), i = .int .i64 k ∧ Aside0 (k ≤ l2.length) ∧ Aside0 (SetMap Try.prog 3 4 wr w1.heap.size (k + 1) met) ∧ Aside0 (namesGo l0_3.length met (l2.drop k) = r) ∧ Aside0 (Below w.heap.size w wr) ∧ Aside0 (wr.heap[w.heap.size]? = some (.cells #[Value.int .i64 a0_0, .int .i64 a0_1, .slice A0_2 l0_2.length c0_2, .slice A0_3 l0_3.length c0_3, .slice A0_4 l0_4.length c0_4] 34 (0, 0))))
      (fun i _ => l2.length - (intOf i).toNat)
    case atStart => exact ⟨0, [a1], rfl, ⟨Nat.zero_le _⟩, HS2, H, HB2, HX2⟩
    case round =>
      obtain ⟨k, met, rfl, HK, HS, HN, HB, HX⟩ := hrel
      clear HS2 H HB2 HX2 HAS
      by_cases hlt : k < l2.length
      · obtain ⟨ad, rfl, hcell⟩ := Kd.at_int (Kd.C_below HR2.out HB.out) (k : Int) (by omega) (by omega)
        obtain ⟨q, hq⟩ : ∃ q, q = rd l2 (k : Int) := ⟨_, rfl⟩
        have hqe : l2[k]? = some q := by rw [hq]; simp [rd, List.getD, List.getElem?_eq_getElem hlt]
        have HD : l2.drop k = q :: l2.drop (k + 1) := by
          rw [List.drop_eq_getElem_cons hlt]
          rw [List.getElem?_eq_getElem hlt] at hqe
          rw [Option.some.inj hqe]
        have HWQ := Aside0.mk (HW2.out q (List.mem_of_getElem? hqe))
        rw [← hq, Int.toNat_natCast] at hcell
        clear hq hqe
        rw [HD] at HN
        have HN2 := HN
        clear HN
        have HN := HN2
        clear HN2
        have HDD := Aside0.mk HD
        clear HD
        have hx0 := blk_cell HX.out 0
        have hx1 := blk_cell HX.out 1
        have hx2 := blk_cell HX.out 2
        have hx3 := blk_cell HX.out 3
        have hx4 := blk_cell HX.out 4
        have hkk : decide ((k : Int) < (l2.length : Int)) = true := by simp; omega
        have hkn : decide (k < l2.length) = true := by simp; omega
        simp only [List.getElem?_toArray, List.getElem?_cons_zero, List.getElem?_cons_succ] at hx0 hx1 hx2 hx3 hx4
        by_cases hm : q ∈ met
        · have hr : r = false := by have := HN.out; rw [namesGo, if_pos hm] at this; exact this.symm
          subst hr
          have hc := Aside0.mk (decide_eq_true hm)
          clear hm
          go_wp2_with (first | (at_lookup; refine set_lookup _ rfl _ _ 103 rfl 3 4 Try.underlying3 Try.underlying103 Try.underlying4 zero_bool4 w1.heap.size (k + 1) met q true ?xm HS.out ?xx HWQ.out hc.out ?_; (case xm => rfl); (case xx => rfl)))
          go_ret
          exact ⟨rfl, HB.out⟩
        · have hc := Aside0.mk (decide_eq_false hm)
          obtain ⟨b, hb⟩ : ∃ b, b = decide (0 ≤ q ∧ q < (l0_3.length : Int)) := ⟨_, rfl⟩
          have HAS : Aside0 (conf_Config_Has.f a0_0 a0_1 l0_2 l0_3 l0_4 q = some b) := Aside0.mk (by rw [has_f, hb])
          cases b with
          | false =>
            have hr : r = false := by have := HN.out; rw [namesGo, if_neg hm, if_neg (by simpa using hb.symm)] at this; exact this.symm
            subst hr
            clear hm hb
            go_wp2_with (first | (at_lookup; refine set_lookup _ rfl _ _ 103 rfl 3 4 Try.underlying3 Try.underlying103 Try.underlying4 zero_bool4 w1.heap.size (k + 1) met q false ?xm HS.out ?xx HWQ.out hc.out ?_; (case xm => rfl); (case xx => rfl)) | (go_at_call 18; refine (conf_Config_Has.calls _ _ _ _ l0_2 _ _ l0_3 _ _ l0_4 _ false _ ?s1 ?s2 ?s3 ?s4 ?s5 ?s6 HAS.out).mono ?_; (case s1 => exact Kd.C_below HR02.out HB.out); (case s2 => exact HC02.out); (case s3 => exact Kd.C_below HR03.out HB.out); (case s4 => exact HC03.out); (case s5 => exact Kd.C_below HR04.out HB.out); (case s6 => exact HC04.out); rintro e w3 ⟨rfl, hb3⟩; have HB3 := Aside0.mk (below_step HB.out hb3); clear hb3))
            go_ret
            exact ⟨rfl, HB3.out⟩
          | true =>
            have HN2 := HN
            clear HN
            have HN : Aside0 (namesGo l0_3.length (q :: met) (l2.drop (k + 1)) = r) := Aside0.mk (by have := HN2.out; rw [namesGo, if_neg hm, if_pos (by simpa using hb.symm)] at this; exact this)
            clear HN2 hm hb
            have hkb : (k : Int) ≤ 9223372036854775805 := by have := HLEN.out; omega
            go_wp2_with (first | (at_lookup; refine set_lookup _ rfl _ _ 103 rfl 3 4 Try.underlying3 Try.underlying103 Try.underlying4 zero_bool4 w1.heap.size (k + 1) met q false ?xm HS.out ?xx HWQ.out hc.out ?_; (case xm => rfl); (case xx => rfl)) | (go_at_call 18; refine (conf_Config_Has.calls _ _ _ _ l0_2 _ _ l0_3 _ _ l0_4 _ true _ ?s1 ?s2 ?s3 ?s4 ?s5 ?s6 HAS.out).mono ?_; (case s1 => exact Kd.C_below HR02.out HB.out); (case s2 => exact HC02.out); (case s3 => exact Kd.C_below HR03.out HB.out); (case s4 => exact HC03.out); (case s5 => exact Kd.C_below HR04.out HB.out); (case s6 => exact HC04.out); rintro e w3 ⟨rfl, hb3⟩; have HB3 := Aside0.mk (below_step HB.out hb3); have HX3 := Aside0.mk (blk_below HX.out hb3); have HS3 := Aside0.mk (SetMap.below HS.out hb3); clear hb3) | (at_mapUpdate; refine set_update _ rfl _ _ _ 103 (Or.inl rfl) 3 4 Try.underlying3 Try.underlying103 Try.underlying4 w1.heap.size (k + 1) met q ?xm HS3.out ?xx ?xv HWQ.out ?xn ?_; (case xm => rfl); (case xx => rfl); (case xv => rfl); (case xn => (have := HLEN.out; have := HK.out; unfold maxLen; omega)); intro w4 hs4 hg4; have HS4 := Aside0.mk hs4; have HB4 := Aside0.mk (pw_below_grown HB3.out (some w1.heap.size) (below_size HB3.out) hg4 (fun j hj => by have := Option.some.inj hj; have := HSZ.out; omega)); have HX4 := Aside0.mk (blk_grown HX3.out hg4 (by have := HSZ.out; intro hh; have := Option.some.inj hh; omega)); clear hs4 hg4))
            go_roundw
            case rel => exact ⟨k + 1, q :: met, by go_num, ⟨by omega⟩, HS4, HN, HB4, HX4⟩
            case measure => simp [intOf]; omega
      · have hk : k = l2.length := by have := HK.out; omega
        have hkk : decide ((k : Int) < (l2.length : Int)) = false := by simp; omega
        have hkn : decide (k < l2.length) = false := by simp; omega
        have hr : r = true := by have := HN.out; rw [hk, List.drop_length] at this; exact this.symm
        subst hr
        clear hk
        go_wp2
        go_ret
        exact ⟨rfl, HB.out⟩
  · rw [if_neg hp] at h
    obtain rfl := Option.some.inj h
    have HAS : Aside0 (conf_Config_Has.f a0_0 a0_1 l0_2 l0_3 l0_4 a1 = some false) := Aside0.mk (by rw [has_f]; simp [hp])
    clear h hp
    go_enter Try.func20, Try.ntmps20
    go_wp2_with fail
    refine (conf_Config_Has.calls _ _ _ _ l0_2 _ _ l0_3 _ _ l0_4 _ false _ ?s1 ?s2 ?s3 ?s4 ?s5 ?s6 HAS.out).mono ?_
    case s1 => exact Kd.C_alloc HR02.out _
    case s2 => exact HC02.out
    case s3 => exact Kd.C_alloc HR03.out _
    case s4 => exact HC03.out
    case s5 => exact Kd.C_alloc HR04.out _
    case s6 => exact HC04.out
    rintro e w1 ⟨rfl, hb⟩
    have HB1 := Aside0.mk (below_then (below_alloc (Below.refl _ _) _) (by simp) hb : Below w.heap.size w w1)
    clear hb
    go_wp2
    go_ret
    exact ⟨rfl, HB1.out⟩
end Go.Proofs.Ytmjhnmdmopmfjaa.Fn
