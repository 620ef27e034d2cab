/- Part of the proof of TasksBudgets: see the last text. (Words laid by the print, as far as they are named here; walks written by a program of this project; plain laws.) -/
import Derived.Test.YtjekfipaadbbbaaTasksBudgetsZ2
namespace Go.Proofs.Ytjekfipaadbbbaa.Fn
open Go.RowKit Go.Proofs.YtjekfipaadbbbaaW.PrintWords Go.Proofs.YtjekfipaadbbbaaW.PrintLast Go.Proofs.YtjekfipaadbbbaaW.PrintMore
set_option linter.unusedVariables false
set_option linter.unusedSimpArgs false
set_option maxHeartbeats 32000000 in
set_option maxRecDepth 100000 in
theorem budgets_walk (a0 : Option Addr) (c0 : Nat) (l : List S44) (a1 : Option Addr) (c1 : Nat) (xs : List S65) (w : World) (hr0 : Kd.C k44 w a0 l.length l) (hr1 : Kd.C k65 w a1 xs.length xs) (hc1 : xs.length ≤ c1) (hl : l.length * 48 ≤ 140737488351232) : Calls Try.prog 7 #[.slice a0 l.length c0, .slice a1 xs.length c1] w fun e w' => e = .returned (.bool true) ∧ Below w.heap.size w w' := by
 have OC := asd (town_calls a0 c0 l w hr0 hl)
 have HR0 := asd hr0
 have HR1 := asd hr1
 have HC1 := asd hc1
 obtain ⟨kl, lb, hkl, hlb⟩ := light_ev xs
 have LC := asd (fun wq (hq : Kd.C k65 wq a1 xs.length xs) => parcloselaw19_light.calls kl a1 c1 xs lb wq hq hc1 hkl)
 have LB := asd hlb
 have hu65 := Try.underlying65
 have hu63 := Try.underlying63
 have hu44 := Try.underlying44
 have hu60 := Try.underlying60
 clear hr0 hr1 hc1 hkl hlb hl
 by_cases hm : l.length ≤ 6 ∧ l.all rtC = true
 ·have HM := asd hm
  have d0 : decide ((l.length : Int) > 20) = false := decide_eq_false (by omega)
  have d1 : decide (20 < (l.length : Int)) = false := d0
  clear hm
  go_enter Try.func7, Try.ntmps7
  go_wp2_with fail
  refine OC.out.mono ?_
  rintro e w1 ⟨hmade, hb1⟩
  unfold TMade at hmade
  rw [if_pos HM.out] at hmade
  obtain ⟨base, g, T, rfl, ht, hsl, hhi, hdm, hlo⟩ := hmade
  have HB1 := asd hb1
  cases lb with
  | false =>
   clear ht hsl hhi hdm hlo hb1
   go_wp2_with fail
   refine (LC.out w1 (Kd.C_below HR1.out HB1.out)).mono ?_
   rintro e w2 ⟨rfl, hd⟩
   have HB2 := asd (below_step HB1.out hd.below)
   clear hd
   go_wp2_with fail
   refine (tknows_calls _).mono ?_
   rintro e wk ⟨rfl, hb⟩
   have HBK := asd (below_step HB2.out hb)
   clear hb
   go_wp2
   go_ret
   exact ⟨rfl, HBK.out⟩
  | true =>
   have X120 := asd (LB.out rfl)
   have HT1 := asd ht
   have LO := asd hlo
   have G1 : Aside0 (GI l [0, 0, 0, 0, 0, 0] T T.hi) := ⟨⟨rfl, by rw [hsl, List.length_map], fun i hi => by
    unfold TD.tk
    rw [hsl, List.getD_eq_getElem?_getD, List.getElem?_map, List.getElem?_eq_getElem hi, getD_lt l z44 hi]; rfl, hdm, fun k j hj => by
    exfalso
    obtain ⟨_, _, b, hb⟩ := TD.js_some hj
    unfold TD.pt at hb
    rw [hsl, List.getD_eq_getElem?_getD, List.getElem?_map] at hb
    cases hq : l[k]? with
    | none => rw [hq] at hb; simp [zSl] at hb
    | some q => rw [hq] at hb; simp at hb⟩⟩
   clear ht hsl hhi hdm hlo hb1
   go_wp2_with fail
   refine (LC.out w1 (Kd.C_below HR1.out HB1.out)).mono ?_
   rintro e w2 ⟨rfl, hd⟩
   have HT2 := asd (HT1.out.below hd.below)
   have HB2 := asd (below_step HB1.out hd.below)
   clear hd HT1
   go_wp2_with fail
   refine (tknows_calls _).mono ?_
   rintro e w3 ⟨rfl, hb⟩
   have HT3 := asd ((HT2.out.below hb).below (below_alloc (Below.refl _ _) (.cells #[.int .i64 0, .int .i64 0, .int .i64 0, .int .i64 0, .int .i64 0, .int .i64 0] 60)))
   have HB3 := asd (below_alloc (below_step HB2.out hb) (.cells #[.int .i64 0, .int .i64 0, .int .i64 0, .int .i64 0, .int .i64 0, .int .i64 0] 60))
   have BG3 := asd (heap_alloc_new w3 (.cells #[.int .i64 0, .int .i64 0, .int .i64 0, .int .i64 0, .int .i64 0, .int .i64 0] 60))
   have NBG : Aside0 (∀ (wq : World) (Tq : TD), TabOK wq base g Tq → ∀ (cs : Array Value), wq.heap[w3.heap.size]? = some (.cells cs 60 (0, 0)) → ¬ Tq.S g w3.heap.size) := ⟨fun wq Tq hq cs hc hs => by
    obtain ⟨t, cells, ht, hc'⟩ := hq.S_typed _ hs
    rw [hc] at hc'
    injection hc' with hc'
    injection hc' with _ h2
    subst h2
    exact absurd ht (by decide)⟩
   have NBO : Aside0 (∀ (wq : World) (Tq : TD), TabOK wq base g Tq → ∀ (cs : Array Value), wq.heap[w3.heap.size]? = some (.cells cs 60 (0, 0)) → ¬ Tq.oS w3.heap.size) := ⟨fun wq Tq hq cs hc hs => by
    obtain ⟨ii, hii, hpp, hqq⟩ := hs
    cases hbb : Tq.pt ii with
    | none => exact hpp hbb
    | some b' =>
     obtain ⟨cells', hc'⟩ := Kd.R_typed (hq.job ii b' hii hbb).2.2.2 _ hqq
     rw [hc] at hc'
     injection hc' with hc'
     injection hc' with _ h2
     simp at h2⟩
   have GLO : Aside0 (w.heap.size ≤ w3.heap.size) := ⟨(below_step HB2.out hb).size⟩
   clear hb HT2
   go_wp2
   generalize w3.heap.size = bg at BG3 NBG NBO GLO ⊢
   go_loopw [7] (fun v7 wr => ∃ (i : Nat) (gs : List Int) (T : TD), v7 = .int .i64 i ∧ Aside0 (i ≤ xs.length) ∧ Aside0 (TabOK wr base g T) ∧ Aside0 (GI l gs T T.hi) ∧ Aside0 (wr.heap[bg]? = some (.cells (gs.map (Value.int .i64)).toArray 60 (0, 0))) ∧ Aside0 (Below w.heap.size w wr)) (fun v _ => xs.length - (intOf v).toNat)
   case atStart => exact ⟨0, [0, 0, 0, 0, 0, 0], T, rfl, ⟨by omega⟩, HT3, G1, BG3, HB3⟩
   case round =>
    clear HT3 G1 BG3 HB3
    obtain ⟨i, gs, T, rfl, HI, HT, HG, HBG, HB⟩ := hrel
    have i99 : (i : Int) ≤ 120 := by have := HI.out; have := X120.out.1; omega
    by_cases hi : i < xs.length
    ·have q1 : decide ((i : Int) < (xs.length : Int)) = true := decide_eq_true (by omega)
     have q2 : decide (i < xs.length) = true := decide_eq_true hi
     have p0 : (0 ≤ (i : Int)) = True := eq_true (by omega)
     have p1 : ((i : Int) < (xs.length : Int)) = True := eq_true (by omega)
     have p2 : (i < xs.length) = True := eq_true hi
     have HII := asd hi
     obtain ⟨ad, A6, c6, hae, y0, y1, y2, y3, y4, y5, y6, hl6, hcc6⟩ := at_T65 (Kd.C_below HR1.out HB.out) (i : Int) (by omega) (by omega)
     subst hae
     have CO := asd (And.intro hl6 hcc6)
     have er : rd_T65 xs (i : Int) = xs.getD i z65 := by unfold rd_T65; rw [Int.toNat_natCast]
     rw [er] at y0 y1 y2 y3 y4 y5 y6 CO
     rw [Int.toNat_natCast] at y0 y1 y2 y3 y4 y5 y6
     have YY : Aside0 (∀ wq, Below w.heap.size w wq → wq.cell? ⟨(ad.add (i * 7)).block, (ad.add (i * 7)).off + 2, none⟩ = some (.int .i64 (xs.getD i z65).f2.f0)) := ⟨fun wq hq => by
      obtain ⟨ad', A', c', hae', _, _, z2, _⟩ := at_T65 (Kd.C_below HR1.out hq) (i : Int) (by omega) (by omega)
      obtain rfl := Option.some.inj hae'
      rw [er, Int.toNat_natCast] at z2
      exact z2⟩
     have X70 := asd (X120.out.2 i hi)
     generalize xs.getD i z65 = x at y0 y1 y2 y3 y4 y5 y6 CO X70 YY
     clear hi hl6 hcc6 er
     by_cases k0 : x.f0 = 0
     ·have b0 : (x.f0 == 0) = true := beq_iff_eq.2 k0
      clear k0
      go_wp2_with fail
      have JC := asd (job_calls x.f2.f0 x.f2.f1 x.f2.f2 x.f2.f3 A6 c6 x.f2.f4 wr CO.out.2 CO.out.1 (by have := X70.out; omega))
      generalize x.f2.f4.map jop = ops at JC
      refine JC.out.mono ?_
      rintro e w5 ⟨v, rfl, hv, hb⟩
      obtain ⟨Av, cv, rfl⟩ := Kd.R_slice hv
      have HV := asd (And.intro (C_ofR hv) (Kd.R_reads' hv).2.1)
      have HT5 := asd (HT.out.below hb)
      have B5 := asd (blk_below HBG.out hb)
      have HB5 := asd (below_step HB.out hb)
      clear hv hb JC y0 y1 y2 y3 y4 y5 y6
      go_wp2_with fail
      by_cases hk : 0 ≤ x.f2.f0 ∧ x.f2.f0 < T.sl.length
      ·obtain ⟨m, hm⟩ : ∃ m : Nat, x.f2.f0 = (m : Int) := ⟨x.f2.f0.toNat, by omega⟩
       have hml : m < T.sl.length := by omega
       rw [hm] at YY ⊢
       cases hj : rjob x.f2.f1 x.f2.f2 x.f2.f3 ops with
       | false =>
        refine (tput_bad HT5.out m x.f2.f1 x.f2.f2 x.f2.f3 Av cv ops hml HV.out.1 HV.out.2 hj).mono ?_
        rintro e w6 ⟨rfl, hb⟩
        have HT6 := asd (HT5.out.below hb)
        have B6 := asd (blk_below B5.out hb)
        have HB6 := asd (below_step HB5.out hb)
        clear hb
        go_wp2_with fail
        refine (parcloselaw19_num.calls _ _ _ rfl).mono ?_
        rintro e w7 ⟨rfl, hd⟩
        have HT7 := asd (HT6.out.below hd.below)
        have B7 := asd (blk_below B6.out hd.below)
        have HB7 := asd (below_step HB6.out hd.below)
        clear hd HT6 B6 HB6
        go_wp2
        go_roundw
        case rel => exact ⟨i + 1, gs, T, by go_num, ⟨by have := HII.out; omega⟩, ⟨HT7.out⟩, ⟨HG.out⟩, ⟨B7.out⟩, ⟨HB7.out⟩⟩
        case measure => have := HII.out; simp [intOf]; omega
       | true =>
        cases hp : T.pt m with
        | some b =>
         refine (tput_there HT5.out m b x.f2.f1 x.f2.f2 x.f2.f3 Av cv ops hml hp HV.out.1 HV.out.2 hj).mono ?_
         rintro e w6 ⟨rfl, hb⟩
         have HT6 := asd (HT5.out.below hb)
         have B6 := asd (blk_below B5.out hb)
         have HB6 := asd (below_step HB5.out hb)
         clear hb
         go_wp2_with fail
         refine (parcloselaw19_num.calls _ _ _ rfl).mono ?_
         rintro e w7 ⟨rfl, hd⟩
         have HT7 := asd (HT6.out.below hd.below)
         have B7 := asd (blk_below B6.out hd.below)
         have HB7 := asd (below_step HB6.out hd.below)
         clear hd HT6 B6 HB6
         go_wp2
         go_roundw
         case rel => exact ⟨i + 1, gs, T, by go_num, ⟨by have := HII.out; omega⟩, ⟨HT7.out⟩, ⟨HG.out⟩, ⟨B7.out⟩, ⟨HB7.out⟩⟩
         case measure => have := HII.out; simp [intOf]; omega
        | none =>
         by_cases hdr : T.hi = true ∧ (T.tk m).f0 = false
         ·skip
          refine (tput_drop HT5.out m x.f2.f1 x.f2.f2 x.f2.f3 Av cv ops hml hp hdr.1 hdr.2 HV.out.1 HV.out.2 hj).mono ?_
          rintro e w6 ⟨rfl, hb⟩
          have HT6 := asd (HT5.out.below hb)
          have B6 := asd (blk_below B5.out hb)
          have HB6 := asd (below_step HB5.out hb)
          clear hb
          go_wp2_with fail
          refine (parcloselaw19_num.calls _ _ _ rfl).mono ?_
          rintro e w7 ⟨rfl, hd⟩
          have HT7 := asd (HT6.out.below hd.below)
          have B7 := asd (blk_below B6.out hd.below)
          have HB7 := asd (below_step HB6.out hd.below)
          clear hd HT6 B6 HB6
          go_wp2
          go_roundw
          case rel => exact ⟨i + 1, gs, T, by go_num, ⟨by have := HII.out; omega⟩, ⟨HT7.out⟩, ⟨HG.out⟩, ⟨B7.out⟩, ⟨HB7.out⟩⟩
          case measure => have := HII.out; simp [intOf]; omega
         ·have hrj : (0 ≤ x.f2.f1 ∧ x.f2.f1 ≤ 4611686018427387904) ∧ (1 ≤ x.f2.f2 ∧ x.f2.f2 ≤ 1048576) ∧ x.f2.f3 = 0 ∧ ops.length ≤ 64 := of_decide_eq_true hj
          have hoi : T.hi = false ∨ (T.tk m).f0 = true := by
           by_cases q : T.hi = true
           ·right
            cases q2 : (T.tk m).f0 with
            | true => rfl
            | false => exact absurd ⟨q, q2⟩ hdr
           ·left; simpa using q
          rw [hrj.2.2.1] at hj ⊢
          have W1 := asd hrj.2.1.1
          refine (tput_ok HT5.out m x.f2.f1 x.f2.f2 Av cv ops hml hp hoi HV.out.1 HV.out.2 hj).mono ?_
          rintro e w6 ⟨rfl, T6, h6, hr6, hc6, _⟩
          have H6 := asd h6
          have M6 := asd (show m < 6 from Nat.lt_of_lt_of_le hml HT.out.n6)
          have G6 : Aside0 (GI l (gs.set m 0) T6 T6.hi) := ⟨by
           have h1 := GI.put HG.out HT.out.toTabA.rt2 hml HT.out.n6 hr6 (fun i => by
            rcases hr6.dm i with q | q
            ·rw [q, HG.out.set i, hr6.hi]
            ·rw [q, hr6.hi]) W1.out
           rw [hr6.hi]; exact h1⟩
          have B6 := asd (blk_chg B5.out hc6 (NBG.out _ _ HT5.out _ B5.out))
          have HB6 : Aside0 (Below w.heap.size w w6) := ⟨((Chg.of_belowB HB5.out).then_ hc6 (fun q hq => .inl (Nat.le_trans LO.out (HT5.out.low q hq)))).to_below (fun _ h => h) (Nat.le_refl _)⟩
          clear h6 hr6 hc6 hrj hoi hdr hp hj hml
          go_wp2_with fail
          refine (parcloselaw19_num.calls _ _ _ rfl).mono ?_
          rintro e w7 ⟨rfl, hd⟩
          have H7 := asd (H6.out.below hd.below)
          have B7 := asd (blk_below B6.out hd.below)
          have HB7 := asd (below_step HB6.out hd.below)
          clear hd H6 B6 HB6
          have yk := YY.out w7 HB7.out
          have r0 : (0 ≤ (m : Int)) = True := eq_true (by omega)
          have r1 : ((m : Int) < 6) = True := eq_true (by have := M6.out; omega)
          have r2 : (m < 6) = True := eq_true M6.out
          have hzc : w7.cell? ⟨bg, m, none⟩ = some (.int .i64 (gs.getD m 0)) := by
           rw [blk_cell B7.out m, List.getElem?_toArray, List.getElem?_map, List.getElem?_eq_getElem (by rw [HG.out.six]; exact M6.out), getD_lt gs 0 (by rw [HG.out.six]; exact M6.out)]; rfl
          have hzf := blk_frozen B7.out m
          have H8 := asd (H7.out.put1 (p := ⟨bg, m, none⟩) (fun q hq e => by
           have e' : q = bg := e
           subst e'
           rcases hq with hq | hq
           ·exact NBG.out _ _ H7.out _ B7.out hq
           ·exact NBO.out _ _ H7.out _ B7.out hq) (.int .i64 0))
          have B8 := asd (blk_put B7.out m (.int .i64 0) (cs' := ((gs.set m 0).map (Value.int .i64)).toArray) (by simp [List.map_set]))
          have HB8 : Aside0 (Below w.heap.size w (w7.setCell ⟨bg, m, none⟩ (.int .i64 0))) := ⟨HB7.out.setCell GLO.out _⟩
          clear H7 HB7
          go_wp2
          go_roundw
          case rel => exact ⟨i + 1, gs.set m 0, T6, by go_num, ⟨by have := HII.out; omega⟩, ⟨H8.out⟩, ⟨G6.out⟩, ⟨B8.out⟩, ⟨HB8.out⟩⟩
          case measure => have := HII.out; simp [intOf]; omega
      ·skip
       refine (tput_out HT5.out x.f2.f0 x.f2.f1 x.f2.f2 x.f2.f3 Av cv ops hk).mono ?_
       rintro e w6 ⟨rfl, hb⟩
       have HT6 := asd (HT5.out.below hb)
       have B6 := asd (blk_below B5.out hb)
       have HB6 := asd (below_step HB5.out hb)
       clear hb
       go_wp2_with fail
       refine (parcloselaw19_num.calls _ _ _ rfl).mono ?_
       rintro e w7 ⟨rfl, hd⟩
       have HT7 := asd (HT6.out.below hd.below)
       have B7 := asd (blk_below B6.out hd.below)
       have HB7 := asd (below_step HB6.out hd.below)
       clear hd HT6 B6 HB6
       go_wp2
       go_roundw
       case rel => exact ⟨i + 1, gs, T, by go_num, ⟨by have := HII.out; omega⟩, ⟨HT7.out⟩, ⟨HG.out⟩, ⟨B7.out⟩, ⟨HB7.out⟩⟩
       case measure => have := HII.out; simp [intOf]; omega
     have b0 : (x.f0 == 0) = false := beq_eq_false_iff_ne.2 k0
     by_cases k1 : x.f0 = 1
     ·have b1 : (x.f0 == 1) = true := beq_iff_eq.2 k1
      clear k0 k1
      go_wp2_with fail
      have JC := asd (job_calls x.f2.f0 x.f2.f1 x.f2.f2 x.f2.f3 A6 c6 x.f2.f4 wr CO.out.2 CO.out.1 (by have := X70.out; omega))
      generalize x.f2.f4.map jop = ops at JC
      refine JC.out.mono ?_
      rintro e w5 ⟨v, rfl, hv, hb⟩
      obtain ⟨Av, cv, rfl⟩ := Kd.R_slice hv
      have HV := asd (And.intro (C_ofR hv) (Kd.R_reads' hv).2.1)
      have HT5 := asd (HT.out.below hb)
      have B5 := asd (blk_below HBG.out hb)
      have HB5 := asd (below_step HB.out hb)
      clear hv hb JC y0 y1 y2 y3 y4 y5 y6
      go_wp2_with fail
      by_cases hk : 0 ≤ x.f2.f0 ∧ x.f2.f0 < T.sl.length
      ·obtain ⟨m, hm⟩ : ∃ m : Nat, x.f2.f0 = (m : Int) := ⟨x.f2.f0.toNat, by omega⟩
       have hml : m < T.sl.length := by omega
       rw [hm] at YY ⊢
       cases hj : rjob x.f2.f1 x.f2.f2 x.f2.f3 ops with
       | false =>
        refine (tput_bad HT5.out m x.f2.f1 x.f2.f2 x.f2.f3 Av cv ops hml HV.out.1 HV.out.2 hj).mono ?_
        rintro e w6 ⟨rfl, hb⟩
        have HT6 := asd (HT5.out.below hb)
        have B6 := asd (blk_below B5.out hb)
        have HB6 := asd (below_step HB5.out hb)
        clear hb
        go_wp2_with fail
        refine (parcloselaw19_num.calls _ _ _ rfl).mono ?_
        rintro e w7 ⟨rfl, hd⟩
        have HT7 := asd (HT6.out.below hd.below)
        have B7 := asd (blk_below B6.out hd.below)
        have HB7 := asd (below_step HB6.out hd.below)
        clear hd HT6 B6 HB6
        go_wp2
        go_roundw
        case rel => exact ⟨i + 1, gs, T, by go_num, ⟨by have := HII.out; omega⟩, ⟨HT7.out⟩, ⟨HG.out⟩, ⟨B7.out⟩, ⟨HB7.out⟩⟩
        case measure => have := HII.out; simp [intOf]; omega
       | true =>
        cases hp : T.pt m with
        | some b =>
         refine (tput_there HT5.out m b x.f2.f1 x.f2.f2 x.f2.f3 Av cv ops hml hp HV.out.1 HV.out.2 hj).mono ?_
         rintro e w6 ⟨rfl, hb⟩
         have HT6 := asd (HT5.out.below hb)
         have B6 := asd (blk_below B5.out hb)
         have HB6 := asd (below_step HB5.out hb)
         clear hb
         go_wp2_with fail
         refine (parcloselaw19_num.calls _ _ _ rfl).mono ?_
         rintro e w7 ⟨rfl, hd⟩
         have HT7 := asd (HT6.out.below hd.below)
         have B7 := asd (blk_below B6.out hd.below)
         have HB7 := asd (below_step HB6.out hd.below)
         clear hd HT6 B6 HB6
         go_wp2
         go_roundw
         case rel => exact ⟨i + 1, gs, T, by go_num, ⟨by have := HII.out; omega⟩, ⟨HT7.out⟩, ⟨HG.out⟩, ⟨B7.out⟩, ⟨HB7.out⟩⟩
         case measure => have := HII.out; simp [intOf]; omega
        | none =>
         by_cases hdr : T.hi = true ∧ (T.tk m).f0 = false
         ·skip
          refine (tput_drop HT5.out m x.f2.f1 x.f2.f2 x.f2.f3 Av cv ops hml hp hdr.1 hdr.2 HV.out.1 HV.out.2 hj).mono ?_
          rintro e w6 ⟨rfl, hb⟩
          have HT6 := asd (HT5.out.below hb)
          have B6 := asd (blk_below B5.out hb)
          have HB6 := asd (below_step HB5.out hb)
          clear hb
          go_wp2_with fail
          refine (parcloselaw19_num.calls _ _ _ rfl).mono ?_
          rintro e w7 ⟨rfl, hd⟩
          have HT7 := asd (HT6.out.below hd.below)
          have B7 := asd (blk_below B6.out hd.below)
          have HB7 := asd (below_step HB6.out hd.below)
          clear hd HT6 B6 HB6
          go_wp2
          go_roundw
          case rel => exact ⟨i + 1, gs, T, by go_num, ⟨by have := HII.out; omega⟩, ⟨HT7.out⟩, ⟨HG.out⟩, ⟨B7.out⟩, ⟨HB7.out⟩⟩
          case measure => have := HII.out; simp [intOf]; omega
         ·have hrj : (0 ≤ x.f2.f1 ∧ x.f2.f1 ≤ 4611686018427387904) ∧ (1 ≤ x.f2.f2 ∧ x.f2.f2 ≤ 1048576) ∧ x.f2.f3 = 0 ∧ ops.length ≤ 64 := of_decide_eq_true hj
          have hoi : T.hi = false ∨ (T.tk m).f0 = true := by
           by_cases q : T.hi = true
           ·right
            cases q2 : (T.tk m).f0 with
            | true => rfl
            | false => exact absurd ⟨q, q2⟩ hdr
           ·left; simpa using q
          rw [hrj.2.2.1] at hj ⊢
          have W1 := asd hrj.2.1.1
          refine (tput_ok HT5.out m x.f2.f1 x.f2.f2 Av cv ops hml hp hoi HV.out.1 HV.out.2 hj).mono ?_
          rintro e w6 ⟨rfl, T6, h6, hr6, hc6, _⟩
          have H6 := asd h6
          have M6 := asd (show m < 6 from Nat.lt_of_lt_of_le hml HT.out.n6)
          have G6 : Aside0 (GI l (gs.set m 0) T6 T6.hi) := ⟨by
           have h1 := GI.put HG.out HT.out.toTabA.rt2 hml HT.out.n6 hr6 (fun i => by
            rcases hr6.dm i with q | q
            ·rw [q, HG.out.set i, hr6.hi]
            ·rw [q, hr6.hi]) W1.out
           rw [hr6.hi]; exact h1⟩
          have B6 := asd (blk_chg B5.out hc6 (NBG.out _ _ HT5.out _ B5.out))
          have HB6 : Aside0 (Below w.heap.size w w6) := ⟨((Chg.of_belowB HB5.out).then_ hc6 (fun q hq => .inl (Nat.le_trans LO.out (HT5.out.low q hq)))).to_below (fun _ h => h) (Nat.le_refl _)⟩
          clear h6 hr6 hc6 hrj hoi hdr hp hj hml
          go_wp2_with fail
          refine (parcloselaw19_num.calls _ _ _ rfl).mono ?_
          rintro e w7 ⟨rfl, hd⟩
          have H7 := asd (H6.out.below hd.below)
          have B7 := asd (blk_below B6.out hd.below)
          have HB7 := asd (below_step HB6.out hd.below)
          clear hd H6 B6 HB6
          have yk := YY.out w7 HB7.out
          have r0 : (0 ≤ (m : Int)) = True := eq_true (by omega)
          have r1 : ((m : Int) < 6) = True := eq_true (by have := M6.out; omega)
          have r2 : (m < 6) = True := eq_true M6.out
          have hzc : w7.cell? ⟨bg, m, none⟩ = some (.int .i64 (gs.getD m 0)) := by
           rw [blk_cell B7.out m, List.getElem?_toArray, List.getElem?_map, List.getElem?_eq_getElem (by rw [HG.out.six]; exact M6.out), getD_lt gs 0 (by rw [HG.out.six]; exact M6.out)]; rfl
          have hzf := blk_frozen B7.out m
          have H8 := asd (H7.out.put1 (p := ⟨bg, m, none⟩) (fun q hq e => by
           have e' : q = bg := e
           subst e'
           rcases hq with hq | hq
           ·exact NBG.out _ _ H7.out _ B7.out hq
           ·exact NBO.out _ _ H7.out _ B7.out hq) (.int .i64 0))
          have B8 := asd (blk_put B7.out m (.int .i64 0) (cs' := ((gs.set m 0).map (Value.int .i64)).toArray) (by simp [List.map_set]))
          have HB8 : Aside0 (Below w.heap.size w (w7.setCell ⟨bg, m, none⟩ (.int .i64 0))) := ⟨HB7.out.setCell GLO.out _⟩
          clear H7 HB7
          go_wp2
          go_roundw
          case rel => exact ⟨i + 1, gs.set m 0, T6, by go_num, ⟨by have := HII.out; omega⟩, ⟨H8.out⟩, ⟨G6.out⟩, ⟨B8.out⟩, ⟨HB8.out⟩⟩
          case measure => have := HII.out; simp [intOf]; omega
      ·skip
       refine (tput_out HT5.out x.f2.f0 x.f2.f1 x.f2.f2 x.f2.f3 Av cv ops hk).mono ?_
       rintro e w6 ⟨rfl, hb⟩
       have HT6 := asd (HT5.out.below hb)
       have B6 := asd (blk_below B5.out hb)
       have HB6 := asd (below_step HB5.out hb)
       clear hb
       go_wp2_with fail
       refine (parcloselaw19_num.calls _ _ _ rfl).mono ?_
       rintro e w7 ⟨rfl, hd⟩
       have HT7 := asd (HT6.out.below hd.below)
       have B7 := asd (blk_below B6.out hd.below)
       have HB7 := asd (below_step HB6.out hd.below)
       clear hd HT6 B6 HB6
       go_wp2
       go_roundw
       case rel => exact ⟨i + 1, gs, T, by go_num, ⟨by have := HII.out; omega⟩, ⟨HT7.out⟩, ⟨HG.out⟩, ⟨B7.out⟩, ⟨HB7.out⟩⟩
       case measure => have := HII.out; simp [intOf]; omega
     have b1 : (x.f0 == 1) = false := beq_eq_false_iff_ne.2 k1
     by_cases k6 : x.f0 = 6
     ·have b6 : (x.f0 == 6) = true := beq_iff_eq.2 k6
      clear k0 k1 k6
      go_wp2_with fail
      refine (trise_calls HT.out).mono ?_
      rintro e w6 ⟨⟨A6, c6', rfl, _⟩, T6, h6, hr6, hc6, _, _, hd6⟩
      have H6 := asd h6
      have G6 : Aside0 (GI l gs T6 T6.hi) := ⟨by
       have h1 := GI.gone (GI.up HG.out HT.out.toTabA.rt2) hr6 (fun i => by rw [hd6 i, hr6.hi])
       rw [hr6.hi]; exact h1⟩
      have B6 := asd (blk_chg HBG.out hc6 (NBG.out _ _ HT.out _ HBG.out))
      have HB6 : Aside0 (Below w.heap.size w w6) := ⟨((Chg.of_belowB HB.out).then_ hc6 (fun q hq => .inl (Nat.le_trans LO.out (HT.out.low q hq)))).to_below (fun _ h => h) (Nat.le_refl _)⟩
      clear h6 hr6 hc6 hd6
      go_wp2
      go_roundw
      case rel => exact ⟨i + 1, gs, T6, by go_num, ⟨by have := HII.out; omega⟩, ⟨H6.out⟩, ⟨G6.out⟩, ⟨B6.out⟩, ⟨HB6.out⟩⟩
      case measure => have := HII.out; simp [intOf]; omega
     have b6 : (x.f0 == 6) = false := beq_eq_false_iff_ne.2 k6
     by_cases k7 : x.f0 = 7
     ·have b7 : (x.f0 == 7) = true := beq_iff_eq.2 k7
      clear k0 k1 k6 k7
      go_wp2_with fail
      by_cases hf : T.hi = true ∧ T.H.ats.length = 0
      ·refine (tfall_yes HT.out hf.1 hf.2).mono ?_
       rintro e w6 ⟨rfl, rfl, h6⟩
       have H6 := asd h6
       have G6 : Aside0 (GI l gs { T with hi := false, dm := fun _ => false } false) := ⟨⟨HG.out.six, HG.out.len, HG.out.tk, fun _ => rfl, fun k j hj => by
        have h1 : T.js k = some j := hj
        rw [HT.out.len0.1 hf.2 k] at h1; cases h1⟩⟩
       have B6 := asd (blk_chg HBG.out ((Chg.refl (fun q => q = g) wr).set_ (p := ⟨g, 2, none⟩) (.inl rfl) (.bool false)) (fun q => NBG.out _ _ HT.out _ HBG.out (.inl q)))
       have HB6 : Aside0 (Below w.heap.size w (wr.setCell ⟨g, 2, none⟩ (.bool false))) := ⟨HB.out.setCell (Nat.le_trans LO.out HT.out.lg) _⟩
       clear h6 hf
       go_wp2
       go_roundw
       case rel => exact ⟨i + 1, gs, { T with hi := false, dm := fun _ => false }, by go_num, ⟨by have := HII.out; omega⟩, ⟨H6.out⟩, ⟨G6.out⟩, ⟨B6.out⟩, ⟨HB6.out⟩⟩
       case measure => have := HII.out; simp [intOf]; omega
      ·refine (tfall_no HT.out (by
        by_cases q : T.hi = true
        ·exact .inr (Nat.pos_of_ne_zero (fun q2 => hf ⟨q, q2⟩))
        ·exact .inl (by simpa using q))).mono ?_
       rintro e w6 ⟨rfl, rfl⟩
       clear hf
       go_wp2
       go_roundw
       case rel => exact ⟨i + 1, gs, T, by go_num, ⟨by have := HII.out; omega⟩, ⟨HT.out⟩, ⟨HG.out⟩, ⟨HBG.out⟩, ⟨HB.out⟩⟩
       case measure => have := HII.out; simp [intOf]; omega
     have b7 : (x.f0 == 7) = false := beq_eq_false_iff_ne.2 k7
     by_cases k8 : x.f0 = 8
     ·have b8 : (x.f0 == 8) = true := beq_iff_eq.2 k8
      clear k0 k1 k6 k7 k8
      go_wp2_with fail
      refine (tmissed_calls HT.out x.f1).mono ?_
      rintro e w6 ⟨⟨A6, c6', rfl, _⟩, T6, h6, hr6, hc6, _⟩
      have H6 := asd h6
      have G6 : Aside0 (GI l gs T6 T6.hi) := ⟨by
       have h1 := GI.gone HG.out hr6 (fun i => by
        rcases hr6.dm i with q | q
        ·rw [q, HG.out.set i, hr6.hi]
        ·rw [q, hr6.hi])
       rw [hr6.hi]; exact h1⟩
      have B6 := asd (blk_chg HBG.out hc6 (NBG.out _ _ HT.out _ HBG.out))
      have HB6 : Aside0 (Below w.heap.size w w6) := ⟨((Chg.of_belowB HB.out).then_ hc6 (fun q hq => .inl (Nat.le_trans LO.out (HT.out.low q hq)))).to_below (fun _ h => h) (Nat.le_refl _)⟩
      clear h6 hr6 hc6
      go_wp2
      go_roundw
      case rel => exact ⟨i + 1, gs, T6, by go_num, ⟨by have := HII.out; omega⟩, ⟨H6.out⟩, ⟨G6.out⟩, ⟨B6.out⟩, ⟨HB6.out⟩⟩
      case measure => have := HII.out; simp [intOf]; omega
     have b8 : (x.f0 == 8) = false := beq_eq_false_iff_ne.2 k8
     clear k0 k1 k6 k7 k8
     go_wp2_with fail
     by_cases hz : T.H.ats.length = 0
     ·refine (tfirst_none HT.out (HT.out.len0.1 hz)).mono ?_
      rintro e w5 ⟨rfl, hb⟩
      have HT5 := asd (HT.out.below hb)
      have B5 := asd (blk_below HBG.out hb)
      have HB5 := asd (below_step HB.out hb)
      clear hb hz
      go_wp2
      go_roundw
      case rel => exact ⟨i + 1, gs, T, by go_num, ⟨by have := HII.out; omega⟩, ⟨HT5.out⟩, ⟨HG.out⟩, ⟨B5.out⟩, ⟨HB5.out⟩⟩
      case measure => have := HII.out; simp [intOf]; omega
     ·refine (tfirst_some HT.out HG.out.set (Nat.pos_of_ne_zero hz)).mono ?_
      rintro e w5 ⟨⟨k, j, rfl, hlt⟩, hb⟩
      obtain ⟨hk, hjb, b, hpb⟩ := TD.js_some hlt.1
      have GJ := asd (HG.out.job k j hlt.1)
      have JS := asd hlt.1
      have KK := asd (And.intro hk hpb)
      have K6 := asd (show k < 6 from Nat.lt_of_lt_of_le hk HT.out.n6)
      have JOK := asd (HT.out.job k b hk hpb).2.1
      have HT5 := asd (HT.out.below hb)
      have B5 := asd (blk_below HBG.out hb)
      have HB5 := asd (below_step HB.out hb)
      have GC := asd (tget_some HT5.out k b hk hpb)
      rw [← hjb] at GC JOK
      have JB := asd hjb
      clear hb hz hlt hk hpb hjb y0 y1 y2 y3 y4 y5 y6
      go_wp2_with fail
      refine (thigh_calls HT5.out).mono ?_
      rintro e wh ⟨rfl, rfl⟩
      go_wp2_with fail
      refine GC.out.mono ?_
      rintro e w6 ⟨Ag, cg, rfl, _, _, hb⟩
      have HT6 := asd ((HT5.out.below hb).below (below_alloc (Below.refl _ _) (.cells #[.int .i64 j.tsk, .int .i64 j.arr, .int .i64 j.wrk, .int .i64 j.dn, .slice Ag j.ops.length cg] 69)))
      have B6 := asd (blk_alloc (blk_below B5.out hb) (.cells #[.int .i64 j.tsk, .int .i64 j.arr, .int .i64 j.wrk, .int .i64 j.dn, .slice Ag j.ops.length cg] 69))
      have BJ6 := asd (heap_alloc_new w6 (.cells #[.int .i64 j.tsk, .int .i64 j.arr, .int .i64 j.wrk, .int .i64 j.dn, .slice Ag j.ops.length cg] 69))
      have HB6 := asd (below_alloc (below_step HB5.out hb) (.cells #[.int .i64 j.tsk, .int .i64 j.arr, .int .i64 j.wrk, .int .i64 j.dn, .slice Ag j.ops.length cg] 69))
      have LTJ : Aside0 (∀ q, T.S g q ∨ T.oS q → q < w6.heap.size) := ⟨fun q hq => by
       have h1 := hb.size
       rcases hq with hq | hq
       ·have := HT5.out.lt q hq; omega
       ·have := HT5.out.toTabA.oS_lt q hq; omega⟩
      have RC := trun_calls HT6.out k b KK.out.1 KK.out.2 (by rw [← JB.out]; exact GJ.out.2.2.1)
      rw [← JB.out] at RC
      unfold opV at RC
      generalize opJ j = o76 at RC
      obtain ⟨o, ho⟩ : ∃ o, outJ T.hi (T.tk k) j = o := ⟨_, rfl⟩
      have OO := asd ho
      rw [ho] at RC
      have RCA := asd RC
      clear hb GC RC ho HT5 B5 HB5
      go_wp2_with fail
      refine RCA.out.mono ?_
      rintro e w7 ⟨rfl, T7, h7, hr7, hc7, hs7⟩
      have H7 := asd (h7.below (below_alloc (Below.refl _ _) (.cells #[.int .i64 o76.f0, .int .i64 o76.f1, .int .i64 o76.f2] 76)))
      have B7 := asd (blk_alloc (blk_chg B6.out hc7 (NBG.out _ _ HT6.out _ B6.out)) (.cells #[.int .i64 o76.f0, .int .i64 o76.f1, .int .i64 o76.f2] 76))
      have BJ7 := asd (blk_alloc (blk_chg BJ6.out hc7 (fun q => Nat.lt_irrefl _ (LTJ.out _ (.inl q)))) (.cells #[.int .i64 o76.f0, .int .i64 o76.f1, .int .i64 o76.f2] 76))
      have HB7 : Aside0 (Below w.heap.size w (w7.alloc (.cells #[.int .i64 o76.f0, .int .i64 o76.f1, .int .i64 o76.f2] 76))) := ⟨below_alloc (((Chg.of_belowB HB6.out).then_ hc7 (fun q hq => .inl (Nat.le_trans LO.out (HT6.out.low q hq)))).to_below (fun _ h => h) (Nat.le_refl _)) _⟩
      have NBJ : Aside0 (¬ T7.S g w6.heap.size) := ⟨fun q => by
       rcases hs7 _ (.inl q) with h1 | h1
       ·exact Nat.lt_irrefl _ (LTJ.out _ h1)
       ·have := blk_lt BJ6.out; omega⟩
      obtain ⟨d1, hd1⟩ : ∃ d1, j.dn + 1 = d1 := ⟨_, rfl⟩
      have D1 := asd hd1
      have G7 : Aside0 (GI l (gs.set k d1) T7 (if o = 3 then true else T.hi)) := ⟨by
       have h1 := GI.run HG.out HT.out.toTabA.rt2 JS.out HT.out.n6 hr7 (fun i => by
        rcases hr7.dm i with q | q
        ·rw [q, HG.out.set i, hr7.hi]
        ·rw [q, hr7.hi])
       rw [OO.out, D1.out] at h1
       exact h1⟩
      have T7H := asd (And.intro hr7.hi hr7.tk)
      have wd : wrap64 (j.dn + 1) = d1 := by have := JOK.out.dn; have := JOK.out.wrk; unfold wrap64; omega
      have hzc : (w7.alloc (.cells #[.int .i64 o76.f0, .int .i64 o76.f1, .int .i64 o76.f2] 76)).cell? ⟨bg, k, none⟩ = some (.int .i64 j.dn) := by
       rw [blk_cell B7.out k, List.getElem?_toArray, List.getElem?_map, List.getElem?_eq_getElem (by rw [HG.out.six]; exact K6.out), ← getD_lt gs 0 (by rw [HG.out.six]; exact K6.out), GJ.out.1]; rfl
      have hzf := blk_frozen B7.out k
      have r0 : (0 ≤ (k : Int)) = True := eq_true (by omega)
      have r1 : ((k : Int) < 6) = True := eq_true (by have := K6.out; omega)
      have r2 : (k < 6) = True := eq_true K6.out
      have KL := asd (show k < l.length by rw [← HG.out.len]; exact KK.out.1)
      have r3 : ((k : Int) < (l.length : Int)) = True := eq_true (by have := KL.out; omega)
      have r4 : (k < l.length) = True := eq_true KL.out
      have H9 := asd (H7.out.put1 (p := ⟨bg, k, none⟩) (fun q hq e => by
       have e' : q = bg := e
       subst e'
       rcases hq with hq | hq
       ·exact NBG.out _ _ H7.out _ B7.out hq
       ·exact NBO.out _ _ H7.out _ B7.out hq) (.int .i64 d1))
      have B9 := asd (blk_put B7.out k (.int .i64 d1) (cs' := ((gs.set k d1).map (Value.int .i64)).toArray) (by simp [List.map_set]))
      have BJ9 := asd (blk_far BJ7.out (p := ⟨bg, k, none⟩) (blk_ne BJ7.out B7.out (by decide)) (.int .i64 d1))
      have HB9 : Aside0 (Below w.heap.size w ((w7.alloc (.cells #[.int .i64 o76.f0, .int .i64 o76.f1, .int .i64 o76.f2] 76)).setCell ⟨bg, k, none⟩ (.int .i64 d1))) := ⟨HB7.out.setCell GLO.out _⟩
      obtain ⟨ad2, hae2, z0, z1, z2, z3, z4, z5⟩ := at_T44 (Kd.C_below HR0.out HB9.out) (k : Int) (by omega) (by have := KL.out; omega)
      subst hae2
      have er2 : rd_T44 l (k : Int) = T.tk k := by unfold rd_T44; rw [Int.toNat_natCast, HG.out.tk k KL.out]
      rw [er2, Int.toNat_natCast] at z0 z4 z5
      have en : ((o == 1) != (d1 == j.wrk)) = false := by
       rw [← OO.out, ← D1.out]
       unfold outJ
       by_cases q : j.dn + 1 = j.wrk
       ·rw [if_pos q, beq_iff_eq.2 q]; rfl
       ·rw [if_neg q, beq_eq_false_iff_ne.2 q]
        (repeat' split) <;> rfl
      have en1 : ((o == 1) == (d1 == j.wrk)) = true := by
       have h1 := en
       unfold bne at h1
       cases h2 : ((o == 1) == (d1 == j.wrk)) with
       | true => rfl
       | false => rw [h2] at h1; cases h1
      have en2 : (!((o == 1) == (d1 == j.wrk))) = false := by rw [en1]; rfl
      have BUD : Aside0 (d1 ≤ budT T.hi (T.tk k)) := ⟨by have := GJ.out.2.2.2; have := D1.out; omega⟩
      have nn : (d1 != d1) = false := by simp
      clear h7 hr7 hc7 hs7 hd1 z1 z2 z3 er2 HT6 B6 BJ6 HB6 RCA
      cases hhi : T.hi with
      | true =>
       have o3 : o ≠ 3 := fun q => by
        have h1 := OO.out
        rw [hhi, q] at h1
        unfold outJ at h1
        by_cases q1 : j.dn + 1 = j.wrk
        ·rw [if_pos q1] at h1; cases h1
        ·rw [if_neg q1] at h1
         by_cases q2 : budT true (T.tk k) ≤ j.dn + 1
         ·rw [if_pos q2, if_pos (.inl rfl)] at h1; cases h1
         ·rw [if_neg q2] at h1; cases h1
       have b3 : (o == 3) = false := beq_eq_false_iff_ne.2 o3
       have G9 : Aside0 (GI l (gs.set k d1) T7 T7.hi) := ⟨by have h1 := G7.out; rw [if_neg o3] at h1; rw [T7H.out.1]; exact h1⟩
       have hbu := BUD.out
       rw [hhi] at hbu
       have hbu2 : d1 ≤ (T.tk k).f5 := hbu
       have dg : decide (d1 > (T.tk k).f5) = false := decide_eq_false (by omega)
       have dg2 : decide ((T.tk k).f5 < d1) = false := dg
       clear hhi o3 hbu hbu2
       go_wp2
       clear hzc hzf H7 B7 BJ7 HB7 z0 z4 z5
       generalize (w7.alloc (.cells #[.int .i64 o76.f0, .int .i64 o76.f1, .int .i64 o76.f2] 76)).setCell ⟨bg, k, none⟩ (.int .i64 d1) = w9 at H9 B9 BJ9 HB9 ⊢
       have u3 := (blk_cell BJ9.out 3).trans rfl
       have u2 := (blk_cell BJ9.out 2).trans rfl
       have ug : w9.cell? ⟨bg, k, none⟩ = some (.int .i64 d1) := by
        rw [blk_cell B9.out k, List.getElem?_toArray, List.getElem?_map, List.getElem?_set, if_pos rfl, if_pos (by rw [HG.out.six]; exact K6.out)]; rfl
       go_wp2
       go_big_region
       have H12 := asd (H9.out.drew)
       have B12 := asd (blk_drew B9.out)
       have HB12 := asd (below_step HB9.out (below_drew1 (Below.refl _ _)))
       clear u3 u2 ug
       go_wp2
       go_roundw
       case rel => exact ⟨i + 1, gs.set k d1, T7, by go_num, ⟨by have := HII.out; omega⟩, ⟨H12.out⟩, ⟨G9.out⟩, ⟨B12.out⟩, ⟨HB12.out⟩⟩
       case measure => have := HII.out; simp [intOf]; omega
      | false =>
       have hbu := BUD.out
       rw [hhi] at hbu
       have hbu2 : d1 ≤ (T.tk k).f4 := hbu
       have dg : decide (d1 > (T.tk k).f4) = false := decide_eq_false (by omega)
       have dg2 : decide ((T.tk k).f4 < d1) = false := dg
       by_cases o3 : o = 3
       ·have b3 : (o == 3) = true := beq_iff_eq.2 o3
        have f0t : (T.tk k).f0 = true := by
         have h1 := OO.out
         rw [hhi, o3] at h1
         unfold outJ at h1
         by_cases q1 : j.dn + 1 = j.wrk
         ·rw [if_pos q1] at h1; cases h1
         ·rw [if_neg q1] at h1
          by_cases q2 : budT false (T.tk k) ≤ j.dn + 1
          ·rw [if_pos q2] at h1
           cases q3 : (T.tk k).f0 with
           | true => rfl
           | false => rw [if_pos (.inr (.inl q3))] at h1; cases h1
          ·rw [if_neg q2] at h1; cases h1
        rw [f0t] at z0
        have G9 : Aside0 (GI l (gs.set k d1) T7 true) := ⟨by have h1 := G7.out; rw [if_pos o3] at h1; exact h1⟩
        clear hhi o3 hbu hbu2 f0t
        go_wp2_with fail
        refine (trise_calls H9.out).mono ?_
        rintro e w10 ⟨⟨A10, c10, rfl, _⟩, T10, h10, hr10, hc10, _, _, hd10⟩
        have H10 := asd h10
        have G10 : Aside0 (GI l (gs.set k d1) T10 T10.hi) := ⟨by
         have h1 := GI.gone G9.out hr10 (fun i => by rw [hd10 i, hr10.hi])
         rw [hr10.hi]; exact h1⟩
        have B10 := asd (blk_chg B9.out hc10 (NBG.out _ _ H9.out _ B9.out))
        have BJ10 := asd (blk_chg BJ9.out hc10 NBJ.out)
        have HB10 : Aside0 (Below w.heap.size w w10) := ⟨((Chg.of_belowB HB9.out).then_ hc10 (fun q hq => .inl (Nat.le_trans LO.out (H9.out.low q hq)))).to_below (fun _ h => h) (Nat.le_refl _)⟩
        clear h10 hr10 hc10 hd10 hzc hzf H7 B7 BJ7 HB7 z0 z4 z5 H9 B9 BJ9 HB9
        have u3 := (blk_cell BJ10.out 3).trans rfl
        have u2 := (blk_cell BJ10.out 2).trans rfl
        have ug : w10.cell? ⟨bg, k, none⟩ = some (.int .i64 d1) := by
         rw [blk_cell B10.out k, List.getElem?_toArray, List.getElem?_map, List.getElem?_set, if_pos rfl, if_pos (by rw [HG.out.six]; exact K6.out)]; rfl
        go_wp2
        go_big_region
        have H12 := asd (H10.out.drew)
        have B12 := asd (blk_drew B10.out)
        have HB12 := asd (below_step HB10.out (below_drew1 (Below.refl _ _)))
        clear u3 u2 ug
        go_wp2
        go_roundw
        case rel => exact ⟨i + 1, gs.set k d1, T10, by go_num, ⟨by have := HII.out; omega⟩, ⟨H12.out⟩, ⟨G10.out⟩, ⟨B12.out⟩, ⟨HB12.out⟩⟩
        case measure => have := HII.out; simp [intOf]; omega
       ·have b3 : (o == 3) = false := beq_eq_false_iff_ne.2 o3
        have G9 : Aside0 (GI l (gs.set k d1) T7 T7.hi) := ⟨by have h1 := G7.out; rw [if_neg o3] at h1; rw [T7H.out.1]; exact h1⟩
        clear hhi o3 hbu hbu2
        go_wp2
        clear hzc hzf H7 B7 BJ7 HB7 z0 z4 z5
        generalize (w7.alloc (.cells #[.int .i64 o76.f0, .int .i64 o76.f1, .int .i64 o76.f2] 76)).setCell ⟨bg, k, none⟩ (.int .i64 d1) = w9 at H9 B9 BJ9 HB9 ⊢
        have u3 := (blk_cell BJ9.out 3).trans rfl
        have u2 := (blk_cell BJ9.out 2).trans rfl
        have ug : w9.cell? ⟨bg, k, none⟩ = some (.int .i64 d1) := by
         rw [blk_cell B9.out k, List.getElem?_toArray, List.getElem?_map, List.getElem?_set, if_pos rfl, if_pos (by rw [HG.out.six]; exact K6.out)]; rfl
        go_wp2
        go_big_region
        have H12 := asd (H9.out.drew)
        have B12 := asd (blk_drew B9.out)
        have HB12 := asd (below_step HB9.out (below_drew1 (Below.refl _ _)))
        clear u3 u2 ug
        go_wp2
        go_roundw
        case rel => exact ⟨i + 1, gs.set k d1, T7, by go_num, ⟨by have := HII.out; omega⟩, ⟨H12.out⟩, ⟨G9.out⟩, ⟨B12.out⟩, ⟨HB12.out⟩⟩
        case measure => have := HII.out; simp [intOf]; omega
    ·have q1 : decide ((i : Int) < (xs.length : Int)) = false := decide_eq_false (by omega)
     have q2 : decide (i < xs.length) = false := decide_eq_false hi
     clear hi
     go_wp2
     go_ret
     exact ⟨rfl, HB.out⟩
 ·have HM := asd hm
  clear hm
  by_cases h20 : l.length ≤ 20
  ·have d0 : decide ((l.length : Int) > 20) = false := decide_eq_false (by omega)
   have d1 : decide (20 < (l.length : Int)) = false := d0
   clear h20
   go_enter Try.func7, Try.ntmps7
   go_wp2_with fail
   refine OC.out.mono ?_
   rintro e w1 ⟨hmade, hb1⟩
   unfold TMade at hmade
   rw [if_neg HM.out] at hmade
   subst hmade
   have HB1 := asd hb1
   clear hb1
   cases lb with
   | false =>
    go_wp2_with fail
    refine (LC.out w1 (Kd.C_below HR1.out HB1.out)).mono ?_
    rintro e w2 ⟨rfl, hd⟩
    have HB2 := asd (below_step HB1.out hd.below)
    clear hd
    go_wp2_with fail
    refine (tknows_calls _).mono ?_
    rintro e wk ⟨rfl, hb⟩
    have HBK := asd (below_step HB2.out hb)
    clear hb
    go_wp2
    go_ret
    exact ⟨rfl, HBK.out⟩
   | true =>
    go_wp2_with fail
    refine (LC.out w1 (Kd.C_below HR1.out HB1.out)).mono ?_
    rintro e w2 ⟨rfl, hd⟩
    have HB2 := asd (below_step HB1.out hd.below)
    clear hd
    go_wp2_with fail
    refine (tknows_calls _).mono ?_
    rintro e wk ⟨rfl, hb⟩
    have HBK := asd (below_step HB2.out hb)
    clear hb
    go_wp2
    go_ret
    exact ⟨rfl, HBK.out⟩
  ·have d0 : decide ((l.length : Int) > 20) = true := decide_eq_true (by omega)
   have d1 : decide (20 < (l.length : Int)) = true := d0
   clear h20
   go_enter Try.func7, Try.ntmps7
   go_wp2_with fail
   refine OC.out.mono ?_
   rintro e w1 ⟨hmade, hb1⟩
   unfold TMade at hmade
   rw [if_neg HM.out] at hmade
   subst hmade
   have HB1 := asd hb1
   clear hb1
   go_wp2_with fail
   refine (tknows_calls _).mono ?_
   rintro e wk ⟨rfl, hb⟩
   have HBK := asd (below_step HB1.out hb)
   clear hb
   go_wp2
   go_ret
   exact ⟨rfl, HBK.out⟩
end Go.Proofs.Ytjekfipaadbbbaa.Fn
