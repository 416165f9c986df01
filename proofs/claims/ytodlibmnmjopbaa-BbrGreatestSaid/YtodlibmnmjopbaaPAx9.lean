-- Written by a program of this session (wip/tools/mkprint.py, mp.sh) for this claim.
import Derived.Test.YtodlibmnmjopbaaPAx0
import Derived.Test.YtodlibmnmjopbaaPAx4
import Derived.Test.YtodlibmnmjopbaaPAx7
import Derived.Test.YtodlibmnmjopbaaPAx8
namespace Go.Proofs.Ytodlibmnmjopbaa.PA
open Go.RowKit Go.Proofs.YtodlibmnmjopbaaW.PrintWords Go.Proofs.YtodlibmnmjopbaaW.PrintLast Go.Proofs.YtodlibmnmjopbaaW.PrintMore
attribute [local go_sem] max2_int min2_int max_two min_two max_three min_three max_four min_four   -- for this text's walks alone
set_option linter.unusedVariables false
set_option linter.unusedSimpArgs false

/-! ### stopcocklaw23_BbrGreatest: function 4 -/
mutual
def stopcocklaw23_BbrGreatest.l0 : Nat → List Int → List Int → List (S36) → List Int → List Int → Int → Int → Option (Bool)
  | 0, _, _, _, _, _, _, _ => none
  | k + 1, x0, x1, x5, x6, x7, x8, x9 => if x9 < (x0.length : Int) then (if x9 < (x1.length : Int) then (stopcocklaw23_BbrGreatest.j1 k x0 x1 x5 x6 x7 x8 x9 (decide (x9 < 200))) else (stopcocklaw23_BbrGreatest.j1 k x0 x1 x5 x6 x7 x8 x9 false)) else (stopcocklaw23_BbrGreatest.j1 k x0 x1 x5 x6 x7 x8 x9 false)
def stopcocklaw23_BbrGreatest.j1 : Nat → List Int → List Int → List (S36) → List Int → List Int → Int → Int → Bool → Option (Bool)
  | 0, _, _, _, _, _, _, _, _ => none
  | k + 1, x0, x1, x5, x6, x7, x8, x9, x30 => if x30 = true then (if 0 ≤ x9 then (if x9 < (x0.length : Int) then (if x9 < (x1.length : Int) then ((bbr_Filter.f k x5 (wrap64 (x8 + (Int.tmod (wrap64 ((Int.tmod (rd x0 x9) 4) + 4)) 4))) (Int.tmod (wrap64 ((Int.tmod (rd x1 x9) 1000) + 1000)) 1000)).bind fun bt206 => ((stopcocklaw23_num.f bt206.2).bind fun t210 => (if t210 = 0 then (if (bt206.1.length : Int) = 0 then (some false) else (if (bt206.1.length : Int) > 10 then (some false) else (if x6.length < 17592186044416 then (if x7.length < 17592186044416 then (stopcocklaw23_BbrGreatest.l1 k x0 x1 bt206.1 (x6 ++ [wrap64 (x8 + (Int.tmod (wrap64 ((Int.tmod (rd x0 x9) 4) + 4)) 4))]) (x7 ++ [Int.tmod (wrap64 ((Int.tmod (rd x1 x9) 1000) + 1000)) 1000]) (wrap64 (x8 + (Int.tmod (wrap64 ((Int.tmod (rd x0 x9) 4) + 4)) 4))) x9 0 0) else (none)) else (none)))) else (some false)))) else (none)) else (none)) else (none)) else (some true)
def stopcocklaw23_BbrGreatest.l1 : Nat → List Int → List Int → List (S36) → List Int → List Int → Int → Int → Int → Int → Option (Bool)
  | 0, _, _, _, _, _, _, _, _, _ => none
  | k + 1, x0, x1, x5, x6, x7, x8, x9, x13, x14 => if x14 < (x6.length : Int) then (if 0 ≤ x14 then (if (wrap64 (x8 - (rd x6 x14))) < 10 then (if x14 < (x7.length : Int) then (stopcocklaw23_BbrGreatest.l1 k x0 x1 x5 x6 x7 x8 x9 (mx x13 (rd x7 x14)) (wrap64 (x14 + 1))) else (none)) else (stopcocklaw23_BbrGreatest.l1 k x0 x1 x5 x6 x7 x8 x9 x13 (wrap64 (x14 + 1)))) else (none)) else (if 0 < (x5.length : Int) then (if ((rd_T36 x5 0).f1) = x13 then (stopcocklaw23_BbrGreatest.l0 k x0 x1 x5 x6 x7 x8 (wrap64 (x9 + 1))) else (some false)) else (none))
end
def stopcocklaw23_BbrGreatest.f (k : Nat) (l0 : List Int) (l1 : List Int) : Option (Bool) := (stopcocklaw23_alive.f k).bind fun t203 => (if t203 = true then (stopcocklaw23_BbrGreatest.l0 k l0 l1 ([] : List (S36)) ([] : List Int) ([] : List Int) 0 0) else (some false))
theorem stopcocklaw23_BbrGreatest.mono_l : ∀ k, (∀ y0 y1 y2 y3 y4 y5 y6, LeO (stopcocklaw23_BbrGreatest.l0 k y0 y1 y2 y3 y4 y5 y6) (stopcocklaw23_BbrGreatest.l0 (k + 1) y0 y1 y2 y3 y4 y5 y6)) ∧ (∀ y0 y1 y2 y3 y4 y5 y6 y7, LeO (stopcocklaw23_BbrGreatest.j1 k y0 y1 y2 y3 y4 y5 y6 y7) (stopcocklaw23_BbrGreatest.j1 (k + 1) y0 y1 y2 y3 y4 y5 y6 y7)) ∧ (∀ y0 y1 y2 y3 y4 y5 y6 y7 y8, LeO (stopcocklaw23_BbrGreatest.l1 k y0 y1 y2 y3 y4 y5 y6 y7 y8) (stopcocklaw23_BbrGreatest.l1 (k + 1) y0 y1 y2 y3 y4 y5 y6 y7 y8))
  | 0 => ⟨fun _ _ _ _ _ _ _ r h => by simp [stopcocklaw23_BbrGreatest.l0] at h, fun _ _ _ _ _ _ _ _ r h => by simp [stopcocklaw23_BbrGreatest.j1] at h, fun _ _ _ _ _ _ _ _ _ r h => by simp [stopcocklaw23_BbrGreatest.l1] at h⟩
  | k + 1 => by
    obtain ⟨ih0, ih1, ih2⟩ := stopcocklaw23_BbrGreatest.mono_l k; refine ⟨?_, ?_, ?_⟩
    · intro y0 y1 y2 y3 y4 y5 y6
      unfold stopcocklaw23_BbrGreatest.l0
      repeat' first
      | (with_reducible exact ih0 _ _ _ _ _ _ _)
      | (with_reducible exact ih1 _ _ _ _ _ _ _ _)
      | (with_reducible exact ih2 _ _ _ _ _ _ _ _ _)
      | (with_reducible exact bbr_Filter.mono _ _ _ _)
      | (with_reducible exact stopcocklaw23_alive.mono _)
      | (with_reducible exact LeO.refl _)
      | (with_reducible exact LeO.none _)
      | (with_reducible refine LeO.ite ?_ ?_)
      | (with_reducible refine LeO.bind ?_ (fun _ => ?_))
      | exact ih0 _ _ _ _ _ _ _
      | exact ih1 _ _ _ _ _ _ _ _
      | exact ih2 _ _ _ _ _ _ _ _ _
      | exact bbr_Filter.mono _ _ _ _
      | exact stopcocklaw23_alive.mono _
      | exact LeO.none _
      | refine LeO.ite ?_ ?_
      | refine LeO.bind ?_ (fun _ => ?_)
    · intro y0 y1 y2 y3 y4 y5 y6 y7
      unfold stopcocklaw23_BbrGreatest.j1
      repeat' first
      | (with_reducible exact ih0 _ _ _ _ _ _ _)
      | (with_reducible exact ih1 _ _ _ _ _ _ _ _)
      | (with_reducible exact ih2 _ _ _ _ _ _ _ _ _)
      | (with_reducible exact bbr_Filter.mono _ _ _ _)
      | (with_reducible exact stopcocklaw23_alive.mono _)
      | (with_reducible exact LeO.refl _)
      | (with_reducible exact LeO.none _)
      | (with_reducible refine LeO.ite ?_ ?_)
      | (with_reducible refine LeO.bind ?_ (fun _ => ?_))
      | exact ih0 _ _ _ _ _ _ _
      | exact ih1 _ _ _ _ _ _ _ _
      | exact ih2 _ _ _ _ _ _ _ _ _
      | exact bbr_Filter.mono _ _ _ _
      | exact stopcocklaw23_alive.mono _
      | exact LeO.none _
      | refine LeO.ite ?_ ?_
      | refine LeO.bind ?_ (fun _ => ?_)
    · intro y0 y1 y2 y3 y4 y5 y6 y7 y8
      unfold stopcocklaw23_BbrGreatest.l1
      repeat' first
      | (with_reducible exact ih0 _ _ _ _ _ _ _)
      | (with_reducible exact ih1 _ _ _ _ _ _ _ _)
      | (with_reducible exact ih2 _ _ _ _ _ _ _ _ _)
      | (with_reducible exact bbr_Filter.mono _ _ _ _)
      | (with_reducible exact stopcocklaw23_alive.mono _)
      | (with_reducible exact LeO.refl _)
      | (with_reducible exact LeO.none _)
      | (with_reducible refine LeO.ite ?_ ?_)
      | (with_reducible refine LeO.bind ?_ (fun _ => ?_))
      | exact ih0 _ _ _ _ _ _ _
      | exact ih1 _ _ _ _ _ _ _ _
      | exact ih2 _ _ _ _ _ _ _ _ _
      | exact bbr_Filter.mono _ _ _ _
      | exact stopcocklaw23_alive.mono _
      | exact LeO.none _
      | refine LeO.ite ?_ ?_
      | refine LeO.bind ?_ (fun _ => ?_)
theorem stopcocklaw23_BbrGreatest.mono : ∀ a0 a1 k, LeO (stopcocklaw23_BbrGreatest.f k a0 a1) (stopcocklaw23_BbrGreatest.f (k + 1) a0 a1) := by
  intro a0 a1 k; obtain ⟨ih0, ih1, ih2⟩ := stopcocklaw23_BbrGreatest.mono_l k
  unfold stopcocklaw23_BbrGreatest.f
  repeat' first
      | (with_reducible exact ih0 _ _ _ _ _ _ _)
      | (with_reducible exact ih1 _ _ _ _ _ _ _ _)
      | (with_reducible exact ih2 _ _ _ _ _ _ _ _ _)
      | (with_reducible exact bbr_Filter.mono _ _ _ _)
      | (with_reducible exact stopcocklaw23_alive.mono _)
      | (with_reducible exact LeO.refl _)
      | (with_reducible exact LeO.none _)
      | (with_reducible refine LeO.ite ?_ ?_)
      | (with_reducible refine LeO.bind ?_ (fun _ => ?_))
      | exact ih0 _ _ _ _ _ _ _
      | exact ih1 _ _ _ _ _ _ _ _
      | exact ih2 _ _ _ _ _ _ _ _ _
      | exact bbr_Filter.mono _ _ _ _
      | exact stopcocklaw23_alive.mono _
      | exact LeO.none _
      | refine LeO.ite ?_ ?_
      | refine LeO.bind ?_ (fun _ => ?_)
set_option maxHeartbeats 8000000 in
set_option maxRecDepth 100000 in
theorem stopcocklaw23_BbrGreatest.calls (k : Nat) (A0 : Option Addr) (c0 : Nat) (l0 : List Int) (A1 : Option Addr) (c1 : Nat) (l1 : List Int) (r : Bool) (w : World) (hr0 : Kd.C (Kd.int .i64) w A0 l0.length l0) (hc0 : l0.length ≤ c0) (hr1 : Kd.C (Kd.int .i64) w A1 l1.length l1) (hc1 : l1.length ≤ c1) (h : stopcocklaw23_BbrGreatest.f k l0 l1 = some r) (hrt : r = true) :
    Calls Try.prog 4 #[.slice A0 l0.length c0, .slice A1 l1.length c1] w fun e w' => e = .returned (.bool r) ∧ Below w.heap.size w w' := by
  have HRT := Aside0.mk hrt; clear hrt; have HR0 := Aside0.mk hr0; have HC0 := Aside0.mk hc0; clear hr0 hc0; have HR1 := Aside0.mk hr1; have HC1 := Aside0.mk hc1; clear hr1 hc1; have HB := Aside0.mk (Below.refl w.heap.size w); have H : ((stopcocklaw23_alive.f k).bind fun t203 => (if t203 = true then (stopcocklaw23_BbrGreatest.l0 k l0 l1 ([] : List (S36)) ([] : List Int) ([] : List Int) 0 0) else (some false))) = some r := h; clear h; replace H := Option.bind_eq_some_iff.mp H; obtain ⟨t203, A30, H⟩ := H; replace H : (if t203 = true then (stopcocklaw23_BbrGreatest.l0 k l0 l1 ([] : List (S36)) ([] : List Int) ([] : List Int) 0 0) else (some false)) = some r := H; have A3 := Aside0.mk A30; clear A30
  by_cases c4 : t203 = true
  · subst c4
    have H1 : (stopcocklaw23_BbrGreatest.l0 k l0 l1 ([] : List (S36)) ([] : List Int) ([] : List Int) 0 0) = some r := by rw [if_pos rfl] at H; exact H
    clear H; have H := H1; clear H1; have H' := Aside0.mk H; clear H
    go_enter Try.func4, Try.ntmps4
    go_wp2_with (first | ((with_reducible refine gate_callee (f := 14) rfl ?_); refine goesL_ (some 15) rfl rfl Try.func14 (by kernel_rfl) rfl #[] rfl (by (try simp only [List.map_toArray, List.map_cons, List.map_nil]); first | done | rfl | (simp only [List.length_drop, List.length_take]; rfl)) ?_; (with_reducible refine (stopcocklaw23_alive.calls k  true _ A3.out).mono ?_); rintro e w5 ⟨rfl, hb⟩; refine ⟨_, rfl, ?_⟩; have n0_ := Aside0.mk (below_step (bel0 HB.out) hb); clear HB; have HB := n0_; clear n0_; (try clear hb); (try clear hb2); (try clear hk); (try clear hi)))
    go_loopg [5, 6, 7, 8, 9] k (fun kq v5 v6 v7 v8 v9 w' => ∃ (x5_1 : List (S36)) (x6_1 : List Int) (x7_1 : List Int) (x8_1 : Int) (x9_1 : Int), v8 = .int .i64 x8_1 ∧ v9 = .int .i64 x9_1 ∧ Aside0 (stopcocklaw23_BbrGreatest.l0 kq l0 l1 x5_1 x6_1 x7_1 x8_1 x9_1 = some r) ∧ Aside0 (kq ≤ k) ∧ Aside0 (Kd.R k36 36 w' w.heap.size (fun _ => True) v5 x5_1) ∧ Aside0 (Kd.R (Kd.int .i64) 3 w' w.heap.size (fun k_ => some k_ ≠ (v7 : Value).ownBlock) v6 x6_1) ∧ Aside0 (Kd.R (Kd.int .i64) 3 w' w.heap.size (fun k_ => some k_ ≠ (v6 : Value).ownBlock) v7 x7_1) ∧ Aside0 (Below w.heap.size w w'))
    case atStart => exact ⟨(([] : List (S36))), (([] : List Int)), (([] : List Int)), (0), (0), (by first | rfl | (simp; done) | (simp [*]; done)), (by first | rfl | (simp; done) | (simp [*]; done)), H', ⟨Nat.le_refl _⟩, ⟨by first | exact Kd.R_nil _ _ _ _ _ | exact Kd.N_nil _ _ _ _ _ | exact Kd.V_nil _ _ _ _ _ | exact Kd.Q_nil _ _ _ _ _ | exact Kd.S_nil _ _ _ _ _⟩, ⟨by first | exact Kd.R_nil _ _ _ _ _ | exact Kd.N_nil _ _ _ _ _ | exact Kd.V_nil _ _ _ _ _ | exact Kd.Q_nil _ _ _ _ _ | exact Kd.S_nil _ _ _ _ _⟩, ⟨by first | exact Kd.R_nil _ _ _ _ _ | exact Kd.N_nil _ _ _ _ _ | exact Kd.V_nil _ _ _ _ _ | exact Kd.Q_nil _ _ _ _ _ | exact Kd.S_nil _ _ _ _ _⟩, ⟨by exact bel0 HB.out⟩⟩
    case round =>
      clear H'
      try clear c1
      try clear p2
      try clear c4
      obtain ⟨x5_1, x6_1, x7_1, x8_1, x9_1, rfl, rfl, HA, HK1, HO_5, HO_6, HO_7, HB⟩ := hrel
      cases gk with
      | zero => exact absurd HA.out (by simp [stopcocklaw23_BbrGreatest.l0])
      | succ k1 =>
        have H := HA.out; clear HA
        simp only [stopcocklaw23_BbrGreatest.l0] at H
        have HC6 := Aside0.mk H; clear H
        go_upto_region 7 with (fail)
        go_cut [30] (fun v30 wc => ∃ (kq : Nat) (x30_5 : Bool), v30 = .bool x30_5 ∧ Aside0 (stopcocklaw23_BbrGreatest.j1 kq l0 l1 x5_1 x6_1 x7_1 x8_1 x9_1 x30_5 = some r) ∧ Aside0 (kq ≤ k1) ∧ Aside0 (Kd.R k36 36 wc w.heap.size (fun _ => True) u5 x5_1) ∧ Aside0 (Kd.R (Kd.int .i64) 3 wc w.heap.size (fun k_ => some k_ ≠ (u7 : Value).ownBlock) u6 x6_1) ∧ Aside0 (Kd.R (Kd.int .i64) 3 wc w.heap.size (fun k_ => some k_ ≠ (u6 : Value).ownBlock) u7 x7_1) ∧ Aside0 (Below w.heap.size w wc))
        case first =>
          have H := HC6.out; clear HC6
          by_cases c7 : x9_1 < (l0.length : Int)
          · rw [if_pos c7] at H
            have c7b0 : decide (x9_1 < (l0.length : Int)) = true := decide_eq_true c7; clear c7
            (first | rw [c7b0] | (simp only [i64_w, i32_w]; rw [c7b0]) | skip)
            by_cases c8 : x9_1 < (l1.length : Int)
            · rw [if_pos c8] at H
              have c8b0 : decide (x9_1 < (l1.length : Int)) = true := decide_eq_true c8; clear c8; have H' := Aside0.mk H; clear H
              go_wp2
              go_meet
              case rel => exact ⟨_, (decide (x9_1 < 200)), (by first | rfl | (simp; done) | (simp [*]; done)), H', ⟨by have := HK1.out; first | omega | exact Nat.le_refl _⟩, ⟨by (with_reducible repeat (first | apply Kd.R_alloc | apply Kd.R_drewN | apply Kd.R_drew)); exact HO_5.out⟩, ⟨by (with_reducible repeat (first | apply Kd.R_alloc | apply Kd.R_drewN | apply Kd.R_drew)); exact HO_6.out⟩, ⟨by (with_reducible repeat (first | apply Kd.R_alloc | apply Kd.R_drewN | apply Kd.R_drew)); exact HO_7.out⟩, ⟨by exact bel0 HB.out⟩⟩
            rw [if_neg c8] at H; have c8b0 : decide (x9_1 < (l1.length : Int)) = false := decide_eq_false c8; clear c8; have H' := Aside0.mk H; clear H
            go_wp2
            go_meet
            case rel => exact ⟨_, (false), (by first | rfl | (simp; done) | (simp [*]; done)), H', ⟨by have := HK1.out; first | omega | exact Nat.le_refl _⟩, ⟨by (with_reducible repeat (first | apply Kd.R_alloc | apply Kd.R_drewN | apply Kd.R_drew)); exact HO_5.out⟩, ⟨by (with_reducible repeat (first | apply Kd.R_alloc | apply Kd.R_drewN | apply Kd.R_drew)); exact HO_6.out⟩, ⟨by (with_reducible repeat (first | apply Kd.R_alloc | apply Kd.R_drewN | apply Kd.R_drew)); exact HO_7.out⟩, ⟨by exact bel0 HB.out⟩⟩
          rw [if_neg c7] at H; have c7b0 : decide (x9_1 < (l0.length : Int)) = false := decide_eq_false c7; clear c7
          (first | rw [c7b0] | (simp only [i64_w, i32_w]; rw [c7b0]) | skip)
          have H' := Aside0.mk H; clear H
          go_wp2
          go_meet
          case rel => exact ⟨_, (false), (by first | rfl | (simp; done) | (simp [*]; done)), H', ⟨by have := HK1.out; first | omega | exact Nat.le_refl _⟩, ⟨by (with_reducible repeat (first | apply Kd.R_alloc | apply Kd.R_drewN | apply Kd.R_drew)); exact HO_5.out⟩, ⟨by (with_reducible repeat (first | apply Kd.R_alloc | apply Kd.R_drewN | apply Kd.R_drew)); exact HO_6.out⟩, ⟨by (with_reducible repeat (first | apply Kd.R_alloc | apply Kd.R_drewN | apply Kd.R_drew)); exact HO_7.out⟩, ⟨by exact bel0 HB.out⟩⟩
        case rest =>
          clear HC6
          try clear c1
          try clear p2
          try clear c4
          try clear c7
          try clear c7b0
          try clear c8
          try clear c8b0
          try clear p2
          obtain ⟨kq, x30_5, rfl, HA, HJ5, HO_5, HO_6, HO_7, HB⟩ := hcut
          cases kq with
          | zero => exact absurd HA.out (by simp [stopcocklaw23_BbrGreatest.j1])
          | succ kj5 =>
            have H := HA.out; clear HA
            simp only [stopcocklaw23_BbrGreatest.j1] at H
            by_cases c9 : x30_5 = true
            · subst c9
              have H1 : (if 0 ≤ x9_1 then (if x9_1 < (l0.length : Int) then (if x9_1 < (l1.length : Int) then ((bbr_Filter.f kj5 x5_1 (wrap64 (x8_1 + (Int.tmod (wrap64 ((Int.tmod (rd l0 x9_1) 4) + 4)) 4))) (Int.tmod (wrap64 ((Int.tmod (rd l1 x9_1) 1000) + 1000)) 1000)).bind fun bt206 => ((stopcocklaw23_num.f bt206.2).bind fun t210 => (if t210 = 0 then (if (bt206.1.length : Int) = 0 then (some false) else (if (bt206.1.length : Int) > 10 then (some false) else (if x6_1.length < 17592186044416 then (if x7_1.length < 17592186044416 then (stopcocklaw23_BbrGreatest.l1 kj5 l0 l1 bt206.1 (x6_1 ++ [wrap64 (x8_1 + (Int.tmod (wrap64 ((Int.tmod (rd l0 x9_1) 4) + 4)) 4))]) (x7_1 ++ [Int.tmod (wrap64 ((Int.tmod (rd l1 x9_1) 1000) + 1000)) 1000]) (wrap64 (x8_1 + (Int.tmod (wrap64 ((Int.tmod (rd l0 x9_1) 4) + 4)) 4))) x9_1 0 0) else (none)) else (none)))) else (some false)))) else (none)) else (none)) else (none)) = some r := by rw [if_pos rfl] at H; exact H
              clear H; have H := H1; clear H1
              by_cases c10 : 0 ≤ x9_1
              · rw [if_pos c10] at H
                have c10b0 : decide (0 ≤ x9_1) = true := decide_eq_true c10; clear c10
                by_cases c11 : x9_1 < (l0.length : Int)
                · rw [if_pos c11] at H
                  have c11b0 : decide (x9_1 < (l0.length : Int)) = true := decide_eq_true c11; clear c11
                  by_cases c12 : x9_1 < (l1.length : Int)
                  · rw [if_pos c12] at H
                    have c12b0 : decide (x9_1 < (l1.length : Int)) = true := decide_eq_true c12; clear c12; replace H := Option.bind_eq_some_iff.mp H; obtain ⟨⟨t206, t207⟩, A130, H⟩ := H; replace H : ((stopcocklaw23_num.f t207).bind fun t210 => (if t210 = 0 then (if (t206.length : Int) = 0 then (some false) else (if (t206.length : Int) > 10 then (some false) else (if x6_1.length < 17592186044416 then (if x7_1.length < 17592186044416 then (stopcocklaw23_BbrGreatest.l1 kj5 l0 l1 t206 (x6_1 ++ [wrap64 (x8_1 + (Int.tmod (wrap64 ((Int.tmod (rd l0 x9_1) 4) + 4)) 4))]) (x7_1 ++ [Int.tmod (wrap64 ((Int.tmod (rd l1 x9_1) 1000) + 1000)) 1000]) (wrap64 (x8_1 + (Int.tmod (wrap64 ((Int.tmod (rd l0 x9_1) 4) + 4)) 4))) x9_1 0 0) else (none)) else (none)))) else (some false))) = some r := H; have A13 := Aside0.mk A130; clear A130; replace H := Option.bind_eq_some_iff.mp H; obtain ⟨t210, A140, H⟩ := H; replace H : (if t210 = 0 then (if (t206.length : Int) = 0 then (some false) else (if (t206.length : Int) > 10 then (some false) else (if x6_1.length < 17592186044416 then (if x7_1.length < 17592186044416 then (stopcocklaw23_BbrGreatest.l1 kj5 l0 l1 t206 (x6_1 ++ [wrap64 (x8_1 + (Int.tmod (wrap64 ((Int.tmod (rd l0 x9_1) 4) + 4)) 4))]) (x7_1 ++ [Int.tmod (wrap64 ((Int.tmod (rd l1 x9_1) 1000) + 1000)) 1000]) (wrap64 (x8_1 + (Int.tmod (wrap64 ((Int.tmod (rd l0 x9_1) 4) + 4)) 4))) x9_1 0 0) else (none)) else (none)))) else (some false)) = some r := H; have A14 := Aside0.mk A140; clear A140
                    by_cases c15 : t210 = 0
                    · rw [if_pos c15] at H
                      have c15b0 : (t210 == 0) = true := beq_iff_eq.mpr c15; have c15b1 : (t210 != 0) = false := bne_eq_false_iff_eq.mpr c15; clear c15
                      by_cases c16 : (t206.length : Int) = 0
                      · rw [if_pos c16] at H
                        have c16b0 : ((t206.length : Int) == 0) = true := beq_iff_eq.mpr c16; have c16b1 : ((t206.length : Int) != 0) = false := bne_eq_false_iff_eq.mpr c16; clear c16; exact absurd ((Option.some.inj H).trans HRT.out) (by decide)
                      rw [if_neg c16] at H; have c16b0 : ((t206.length : Int) == 0) = false := beq_eq_false_iff_ne.mpr c16; have c16b1 : ((t206.length : Int) != 0) = true := bne_iff_ne.mpr c16; have c16b2 : ¬ (t206 = []) := fun h_ => c16 (by rw [h_]; rfl)
                      by_cases c17 : (t206.length : Int) > 10
                      · rw [if_pos c17] at H
                        have c17b0 : decide (10 < (t206.length : Int)) = true := decide_eq_true c17; have c17b1 : decide (10 < t206.length) = true := decide_eq_true (by omega); clear c17; exact absurd ((Option.some.inj H).trans HRT.out) (by decide)
                      rw [if_neg c17] at H; have c17b0 : decide (10 < (t206.length : Int)) = false := decide_eq_false c17; have c17b1 : decide (10 < t206.length) = false := decide_eq_false (by omega); clear c17
                      by_cases c18 : x6_1.length < 17592186044416
                      · rw [if_pos c18] at H
                        have LMc18 := Aside0.mk c18; clear c18; obtain ⟨y211, hy211⟩ : ∃ y_ : List Int, y_ = (x6_1 ++ [wrap64 (x8_1 + (Int.tmod (wrap64 ((Int.tmod (rd l0 x9_1) 4) + 4)) 4))]) := ⟨_, rfl⟩; replace H : (if x7_1.length < 17592186044416 then (stopcocklaw23_BbrGreatest.l1 kj5 l0 l1 t206 y211 (x7_1 ++ [Int.tmod (wrap64 ((Int.tmod (rd l1 x9_1) 1000) + 1000)) 1000]) (wrap64 (x8_1 + (Int.tmod (wrap64 ((Int.tmod (rd l0 x9_1) 4) + 4)) 4))) x9_1 0 0) else (none)) = some r := by first | (rw [hy211]; with_reducible exact H) | (have H2_ := (Option.bind_some _ _).symm.trans H; rw [hy211]; with_reducible exact H2_) | (have H2_ := (Option.bind_some _ _).symm.trans H; with_reducible exact H2_) | with_reducible exact H | (rw [hy211]; exact H) | exact H
                        have Ny211 := Aside0.mk hy211; clear hy211
                        by_cases c19 : x7_1.length < 17592186044416
                        · rw [if_pos c19] at H
                          have LMc19 := Aside0.mk c19; clear c19; obtain ⟨y214, hy214⟩ : ∃ y_ : List Int, y_ = (x7_1 ++ [Int.tmod (wrap64 ((Int.tmod (rd l1 x9_1) 1000) + 1000)) 1000]) := ⟨_, rfl⟩; replace H : (stopcocklaw23_BbrGreatest.l1 kj5 l0 l1 t206 y211 y214 (wrap64 (x8_1 + (Int.tmod (wrap64 ((Int.tmod (rd l0 x9_1) 4) + 4)) 4))) x9_1 0 0) = some r := by first | (rw [hy214]; with_reducible exact H) | (have H2_ := (Option.bind_some _ _).symm.trans H; rw [hy214]; with_reducible exact H2_) | (have H2_ := (Option.bind_some _ _).symm.trans H; with_reducible exact H2_) | with_reducible exact H | (rw [hy214]; exact H) | exact H
                          have Ny214 := Aside0.mk hy214; clear hy214; have H' := Aside0.mk H; clear H; have p204 : 0 ≤ (x9_1 : Int) := of_decide_eq_true (by first | (with_reducible assumption) | assumption); have q204 : x9_1 < (l0.length : Int) := of_decide_eq_true (by first | (with_reducible assumption) | assumption); obtain ⟨ad204, e204, hx204_0⟩ := Kd.at_int HR0.out x9_1 p204 q204
                          cases e204
                          replace hx204_0 := (HB.out.cell (World.block_lt_of_cell? w _ hx204_0)).trans hx204_0; replace p204 := eq_true p204; replace q204 := eq_true q204; have p205 : 0 ≤ (x9_1 : Int) := of_decide_eq_true (by first | (with_reducible assumption) | assumption); have q205 : x9_1 < (l1.length : Int) := of_decide_eq_true (by first | (with_reducible assumption) | assumption); obtain ⟨ad205, e205, hx205_0⟩ := Kd.at_int HR1.out x9_1 p205 q205
                          cases e205
                          replace hx205_0 := (HB.out.cell (World.block_lt_of_cell? w _ hx205_0)).trans hx205_0; replace p205 := eq_true p205; replace q205 := eq_true q205; obtain ⟨Ao20, co20, eo20⟩ := Kd.R_slice HO_5.out
                          subst eo20
                          go_wp2_with (first | ((with_reducible refine gate_callee (f := 10) rfl ?_); refine goesL_ (some 53) rfl rfl Try.func10 (by kernel_rfl) rfl #[.slice Ao20 x5_1.length co20, .int .i64 (wrap64 (x8_1 + (Int.tmod (wrap64 ((Int.tmod (rd l0 x9_1) 4) + 4)) 4))), .int .i64 (Int.tmod (wrap64 ((Int.tmod (rd l1 x9_1) 1000) + 1000)) 1000)] rfl (by (try simp only [List.map_toArray, List.map_cons, List.map_nil]); first | done | rfl | (simp only [List.length_drop, List.length_take]; rfl)) ?_; (with_reducible refine (bbr_Filter.calls kj5 _ _ x5_1 (wrap64 (x8_1 + (Int.tmod (wrap64 ((Int.tmod (rd l0 x9_1) 4) + 4)) 4))) (Int.tmod (wrap64 ((Int.tmod (rd l1 x9_1) 1000) + 1000)) 1000) t206 t207 _ ?side1 ?side2 A13.out).mono ?_); (case side1 => repeat (first | exact (Kd.R_reads' HO_5.out).2.2 | (with_reducible refine Kd.C_alloc ?_ _) | (with_reducible refine Kd.C_drewN ?_ _) | (with_reducible refine Kd.C_drew ?_))); (case side2 => exact (Kd.R_reads' HO_5.out).2.1); rintro e w21 ⟨v208, rfl, ho0, hb⟩; refine ⟨_, rfl, ?_⟩; have n0_ := Aside0.mk (Kd.R_elder' (by (with_reducible repeat (first | apply Kd.R_alloc | apply Kd.R_drewN | apply Kd.R_drew)); exact HO_5.out) (Kd.R_base ho0) hb); have n1_ := Aside0.mk (Kd.R_below (by (with_reducible repeat (first | apply Kd.R_alloc | apply Kd.R_drewN | apply Kd.R_drew)); exact HO_6.out) hb); have n2_ := Aside0.mk (Kd.R_below (by (with_reducible repeat (first | apply Kd.R_alloc | apply Kd.R_drewN | apply Kd.R_drew)); exact HO_7.out) hb); have n3_ := Aside0.mk (Kd.R_lower (Kd.R_new' ho0 (Kd.R_lt (by (with_reducible repeat (first | apply Kd.R_alloc | apply Kd.R_drewN | apply Kd.R_drew)); exact HO_5.out))) (below_size (bel0 HB.out))); have n4_ := Aside0.mk (below_step (bel0 HB.out) hb); clear HO_5; clear HO_6; clear HO_7; clear HB; have HO_5 := n0_; have HO_6 := n1_; have HO_7 := n2_; have HO209 := n3_; have HB := n4_; clear n0_ n1_ n2_ n3_ n4_; (try clear hb); (try clear hb2); (try clear hk); (try clear hi); (try clear ho0)) | ((with_reducible refine gate_callee (f := 13) rfl ?_); refine goesL_ (some 57) rfl rfl Try.func13 (by kernel_rfl) rfl #[.int .i64 t207] rfl (by (try simp only [List.map_toArray, List.map_cons, List.map_nil]); first | done | rfl | (simp only [List.length_drop, List.length_take]; rfl)) ?_; (with_reducible refine (stopcocklaw23_num.same t207 t210 _ A14.out).mono ?_); rintro e w' ⟨rfl, rfl⟩; refine ⟨_, rfl, ?_⟩; obtain ⟨Ao22, co22, eo22⟩ := Kd.R_slice HO209.out; subst eo22) | ((with_reducible refine gate_builtin (b := .append) (xs := #[.tmp 70, .tmp 72]) rfl ?_); (try (refine gate_guard (by rfl) ?_; dsimp only)); at_builtin; refine Kd.R_append (Kd.int .i64) (w0 := w) w.heap.size rfl (.tmp 70) (.tmp 72) 34 3 (.int .i64 0) 8 rfl Try.underlying34 info3 rfl (by decide) (by omega) u6 x6_1 (wrap64 (x8_1 + (Int.tmod (wrap64 ((Int.tmod (rd l0 x9_1) 4) + 4)) 4))) [.int .i64 (wrap64 (x8_1 + (Int.tmod (wrap64 ((Int.tmod (rd l0 x9_1) 4) + 4)) 4)))] (fun k_ => some k_ ≠ (u7 : Value).ownBlock) (fun _ => False) rfl rfl ?aP (fun _ hk => hk.elim) ?aF ?aO ?aB ?aS ?aL ?_; (case aP => exact rfl); (case aB => exact (bel0 HB.out)); (case aF => exact (fun k_ hk => Kd.fresh' (Kd.R_lt (by (with_reducible repeat (first | apply Kd.R_alloc | apply Kd.R_drewN | apply Kd.R_drew)); exact HO_7.out)) k_ hk)); (case aO => exact (by (with_reducible repeat (first | apply Kd.R_alloc | apply Kd.R_drewN | apply Kd.R_drew)); exact HO_6.out)); (case aS => exact (below_size (bel0 HB.out))); (case aL => have := LMc18.out; omega); intro v212 w23 ho hb hg hat; rw [← Ny211.out] at ho; have n0_ := Aside0.mk (Kd.R_over' (by (with_reducible repeat (first | apply Kd.R_alloc | apply Kd.R_drewN | apply Kd.R_drew)); exact HO_5.out) (Kd.R_typed (by (with_reducible repeat (first | apply Kd.R_alloc | apply Kd.R_drewN | apply Kd.R_drew)); exact HO_6.out)) (by decide) hg); have n1_ := Aside0.mk (Kd.R_after (ok := (fun _ => True)) (by (with_reducible repeat (first | apply Kd.R_alloc | apply Kd.R_drewN | apply Kd.R_drew)); exact Kd.R_mono HO_7.out (fun _ hk => ⟨trivial, hk⟩)) hg hat); have n2_ := Aside0.mk (Kd.R_over' (by (with_reducible repeat (first | apply Kd.R_alloc | apply Kd.R_drewN | apply Kd.R_drew)); exact HO209.out) (Kd.R_typed (by (with_reducible repeat (first | apply Kd.R_alloc | apply Kd.R_drewN | apply Kd.R_drew)); exact HO_6.out)) (by decide) hg); have n3_ := Aside0.mk (hb); have n4_ := Aside0.mk (ho); clear HO_5; clear HO_7; clear HO209; clear HB; clear HO_6; have HO_5 := n0_; have HO_7 := n1_; have HO209 := n2_; have HB := n3_; have HO213 := n4_; clear n0_ n1_ n2_ n3_ n4_; clear ho hb hg hat) | ((with_reducible refine gate_builtin (b := .append) (xs := #[.tmp 74, .tmp 76]) rfl ?_); (try (refine gate_guard (by rfl) ?_; dsimp only)); at_builtin; refine Kd.R_append (Kd.int .i64) (w0 := w) w.heap.size rfl (.tmp 74) (.tmp 76) 34 3 (.int .i64 0) 8 rfl Try.underlying34 info3 rfl (by decide) (by omega) u7 x7_1 (Int.tmod (wrap64 ((Int.tmod (rd l1 x9_1) 1000) + 1000)) 1000) [.int .i64 (Int.tmod (wrap64 ((Int.tmod (rd l1 x9_1) 1000) + 1000)) 1000)] (fun k_ => some k_ ≠ (v212 : Value).ownBlock) (fun _ => False) rfl rfl ?aP (fun _ hk => hk.elim) ?aF ?aO ?aB ?aS ?aL ?_; (case aP => exact rfl); (case aB => exact (bel0 HB.out)); (case aF => exact (fun k_ hk => Kd.fresh' (Kd.R_lt (by (with_reducible repeat (first | apply Kd.R_alloc | apply Kd.R_drewN | apply Kd.R_drew)); exact HO213.out)) k_ hk)); (case aO => exact (by (with_reducible repeat (first | apply Kd.R_alloc | apply Kd.R_drewN | apply Kd.R_drew)); exact Kd.R_mono HO_7.out (fun _ hk => hk.2))); (case aS => exact (below_size (bel0 HB.out))); (case aL => have := LMc19.out; omega); intro v215 w24 ho hb hg hat; rw [← Ny214.out] at ho; have n0_ := Aside0.mk (Kd.R_over' (by (with_reducible repeat (first | apply Kd.R_alloc | apply Kd.R_drewN | apply Kd.R_drew)); exact HO_5.out) (Kd.R_typed (by (with_reducible repeat (first | apply Kd.R_alloc | apply Kd.R_drewN | apply Kd.R_drew)); exact HO_7.out)) (by decide) hg); have n1_ := Aside0.mk (Kd.R_over' (by (with_reducible repeat (first | apply Kd.R_alloc | apply Kd.R_drewN | apply Kd.R_drew)); exact HO209.out) (Kd.R_typed (by (with_reducible repeat (first | apply Kd.R_alloc | apply Kd.R_drewN | apply Kd.R_drew)); exact HO_7.out)) (by decide) hg); have n2_ := Aside0.mk (Kd.R_after (ok := (fun _ => True)) (by (with_reducible repeat (first | apply Kd.R_alloc | apply Kd.R_drewN | apply Kd.R_drew)); exact Kd.R_mono HO213.out (fun _ hk => ⟨trivial, hk⟩)) hg hat); have n3_ := Aside0.mk (hb); have n4_ := Aside0.mk (ho); clear HO_5; clear HO209; clear HO213; clear HB; clear HO_7; have HO_5 := n0_; have HO209 := n1_; have HO213 := n2_; have HB := n3_; have HO216 := n4_; clear n0_ n1_ n2_ n3_ n4_; clear ho hb hg hat))
                          go_loopg [13, 14] kj5 (fun kq v13 v14 w' => ∃ (x13_3 : Int) (x14_3 : Int), v13 = .int .i64 x13_3 ∧ v14 = .int .i64 x14_3 ∧ Aside0 (stopcocklaw23_BbrGreatest.l1 kq l0 l1 t206 y211 y214 (wrap64 (x8_1 + (Int.tmod (wrap64 ((Int.tmod (rd l0 x9_1) 4) + 4)) 4))) x9_1 x13_3 x14_3 = some r) ∧ Aside0 (kq ≤ kj5) ∧ Aside0 (Kd.R k36 36 w' w.heap.size (fun _ => True) (.slice Ao22 t206.length co22) t206) ∧ Aside0 (Kd.R (Kd.int .i64) 3 w' w.heap.size (fun k_ => some k_ ≠ (v215 : Value).ownBlock) v212 y211) ∧ Aside0 (Kd.R (Kd.int .i64) 3 w' w.heap.size (fun k_ => some k_ ≠ (v212 : Value).ownBlock) v215 y214) ∧ Aside0 (Below w.heap.size w w'))
                          case atStart => exact ⟨(0), (0), (by first | rfl | (simp; done) | (simp [*]; done)), (by first | rfl | (simp; done) | (simp [*]; done)), H', ⟨Nat.le_refl _⟩, ⟨by (with_reducible repeat (first | apply Kd.R_alloc | apply Kd.R_drewN | apply Kd.R_drew)); exact Kd.R_mono HO209.out (fun _ hk => trivial)⟩, ⟨by (with_reducible repeat (first | apply Kd.R_alloc | apply Kd.R_drewN | apply Kd.R_drew)); exact Kd.R_mono HO213.out (fun _ hk => hk.2)⟩, ⟨by (with_reducible repeat (first | apply Kd.R_alloc | apply Kd.R_drewN | apply Kd.R_drew)); exact HO216.out⟩, ⟨by exact bel0 HB.out⟩⟩
                          case round =>
                            clear H'
                            try clear c1
                            try clear p2
                            try clear q2
                            try clear hx2
                            try clear c4
                            try clear p6
                            try clear c7
                            try clear c7b0
                            try clear c8
                            try clear c8b0
                            try clear c9
                            try clear c10
                            try clear c10b0
                            try clear c11
                            try clear c11b0
                            try clear c12
                            try clear c12b0
                            try clear c13
                            try clear c14
                            try clear c15
                            try clear c15b0
                            try clear c15b1
                            try clear c16
                            try clear c16b0
                            try clear c16b1
                            try clear c16b2
                            try clear c17
                            try clear c17b0
                            try clear c17b1
                            try clear c18
                            try clear c19
                            try clear p20
                            try clear q20
                            try clear hx20
                            try clear hx204_0
                            try clear hx205_0
                            try clear p2
                            try clear p204
                            try clear p205
                            try clear q204
                            try clear q205
                            obtain ⟨x13_3, x14_3, rfl, rfl, HA, HK3, HO_5, HO_6, HO_7, HB⟩ := hrel
                            cases gk with
                            | zero => exact absurd HA.out (by simp [stopcocklaw23_BbrGreatest.l1])
                            | succ k3 =>
                              have H := HA.out; clear HA
                              simp only [stopcocklaw23_BbrGreatest.l1] at H
                              by_cases c25 : x14_3 < (y211.length : Int)
                              · rw [if_pos c25] at H
                                have c25b0 : decide (x14_3 < (y211.length : Int)) = true := decide_eq_true c25; clear c25
                                by_cases c26 : 0 ≤ x14_3
                                · rw [if_pos c26] at H
                                  have c26b0 : decide (0 ≤ x14_3) = true := decide_eq_true c26; clear c26
                                  by_cases c27 : (wrap64 ((wrap64 (x8_1 + (Int.tmod (wrap64 ((Int.tmod (rd l0 x9_1) 4) + 4)) 4))) - (rd y211 x14_3))) < 10
                                  · rw [if_pos c27] at H
                                    have c27b0 : decide ((wrap64 ((wrap64 (x8_1 + (Int.tmod (wrap64 ((Int.tmod (rd l0 x9_1) 4) + 4)) 4))) - (rd y211 x14_3))) < 10) = true := decide_eq_true c27; clear c27
                                    by_cases c28 : x14_3 < (y214.length : Int)
                                    · rw [if_pos c28] at H
                                      have c28b0 : decide (x14_3 < (y214.length : Int)) = true := decide_eq_true c28; clear c28; obtain ⟨ji29, hji29⟩ : ∃ j_ : Int, (mx x13_3 (rd y214 x14_3)) = j_ := ⟨_, rfl⟩; replace H : (stopcocklaw23_BbrGreatest.l1 k3 l0 l1 t206 y211 y214 (wrap64 (x8_1 + (Int.tmod (wrap64 ((Int.tmod (rd l0 x9_1) 4) + 4)) 4))) x9_1 ji29 (wrap64 (x14_3 + 1))) = some r := by first | (rw [hji29] at H; exact H) | (simp only [hji29] at H ⊢; exact H)
                                      have hji29_ : (if x13_3 < (rd y214 x14_3) then (rd y214 x14_3) else x13_3) = ji29 := hji29; have H' := Aside0.mk H; clear H; obtain ⟨Ao30, co30, eo30⟩ := Kd.R_slice HO_6.out
                                      subst eo30
                                      have p217 : 0 ≤ (x14_3 : Int) := of_decide_eq_true (by first | (with_reducible assumption) | assumption); have q217 : x14_3 < (y211.length : Int) := of_decide_eq_true (by first | (with_reducible assumption) | assumption); obtain ⟨ad217, e217, hx217_0⟩ := Kd.at_int (Kd.R_reads' HO_6.out).2.2 x14_3 p217 q217
                                      cases e217
                                      replace p217 := eq_true p217; replace q217 := eq_true q217; obtain ⟨Ao31, co31, eo31⟩ := Kd.R_slice HO_7.out
                                      subst eo31
                                      have p218 : 0 ≤ (x14_3 : Int) := of_decide_eq_true (by first | (with_reducible assumption) | assumption); have q218 : x14_3 < (y214.length : Int) := of_decide_eq_true (by first | (with_reducible assumption) | assumption); obtain ⟨ad218, e218, hx218_0⟩ := Kd.at_int (Kd.R_reads' HO_7.out).2.2 x14_3 p218 q218
                                      cases e218
                                      replace p218 := eq_true p218; replace q218 := eq_true q218
                                      go_wp2
                                      go_roundg k3
                                      case measure => have := HK1.out; have := HJ5.out; have := HK3.out; omega
                                      case rel => exact ⟨(ji29), (wrap64 (x14_3 + 1)), (by first | rfl | (simp; done) | (simp only [← hji29] <;> (first | rfl | simp)) | (simp [*]; done)), (by first | rfl | (simp; done) | (simp [*]; done)), H', ⟨by have := HK1.out; have := HJ5.out; have := HK3.out; omega⟩, ⟨by (with_reducible repeat (first | apply Kd.R_alloc | apply Kd.R_drewN | apply Kd.R_drew)); exact HO_5.out⟩, ⟨by (with_reducible repeat (first | apply Kd.R_alloc | apply Kd.R_drewN | apply Kd.R_drew)); exact HO_6.out⟩, ⟨by (with_reducible repeat (first | apply Kd.R_alloc | apply Kd.R_drewN | apply Kd.R_drew)); exact HO_7.out⟩, ⟨by exact bel0 HB.out⟩⟩
                                    rw [if_neg c28] at H; exact absurd H (by simp)
                                  rw [if_neg c27] at H; have c27b0 : decide ((wrap64 ((wrap64 (x8_1 + (Int.tmod (wrap64 ((Int.tmod (rd l0 x9_1) 4) + 4)) 4))) - (rd y211 x14_3))) < 10) = false := decide_eq_false c27; clear c27; have H' := Aside0.mk H; clear H; obtain ⟨Ao32, co32, eo32⟩ := Kd.R_slice HO_6.out
                                  subst eo32
                                  have p217 : 0 ≤ (x14_3 : Int) := of_decide_eq_true (by first | (with_reducible assumption) | assumption); have q217 : x14_3 < (y211.length : Int) := of_decide_eq_true (by first | (with_reducible assumption) | assumption); obtain ⟨ad217, e217, hx217_0⟩ := Kd.at_int (Kd.R_reads' HO_6.out).2.2 x14_3 p217 q217
                                  cases e217
                                  replace p217 := eq_true p217; replace q217 := eq_true q217
                                  go_wp2
                                  go_roundg k3
                                  case measure => have := HK1.out; have := HJ5.out; have := HK3.out; omega
                                  case rel => exact ⟨(x13_3), (wrap64 (x14_3 + 1)), (by first | rfl | (simp; done) | (simp [*]; done)), (by first | rfl | (simp; done) | (simp [*]; done)), H', ⟨by have := HK1.out; have := HJ5.out; have := HK3.out; omega⟩, ⟨by (with_reducible repeat (first | apply Kd.R_alloc | apply Kd.R_drewN | apply Kd.R_drew)); exact HO_5.out⟩, ⟨by (with_reducible repeat (first | apply Kd.R_alloc | apply Kd.R_drewN | apply Kd.R_drew)); exact HO_6.out⟩, ⟨by (with_reducible repeat (first | apply Kd.R_alloc | apply Kd.R_drewN | apply Kd.R_drew)); exact HO_7.out⟩, ⟨by exact bel0 HB.out⟩⟩
                                rw [if_neg c26] at H; exact absurd H (by simp)
                              rw [if_neg c25] at H; have c25b0 : decide (x14_3 < (y211.length : Int)) = false := decide_eq_false c25; clear c25
                              by_cases c33 : 0 < (t206.length : Int)
                              · rw [if_pos c33] at H
                                have c33b0 : decide (0 < (t206.length : Int)) = true := decide_eq_true c33; have c33b1 : decide (0 < t206.length) = true := decide_eq_true (by omega); clear c33
                                by_cases c34 : ((rd_T36 t206 0).f1) = x13_3
                                · rw [if_pos c34] at H
                                  have c34b0 : (((rd_T36 t206 0).f1) == x13_3) = true := beq_iff_eq.mpr c34; have c34b1 : (((rd_T36 t206 0).f1) != x13_3) = false := bne_eq_false_iff_eq.mpr c34; clear c34; have H' := Aside0.mk H; clear H; obtain ⟨Ao35, co35, eo35⟩ := Kd.R_slice HO_6.out
                                  subst eo35
                                  have p219 : 0 ≤ (0 : Int) := (by omega); have q219 : 0 < (t206.length : Int) := of_decide_eq_true (by first | (with_reducible assumption) | assumption); obtain ⟨ad219, e219, hx219_0, hx219_1⟩ := at_T36 (Kd.R_reads' HO_5.out).2.2 0 p219 q219
                                  cases e219
                                  have qi219 : (0 < t206.length) = True := eq_true (by omega)
                                  (try rw [show ((0 : Int)).toNat = 0 from rfl] at hx219_0)
                                  (try rw [show 0 * 2 = 0 from rfl] at hx219_0)
                                  (try rw [Addr.add_zero'] at hx219_0)
                                  (try rw [show ((0 : Int)).toNat = 0 from rfl] at hx219_1)
                                  (try rw [show 0 * 2 = 0 from rfl] at hx219_1)
                                  (try rw [Addr.add_zero'] at hx219_1)
                                  replace p219 := eq_true p219; replace q219 := eq_true q219
                                  go_wp2
                                  go_roundg k3
                                  case measure => have := HK1.out; have := HJ5.out; have := HK3.out; omega
                                  case rel => exact ⟨(t206), (y211), (y214), ((wrap64 (x8_1 + (Int.tmod (wrap64 ((Int.tmod (rd l0 x9_1) 4) + 4)) 4)))), (wrap64 (x9_1 + 1)), (by first | rfl | (simp; done) | (simp [*]; done)), (by first | rfl | (simp; done) | (simp [*]; done)), H', ⟨by have := HK1.out; have := HJ5.out; have := HK3.out; omega⟩, ⟨by (with_reducible repeat (first | apply Kd.R_alloc | apply Kd.R_drewN | apply Kd.R_drew)); exact HO_5.out⟩, ⟨by (with_reducible repeat (first | apply Kd.R_alloc | apply Kd.R_drewN | apply Kd.R_drew)); exact HO_6.out⟩, ⟨by (with_reducible repeat (first | apply Kd.R_alloc | apply Kd.R_drewN | apply Kd.R_drew)); exact HO_7.out⟩, ⟨by exact bel0 HB.out⟩⟩
                                rw [if_neg c34] at H; have c34b0 : (((rd_T36 t206 0).f1) == x13_3) = false := beq_eq_false_iff_ne.mpr c34; have c34b1 : (((rd_T36 t206 0).f1) != x13_3) = true := bne_iff_ne.mpr c34; exact absurd ((Option.some.inj H).trans HRT.out) (by decide)
                              rw [if_neg c33] at H; exact absurd H (by simp)
                        rw [if_neg c19] at H; exact absurd H (by simp)
                      rw [if_neg c18] at H; exact absurd H (by simp)
                    rw [if_neg c15] at H; have c15b0 : (t210 == 0) = false := beq_eq_false_iff_ne.mpr c15; have c15b1 : (t210 != 0) = true := bne_iff_ne.mpr c15; exact absurd ((Option.some.inj H).trans HRT.out) (by decide)
                  rw [if_neg c12] at H; exact absurd H (by simp)
                rw [if_neg c11] at H; exact absurd H (by simp)
              rw [if_neg c10] at H; exact absurd H (by simp)
            replace c9 := Bool.eq_false_iff.mpr c9
            subst c9
            have H1 : (some true) = some r := by rw [if_neg (show ¬ (false = true) by decide)] at H; exact H
            clear H; have H := H1; clear H1; obtain rfl := Option.some.inj H
            go_wp2
            go_ret
            exact ⟨by first | rfl | (simp [errW_none, errW_some] <;> rfl) | (simp [*, errW_none, errW_some] <;> rfl), by exact bel0 HB.out⟩
  replace c4 := Bool.eq_false_iff.mpr c4
  subst c4
  have H1 : (some false) = some r := by rw [if_neg (show ¬ (false = true) by decide)] at H; exact H
  clear H; have H := H1; clear H1; exact absurd ((Option.some.inj H).trans HRT.out) (by decide)

/-- THE ONE PURE STATEMENT of stopcocklaw23_BbrGreatest: yours. -/
def stopcocklaw23_BbrGreatest.Pure : Prop := ∀ (l0 : List Int) (l1 : List Int), l0.length ≤ maxLen → l0.length * 8 ≤ 140737488351232 → (∀ x ∈ l0, (Lit.int .i64 x).wf = true) → l1.length ≤ maxLen → l1.length * 8 ≤ 140737488351232 → (∀ x ∈ l1, (Lit.int .i64 x).wf = true) → ∃ k, stopcocklaw23_BbrGreatest.f k l0 l1 = some true
theorem stopcocklaw23_BbrGreatest.walk (P : stopcocklaw23_BbrGreatest.Pure) (a0 : Option Addr) (len0 cap0 : Nat) (z0 : List Int) (a1 : Option Addr) (len1 cap1 : Nat) (z1 : List Int) (w : World) (w0 : (a0 = none ∧ len0 = 0 ∧ cap0 = 0 ∧ z0 = []) ∨ ∃ x, a0 = some x ∧ len0 ≤ cap0 ∧ cap0 ≤ maxLen ∧ z0.length = cap0 ∧ (∀ i, i < z0.length → w.cell? (x.add i) = some (.int .i64 (z0.getD i 0))) ∧ ∀ n ∈ z0, (Lit.int .i64 n).wf = true) (y0 : len0 * 8 ≤ 140737488351232) (w1 : (a1 = none ∧ len1 = 0 ∧ cap1 = 0 ∧ z1 = []) ∨ ∃ x, a1 = some x ∧ len1 ≤ cap1 ∧ cap1 ≤ maxLen ∧ z1.length = cap1 ∧ (∀ i, i < z1.length → w.cell? (x.add i) = some (.int .i64 (z1.getD i 0))) ∧ ∀ n ∈ z1, (Lit.int .i64 n).wf = true) (y1 : len1 * 8 ≤ 140737488351232) :
    Calls Try.prog 4 #[.slice a0 len0 cap0, .slice a1 len1 cap1] w fun e w' => e = .returned (.bool true) ∧ Below w.heap.size w w' := by
  obtain ⟨l0, rfl, hr0, hm0, hw0, hc0⟩ := ReadsInt.ofRowC w0; obtain ⟨l1, rfl, hr1, hm1, hw1, hc1⟩ := ReadsInt.ofRowC w1; obtain ⟨k, h⟩ := P l0 l1 hm0 y0 hw0 hm1 y1 hw1; refine (stopcocklaw23_BbrGreatest.calls k _ _ l0 _ _ l1 true w (Kd.C_of_reads (d := (0 : Int)) (h1 := fun _ => rfl) hr0) hc0 (Kd.C_of_reads (d := (0 : Int)) (h1 := fun _ => rfl) hr1) hc1 h rfl).mono ?_
  rintro e w' ⟨rfl, hd⟩
  exact ⟨rfl, hd⟩

end Go.Proofs.Ytodlibmnmjopbaa.PA
