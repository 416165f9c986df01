-- Written by a program of this session (wip/tools/mkprint.py, mp.sh) for this claim.
import Derived.Test.YthgihjahpjggoaaPCx0
namespace Go.Proofs.Ythgihjahpjggoaa.PC
open Go.RowKit Go.Proofs.YthgihjahpjggoaaW.PrintWords Go.Proofs.YthgihjahpjggoaaW.PrintLast Go.Proofs.YthgihjahpjggoaaW.PrintMore
attribute [local go_sem] max2_int min2_int max_two min_two max_three min_three max_four min_four   -- for this text's walks alone
set_option linter.unusedVariables false
set_option linter.unusedSimpArgs false

/-! ### prr_all: function 20 -/
mutual
def prr_all.l0 : Nat → List (S59) → Int → Int → Option (Bool)
  | 0, _, _, _ => none
  | k + 1, x7, x8, x9 => if x9 < x8 then (if 0 ≤ x9 then (if x9 < (x7.length : Int) then (prr_all.l1 k x7 x8 x9 ((rd_T59 x7 x9).f2) (((rd_T59 x7 x9).f2).length : Int) 0 ((rd_T59 x7 x9).f0) ((rd_T59 x7 x9).f1) ((rd_T59 x7 x9).f2)) else (none)) else (none)) else (some true)
def prr_all.l1 : Nat → List (S59) → Int → Int → List Int → Int → Int → Int → Int → List Int → Option (Bool)
  | 0, _, _, _, _, _, _, _, _, _ => none
  | k + 1, x7, x8, x9, x14, x15, x16, x103000, x103001, x103002 => if x16 < x15 then (if 0 ≤ x16 then (if x16 < (x14.length : Int) then (if (rd x14 x16) < x103000 then (some false) else (if (rd x14 x16) > x103001 then (some false) else (prr_all.l1 k x7 x8 x9 x14 x15 (wrap64 (x16 + 1)) x103000 x103001 x103002))) else (none)) else (none)) else (prr_all.l0 k x7 x8 (wrap64 (x9 + 1)))
end
def prr_all.f (k : Nat) (l0 : List (S59)) : Option (Bool) := prr_all.l0 k l0 (l0.length : Int) 0
theorem prr_all.mono_l : ∀ k, (∀ y0 y1 y2, LeO (prr_all.l0 k y0 y1 y2) (prr_all.l0 (k + 1) y0 y1 y2)) ∧ (∀ y0 y1 y2 y3 y4 y5 y6 y7 y8, LeO (prr_all.l1 k y0 y1 y2 y3 y4 y5 y6 y7 y8) (prr_all.l1 (k + 1) y0 y1 y2 y3 y4 y5 y6 y7 y8))
  | 0 => ⟨fun _ _ _ r h => by simp [prr_all.l0] at h, fun _ _ _ _ _ _ _ _ _ r h => by simp [prr_all.l1] at h⟩
  | k + 1 => by
    obtain ⟨ih0, ih1⟩ := prr_all.mono_l k; refine ⟨?_, ?_⟩
    · intro y0 y1 y2
      unfold prr_all.l0
      repeat' first
      | (with_reducible exact ih0 _ _ _)
      | (with_reducible exact ih1 _ _ _ _ _ _ _ _ _)
      | (with_reducible exact LeO.refl _)
      | (with_reducible exact LeO.none _)
      | (with_reducible refine LeO.ite ?_ ?_)
      | (with_reducible refine LeO.bind ?_ (fun _ => ?_))
      | exact ih0 _ _ _
      | exact ih1 _ _ _ _ _ _ _ _ _
      | exact LeO.none _
      | refine LeO.ite ?_ ?_
      | refine LeO.bind ?_ (fun _ => ?_)
    · intro y0 y1 y2 y3 y4 y5 y6 y7 y8
      unfold prr_all.l1
      repeat' first
      | (with_reducible exact ih0 _ _ _)
      | (with_reducible exact ih1 _ _ _ _ _ _ _ _ _)
      | (with_reducible exact LeO.refl _)
      | (with_reducible exact LeO.none _)
      | (with_reducible refine LeO.ite ?_ ?_)
      | (with_reducible refine LeO.bind ?_ (fun _ => ?_))
      | exact ih0 _ _ _
      | exact ih1 _ _ _ _ _ _ _ _ _
      | exact LeO.none _
      | refine LeO.ite ?_ ?_
      | refine LeO.bind ?_ (fun _ => ?_)
theorem prr_all.mono : ∀ a0 k, LeO (prr_all.f k a0) (prr_all.f (k + 1) a0) := by
  intro a0 k; obtain ⟨ih0, ih1⟩ := prr_all.mono_l k
  unfold prr_all.f
  repeat' first
      | (with_reducible exact ih0 _ _ _)
      | (with_reducible exact ih1 _ _ _ _ _ _ _ _ _)
      | (with_reducible exact LeO.refl _)
      | (with_reducible exact LeO.none _)
      | (with_reducible refine LeO.ite ?_ ?_)
      | (with_reducible refine LeO.bind ?_ (fun _ => ?_))
      | exact ih0 _ _ _
      | exact ih1 _ _ _ _ _ _ _ _ _
      | exact LeO.none _
      | refine LeO.ite ?_ ?_
      | refine LeO.bind ?_ (fun _ => ?_)
set_option maxHeartbeats 8000000 in
set_option maxRecDepth 100000 in
theorem prr_all.calls (k : Nat) (A0 : Option Addr) (c0 : Nat) (l0 : List (S59)) (r : Bool) (w : World) (hr0 : Kd.C k59 w A0 l0.length l0) (hc0 : l0.length ≤ c0) (h : prr_all.f k l0 = some r) :
    Calls Try.prog 20 #[.slice A0 l0.length c0] w fun e w' => e = .returned (.bool r) ∧ Below w.heap.size w w' := by
  have hu59 := Try.underlying59; have HR0 := Aside0.mk hr0; have HC0 := Aside0.mk hc0; clear hr0 hc0; have HB := Aside0.mk (Below.refl w.heap.size w); have H : (prr_all.l0 k l0 (l0.length : Int) 0) = some r := h; clear h; have H' := Aside0.mk H; clear H
  go_enter Try.func20, Try.ntmps20
  go_wp2
  go_loopg [9] k (fun kq v9 w' => ∃ (x9_1 : Int), v9 = .int .i64 x9_1 ∧ Aside0 (prr_all.l0 kq l0 (l0.length : Int) x9_1 = some r) ∧ Aside0 (kq ≤ k) ∧ Aside0 (Below w.heap.size w w'))
  case atStart => exact ⟨(0), (by first | rfl | (simp; done) | (simp [*]; done)), H', ⟨Nat.le_refl _⟩, ⟨by exact bel0 HB.out⟩⟩
  case round =>
    clear H'; obtain ⟨x9_1, rfl, HA, HK1, HB⟩ := hrel
    cases gk with
    | zero => exact absurd HA.out (by simp [prr_all.l0])
    | succ k1 =>
      have H := HA.out; clear HA
      simp only [prr_all.l0] at H
      by_cases c2 : x9_1 < (l0.length : Int)
      · rw [if_pos c2] at H
        have c2b0 : decide (x9_1 < (l0.length : Int)) = true := decide_eq_true c2; clear c2
        by_cases c3 : 0 ≤ x9_1
        · rw [if_pos c3] at H
          have c3b0 : decide (0 ≤ x9_1) = true := decide_eq_true c3; clear c3
          by_cases c4 : x9_1 < (l0.length : Int)
          · rw [if_pos c4] at H
            have c4b0 : decide (x9_1 < (l0.length : Int)) = true := decide_eq_true c4; clear c4; have H' := Aside0.mk H; clear H; have p101 : 0 ≤ (x9_1 : Int) := of_decide_eq_true (by first | (with_reducible assumption) | assumption); have q101 : x9_1 < (l0.length : Int) := of_decide_eq_true (by first | (with_reducible assumption) | assumption); obtain ⟨ad101, A101_2, c101_2, e101, hx101_0, hx101_1, hx101_2, hl101_2, hi101_2⟩ := at_T59 HR0.out x9_1 p101 q101
            cases e101
            replace hx101_0 := (HB.out.cell (World.block_lt_of_cell? w _ hx101_0)).trans hx101_0; replace hx101_1 := (HB.out.cell (World.block_lt_of_cell? w _ hx101_1)).trans hx101_1; replace hx101_2 := (HB.out.cell (World.block_lt_of_cell? w _ hx101_2)).trans hx101_2; have HR101_2 := Aside0.mk hi101_2; have HC101_2 := Aside0.mk hl101_2; clear hi101_2 hl101_2; replace p101 := eq_true p101; replace q101 := eq_true q101
            go_wp2_with (first | ((with_reducible refine gate_dst (N := 4) rfl ?_); refine box_event ?hg (N := 4) ?hd (cs := #[.int .i64 0, .int .i64 0, .slice none 0 0]) (t := 59) ?hr ?_; (case hd => rfl); (case hg => rfl); (case hr => first | (go_simp; done) | (go_simp; rfl)); intro gb102 hg w5 hbox hb; have n0_ := Aside0.mk (below_step (bel0 HB.out) hb); have n1_ := Aside0.mk (hbox); have n2_ := Aside0.mk ((by rw [hg]; exact (below_size (bel0 HB.out)) : w.heap.size ≤ gb102)); have n3_ := n2_; clear HB; have HB := n0_; have BK102 := n1_; have GW102 := n2_; have GE102 := n3_; clear n0_ n1_ n2_ n3_; clear hb hbox hg; obtain ⟨hcz6_0, hcz6_1, hcz6_2⟩ := cz3 BK102.out; have hfz6_0 := blk_frozen BK102.out))
            go_loopg [16] k1 (fun kq v16 w' => ∃ (x16_2 : Int), v16 = .int .i64 x16_2 ∧ Aside0 (prr_all.l1 kq l0 (l0.length : Int) x9_1 ((rd_T59 l0 x9_1).f2) (((rd_T59 l0 x9_1).f2).length : Int) x16_2 ((rd_T59 l0 x9_1).f0) ((rd_T59 l0 x9_1).f1) ((rd_T59 l0 x9_1).f2) = some r) ∧ Aside0 (kq ≤ k1) ∧ Aside0 (w'.heap[gb102]? = some (.cells #[.int .i64 ((rd_T59 l0 x9_1).f0), .int .i64 ((rd_T59 l0 x9_1).f1), (.slice A101_2 ((rd_T59 l0 x9_1).f2).length c101_2)] 59 (0, 0))) ∧ Aside0 (Below w.heap.size w w'))
            case atStart => exact ⟨(0), (by first | rfl | (simp; done) | (simp [*]; done)), H', ⟨Nat.le_refl _⟩, ⟨by exact put_ BK102.out rfl⟩, ⟨by exact bel1 HB.out GE102.out⟩⟩
            case round =>
              clear H'
              try clear c1
              try clear p1
              try clear q1
              try clear hx1
              try clear c2
              try clear c2b0
              try clear p2
              try clear c3
              try clear c3b0
              try clear c4
              try clear c4b0
              try clear hcz6_0
              try clear hcz6_1
              try clear hcz6_2
              try clear hfz6_0
              try clear hfz6_1
              try clear hfz6_2
              try clear hx101_0
              try clear hx101_1
              try clear hx101_2
              try clear p101
              try clear q101
              obtain ⟨x16_2, rfl, HA, HK2, BK102, HB⟩ := hrel
              cases gk with
              | zero => exact absurd HA.out (by simp [prr_all.l1])
              | succ k2 =>
                have H := HA.out; clear HA
                simp only [prr_all.l1] at H
                by_cases c7 : x16_2 < (((rd_T59 l0 x9_1).f2).length : Int)
                · rw [if_pos c7] at H
                  have c7b0 : decide (x16_2 < (((rd_T59 l0 x9_1).f2).length : Int)) = true := decide_eq_true c7; clear c7
                  by_cases c8 : 0 ≤ x16_2
                  · rw [if_pos c8] at H
                    have c8b0 : decide (0 ≤ x16_2) = true := decide_eq_true c8; clear c8
                    by_cases c9 : x16_2 < (((rd_T59 l0 x9_1).f2).length : Int)
                    · rw [if_pos c9] at H
                      have c9b0 : decide (x16_2 < (((rd_T59 l0 x9_1).f2).length : Int)) = true := decide_eq_true c9; clear c9
                      by_cases c10 : (rd ((rd_T59 l0 x9_1).f2) x16_2) < ((rd_T59 l0 x9_1).f0)
                      · rw [if_pos c10] at H
                        have c10b0 : decide ((rd ((rd_T59 l0 x9_1).f2) x16_2) < ((rd_T59 l0 x9_1).f0)) = true := decide_eq_true c10; clear c10; obtain rfl := Option.some.inj H; have p103 : 0 ≤ (x16_2 : Int) := of_decide_eq_true (by first | (with_reducible assumption) | assumption); have q103 : x16_2 < (((rd_T59 l0 x9_1).f2).length : Int) := of_decide_eq_true (by first | (with_reducible assumption) | assumption); obtain ⟨ad103, e103, hx103_0⟩ := Kd.at_int HR101_2.out x16_2 p103 q103
                        cases e103
                        replace hx103_0 := (HB.out.cell (World.block_lt_of_cell? w _ hx103_0)).trans hx103_0; replace p103 := eq_true p103; replace q103 := eq_true q103; obtain ⟨hcz11_0, hcz11_1, hcz11_2⟩ := cz3 BK102.out; have hfz11_0 := blk_frozen BK102.out
                        go_wp2
                        go_ret
                        exact ⟨by first | rfl | (simp [errW_none, errW_some] <;> rfl) | (simp [*, errW_none, errW_some] <;> rfl), by exact bel1 HB.out GE102.out⟩
                      rw [if_neg c10] at H; have c10b0 : decide ((rd ((rd_T59 l0 x9_1).f2) x16_2) < ((rd_T59 l0 x9_1).f0)) = false := decide_eq_false c10; clear c10
                      by_cases c12 : (rd ((rd_T59 l0 x9_1).f2) x16_2) > ((rd_T59 l0 x9_1).f1)
                      · rw [if_pos c12] at H
                        have c12b0 : decide (((rd_T59 l0 x9_1).f1) < (rd ((rd_T59 l0 x9_1).f2) x16_2)) = true := decide_eq_true c12; clear c12; obtain rfl := Option.some.inj H; have p103 : 0 ≤ (x16_2 : Int) := of_decide_eq_true (by first | (with_reducible assumption) | assumption); have q103 : x16_2 < (((rd_T59 l0 x9_1).f2).length : Int) := of_decide_eq_true (by first | (with_reducible assumption) | assumption); obtain ⟨ad103, e103, hx103_0⟩ := Kd.at_int HR101_2.out x16_2 p103 q103
                        cases e103
                        replace hx103_0 := (HB.out.cell (World.block_lt_of_cell? w _ hx103_0)).trans hx103_0; replace p103 := eq_true p103; replace q103 := eq_true q103; obtain ⟨hcz13_0, hcz13_1, hcz13_2⟩ := cz3 BK102.out; have hfz13_0 := blk_frozen BK102.out
                        go_wp2
                        go_ret
                        exact ⟨by first | rfl | (simp [errW_none, errW_some] <;> rfl) | (simp [*, errW_none, errW_some] <;> rfl), by exact bel1 HB.out GE102.out⟩
                      rw [if_neg c12] at H; have c12b0 : decide (((rd_T59 l0 x9_1).f1) < (rd ((rd_T59 l0 x9_1).f2) x16_2)) = false := decide_eq_false c12; clear c12; have H' := Aside0.mk H; clear H; have p103 : 0 ≤ (x16_2 : Int) := of_decide_eq_true (by first | (with_reducible assumption) | assumption); have q103 : x16_2 < (((rd_T59 l0 x9_1).f2).length : Int) := of_decide_eq_true (by first | (with_reducible assumption) | assumption); obtain ⟨ad103, e103, hx103_0⟩ := Kd.at_int HR101_2.out x16_2 p103 q103
                      cases e103
                      replace hx103_0 := (HB.out.cell (World.block_lt_of_cell? w _ hx103_0)).trans hx103_0; replace p103 := eq_true p103; replace q103 := eq_true q103; obtain ⟨hcz14_0, hcz14_1, hcz14_2⟩ := cz3 BK102.out; have hfz14_0 := blk_frozen BK102.out
                      go_wp2
                      go_roundg k2
                      case measure => have := HK1.out; have := HK2.out; omega
                      case rel => exact ⟨(wrap64 (x16_2 + 1)), (by first | rfl | (simp; done) | (simp [*]; done)), H', ⟨by have := HK1.out; have := HK2.out; omega⟩, ⟨by exact skp_ BK102.out⟩, ⟨by exact bel1 HB.out GE102.out⟩⟩
                    rw [if_neg c9] at H; exact absurd H (by simp)
                  rw [if_neg c8] at H; exact absurd H (by simp)
                rw [if_neg c7] at H; have c7b0 : decide (x16_2 < (((rd_T59 l0 x9_1).f2).length : Int)) = false := decide_eq_false c7; clear c7; have H' := Aside0.mk H; clear H
                go_wp2
                go_roundg k2
                case measure => have := HK1.out; have := HK2.out; omega
                case rel => exact ⟨(wrap64 (x9_1 + 1)), (by first | rfl | (simp; done) | (simp [*]; done)), H', ⟨by have := HK1.out; have := HK2.out; omega⟩, ⟨by exact bel1 HB.out GE102.out⟩⟩
          rw [if_neg c4] at H; exact absurd H (by simp)
        rw [if_neg c3] at H; exact absurd H (by simp)
      rw [if_neg c2] at H; have c2b0 : decide (x9_1 < (l0.length : Int)) = false := decide_eq_false c2; clear c2; obtain rfl := Option.some.inj H
      go_wp2
      go_ret
      exact ⟨by first | rfl | (simp [errW_none, errW_some] <;> rfl) | (simp [*, errW_none, errW_some] <;> rfl), by exact bel0 HB.out⟩

end Go.Proofs.Ythgihjahpjggoaa.PC
