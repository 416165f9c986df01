-- Written by a program of this session (wip/tools/mkprint.py, mp.sh) for this claim.
import Derived.Test.YtgibiffjkmmeeaaPCx0
import Derived.Test.YtgibiffjkmmeeaaPCx2
import Derived.Test.YtgibiffjkmmeeaaPCx3
namespace Go.Proofs.Ytgibiffjkmmeeaa.PC
open Go.RowKit Go.Proofs.YtgibiffjkmmeeaaW.PrintWords Go.Proofs.YtgibiffjkmmeeaaW.PrintLast Go.Proofs.YtgibiffjkmmeeaaW.PrintMore
attribute [local go_sem] max2_int min2_int max_two min_two max_three min_three max_four min_four   -- for this text's walks alone
set_option linter.unusedVariables false
set_option linter.unusedSimpArgs false

/-! ### stopcocklaw22_rounds: function 11 -/
mutual
def stopcocklaw22_rounds.l0 : Nat → List Int → Int → Int → Bool → Bool → Int → Int → Int → Int → Int → Option (Int × Bool × Bool × Int × Int × Int × Int × Int)
  | 0, _, _, _, _, _, _, _, _, _, _ => none
  | k + 1, x0, x4, x110000, x110001, x110002, x110003, x110004, x110005, x110006, x110007 => if x4 < (x0.length : Int) then ((hystart_Round.f x110000 x110001 x110002 x110003 x110004 x110005 x110006 x110007).bind fun bt110 => (stopcocklaw22_rounds.l1 k x0 x4 0 bt110.1 bt110.2.1 bt110.2.2.1 bt110.2.2.2.1 bt110.2.2.2.2.1 bt110.2.2.2.2.2.1 bt110.2.2.2.2.2.2.1 bt110.2.2.2.2.2.2.2.1)) else (some (x110000, x110001, x110002, x110003, x110004, x110005, x110006, x110007))
def stopcocklaw22_rounds.l1 : Nat → List Int → Int → Int → Int → Bool → Bool → Int → Int → Int → Int → Int → Option (Int × Bool × Bool × Int × Int × Int × Int × Int)
  | 0, _, _, _, _, _, _, _, _, _, _, _ => none
  | k + 1, x0, x4, x5, x110000, x110001, x110002, x110003, x110004, x110005, x110006, x110007 => if x5 < 8 then (if 0 ≤ x4 then (if x4 < (x0.length : Int) then ((hystart_Sample.f k x110000 x110001 x110002 x110003 x110004 x110005 x110006 x110007 (rd x0 x4)).bind fun bt120 => (stopcocklaw22_rounds.l1 k x0 x4 (wrap64 (x5 + 1)) bt120.1 bt120.2.1 bt120.2.2.1 bt120.2.2.2.1 bt120.2.2.2.2.1 bt120.2.2.2.2.2.1 bt120.2.2.2.2.2.2.1 bt120.2.2.2.2.2.2.2.1)) else (none)) else (none)) else (stopcocklaw22_rounds.l0 k x0 (wrap64 (x4 + 1)) x110000 x110001 x110002 x110003 x110004 x110005 x110006 x110007)
end
def stopcocklaw22_rounds.f (k : Nat) (l0 : List Int) : Option (Int × Bool × Bool × Int × Int × Int × Int × Int) := stopcocklaw22_rounds.l0 k l0 0 0 false false 0 0 0 0 0
theorem stopcocklaw22_rounds.mono_l : ∀ k, (∀ y0 y1 y2 y3 y4 y5 y6 y7 y8 y9, LeO (stopcocklaw22_rounds.l0 k y0 y1 y2 y3 y4 y5 y6 y7 y8 y9) (stopcocklaw22_rounds.l0 (k + 1) y0 y1 y2 y3 y4 y5 y6 y7 y8 y9)) ∧ (∀ y0 y1 y2 y3 y4 y5 y6 y7 y8 y9 y10, LeO (stopcocklaw22_rounds.l1 k y0 y1 y2 y3 y4 y5 y6 y7 y8 y9 y10) (stopcocklaw22_rounds.l1 (k + 1) y0 y1 y2 y3 y4 y5 y6 y7 y8 y9 y10))
  | 0 => ⟨fun _ _ _ _ _ _ _ _ _ _ r h => by simp [stopcocklaw22_rounds.l0] at h, fun _ _ _ _ _ _ _ _ _ _ _ r h => by simp [stopcocklaw22_rounds.l1] at h⟩
  | k + 1 => by
    obtain ⟨ih0, ih1⟩ := stopcocklaw22_rounds.mono_l k; refine ⟨?_, ?_⟩
    · intro y0 y1 y2 y3 y4 y5 y6 y7 y8 y9
      unfold stopcocklaw22_rounds.l0
      repeat' first
      | (with_reducible exact ih0 _ _ _ _ _ _ _ _ _ _)
      | (with_reducible exact ih1 _ _ _ _ _ _ _ _ _ _ _)
      | (with_reducible exact hystart_Sample.mono _ _ _ _ _ _ _ _ _ _)
      | (with_reducible exact LeO.refl _)
      | (with_reducible exact LeO.none _)
      | (with_reducible refine LeO.ite ?_ ?_)
      | (with_reducible refine LeO.bind ?_ (fun _ => ?_))
      | exact ih0 _ _ _ _ _ _ _ _ _ _
      | exact ih1 _ _ _ _ _ _ _ _ _ _ _
      | exact hystart_Sample.mono _ _ _ _ _ _ _ _ _ _
      | exact LeO.none _
      | refine LeO.ite ?_ ?_
      | refine LeO.bind ?_ (fun _ => ?_)
    · intro y0 y1 y2 y3 y4 y5 y6 y7 y8 y9 y10
      unfold stopcocklaw22_rounds.l1
      repeat' first
      | (with_reducible exact ih0 _ _ _ _ _ _ _ _ _ _)
      | (with_reducible exact ih1 _ _ _ _ _ _ _ _ _ _ _)
      | (with_reducible exact hystart_Sample.mono _ _ _ _ _ _ _ _ _ _)
      | (with_reducible exact LeO.refl _)
      | (with_reducible exact LeO.none _)
      | (with_reducible refine LeO.ite ?_ ?_)
      | (with_reducible refine LeO.bind ?_ (fun _ => ?_))
      | exact ih0 _ _ _ _ _ _ _ _ _ _
      | exact ih1 _ _ _ _ _ _ _ _ _ _ _
      | exact hystart_Sample.mono _ _ _ _ _ _ _ _ _ _
      | exact LeO.none _
      | refine LeO.ite ?_ ?_
      | refine LeO.bind ?_ (fun _ => ?_)
theorem stopcocklaw22_rounds.mono : ∀ a0 k, LeO (stopcocklaw22_rounds.f k a0) (stopcocklaw22_rounds.f (k + 1) a0) := by
  intro a0 k; obtain ⟨ih0, ih1⟩ := stopcocklaw22_rounds.mono_l k
  unfold stopcocklaw22_rounds.f
  repeat' first
      | (with_reducible exact ih0 _ _ _ _ _ _ _ _ _ _)
      | (with_reducible exact ih1 _ _ _ _ _ _ _ _ _ _ _)
      | (with_reducible exact hystart_Sample.mono _ _ _ _ _ _ _ _ _ _)
      | (with_reducible exact LeO.refl _)
      | (with_reducible exact LeO.none _)
      | (with_reducible refine LeO.ite ?_ ?_)
      | (with_reducible refine LeO.bind ?_ (fun _ => ?_))
      | exact ih0 _ _ _ _ _ _ _ _ _ _
      | exact ih1 _ _ _ _ _ _ _ _ _ _ _
      | exact hystart_Sample.mono _ _ _ _ _ _ _ _ _ _
      | exact LeO.none _
      | refine LeO.ite ?_ ?_
      | refine LeO.bind ?_ (fun _ => ?_)
def stopcocklaw22_rounds.T9 : Bool × List (List Nat × List Nat) := (true, [([], []), ([], []), ([], []), ([1, 2], [1, 2]), ([3], [3]), ([0, 4], [0, 4]), ([5], [5]), ([6], [6]), ([6], [6]), ([7, 5, 0, 1, 2, 3, 4, 5, 6, 7], [7])])
def stopcocklaw22_rounds.B9 : List Nat := [0, 0, 0, 6, 14, 31, 63, 127, 127, 255]
theorem stopcocklaw22_rounds.tab9 : rtab .any (opsOf Try.f11 9) = stopcocklaw22_rounds.T9 := by kernel_rfl
theorem stopcocklaw22_rounds.bits9 : waitsOk stopcocklaw22_rounds.T9.2 stopcocklaw22_rounds.B9 = true := by kernel_rfl
set_option maxHeartbeats 8000000 in
set_option maxRecDepth 100000 in
theorem stopcocklaw22_rounds.calls (k : Nat) (A0 : Option Addr) (c0 : Nat) (l0 : List Int) (r1 : Int) (r2 : Bool) (r3 : Bool) (r4 : Int) (r5 : Int) (r6 : Int) (r7 : Int) (r8 : Int) (w : World) (hr0 : Kd.C (Kd.int .i64) w A0 l0.length l0) (hc0 : l0.length ≤ c0) (h : stopcocklaw22_rounds.f k l0 = some (r1, r2, r3, r4, r5, r6, r7, r8)) :
    Calls Try.prog 11 #[.slice A0 l0.length c0] w fun e w' => e = .returned (.agg #[.int .i64 r1, .bool r2, .bool r3, .int .i64 r4, .int .i64 r5, .int .i64 r6, .int .i64 r7, .int .i64 r8]) ∧ Below w.heap.size w w' := by
  have hu25 := Try.underlying25; have HR0 := Aside0.mk hr0; have HC0 := Aside0.mk hc0; clear hr0 hc0; have HB := Aside0.mk (Below.refl w.heap.size w); have H : (stopcocklaw22_rounds.l0 k l0 0 0 false false 0 0 0 0 0) = some (r1, r2, r3, r4, r5, r6, r7, r8) := h; clear h; have H' := Aside0.mk H; clear H
  go_enter Try.func11, Try.ntmps11
  go_wp2_with (first | ((with_reducible refine gate_dst (N := 2) rfl ?_); refine box_event ?hg (N := 2) ?hd (cs := #[.int .i64 0, .bool false, .bool false, .int .i64 0, .int .i64 0, .int .i64 0, .int .i64 0, .int .i64 0]) (t := 25) ?hr ?_; (case hd => rfl); (case hg => rfl); (case hr => first | (go_simp; done) | (go_simp; rfl)); intro gb108 hg w2 hbox hb; have n0_ := Aside0.mk (below_step (bel0 HB.out) hb); have n1_ := Aside0.mk (hbox); have n2_ := Aside0.mk ((by rw [hg]; exact (below_size (bel0 HB.out)) : w.heap.size ≤ gb108)); have n3_ := n2_; clear HB; have HB := n0_; have BK108 := n1_; have GW108 := n2_; have GE108 := n3_; clear n0_ n1_ n2_ n3_; clear hb hbox hg) | ((with_reducible refine gate_dst (N := 3) rfl ?_); refine box_event ?hg (N := 3) ?hd (cs := #[.int .i64 0, .bool false, .bool false, .int .i64 0, .int .i64 0, .int .i64 0, .int .i64 0, .int .i64 0]) (t := 25) ?hr ?_; (case hd => rfl); (case hg => rfl); (case hr => first | (go_simp; done) | (go_simp; rfl)); intro gb109 hg w3 hbox hb; have n0_ := Aside0.mk (blk_below (g := gb108) (o := .cells #[.int .i64 0, .bool false, .bool false, .int .i64 0, .int .i64 0, .int .i64 0, .int .i64 0, .int .i64 0] 25 (0, 0)) (skp_ BK108.out) hb); have n1_ := Aside0.mk (below_step (bel1 HB.out GE108.out) hb); have n2_ := Aside0.mk (hbox); have n3_ := Aside0.mk ((by rw [hg]; exact (below_size (bel1 HB.out GE108.out)) : w.heap.size ≤ gb109)); have n4_ := n3_; have n5_ := Aside0.mk ((by rw [hg]; exact Nat.ne_of_lt (blk_lt (skp_ BK108.out)) : gb108 ≠ gb109)); have n6_ := Aside0.mk ((by rw [hg]; exact Nat.ne_of_gt (blk_lt (skp_ BK108.out)) : gb109 ≠ gb108)); clear BK108; clear HB; have BK108 := n0_; have HB := n1_; have BK109 := n2_; have GW109 := n3_; have GE109 := n4_; have NB108_109 := n5_; have NB109_108 := n6_; clear n0_ n1_ n2_ n3_ n4_ n5_ n6_; clear hb hbox hg))
  go_loopg [4] k (fun kq v4 w' => ∃ (x4_1 : Int) (x110000_1 : Int) (x110001_1 : Bool) (x110002_1 : Bool) (x110003_1 : Int) (x110004_1 : Int) (x110005_1 : Int) (x110006_1 : Int) (x110007_1 : Int), v4 = .int .i64 x4_1 ∧ Aside0 (stopcocklaw22_rounds.l0 kq l0 x4_1 x110000_1 x110001_1 x110002_1 x110003_1 x110004_1 x110005_1 x110006_1 x110007_1 = some (r1, r2, r3, r4, r5, r6, r7, r8)) ∧ Aside0 (kq ≤ k) ∧ Aside0 (w'.heap[gb108]? = some (.cells #[.int .i64 0, .bool false, .bool false, .int .i64 0, .int .i64 0, .int .i64 0, .int .i64 0, .int .i64 0] 25 (0, 0))) ∧ Aside0 (w'.heap[gb109]? = some (.cells #[.int .i64 x110000_1, .bool x110001_1, .bool x110002_1, .int .i64 x110003_1, .int .i64 x110004_1, .int .i64 x110005_1, .int .i64 x110006_1, .int .i64 x110007_1] 25 (0, 0))) ∧ Aside0 (Below w.heap.size w w'))
  case atStart => exact ⟨(0), (0), (false), (false), (0), (0), (0), (0), (0), (by first | rfl | (simp; done) | (simp [*]; done)), H', ⟨Nat.le_refl _⟩, ⟨by exact skp_ BK108.out⟩, ⟨by exact skp_ BK109.out⟩, ⟨by exact bel2 HB.out GE108.out GE109.out⟩⟩
  case round =>
    clear H'
    try clear c1
    try clear p2
    obtain ⟨x4_1, x110000_1, x110001_1, x110002_1, x110003_1, x110004_1, x110005_1, x110006_1, x110007_1, rfl, HA, HK1, BK108, BK109, HB⟩ := hrel
    cases gk with
    | zero => exact absurd HA.out (by simp [stopcocklaw22_rounds.l0])
    | succ k1 =>
      have H := HA.out; clear HA
      simp only [stopcocklaw22_rounds.l0] at H
      by_cases c4 : x4_1 < (l0.length : Int)
      · rw [if_pos c4] at H
        have c4b0 : decide (x4_1 < (l0.length : Int)) = true := decide_eq_true c4; clear c4; replace H := Option.bind_eq_some_iff.mp H; obtain ⟨⟨t110, t111, t112, t113, t114, t115, t116, t117, t118⟩, A50, H⟩ := H; replace H : (stopcocklaw22_rounds.l1 k1 l0 x4_1 0 t110 t111 t112 t113 t114 t115 t116 t117) = some (r1, r2, r3, r4, r5, r6, r7, r8) := H; have A5 := Aside0.mk A50; clear A50; have H' := Aside0.mk H; clear H; have hnb6 := NB109_108.out; have hnc6 := NB108_109.out; obtain ⟨hcz7_0, hcz7_1, hcz7_2, hcz7_3, hcz7_4, hcz7_5, hcz7_6, hcz7_7⟩ := cz8 BK109.out; have hfz7_0 := blk_frozen BK109.out
        go_wp2_with (first | ((with_reducible refine gate_callee (f := 8) rfl ?_); refine goesL_ (some 14) rfl rfl Try.func8 (by kernel_rfl) rfl #[.agg #[.int .i64 x110000_1, .bool x110001_1, .bool x110002_1, .int .i64 x110003_1, .int .i64 x110004_1, .int .i64 x110005_1, .int .i64 x110006_1, .int .i64 x110007_1]] rfl (by (try simp only [List.map_toArray, List.map_cons, List.map_nil]); first | done | rfl | (simp only [List.length_drop, List.length_take]; rfl)) ?_; (with_reducible refine (hystart_Round.calls x110000_1 x110001_1 x110002_1 x110003_1 x110004_1 x110005_1 x110006_1 x110007_1 t110 t111 t112 t113 t114 t115 t116 t117 t118 _ A5.out).mono ?_); rintro e w8 ⟨rfl, hb⟩; refine ⟨_, rfl, ?_⟩; have n0_ := Aside0.mk (blk_below (g := gb108) (o := .cells #[.int .i64 0, .bool false, .bool false, .int .i64 0, .int .i64 0, .int .i64 0, .int .i64 0, .int .i64 0] 25 (0, 0)) (skp_ BK108.out) hb); have n1_ := Aside0.mk (blk_below (g := gb109) (o := .cells #[.int .i64 x110000_1, .bool x110001_1, .bool x110002_1, .int .i64 x110003_1, .int .i64 x110004_1, .int .i64 x110005_1, .int .i64 x110006_1, .int .i64 x110007_1] 25 (0, 0)) (skp_ BK109.out) hb); have n2_ := Aside0.mk (below_step (bel2 HB.out GE108.out GE109.out) hb); clear BK108; clear BK109; clear HB; have BK108 := n0_; have BK109 := n1_; have HB := n2_; clear n0_ n1_ n2_; (try clear hb); (try clear hb2); (try clear hk); (try clear hi); obtain ⟨hcz9_0, hcz9_1, hcz9_2, hcz9_3, hcz9_4, hcz9_5, hcz9_6, hcz9_7⟩ := cz8 BK109.out; have hfz9_0 := blk_frozen BK109.out))
        go_loopg [5] k1 (fun kq v5 w' => ∃ (x5_2 : Int) (x110000_2 : Int) (x110001_2 : Bool) (x110002_2 : Bool) (x110003_2 : Int) (x110004_2 : Int) (x110005_2 : Int) (x110006_2 : Int) (x110007_2 : Int), v5 = .int .i64 x5_2 ∧ Aside0 (stopcocklaw22_rounds.l1 kq l0 x4_1 x5_2 x110000_2 x110001_2 x110002_2 x110003_2 x110004_2 x110005_2 x110006_2 x110007_2 = some (r1, r2, r3, r4, r5, r6, r7, r8)) ∧ Aside0 (kq ≤ k1) ∧ Aside0 (w'.heap[gb108]? = some (.cells #[.int .i64 0, .bool false, .bool false, .int .i64 0, .int .i64 0, .int .i64 0, .int .i64 0, .int .i64 0] 25 (0, 0))) ∧ Aside0 (w'.heap[gb109]? = some (.cells #[.int .i64 x110000_2, .bool x110001_2, .bool x110002_2, .int .i64 x110003_2, .int .i64 x110004_2, .int .i64 x110005_2, .int .i64 x110006_2, .int .i64 x110007_2] 25 (0, 0))) ∧ Aside0 (Below w.heap.size w w'))
        case atStart => exact ⟨(0), (t110), (t111), (t112), (t113), (t114), (t115), (t116), (t117), (by first | rfl | (simp; done) | (simp [*]; done)), H', ⟨Nat.le_refl _⟩, ⟨by exact far_ NB108_109.out BK108.out⟩, ⟨by exact put_ BK109.out rfl⟩, ⟨by exact bel2 HB.out GE108.out GE109.out⟩⟩
        case round =>
          clear H'
          try clear c1
          try clear p2
          try clear c4
          try clear c4b0
          try clear c6
          try clear c8
          try clear hcz7_0
          try clear hcz7_1
          try clear hcz7_2
          try clear hcz7_3
          try clear hcz7_4
          try clear hcz7_5
          try clear hcz7_6
          try clear hcz7_7
          try clear hcz9_0
          try clear hcz9_1
          try clear hcz9_2
          try clear hcz9_3
          try clear hcz9_4
          try clear hcz9_5
          try clear hcz9_6
          try clear hcz9_7
          try clear hfz7_0
          try clear hfz7_1
          try clear hfz7_2
          try clear hfz7_3
          try clear hfz7_4
          try clear hfz7_5
          try clear hfz7_6
          try clear hfz7_7
          try clear hfz9_0
          try clear hfz9_1
          try clear hfz9_2
          try clear hfz9_3
          try clear hfz9_4
          try clear hfz9_5
          try clear hfz9_6
          try clear hfz9_7
          try clear p2
          obtain ⟨x5_2, x110000_2, x110001_2, x110002_2, x110003_2, x110004_2, x110005_2, x110006_2, x110007_2, rfl, HA, HK2, BK108, BK109, HB⟩ := hrel
          cases gk with
          | zero => exact absurd HA.out (by simp [stopcocklaw22_rounds.l1])
          | succ k2 =>
            have H := HA.out; clear HA
            simp only [stopcocklaw22_rounds.l1] at H
            by_cases c10 : x5_2 < 8
            · rw [if_pos c10] at H
              have c10b0 : decide (x5_2 < 8) = true := decide_eq_true c10; clear c10
              by_cases c11 : 0 ≤ x4_1
              · rw [if_pos c11] at H
                have c11b0 : decide (0 ≤ x4_1) = true := decide_eq_true c11; clear c11
                by_cases c12 : x4_1 < (l0.length : Int)
                · rw [if_pos c12] at H
                  have c12b0 : decide (x4_1 < (l0.length : Int)) = true := decide_eq_true c12; clear c12; replace H := Option.bind_eq_some_iff.mp H; obtain ⟨⟨t120, t121, t122, t123, t124, t125, t126, t127, t128⟩, A130, H⟩ := H; replace H : (stopcocklaw22_rounds.l1 k2 l0 x4_1 (wrap64 (x5_2 + 1)) t120 t121 t122 t123 t124 t125 t126 t127) = some (r1, r2, r3, r4, r5, r6, r7, r8) := H; have A13 := Aside0.mk A130; clear A130; have H' := Aside0.mk H; clear H
                  try go_wp2
                  have n0_ := Aside0.mk (blk_drew BK108.out); have n1_ := Aside0.mk (blk_drew BK109.out); have n2_ := Aside0.mk (below_drew1 HB.out); clear BK108; clear BK109; clear HB; have BK108 := n0_; have BK109 := n1_; have HB := n2_; clear n0_ n1_ n2_; have p119 : 0 ≤ (x4_1 : Int) := of_decide_eq_true (by first | (with_reducible assumption) | assumption); have q119 : x4_1 < (l0.length : Int) := of_decide_eq_true (by first | (with_reducible assumption) | assumption); obtain ⟨ad119, e119, hx119_0⟩ := Kd.at_int HR0.out x4_1 p119 q119; have hw119_0 := hx119_0
                  cases e119
                  replace hx119_0 := (HB.out.cell (World.block_lt_of_cell? w _ hx119_0)).trans hx119_0; replace p119 := eq_true p119; replace q119 := eq_true q119; refine start_ (n := 10) (S := fun w' => w'.cell? ⟨gb109, 0, none⟩ = some (.int .i64 x110000_2) ∧ w'.cell? ⟨gb109, 1, none⟩ = some (.bool x110001_2) ∧ w'.cell? ⟨gb109, 2, none⟩ = some (.bool x110002_2) ∧ w'.cell? ⟨gb109, 3, none⟩ = some (.int .i64 x110003_2) ∧ w'.cell? ⟨gb109, 4, none⟩ = some (.int .i64 x110004_2) ∧ w'.cell? ⟨gb109, 5, none⟩ = some (.int .i64 x110005_2) ∧ w'.cell? ⟨gb109, 6, none⟩ = some (.int .i64 x110006_2) ∧ w'.cell? ⟨gb109, 7, none⟩ = some (.int .i64 x110007_2) ∧ w'.cell? (ad119.add (x4_1).toNat) = some (.int .i64 (rd l0 x4_1))) (ds := [9]) (bs 10 0) (by kernel_rfl) rfl rfl ⟨(blk_cell BK109.out 0).trans rfl, (blk_cell BK109.out 1).trans rfl, (blk_cell BK109.out 2).trans rfl, (blk_cell BK109.out 3).trans rfl, (blk_cell BK109.out 4).trans rfl, (blk_cell BK109.out 5).trans rfl, (blk_cell BK109.out 6).trans rfl, (blk_cell BK109.out 7).trans rfl, ((HB.out.cell (World.block_lt_of_cell? w _ hw119_0)).trans hw119_0)⟩ (fun hHeld => ?_); refine with_tabW stopcocklaw22_rounds.tab9 stopcocklaw22_rounds.bits9 (fun HT_ HW_ => ?_); generalize wr.drew = w14 at BK108 BK109 HB hx119_0 hHeld ⊢; refine pu_ (i := 1) (N := some 23) (v := ?_) (a' := ?_) (bs 10 2) rfl rfl HT_.out (by kernel_rfl) (fun _ _ _ h => h) ⟨by rfl, ?_⟩ ?_ ?_; rotate_left; (intro w'; go_simp; with_reducible rfl); rotate_left; (simp only [Act.put, q1_, q2_, q3_, i64_w, i32_w]; rfl)
                  refine pu_ (i := 2) (N := some 24) (v := ?_) (a' := ?_) (bs 10 6) rfl rfl HT_.out (by kernel_rfl) (fun _ _ _ h => h) ⟨by rfl, ?_⟩ ?_ ?_; rotate_left; (intro w'; go_simp; with_reducible rfl); rotate_left; (simp only [Act.put, q1_, q2_, q3_, i64_w, i32_w]; rfl); refine pu_ (i := 3) (N := some 25) (v := ?_) (a' := ?_) (bs 10 14) rfl rfl HT_.out (by kernel_rfl) (fun _ _ _ h => h) ⟨by rfl, ?_⟩ ?_ ?_; rotate_left; (intro w'; go_simp; with_reducible rfl); rotate_left; (simp only [Act.put, q1_, q2_, q3_, i64_w, i32_w]; rfl); refine take_ (i := 0) (N := some 22) (v := ?_) (a' := ?_) (bs 10 15) rfl rfl (take_ofW HT_.out HW_.out (by kernel_rfl)) (fun _ _ _ h => h) (Or.inl ⟨by rfl, ?_⟩) hHeld ?_ ?_; rotate_left
                  · rintro w' ⟨s0, s1, s2, s3, s4, s5, s6, s7, s8⟩
                    go_simp
                    with_reducible rfl
                  rotate_left
                  · simp only [Act.put, q1_, q2_, q3_, i64_w, i32_w]
                    rfl
                  refine take_ (i := 4) (N := some 26) (v := ?_) (a' := ?_) (bs 10 31) rfl rfl (take_ofW HT_.out HW_.out (by kernel_rfl)) (fun _ _ _ h => h) (Or.inl ⟨by rfl, ?_⟩) hHeld ?_ ?_; rotate_left
                  · rintro w' ⟨s0, s1, s2, s3, s4, s5, s6, s7, s8⟩
                    go_simp
                    with_reducible rfl
                  rotate_left
                  · simp only [Act.put, q1_, q2_, q3_, i64_w, i32_w]
                    rfl
                  refine one_ (i := 5) (N := some 27) (bs 10 63) rfl rfl (one_of HT_.out (by kernel_rfl)) (by decide) (fun K hK => ?_); refine goes_ Try.func10 (by kernel_rfl) rfl #[.agg #[.int .i64 x110000_2, .bool x110001_2, .bool x110002_2, .int .i64 x110003_2, .int .i64 x110004_2, .int .i64 x110005_2, .int .i64 x110006_2, .int .i64 x110007_2], .int .i64 (rd l0 x4_1)] (by rfl) rfl rfl (by (try simp only [List.map_toArray, List.map_cons, List.map_nil]); first | done | rfl | (simp only [List.length_drop, List.length_take]; rfl)) ?_
                  with_reducible refine (hystart_Sample.calls k2 x110000_2 x110001_2 x110002_2 x110003_2 x110004_2 x110005_2 x110006_2 x110007_2 (rd l0 x4_1) t120 t121 t122 t123 t124 t125 t126 t127 t128 _ A13.out).mono ?_
                  rintro e w15 ⟨rfl, hb⟩
                  refine ⟨_, rfl, ?_⟩; have n0_ := Aside0.mk (blk_below (g := gb108) (o := .cells #[.int .i64 0, .bool false, .bool false, .int .i64 0, .int .i64 0, .int .i64 0, .int .i64 0, .int .i64 0] 25 (0, 0)) (skp_ BK108.out) hb); have n1_ := Aside0.mk (blk_below (g := gb109) (o := .cells #[.int .i64 x110000_2, .bool x110001_2, .bool x110002_2, .int .i64 x110003_2, .int .i64 x110004_2, .int .i64 x110005_2, .int .i64 x110006_2, .int .i64 x110007_2] 25 (0, 0)) (skp_ BK109.out) hb); have n2_ := Aside0.mk (below_step (bel2 HB.out GE108.out GE109.out) hb); clear BK108; clear BK109; clear HB; have BK108 := n0_; have BK109 := n1_; have HB := n2_; clear n0_ n1_ n2_
                  (try clear hb)
                  (try clear hb2)
                  (try clear hk)
                  (try clear hi)
                  refine hK.out _ _ ⟨(blk_cell BK109.out 0).trans rfl, (blk_cell BK109.out 1).trans rfl, (blk_cell BK109.out 2).trans rfl, (blk_cell BK109.out 3).trans rfl, (blk_cell BK109.out 4).trans rfl, (blk_cell BK109.out 5).trans rfl, (blk_cell BK109.out 6).trans rfl, (blk_cell BK109.out 7).trans rfl, ((HB.out.cell (World.block_lt_of_cell? w _ hw119_0)).trans hw119_0)⟩ (fun hHeld => ?_); clear hK K; refine norm_ (a' := ?_) ?_ ?_; rotate_left
                  · show Act.put _ (some 27) _ = _
                    simp only [Act.put, q1_, q2_, q3_, i64_w, i32_w]
                    rfl
                  refine pu_ (i := 6) (N := some 21) (v := ?_) (a' := ?_) (bs 10 127) rfl rfl HT_.out (by kernel_rfl) (fun _ _ _ h => h) ⟨by rfl, ?_⟩ ?_ ?_; rotate_left; (intro w'; go_simp; with_reducible rfl); rotate_left; (simp only [Act.put, q1_, q2_, q3_, i64_w, i32_w]; rfl); refine pu_ (i := 7) (N := some 28) (v := ?_) (a' := ?_) (bs 10 255) rfl rfl HT_.out (by kernel_rfl) (fun _ _ _ h => h) ⟨by rfl, ?_⟩ ?_ ?_; rotate_left; (intro w'; go_simp; with_reducible rfl); rotate_left; (simp only [Act.put, q1_, q2_, q3_, i64_w, i32_w]; rfl); refine pu_ (i := 8) (N := some 29) (v := ?_) (a' := ?_) (bs 10 511) rfl rfl HT_.out (by kernel_rfl) (fun _ _ _ h => h) ⟨by rfl, ?_⟩ ?_ ?_; rotate_left; (intro w'; go_simp; with_reducible rfl); rotate_left; (simp only [Act.put, q1_, q2_, q3_, i64_w, i32_w]; rfl); refine last_ (i := 9) (N := none) (bs 10 1023) rfl rfl (one_of HT_.out (by kernel_rfl)) (by decide) (fun K hK => ?_); have hs16 : w15.cell? ⟨gb109, 0, none⟩ = some (.int .i64 x110000_2) := (blk_cell BK109.out 0).trans rfl; have hfs16 := blk_frozen BK109.out 0; have hns16_0 := NB108_109.out; have hms16_0 := NB109_108.out; have hs17 : w15.cell? ⟨gb109, 1, none⟩ = some (.bool x110001_2) := (blk_cell BK109.out 1).trans rfl; have hfs17 := blk_frozen BK109.out 1; have hns17_0 := NB108_109.out; have hms17_0 := NB109_108.out; have hs18 : w15.cell? ⟨gb109, 2, none⟩ = some (.bool x110002_2) := (blk_cell BK109.out 2).trans rfl; have hfs18 := blk_frozen BK109.out 2; have hns18_0 := NB108_109.out; have hms18_0 := NB109_108.out
                  have hs19 : w15.cell? ⟨gb109, 3, none⟩ = some (.int .i64 x110003_2) := (blk_cell BK109.out 3).trans rfl; have hfs19 := blk_frozen BK109.out 3; have hns19_0 := NB108_109.out; have hms19_0 := NB109_108.out; have hs20 : w15.cell? ⟨gb109, 4, none⟩ = some (.int .i64 x110004_2) := (blk_cell BK109.out 4).trans rfl; have hfs20 := blk_frozen BK109.out 4; have hns20_0 := NB108_109.out; have hms20_0 := NB109_108.out; have hs21 : w15.cell? ⟨gb109, 5, none⟩ = some (.int .i64 x110005_2) := (blk_cell BK109.out 5).trans rfl; have hfs21 := blk_frozen BK109.out 5; have hns21_0 := NB108_109.out; have hms21_0 := NB109_108.out; have hs22 : w15.cell? ⟨gb109, 6, none⟩ = some (.int .i64 x110006_2) := (blk_cell BK109.out 6).trans rfl; have hfs22 := blk_frozen BK109.out 6; have hns22_0 := NB108_109.out; have hms22_0 := NB109_108.out; have hs23 : w15.cell? ⟨gb109, 7, none⟩ = some (.int .i64 x110007_2) := (blk_cell BK109.out 7).trans rfl; have hfs23 := blk_frozen BK109.out 7; have hns23_0 := NB108_109.out; have hms23_0 := NB109_108.out; refine skip_ (w1 := ?_) (by rfl) rfl ?_ ?_; rotate_left
                  · go_simp
                    rfl
                  refine hK.out _ _ ?_; clear hK K; refine done_ (done_of HT_.out (by kernel_rfl)) ?_
                  try go_wp2
                  go_roundg k2
                  case measure => have := HK1.out; have := HK2.out; omega
                  case rel => exact ⟨(wrap64 (x5_2 + 1)), (t120), (t121), (t122), (t123), (t124), (t125), (t126), (t127), (by first | rfl | (simp; done) | (simp [*]; done)), H', ⟨by have := HK1.out; have := HK2.out; omega⟩, ⟨by exact far_ NB108_109.out BK108.out⟩, ⟨by exact put_ BK109.out rfl⟩, ⟨by exact bel2 HB.out GE108.out GE109.out⟩⟩
                rw [if_neg c12] at H; exact absurd H (by simp)
              rw [if_neg c11] at H; exact absurd H (by simp)
            rw [if_neg c10] at H; have c10b0 : decide (x5_2 < 8) = false := decide_eq_false c10; clear c10; have H' := Aside0.mk H; clear H
            go_wp2
            go_roundg k2
            case measure => have := HK1.out; have := HK2.out; omega
            case rel => exact ⟨(wrap64 (x4_1 + 1)), (x110000_2), (x110001_2), (x110002_2), (x110003_2), (x110004_2), (x110005_2), (x110006_2), (x110007_2), (by first | rfl | (simp; done) | (simp [*]; done)), H', ⟨by have := HK1.out; have := HK2.out; omega⟩, ⟨by exact skp_ BK108.out⟩, ⟨by exact skp_ BK109.out⟩, ⟨by exact bel2 HB.out GE108.out GE109.out⟩⟩
      rw [if_neg c4] at H; have c4b0 : decide (x4_1 < (l0.length : Int)) = false := decide_eq_false c4; clear c4
      simp only [Option.some.injEq, Prod.mk.injEq] at H
      obtain ⟨rfl, rfl, rfl, rfl, rfl, rfl, rfl, rfl⟩ := H; have hnb24 := NB109_108.out; have hnc24 := NB108_109.out; obtain ⟨hcz25_0, hcz25_1, hcz25_2, hcz25_3, hcz25_4, hcz25_5, hcz25_6, hcz25_7⟩ := cz8 BK109.out; have hfz25_0 := blk_frozen BK109.out; obtain ⟨hcz26_0, hcz26_1, hcz26_2, hcz26_3, hcz26_4, hcz26_5, hcz26_6, hcz26_7⟩ := cz8 BK108.out; have hfz26_0 := blk_frozen BK108.out
      go_wp2
      refine bodyPost_ret (results_cell_row rfl _ _ gb108 25 #[.int .i64 x110000_1, .bool x110001_1, .bool x110002_1, .int .i64 x110003_1, .int .i64 x110004_1, .int .i64 x110005_1, .int .i64 x110006_1, .int .i64 x110007_1] (0, 0) _ rfl (by exact put_ BK108.out rfl) Try.underlying25 rfl (by kernel_rfl)) rfl ?_; exact ⟨by first | rfl | (simp [errW_none, errW_some] <;> rfl) | (simp [*, errW_none, errW_some] <;> rfl), by exact bel2 HB.out GE108.out GE109.out⟩

end Go.Proofs.Ytgibiffjkmmeeaa.PC
