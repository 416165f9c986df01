-- Written by a program of this session (wip/tools/mkprint.py, mp.sh) for this claim.
import Derived.Test.YtjhggbanonfbgaaPGx0
import Derived.Test.YtjhggbanonfbgaaPGx2
import Derived.Test.YtjhggbanonfbgaaPGx3
import Derived.Test.YtjhggbanonfbgaaPGx4
namespace Go.Proofs.Ytjhggbanonfbgaa.PG
open Go.RowKit Go.Proofs.YtjhggbanonfbgaaW.PrintWords Go.Proofs.YtjhggbanonfbgaaW.PrintLast Go.Proofs.YtjhggbanonfbgaaW.PrintMore
attribute [local go_sem] max2_int min2_int max_two min_two max_three min_three max_four min_four   -- for this text's walks alone
set_option linter.unusedVariables false
set_option linter.unusedSimpArgs false

/-! ### stopcocklaw20_RenoGrows: function 3 -/
mutual
def stopcocklaw20_RenoGrows.l0 : Nat → Int → List Int → Int → Int → Int → Int → Option (Bool)
  | 0, _, _, _, _, _, _ => none
  | k + 1, x0, x2, x8, x125000, x125001, x125002 => if x8 < (x2.length : Int) then (stopcocklaw20_RenoGrows.j1 k x0 x2 x8 (decide (x8 < 300)) x125000 x125001 x125002) else (stopcocklaw20_RenoGrows.j1 k x0 x2 x8 false x125000 x125001 x125002)
def stopcocklaw20_RenoGrows.j1 : Nat → Int → List Int → Int → Bool → Int → Int → Int → Option (Bool)
  | 0, _, _, _, _, _, _, _ => none
  | k + 1, x0, x2, x8, x35, x125000, x125001, x125002 => if x35 = true then (if 0 ≤ x8 then (if x8 < (x2.length : Int) then (if x125000 = 0 then (none) else ((reno_Ack.f x125000 x125001 x125002 x0 (Int.tmod (wrap64 ((Int.tmod (rd x2 x8) x125000) + x125000)) x125000)).bind fun bt126 => ((stopcocklaw20_num.f bt126.2.2.2).bind fun t131 => (if t131 = 0 then (if x125000 < x125001 then (stopcocklaw20_RenoGrows.j2 k x0 x2 x8 (Int.tmod (wrap64 ((Int.tmod (rd x2 x8) x125000) + x125000)) x125000) (wrap64 (bt126.1 - x125000)) ((wrap64 (bt126.1 - x125000)) != (mn (Int.tmod (wrap64 ((Int.tmod (rd x2 x8) x125000) + x125000)) x125000) x0)) x125000 x125001 x125002 bt126.1 bt126.2.1 bt126.2.2.1) else (stopcocklaw20_RenoGrows.j2 k x0 x2 x8 (Int.tmod (wrap64 ((Int.tmod (rd x2 x8) x125000) + x125000)) x125000) (wrap64 (bt126.1 - x125000)) false x125000 x125001 x125002 bt126.1 bt126.2.1 bt126.2.2.1)) else (some false))))) else (none)) else (none)) else (some true)
def stopcocklaw20_RenoGrows.j2 : Nat → Int → List Int → Int → Int → Int → Bool → Int → Int → Int → Int → Int → Int → Option (Bool)
  | 0, _, _, _, _, _, _, _, _, _, _, _, _ => none
  | k + 1, x0, x2, x8, x9, x12, x66, x125000, x125001, x125002, x131000, x131001, x131002 => if x66 = true then (some false) else (if x125000 ≥ x125001 then (if x12 = 0 then (if ((x12 == x0) != (decide ((wrap64 (x125002 + x9)) ≥ x125000))) = true then (some false) else (stopcocklaw20_RenoGrows.l0 k x0 x2 (wrap64 (x8 + 1)) x131000 x131001 x131002)) else (if x12 = x0 then (if ((x12 == x0) != (decide ((wrap64 (x125002 + x9)) ≥ x125000))) = true then (some false) else (stopcocklaw20_RenoGrows.l0 k x0 x2 (wrap64 (x8 + 1)) x131000 x131001 x131002)) else (some false))) else (stopcocklaw20_RenoGrows.l0 k x0 x2 (wrap64 (x8 + 1)) x131000 x131001 x131002))
end
def stopcocklaw20_RenoGrows.f (k : Nat) (a0 : Int) (a1 : Int) (l2 : List Int) : Option (Bool) := (stopcocklaw20_alive.f).bind fun t123 => (if t123 = true then (stopcocklaw20_RenoGrows.l0 k (wrap64 (1 + (Int.tmod (wrap64 ((Int.tmod a0 1500) + 1500)) 1500))) l2 0 (wrap64 (4 * (wrap64 (1 + (Int.tmod (wrap64 ((Int.tmod a0 1500) + 1500)) 1500))))) (wrap64 (1 + (Int.tmod (wrap64 ((Int.tmod a1 20000) + 20000)) 20000))) 0) else (some false))
theorem stopcocklaw20_RenoGrows.mono_l : ∀ k, (∀ y0 y1 y2 y3 y4 y5, LeO (stopcocklaw20_RenoGrows.l0 k y0 y1 y2 y3 y4 y5) (stopcocklaw20_RenoGrows.l0 (k + 1) y0 y1 y2 y3 y4 y5)) ∧ (∀ y0 y1 y2 y3 y4 y5 y6, LeO (stopcocklaw20_RenoGrows.j1 k y0 y1 y2 y3 y4 y5 y6) (stopcocklaw20_RenoGrows.j1 (k + 1) y0 y1 y2 y3 y4 y5 y6)) ∧ (∀ y0 y1 y2 y3 y4 y5 y6 y7 y8 y9 y10 y11, LeO (stopcocklaw20_RenoGrows.j2 k y0 y1 y2 y3 y4 y5 y6 y7 y8 y9 y10 y11) (stopcocklaw20_RenoGrows.j2 (k + 1) y0 y1 y2 y3 y4 y5 y6 y7 y8 y9 y10 y11))
  | 0 => ⟨fun _ _ _ _ _ _ r h => by simp [stopcocklaw20_RenoGrows.l0] at h, fun _ _ _ _ _ _ _ r h => by simp [stopcocklaw20_RenoGrows.j1] at h, fun _ _ _ _ _ _ _ _ _ _ _ _ r h => by simp [stopcocklaw20_RenoGrows.j2] at h⟩
  | k + 1 => by
    obtain ⟨ih0, ih1, ih2⟩ := stopcocklaw20_RenoGrows.mono_l k
    refine ⟨?_, ?_, ?_⟩
    · intro y0 y1 y2 y3 y4 y5
      unfold stopcocklaw20_RenoGrows.l0
      repeat' first
      | (with_reducible exact ih0 _ _ _ _ _ _)
      | (with_reducible exact ih1 _ _ _ _ _ _ _)
      | (with_reducible exact ih2 _ _ _ _ _ _ _ _ _ _ _ _)
      | (with_reducible exact LeO.refl _)
      | (with_reducible exact LeO.none _)
      | (with_reducible refine LeO.ite ?_ ?_)
      | (with_reducible refine LeO.bind ?_ (fun _ => ?_))
      | exact ih0 _ _ _ _ _ _
      | exact ih1 _ _ _ _ _ _ _
      | exact ih2 _ _ _ _ _ _ _ _ _ _ _ _
      | exact LeO.none _
      | refine LeO.ite ?_ ?_
      | refine LeO.bind ?_ (fun _ => ?_)
    · intro y0 y1 y2 y3 y4 y5 y6
      unfold stopcocklaw20_RenoGrows.j1
      repeat' first
      | (with_reducible exact ih0 _ _ _ _ _ _)
      | (with_reducible exact ih1 _ _ _ _ _ _ _)
      | (with_reducible exact ih2 _ _ _ _ _ _ _ _ _ _ _ _)
      | (with_reducible exact LeO.refl _)
      | (with_reducible exact LeO.none _)
      | (with_reducible refine LeO.ite ?_ ?_)
      | (with_reducible refine LeO.bind ?_ (fun _ => ?_))
      | exact ih0 _ _ _ _ _ _
      | exact ih1 _ _ _ _ _ _ _
      | exact ih2 _ _ _ _ _ _ _ _ _ _ _ _
      | exact LeO.none _
      | refine LeO.ite ?_ ?_
      | refine LeO.bind ?_ (fun _ => ?_)
    · intro y0 y1 y2 y3 y4 y5 y6 y7 y8 y9 y10 y11
      unfold stopcocklaw20_RenoGrows.j2
      repeat' first
      | (with_reducible exact ih0 _ _ _ _ _ _)
      | (with_reducible exact ih1 _ _ _ _ _ _ _)
      | (with_reducible exact ih2 _ _ _ _ _ _ _ _ _ _ _ _)
      | (with_reducible exact LeO.refl _)
      | (with_reducible exact LeO.none _)
      | (with_reducible refine LeO.ite ?_ ?_)
      | (with_reducible refine LeO.bind ?_ (fun _ => ?_))
      | exact ih0 _ _ _ _ _ _
      | exact ih1 _ _ _ _ _ _ _
      | exact ih2 _ _ _ _ _ _ _ _ _ _ _ _
      | exact LeO.none _
      | refine LeO.ite ?_ ?_
      | refine LeO.bind ?_ (fun _ => ?_)
theorem stopcocklaw20_RenoGrows.mono : ∀ a0 a1 a2 k, LeO (stopcocklaw20_RenoGrows.f k a0 a1 a2) (stopcocklaw20_RenoGrows.f (k + 1) a0 a1 a2) := by
  intro a0 a1 a2 k
  obtain ⟨ih0, ih1, ih2⟩ := stopcocklaw20_RenoGrows.mono_l k
  unfold stopcocklaw20_RenoGrows.f
  repeat' first
      | (with_reducible exact ih0 _ _ _ _ _ _)
      | (with_reducible exact ih1 _ _ _ _ _ _ _)
      | (with_reducible exact ih2 _ _ _ _ _ _ _ _ _ _ _ _)
      | (with_reducible exact LeO.refl _)
      | (with_reducible exact LeO.none _)
      | (with_reducible refine LeO.ite ?_ ?_)
      | (with_reducible refine LeO.bind ?_ (fun _ => ?_))
      | exact ih0 _ _ _ _ _ _
      | exact ih1 _ _ _ _ _ _ _
      | exact ih2 _ _ _ _ _ _ _ _ _ _ _ _
      | exact LeO.none _
      | refine LeO.ite ?_ ?_
      | refine LeO.bind ?_ (fun _ => ?_)
set_option maxHeartbeats 8000000 in
set_option maxRecDepth 100000 in
theorem stopcocklaw20_RenoGrows.calls (k : Nat) (a0 : Int) (a1 : Int) (A2 : Option Addr) (c2 : Nat) (l2 : List Int) (r : Bool) (w : World) (hr2 : Kd.C (Kd.int .i64) w A2 l2.length l2) (hc2 : l2.length ≤ c2) (h : stopcocklaw20_RenoGrows.f k a0 a1 l2 = some r) (hrt : r = true) :
    Calls Try.prog 3 #[.int .i64 a0, .int .i64 a1, .slice A2 l2.length c2] w fun e w' => e = .returned (.bool r) ∧ Below w.heap.size w w' := by
  have hu25 := Try.underlying25
  have HRT := Aside0.mk hrt
  clear hrt
  have HR2 := Aside0.mk hr2
  have HC2 := Aside0.mk hc2
  clear hr2 hc2
  have HB := Aside0.mk (Below.refl w.heap.size w)
  have H : ((stopcocklaw20_alive.f).bind fun t123 => (if t123 = true then (stopcocklaw20_RenoGrows.l0 k (wrap64 (1 + (Int.tmod (wrap64 ((Int.tmod a0 1500) + 1500)) 1500))) l2 0 (wrap64 (4 * (wrap64 (1 + (Int.tmod (wrap64 ((Int.tmod a0 1500) + 1500)) 1500))))) (wrap64 (1 + (Int.tmod (wrap64 ((Int.tmod a1 20000) + 20000)) 20000))) 0) else (some false))) = some r := h
  clear h
  replace H := Option.bind_eq_some_iff.mp H
  obtain ⟨t123, A40, H⟩ := H
  replace H : (if t123 = true then (stopcocklaw20_RenoGrows.l0 k (wrap64 (1 + (Int.tmod (wrap64 ((Int.tmod a0 1500) + 1500)) 1500))) l2 0 (wrap64 (4 * (wrap64 (1 + (Int.tmod (wrap64 ((Int.tmod a0 1500) + 1500)) 1500))))) (wrap64 (1 + (Int.tmod (wrap64 ((Int.tmod a1 20000) + 20000)) 20000))) 0) else (some false)) = some r := H
  have A4 := Aside0.mk A40
  clear A40
  by_cases c5 : t123 = true
  · subst c5
    have H1 : (stopcocklaw20_RenoGrows.l0 k (wrap64 (1 + (Int.tmod (wrap64 ((Int.tmod a0 1500) + 1500)) 1500))) l2 0 (wrap64 (4 * (wrap64 (1 + (Int.tmod (wrap64 ((Int.tmod a0 1500) + 1500)) 1500))))) (wrap64 (1 + (Int.tmod (wrap64 ((Int.tmod a1 20000) + 20000)) 20000))) 0) = some r := by rw [if_pos rfl] at H; exact H
    clear H
    have H := H1
    clear H1
    have H' := Aside0.mk H
    clear H
    go_enter Try.func3, Try.ntmps3
    go_wp2_with (first | (go_at_call 7; (with_reducible refine (stopcocklaw20_alive.calls  true _ A4.out).mono ?_); rintro e w6 ⟨rfl, hb⟩; have n0_ := Aside0.mk (below_step (by repeat (first | (with_reducible first | exact HB.out | apply below_alloc | apply pw_below_drewN | apply below_drew1) | exact HB.out)) hb); clear HB; have HB := n0_; clear n0_; (try clear hb); (try clear hb2); (try clear hk); (try clear hi)) | ((with_reducible refine gate_dst (N := 7) rfl ?_); (try (refine gate_guard (by rfl) ?_; dsimp only)); refine box_event ?hg (N := 7) ?hd (cs := #[.int .i64 0, .int .i64 0, .int .i64 0]) (t := 25) ?hr ?_; (case hd => rfl); (case hg => rfl); (case hr => first | (go_simp; done) | (go_simp; rfl)); intro gb124 hg w7 hbox hb; have n0_ := Aside0.mk (below_step (by repeat (first | (with_reducible first | exact HB.out | apply below_alloc | apply pw_below_drewN | apply below_drew1) | exact HB.out)) hb); have n1_ := Aside0.mk (hbox); have n2_ := Aside0.mk ((by rw [hg]; exact (below_size (by repeat (first | (with_reducible first | exact HB.out | apply below_alloc | apply pw_below_drewN | apply below_drew1) | exact HB.out))) : w.heap.size ≤ gb124)); have n3_ := Aside0.mk ((by rw [hg]; exact (below_size (by repeat (first | (with_reducible first | exact HB.out | apply below_alloc | apply pw_below_drewN | apply below_drew1) | exact HB.out))) : w.heap.size ≤ gb124)); clear HB; have HB := n0_; have BK124 := n1_; have GW124 := n2_; have GE124 := n3_; clear n0_ n1_ n2_ n3_; clear hb hbox hg; have hcz8_0 : w7.cell? ⟨gb124, 0, none⟩ = some (.int .i64 0) := (blk_cell BK124.out 0).trans rfl; have hcz8_1 : w7.cell? ⟨gb124, 1, none⟩ = some (.int .i64 0) := (blk_cell BK124.out 1).trans rfl; have hcz8_2 : w7.cell? ⟨gb124, 2, none⟩ = some (.int .i64 0) := (blk_cell BK124.out 2).trans rfl; have hfz8_0 := blk_frozen BK124.out 0; have hfz8_1 := blk_frozen BK124.out 1; have hfz8_2 := blk_frozen BK124.out 2))
    repeat (go_quiet (first | (go_at_call 7; (with_reducible refine (stopcocklaw20_alive.calls  true _ A4.out).mono ?_); rintro e w6 ⟨rfl, hb⟩; have n0_ := Aside0.mk (below_step (by repeat (first | (with_reducible first | exact HB.out | apply below_alloc | apply pw_below_drewN | apply below_drew1) | exact HB.out)) hb); clear HB; have HB := n0_; clear n0_; (try clear hb); (try clear hb2); (try clear hk); (try clear hi)) | ((with_reducible refine gate_dst (N := 7) rfl ?_); (try (refine gate_guard (by rfl) ?_; dsimp only)); refine box_event ?hg (N := 7) ?hd (cs := #[.int .i64 0, .int .i64 0, .int .i64 0]) (t := 25) ?hr ?_; (case hd => rfl); (case hg => rfl); (case hr => first | (go_simp; done) | (go_simp; rfl)); intro gb124 hg w7 hbox hb; have n0_ := Aside0.mk (below_step (by repeat (first | (with_reducible first | exact HB.out | apply below_alloc | apply pw_below_drewN | apply below_drew1) | exact HB.out)) hb); have n1_ := Aside0.mk (hbox); have n2_ := Aside0.mk ((by rw [hg]; exact (below_size (by repeat (first | (with_reducible first | exact HB.out | apply below_alloc | apply pw_below_drewN | apply below_drew1) | exact HB.out))) : w.heap.size ≤ gb124)); have n3_ := Aside0.mk ((by rw [hg]; exact (below_size (by repeat (first | (with_reducible first | exact HB.out | apply below_alloc | apply pw_below_drewN | apply below_drew1) | exact HB.out))) : w.heap.size ≤ gb124)); clear HB; have HB := n0_; have BK124 := n1_; have GW124 := n2_; have GE124 := n3_; clear n0_ n1_ n2_ n3_; clear hb hbox hg; have hcz8_0 : w7.cell? ⟨gb124, 0, none⟩ = some (.int .i64 0) := (blk_cell BK124.out 0).trans rfl; have hcz8_1 : w7.cell? ⟨gb124, 1, none⟩ = some (.int .i64 0) := (blk_cell BK124.out 1).trans rfl; have hcz8_2 : w7.cell? ⟨gb124, 2, none⟩ = some (.int .i64 0) := (blk_cell BK124.out 2).trans rfl; have hfz8_0 := blk_frozen BK124.out 0; have hfz8_1 := blk_frozen BK124.out 1; have hfz8_2 := blk_frozen BK124.out 2)); try go_wp2_with (first | (go_at_call 7; (with_reducible refine (stopcocklaw20_alive.calls  true _ A4.out).mono ?_); rintro e w6 ⟨rfl, hb⟩; have n0_ := Aside0.mk (below_step (by repeat (first | (with_reducible first | exact HB.out | apply below_alloc | apply pw_below_drewN | apply below_drew1) | exact HB.out)) hb); clear HB; have HB := n0_; clear n0_; (try clear hb); (try clear hb2); (try clear hk); (try clear hi)) | ((with_reducible refine gate_dst (N := 7) rfl ?_); (try (refine gate_guard (by rfl) ?_; dsimp only)); refine box_event ?hg (N := 7) ?hd (cs := #[.int .i64 0, .int .i64 0, .int .i64 0]) (t := 25) ?hr ?_; (case hd => rfl); (case hg => rfl); (case hr => first | (go_simp; done) | (go_simp; rfl)); intro gb124 hg w7 hbox hb; have n0_ := Aside0.mk (below_step (by repeat (first | (with_reducible first | exact HB.out | apply below_alloc | apply pw_below_drewN | apply below_drew1) | exact HB.out)) hb); have n1_ := Aside0.mk (hbox); have n2_ := Aside0.mk ((by rw [hg]; exact (below_size (by repeat (first | (with_reducible first | exact HB.out | apply below_alloc | apply pw_below_drewN | apply below_drew1) | exact HB.out))) : w.heap.size ≤ gb124)); have n3_ := Aside0.mk ((by rw [hg]; exact (below_size (by repeat (first | (with_reducible first | exact HB.out | apply below_alloc | apply pw_below_drewN | apply below_drew1) | exact HB.out))) : w.heap.size ≤ gb124)); clear HB; have HB := n0_; have BK124 := n1_; have GW124 := n2_; have GE124 := n3_; clear n0_ n1_ n2_ n3_; clear hb hbox hg; have hcz8_0 : w7.cell? ⟨gb124, 0, none⟩ = some (.int .i64 0) := (blk_cell BK124.out 0).trans rfl; have hcz8_1 : w7.cell? ⟨gb124, 1, none⟩ = some (.int .i64 0) := (blk_cell BK124.out 1).trans rfl; have hcz8_2 : w7.cell? ⟨gb124, 2, none⟩ = some (.int .i64 0) := (blk_cell BK124.out 2).trans rfl; have hfz8_0 := blk_frozen BK124.out 0; have hfz8_1 := blk_frozen BK124.out 1; have hfz8_2 := blk_frozen BK124.out 2)))
    go_loopg [8] k (fun kq v8 w' => ∃ (x8_1 : Int) (x125000_1 : Int) (x125001_1 : Int) (x125002_1 : Int), v8 = .int .i64 x8_1 ∧ Aside0 (stopcocklaw20_RenoGrows.l0 kq (wrap64 (1 + (Int.tmod (wrap64 ((Int.tmod a0 1500) + 1500)) 1500))) l2 x8_1 x125000_1 x125001_1 x125002_1 = some r) ∧ Aside0 (kq ≤ k) ∧ Aside0 (w'.heap[gb124]? = some (.cells #[.int .i64 x125000_1, .int .i64 x125001_1, .int .i64 x125002_1] 25 (0, 0))) ∧ Aside0 (Below w.heap.size w w'))
    case atStart => exact ⟨(0), (wrap64 (4 * (wrap64 (1 + (Int.tmod (wrap64 ((Int.tmod a0 1500) + 1500)) 1500))))), (wrap64 (1 + (Int.tmod (wrap64 ((Int.tmod a1 20000) + 20000)) 20000))), (0), (by first | rfl | (simp; done) | (simp [*]; done)), H', ⟨Nat.le_refl _⟩, ⟨by (with_reducible repeat (first | refine blk_drewN ?_ _ | refine blk_drew ?_ | refine blk_alloc ?_ _)); refine blk_put (cs := #[.int .i64 (wrap64 (4 * (wrap64 (1 + (Int.tmod (wrap64 ((Int.tmod a0 1500) + 1500)) 1500))))), .int .i64 (wrap64 (1 + (Int.tmod (wrap64 ((Int.tmod a1 20000) + 20000)) 20000))), .int .i64 0]) ?_ 2 _ rfl; (with_reducible repeat (first | refine blk_drewN ?_ _ | refine blk_drew ?_ | refine blk_alloc ?_ _)); refine blk_put (cs := #[.int .i64 (wrap64 (4 * (wrap64 (1 + (Int.tmod (wrap64 ((Int.tmod a0 1500) + 1500)) 1500))))), .int .i64 0, .int .i64 0]) ?_ 1 _ rfl; (with_reducible repeat (first | refine blk_drewN ?_ _ | refine blk_drew ?_ | refine blk_alloc ?_ _)); refine blk_put (cs := #[.int .i64 0, .int .i64 0, .int .i64 0]) ?_ 0 _ rfl; (with_reducible repeat (first | refine blk_drewN ?_ _ | refine blk_drew ?_ | refine blk_alloc ?_ _)); exact BK124.out⟩, ⟨by repeat (first | (with_reducible first | exact HB.out | apply below_alloc | apply pw_below_drewN | apply below_drew1 | refine below_set ?_ GE124.out) | exact HB.out)⟩⟩
    case round =>
      clear H'
      try clear c2
      try clear p2
      try clear c3
      try clear c5
      try clear p6
      try clear hcz8_0
      try clear hcz8_1
      try clear hcz8_2
      try clear hfz8_0
      try clear hfz8_1
      try clear hfz8_2
      obtain ⟨x8_1, x125000_1, x125001_1, x125002_1, rfl, HA, HK1, BK124, HB⟩ := hrel
      cases gk with
      | zero => exact absurd HA.out (by simp [stopcocklaw20_RenoGrows.l0])
      | succ k1 =>
        have H := HA.out
        clear HA
        simp only [stopcocklaw20_RenoGrows.l0] at H
        have HC9 := Aside0.mk H
        clear H
        go_upto_region 6 with (fail)
        repeat (go_quiet (fail); go_upto_region 6 with (fail))
        go_cut [35] (fun v35 wc => ∃ (kq : Nat) (x35_8 : Bool), v35 = .bool x35_8 ∧ Aside0 (stopcocklaw20_RenoGrows.j1 kq (wrap64 (1 + (Int.tmod (wrap64 ((Int.tmod a0 1500) + 1500)) 1500))) l2 x8_1 x35_8 x125000_1 x125001_1 x125002_1 = some r) ∧ Aside0 (kq ≤ k1) ∧ Aside0 (wc.heap[gb124]? = some (.cells #[.int .i64 x125000_1, .int .i64 x125001_1, .int .i64 x125002_1] 25 (0, 0))) ∧ Aside0 (Below w.heap.size w wc))
        case first =>
          have H := HC9.out
          clear HC9
          by_cases c10 : x8_1 < (l2.length : Int)
          · rw [if_pos c10] at H
            have c10b0 : decide (x8_1 < (l2.length : Int)) = true := decide_eq_true c10
            clear c10
            (first | rw [c10b0] | (simp only [i64_w, i32_w]; rw [c10b0]) | skip)
            have H' := Aside0.mk H
            clear H
            go_wp2
            repeat (go_quiet (fail); try go_wp2)
            go_meet
            case rel => exact ⟨_, (decide (x8_1 < 300)), (by first | rfl | (simp; done) | (simp [*]; done)), H', ⟨by have := HK1.out; first | omega | exact Nat.le_refl _⟩, ⟨by (with_reducible repeat (first | refine blk_drewN ?_ _ | refine blk_drew ?_ | refine blk_alloc ?_ _)); exact BK124.out⟩, ⟨by repeat (first | (with_reducible first | exact HB.out | apply below_alloc | apply pw_below_drewN | apply below_drew1 | refine below_set ?_ GE124.out) | exact HB.out)⟩⟩
          · rw [if_neg c10] at H
            have c10b0 : decide (x8_1 < (l2.length : Int)) = false := decide_eq_false c10
            clear c10
            (first | rw [c10b0] | (simp only [i64_w, i32_w]; rw [c10b0]) | skip)
            have H' := Aside0.mk H
            clear H
            go_wp2
            repeat (go_quiet (fail); try go_wp2)
            go_meet
            case rel => exact ⟨_, (false), (by first | rfl | (simp; done) | (simp [*]; done)), H', ⟨by have := HK1.out; first | omega | exact Nat.le_refl _⟩, ⟨by (with_reducible repeat (first | refine blk_drewN ?_ _ | refine blk_drew ?_ | refine blk_alloc ?_ _)); exact BK124.out⟩, ⟨by repeat (first | (with_reducible first | exact HB.out | apply below_alloc | apply pw_below_drewN | apply below_drew1 | refine below_set ?_ GE124.out) | exact HB.out)⟩⟩
        case rest =>
          clear HC9
          try clear c1
          try clear c2
          try clear p2
          try clear c3
          try clear c5
          try clear p6
          try clear c10
          try clear c10b0
          try clear hcz8_0
          try clear hcz8_1
          try clear hcz8_2
          try clear hfz8_0
          try clear hfz8_1
          try clear hfz8_2
          try clear p2
          try clear p6
          obtain ⟨kq, x35_8, rfl, HA, HJ8, BK124, HB⟩ := hcut
          cases kq with
          | zero => exact absurd HA.out (by simp [stopcocklaw20_RenoGrows.j1])
          | succ kj8 =>
            have H := HA.out
            clear HA
            simp only [stopcocklaw20_RenoGrows.j1] at H
            by_cases c11 : x35_8 = true
            · subst c11
              have H1 : (if 0 ≤ x8_1 then (if x8_1 < (l2.length : Int) then (if x125000_1 = 0 then (none) else ((reno_Ack.f x125000_1 x125001_1 x125002_1 (wrap64 (1 + (Int.tmod (wrap64 ((Int.tmod a0 1500) + 1500)) 1500))) (Int.tmod (wrap64 ((Int.tmod (rd l2 x8_1) x125000_1) + x125000_1)) x125000_1)).bind fun bt126 => ((stopcocklaw20_num.f bt126.2.2.2).bind fun t131 => (if t131 = 0 then (if x125000_1 < x125001_1 then (stopcocklaw20_RenoGrows.j2 kj8 (wrap64 (1 + (Int.tmod (wrap64 ((Int.tmod a0 1500) + 1500)) 1500))) l2 x8_1 (Int.tmod (wrap64 ((Int.tmod (rd l2 x8_1) x125000_1) + x125000_1)) x125000_1) (wrap64 (bt126.1 - x125000_1)) ((wrap64 (bt126.1 - x125000_1)) != (mn (Int.tmod (wrap64 ((Int.tmod (rd l2 x8_1) x125000_1) + x125000_1)) x125000_1) (wrap64 (1 + (Int.tmod (wrap64 ((Int.tmod a0 1500) + 1500)) 1500))))) x125000_1 x125001_1 x125002_1 bt126.1 bt126.2.1 bt126.2.2.1) else (stopcocklaw20_RenoGrows.j2 kj8 (wrap64 (1 + (Int.tmod (wrap64 ((Int.tmod a0 1500) + 1500)) 1500))) l2 x8_1 (Int.tmod (wrap64 ((Int.tmod (rd l2 x8_1) x125000_1) + x125000_1)) x125000_1) (wrap64 (bt126.1 - x125000_1)) false x125000_1 x125001_1 x125002_1 bt126.1 bt126.2.1 bt126.2.2.1)) else (some false))))) else (none)) else (none)) = some r := by rw [if_pos rfl] at H; exact H
              clear H
              have H := H1
              clear H1
              by_cases c12 : 0 ≤ x8_1
              · rw [if_pos c12] at H
                have c12b0 : decide (0 ≤ x8_1) = true := decide_eq_true c12
                clear c12
                by_cases c13 : x8_1 < (l2.length : Int)
                · rw [if_pos c13] at H
                  have c13b0 : decide (x8_1 < (l2.length : Int)) = true := decide_eq_true c13
                  clear c13
                  by_cases c14 : x125000_1 = 0
                  · rw [if_pos c14] at H
                    exact absurd H (by simp)
                  · rw [if_neg c14] at H
                    have c14b0 : (x125000_1 == 0) = false := beq_eq_false_iff_ne.mpr c14
                    have c14b1 : (x125000_1 != 0) = true := bne_iff_ne.mpr c14
                    replace H := Option.bind_eq_some_iff.mp H
                    obtain ⟨⟨t126, t127, t128, t129⟩, A150, H⟩ := H
                    replace H : ((stopcocklaw20_num.f t129).bind fun t131 => (if t131 = 0 then (if x125000_1 < x125001_1 then (stopcocklaw20_RenoGrows.j2 kj8 (wrap64 (1 + (Int.tmod (wrap64 ((Int.tmod a0 1500) + 1500)) 1500))) l2 x8_1 (Int.tmod (wrap64 ((Int.tmod (rd l2 x8_1) x125000_1) + x125000_1)) x125000_1) (wrap64 (t126 - x125000_1)) ((wrap64 (t126 - x125000_1)) != (mn (Int.tmod (wrap64 ((Int.tmod (rd l2 x8_1) x125000_1) + x125000_1)) x125000_1) (wrap64 (1 + (Int.tmod (wrap64 ((Int.tmod a0 1500) + 1500)) 1500))))) x125000_1 x125001_1 x125002_1 t126 t127 t128) else (stopcocklaw20_RenoGrows.j2 kj8 (wrap64 (1 + (Int.tmod (wrap64 ((Int.tmod a0 1500) + 1500)) 1500))) l2 x8_1 (Int.tmod (wrap64 ((Int.tmod (rd l2 x8_1) x125000_1) + x125000_1)) x125000_1) (wrap64 (t126 - x125000_1)) false x125000_1 x125001_1 x125002_1 t126 t127 t128)) else (some false))) = some r := H
                    have A15 := Aside0.mk A150
                    clear A150
                    replace H := Option.bind_eq_some_iff.mp H
                    obtain ⟨t131, A160, H⟩ := H
                    replace H : (if t131 = 0 then (if x125000_1 < x125001_1 then (stopcocklaw20_RenoGrows.j2 kj8 (wrap64 (1 + (Int.tmod (wrap64 ((Int.tmod a0 1500) + 1500)) 1500))) l2 x8_1 (Int.tmod (wrap64 ((Int.tmod (rd l2 x8_1) x125000_1) + x125000_1)) x125000_1) (wrap64 (t126 - x125000_1)) ((wrap64 (t126 - x125000_1)) != (mn (Int.tmod (wrap64 ((Int.tmod (rd l2 x8_1) x125000_1) + x125000_1)) x125000_1) (wrap64 (1 + (Int.tmod (wrap64 ((Int.tmod a0 1500) + 1500)) 1500))))) x125000_1 x125001_1 x125002_1 t126 t127 t128) else (stopcocklaw20_RenoGrows.j2 kj8 (wrap64 (1 + (Int.tmod (wrap64 ((Int.tmod a0 1500) + 1500)) 1500))) l2 x8_1 (Int.tmod (wrap64 ((Int.tmod (rd l2 x8_1) x125000_1) + x125000_1)) x125000_1) (wrap64 (t126 - x125000_1)) false x125000_1 x125001_1 x125002_1 t126 t127 t128)) else (some false)) = some r := H
                    have A16 := Aside0.mk A160
                    clear A160
                    by_cases c17 : t131 = 0
                    · rw [if_pos c17] at H
                      have c17b0 : (t131 == 0) = true := beq_iff_eq.mpr c17
                      have c17b1 : (t131 != 0) = false := bne_eq_false_iff_eq.mpr c17
                      clear c17
                      have HC18 := Aside0.mk H
                      clear H
                      have p125 : 0 ≤ (x8_1 : Int) := of_decide_eq_true (by first | (with_reducible assumption) | assumption)
                      have q125 : x8_1 < (l2.length : Int) := of_decide_eq_true (by first | (with_reducible assumption) | assumption)
                      obtain ⟨ad125, e125, hx125_0⟩ := Kd.at_int HR2.out x8_1 p125 q125
                      cases e125
                      replace hx125_0 := (HB.out.cell (World.block_lt_of_cell? w _ hx125_0)).trans hx125_0
                      replace p125 := eq_true p125
                      replace q125 := eq_true q125
                      have hcz19_0 : wc.cell? ⟨gb124, 0, none⟩ = some (.int .i64 x125000_1) := (blk_cell BK124.out 0).trans rfl
                      have hcz19_1 : wc.cell? ⟨gb124, 1, none⟩ = some (.int .i64 x125001_1) := (blk_cell BK124.out 1).trans rfl
                      have hcz19_2 : wc.cell? ⟨gb124, 2, none⟩ = some (.int .i64 x125002_1) := (blk_cell BK124.out 2).trans rfl
                      have hfz19_0 := blk_frozen BK124.out 0
                      have hfz19_1 := blk_frozen BK124.out 1
                      have hfz19_2 := blk_frozen BK124.out 2
                      go_upto_region 13 with (first | (go_at_call 8; (with_reducible refine (reno_Ack.calls x125000_1 x125001_1 x125002_1 (wrap64 (1 + (Int.tmod (wrap64 ((Int.tmod a0 1500) + 1500)) 1500))) (Int.tmod (wrap64 ((Int.tmod (rd l2 x8_1) x125000_1) + x125000_1)) x125000_1) t126 t127 t128 t129 _ A15.out).mono ?_); rintro e w20 ⟨rfl, hb⟩; have n0_ := Aside0.mk (blk_below (g := gb124) (o := .cells #[.int .i64 x125000_1, .int .i64 x125001_1, .int .i64 x125002_1] 25 (0, 0)) (by (with_reducible repeat (first | refine blk_drewN ?_ _ | refine blk_drew ?_ | refine blk_alloc ?_ _)); exact BK124.out) hb); have n1_ := Aside0.mk (below_step (by repeat (first | (with_reducible first | exact HB.out | apply below_alloc | apply pw_below_drewN | apply below_drew1 | refine below_set ?_ GE124.out) | exact HB.out)) hb); clear BK124; clear HB; have BK124 := n0_; have HB := n1_; clear n0_ n1_; (try clear hb); (try clear hb2); (try clear hk); (try clear hi)) | ((with_reducible refine gate_dst (N := 10) rfl ?_); (try (refine gate_guard (by rfl) ?_; dsimp only)); refine box_event ?hg (N := 10) ?hd (cs := #[.int .i64 0, .int .i64 0, .int .i64 0]) (t := 25) ?hr ?_; (case hd => rfl); (case hg => rfl); (case hr => first | (go_simp; done) | (go_simp; rfl)); intro gb130 hg w21 hbox hb; have n0_ := Aside0.mk (blk_below (g := gb124) (o := .cells #[.int .i64 x125000_1, .int .i64 x125001_1, .int .i64 x125002_1] 25 (0, 0)) (by (with_reducible repeat (first | refine blk_drewN ?_ _ | refine blk_drew ?_ | refine blk_alloc ?_ _)); exact BK124.out) hb); have n1_ := Aside0.mk (below_step (by repeat (first | (with_reducible first | exact HB.out | apply below_alloc | apply pw_below_drewN | apply below_drew1 | refine below_set ?_ GE124.out) | exact HB.out)) hb); have n2_ := Aside0.mk (hbox); have n3_ := Aside0.mk ((by rw [hg]; exact (below_size (by repeat (first | (with_reducible first | exact HB.out | apply below_alloc | apply pw_below_drewN | apply below_drew1 | refine below_set ?_ GE124.out) | exact HB.out))) : w.heap.size ≤ gb130)); have n4_ := Aside0.mk ((by rw [hg]; exact (below_size (by repeat (first | (with_reducible first | exact HB.out | apply below_alloc | apply pw_below_drewN | apply below_drew1 | refine below_set ?_ GE124.out) | exact HB.out))) : w.heap.size ≤ gb130)); have n5_ := Aside0.mk ((by rw [hg]; exact Nat.ne_of_lt (blk_lt (g := gb124) (o := .cells #[.int .i64 x125000_1, .int .i64 x125001_1, .int .i64 x125002_1] 25 (0, 0)) (by (with_reducible repeat (first | refine blk_drewN ?_ _ | refine blk_drew ?_ | refine blk_alloc ?_ _)); exact BK124.out)) : gb124 ≠ gb130)); have n6_ := Aside0.mk ((by rw [hg]; exact Nat.ne_of_gt (blk_lt (g := gb124) (o := .cells #[.int .i64 x125000_1, .int .i64 x125001_1, .int .i64 x125002_1] 25 (0, 0)) (by (with_reducible repeat (first | refine blk_drewN ?_ _ | refine blk_drew ?_ | refine blk_alloc ?_ _)); exact BK124.out)) : gb130 ≠ gb124)); clear BK124; clear HB; have BK124 := n0_; have HB := n1_; have BK130 := n2_; have GW130 := n3_; have GE130 := n4_; have NB124_130 := n5_; have NB130_124 := n6_; clear n0_ n1_ n2_ n3_ n4_ n5_ n6_; clear hb hbox hg; have hnb22 := NB130_124.out; have hnc22 := NB124_130.out; have hcz23_0 : w21.cell? ⟨gb130, 0, none⟩ = some (.int .i64 0) := (blk_cell BK130.out 0).trans rfl; have hcz23_1 : w21.cell? ⟨gb130, 1, none⟩ = some (.int .i64 0) := (blk_cell BK130.out 1).trans rfl; have hcz23_2 : w21.cell? ⟨gb130, 2, none⟩ = some (.int .i64 0) := (blk_cell BK130.out 2).trans rfl; have hfz23_0 := blk_frozen BK130.out 0; have hfz23_1 := blk_frozen BK130.out 1; have hfz23_2 := blk_frozen BK130.out 2) | (go_at_call 9; (with_reducible refine (stopcocklaw20_num.calls t129 t131 _ A16.out).mono ?_); rintro e w' ⟨rfl, ⟨nd, rfl⟩⟩; (try first | exact ⟨rfl, _, World.drewN_drewN _ _ _⟩ | exact ⟨rfl, _, Eq.trans (World.drewN_drewN _ _ _) (congrArg (World.drewN _) (Nat.add_assoc _ _ _))⟩); have hcz24_0 : w21.cell? ⟨gb124, 0, none⟩ = some (.int .i64 x125000_1) := (blk_cell BK124.out 0).trans rfl; have hcz24_1 : w21.cell? ⟨gb124, 1, none⟩ = some (.int .i64 x125001_1) := (blk_cell BK124.out 1).trans rfl; have hcz24_2 : w21.cell? ⟨gb124, 2, none⟩ = some (.int .i64 x125002_1) := (blk_cell BK124.out 2).trans rfl; have hfz24_0 := blk_frozen BK124.out 0; have hfz24_1 := blk_frozen BK124.out 1; have hfz24_2 := blk_frozen BK124.out 2))
                      repeat (go_quiet (first | (go_at_call 8; (with_reducible refine (reno_Ack.calls x125000_1 x125001_1 x125002_1 (wrap64 (1 + (Int.tmod (wrap64 ((Int.tmod a0 1500) + 1500)) 1500))) (Int.tmod (wrap64 ((Int.tmod (rd l2 x8_1) x125000_1) + x125000_1)) x125000_1) t126 t127 t128 t129 _ A15.out).mono ?_); rintro e w20 ⟨rfl, hb⟩; have n0_ := Aside0.mk (blk_below (g := gb124) (o := .cells #[.int .i64 x125000_1, .int .i64 x125001_1, .int .i64 x125002_1] 25 (0, 0)) (by (with_reducible repeat (first | refine blk_drewN ?_ _ | refine blk_drew ?_ | refine blk_alloc ?_ _)); exact BK124.out) hb); have n1_ := Aside0.mk (below_step (by repeat (first | (with_reducible first | exact HB.out | apply below_alloc | apply pw_below_drewN | apply below_drew1 | refine below_set ?_ GE124.out) | exact HB.out)) hb); clear BK124; clear HB; have BK124 := n0_; have HB := n1_; clear n0_ n1_; (try clear hb); (try clear hb2); (try clear hk); (try clear hi)) | ((with_reducible refine gate_dst (N := 10) rfl ?_); (try (refine gate_guard (by rfl) ?_; dsimp only)); refine box_event ?hg (N := 10) ?hd (cs := #[.int .i64 0, .int .i64 0, .int .i64 0]) (t := 25) ?hr ?_; (case hd => rfl); (case hg => rfl); (case hr => first | (go_simp; done) | (go_simp; rfl)); intro gb130 hg w21 hbox hb; have n0_ := Aside0.mk (blk_below (g := gb124) (o := .cells #[.int .i64 x125000_1, .int .i64 x125001_1, .int .i64 x125002_1] 25 (0, 0)) (by (with_reducible repeat (first | refine blk_drewN ?_ _ | refine blk_drew ?_ | refine blk_alloc ?_ _)); exact BK124.out) hb); have n1_ := Aside0.mk (below_step (by repeat (first | (with_reducible first | exact HB.out | apply below_alloc | apply pw_below_drewN | apply below_drew1 | refine below_set ?_ GE124.out) | exact HB.out)) hb); have n2_ := Aside0.mk (hbox); have n3_ := Aside0.mk ((by rw [hg]; exact (below_size (by repeat (first | (with_reducible first | exact HB.out | apply below_alloc | apply pw_below_drewN | apply below_drew1 | refine below_set ?_ GE124.out) | exact HB.out))) : w.heap.size ≤ gb130)); have n4_ := Aside0.mk ((by rw [hg]; exact (below_size (by repeat (first | (with_reducible first | exact HB.out | apply below_alloc | apply pw_below_drewN | apply below_drew1 | refine below_set ?_ GE124.out) | exact HB.out))) : w.heap.size ≤ gb130)); have n5_ := Aside0.mk ((by rw [hg]; exact Nat.ne_of_lt (blk_lt (g := gb124) (o := .cells #[.int .i64 x125000_1, .int .i64 x125001_1, .int .i64 x125002_1] 25 (0, 0)) (by (with_reducible repeat (first | refine blk_drewN ?_ _ | refine blk_drew ?_ | refine blk_alloc ?_ _)); exact BK124.out)) : gb124 ≠ gb130)); have n6_ := Aside0.mk ((by rw [hg]; exact Nat.ne_of_gt (blk_lt (g := gb124) (o := .cells #[.int .i64 x125000_1, .int .i64 x125001_1, .int .i64 x125002_1] 25 (0, 0)) (by (with_reducible repeat (first | refine blk_drewN ?_ _ | refine blk_drew ?_ | refine blk_alloc ?_ _)); exact BK124.out)) : gb130 ≠ gb124)); clear BK124; clear HB; have BK124 := n0_; have HB := n1_; have BK130 := n2_; have GW130 := n3_; have GE130 := n4_; have NB124_130 := n5_; have NB130_124 := n6_; clear n0_ n1_ n2_ n3_ n4_ n5_ n6_; clear hb hbox hg; have hnb22 := NB130_124.out; have hnc22 := NB124_130.out; have hcz23_0 : w21.cell? ⟨gb130, 0, none⟩ = some (.int .i64 0) := (blk_cell BK130.out 0).trans rfl; have hcz23_1 : w21.cell? ⟨gb130, 1, none⟩ = some (.int .i64 0) := (blk_cell BK130.out 1).trans rfl; have hcz23_2 : w21.cell? ⟨gb130, 2, none⟩ = some (.int .i64 0) := (blk_cell BK130.out 2).trans rfl; have hfz23_0 := blk_frozen BK130.out 0; have hfz23_1 := blk_frozen BK130.out 1; have hfz23_2 := blk_frozen BK130.out 2) | (go_at_call 9; (with_reducible refine (stopcocklaw20_num.calls t129 t131 _ A16.out).mono ?_); rintro e w' ⟨rfl, ⟨nd, rfl⟩⟩; (try first | exact ⟨rfl, _, World.drewN_drewN _ _ _⟩ | exact ⟨rfl, _, Eq.trans (World.drewN_drewN _ _ _) (congrArg (World.drewN _) (Nat.add_assoc _ _ _))⟩); have hcz24_0 : w21.cell? ⟨gb124, 0, none⟩ = some (.int .i64 x125000_1) := (blk_cell BK124.out 0).trans rfl; have hcz24_1 : w21.cell? ⟨gb124, 1, none⟩ = some (.int .i64 x125001_1) := (blk_cell BK124.out 1).trans rfl; have hcz24_2 : w21.cell? ⟨gb124, 2, none⟩ = some (.int .i64 x125002_1) := (blk_cell BK124.out 2).trans rfl; have hfz24_0 := blk_frozen BK124.out 0; have hfz24_1 := blk_frozen BK124.out 1; have hfz24_2 := blk_frozen BK124.out 2)); go_upto_region 13 with (first | (go_at_call 8; (with_reducible refine (reno_Ack.calls x125000_1 x125001_1 x125002_1 (wrap64 (1 + (Int.tmod (wrap64 ((Int.tmod a0 1500) + 1500)) 1500))) (Int.tmod (wrap64 ((Int.tmod (rd l2 x8_1) x125000_1) + x125000_1)) x125000_1) t126 t127 t128 t129 _ A15.out).mono ?_); rintro e w20 ⟨rfl, hb⟩; have n0_ := Aside0.mk (blk_below (g := gb124) (o := .cells #[.int .i64 x125000_1, .int .i64 x125001_1, .int .i64 x125002_1] 25 (0, 0)) (by (with_reducible repeat (first | refine blk_drewN ?_ _ | refine blk_drew ?_ | refine blk_alloc ?_ _)); exact BK124.out) hb); have n1_ := Aside0.mk (below_step (by repeat (first | (with_reducible first | exact HB.out | apply below_alloc | apply pw_below_drewN | apply below_drew1 | refine below_set ?_ GE124.out) | exact HB.out)) hb); clear BK124; clear HB; have BK124 := n0_; have HB := n1_; clear n0_ n1_; (try clear hb); (try clear hb2); (try clear hk); (try clear hi)) | ((with_reducible refine gate_dst (N := 10) rfl ?_); (try (refine gate_guard (by rfl) ?_; dsimp only)); refine box_event ?hg (N := 10) ?hd (cs := #[.int .i64 0, .int .i64 0, .int .i64 0]) (t := 25) ?hr ?_; (case hd => rfl); (case hg => rfl); (case hr => first | (go_simp; done) | (go_simp; rfl)); intro gb130 hg w21 hbox hb; have n0_ := Aside0.mk (blk_below (g := gb124) (o := .cells #[.int .i64 x125000_1, .int .i64 x125001_1, .int .i64 x125002_1] 25 (0, 0)) (by (with_reducible repeat (first | refine blk_drewN ?_ _ | refine blk_drew ?_ | refine blk_alloc ?_ _)); exact BK124.out) hb); have n1_ := Aside0.mk (below_step (by repeat (first | (with_reducible first | exact HB.out | apply below_alloc | apply pw_below_drewN | apply below_drew1 | refine below_set ?_ GE124.out) | exact HB.out)) hb); have n2_ := Aside0.mk (hbox); have n3_ := Aside0.mk ((by rw [hg]; exact (below_size (by repeat (first | (with_reducible first | exact HB.out | apply below_alloc | apply pw_below_drewN | apply below_drew1 | refine below_set ?_ GE124.out) | exact HB.out))) : w.heap.size ≤ gb130)); have n4_ := Aside0.mk ((by rw [hg]; exact (below_size (by repeat (first | (with_reducible first | exact HB.out | apply below_alloc | apply pw_below_drewN | apply below_drew1 | refine below_set ?_ GE124.out) | exact HB.out))) : w.heap.size ≤ gb130)); have n5_ := Aside0.mk ((by rw [hg]; exact Nat.ne_of_lt (blk_lt (g := gb124) (o := .cells #[.int .i64 x125000_1, .int .i64 x125001_1, .int .i64 x125002_1] 25 (0, 0)) (by (with_reducible repeat (first | refine blk_drewN ?_ _ | refine blk_drew ?_ | refine blk_alloc ?_ _)); exact BK124.out)) : gb124 ≠ gb130)); have n6_ := Aside0.mk ((by rw [hg]; exact Nat.ne_of_gt (blk_lt (g := gb124) (o := .cells #[.int .i64 x125000_1, .int .i64 x125001_1, .int .i64 x125002_1] 25 (0, 0)) (by (with_reducible repeat (first | refine blk_drewN ?_ _ | refine blk_drew ?_ | refine blk_alloc ?_ _)); exact BK124.out)) : gb130 ≠ gb124)); clear BK124; clear HB; have BK124 := n0_; have HB := n1_; have BK130 := n2_; have GW130 := n3_; have GE130 := n4_; have NB124_130 := n5_; have NB130_124 := n6_; clear n0_ n1_ n2_ n3_ n4_ n5_ n6_; clear hb hbox hg; have hnb22 := NB130_124.out; have hnc22 := NB124_130.out; have hcz23_0 : w21.cell? ⟨gb130, 0, none⟩ = some (.int .i64 0) := (blk_cell BK130.out 0).trans rfl; have hcz23_1 : w21.cell? ⟨gb130, 1, none⟩ = some (.int .i64 0) := (blk_cell BK130.out 1).trans rfl; have hcz23_2 : w21.cell? ⟨gb130, 2, none⟩ = some (.int .i64 0) := (blk_cell BK130.out 2).trans rfl; have hfz23_0 := blk_frozen BK130.out 0; have hfz23_1 := blk_frozen BK130.out 1; have hfz23_2 := blk_frozen BK130.out 2) | (go_at_call 9; (with_reducible refine (stopcocklaw20_num.calls t129 t131 _ A16.out).mono ?_); rintro e w' ⟨rfl, ⟨nd, rfl⟩⟩; (try first | exact ⟨rfl, _, World.drewN_drewN _ _ _⟩ | exact ⟨rfl, _, Eq.trans (World.drewN_drewN _ _ _) (congrArg (World.drewN _) (Nat.add_assoc _ _ _))⟩); have hcz24_0 : w21.cell? ⟨gb124, 0, none⟩ = some (.int .i64 x125000_1) := (blk_cell BK124.out 0).trans rfl; have hcz24_1 : w21.cell? ⟨gb124, 1, none⟩ = some (.int .i64 x125001_1) := (blk_cell BK124.out 1).trans rfl; have hcz24_2 : w21.cell? ⟨gb124, 2, none⟩ = some (.int .i64 x125002_1) := (blk_cell BK124.out 2).trans rfl; have hfz24_0 := blk_frozen BK124.out 0; have hfz24_1 := blk_frozen BK124.out 1; have hfz24_2 := blk_frozen BK124.out 2)))
                      (try simp only [Act.put, List.setIfInBounds_toArray, List.set_cons_zero, List.set_cons_succ])
                      go_cut [66] (fun v66 wc => ∃ (kq : Nat) (x66_17 : Bool), v66 = .bool x66_17 ∧ Aside0 (stopcocklaw20_RenoGrows.j2 kq (wrap64 (1 + (Int.tmod (wrap64 ((Int.tmod a0 1500) + 1500)) 1500))) l2 x8_1 (Int.tmod (wrap64 ((Int.tmod (rd l2 x8_1) x125000_1) + x125000_1)) x125000_1) (wrap64 (t126 - x125000_1)) x66_17 x125000_1 x125001_1 x125002_1 t126 t127 t128 = some r) ∧ Aside0 (kq ≤ kj8) ∧ Aside0 (wc.heap[gb124]? = some (.cells #[.int .i64 x125000_1, .int .i64 x125001_1, .int .i64 x125002_1] 25 (0, 0))) ∧ Aside0 (wc.heap[gb130]? = some (.cells #[.int .i64 t126, .int .i64 t127, .int .i64 t128] 25 (0, 0))) ∧ Aside0 (Below w.heap.size w wc))
                      case first =>
                        have H := HC18.out
                        clear HC18
                        by_cases c25 : x125000_1 < x125001_1
                        · rw [if_pos c25] at H
                          have c25b0 : decide (x125000_1 < x125001_1) = true := decide_eq_true c25
                          clear c25
                          (first | rw [c25b0] | (simp only [i64_w, i32_w]; rw [c25b0]) | skip)
                          obtain ⟨ji26, hji26⟩ : ∃ j_ : Int, (mn (Int.tmod (wrap64 ((Int.tmod (rd l2 x8_1) x125000_1) + x125000_1)) x125000_1) (wrap64 (1 + (Int.tmod (wrap64 ((Int.tmod a0 1500) + 1500)) 1500)))) = j_ := ⟨_, rfl⟩
                          replace H : (stopcocklaw20_RenoGrows.j2 kj8 (wrap64 (1 + (Int.tmod (wrap64 ((Int.tmod a0 1500) + 1500)) 1500))) l2 x8_1 (Int.tmod (wrap64 ((Int.tmod (rd l2 x8_1) x125000_1) + x125000_1)) x125000_1) (wrap64 (t126 - x125000_1)) ((wrap64 (t126 - x125000_1)) != (ji26)) x125000_1 x125001_1 x125002_1 t126 t127 t128) = some r := by first | (rw [hji26] at H; exact H) | (simp only [hji26] at H ⊢; exact H)
                          have hji26_ : (if (wrap64 (1 + (Int.tmod (wrap64 ((Int.tmod a0 1500) + 1500)) 1500))) < (Int.tmod (wrap64 ((Int.tmod (rd l2 x8_1) x125000_1) + x125000_1)) x125000_1) then (wrap64 (1 + (Int.tmod (wrap64 ((Int.tmod a0 1500) + 1500)) 1500))) else (Int.tmod (wrap64 ((Int.tmod (rd l2 x8_1) x125000_1) + x125000_1)) x125000_1)) = ji26 := hji26
                          have H' := Aside0.mk H
                          clear H
                          have hnb27 := NB124_130.out
                          have hnc27 := NB130_124.out
                          have hcz28_0 : w21.cell? ⟨gb124, 0, none⟩ = some (.int .i64 x125000_1) := (blk_cell BK124.out 0).trans rfl
                          have hcz28_1 : w21.cell? ⟨gb124, 1, none⟩ = some (.int .i64 x125001_1) := (blk_cell BK124.out 1).trans rfl
                          have hcz28_2 : w21.cell? ⟨gb124, 2, none⟩ = some (.int .i64 x125002_1) := (blk_cell BK124.out 2).trans rfl
                          have hfz28_0 := blk_frozen BK124.out 0
                          have hfz28_1 := blk_frozen BK124.out 1
                          have hfz28_2 := blk_frozen BK124.out 2
                          go_wp2
                          repeat (go_quiet (fail); try go_wp2)
                          go_meet
                          case rel => exact ⟨_, (((wrap64 (t126 - x125000_1)) != (ji26))), (by first | rfl | (simp; done) | (simp only [← hji26] <;> (first | rfl | simp)) | (simp [*]; done)), H', ⟨by have := HK1.out; have := HJ8.out; first | omega | exact Nat.le_refl _⟩, ⟨by (with_reducible repeat (first | refine blk_drewN ?_ _ | refine blk_drew ?_ | refine blk_alloc ?_ _)); refine blk_far ?_ NB124_130.out _; (with_reducible repeat (first | refine blk_drewN ?_ _ | refine blk_drew ?_ | refine blk_alloc ?_ _)); refine blk_far ?_ NB124_130.out _; (with_reducible repeat (first | refine blk_drewN ?_ _ | refine blk_drew ?_ | refine blk_alloc ?_ _)); refine blk_far ?_ NB124_130.out _; (with_reducible repeat (first | refine blk_drewN ?_ _ | refine blk_drew ?_ | refine blk_alloc ?_ _)); exact BK124.out⟩, ⟨by (with_reducible repeat (first | refine blk_drewN ?_ _ | refine blk_drew ?_ | refine blk_alloc ?_ _)); refine blk_put (cs := #[.int .i64 t126, .int .i64 t127, .int .i64 0]) ?_ 2 _ rfl; (with_reducible repeat (first | refine blk_drewN ?_ _ | refine blk_drew ?_ | refine blk_alloc ?_ _)); refine blk_put (cs := #[.int .i64 t126, .int .i64 0, .int .i64 0]) ?_ 1 _ rfl; (with_reducible repeat (first | refine blk_drewN ?_ _ | refine blk_drew ?_ | refine blk_alloc ?_ _)); refine blk_put (cs := #[.int .i64 0, .int .i64 0, .int .i64 0]) ?_ 0 _ rfl; (with_reducible repeat (first | refine blk_drewN ?_ _ | refine blk_drew ?_ | refine blk_alloc ?_ _)); exact BK130.out⟩, ⟨by repeat (first | (with_reducible first | exact HB.out | apply below_alloc | apply pw_below_drewN | apply below_drew1 | refine below_set ?_ GE124.out | refine below_set ?_ GE130.out) | exact HB.out)⟩⟩
                        · rw [if_neg c25] at H
                          have c25b0 : decide (x125000_1 < x125001_1) = false := decide_eq_false c25
                          clear c25
                          (first | rw [c25b0] | (simp only [i64_w, i32_w]; rw [c25b0]) | skip)
                          have H' := Aside0.mk H
                          clear H
                          have hnb29 := NB124_130.out
                          have hnc29 := NB130_124.out
                          have hcz30_0 : w21.cell? ⟨gb124, 0, none⟩ = some (.int .i64 x125000_1) := (blk_cell BK124.out 0).trans rfl
                          have hcz30_1 : w21.cell? ⟨gb124, 1, none⟩ = some (.int .i64 x125001_1) := (blk_cell BK124.out 1).trans rfl
                          have hcz30_2 : w21.cell? ⟨gb124, 2, none⟩ = some (.int .i64 x125002_1) := (blk_cell BK124.out 2).trans rfl
                          have hfz30_0 := blk_frozen BK124.out 0
                          have hfz30_1 := blk_frozen BK124.out 1
                          have hfz30_2 := blk_frozen BK124.out 2
                          go_wp2
                          repeat (go_quiet (fail); try go_wp2)
                          go_meet
                          case rel => exact ⟨_, (false), (by first | rfl | (simp; done) | (simp [*]; done)), H', ⟨by have := HK1.out; have := HJ8.out; first | omega | exact Nat.le_refl _⟩, ⟨by (with_reducible repeat (first | refine blk_drewN ?_ _ | refine blk_drew ?_ | refine blk_alloc ?_ _)); refine blk_far ?_ NB124_130.out _; (with_reducible repeat (first | refine blk_drewN ?_ _ | refine blk_drew ?_ | refine blk_alloc ?_ _)); refine blk_far ?_ NB124_130.out _; (with_reducible repeat (first | refine blk_drewN ?_ _ | refine blk_drew ?_ | refine blk_alloc ?_ _)); refine blk_far ?_ NB124_130.out _; (with_reducible repeat (first | refine blk_drewN ?_ _ | refine blk_drew ?_ | refine blk_alloc ?_ _)); exact BK124.out⟩, ⟨by (with_reducible repeat (first | refine blk_drewN ?_ _ | refine blk_drew ?_ | refine blk_alloc ?_ _)); refine blk_put (cs := #[.int .i64 t126, .int .i64 t127, .int .i64 0]) ?_ 2 _ rfl; (with_reducible repeat (first | refine blk_drewN ?_ _ | refine blk_drew ?_ | refine blk_alloc ?_ _)); refine blk_put (cs := #[.int .i64 t126, .int .i64 0, .int .i64 0]) ?_ 1 _ rfl; (with_reducible repeat (first | refine blk_drewN ?_ _ | refine blk_drew ?_ | refine blk_alloc ?_ _)); refine blk_put (cs := #[.int .i64 0, .int .i64 0, .int .i64 0]) ?_ 0 _ rfl; (with_reducible repeat (first | refine blk_drewN ?_ _ | refine blk_drew ?_ | refine blk_alloc ?_ _)); exact BK130.out⟩, ⟨by repeat (first | (with_reducible first | exact HB.out | apply below_alloc | apply pw_below_drewN | apply below_drew1 | refine below_set ?_ GE124.out | refine below_set ?_ GE130.out) | exact HB.out)⟩⟩
                      case rest =>
                        clear HC18
                        try clear c1
                        try clear p1
                        try clear q1
                        try clear hx1
                        try clear c2
                        try clear p2
                        try clear c3
                        try clear c5
                        try clear p6
                        try clear c10
                        try clear c10b0
                        try clear c11
                        try clear c12
                        try clear c12b0
                        try clear p12
                        try clear q12
                        try clear hx12
                        try clear c13
                        try clear c13b0
                        try clear c14
                        try clear c14b0
                        try clear c14b1
                        try clear c17
                        try clear c17b0
                        try clear c17b1
                        try clear c22
                        try clear c25
                        try clear c25b0
                        try clear c27
                        try clear c29
                        try clear hcz19_0
                        try clear hcz19_1
                        try clear hcz19_2
                        try clear hcz23_0
                        try clear hcz23_1
                        try clear hcz23_2
                        try clear hcz24_0
                        try clear hcz24_1
                        try clear hcz24_2
                        try clear hcz28_0
                        try clear hcz28_1
                        try clear hcz28_2
                        try clear hcz30_0
                        try clear hcz30_1
                        try clear hcz30_2
                        try clear hcz8_0
                        try clear hcz8_1
                        try clear hcz8_2
                        try clear hfz19_0
                        try clear hfz19_1
                        try clear hfz19_2
                        try clear hfz23_0
                        try clear hfz23_1
                        try clear hfz23_2
                        try clear hfz24_0
                        try clear hfz24_1
                        try clear hfz24_2
                        try clear hfz28_0
                        try clear hfz28_1
                        try clear hfz28_2
                        try clear hfz30_0
                        try clear hfz30_1
                        try clear hfz30_2
                        try clear hfz8_0
                        try clear hfz8_1
                        try clear hfz8_2
                        try clear hx125_0
                        try clear p125
                        try clear p2
                        try clear p6
                        try clear q125
                        obtain ⟨kq, x66_17, rfl, HA, HJ17, BK124, BK130, HB⟩ := hcut
                        cases kq with
                        | zero => exact absurd HA.out (by simp [stopcocklaw20_RenoGrows.j2])
                        | succ kj17 =>
                          have H := HA.out
                          clear HA
                          simp only [stopcocklaw20_RenoGrows.j2] at H
                          by_cases c31 : x66_17 = true
                          · subst c31
                            have H1 : (some false) = some r := by rw [if_pos rfl] at H; exact H
                            clear H
                            have H := H1
                            clear H1
                            exact absurd ((Option.some.inj H).trans HRT.out) (by decide)
                          · replace c31 := Bool.eq_false_iff.mpr c31
                            subst c31
                            have H1 : (if x125000_1 ≥ x125001_1 then (if (wrap64 (t126 - x125000_1)) = 0 then (if (((wrap64 (t126 - x125000_1)) == (wrap64 (1 + (Int.tmod (wrap64 ((Int.tmod a0 1500) + 1500)) 1500)))) != (decide ((wrap64 (x125002_1 + (Int.tmod (wrap64 ((Int.tmod (rd l2 x8_1) x125000_1) + x125000_1)) x125000_1))) ≥ x125000_1))) = true then (some false) else (stopcocklaw20_RenoGrows.l0 kj17 (wrap64 (1 + (Int.tmod (wrap64 ((Int.tmod a0 1500) + 1500)) 1500))) l2 (wrap64 (x8_1 + 1)) t126 t127 t128)) else (if (wrap64 (t126 - x125000_1)) = (wrap64 (1 + (Int.tmod (wrap64 ((Int.tmod a0 1500) + 1500)) 1500))) then (if (((wrap64 (t126 - x125000_1)) == (wrap64 (1 + (Int.tmod (wrap64 ((Int.tmod a0 1500) + 1500)) 1500)))) != (decide ((wrap64 (x125002_1 + (Int.tmod (wrap64 ((Int.tmod (rd l2 x8_1) x125000_1) + x125000_1)) x125000_1))) ≥ x125000_1))) = true then (some false) else (stopcocklaw20_RenoGrows.l0 kj17 (wrap64 (1 + (Int.tmod (wrap64 ((Int.tmod a0 1500) + 1500)) 1500))) l2 (wrap64 (x8_1 + 1)) t126 t127 t128)) else (some false))) else (stopcocklaw20_RenoGrows.l0 kj17 (wrap64 (1 + (Int.tmod (wrap64 ((Int.tmod a0 1500) + 1500)) 1500))) l2 (wrap64 (x8_1 + 1)) t126 t127 t128)) = some r := by rw [if_neg (show ¬ (false = true) by decide)] at H; exact H
                            clear H
                            have H := H1
                            clear H1
                            by_cases c32 : x125000_1 ≥ x125001_1
                            · rw [if_pos c32] at H
                              have c32b0 : decide (x125001_1 ≤ x125000_1) = true := decide_eq_true c32
                              clear c32
                              by_cases c33 : (wrap64 (t126 - x125000_1)) = 0
                              · rw [if_pos c33] at H
                                have c33b0 : ((wrap64 (t126 - x125000_1)) == 0) = true := beq_iff_eq.mpr c33
                                have c33b1 : ((wrap64 (t126 - x125000_1)) != 0) = false := bne_eq_false_iff_eq.mpr c33
                                clear c33
                                by_cases c34 : (((wrap64 (t126 - x125000_1)) == (wrap64 (1 + (Int.tmod (wrap64 ((Int.tmod a0 1500) + 1500)) 1500)))) != (decide ((wrap64 (x125002_1 + (Int.tmod (wrap64 ((Int.tmod (rd l2 x8_1) x125000_1) + x125000_1)) x125000_1))) ≥ x125000_1))) = true
                                · rw [if_pos c34] at H
                                  have c34b0 : (((wrap64 (t126 - x125000_1)) == (wrap64 (1 + (Int.tmod (wrap64 ((Int.tmod a0 1500) + 1500)) 1500)))) != (decide ((wrap64 (x125002_1 + (Int.tmod (wrap64 ((Int.tmod (rd l2 x8_1) x125000_1) + x125000_1)) x125000_1))) ≥ x125000_1))) = true := c34
                                  (try (have c34b1 : decide (((wrap64 (t126 - x125000_1)) == (wrap64 (1 + (Int.tmod (wrap64 ((Int.tmod a0 1500) + 1500)) 1500)))) = (decide ((wrap64 (x125002_1 + (Int.tmod (wrap64 ((Int.tmod (rd l2 x8_1) x125000_1) + x125000_1)) x125000_1))) ≥ x125000_1))) = false := by simpa using c34))
                                  (try (have c34b2 : (((wrap64 (t126 - x125000_1)) == (wrap64 (1 + (Int.tmod (wrap64 ((Int.tmod a0 1500) + 1500)) 1500)))) == (decide ((wrap64 (x125002_1 + (Int.tmod (wrap64 ((Int.tmod (rd l2 x8_1) x125000_1) + x125000_1)) x125000_1))) ≥ x125000_1))) = false := by simpa using c34))
                                  (try (have c34b3 : ¬ (((wrap64 (t126 - x125000_1)) == (wrap64 (1 + (Int.tmod (wrap64 ((Int.tmod a0 1500) + 1500)) 1500)))) = (decide ((wrap64 (x125002_1 + (Int.tmod (wrap64 ((Int.tmod (rd l2 x8_1) x125000_1) + x125000_1)) x125000_1))) ≥ x125000_1))) := by simpa using c34))
                                  (try (have c34b4 : (decide ((wrap64 (x125002_1 + (Int.tmod (wrap64 ((Int.tmod (rd l2 x8_1) x125000_1) + x125000_1)) x125000_1))) ≥ x125000_1)) = !((wrap64 (t126 - x125000_1)) == (wrap64 (1 + (Int.tmod (wrap64 ((Int.tmod a0 1500) + 1500)) 1500)))) := by (have q_ := c34; revert q_; generalize ((wrap64 (t126 - x125000_1)) == (wrap64 (1 + (Int.tmod (wrap64 ((Int.tmod a0 1500) + 1500)) 1500)))) = a_; generalize (decide ((wrap64 (x125002_1 + (Int.tmod (wrap64 ((Int.tmod (rd l2 x8_1) x125000_1) + x125000_1)) x125000_1))) ≥ x125000_1)) = b_; cases a_ <;> cases b_ <;> simp)))
                                  clear c34
                                  exact absurd ((Option.some.inj H).trans HRT.out) (by decide)
                                · rw [if_neg c34] at H
                                  have c34b0 : (((wrap64 (t126 - x125000_1)) == (wrap64 (1 + (Int.tmod (wrap64 ((Int.tmod a0 1500) + 1500)) 1500)))) != (decide ((wrap64 (x125002_1 + (Int.tmod (wrap64 ((Int.tmod (rd l2 x8_1) x125000_1) + x125000_1)) x125000_1))) ≥ x125000_1))) = false := by simpa using c34
                                  (try (have c34b1 : decide (((wrap64 (t126 - x125000_1)) == (wrap64 (1 + (Int.tmod (wrap64 ((Int.tmod a0 1500) + 1500)) 1500)))) = (decide ((wrap64 (x125002_1 + (Int.tmod (wrap64 ((Int.tmod (rd l2 x8_1) x125000_1) + x125000_1)) x125000_1))) ≥ x125000_1))) = true := by simpa using c34))
                                  (try (have c34b2 : (((wrap64 (t126 - x125000_1)) == (wrap64 (1 + (Int.tmod (wrap64 ((Int.tmod a0 1500) + 1500)) 1500)))) == (decide ((wrap64 (x125002_1 + (Int.tmod (wrap64 ((Int.tmod (rd l2 x8_1) x125000_1) + x125000_1)) x125000_1))) ≥ x125000_1))) = true := by simpa using c34))
                                  (try (have c34b3 : (decide ((wrap64 (x125002_1 + (Int.tmod (wrap64 ((Int.tmod (rd l2 x8_1) x125000_1) + x125000_1)) x125000_1))) ≥ x125000_1)) = ((wrap64 (t126 - x125000_1)) == (wrap64 (1 + (Int.tmod (wrap64 ((Int.tmod a0 1500) + 1500)) 1500)))) := by (have q_ := c34; revert q_; generalize ((wrap64 (t126 - x125000_1)) == (wrap64 (1 + (Int.tmod (wrap64 ((Int.tmod a0 1500) + 1500)) 1500)))) = a_; generalize (decide ((wrap64 (x125002_1 + (Int.tmod (wrap64 ((Int.tmod (rd l2 x8_1) x125000_1) + x125000_1)) x125000_1))) ≥ x125000_1)) = b_; cases a_ <;> cases b_ <;> simp)))
                                  clear c34
                                  have H' := Aside0.mk H
                                  clear H
                                  have hnb35 := NB124_130.out
                                  have hnc35 := NB130_124.out
                                  have hcz36_0 : wc.cell? ⟨gb124, 0, none⟩ = some (.int .i64 x125000_1) := (blk_cell BK124.out 0).trans rfl
                                  have hcz36_1 : wc.cell? ⟨gb124, 1, none⟩ = some (.int .i64 x125001_1) := (blk_cell BK124.out 1).trans rfl
                                  have hcz36_2 : wc.cell? ⟨gb124, 2, none⟩ = some (.int .i64 x125002_1) := (blk_cell BK124.out 2).trans rfl
                                  have hfz36_0 := blk_frozen BK124.out 0
                                  have hfz36_1 := blk_frozen BK124.out 1
                                  have hfz36_2 := blk_frozen BK124.out 2
                                  have hcz37_0 : wc.cell? ⟨gb130, 0, none⟩ = some (.int .i64 t126) := (blk_cell BK130.out 0).trans rfl
                                  have hcz37_1 : wc.cell? ⟨gb130, 1, none⟩ = some (.int .i64 t127) := (blk_cell BK130.out 1).trans rfl
                                  have hcz37_2 : wc.cell? ⟨gb130, 2, none⟩ = some (.int .i64 t128) := (blk_cell BK130.out 2).trans rfl
                                  have hfz37_0 := blk_frozen BK130.out 0
                                  have hfz37_1 := blk_frozen BK130.out 1
                                  have hfz37_2 := blk_frozen BK130.out 2
                                  go_wp2
                                  repeat (go_quiet (fail); try go_wp2)
                                  go_roundg kj17
                                  case measure => have := HK1.out; have := HJ8.out; have := HJ17.out; omega
                                  case rel => exact ⟨(wrap64 (x8_1 + 1)), (t126), (t127), (t128), (by first | rfl | (simp; done) | (simp [*]; done)), H', ⟨by have := HK1.out; have := HJ8.out; have := HJ17.out; omega⟩, ⟨by (with_reducible repeat (first | refine blk_drewN ?_ _ | refine blk_drew ?_ | refine blk_alloc ?_ _)); refine blk_put (cs := #[.int .i64 t126, .int .i64 t127, .int .i64 x125002_1]) ?_ 2 _ rfl; (with_reducible repeat (first | refine blk_drewN ?_ _ | refine blk_drew ?_ | refine blk_alloc ?_ _)); refine blk_put (cs := #[.int .i64 t126, .int .i64 x125001_1, .int .i64 x125002_1]) ?_ 1 _ rfl; (with_reducible repeat (first | refine blk_drewN ?_ _ | refine blk_drew ?_ | refine blk_alloc ?_ _)); refine blk_put (cs := #[.int .i64 x125000_1, .int .i64 x125001_1, .int .i64 x125002_1]) ?_ 0 _ rfl; (with_reducible repeat (first | refine blk_drewN ?_ _ | refine blk_drew ?_ | refine blk_alloc ?_ _)); exact BK124.out⟩, ⟨by repeat (first | (with_reducible first | exact HB.out | apply below_alloc | apply pw_below_drewN | apply below_drew1 | refine below_set ?_ GE124.out | refine below_set ?_ GE130.out) | exact HB.out)⟩⟩
                              · rw [if_neg c33] at H
                                have c33b0 : ((wrap64 (t126 - x125000_1)) == 0) = false := beq_eq_false_iff_ne.mpr c33
                                have c33b1 : ((wrap64 (t126 - x125000_1)) != 0) = true := bne_iff_ne.mpr c33
                                by_cases c38 : (wrap64 (t126 - x125000_1)) = (wrap64 (1 + (Int.tmod (wrap64 ((Int.tmod a0 1500) + 1500)) 1500)))
                                · rw [if_pos c38] at H
                                  have c38b0 : ((wrap64 (t126 - x125000_1)) == (wrap64 (1 + (Int.tmod (wrap64 ((Int.tmod a0 1500) + 1500)) 1500)))) = true := beq_iff_eq.mpr c38
                                  have c38b1 : ((wrap64 (t126 - x125000_1)) != (wrap64 (1 + (Int.tmod (wrap64 ((Int.tmod a0 1500) + 1500)) 1500)))) = false := bne_eq_false_iff_eq.mpr c38
                                  clear c38
                                  by_cases c39 : (((wrap64 (t126 - x125000_1)) == (wrap64 (1 + (Int.tmod (wrap64 ((Int.tmod a0 1500) + 1500)) 1500)))) != (decide ((wrap64 (x125002_1 + (Int.tmod (wrap64 ((Int.tmod (rd l2 x8_1) x125000_1) + x125000_1)) x125000_1))) ≥ x125000_1))) = true
                                  · rw [if_pos c39] at H
                                    have c39b0 : (((wrap64 (t126 - x125000_1)) == (wrap64 (1 + (Int.tmod (wrap64 ((Int.tmod a0 1500) + 1500)) 1500)))) != (decide ((wrap64 (x125002_1 + (Int.tmod (wrap64 ((Int.tmod (rd l2 x8_1) x125000_1) + x125000_1)) x125000_1))) ≥ x125000_1))) = true := c39
                                    (try (have c39b1 : decide (((wrap64 (t126 - x125000_1)) == (wrap64 (1 + (Int.tmod (wrap64 ((Int.tmod a0 1500) + 1500)) 1500)))) = (decide ((wrap64 (x125002_1 + (Int.tmod (wrap64 ((Int.tmod (rd l2 x8_1) x125000_1) + x125000_1)) x125000_1))) ≥ x125000_1))) = false := by simpa using c39))
                                    (try (have c39b2 : (((wrap64 (t126 - x125000_1)) == (wrap64 (1 + (Int.tmod (wrap64 ((Int.tmod a0 1500) + 1500)) 1500)))) == (decide ((wrap64 (x125002_1 + (Int.tmod (wrap64 ((Int.tmod (rd l2 x8_1) x125000_1) + x125000_1)) x125000_1))) ≥ x125000_1))) = false := by simpa using c39))
                                    (try (have c39b3 : ¬ (((wrap64 (t126 - x125000_1)) == (wrap64 (1 + (Int.tmod (wrap64 ((Int.tmod a0 1500) + 1500)) 1500)))) = (decide ((wrap64 (x125002_1 + (Int.tmod (wrap64 ((Int.tmod (rd l2 x8_1) x125000_1) + x125000_1)) x125000_1))) ≥ x125000_1))) := by simpa using c39))
                                    (try (have c39b4 : (decide ((wrap64 (x125002_1 + (Int.tmod (wrap64 ((Int.tmod (rd l2 x8_1) x125000_1) + x125000_1)) x125000_1))) ≥ x125000_1)) = !((wrap64 (t126 - x125000_1)) == (wrap64 (1 + (Int.tmod (wrap64 ((Int.tmod a0 1500) + 1500)) 1500)))) := by (have q_ := c39; revert q_; generalize ((wrap64 (t126 - x125000_1)) == (wrap64 (1 + (Int.tmod (wrap64 ((Int.tmod a0 1500) + 1500)) 1500)))) = a_; generalize (decide ((wrap64 (x125002_1 + (Int.tmod (wrap64 ((Int.tmod (rd l2 x8_1) x125000_1) + x125000_1)) x125000_1))) ≥ x125000_1)) = b_; cases a_ <;> cases b_ <;> simp)))
                                    clear c39
                                    exact absurd ((Option.some.inj H).trans HRT.out) (by decide)
                                  · rw [if_neg c39] at H
                                    have c39b0 : (((wrap64 (t126 - x125000_1)) == (wrap64 (1 + (Int.tmod (wrap64 ((Int.tmod a0 1500) + 1500)) 1500)))) != (decide ((wrap64 (x125002_1 + (Int.tmod (wrap64 ((Int.tmod (rd l2 x8_1) x125000_1) + x125000_1)) x125000_1))) ≥ x125000_1))) = false := by simpa using c39
                                    (try (have c39b1 : decide (((wrap64 (t126 - x125000_1)) == (wrap64 (1 + (Int.tmod (wrap64 ((Int.tmod a0 1500) + 1500)) 1500)))) = (decide ((wrap64 (x125002_1 + (Int.tmod (wrap64 ((Int.tmod (rd l2 x8_1) x125000_1) + x125000_1)) x125000_1))) ≥ x125000_1))) = true := by simpa using c39))
                                    (try (have c39b2 : (((wrap64 (t126 - x125000_1)) == (wrap64 (1 + (Int.tmod (wrap64 ((Int.tmod a0 1500) + 1500)) 1500)))) == (decide ((wrap64 (x125002_1 + (Int.tmod (wrap64 ((Int.tmod (rd l2 x8_1) x125000_1) + x125000_1)) x125000_1))) ≥ x125000_1))) = true := by simpa using c39))
                                    (try (have c39b3 : (decide ((wrap64 (x125002_1 + (Int.tmod (wrap64 ((Int.tmod (rd l2 x8_1) x125000_1) + x125000_1)) x125000_1))) ≥ x125000_1)) = ((wrap64 (t126 - x125000_1)) == (wrap64 (1 + (Int.tmod (wrap64 ((Int.tmod a0 1500) + 1500)) 1500)))) := by (have q_ := c39; revert q_; generalize ((wrap64 (t126 - x125000_1)) == (wrap64 (1 + (Int.tmod (wrap64 ((Int.tmod a0 1500) + 1500)) 1500)))) = a_; generalize (decide ((wrap64 (x125002_1 + (Int.tmod (wrap64 ((Int.tmod (rd l2 x8_1) x125000_1) + x125000_1)) x125000_1))) ≥ x125000_1)) = b_; cases a_ <;> cases b_ <;> simp)))
                                    clear c39
                                    have H' := Aside0.mk H
                                    clear H
                                    have hnb40 := NB124_130.out
                                    have hnc40 := NB130_124.out
                                    have hcz41_0 : wc.cell? ⟨gb124, 0, none⟩ = some (.int .i64 x125000_1) := (blk_cell BK124.out 0).trans rfl
                                    have hcz41_1 : wc.cell? ⟨gb124, 1, none⟩ = some (.int .i64 x125001_1) := (blk_cell BK124.out 1).trans rfl
                                    have hcz41_2 : wc.cell? ⟨gb124, 2, none⟩ = some (.int .i64 x125002_1) := (blk_cell BK124.out 2).trans rfl
                                    have hfz41_0 := blk_frozen BK124.out 0
                                    have hfz41_1 := blk_frozen BK124.out 1
                                    have hfz41_2 := blk_frozen BK124.out 2
                                    have hcz42_0 : wc.cell? ⟨gb130, 0, none⟩ = some (.int .i64 t126) := (blk_cell BK130.out 0).trans rfl
                                    have hcz42_1 : wc.cell? ⟨gb130, 1, none⟩ = some (.int .i64 t127) := (blk_cell BK130.out 1).trans rfl
                                    have hcz42_2 : wc.cell? ⟨gb130, 2, none⟩ = some (.int .i64 t128) := (blk_cell BK130.out 2).trans rfl
                                    have hfz42_0 := blk_frozen BK130.out 0
                                    have hfz42_1 := blk_frozen BK130.out 1
                                    have hfz42_2 := blk_frozen BK130.out 2
                                    go_wp2
                                    repeat (go_quiet (fail); try go_wp2)
                                    go_roundg kj17
                                    case measure => have := HK1.out; have := HJ8.out; have := HJ17.out; omega
                                    case rel => exact ⟨(wrap64 (x8_1 + 1)), (t126), (t127), (t128), (by first | rfl | (simp; done) | (simp [*]; done)), H', ⟨by have := HK1.out; have := HJ8.out; have := HJ17.out; omega⟩, ⟨by (with_reducible repeat (first | refine blk_drewN ?_ _ | refine blk_drew ?_ | refine blk_alloc ?_ _)); refine blk_put (cs := #[.int .i64 t126, .int .i64 t127, .int .i64 x125002_1]) ?_ 2 _ rfl; (with_reducible repeat (first | refine blk_drewN ?_ _ | refine blk_drew ?_ | refine blk_alloc ?_ _)); refine blk_put (cs := #[.int .i64 t126, .int .i64 x125001_1, .int .i64 x125002_1]) ?_ 1 _ rfl; (with_reducible repeat (first | refine blk_drewN ?_ _ | refine blk_drew ?_ | refine blk_alloc ?_ _)); refine blk_put (cs := #[.int .i64 x125000_1, .int .i64 x125001_1, .int .i64 x125002_1]) ?_ 0 _ rfl; (with_reducible repeat (first | refine blk_drewN ?_ _ | refine blk_drew ?_ | refine blk_alloc ?_ _)); exact BK124.out⟩, ⟨by repeat (first | (with_reducible first | exact HB.out | apply below_alloc | apply pw_below_drewN | apply below_drew1 | refine below_set ?_ GE124.out | refine below_set ?_ GE130.out) | exact HB.out)⟩⟩
                                · rw [if_neg c38] at H
                                  have c38b0 : ((wrap64 (t126 - x125000_1)) == (wrap64 (1 + (Int.tmod (wrap64 ((Int.tmod a0 1500) + 1500)) 1500)))) = false := beq_eq_false_iff_ne.mpr c38
                                  have c38b1 : ((wrap64 (t126 - x125000_1)) != (wrap64 (1 + (Int.tmod (wrap64 ((Int.tmod a0 1500) + 1500)) 1500)))) = true := bne_iff_ne.mpr c38
                                  exact absurd ((Option.some.inj H).trans HRT.out) (by decide)
                            · rw [if_neg c32] at H
                              have c32b0 : decide (x125001_1 ≤ x125000_1) = false := decide_eq_false c32
                              clear c32
                              have H' := Aside0.mk H
                              clear H
                              have hnb43 := NB124_130.out
                              have hnc43 := NB130_124.out
                              have hcz44_0 : wc.cell? ⟨gb124, 0, none⟩ = some (.int .i64 x125000_1) := (blk_cell BK124.out 0).trans rfl
                              have hcz44_1 : wc.cell? ⟨gb124, 1, none⟩ = some (.int .i64 x125001_1) := (blk_cell BK124.out 1).trans rfl
                              have hcz44_2 : wc.cell? ⟨gb124, 2, none⟩ = some (.int .i64 x125002_1) := (blk_cell BK124.out 2).trans rfl
                              have hfz44_0 := blk_frozen BK124.out 0
                              have hfz44_1 := blk_frozen BK124.out 1
                              have hfz44_2 := blk_frozen BK124.out 2
                              have hcz45_0 : wc.cell? ⟨gb130, 0, none⟩ = some (.int .i64 t126) := (blk_cell BK130.out 0).trans rfl
                              have hcz45_1 : wc.cell? ⟨gb130, 1, none⟩ = some (.int .i64 t127) := (blk_cell BK130.out 1).trans rfl
                              have hcz45_2 : wc.cell? ⟨gb130, 2, none⟩ = some (.int .i64 t128) := (blk_cell BK130.out 2).trans rfl
                              have hfz45_0 := blk_frozen BK130.out 0
                              have hfz45_1 := blk_frozen BK130.out 1
                              have hfz45_2 := blk_frozen BK130.out 2
                              go_wp2
                              repeat (go_quiet (fail); try go_wp2)
                              go_roundg kj17
                              case measure => have := HK1.out; have := HJ8.out; have := HJ17.out; omega
                              case rel => exact ⟨(wrap64 (x8_1 + 1)), (t126), (t127), (t128), (by first | rfl | (simp; done) | (simp [*]; done)), H', ⟨by have := HK1.out; have := HJ8.out; have := HJ17.out; omega⟩, ⟨by (with_reducible repeat (first | refine blk_drewN ?_ _ | refine blk_drew ?_ | refine blk_alloc ?_ _)); refine blk_put (cs := #[.int .i64 t126, .int .i64 t127, .int .i64 x125002_1]) ?_ 2 _ rfl; (with_reducible repeat (first | refine blk_drewN ?_ _ | refine blk_drew ?_ | refine blk_alloc ?_ _)); refine blk_put (cs := #[.int .i64 t126, .int .i64 x125001_1, .int .i64 x125002_1]) ?_ 1 _ rfl; (with_reducible repeat (first | refine blk_drewN ?_ _ | refine blk_drew ?_ | refine blk_alloc ?_ _)); refine blk_put (cs := #[.int .i64 x125000_1, .int .i64 x125001_1, .int .i64 x125002_1]) ?_ 0 _ rfl; (with_reducible repeat (first | refine blk_drewN ?_ _ | refine blk_drew ?_ | refine blk_alloc ?_ _)); exact BK124.out⟩, ⟨by repeat (first | (with_reducible first | exact HB.out | apply below_alloc | apply pw_below_drewN | apply below_drew1 | refine below_set ?_ GE124.out | refine below_set ?_ GE130.out) | exact HB.out)⟩⟩
                    · rw [if_neg c17] at H
                      have c17b0 : (t131 == 0) = false := beq_eq_false_iff_ne.mpr c17
                      have c17b1 : (t131 != 0) = true := bne_iff_ne.mpr c17
                      exact absurd ((Option.some.inj H).trans HRT.out) (by decide)
                · rw [if_neg c13] at H
                  exact absurd H (by simp)
              · rw [if_neg c12] at H
                exact absurd H (by simp)
            · replace c11 := Bool.eq_false_iff.mpr c11
              subst c11
              have H1 : (some true) = some r := by rw [if_neg (show ¬ (false = true) by decide)] at H; exact H
              clear H
              have H := H1
              clear H1
              obtain rfl := Option.some.inj H
              go_wp2
              repeat (go_quiet (fail); try go_wp2)
              go_ret
              exact ⟨by first | rfl | (simp [errW_none, errW_some] <;> rfl) | (simp [*, errW_none, errW_some] <;> rfl), by repeat (first | (with_reducible first | exact HB.out | apply below_alloc | apply pw_below_drewN | apply below_drew1 | refine below_set ?_ GE124.out) | exact HB.out)⟩
  · replace c5 := Bool.eq_false_iff.mpr c5
    subst c5
    have H1 : (some false) = some r := by rw [if_neg (show ¬ (false = true) by decide)] at H; exact H
    clear H
    have H := H1
    clear H1
    exact absurd ((Option.some.inj H).trans HRT.out) (by decide)

/-- THE ONE PURE STATEMENT of stopcocklaw20_RenoGrows: yours. -/
def stopcocklaw20_RenoGrows.Pure : Prop := ∀ (a0 : Int) (a1 : Int) (l2 : List Int), (Lit.int .i64 a0).wf = true → (Lit.int .i64 a1).wf = true → l2.length ≤ maxLen → l2.length * 8 ≤ 140737488351232 → (∀ x ∈ l2, (Lit.int .i64 x).wf = true) → ∃ k, stopcocklaw20_RenoGrows.f k a0 a1 l2 = some true
theorem stopcocklaw20_RenoGrows.walk (P : stopcocklaw20_RenoGrows.Pure) (a0 : Int) (a1 : Int) (a2 : Option Addr) (len2 cap2 : Nat) (z2 : List Int) (w : World) (w0 : (Lit.int .i64 a0).wf = true) (w1 : (Lit.int .i64 a1).wf = true) (w2 : (a2 = none ∧ len2 = 0 ∧ cap2 = 0 ∧ z2 = []) ∨ ∃ x, a2 = some x ∧ len2 ≤ cap2 ∧ cap2 ≤ maxLen ∧ z2.length = cap2 ∧ (∀ i, i < z2.length → w.cell? (x.add i) = some (.int .i64 (z2.getD i 0))) ∧ ∀ n ∈ z2, (Lit.int .i64 n).wf = true) (y2 : len2 * 8 ≤ 140737488351232) :
    Calls Try.prog 3 #[.int .i64 a0, .int .i64 a1, .slice a2 len2 cap2] w fun e w' => e = .returned (.bool true) ∧ Below w.heap.size w w' := by
  obtain ⟨l2, rfl, hr2, hm2, hw2, hc2⟩ := ReadsInt.ofRowC w2
  obtain ⟨k, h⟩ := P a0 a1 l2 w0 w1 hm2 y2 hw2
  refine (stopcocklaw20_RenoGrows.calls k a0 a1 _ _ l2 true w (Kd.C_of_reads (d := (0 : Int)) (h1 := fun _ => rfl) hr2) hc2 h rfl).mono ?_
  rintro e w' ⟨rfl, hd⟩
  exact ⟨rfl, hd⟩

end Go.Proofs.Ytjhggbanonfbgaa.PG
