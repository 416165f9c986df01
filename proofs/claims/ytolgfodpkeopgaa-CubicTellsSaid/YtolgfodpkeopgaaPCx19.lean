-- Written by a program of this session (wip/tools/mkprint.py, mp.sh) for this claim.
import Derived.Test.YtolgfodpkeopgaaPCx0
import Derived.Test.YtolgfodpkeopgaaPCx13
import Derived.Test.YtolgfodpkeopgaaPCx15
import Derived.Test.YtolgfodpkeopgaaPCx17
import Derived.Test.YtolgfodpkeopgaaPCx18
namespace Go.Proofs.Ytolgfodpkeopgaa.PC
open Go.RowKit Go.Proofs.YtolgfodpkeopgaaW.PrintWords Go.Proofs.YtolgfodpkeopgaaW.PrintLast Go.Proofs.YtolgfodpkeopgaaW.PrintMore
attribute [local go_sem] max2_int min2_int max_two min_two max_three min_three max_four min_four   -- for this text's walks alone
set_option linter.unusedVariables false
set_option linter.unusedSimpArgs false

/-! ### stopcockref21_Ack: function 19 -/
def stopcockref21_Ack.j0 : Nat → Int → Int → Int → Int → Bool → Int → Int → Int → Int → Int → Int → Bool → Option (Int × Int × Int × Int × Int × Int × Bool × Int)
  | 0, _, _, _, _, _, _, _, _, _, _, _, _ => none
  | k + 1, x1, x2, x3, x4, x25, x208000, x208001, x208002, x208003, x208004, x208005, x208006 => if x25 = true then (some (0, 0, 0, 0, 0, 0, false, 4)) else (if x208000 < x208001 then (some (mn (wrap64 (x208000 + (mn x2 x1))) 1073741824, x208001, x208002, x208003, x208004, x208005, x208006, 0)) else (if x208006 = true then ((stopcockref21_Curve.f x208002 x1 (wrap64 ((wrap64 ((mx 0 (wrap64 (x3 - x208004))) + x4)) - x208003))).bind fun bt213 => (if (wrap64 (17 * x208000)) = 0 then (none) else (if (mn (wrap64 (x208005 + (wrap64 (Int.tdiv (wrap64 ((wrap64 (9 * x1)) * x2)) (wrap64 (17 * x208000)))))) 1073741824) > bt213.1 then (some (mx x208000 (mn (wrap64 (x208005 + (wrap64 (Int.tdiv (wrap64 ((wrap64 (9 * x1)) * x2)) (wrap64 (17 * x208000)))))) 1073741824), x208001, x208002, x208003, x208004, mn (wrap64 (x208005 + (wrap64 (Int.tdiv (wrap64 ((wrap64 (9 * x1)) * x2)) (wrap64 (17 * x208000)))))) 1073741824, x208006, 0)) else (if x208000 = 0 then (none) else (some (mn (wrap64 (x208000 + (wrap64 (Int.tdiv (wrap64 ((wrap64 ((mx x208000 (mn bt213.1 (wrap64 (Int.tdiv (wrap64 (x208000 * 3)) 2)))) - x208000)) * x2)) x208000)))) 1073741824, x208001, x208002, x208003, x208004, mn (wrap64 (x208005 + (wrap64 (Int.tdiv (wrap64 ((wrap64 (9 * x1)) * x2)) (wrap64 (17 * x208000)))))) 1073741824, x208006, 0)))))) else ((stopcockref21_Turn.f k x208002 x208000 x1).bind fun bt215 => ((stopcockref21_Curve.f (mx x208002 x208000) x1 (wrap64 ((wrap64 (x4)) - bt215.1))).bind fun bt217 => (if (wrap64 (17 * x208000)) = 0 then (none) else (if (mn (wrap64 (x208000 + (wrap64 (Int.tdiv (wrap64 ((wrap64 (9 * x1)) * x2)) (wrap64 (17 * x208000)))))) 1073741824) > bt217.1 then (some (mx x208000 (mn (wrap64 (x208000 + (wrap64 (Int.tdiv (wrap64 ((wrap64 (9 * x1)) * x2)) (wrap64 (17 * x208000)))))) 1073741824), x208001, mx x208002 x208000, bt215.1, x3, mn (wrap64 (x208000 + (wrap64 (Int.tdiv (wrap64 ((wrap64 (9 * x1)) * x2)) (wrap64 (17 * x208000)))))) 1073741824, true, 0)) else (if x208000 = 0 then (none) else (some (mn (wrap64 (x208000 + (wrap64 (Int.tdiv (wrap64 ((wrap64 ((mx x208000 (mn bt217.1 (wrap64 (Int.tdiv (wrap64 (x208000 * 3)) 2)))) - x208000)) * x2)) x208000)))) 1073741824, x208001, mx x208002 x208000, bt215.1, x3, mn (wrap64 (x208000 + (wrap64 (Int.tdiv (wrap64 ((wrap64 (9 * x1)) * x2)) (wrap64 (17 * x208000)))))) 1073741824, true, 0)))))))))
def stopcockref21_Ack.f (k : Nat) (a0_0 : Int) (a0_1 : Int) (a0_2 : Int) (a0_3 : Int) (a0_4 : Int) (a0_5 : Int) (a0_6 : Bool) (a1 : Int) (a2 : Int) (a3 : Int) (a4 : Int) : Option (Int × Int × Int × Int × Int × Int × Bool × Int) := (stopcockref21_Check.f a0_0 a0_1 a0_2 a0_3 a0_4 a0_5 a0_6 a1).bind fun t209 => (if t209 = 0 then ((stopcockref21_within.f a2 0 1073741824).bind fun t210 => (if t210 = true then ((stopcockref21_within.f a3 0 1099511627776).bind fun t211 => (if t211 = true then ((stopcockref21_within.f a4 0 1073741824).bind fun t212 => (stopcockref21_Ack.j0 k a1 a2 a3 a4 (!t212) a0_0 a0_1 a0_2 a0_3 a0_4 a0_5 a0_6)) else (stopcockref21_Ack.j0 k a1 a2 a3 a4 true a0_0 a0_1 a0_2 a0_3 a0_4 a0_5 a0_6))) else (stopcockref21_Ack.j0 k a1 a2 a3 a4 true a0_0 a0_1 a0_2 a0_3 a0_4 a0_5 a0_6))) else (some (0, 0, 0, 0, 0, 0, false, t209)))
theorem stopcockref21_Ack.mono_l : ∀ k, (∀ y0 y1 y2 y3 y4 y5 y6 y7 y8 y9 y10 y11, LeO (stopcockref21_Ack.j0 k y0 y1 y2 y3 y4 y5 y6 y7 y8 y9 y10 y11) (stopcockref21_Ack.j0 (k + 1) y0 y1 y2 y3 y4 y5 y6 y7 y8 y9 y10 y11))
  | 0 => fun _ _ _ _ _ _ _ _ _ _ _ _ r h => by simp [stopcockref21_Ack.j0] at h
  | k + 1 => by
    have ih0 := stopcockref21_Ack.mono_l k
    · intro y0 y1 y2 y3 y4 y5 y6 y7 y8 y9 y10 y11
      unfold stopcockref21_Ack.j0
      repeat' first
      | (with_reducible exact ih0 _ _ _ _ _ _ _ _ _ _ _ _)
      | (with_reducible exact stopcockref21_Turn.mono _ _ _ _)
      | (with_reducible exact LeO.refl _)
      | (with_reducible exact LeO.none _)
      | (with_reducible refine LeO.ite ?_ ?_)
      | (with_reducible refine LeO.bind ?_ (fun _ => ?_))
      | exact ih0 _ _ _ _ _ _ _ _ _ _ _ _
      | exact stopcockref21_Turn.mono _ _ _ _
      | exact LeO.none _
      | refine LeO.ite ?_ ?_
      | refine LeO.bind ?_ (fun _ => ?_)
theorem stopcockref21_Ack.mono : ∀ a0 a1 a2 a3 a4 a5 a6 a7 a8 a9 a10 k, LeO (stopcockref21_Ack.f k a0 a1 a2 a3 a4 a5 a6 a7 a8 a9 a10) (stopcockref21_Ack.f (k + 1) a0 a1 a2 a3 a4 a5 a6 a7 a8 a9 a10) := by
  intro a0 a1 a2 a3 a4 a5 a6 a7 a8 a9 a10 k
  have ih0 := stopcockref21_Ack.mono_l k
  unfold stopcockref21_Ack.f
  repeat' first
      | (with_reducible exact ih0 _ _ _ _ _ _ _ _ _ _ _ _)
      | (with_reducible exact stopcockref21_Turn.mono _ _ _ _)
      | (with_reducible exact LeO.refl _)
      | (with_reducible exact LeO.none _)
      | (with_reducible refine LeO.ite ?_ ?_)
      | (with_reducible refine LeO.bind ?_ (fun _ => ?_))
      | exact ih0 _ _ _ _ _ _ _ _ _ _ _ _
      | exact stopcockref21_Turn.mono _ _ _ _
      | exact LeO.none _
      | refine LeO.ite ?_ ?_
      | refine LeO.bind ?_ (fun _ => ?_)
def stopcockref21_Ack.T15 : Bool × List (List Nat × List Nat) := (true, [([], []), ([0], [0]), ([], []), ([2], [2]), ([], []), ([3, 4], [3, 4]), ([], []), ([6], [6]), ([7], [7]), ([5, 8], [5, 8]), ([1, 9], [1, 9]), ([10], [10]), ([0, 1, 2, 3, 4, 5, 6, 7, 8, 9, 10, 11], []), ([12, 11, 0, 1, 2, 3, 4, 5, 6, 7, 8, 9, 10, 11], [11, 12])])
def stopcockref21_Ack.B15 : List Nat := [0, 1, 0, 4, 0, 28, 0, 64, 192, 508, 1023, 2047, 4095, 8191]
theorem stopcockref21_Ack.tab15 : rtab .any (opsOf Try.f19 15) = stopcockref21_Ack.T15 := by kernel_rfl
theorem stopcockref21_Ack.bits15 : waitsOk stopcockref21_Ack.T15.2 stopcockref21_Ack.B15 = true := by kernel_rfl
def stopcockref21_Ack.T20 : Bool × List (List Nat × List Nat) := (true, [([], []), ([0], [0]), ([], []), ([], []), ([3], [3]), ([2, 4], [2, 4]), ([], []), ([5, 6], [5, 6]), ([], []), ([8], [8]), ([7, 9], [7, 9]), ([1, 10], [1, 10]), ([11], [11]), ([0, 1, 2, 3, 4, 5, 6, 7, 8, 9, 10, 11, 12], []), ([13, 12, 0, 1, 2, 3, 4, 5, 6, 7, 8, 9, 10, 11, 12], [12, 13])])
def stopcockref21_Ack.B20 : List Nat := [0, 1, 0, 0, 8, 28, 0, 124, 0, 256, 1020, 2047, 4095, 8191, 16383]
theorem stopcockref21_Ack.tab20 : rtab .any (opsOf Try.f19 20) = stopcockref21_Ack.T20 := by kernel_rfl
theorem stopcockref21_Ack.bits20 : waitsOk stopcockref21_Ack.T20.2 stopcockref21_Ack.B20 = true := by kernel_rfl
set_option maxHeartbeats 8000000 in
set_option maxRecDepth 100000 in
theorem stopcockref21_Ack.calls (k : Nat) (a0_0 : Int) (a0_1 : Int) (a0_2 : Int) (a0_3 : Int) (a0_4 : Int) (a0_5 : Int) (a0_6 : Bool) (a1 : Int) (a2 : Int) (a3 : Int) (a4 : Int) (r1 : Int) (r2 : Int) (r3 : Int) (r4 : Int) (r5 : Int) (r6 : Int) (r7 : Bool) (r8 : Int) (w : World) (h : stopcockref21_Ack.f k a0_0 a0_1 a0_2 a0_3 a0_4 a0_5 a0_6 a1 a2 a3 a4 = some (r1, r2, r3, r4, r5, r6, r7, r8)) :
    Calls Try.prog 19 #[.agg #[.int .i64 a0_0, .int .i64 a0_1, .int .i64 a0_2, .int .i64 a0_3, .int .i64 a0_4, .int .i64 a0_5, .bool a0_6], .int .i64 a1, .int .i64 a2, .int .i64 a3, .int .i64 a4] w fun e w' => e = .returned (.tuple #[.agg #[.int .i64 r1, .int .i64 r2, .int .i64 r3, .int .i64 r4, .int .i64 r5, .int .i64 r6, .bool r7], .int .i64 r8]) ∧ Below w.heap.size w w' := by
  have hu35 := Try.underlying35
  have HB := Aside0.mk (Below.refl w.heap.size w)
  have H : ((stopcockref21_Check.f a0_0 a0_1 a0_2 a0_3 a0_4 a0_5 a0_6 a1).bind fun t209 => (if t209 = 0 then ((stopcockref21_within.f a2 0 1073741824).bind fun t210 => (if t210 = true then ((stopcockref21_within.f a3 0 1099511627776).bind fun t211 => (if t211 = true then ((stopcockref21_within.f a4 0 1073741824).bind fun t212 => (stopcockref21_Ack.j0 k a1 a2 a3 a4 (!t212) a0_0 a0_1 a0_2 a0_3 a0_4 a0_5 a0_6)) else (stopcockref21_Ack.j0 k a1 a2 a3 a4 true a0_0 a0_1 a0_2 a0_3 a0_4 a0_5 a0_6))) else (stopcockref21_Ack.j0 k a1 a2 a3 a4 true a0_0 a0_1 a0_2 a0_3 a0_4 a0_5 a0_6))) else (some (0, 0, 0, 0, 0, 0, false, t209)))) = some (r1, r2, r3, r4, r5, r6, r7, r8) := h
  clear h
  replace H := Option.bind_eq_some_iff.mp H
  obtain ⟨t209, A60, H⟩ := H
  replace H : (if t209 = 0 then ((stopcockref21_within.f a2 0 1073741824).bind fun t210 => (if t210 = true then ((stopcockref21_within.f a3 0 1099511627776).bind fun t211 => (if t211 = true then ((stopcockref21_within.f a4 0 1073741824).bind fun t212 => (stopcockref21_Ack.j0 k a1 a2 a3 a4 (!t212) a0_0 a0_1 a0_2 a0_3 a0_4 a0_5 a0_6)) else (stopcockref21_Ack.j0 k a1 a2 a3 a4 true a0_0 a0_1 a0_2 a0_3 a0_4 a0_5 a0_6))) else (stopcockref21_Ack.j0 k a1 a2 a3 a4 true a0_0 a0_1 a0_2 a0_3 a0_4 a0_5 a0_6))) else (some (0, 0, 0, 0, 0, 0, false, t209))) = some (r1, r2, r3, r4, r5, r6, r7, r8) := H
  have A6 := Aside0.mk A60
  clear A60
  by_cases c7 : t209 = 0
  · rw [if_pos c7] at H
    have c7b0 : (t209 == 0) = true := beq_iff_eq.mpr c7
    have c7b1 : (t209 != 0) = false := bne_eq_false_iff_eq.mpr c7
    clear c7
    have HC8 := Aside0.mk H
    clear H
    go_enter Try.func19, Try.ntmps19
    go_upto_region 4 with (first | ((with_reducible refine gate_dst (N := 5) rfl ?_); refine box_event ?hg (N := 5) ?hd (cs := #[.int .i64 a0_0, .int .i64 a0_1, .int .i64 a0_2, .int .i64 a0_3, .int .i64 a0_4, .int .i64 a0_5, .bool a0_6]) (t := 35) ?hr ?_; (case hd => rfl); (case hg => rfl); (case hr => first | (go_simp; done) | (go_simp; rfl)); intro gb207 hg w9 hbox hb; have n0_ := Aside0.mk (below_step (by repeat (first | (with_reducible first | exact HB.out | apply below_alloc | apply pw_below_drewN | apply below_drew1) | exact HB.out)) hb); have n1_ := Aside0.mk (hbox); have n2_ := Aside0.mk ((by rw [hg]; exact (below_size (by repeat (first | (with_reducible first | exact HB.out | apply below_alloc | apply pw_below_drewN | apply below_drew1) | exact HB.out))) : w.heap.size ≤ gb207)); have n3_ := Aside0.mk ((by rw [hg]; exact (below_size (by repeat (first | (with_reducible first | exact HB.out | apply below_alloc | apply pw_below_drewN | apply below_drew1) | exact HB.out))) : w.heap.size ≤ gb207)); clear HB; have HB := n0_; have BK207 := n1_; have GW207 := n2_; have GE207 := n3_; clear n0_ n1_ n2_ n3_; clear hb hbox hg) | ((with_reducible refine gate_dst (N := 10) rfl ?_); refine box_event ?hg (N := 10) ?hd (cs := #[.int .i64 0, .int .i64 0, .int .i64 0, .int .i64 0, .int .i64 0, .int .i64 0, .bool false]) (t := 35) ?hr ?_; (case hd => rfl); (case hg => rfl); (case hr => first | (go_simp; done) | (go_simp; rfl)); intro gb208 hg w10 hbox hb; have n0_ := Aside0.mk (blk_below (g := gb207) (o := .cells #[.int .i64 a0_0, .int .i64 a0_1, .int .i64 a0_2, .int .i64 a0_3, .int .i64 a0_4, .int .i64 a0_5, .bool a0_6] 35 (0, 0)) (skp_ BK207.out) hb); have n1_ := Aside0.mk (below_step (by repeat (first | (with_reducible first | exact HB.out | apply below_alloc | apply pw_below_drewN | apply below_drew1 | refine below_set ?_ GE207.out) | exact HB.out)) hb); have n2_ := Aside0.mk (hbox); have n3_ := Aside0.mk ((by rw [hg]; exact (below_size (by repeat (first | (with_reducible first | exact HB.out | apply below_alloc | apply pw_below_drewN | apply below_drew1 | refine below_set ?_ GE207.out) | exact HB.out))) : w.heap.size ≤ gb208)); have n4_ := Aside0.mk ((by rw [hg]; exact (below_size (by repeat (first | (with_reducible first | exact HB.out | apply below_alloc | apply pw_below_drewN | apply below_drew1 | refine below_set ?_ GE207.out) | exact HB.out))) : w.heap.size ≤ gb208)); have n5_ := Aside0.mk ((by rw [hg]; exact Nat.ne_of_lt (blk_lt (g := gb207) (o := .cells #[.int .i64 a0_0, .int .i64 a0_1, .int .i64 a0_2, .int .i64 a0_3, .int .i64 a0_4, .int .i64 a0_5, .bool a0_6] 35 (0, 0)) (skp_ BK207.out)) : gb207 ≠ gb208)); have n6_ := Aside0.mk ((by rw [hg]; exact Nat.ne_of_gt (blk_lt (g := gb207) (o := .cells #[.int .i64 a0_0, .int .i64 a0_1, .int .i64 a0_2, .int .i64 a0_3, .int .i64 a0_4, .int .i64 a0_5, .bool a0_6] 35 (0, 0)) (skp_ BK207.out)) : gb208 ≠ gb207)); clear BK207; clear HB; have BK207 := n0_; have HB := n1_; have BK208 := n2_; have GW208 := n3_; have GE208 := n4_; have NB207_208 := n5_; have NB208_207 := n6_; clear n0_ n1_ n2_ n3_ n4_ n5_ n6_; clear hb hbox hg; have hnb11 := NB207_208.out; have hnc11 := NB208_207.out; have hcz12_0 : w10.cell? ⟨gb207, 0, none⟩ = some (.int .i64 a0_0) := (blk_cell BK207.out 0).trans rfl; have hcz12_1 : w10.cell? ⟨gb207, 1, none⟩ = some (.int .i64 a0_1) := (blk_cell BK207.out 1).trans rfl; have hcz12_2 : w10.cell? ⟨gb207, 2, none⟩ = some (.int .i64 a0_2) := (blk_cell BK207.out 2).trans rfl; have hcz12_3 : w10.cell? ⟨gb207, 3, none⟩ = some (.int .i64 a0_3) := (blk_cell BK207.out 3).trans rfl; have hcz12_4 : w10.cell? ⟨gb207, 4, none⟩ = some (.int .i64 a0_4) := (blk_cell BK207.out 4).trans rfl; have hcz12_5 : w10.cell? ⟨gb207, 5, none⟩ = some (.int .i64 a0_5) := (blk_cell BK207.out 5).trans rfl; have hcz12_6 : w10.cell? ⟨gb207, 6, none⟩ = some (.bool a0_6) := (blk_cell BK207.out 6).trans rfl; have hfz12_0 := blk_frozen BK207.out 0; have hfz12_1 := blk_frozen BK207.out 1; have hfz12_2 := blk_frozen BK207.out 2; have hfz12_3 := blk_frozen BK207.out 3; have hfz12_4 := blk_frozen BK207.out 4; have hfz12_5 := blk_frozen BK207.out 5; have hfz12_6 := blk_frozen BK207.out 6) | ((with_reducible refine gate_callee (f := 24) rfl ?_); refine goesL_ (some 19) rfl rfl Try.func24 (by kernel_rfl) rfl #[.agg #[.int .i64 a0_0, .int .i64 a0_1, .int .i64 a0_2, .int .i64 a0_3, .int .i64 a0_4, .int .i64 a0_5, .bool a0_6], .int .i64 a1] rfl (by (try simp only [List.map_toArray, List.map_cons, List.map_nil]); first | done | rfl | (simp only [List.length_drop, List.length_take]; rfl)) ?_; (with_reducible refine (stopcockref21_Check.calls a0_0 a0_1 a0_2 a0_3 a0_4 a0_5 a0_6 a1 t209 _ A6.out).mono ?_); rintro e w13 ⟨rfl, hb⟩; refine ⟨_, rfl, ?_⟩; have n0_ := Aside0.mk (blk_below (g := gb207) (o := .cells #[.int .i64 a0_0, .int .i64 a0_1, .int .i64 a0_2, .int .i64 a0_3, .int .i64 a0_4, .int .i64 a0_5, .bool a0_6] 35 (0, 0)) (skp_ BK207.out) hb); have n1_ := Aside0.mk (blk_below (g := gb208) (o := .cells #[.int .i64 0, .int .i64 0, .int .i64 0, .int .i64 0, .int .i64 0, .int .i64 0, .bool false] 35 (0, 0)) (skp_ BK208.out) hb); have n2_ := Aside0.mk (below_step (by repeat (first | (with_reducible first | exact HB.out | apply below_alloc | apply pw_below_drewN | apply below_drew1 | refine below_set ?_ GE207.out | refine below_set ?_ GE208.out) | exact HB.out)) hb); clear BK207; clear BK208; clear HB; have BK207 := n0_; have BK208 := n1_; have HB := n2_; clear n0_ n1_ n2_; (try clear hb); (try clear hb2); (try clear hk); (try clear hi)))
    (try simp only [Act.put, List.setIfInBounds_toArray, List.set_cons_zero, List.set_cons_succ])
    go_cut [25] (fun v25 wc => ∃ (kq : Nat) (x25_7 : Bool), v25 = .bool x25_7 ∧ Aside0 (stopcockref21_Ack.j0 kq a1 a2 a3 a4 x25_7 a0_0 a0_1 a0_2 a0_3 a0_4 a0_5 a0_6 = some (r1, r2, r3, r4, r5, r6, r7, r8)) ∧ Aside0 (kq ≤ k) ∧ Aside0 (wc.heap[gb207]? = some (.cells #[.int .i64 a0_0, .int .i64 a0_1, .int .i64 a0_2, .int .i64 a0_3, .int .i64 a0_4, .int .i64 a0_5, .bool a0_6] 35 (0, 0))) ∧ Aside0 (wc.heap[gb208]? = some (.cells #[.int .i64 0, .int .i64 0, .int .i64 0, .int .i64 0, .int .i64 0, .int .i64 0, .bool false] 35 (0, 0))) ∧ Aside0 (Below w.heap.size w wc))
    case first =>
      have H := HC8.out
      clear HC8
      replace H := Option.bind_eq_some_iff.mp H
      obtain ⟨t210, A140, H⟩ := H
      replace H : (if t210 = true then ((stopcockref21_within.f a3 0 1099511627776).bind fun t211 => (if t211 = true then ((stopcockref21_within.f a4 0 1073741824).bind fun t212 => (stopcockref21_Ack.j0 k a1 a2 a3 a4 (!t212) a0_0 a0_1 a0_2 a0_3 a0_4 a0_5 a0_6)) else (stopcockref21_Ack.j0 k a1 a2 a3 a4 true a0_0 a0_1 a0_2 a0_3 a0_4 a0_5 a0_6))) else (stopcockref21_Ack.j0 k a1 a2 a3 a4 true a0_0 a0_1 a0_2 a0_3 a0_4 a0_5 a0_6)) = some (r1, r2, r3, r4, r5, r6, r7, r8) := H
      have A14 := Aside0.mk A140
      clear A140
      by_cases c15 : t210 = true
      · subst c15
        have H1 : ((stopcockref21_within.f a3 0 1099511627776).bind fun t211 => (if t211 = true then ((stopcockref21_within.f a4 0 1073741824).bind fun t212 => (stopcockref21_Ack.j0 k a1 a2 a3 a4 (!t212) a0_0 a0_1 a0_2 a0_3 a0_4 a0_5 a0_6)) else (stopcockref21_Ack.j0 k a1 a2 a3 a4 true a0_0 a0_1 a0_2 a0_3 a0_4 a0_5 a0_6))) = some (r1, r2, r3, r4, r5, r6, r7, r8) := by rw [if_pos rfl] at H; exact H
        clear H
        have H := H1
        clear H1
        replace H := Option.bind_eq_some_iff.mp H
        obtain ⟨t211, A160, H⟩ := H
        replace H : (if t211 = true then ((stopcockref21_within.f a4 0 1073741824).bind fun t212 => (stopcockref21_Ack.j0 k a1 a2 a3 a4 (!t212) a0_0 a0_1 a0_2 a0_3 a0_4 a0_5 a0_6)) else (stopcockref21_Ack.j0 k a1 a2 a3 a4 true a0_0 a0_1 a0_2 a0_3 a0_4 a0_5 a0_6)) = some (r1, r2, r3, r4, r5, r6, r7, r8) := H
        have A16 := Aside0.mk A160
        clear A160
        by_cases c17 : t211 = true
        · subst c17
          have H1 : ((stopcockref21_within.f a4 0 1073741824).bind fun t212 => (stopcockref21_Ack.j0 k a1 a2 a3 a4 (!t212) a0_0 a0_1 a0_2 a0_3 a0_4 a0_5 a0_6)) = some (r1, r2, r3, r4, r5, r6, r7, r8) := by rw [if_pos rfl] at H; exact H
          clear H
          have H := H1
          clear H1
          replace H := Option.bind_eq_some_iff.mp H
          obtain ⟨t212, A180, H⟩ := H
          replace H : (stopcockref21_Ack.j0 k a1 a2 a3 a4 (!t212) a0_0 a0_1 a0_2 a0_3 a0_4 a0_5 a0_6) = some (r1, r2, r3, r4, r5, r6, r7, r8) := H
          have A18 := Aside0.mk A180
          clear A180
          have H' := Aside0.mk H
          clear H
          go_wp2_with (first | ((with_reducible refine gate_callee (f := 28) rfl ?_); refine goesL_ (some 27) rfl rfl Try.func28 (by kernel_rfl) rfl #[.int .i64 a2, .int .i64 0, .int .i64 1073741824] rfl (by (try simp only [List.map_toArray, List.map_cons, List.map_nil]); first | done | rfl | (simp only [List.length_drop, List.length_take]; rfl)) ?_; (with_reducible refine (stopcockref21_within.calls a2 0 1073741824 true _ A14.out).mono ?_); rintro e w' ⟨rfl, ⟨nd, rfl⟩⟩; refine ⟨_, rfl, ?_⟩) | (go_at_call 28; (with_reducible refine (stopcockref21_within.calls a3 0 1099511627776 true _ A16.out).mono ?_); rintro e w' ⟨rfl, ⟨nd, rfl⟩⟩) | (go_at_call 28; (with_reducible refine (stopcockref21_within.calls a4 0 1073741824 t212 _ A18.out).mono ?_); rintro e w' ⟨rfl, ⟨nd, rfl⟩⟩))
          go_meet
          case rel => exact ⟨_, (!t212), (by first | rfl | (simp; done) | (simp [*]; done)), H', ⟨by first | omega | exact Nat.le_refl _⟩, ⟨by refine skp_ ?_; exact BK207.out⟩, ⟨by refine skp_ ?_; exact BK208.out⟩, ⟨by repeat (first | (with_reducible first | exact HB.out | apply below_alloc | apply pw_below_drewN | apply below_drew1 | refine below_set ?_ GE207.out | refine below_set ?_ GE208.out) | exact HB.out)⟩⟩
        · replace c17 := Bool.eq_false_iff.mpr c17
          subst c17
          have H1 : (stopcockref21_Ack.j0 k a1 a2 a3 a4 true a0_0 a0_1 a0_2 a0_3 a0_4 a0_5 a0_6) = some (r1, r2, r3, r4, r5, r6, r7, r8) := by rw [if_neg (show ¬ (false = true) by decide)] at H; exact H
          clear H
          have H := H1
          clear H1
          have H' := Aside0.mk H
          clear H
          go_wp2_with (first | ((with_reducible refine gate_callee (f := 28) rfl ?_); refine goesL_ (some 27) rfl rfl Try.func28 (by kernel_rfl) rfl #[.int .i64 a2, .int .i64 0, .int .i64 1073741824] rfl (by (try simp only [List.map_toArray, List.map_cons, List.map_nil]); first | done | rfl | (simp only [List.length_drop, List.length_take]; rfl)) ?_; (with_reducible refine (stopcockref21_within.calls a2 0 1073741824 true _ A14.out).mono ?_); rintro e w' ⟨rfl, ⟨nd, rfl⟩⟩; refine ⟨_, rfl, ?_⟩) | (go_at_call 28; (with_reducible refine (stopcockref21_within.calls a3 0 1099511627776 false _ A16.out).mono ?_); rintro e w' ⟨rfl, ⟨nd, rfl⟩⟩))
          go_meet
          case rel => exact ⟨_, (true), (by first | rfl | (simp; done) | (simp [*]; done)), H', ⟨by first | omega | exact Nat.le_refl _⟩, ⟨by refine skp_ ?_; exact BK207.out⟩, ⟨by refine skp_ ?_; exact BK208.out⟩, ⟨by repeat (first | (with_reducible first | exact HB.out | apply below_alloc | apply pw_below_drewN | apply below_drew1 | refine below_set ?_ GE207.out | refine below_set ?_ GE208.out) | exact HB.out)⟩⟩
      · replace c15 := Bool.eq_false_iff.mpr c15
        subst c15
        have H1 : (stopcockref21_Ack.j0 k a1 a2 a3 a4 true a0_0 a0_1 a0_2 a0_3 a0_4 a0_5 a0_6) = some (r1, r2, r3, r4, r5, r6, r7, r8) := by rw [if_neg (show ¬ (false = true) by decide)] at H; exact H
        clear H
        have H := H1
        clear H1
        have H' := Aside0.mk H
        clear H
        go_wp2_with (first | ((with_reducible refine gate_callee (f := 28) rfl ?_); refine goesL_ (some 27) rfl rfl Try.func28 (by kernel_rfl) rfl #[.int .i64 a2, .int .i64 0, .int .i64 1073741824] rfl (by (try simp only [List.map_toArray, List.map_cons, List.map_nil]); first | done | rfl | (simp only [List.length_drop, List.length_take]; rfl)) ?_; (with_reducible refine (stopcockref21_within.calls a2 0 1073741824 false _ A14.out).mono ?_); rintro e w' ⟨rfl, ⟨nd, rfl⟩⟩; refine ⟨_, rfl, ?_⟩))
        go_meet
        case rel => exact ⟨_, (true), (by first | rfl | (simp; done) | (simp [*]; done)), H', ⟨by first | omega | exact Nat.le_refl _⟩, ⟨by refine skp_ ?_; exact BK207.out⟩, ⟨by refine skp_ ?_; exact BK208.out⟩, ⟨by repeat (first | (with_reducible first | exact HB.out | apply below_alloc | apply pw_below_drewN | apply below_drew1 | refine below_set ?_ GE207.out | refine below_set ?_ GE208.out) | exact HB.out)⟩⟩
    case rest =>
      clear HC8
      try clear c1
      try clear c2
      try clear p2
      try clear c7
      try clear c7b0
      try clear c7b1
      try clear c11
      try clear c15
      try clear c17
      try clear hcz12_0
      try clear hcz12_1
      try clear hcz12_2
      try clear hcz12_3
      try clear hcz12_4
      try clear hcz12_5
      try clear hcz12_6
      try clear hfz12_0
      try clear hfz12_1
      try clear hfz12_2
      try clear hfz12_3
      try clear hfz12_4
      try clear hfz12_5
      try clear hfz12_6
      obtain ⟨kq, x25_7, rfl, HA, HJ7, BK207, BK208, HB⟩ := hcut
      cases kq with
      | zero => exact absurd HA.out (by simp [stopcockref21_Ack.j0])
      | succ kj7 =>
        have H := HA.out
        clear HA
        simp only [stopcockref21_Ack.j0] at H
        by_cases c19 : x25_7 = true
        · subst c19
          have H1 : (some (0, 0, 0, 0, 0, 0, false, 4)) = some (r1, r2, r3, r4, r5, r6, r7, r8) := by rw [if_pos rfl] at H; exact H
          clear H
          have H := H1
          clear H1
          simp only [Option.some.injEq, Prod.mk.injEq] at H
          obtain ⟨rfl, rfl, rfl, rfl, rfl, rfl, rfl, rfl⟩ := H
          have hnb20 := NB208_207.out
          have hnc20 := NB207_208.out
          have hcz21_0 : wc.cell? ⟨gb208, 0, none⟩ = some (.int .i64 0) := (blk_cell BK208.out 0).trans rfl
          have hcz21_1 : wc.cell? ⟨gb208, 1, none⟩ = some (.int .i64 0) := (blk_cell BK208.out 1).trans rfl
          have hcz21_2 : wc.cell? ⟨gb208, 2, none⟩ = some (.int .i64 0) := (blk_cell BK208.out 2).trans rfl
          have hcz21_3 : wc.cell? ⟨gb208, 3, none⟩ = some (.int .i64 0) := (blk_cell BK208.out 3).trans rfl
          have hcz21_4 : wc.cell? ⟨gb208, 4, none⟩ = some (.int .i64 0) := (blk_cell BK208.out 4).trans rfl
          have hcz21_5 : wc.cell? ⟨gb208, 5, none⟩ = some (.int .i64 0) := (blk_cell BK208.out 5).trans rfl
          have hcz21_6 : wc.cell? ⟨gb208, 6, none⟩ = some (.bool false) := (blk_cell BK208.out 6).trans rfl
          have hfz21_0 := blk_frozen BK208.out 0
          have hfz21_1 := blk_frozen BK208.out 1
          have hfz21_2 := blk_frozen BK208.out 2
          have hfz21_3 := blk_frozen BK208.out 3
          have hfz21_4 := blk_frozen BK208.out 4
          have hfz21_5 := blk_frozen BK208.out 5
          have hfz21_6 := blk_frozen BK208.out 6
          go_wp2
          refine bodyPost_ret (results_ct rfl _ _ gb208 35 #[.int .i64 0, .int .i64 0, .int .i64 0, .int .i64 0, .int .i64 0, .int .i64 0, .bool false] (0, 0) _ rfl (by refine skp_ ?_; refine blk_put (cs := #[.int .i64 0, .int .i64 0, .int .i64 0, .int .i64 0, .int .i64 0, .int .i64 0, .bool false]) ?_ 6 _ rfl; refine skp_ ?_; refine blk_put (cs := #[.int .i64 0, .int .i64 0, .int .i64 0, .int .i64 0, .int .i64 0, .int .i64 0, .bool false]) ?_ 5 _ rfl; refine skp_ ?_; refine blk_put (cs := #[.int .i64 0, .int .i64 0, .int .i64 0, .int .i64 0, .int .i64 0, .int .i64 0, .bool false]) ?_ 4 _ rfl; refine skp_ ?_; refine blk_put (cs := #[.int .i64 0, .int .i64 0, .int .i64 0, .int .i64 0, .int .i64 0, .int .i64 0, .bool false]) ?_ 3 _ rfl; refine skp_ ?_; refine blk_put (cs := #[.int .i64 0, .int .i64 0, .int .i64 0, .int .i64 0, .int .i64 0, .int .i64 0, .bool false]) ?_ 2 _ rfl; refine skp_ ?_; refine blk_put (cs := #[.int .i64 0, .int .i64 0, .int .i64 0, .int .i64 0, .int .i64 0, .int .i64 0, .bool false]) ?_ 1 _ rfl; refine skp_ ?_; refine blk_put (cs := #[.int .i64 0, .int .i64 0, .int .i64 0, .int .i64 0, .int .i64 0, .int .i64 0, .bool false]) ?_ 0 _ rfl; refine skp_ ?_; exact BK208.out) Try.underlying35 rfl (by kernel_rfl)) rfl ?_
          exact ⟨by first | rfl | (simp [errW_none, errW_some] <;> rfl) | (simp [*, errW_none, errW_some] <;> rfl), by repeat (first | (with_reducible first | exact HB.out | apply below_alloc | apply pw_below_drewN | apply below_drew1 | refine below_set ?_ GE207.out | refine below_set ?_ GE208.out) | exact HB.out)⟩
        · replace c19 := Bool.eq_false_iff.mpr c19
          subst c19
          have H1 : (if a0_0 < a0_1 then (some (mn (wrap64 (a0_0 + (mn a2 a1))) 1073741824, a0_1, a0_2, a0_3, a0_4, a0_5, a0_6, 0)) else (if a0_6 = true then ((stopcockref21_Curve.f a0_2 a1 (wrap64 ((wrap64 ((mx 0 (wrap64 (a3 - a0_4))) + a4)) - a0_3))).bind fun bt213 => (if (wrap64 (17 * a0_0)) = 0 then (none) else (if (mn (wrap64 (a0_5 + (wrap64 (Int.tdiv (wrap64 ((wrap64 (9 * a1)) * a2)) (wrap64 (17 * a0_0)))))) 1073741824) > bt213.1 then (some (mx a0_0 (mn (wrap64 (a0_5 + (wrap64 (Int.tdiv (wrap64 ((wrap64 (9 * a1)) * a2)) (wrap64 (17 * a0_0)))))) 1073741824), a0_1, a0_2, a0_3, a0_4, mn (wrap64 (a0_5 + (wrap64 (Int.tdiv (wrap64 ((wrap64 (9 * a1)) * a2)) (wrap64 (17 * a0_0)))))) 1073741824, a0_6, 0)) else (if a0_0 = 0 then (none) else (some (mn (wrap64 (a0_0 + (wrap64 (Int.tdiv (wrap64 ((wrap64 ((mx a0_0 (mn bt213.1 (wrap64 (Int.tdiv (wrap64 (a0_0 * 3)) 2)))) - a0_0)) * a2)) a0_0)))) 1073741824, a0_1, a0_2, a0_3, a0_4, mn (wrap64 (a0_5 + (wrap64 (Int.tdiv (wrap64 ((wrap64 (9 * a1)) * a2)) (wrap64 (17 * a0_0)))))) 1073741824, a0_6, 0)))))) else ((stopcockref21_Turn.f kj7 a0_2 a0_0 a1).bind fun bt215 => ((stopcockref21_Curve.f (mx a0_2 a0_0) a1 (wrap64 ((wrap64 (a4)) - bt215.1))).bind fun bt217 => (if (wrap64 (17 * a0_0)) = 0 then (none) else (if (mn (wrap64 (a0_0 + (wrap64 (Int.tdiv (wrap64 ((wrap64 (9 * a1)) * a2)) (wrap64 (17 * a0_0)))))) 1073741824) > bt217.1 then (some (mx a0_0 (mn (wrap64 (a0_0 + (wrap64 (Int.tdiv (wrap64 ((wrap64 (9 * a1)) * a2)) (wrap64 (17 * a0_0)))))) 1073741824), a0_1, mx a0_2 a0_0, bt215.1, a3, mn (wrap64 (a0_0 + (wrap64 (Int.tdiv (wrap64 ((wrap64 (9 * a1)) * a2)) (wrap64 (17 * a0_0)))))) 1073741824, true, 0)) else (if a0_0 = 0 then (none) else (some (mn (wrap64 (a0_0 + (wrap64 (Int.tdiv (wrap64 ((wrap64 ((mx a0_0 (mn bt217.1 (wrap64 (Int.tdiv (wrap64 (a0_0 * 3)) 2)))) - a0_0)) * a2)) a0_0)))) 1073741824, a0_1, mx a0_2 a0_0, bt215.1, a3, mn (wrap64 (a0_0 + (wrap64 (Int.tdiv (wrap64 ((wrap64 (9 * a1)) * a2)) (wrap64 (17 * a0_0)))))) 1073741824, true, 0))))))))) = some (r1, r2, r3, r4, r5, r6, r7, r8) := by rw [if_neg (show ¬ (false = true) by decide)] at H; exact H
          clear H
          have H := H1
          clear H1
          by_cases c22 : a0_0 < a0_1
          · rw [if_pos c22] at H
            have c22b0 : decide (a0_0 < a0_1) = true := decide_eq_true c22
            clear c22
            obtain ⟨ji23, hji23⟩ : ∃ j_ : Int, (mn a2 a1) = j_ := ⟨_, rfl⟩
            replace H : (some (mn (wrap64 (a0_0 + (ji23))) 1073741824, a0_1, a0_2, a0_3, a0_4, a0_5, a0_6, 0)) = some (r1, r2, r3, r4, r5, r6, r7, r8) := by first | (rw [hji23] at H; exact H) | (simp only [hji23] at H ⊢; exact H)
            have hji23_ : (if a1 < a2 then a1 else a2) = ji23 := hji23
            obtain ⟨ji24, hji24⟩ : ∃ j_ : Int, (mn (wrap64 (a0_0 + (ji23))) 1073741824) = j_ := ⟨_, rfl⟩
            replace H : (some (ji24, a0_1, a0_2, a0_3, a0_4, a0_5, a0_6, 0)) = some (r1, r2, r3, r4, r5, r6, r7, r8) := by first | (rw [hji24] at H; exact H) | (simp only [hji24] at H ⊢; exact H)
            have hji24_ : (if 1073741824 < (wrap64 (a0_0 + (ji23))) then 1073741824 else (wrap64 (a0_0 + (ji23)))) = ji24 := hji24
            simp only [Option.some.injEq, Prod.mk.injEq] at H
            obtain ⟨rfl, rfl, rfl, rfl, rfl, rfl, rfl, rfl⟩ := H
            have hnb25 := NB207_208.out
            have hnc25 := NB208_207.out
            have hcz26_0 : wc.cell? ⟨gb207, 0, none⟩ = some (.int .i64 a0_0) := (blk_cell BK207.out 0).trans rfl
            have hcz26_1 : wc.cell? ⟨gb207, 1, none⟩ = some (.int .i64 a0_1) := (blk_cell BK207.out 1).trans rfl
            have hcz26_2 : wc.cell? ⟨gb207, 2, none⟩ = some (.int .i64 a0_2) := (blk_cell BK207.out 2).trans rfl
            have hcz26_3 : wc.cell? ⟨gb207, 3, none⟩ = some (.int .i64 a0_3) := (blk_cell BK207.out 3).trans rfl
            have hcz26_4 : wc.cell? ⟨gb207, 4, none⟩ = some (.int .i64 a0_4) := (blk_cell BK207.out 4).trans rfl
            have hcz26_5 : wc.cell? ⟨gb207, 5, none⟩ = some (.int .i64 a0_5) := (blk_cell BK207.out 5).trans rfl
            have hcz26_6 : wc.cell? ⟨gb207, 6, none⟩ = some (.bool a0_6) := (blk_cell BK207.out 6).trans rfl
            have hfz26_0 := blk_frozen BK207.out 0
            have hfz26_1 := blk_frozen BK207.out 1
            have hfz26_2 := blk_frozen BK207.out 2
            have hfz26_3 := blk_frozen BK207.out 3
            have hfz26_4 := blk_frozen BK207.out 4
            have hfz26_5 := blk_frozen BK207.out 5
            have hfz26_6 := blk_frozen BK207.out 6
            have hcz27_0 : wc.cell? ⟨gb208, 0, none⟩ = some (.int .i64 0) := (blk_cell BK208.out 0).trans rfl
            have hcz27_1 : wc.cell? ⟨gb208, 1, none⟩ = some (.int .i64 0) := (blk_cell BK208.out 1).trans rfl
            have hcz27_2 : wc.cell? ⟨gb208, 2, none⟩ = some (.int .i64 0) := (blk_cell BK208.out 2).trans rfl
            have hcz27_3 : wc.cell? ⟨gb208, 3, none⟩ = some (.int .i64 0) := (blk_cell BK208.out 3).trans rfl
            have hcz27_4 : wc.cell? ⟨gb208, 4, none⟩ = some (.int .i64 0) := (blk_cell BK208.out 4).trans rfl
            have hcz27_5 : wc.cell? ⟨gb208, 5, none⟩ = some (.int .i64 0) := (blk_cell BK208.out 5).trans rfl
            have hcz27_6 : wc.cell? ⟨gb208, 6, none⟩ = some (.bool false) := (blk_cell BK208.out 6).trans rfl
            have hfz27_0 := blk_frozen BK208.out 0
            have hfz27_1 := blk_frozen BK208.out 1
            have hfz27_2 := blk_frozen BK208.out 2
            have hfz27_3 := blk_frozen BK208.out 3
            have hfz27_4 := blk_frozen BK208.out 4
            have hfz27_5 := blk_frozen BK208.out 5
            have hfz27_6 := blk_frozen BK208.out 6
            go_wp2
            refine bodyPost_ret (results_ct rfl _ _ gb208 35 #[.int .i64 ji24, .int .i64 a0_1, .int .i64 a0_2, .int .i64 a0_3, .int .i64 a0_4, .int .i64 a0_5, .bool a0_6] (0, 0) _ rfl (by refine skp_ ?_; refine blk_put (cs := #[.int .i64 ji24, .int .i64 a0_1, .int .i64 a0_2, .int .i64 a0_3, .int .i64 a0_4, .int .i64 a0_5, .bool false]) ?_ 6 _ rfl; refine skp_ ?_; refine blk_put (cs := #[.int .i64 ji24, .int .i64 a0_1, .int .i64 a0_2, .int .i64 a0_3, .int .i64 a0_4, .int .i64 0, .bool false]) ?_ 5 _ rfl; refine skp_ ?_; refine blk_put (cs := #[.int .i64 ji24, .int .i64 a0_1, .int .i64 a0_2, .int .i64 a0_3, .int .i64 0, .int .i64 0, .bool false]) ?_ 4 _ rfl; refine skp_ ?_; refine blk_put (cs := #[.int .i64 ji24, .int .i64 a0_1, .int .i64 a0_2, .int .i64 0, .int .i64 0, .int .i64 0, .bool false]) ?_ 3 _ rfl; refine skp_ ?_; refine blk_put (cs := #[.int .i64 ji24, .int .i64 a0_1, .int .i64 0, .int .i64 0, .int .i64 0, .int .i64 0, .bool false]) ?_ 2 _ rfl; refine skp_ ?_; refine blk_put (cs := #[.int .i64 ji24, .int .i64 0, .int .i64 0, .int .i64 0, .int .i64 0, .int .i64 0, .bool false]) ?_ 1 _ rfl; refine skp_ ?_; refine blk_put (cs := #[.int .i64 0, .int .i64 0, .int .i64 0, .int .i64 0, .int .i64 0, .int .i64 0, .bool false]) ?_ 0 _ rfl; refine skp_ ?_; refine blk_far ?_ NB208_207.out _; refine skp_ ?_; exact BK208.out) Try.underlying35 rfl (by kernel_rfl)) rfl ?_
            exact ⟨by first | rfl | (simp [errW_none, errW_some] <;> rfl) | (simp only [← hji23, ← hji24]; first | rfl | (simp [errW_none, errW_some] <;> rfl)) | (simp [*, errW_none, errW_some] <;> rfl), by repeat (first | (with_reducible first | exact HB.out | apply below_alloc | apply pw_below_drewN | apply below_drew1 | refine below_set ?_ GE207.out | refine below_set ?_ GE208.out) | exact HB.out)⟩
          · rw [if_neg c22] at H
            have c22b0 : decide (a0_0 < a0_1) = false := decide_eq_false c22
            clear c22
            by_cases c28 : a0_6 = true
            · subst c28
              have H1 : ((stopcockref21_Curve.f a0_2 a1 (wrap64 ((wrap64 ((mx 0 (wrap64 (a3 - a0_4))) + a4)) - a0_3))).bind fun bt213 => (if (wrap64 (17 * a0_0)) = 0 then (none) else (if (mn (wrap64 (a0_5 + (wrap64 (Int.tdiv (wrap64 ((wrap64 (9 * a1)) * a2)) (wrap64 (17 * a0_0)))))) 1073741824) > bt213.1 then (some (mx a0_0 (mn (wrap64 (a0_5 + (wrap64 (Int.tdiv (wrap64 ((wrap64 (9 * a1)) * a2)) (wrap64 (17 * a0_0)))))) 1073741824), a0_1, a0_2, a0_3, a0_4, mn (wrap64 (a0_5 + (wrap64 (Int.tdiv (wrap64 ((wrap64 (9 * a1)) * a2)) (wrap64 (17 * a0_0)))))) 1073741824, true, 0)) else (if a0_0 = 0 then (none) else (some (mn (wrap64 (a0_0 + (wrap64 (Int.tdiv (wrap64 ((wrap64 ((mx a0_0 (mn bt213.1 (wrap64 (Int.tdiv (wrap64 (a0_0 * 3)) 2)))) - a0_0)) * a2)) a0_0)))) 1073741824, a0_1, a0_2, a0_3, a0_4, mn (wrap64 (a0_5 + (wrap64 (Int.tdiv (wrap64 ((wrap64 (9 * a1)) * a2)) (wrap64 (17 * a0_0)))))) 1073741824, true, 0)))))) = some (r1, r2, r3, r4, r5, r6, r7, r8) := by rw [if_pos rfl] at H; exact H
              clear H
              have H := H1
              clear H1
              obtain ⟨ji29, hji29⟩ : ∃ j_ : Int, (mx 0 (wrap64 (a3 - a0_4))) = j_ := ⟨_, rfl⟩
              replace H : ((stopcockref21_Curve.f a0_2 a1 (wrap64 ((wrap64 ((ji29) + a4)) - a0_3))).bind fun bt213 => (if (wrap64 (17 * a0_0)) = 0 then (none) else (if (mn (wrap64 (a0_5 + (wrap64 (Int.tdiv (wrap64 ((wrap64 (9 * a1)) * a2)) (wrap64 (17 * a0_0)))))) 1073741824) > bt213.1 then (some (mx a0_0 (mn (wrap64 (a0_5 + (wrap64 (Int.tdiv (wrap64 ((wrap64 (9 * a1)) * a2)) (wrap64 (17 * a0_0)))))) 1073741824), a0_1, a0_2, a0_3, a0_4, mn (wrap64 (a0_5 + (wrap64 (Int.tdiv (wrap64 ((wrap64 (9 * a1)) * a2)) (wrap64 (17 * a0_0)))))) 1073741824, true, 0)) else (if a0_0 = 0 then (none) else (some (mn (wrap64 (a0_0 + (wrap64 (Int.tdiv (wrap64 ((wrap64 ((mx a0_0 (mn bt213.1 (wrap64 (Int.tdiv (wrap64 (a0_0 * 3)) 2)))) - a0_0)) * a2)) a0_0)))) 1073741824, a0_1, a0_2, a0_3, a0_4, mn (wrap64 (a0_5 + (wrap64 (Int.tdiv (wrap64 ((wrap64 (9 * a1)) * a2)) (wrap64 (17 * a0_0)))))) 1073741824, true, 0)))))) = some (r1, r2, r3, r4, r5, r6, r7, r8) := by first | (rw [hji29] at H; exact H) | (simp only [hji29] at H ⊢; exact H)
              have hji29_ : (if 0 < (wrap64 (a3 - a0_4)) then (wrap64 (a3 - a0_4)) else 0) = ji29 := hji29
              replace H := Option.bind_eq_some_iff.mp H
              obtain ⟨⟨t213, t214⟩, A300, H⟩ := H
              replace H : (if (wrap64 (17 * a0_0)) = 0 then (none) else (if (mn (wrap64 (a0_5 + (wrap64 (Int.tdiv (wrap64 ((wrap64 (9 * a1)) * a2)) (wrap64 (17 * a0_0)))))) 1073741824) > t213 then (some (mx a0_0 (mn (wrap64 (a0_5 + (wrap64 (Int.tdiv (wrap64 ((wrap64 (9 * a1)) * a2)) (wrap64 (17 * a0_0)))))) 1073741824), a0_1, a0_2, a0_3, a0_4, mn (wrap64 (a0_5 + (wrap64 (Int.tdiv (wrap64 ((wrap64 (9 * a1)) * a2)) (wrap64 (17 * a0_0)))))) 1073741824, true, 0)) else (if a0_0 = 0 then (none) else (some (mn (wrap64 (a0_0 + (wrap64 (Int.tdiv (wrap64 ((wrap64 ((mx a0_0 (mn t213 (wrap64 (Int.tdiv (wrap64 (a0_0 * 3)) 2)))) - a0_0)) * a2)) a0_0)))) 1073741824, a0_1, a0_2, a0_3, a0_4, mn (wrap64 (a0_5 + (wrap64 (Int.tdiv (wrap64 ((wrap64 (9 * a1)) * a2)) (wrap64 (17 * a0_0)))))) 1073741824, true, 0))))) = some (r1, r2, r3, r4, r5, r6, r7, r8) := H
              have A30 := Aside0.mk A300
              clear A300
              by_cases c31 : (wrap64 (17 * a0_0)) = 0
              · rw [if_pos c31] at H
                exact absurd H (by simp)
              · rw [if_neg c31] at H
                have c31b0 : ((wrap64 (17 * a0_0)) == 0) = false := beq_eq_false_iff_ne.mpr c31
                have c31b1 : ((wrap64 (17 * a0_0)) != 0) = true := bne_iff_ne.mpr c31
                obtain ⟨ji32, hji32⟩ : ∃ j_ : Int, (mn (wrap64 (a0_5 + (wrap64 (Int.tdiv (wrap64 ((wrap64 (9 * a1)) * a2)) (wrap64 (17 * a0_0)))))) 1073741824) = j_ := ⟨_, rfl⟩
                replace H : (if (ji32) > t213 then (some (mx a0_0 (ji32), a0_1, a0_2, a0_3, a0_4, ji32, true, 0)) else (if a0_0 = 0 then (none) else (some (mn (wrap64 (a0_0 + (wrap64 (Int.tdiv (wrap64 ((wrap64 ((mx a0_0 (mn t213 (wrap64 (Int.tdiv (wrap64 (a0_0 * 3)) 2)))) - a0_0)) * a2)) a0_0)))) 1073741824, a0_1, a0_2, a0_3, a0_4, ji32, true, 0)))) = some (r1, r2, r3, r4, r5, r6, r7, r8) := by first | (rw [hji32] at H; exact H) | (simp only [hji32] at H ⊢; exact H)
                (try rw [hji32] at A30)
                have hji32_ : (if 1073741824 < (wrap64 (a0_5 + (wrap64 (Int.tdiv (wrap64 ((wrap64 (9 * a1)) * a2)) (wrap64 (17 * a0_0)))))) then 1073741824 else (wrap64 (a0_5 + (wrap64 (Int.tdiv (wrap64 ((wrap64 (9 * a1)) * a2)) (wrap64 (17 * a0_0))))))) = ji32 := hji32
                by_cases c33 : (ji32) > t213
                · rw [if_pos c33] at H
                  have c33b0 : decide (t213 < (ji32)) = true := decide_eq_true c33
                  clear c33
                  obtain ⟨ji34, hji34⟩ : ∃ j_ : Int, (mx a0_0 (ji32)) = j_ := ⟨_, rfl⟩
                  replace H : (some (ji34, a0_1, a0_2, a0_3, a0_4, ji32, true, 0)) = some (r1, r2, r3, r4, r5, r6, r7, r8) := by first | (rw [hji34] at H; exact H) | (simp only [hji34] at H ⊢; exact H)
                  (try rw [hji34] at A30)
                  have hji34_ : (if a0_0 < (ji32) then (ji32) else a0_0) = ji34 := hji34
                  simp only [Option.some.injEq, Prod.mk.injEq] at H
                  obtain ⟨rfl, rfl, rfl, rfl, rfl, rfl, rfl, rfl⟩ := H
                  have hnb35 := NB207_208.out
                  have hnc35 := NB208_207.out
                  have hcz36_0 : wc.cell? ⟨gb207, 0, none⟩ = some (.int .i64 a0_0) := (blk_cell BK207.out 0).trans rfl
                  have hcz36_1 : wc.cell? ⟨gb207, 1, none⟩ = some (.int .i64 a0_1) := (blk_cell BK207.out 1).trans rfl
                  have hcz36_2 : wc.cell? ⟨gb207, 2, none⟩ = some (.int .i64 a0_2) := (blk_cell BK207.out 2).trans rfl
                  have hcz36_3 : wc.cell? ⟨gb207, 3, none⟩ = some (.int .i64 a0_3) := (blk_cell BK207.out 3).trans rfl
                  have hcz36_4 : wc.cell? ⟨gb207, 4, none⟩ = some (.int .i64 a0_4) := (blk_cell BK207.out 4).trans rfl
                  have hcz36_5 : wc.cell? ⟨gb207, 5, none⟩ = some (.int .i64 a0_5) := (blk_cell BK207.out 5).trans rfl
                  have hcz36_6 : wc.cell? ⟨gb207, 6, none⟩ = some (.bool true) := (blk_cell BK207.out 6).trans rfl
                  have hfz36_0 := blk_frozen BK207.out 0
                  have hfz36_1 := blk_frozen BK207.out 1
                  have hfz36_2 := blk_frozen BK207.out 2
                  have hfz36_3 := blk_frozen BK207.out 3
                  have hfz36_4 := blk_frozen BK207.out 4
                  have hfz36_5 := blk_frozen BK207.out 5
                  have hfz36_6 := blk_frozen BK207.out 6
                  try go_wp2_with (first | ((with_reducible refine gate_callee (f := 10) rfl ?_); refine goesL_ (some 95) rfl rfl Try.func10 (by kernel_rfl) rfl #[.int .i64 a0_2, .int .i64 a1, .int .i64 (wrap64 ((wrap64 ((ji29) + a4)) - a0_3))] rfl (by (try simp only [List.map_toArray, List.map_cons, List.map_nil]); first | done | (simp only [hji29]; rfl) | rfl | (simp only [List.length_drop, List.length_take]; rfl)) ?_; (with_reducible refine (stopcockref21_Curve.calls a0_2 a1 (wrap64 ((wrap64 ((ji29) + a4)) - a0_3)) t213 t214 _ A30.out).mono ?_); rintro e w37 ⟨rfl, hb⟩; refine ⟨_, rfl, ?_⟩; have n0_ := Aside0.mk (blk_below (g := gb207) (o := .cells #[.int .i64 a0_0, .int .i64 a0_1, .int .i64 a0_2, .int .i64 a0_3, .int .i64 a0_4, .int .i64 a0_5, .bool true] 35 (0, 0)) (skp_ BK207.out) hb); have n1_ := Aside0.mk (blk_below (g := gb208) (o := .cells #[.int .i64 0, .int .i64 0, .int .i64 0, .int .i64 0, .int .i64 0, .int .i64 0, .bool false] 35 (0, 0)) (skp_ BK208.out) hb); have n2_ := Aside0.mk (below_step (by repeat (first | (with_reducible first | exact HB.out | apply below_alloc | apply pw_below_drewN | apply below_drew1 | refine below_set ?_ GE207.out | refine below_set ?_ GE208.out) | exact HB.out)) hb); clear BK207; clear BK208; clear HB; have BK207 := n0_; have BK208 := n1_; have HB := n2_; clear n0_ n1_ n2_; (try clear hb); (try clear hb2); (try clear hk); (try clear hi)))
                  have n0_ := Aside0.mk (blk_drew BK207.out)
                  have n1_ := Aside0.mk (blk_drew BK208.out)
                  have n2_ := Aside0.mk (below_drew1 HB.out)
                  clear BK207
                  clear BK208
                  clear HB
                  have BK207 := n0_
                  have BK208 := n1_
                  have HB := n2_
                  clear n0_ n1_ n2_
                  refine start_ (n := 14) (S := fun w' => w'.cell? ⟨gb207, 0, none⟩ = some (.int .i64 a0_0) ∧ w'.cell? ⟨gb207, 1, none⟩ = some (.int .i64 a0_1) ∧ w'.cell? ⟨gb207, 2, none⟩ = some (.int .i64 a0_2) ∧ w'.cell? ⟨gb207, 3, none⟩ = some (.int .i64 a0_3) ∧ w'.cell? ⟨gb207, 4, none⟩ = some (.int .i64 a0_4) ∧ w'.cell? ⟨gb207, 5, none⟩ = some (.int .i64 a0_5) ∧ w'.cell? ⟨gb207, 6, none⟩ = some (.bool true)) (ds := [13]) #[false, false, false, false, false, false, false, false, false, false, false, false, false, false] (by kernel_rfl) rfl rfl ⟨(blk_cell BK207.out 0).trans rfl, (blk_cell BK207.out 1).trans rfl, (blk_cell BK207.out 2).trans rfl, (blk_cell BK207.out 3).trans rfl, (blk_cell BK207.out 4).trans rfl, (blk_cell BK207.out 5).trans rfl, (blk_cell BK207.out 6).trans rfl⟩ (fun hHeld => ?_); refine with_tabW stopcockref21_Ack.tab15 stopcockref21_Ack.bits15 (fun HT_ HW_ => ?_)
                  generalize w37.drew = w38 at BK207 BK208 HB hHeld ⊢
                  refine pure_ (i := 0) (N := some 98) (v := ?_) (a' := ?_) #[true, false, false, false, false, false, false, false, false, false, false, false, false, false] rfl rfl (any_of HT_.out (by kernel_rfl)) (fun _ _ _ h => h) (Or.inl ⟨by rfl, ?_⟩) ?_ ?_
                  rotate_left
                  · intro w'
                    go_simp
                    with_reducible rfl
                  rotate_left
                  · simp only [Act.put, List.setIfInBounds_toArray, List.set_cons_zero, List.set_cons_succ, i64_w, i32_w]
                    rfl
                  refine pure_ (i := 2) (N := some 100) (v := ?_) (a' := ?_) #[true, false, true, false, false, false, false, false, false, false, false, false, false, false] rfl rfl (any_of HT_.out (by kernel_rfl)) (fun _ _ _ h => h) (Or.inl ⟨by rfl, ?_⟩) ?_ ?_
                  rotate_left
                  · intro w'
                    go_simp
                    with_reducible rfl
                  rotate_left
                  · simp only [Act.put, List.setIfInBounds_toArray, List.set_cons_zero, List.set_cons_succ, i64_w, i32_w]
                    rfl
                  refine pure_ (i := 3) (N := some 101) (v := ?_) (a' := ?_) #[true, false, true, true, false, false, false, false, false, false, false, false, false, false] rfl rfl (any_of HT_.out (by kernel_rfl)) (fun _ _ _ h => h) (Or.inl ⟨by rfl, ?_⟩) ?_ ?_
                  rotate_left
                  · intro w'
                    go_simp
                    with_reducible rfl
                  rotate_left
                  · simp only [Act.put, List.setIfInBounds_toArray, List.set_cons_zero, List.set_cons_succ, i64_w, i32_w]
                    rfl
                  refine pure_ (i := 4) (N := some 102) (v := ?_) (a' := ?_) #[true, false, true, true, true, false, false, false, false, false, false, false, false, false] rfl rfl (any_of HT_.out (by kernel_rfl)) (fun _ _ _ h => h) (Or.inl ⟨by rfl, ?_⟩) ?_ ?_
                  rotate_left
                  · intro w'
                    go_simp
                    with_reducible rfl
                  rotate_left
                  · simp only [Act.put, List.setIfInBounds_toArray, List.set_cons_zero, List.set_cons_succ, i64_w, i32_w]
                    rfl
                  refine pure_ (i := 5) (N := some 103) (v := ?_) (a' := ?_) #[true, false, true, true, true, true, false, false, false, false, false, false, false, false] rfl rfl (any_of HT_.out (by kernel_rfl)) (fun _ _ _ h => h) (Or.inl ⟨by rfl, ?_⟩) ?_ ?_
                  rotate_left
                  · intro w'
                    go_simp
                    with_reducible rfl
                  rotate_left
                  · simp only [Act.put, List.setIfInBounds_toArray, List.set_cons_zero, List.set_cons_succ, i64_w, i32_w]
                    rfl
                  refine pure_ (i := 6) (N := some 104) (v := ?_) (a' := ?_) #[true, false, true, true, true, true, true, false, false, false, false, false, false, false] rfl rfl (any_of HT_.out (by kernel_rfl)) (fun _ _ _ h => h) (Or.inl ⟨by rfl, ?_⟩) ?_ ?_
                  rotate_left
                  · intro w'
                    go_simp
                    with_reducible rfl
                  rotate_left
                  · simp only [Act.put, List.setIfInBounds_toArray, List.set_cons_zero, List.set_cons_succ, i64_w, i32_w]
                    rfl
                  refine take_ (i := 1) (N := some 99) (v := ?_) (a' := ?_) #[true, true, true, true, true, true, true, false, false, false, false, false, false, false] rfl rfl (take_ofW HT_.out HW_.out (by kernel_rfl)) (fun _ _ _ h => h) (Or.inl ⟨by rfl, ?_⟩) hHeld ?_ ?_
                  rotate_left
                  · rintro w' ⟨s0, s1, s2, s3, s4, s5, s6⟩
                    go_simp
                    with_reducible rfl
                  rotate_left
                  · simp only [Act.put, List.setIfInBounds_toArray, List.set_cons_zero, List.set_cons_succ, i64_w, i32_w]
                    rfl
                  refine take_ (i := 7) (N := some 105) (v := ?_) (a' := ?_) #[true, true, true, true, true, true, true, true, false, false, false, false, false, false] rfl rfl (take_ofW HT_.out HW_.out (by kernel_rfl)) (fun _ _ _ h => h) (Or.inl ⟨by rfl, ?_⟩) hHeld ?_ ?_
                  rotate_left
                  · rintro w' ⟨s0, s1, s2, s3, s4, s5, s6⟩
                    go_simp
                    with_reducible rfl
                  rotate_left
                  · simp only [Act.put, List.setIfInBounds_toArray, List.set_cons_zero, List.set_cons_succ, i64_w, i32_w]
                    rfl
                  refine pure_ (i := 8) (N := some 106) (v := ?_) (a' := ?_) #[true, true, true, true, true, true, true, true, true, false, false, false, false, false] rfl rfl (any_of HT_.out (by kernel_rfl)) (fun _ _ _ h => h) (Or.inl ⟨by rfl, ?_⟩) ?_ ?_
                  rotate_left
                  · intro w'
                    go_simp
                    with_reducible rfl
                  rotate_left
                  · simp only [Act.put, List.setIfInBounds_toArray, List.set_cons_zero, List.set_cons_succ, i64_w, i32_w]
                    rfl
                  refine pure_ (i := 9) (N := some 107) (v := ?_) (a' := ?_) #[true, true, true, true, true, true, true, true, true, true, false, false, false, false] rfl rfl (any_of HT_.out (by kernel_rfl)) (fun _ _ _ h => h) (Or.inl ⟨by rfl, ?_⟩) ?_ ?_
                  rotate_left
                  · intro w'
                    go_simp
                    with_reducible rfl
                  rotate_left
                  · simp only [Act.put, List.setIfInBounds_toArray, List.set_cons_zero, List.set_cons_succ, i64_w, i32_w]
                    rfl
                  refine pure_ (i := 10) (N := some 108) (v := ?_) (a' := ?_) #[true, true, true, true, true, true, true, true, true, true, true, false, false, false] rfl rfl (any_of HT_.out (by kernel_rfl)) (fun _ _ _ h => h) (Or.inl ⟨by rfl, ?_⟩) ?_ ?_
                  rotate_left
                  · intro w'
                    go_simp
                    with_reducible rfl
                  rotate_left
                  · simp only [Act.put, List.setIfInBounds_toArray, List.set_cons_zero, List.set_cons_succ, i64_w, i32_w]
                    rfl
                  refine pure_ (i := 11) (N := some 109) (v := ?_) (a' := ?_) #[true, true, true, true, true, true, true, true, true, true, true, true, false, false] rfl rfl (any_of HT_.out (by kernel_rfl)) (fun _ _ _ h => h) (Or.inl ⟨by rfl, ?_⟩) ?_ ?_
                  rotate_left
                  · intro w'
                    go_simp
                    with_reducible rfl
                  rotate_left
                  · simp only [Act.put, List.setIfInBounds_toArray, List.set_cons_zero, List.set_cons_succ, i64_w, i32_w]
                    rfl
                  refine pure_ (i := 12) (N := some 110) (v := ?_) (a' := ?_) #[true, true, true, true, true, true, true, true, true, true, true, true, true, false] rfl rfl (any_of HT_.out (by kernel_rfl)) (fun _ _ _ h => h) (Or.inl ⟨by rfl, ?_⟩) ?_ ?_
                  rotate_left
                  · intro w'
                    go_simp
                    with_reducible rfl
                  rotate_left
                  · simp only [Act.put, List.setIfInBounds_toArray, List.set_cons_zero, List.set_cons_succ, i64_w, i32_w]
                    rfl
                  refine last_ (i := 13) (N := none) #[true, true, true, true, true, true, true, true, true, true, true, true, true, true] rfl rfl (one_of HT_.out (by kernel_rfl)) (by decide) (fun K hK => ?_)
                  have hs39 : w38.cell? ⟨gb207, 5, none⟩ = some (.int .i64 a0_5) := (blk_cell BK207.out 5).trans rfl
                  have hfs39 := blk_frozen BK207.out 5
                  have hns39_1 := NB208_207.out
                  have hms39_1 := NB207_208.out
                  refine skip_ (w1 := ?_) (by rfl) rfl ?_ ?_
                  rotate_left
                  · go_simp
                    rfl
                  refine hK.out _ _ ?_
                  clear hK K
                  refine done_ (done_of HT_.out (by kernel_rfl)) ?_
                  have hcz40_0 : w38.cell? ⟨gb207, 0, none⟩ = some (.int .i64 a0_0) := (blk_cell BK207.out 0).trans rfl
                  have hcz40_1 : w38.cell? ⟨gb207, 1, none⟩ = some (.int .i64 a0_1) := (blk_cell BK207.out 1).trans rfl
                  have hcz40_2 : w38.cell? ⟨gb207, 2, none⟩ = some (.int .i64 a0_2) := (blk_cell BK207.out 2).trans rfl
                  have hcz40_3 : w38.cell? ⟨gb207, 3, none⟩ = some (.int .i64 a0_3) := (blk_cell BK207.out 3).trans rfl
                  have hcz40_4 : w38.cell? ⟨gb207, 4, none⟩ = some (.int .i64 a0_4) := (blk_cell BK207.out 4).trans rfl
                  have hcz40_5 : w38.cell? ⟨gb207, 5, none⟩ = some (.int .i64 a0_5) := (blk_cell BK207.out 5).trans rfl
                  have hcz40_6 : w38.cell? ⟨gb207, 6, none⟩ = some (.bool true) := (blk_cell BK207.out 6).trans rfl
                  have hfz40_0 := blk_frozen BK207.out 0
                  have hfz40_1 := blk_frozen BK207.out 1
                  have hfz40_2 := blk_frozen BK207.out 2
                  have hfz40_3 := blk_frozen BK207.out 3
                  have hfz40_4 := blk_frozen BK207.out 4
                  have hfz40_5 := blk_frozen BK207.out 5
                  have hfz40_6 := blk_frozen BK207.out 6
                  have hcz41_0 : w38.cell? ⟨gb208, 0, none⟩ = some (.int .i64 0) := (blk_cell BK208.out 0).trans rfl
                  have hcz41_1 : w38.cell? ⟨gb208, 1, none⟩ = some (.int .i64 0) := (blk_cell BK208.out 1).trans rfl
                  have hcz41_2 : w38.cell? ⟨gb208, 2, none⟩ = some (.int .i64 0) := (blk_cell BK208.out 2).trans rfl
                  have hcz41_3 : w38.cell? ⟨gb208, 3, none⟩ = some (.int .i64 0) := (blk_cell BK208.out 3).trans rfl
                  have hcz41_4 : w38.cell? ⟨gb208, 4, none⟩ = some (.int .i64 0) := (blk_cell BK208.out 4).trans rfl
                  have hcz41_5 : w38.cell? ⟨gb208, 5, none⟩ = some (.int .i64 0) := (blk_cell BK208.out 5).trans rfl
                  have hcz41_6 : w38.cell? ⟨gb208, 6, none⟩ = some (.bool false) := (blk_cell BK208.out 6).trans rfl
                  have hfz41_0 := blk_frozen BK208.out 0
                  have hfz41_1 := blk_frozen BK208.out 1
                  have hfz41_2 := blk_frozen BK208.out 2
                  have hfz41_3 := blk_frozen BK208.out 3
                  have hfz41_4 := blk_frozen BK208.out 4
                  have hfz41_5 := blk_frozen BK208.out 5
                  have hfz41_6 := blk_frozen BK208.out 6
                  try go_wp2
                  refine bodyPost_ret (results_ct rfl _ _ gb208 35 #[.int .i64 ji34, .int .i64 a0_1, .int .i64 a0_2, .int .i64 a0_3, .int .i64 a0_4, .int .i64 ji32, .bool true] (0, 0) _ rfl (by refine skp_ ?_; refine blk_put (cs := #[.int .i64 ji34, .int .i64 a0_1, .int .i64 a0_2, .int .i64 a0_3, .int .i64 a0_4, .int .i64 ji32, .bool false]) ?_ 6 _ rfl; refine skp_ ?_; refine blk_put (cs := #[.int .i64 ji34, .int .i64 a0_1, .int .i64 a0_2, .int .i64 a0_3, .int .i64 a0_4, .int .i64 0, .bool false]) ?_ 5 _ rfl; refine skp_ ?_; refine blk_put (cs := #[.int .i64 ji34, .int .i64 a0_1, .int .i64 a0_2, .int .i64 a0_3, .int .i64 0, .int .i64 0, .bool false]) ?_ 4 _ rfl; refine skp_ ?_; refine blk_put (cs := #[.int .i64 ji34, .int .i64 a0_1, .int .i64 a0_2, .int .i64 0, .int .i64 0, .int .i64 0, .bool false]) ?_ 3 _ rfl; refine skp_ ?_; refine blk_put (cs := #[.int .i64 ji34, .int .i64 a0_1, .int .i64 0, .int .i64 0, .int .i64 0, .int .i64 0, .bool false]) ?_ 2 _ rfl; refine skp_ ?_; refine blk_put (cs := #[.int .i64 ji34, .int .i64 0, .int .i64 0, .int .i64 0, .int .i64 0, .int .i64 0, .bool false]) ?_ 1 _ rfl; refine skp_ ?_; refine blk_put (cs := #[.int .i64 0, .int .i64 0, .int .i64 0, .int .i64 0, .int .i64 0, .int .i64 0, .bool false]) ?_ 0 _ rfl; refine skp_ ?_; refine blk_far ?_ NB208_207.out _; refine skp_ ?_; refine blk_far ?_ NB208_207.out _; refine skp_ ?_; exact BK208.out) Try.underlying35 rfl (by kernel_rfl)) rfl ?_
                  exact ⟨by first | rfl | (simp [errW_none, errW_some] <;> rfl) | (simp only [← hji29, ← hji32, ← hji34]; first | rfl | (simp [errW_none, errW_some] <;> rfl)) | (simp [*, errW_none, errW_some] <;> rfl), by repeat (first | (with_reducible first | exact HB.out | apply below_alloc | apply pw_below_drewN | apply below_drew1 | refine below_set ?_ GE207.out | refine below_set ?_ GE208.out) | exact HB.out)⟩
                · rw [if_neg c33] at H
                  have c33b0 : decide (t213 < (ji32)) = false := decide_eq_false c33
                  clear c33
                  obtain ⟨ji42, hji42⟩ : ∃ j_ : Int, (mn t213 (wrap64 (Int.tdiv (wrap64 (a0_0 * 3)) 2))) = j_ := ⟨_, rfl⟩
                  replace H : (if a0_0 = 0 then (none) else (some (mn (wrap64 (a0_0 + (wrap64 (Int.tdiv (wrap64 ((wrap64 ((mx a0_0 (ji42)) - a0_0)) * a2)) a0_0)))) 1073741824, a0_1, a0_2, a0_3, a0_4, ji32, true, 0))) = some (r1, r2, r3, r4, r5, r6, r7, r8) := by first | (rw [hji42] at H; exact H) | (simp only [hji42] at H ⊢; exact H)
                  (try rw [hji42] at A30)
                  have hji42_ : (if (wrap64 (Int.tdiv (wrap64 (a0_0 * 3)) 2)) < t213 then (wrap64 (Int.tdiv (wrap64 (a0_0 * 3)) 2)) else t213) = ji42 := hji42
                  obtain ⟨ji43, hji43⟩ : ∃ j_ : Int, (mx a0_0 (ji42)) = j_ := ⟨_, rfl⟩
                  replace H : (if a0_0 = 0 then (none) else (some (mn (wrap64 (a0_0 + (wrap64 (Int.tdiv (wrap64 ((wrap64 ((ji43) - a0_0)) * a2)) a0_0)))) 1073741824, a0_1, a0_2, a0_3, a0_4, ji32, true, 0))) = some (r1, r2, r3, r4, r5, r6, r7, r8) := by first | (rw [hji43] at H; exact H) | (simp only [hji43] at H ⊢; exact H)
                  (try rw [hji43] at A30)
                  have hji43_ : (if a0_0 < (ji42) then (ji42) else a0_0) = ji43 := hji43
                  by_cases c44 : a0_0 = 0
                  · rw [if_pos c44] at H
                    exact absurd H (by simp)
                  · rw [if_neg c44] at H
                    have c44b0 : (a0_0 == 0) = false := beq_eq_false_iff_ne.mpr c44
                    have c44b1 : (a0_0 != 0) = true := bne_iff_ne.mpr c44
                    obtain ⟨ji45, hji45⟩ : ∃ j_ : Int, (mn (wrap64 (a0_0 + (wrap64 (Int.tdiv (wrap64 ((wrap64 ((ji43) - a0_0)) * a2)) a0_0)))) 1073741824) = j_ := ⟨_, rfl⟩
                    replace H : (some (ji45, a0_1, a0_2, a0_3, a0_4, ji32, true, 0)) = some (r1, r2, r3, r4, r5, r6, r7, r8) := by first | (rw [hji45] at H; exact H) | (simp only [hji45] at H ⊢; exact H)
                    (try rw [hji45] at A30)
                    have hji45_ : (if 1073741824 < (wrap64 (a0_0 + (wrap64 (Int.tdiv (wrap64 ((wrap64 ((ji43) - a0_0)) * a2)) a0_0)))) then 1073741824 else (wrap64 (a0_0 + (wrap64 (Int.tdiv (wrap64 ((wrap64 ((ji43) - a0_0)) * a2)) a0_0))))) = ji45 := hji45
                    simp only [Option.some.injEq, Prod.mk.injEq] at H
                    obtain ⟨rfl, rfl, rfl, rfl, rfl, rfl, rfl, rfl⟩ := H
                    have hnb46 := NB207_208.out
                    have hnc46 := NB208_207.out
                    have hcz47_0 : wc.cell? ⟨gb207, 0, none⟩ = some (.int .i64 a0_0) := (blk_cell BK207.out 0).trans rfl
                    have hcz47_1 : wc.cell? ⟨gb207, 1, none⟩ = some (.int .i64 a0_1) := (blk_cell BK207.out 1).trans rfl
                    have hcz47_2 : wc.cell? ⟨gb207, 2, none⟩ = some (.int .i64 a0_2) := (blk_cell BK207.out 2).trans rfl
                    have hcz47_3 : wc.cell? ⟨gb207, 3, none⟩ = some (.int .i64 a0_3) := (blk_cell BK207.out 3).trans rfl
                    have hcz47_4 : wc.cell? ⟨gb207, 4, none⟩ = some (.int .i64 a0_4) := (blk_cell BK207.out 4).trans rfl
                    have hcz47_5 : wc.cell? ⟨gb207, 5, none⟩ = some (.int .i64 a0_5) := (blk_cell BK207.out 5).trans rfl
                    have hcz47_6 : wc.cell? ⟨gb207, 6, none⟩ = some (.bool true) := (blk_cell BK207.out 6).trans rfl
                    have hfz47_0 := blk_frozen BK207.out 0
                    have hfz47_1 := blk_frozen BK207.out 1
                    have hfz47_2 := blk_frozen BK207.out 2
                    have hfz47_3 := blk_frozen BK207.out 3
                    have hfz47_4 := blk_frozen BK207.out 4
                    have hfz47_5 := blk_frozen BK207.out 5
                    have hfz47_6 := blk_frozen BK207.out 6
                    try go_wp2_with (first | ((with_reducible refine gate_callee (f := 10) rfl ?_); refine goesL_ (some 95) rfl rfl Try.func10 (by kernel_rfl) rfl #[.int .i64 a0_2, .int .i64 a1, .int .i64 (wrap64 ((wrap64 ((ji29) + a4)) - a0_3))] rfl (by (try simp only [List.map_toArray, List.map_cons, List.map_nil]); first | done | (simp only [hji29]; rfl) | rfl | (simp only [List.length_drop, List.length_take]; rfl)) ?_; (with_reducible refine (stopcockref21_Curve.calls a0_2 a1 (wrap64 ((wrap64 ((ji29) + a4)) - a0_3)) t213 t214 _ A30.out).mono ?_); rintro e w48 ⟨rfl, hb⟩; refine ⟨_, rfl, ?_⟩; have n0_ := Aside0.mk (blk_below (g := gb207) (o := .cells #[.int .i64 a0_0, .int .i64 a0_1, .int .i64 a0_2, .int .i64 a0_3, .int .i64 a0_4, .int .i64 a0_5, .bool true] 35 (0, 0)) (skp_ BK207.out) hb); have n1_ := Aside0.mk (blk_below (g := gb208) (o := .cells #[.int .i64 0, .int .i64 0, .int .i64 0, .int .i64 0, .int .i64 0, .int .i64 0, .bool false] 35 (0, 0)) (skp_ BK208.out) hb); have n2_ := Aside0.mk (below_step (by repeat (first | (with_reducible first | exact HB.out | apply below_alloc | apply pw_below_drewN | apply below_drew1 | refine below_set ?_ GE207.out | refine below_set ?_ GE208.out) | exact HB.out)) hb); clear BK207; clear BK208; clear HB; have BK207 := n0_; have BK208 := n1_; have HB := n2_; clear n0_ n1_ n2_; (try clear hb); (try clear hb2); (try clear hk); (try clear hi)))
                    have n0_ := Aside0.mk (blk_drew BK207.out)
                    have n1_ := Aside0.mk (blk_drew BK208.out)
                    have n2_ := Aside0.mk (below_drew1 HB.out)
                    clear BK207
                    clear BK208
                    clear HB
                    have BK207 := n0_
                    have BK208 := n1_
                    have HB := n2_
                    clear n0_ n1_ n2_
                    refine start_ (n := 14) (S := fun w' => w'.cell? ⟨gb207, 0, none⟩ = some (.int .i64 a0_0) ∧ w'.cell? ⟨gb207, 1, none⟩ = some (.int .i64 a0_1) ∧ w'.cell? ⟨gb207, 2, none⟩ = some (.int .i64 a0_2) ∧ w'.cell? ⟨gb207, 3, none⟩ = some (.int .i64 a0_3) ∧ w'.cell? ⟨gb207, 4, none⟩ = some (.int .i64 a0_4) ∧ w'.cell? ⟨gb207, 5, none⟩ = some (.int .i64 a0_5) ∧ w'.cell? ⟨gb207, 6, none⟩ = some (.bool true)) (ds := [13]) #[false, false, false, false, false, false, false, false, false, false, false, false, false, false] (by kernel_rfl) rfl rfl ⟨(blk_cell BK207.out 0).trans rfl, (blk_cell BK207.out 1).trans rfl, (blk_cell BK207.out 2).trans rfl, (blk_cell BK207.out 3).trans rfl, (blk_cell BK207.out 4).trans rfl, (blk_cell BK207.out 5).trans rfl, (blk_cell BK207.out 6).trans rfl⟩ (fun hHeld => ?_); refine with_tabW stopcockref21_Ack.tab15 stopcockref21_Ack.bits15 (fun HT_ HW_ => ?_)
                    generalize w48.drew = w49 at BK207 BK208 HB hHeld ⊢
                    refine pure_ (i := 0) (N := some 98) (v := ?_) (a' := ?_) #[true, false, false, false, false, false, false, false, false, false, false, false, false, false] rfl rfl (any_of HT_.out (by kernel_rfl)) (fun _ _ _ h => h) (Or.inl ⟨by rfl, ?_⟩) ?_ ?_
                    rotate_left
                    · intro w'
                      go_simp
                      with_reducible rfl
                    rotate_left
                    · simp only [Act.put, List.setIfInBounds_toArray, List.set_cons_zero, List.set_cons_succ, i64_w, i32_w]
                      rfl
                    refine pure_ (i := 2) (N := some 100) (v := ?_) (a' := ?_) #[true, false, true, false, false, false, false, false, false, false, false, false, false, false] rfl rfl (any_of HT_.out (by kernel_rfl)) (fun _ _ _ h => h) (Or.inl ⟨by rfl, ?_⟩) ?_ ?_
                    rotate_left
                    · intro w'
                      go_simp
                      with_reducible rfl
                    rotate_left
                    · simp only [Act.put, List.setIfInBounds_toArray, List.set_cons_zero, List.set_cons_succ, i64_w, i32_w]
                      rfl
                    refine pure_ (i := 3) (N := some 101) (v := ?_) (a' := ?_) #[true, false, true, true, false, false, false, false, false, false, false, false, false, false] rfl rfl (any_of HT_.out (by kernel_rfl)) (fun _ _ _ h => h) (Or.inl ⟨by rfl, ?_⟩) ?_ ?_
                    rotate_left
                    · intro w'
                      go_simp
                      with_reducible rfl
                    rotate_left
                    · simp only [Act.put, List.setIfInBounds_toArray, List.set_cons_zero, List.set_cons_succ, i64_w, i32_w]
                      rfl
                    refine pure_ (i := 4) (N := some 102) (v := ?_) (a' := ?_) #[true, false, true, true, true, false, false, false, false, false, false, false, false, false] rfl rfl (any_of HT_.out (by kernel_rfl)) (fun _ _ _ h => h) (Or.inl ⟨by rfl, ?_⟩) ?_ ?_
                    rotate_left
                    · intro w'
                      go_simp
                      with_reducible rfl
                    rotate_left
                    · simp only [Act.put, List.setIfInBounds_toArray, List.set_cons_zero, List.set_cons_succ, i64_w, i32_w]
                      rfl
                    refine pure_ (i := 5) (N := some 103) (v := ?_) (a' := ?_) #[true, false, true, true, true, true, false, false, false, false, false, false, false, false] rfl rfl (any_of HT_.out (by kernel_rfl)) (fun _ _ _ h => h) (Or.inl ⟨by rfl, ?_⟩) ?_ ?_
                    rotate_left
                    · intro w'
                      go_simp
                      with_reducible rfl
                    rotate_left
                    · simp only [Act.put, List.setIfInBounds_toArray, List.set_cons_zero, List.set_cons_succ, i64_w, i32_w]
                      rfl
                    refine pure_ (i := 6) (N := some 104) (v := ?_) (a' := ?_) #[true, false, true, true, true, true, true, false, false, false, false, false, false, false] rfl rfl (any_of HT_.out (by kernel_rfl)) (fun _ _ _ h => h) (Or.inl ⟨by rfl, ?_⟩) ?_ ?_
                    rotate_left
                    · intro w'
                      go_simp
                      with_reducible rfl
                    rotate_left
                    · simp only [Act.put, List.setIfInBounds_toArray, List.set_cons_zero, List.set_cons_succ, i64_w, i32_w]
                      rfl
                    refine take_ (i := 1) (N := some 99) (v := ?_) (a' := ?_) #[true, true, true, true, true, true, true, false, false, false, false, false, false, false] rfl rfl (take_ofW HT_.out HW_.out (by kernel_rfl)) (fun _ _ _ h => h) (Or.inl ⟨by rfl, ?_⟩) hHeld ?_ ?_
                    rotate_left
                    · rintro w' ⟨s0, s1, s2, s3, s4, s5, s6⟩
                      go_simp
                      with_reducible rfl
                    rotate_left
                    · simp only [Act.put, List.setIfInBounds_toArray, List.set_cons_zero, List.set_cons_succ, i64_w, i32_w]
                      rfl
                    refine take_ (i := 7) (N := some 105) (v := ?_) (a' := ?_) #[true, true, true, true, true, true, true, true, false, false, false, false, false, false] rfl rfl (take_ofW HT_.out HW_.out (by kernel_rfl)) (fun _ _ _ h => h) (Or.inl ⟨by rfl, ?_⟩) hHeld ?_ ?_
                    rotate_left
                    · rintro w' ⟨s0, s1, s2, s3, s4, s5, s6⟩
                      go_simp
                      with_reducible rfl
                    rotate_left
                    · simp only [Act.put, List.setIfInBounds_toArray, List.set_cons_zero, List.set_cons_succ, i64_w, i32_w]
                      rfl
                    refine pure_ (i := 8) (N := some 106) (v := ?_) (a' := ?_) #[true, true, true, true, true, true, true, true, true, false, false, false, false, false] rfl rfl (any_of HT_.out (by kernel_rfl)) (fun _ _ _ h => h) (Or.inl ⟨by rfl, ?_⟩) ?_ ?_
                    rotate_left
                    · intro w'
                      go_simp
                      with_reducible rfl
                    rotate_left
                    · simp only [Act.put, List.setIfInBounds_toArray, List.set_cons_zero, List.set_cons_succ, i64_w, i32_w]
                      rfl
                    refine pure_ (i := 9) (N := some 107) (v := ?_) (a' := ?_) #[true, true, true, true, true, true, true, true, true, true, false, false, false, false] rfl rfl (any_of HT_.out (by kernel_rfl)) (fun _ _ _ h => h) (Or.inl ⟨by rfl, ?_⟩) ?_ ?_
                    rotate_left
                    · intro w'
                      go_simp
                      with_reducible rfl
                    rotate_left
                    · simp only [Act.put, List.setIfInBounds_toArray, List.set_cons_zero, List.set_cons_succ, i64_w, i32_w]
                      rfl
                    refine pure_ (i := 10) (N := some 108) (v := ?_) (a' := ?_) #[true, true, true, true, true, true, true, true, true, true, true, false, false, false] rfl rfl (any_of HT_.out (by kernel_rfl)) (fun _ _ _ h => h) (Or.inl ⟨by rfl, ?_⟩) ?_ ?_
                    rotate_left
                    · intro w'
                      go_simp
                      with_reducible rfl
                    rotate_left
                    · simp only [Act.put, List.setIfInBounds_toArray, List.set_cons_zero, List.set_cons_succ, i64_w, i32_w]
                      rfl
                    refine pure_ (i := 11) (N := some 109) (v := ?_) (a' := ?_) #[true, true, true, true, true, true, true, true, true, true, true, true, false, false] rfl rfl (any_of HT_.out (by kernel_rfl)) (fun _ _ _ h => h) (Or.inl ⟨by rfl, ?_⟩) ?_ ?_
                    rotate_left
                    · intro w'
                      go_simp
                      with_reducible rfl
                    rotate_left
                    · simp only [Act.put, List.setIfInBounds_toArray, List.set_cons_zero, List.set_cons_succ, i64_w, i32_w]
                      rfl
                    refine pure_ (i := 12) (N := some 110) (v := ?_) (a' := ?_) #[true, true, true, true, true, true, true, true, true, true, true, true, true, false] rfl rfl (any_of HT_.out (by kernel_rfl)) (fun _ _ _ h => h) (Or.inl ⟨by rfl, ?_⟩) ?_ ?_
                    rotate_left
                    · intro w'
                      go_simp
                      with_reducible rfl
                    rotate_left
                    · simp only [Act.put, List.setIfInBounds_toArray, List.set_cons_zero, List.set_cons_succ, i64_w, i32_w]
                      rfl
                    refine last_ (i := 13) (N := none) #[true, true, true, true, true, true, true, true, true, true, true, true, true, true] rfl rfl (one_of HT_.out (by kernel_rfl)) (by decide) (fun K hK => ?_)
                    have hs50 : w49.cell? ⟨gb207, 5, none⟩ = some (.int .i64 a0_5) := (blk_cell BK207.out 5).trans rfl
                    have hfs50 := blk_frozen BK207.out 5
                    have hns50_1 := NB208_207.out
                    have hms50_1 := NB207_208.out
                    refine skip_ (w1 := ?_) (by rfl) rfl ?_ ?_
                    rotate_left
                    · go_simp
                      rfl
                    refine hK.out _ _ ?_
                    clear hK K
                    refine done_ (done_of HT_.out (by kernel_rfl)) ?_
                    have hcz51_0 : w49.cell? ⟨gb207, 0, none⟩ = some (.int .i64 a0_0) := (blk_cell BK207.out 0).trans rfl
                    have hcz51_1 : w49.cell? ⟨gb207, 1, none⟩ = some (.int .i64 a0_1) := (blk_cell BK207.out 1).trans rfl
                    have hcz51_2 : w49.cell? ⟨gb207, 2, none⟩ = some (.int .i64 a0_2) := (blk_cell BK207.out 2).trans rfl
                    have hcz51_3 : w49.cell? ⟨gb207, 3, none⟩ = some (.int .i64 a0_3) := (blk_cell BK207.out 3).trans rfl
                    have hcz51_4 : w49.cell? ⟨gb207, 4, none⟩ = some (.int .i64 a0_4) := (blk_cell BK207.out 4).trans rfl
                    have hcz51_5 : w49.cell? ⟨gb207, 5, none⟩ = some (.int .i64 a0_5) := (blk_cell BK207.out 5).trans rfl
                    have hcz51_6 : w49.cell? ⟨gb207, 6, none⟩ = some (.bool true) := (blk_cell BK207.out 6).trans rfl
                    have hfz51_0 := blk_frozen BK207.out 0
                    have hfz51_1 := blk_frozen BK207.out 1
                    have hfz51_2 := blk_frozen BK207.out 2
                    have hfz51_3 := blk_frozen BK207.out 3
                    have hfz51_4 := blk_frozen BK207.out 4
                    have hfz51_5 := blk_frozen BK207.out 5
                    have hfz51_6 := blk_frozen BK207.out 6
                    try go_wp2
                    have n0_ : Aside0 ((w49.setCell ⟨gb207, 5, none⟩ (.int .i64 ji32)).heap[gb207]? = some (.cells #[.int .i64 a0_0, .int .i64 a0_1, .int .i64 a0_2, .int .i64 a0_3, .int .i64 a0_4, .int .i64 ji32, .bool true] 35 (0, 0))) := ⟨by refine skp_ ?_; refine blk_put (cs := #[.int .i64 a0_0, .int .i64 a0_1, .int .i64 a0_2, .int .i64 a0_3, .int .i64 a0_4, .int .i64 a0_5, .bool true]) ?_ 5 _ rfl; refine skp_ ?_; exact BK207.out⟩
                    have n1_ : Aside0 ((w49.setCell ⟨gb207, 5, none⟩ (.int .i64 ji32)).heap[gb208]? = some (.cells #[.int .i64 0, .int .i64 0, .int .i64 0, .int .i64 0, .int .i64 0, .int .i64 0, .bool false] 35 (0, 0))) := ⟨by refine skp_ ?_; refine blk_far ?_ NB208_207.out _; refine skp_ ?_; exact BK208.out⟩
                    have n2_ : Aside0 (Below w.heap.size w (w49.setCell ⟨gb207, 5, none⟩ (.int .i64 ji32))) := ⟨by repeat (first | (with_reducible first | exact HB.out | apply below_alloc | apply pw_below_drewN | apply below_drew1 | refine below_set ?_ GE207.out | refine below_set ?_ GE208.out) | exact HB.out)⟩
                    (try clear BK207)
                    (try clear BK208)
                    (try clear HB)
                    generalize (w49.setCell ⟨gb207, 5, none⟩ (.int .i64 ji32)) = w52 at n0_ n1_ n2_ ⊢
                    have BK207 := n0_
                    have BK208 := n1_
                    have HB := n2_
                    clear n0_ n1_ n2_
                    have n0_ := Aside0.mk (blk_drew BK207.out)
                    have n1_ := Aside0.mk (blk_drew BK208.out)
                    have n2_ := Aside0.mk (below_drew1 HB.out)
                    clear BK207
                    clear BK208
                    clear HB
                    have BK207 := n0_
                    have BK208 := n1_
                    have HB := n2_
                    clear n0_ n1_ n2_
                    refine start_ (n := 15) (S := fun w' => w'.cell? ⟨gb207, 0, none⟩ = some (.int .i64 a0_0) ∧ w'.cell? ⟨gb207, 1, none⟩ = some (.int .i64 a0_1) ∧ w'.cell? ⟨gb207, 2, none⟩ = some (.int .i64 a0_2) ∧ w'.cell? ⟨gb207, 3, none⟩ = some (.int .i64 a0_3) ∧ w'.cell? ⟨gb207, 4, none⟩ = some (.int .i64 a0_4) ∧ w'.cell? ⟨gb207, 5, none⟩ = some (.int .i64 ji32) ∧ w'.cell? ⟨gb207, 6, none⟩ = some (.bool true)) (ds := [14]) #[false, false, false, false, false, false, false, false, false, false, false, false, false, false, false] (by kernel_rfl) rfl rfl ⟨(blk_cell BK207.out 0).trans rfl, (blk_cell BK207.out 1).trans rfl, (blk_cell BK207.out 2).trans rfl, (blk_cell BK207.out 3).trans rfl, (blk_cell BK207.out 4).trans rfl, (blk_cell BK207.out 5).trans rfl, (blk_cell BK207.out 6).trans rfl⟩ (fun hHeld => ?_); refine with_tabW stopcockref21_Ack.tab20 stopcockref21_Ack.bits20 (fun HT_ HW_ => ?_)
                    generalize w52.drew = w53 at BK207 BK208 HB hHeld ⊢
                    refine pure_ (i := 0) (N := some 131) (v := ?_) (a' := ?_) #[true, false, false, false, false, false, false, false, false, false, false, false, false, false, false] rfl rfl (any_of HT_.out (by kernel_rfl)) (fun _ _ _ h => h) (Or.inl ⟨by rfl, ?_⟩) ?_ ?_
                    rotate_left
                    · intro w'
                      go_simp
                      with_reducible rfl
                    rotate_left
                    · simp only [Act.put, List.setIfInBounds_toArray, List.set_cons_zero, List.set_cons_succ, i64_w, i32_w]
                      rfl
                    refine pure_ (i := 2) (N := some 133) (v := ?_) (a' := ?_) #[true, false, true, false, false, false, false, false, false, false, false, false, false, false, false] rfl rfl (any_of HT_.out (by kernel_rfl)) (fun _ _ _ h => h) (Or.inl ⟨by rfl, ?_⟩) ?_ ?_
                    rotate_left
                    · intro w'
                      go_simp
                      with_reducible rfl
                    rotate_left
                    · simp only [Act.put, List.setIfInBounds_toArray, List.set_cons_zero, List.set_cons_succ, i64_w, i32_w]
                      rfl
                    refine pure_ (i := 3) (N := some 134) (v := ?_) (a' := ?_) #[true, false, true, true, false, false, false, false, false, false, false, false, false, false, false] rfl rfl (any_of HT_.out (by kernel_rfl)) (fun _ _ _ h => h) (Or.inl ⟨by rfl, ?_⟩) ?_ ?_
                    rotate_left
                    · intro w'
                      go_simp
                      with_reducible rfl
                    rotate_left
                    · simp only [Act.put, List.setIfInBounds_toArray, List.set_cons_zero, List.set_cons_succ, i64_w, i32_w]
                      rfl
                    refine pure_ (i := 6) (N := some 137) (v := ?_) (a' := ?_) #[true, false, true, true, false, false, true, false, false, false, false, false, false, false, false] rfl rfl (any_of HT_.out (by kernel_rfl)) (fun _ _ _ h => h) (Or.inl ⟨by rfl, ?_⟩) ?_ ?_
                    rotate_left
                    · intro w'
                      go_simp
                      with_reducible rfl
                    rotate_left
                    · simp only [Act.put, List.setIfInBounds_toArray, List.set_cons_zero, List.set_cons_succ, i64_w, i32_w]
                      rfl
                    refine pure_ (i := 8) (N := some 139) (v := ?_) (a' := ?_) #[true, false, true, true, false, false, true, false, true, false, false, false, false, false, false] rfl rfl (any_of HT_.out (by kernel_rfl)) (fun _ _ _ h => h) (Or.inl ⟨by rfl, ?_⟩) ?_ ?_
                    rotate_left
                    · intro w'
                      go_simp
                      with_reducible rfl
                    rotate_left
                    · simp only [Act.put, List.setIfInBounds_toArray, List.set_cons_zero, List.set_cons_succ, i64_w, i32_w]
                      rfl
                    refine take_ (i := 1) (N := some 132) (v := ?_) (a' := ?_) #[true, true, true, true, false, false, true, false, true, false, false, false, false, false, false] rfl rfl (take_ofW HT_.out HW_.out (by kernel_rfl)) (fun _ _ _ h => h) (Or.inl ⟨by rfl, ?_⟩) hHeld ?_ ?_
                    rotate_left
                    · rintro w' ⟨s0, s1, s2, s3, s4, s5, s6⟩
                      go_simp
                      with_reducible rfl
                    rotate_left
                    · simp only [Act.put, List.setIfInBounds_toArray, List.set_cons_zero, List.set_cons_succ, i64_w, i32_w]
                      rfl
                    refine take_ (i := 4) (N := some 135) (v := ?_) (a' := ?_) #[true, true, true, true, true, false, true, false, true, false, false, false, false, false, false] rfl rfl (take_ofW HT_.out HW_.out (by kernel_rfl)) (fun _ _ _ h => h) (Or.inl ⟨by rfl, ?_⟩) hHeld ?_ ?_
                    rotate_left
                    · rintro w' ⟨s0, s1, s2, s3, s4, s5, s6⟩
                      go_simp
                      with_reducible rfl
                    rotate_left
                    · simp only [Act.put, List.setIfInBounds_toArray, List.set_cons_zero, List.set_cons_succ, i64_w, i32_w]
                      rfl
                    refine pure_ (i := 5) (N := some 136) (v := ?_) (a' := ?_) #[true, true, true, true, true, true, true, false, true, false, false, false, false, false, false] rfl rfl (any_of HT_.out (by kernel_rfl)) (fun _ _ _ h => h) (Or.inl ⟨by rfl, ?_⟩) ?_ ?_
                    rotate_left
                    · intro w'
                      go_simp
                      with_reducible rfl
                    rotate_left
                    · simp only [Act.put, List.setIfInBounds_toArray, List.set_cons_zero, List.set_cons_succ, i64_w, i32_w]
                      rfl
                    refine pure_ (i := 7) (N := some 138) (v := ?_) (a' := ?_) #[true, true, true, true, true, true, true, true, true, false, false, false, false, false, false] rfl rfl (any_of HT_.out (by kernel_rfl)) (fun _ _ _ h => h) (Or.inl ⟨by rfl, ?_⟩) ?_ ?_
                    rotate_left
                    · intro w'
                      go_simp
                      with_reducible rfl
                    rotate_left
                    · simp only [Act.put, List.setIfInBounds_toArray, List.set_cons_zero, List.set_cons_succ, i64_w, i32_w]
                      rfl
                    refine take_ (i := 9) (N := some 140) (v := ?_) (a' := ?_) #[true, true, true, true, true, true, true, true, true, true, false, false, false, false, false] rfl rfl (take_ofW HT_.out HW_.out (by kernel_rfl)) (fun _ _ _ h => h) (Or.inl ⟨by rfl, ?_⟩) hHeld ?_ ?_
                    rotate_left
                    · rintro w' ⟨s0, s1, s2, s3, s4, s5, s6⟩
                      go_simp
                      with_reducible rfl
                    rotate_left
                    · simp only [Act.put, List.setIfInBounds_toArray, List.set_cons_zero, List.set_cons_succ, i64_w, i32_w]
                      rfl
                    refine pure_ (i := 10) (N := some 141) (v := ?_) (a' := ?_) #[true, true, true, true, true, true, true, true, true, true, true, false, false, false, false] rfl rfl (any_of HT_.out (by kernel_rfl)) (fun _ _ _ h => h) (Or.inl ⟨by rfl, ?_⟩) ?_ ?_
                    rotate_left
                    · intro w'
                      go_simp
                      with_reducible rfl
                    rotate_left
                    · simp only [Act.put, List.setIfInBounds_toArray, List.set_cons_zero, List.set_cons_succ, i64_w, i32_w]
                      rfl
                    refine pure_ (i := 11) (N := some 142) (v := ?_) (a' := ?_) #[true, true, true, true, true, true, true, true, true, true, true, true, false, false, false] rfl rfl (any_of HT_.out (by kernel_rfl)) (fun _ _ _ h => h) (Or.inl ⟨by rfl, ?_⟩) ?_ ?_
                    rotate_left
                    · intro w'
                      go_simp
                      with_reducible rfl
                    rotate_left
                    · simp only [Act.put, List.setIfInBounds_toArray, List.set_cons_zero, List.set_cons_succ, i64_w, i32_w]
                      rfl
                    refine pure_ (i := 12) (N := some 143) (v := ?_) (a' := ?_) #[true, true, true, true, true, true, true, true, true, true, true, true, true, false, false] rfl rfl (any_of HT_.out (by kernel_rfl)) (fun _ _ _ h => h) (Or.inl ⟨by rfl, ?_⟩) ?_ ?_
                    rotate_left
                    · intro w'
                      go_simp
                      with_reducible rfl
                    rotate_left
                    · simp only [Act.put, List.setIfInBounds_toArray, List.set_cons_zero, List.set_cons_succ, i64_w, i32_w]
                      rfl
                    refine pure_ (i := 13) (N := some 144) (v := ?_) (a' := ?_) #[true, true, true, true, true, true, true, true, true, true, true, true, true, true, false] rfl rfl (any_of HT_.out (by kernel_rfl)) (fun _ _ _ h => h) (Or.inl ⟨by rfl, ?_⟩) ?_ ?_
                    rotate_left
                    · intro w'
                      go_simp
                      with_reducible rfl
                    rotate_left
                    · simp only [Act.put, List.setIfInBounds_toArray, List.set_cons_zero, List.set_cons_succ, i64_w, i32_w]
                      rfl
                    refine last_ (i := 14) (N := none) #[true, true, true, true, true, true, true, true, true, true, true, true, true, true, true] rfl rfl (one_of HT_.out (by kernel_rfl)) (by decide) (fun K hK => ?_)
                    have hs54 : w53.cell? ⟨gb207, 0, none⟩ = some (.int .i64 a0_0) := (blk_cell BK207.out 0).trans rfl
                    have hfs54 := blk_frozen BK207.out 0
                    have hns54_1 := NB208_207.out
                    have hms54_1 := NB207_208.out
                    refine skip_ (w1 := ?_) (by rfl) rfl ?_ ?_
                    rotate_left
                    · go_simp
                      rfl
                    refine hK.out _ _ ?_
                    clear hK K
                    refine done_ (done_of HT_.out (by kernel_rfl)) ?_
                    have hcz55_0 : w53.cell? ⟨gb207, 0, none⟩ = some (.int .i64 a0_0) := (blk_cell BK207.out 0).trans rfl
                    have hcz55_1 : w53.cell? ⟨gb207, 1, none⟩ = some (.int .i64 a0_1) := (blk_cell BK207.out 1).trans rfl
                    have hcz55_2 : w53.cell? ⟨gb207, 2, none⟩ = some (.int .i64 a0_2) := (blk_cell BK207.out 2).trans rfl
                    have hcz55_3 : w53.cell? ⟨gb207, 3, none⟩ = some (.int .i64 a0_3) := (blk_cell BK207.out 3).trans rfl
                    have hcz55_4 : w53.cell? ⟨gb207, 4, none⟩ = some (.int .i64 a0_4) := (blk_cell BK207.out 4).trans rfl
                    have hcz55_5 : w53.cell? ⟨gb207, 5, none⟩ = some (.int .i64 ji32) := (blk_cell BK207.out 5).trans rfl
                    have hcz55_6 : w53.cell? ⟨gb207, 6, none⟩ = some (.bool true) := (blk_cell BK207.out 6).trans rfl
                    have hfz55_0 := blk_frozen BK207.out 0
                    have hfz55_1 := blk_frozen BK207.out 1
                    have hfz55_2 := blk_frozen BK207.out 2
                    have hfz55_3 := blk_frozen BK207.out 3
                    have hfz55_4 := blk_frozen BK207.out 4
                    have hfz55_5 := blk_frozen BK207.out 5
                    have hfz55_6 := blk_frozen BK207.out 6
                    have hcz56_0 : w53.cell? ⟨gb208, 0, none⟩ = some (.int .i64 0) := (blk_cell BK208.out 0).trans rfl
                    have hcz56_1 : w53.cell? ⟨gb208, 1, none⟩ = some (.int .i64 0) := (blk_cell BK208.out 1).trans rfl
                    have hcz56_2 : w53.cell? ⟨gb208, 2, none⟩ = some (.int .i64 0) := (blk_cell BK208.out 2).trans rfl
                    have hcz56_3 : w53.cell? ⟨gb208, 3, none⟩ = some (.int .i64 0) := (blk_cell BK208.out 3).trans rfl
                    have hcz56_4 : w53.cell? ⟨gb208, 4, none⟩ = some (.int .i64 0) := (blk_cell BK208.out 4).trans rfl
                    have hcz56_5 : w53.cell? ⟨gb208, 5, none⟩ = some (.int .i64 0) := (blk_cell BK208.out 5).trans rfl
                    have hcz56_6 : w53.cell? ⟨gb208, 6, none⟩ = some (.bool false) := (blk_cell BK208.out 6).trans rfl
                    have hfz56_0 := blk_frozen BK208.out 0
                    have hfz56_1 := blk_frozen BK208.out 1
                    have hfz56_2 := blk_frozen BK208.out 2
                    have hfz56_3 := blk_frozen BK208.out 3
                    have hfz56_4 := blk_frozen BK208.out 4
                    have hfz56_5 := blk_frozen BK208.out 5
                    have hfz56_6 := blk_frozen BK208.out 6
                    try go_wp2
                    refine bodyPost_ret (results_ct rfl _ _ gb208 35 #[.int .i64 ji45, .int .i64 a0_1, .int .i64 a0_2, .int .i64 a0_3, .int .i64 a0_4, .int .i64 ji32, .bool true] (0, 0) _ rfl (by refine skp_ ?_; refine blk_put (cs := #[.int .i64 ji45, .int .i64 a0_1, .int .i64 a0_2, .int .i64 a0_3, .int .i64 a0_4, .int .i64 ji32, .bool false]) ?_ 6 _ rfl; refine skp_ ?_; refine blk_put (cs := #[.int .i64 ji45, .int .i64 a0_1, .int .i64 a0_2, .int .i64 a0_3, .int .i64 a0_4, .int .i64 0, .bool false]) ?_ 5 _ rfl; refine skp_ ?_; refine blk_put (cs := #[.int .i64 ji45, .int .i64 a0_1, .int .i64 a0_2, .int .i64 a0_3, .int .i64 0, .int .i64 0, .bool false]) ?_ 4 _ rfl; refine skp_ ?_; refine blk_put (cs := #[.int .i64 ji45, .int .i64 a0_1, .int .i64 a0_2, .int .i64 0, .int .i64 0, .int .i64 0, .bool false]) ?_ 3 _ rfl; refine skp_ ?_; refine blk_put (cs := #[.int .i64 ji45, .int .i64 a0_1, .int .i64 0, .int .i64 0, .int .i64 0, .int .i64 0, .bool false]) ?_ 2 _ rfl; refine skp_ ?_; refine blk_put (cs := #[.int .i64 ji45, .int .i64 0, .int .i64 0, .int .i64 0, .int .i64 0, .int .i64 0, .bool false]) ?_ 1 _ rfl; refine skp_ ?_; refine blk_put (cs := #[.int .i64 0, .int .i64 0, .int .i64 0, .int .i64 0, .int .i64 0, .int .i64 0, .bool false]) ?_ 0 _ rfl; refine skp_ ?_; refine blk_far ?_ NB208_207.out _; refine skp_ ?_; exact BK208.out) Try.underlying35 rfl (by kernel_rfl)) rfl ?_
                    exact ⟨by first | rfl | (simp [errW_none, errW_some] <;> rfl) | (simp only [← hji29, ← hji32, ← hji42, ← hji43, ← hji45]; first | rfl | (simp [errW_none, errW_some] <;> rfl)) | (simp [*, errW_none, errW_some] <;> rfl), by repeat (first | (with_reducible first | exact HB.out | apply below_alloc | apply pw_below_drewN | apply below_drew1 | refine below_set ?_ GE207.out | refine below_set ?_ GE208.out) | exact HB.out)⟩
            · replace c28 := Bool.eq_false_iff.mpr c28
              subst c28
              have H1 : ((stopcockref21_Turn.f kj7 a0_2 a0_0 a1).bind fun bt215 => ((stopcockref21_Curve.f (mx a0_2 a0_0) a1 (wrap64 ((wrap64 (a4)) - bt215.1))).bind fun bt217 => (if (wrap64 (17 * a0_0)) = 0 then (none) else (if (mn (wrap64 (a0_0 + (wrap64 (Int.tdiv (wrap64 ((wrap64 (9 * a1)) * a2)) (wrap64 (17 * a0_0)))))) 1073741824) > bt217.1 then (some (mx a0_0 (mn (wrap64 (a0_0 + (wrap64 (Int.tdiv (wrap64 ((wrap64 (9 * a1)) * a2)) (wrap64 (17 * a0_0)))))) 1073741824), a0_1, mx a0_2 a0_0, bt215.1, a3, mn (wrap64 (a0_0 + (wrap64 (Int.tdiv (wrap64 ((wrap64 (9 * a1)) * a2)) (wrap64 (17 * a0_0)))))) 1073741824, true, 0)) else (if a0_0 = 0 then (none) else (some (mn (wrap64 (a0_0 + (wrap64 (Int.tdiv (wrap64 ((wrap64 ((mx a0_0 (mn bt217.1 (wrap64 (Int.tdiv (wrap64 (a0_0 * 3)) 2)))) - a0_0)) * a2)) a0_0)))) 1073741824, a0_1, mx a0_2 a0_0, bt215.1, a3, mn (wrap64 (a0_0 + (wrap64 (Int.tdiv (wrap64 ((wrap64 (9 * a1)) * a2)) (wrap64 (17 * a0_0)))))) 1073741824, true, 0))))))) = some (r1, r2, r3, r4, r5, r6, r7, r8) := by rw [if_neg (show ¬ (false = true) by decide)] at H; exact H
              clear H
              have H := H1
              clear H1
              replace H := Option.bind_eq_some_iff.mp H
              obtain ⟨⟨t215, t216⟩, A570, H⟩ := H
              replace H : ((stopcockref21_Curve.f (mx a0_2 a0_0) a1 (wrap64 ((wrap64 (a4)) - t215))).bind fun bt217 => (if (wrap64 (17 * a0_0)) = 0 then (none) else (if (mn (wrap64 (a0_0 + (wrap64 (Int.tdiv (wrap64 ((wrap64 (9 * a1)) * a2)) (wrap64 (17 * a0_0)))))) 1073741824) > bt217.1 then (some (mx a0_0 (mn (wrap64 (a0_0 + (wrap64 (Int.tdiv (wrap64 ((wrap64 (9 * a1)) * a2)) (wrap64 (17 * a0_0)))))) 1073741824), a0_1, mx a0_2 a0_0, t215, a3, mn (wrap64 (a0_0 + (wrap64 (Int.tdiv (wrap64 ((wrap64 (9 * a1)) * a2)) (wrap64 (17 * a0_0)))))) 1073741824, true, 0)) else (if a0_0 = 0 then (none) else (some (mn (wrap64 (a0_0 + (wrap64 (Int.tdiv (wrap64 ((wrap64 ((mx a0_0 (mn bt217.1 (wrap64 (Int.tdiv (wrap64 (a0_0 * 3)) 2)))) - a0_0)) * a2)) a0_0)))) 1073741824, a0_1, mx a0_2 a0_0, t215, a3, mn (wrap64 (a0_0 + (wrap64 (Int.tdiv (wrap64 ((wrap64 (9 * a1)) * a2)) (wrap64 (17 * a0_0)))))) 1073741824, true, 0)))))) = some (r1, r2, r3, r4, r5, r6, r7, r8) := H
              have A57 := Aside0.mk A570
              clear A570
              obtain ⟨ji58, hji58⟩ : ∃ j_ : Int, (mx a0_2 a0_0) = j_ := ⟨_, rfl⟩
              replace H : ((stopcockref21_Curve.f (ji58) a1 (wrap64 ((wrap64 (a4)) - t215))).bind fun bt217 => (if (wrap64 (17 * a0_0)) = 0 then (none) else (if (mn (wrap64 (a0_0 + (wrap64 (Int.tdiv (wrap64 ((wrap64 (9 * a1)) * a2)) (wrap64 (17 * a0_0)))))) 1073741824) > bt217.1 then (some (mx a0_0 (mn (wrap64 (a0_0 + (wrap64 (Int.tdiv (wrap64 ((wrap64 (9 * a1)) * a2)) (wrap64 (17 * a0_0)))))) 1073741824), a0_1, ji58, t215, a3, mn (wrap64 (a0_0 + (wrap64 (Int.tdiv (wrap64 ((wrap64 (9 * a1)) * a2)) (wrap64 (17 * a0_0)))))) 1073741824, true, 0)) else (if a0_0 = 0 then (none) else (some (mn (wrap64 (a0_0 + (wrap64 (Int.tdiv (wrap64 ((wrap64 ((mx a0_0 (mn bt217.1 (wrap64 (Int.tdiv (wrap64 (a0_0 * 3)) 2)))) - a0_0)) * a2)) a0_0)))) 1073741824, a0_1, ji58, t215, a3, mn (wrap64 (a0_0 + (wrap64 (Int.tdiv (wrap64 ((wrap64 (9 * a1)) * a2)) (wrap64 (17 * a0_0)))))) 1073741824, true, 0)))))) = some (r1, r2, r3, r4, r5, r6, r7, r8) := by first | (rw [hji58] at H; exact H) | (simp only [hji58] at H ⊢; exact H)
              (try rw [hji58] at A57)
              have hji58_ : (if a0_2 < a0_0 then a0_0 else a0_2) = ji58 := hji58
              replace H := Option.bind_eq_some_iff.mp H
              obtain ⟨⟨t217, t218⟩, A590, H⟩ := H
              replace H : (if (wrap64 (17 * a0_0)) = 0 then (none) else (if (mn (wrap64 (a0_0 + (wrap64 (Int.tdiv (wrap64 ((wrap64 (9 * a1)) * a2)) (wrap64 (17 * a0_0)))))) 1073741824) > t217 then (some (mx a0_0 (mn (wrap64 (a0_0 + (wrap64 (Int.tdiv (wrap64 ((wrap64 (9 * a1)) * a2)) (wrap64 (17 * a0_0)))))) 1073741824), a0_1, ji58, t215, a3, mn (wrap64 (a0_0 + (wrap64 (Int.tdiv (wrap64 ((wrap64 (9 * a1)) * a2)) (wrap64 (17 * a0_0)))))) 1073741824, true, 0)) else (if a0_0 = 0 then (none) else (some (mn (wrap64 (a0_0 + (wrap64 (Int.tdiv (wrap64 ((wrap64 ((mx a0_0 (mn t217 (wrap64 (Int.tdiv (wrap64 (a0_0 * 3)) 2)))) - a0_0)) * a2)) a0_0)))) 1073741824, a0_1, ji58, t215, a3, mn (wrap64 (a0_0 + (wrap64 (Int.tdiv (wrap64 ((wrap64 (9 * a1)) * a2)) (wrap64 (17 * a0_0)))))) 1073741824, true, 0))))) = some (r1, r2, r3, r4, r5, r6, r7, r8) := H
              have A59 := Aside0.mk A590
              clear A590
              by_cases c60 : (wrap64 (17 * a0_0)) = 0
              · rw [if_pos c60] at H
                exact absurd H (by simp)
              · rw [if_neg c60] at H
                have c60b0 : ((wrap64 (17 * a0_0)) == 0) = false := beq_eq_false_iff_ne.mpr c60
                have c60b1 : ((wrap64 (17 * a0_0)) != 0) = true := bne_iff_ne.mpr c60
                obtain ⟨ji61, hji61⟩ : ∃ j_ : Int, (mn (wrap64 (a0_0 + (wrap64 (Int.tdiv (wrap64 ((wrap64 (9 * a1)) * a2)) (wrap64 (17 * a0_0)))))) 1073741824) = j_ := ⟨_, rfl⟩
                replace H : (if (ji61) > t217 then (some (mx a0_0 (ji61), a0_1, ji58, t215, a3, ji61, true, 0)) else (if a0_0 = 0 then (none) else (some (mn (wrap64 (a0_0 + (wrap64 (Int.tdiv (wrap64 ((wrap64 ((mx a0_0 (mn t217 (wrap64 (Int.tdiv (wrap64 (a0_0 * 3)) 2)))) - a0_0)) * a2)) a0_0)))) 1073741824, a0_1, ji58, t215, a3, ji61, true, 0)))) = some (r1, r2, r3, r4, r5, r6, r7, r8) := by first | (rw [hji61] at H; exact H) | (simp only [hji61] at H ⊢; exact H)
                (try rw [hji61] at A57)
                (try rw [hji61] at A59)
                have hji61_ : (if 1073741824 < (wrap64 (a0_0 + (wrap64 (Int.tdiv (wrap64 ((wrap64 (9 * a1)) * a2)) (wrap64 (17 * a0_0)))))) then 1073741824 else (wrap64 (a0_0 + (wrap64 (Int.tdiv (wrap64 ((wrap64 (9 * a1)) * a2)) (wrap64 (17 * a0_0))))))) = ji61 := hji61
                by_cases c62 : (ji61) > t217
                · rw [if_pos c62] at H
                  have c62b0 : decide (t217 < (ji61)) = true := decide_eq_true c62
                  clear c62
                  obtain ⟨ji63, hji63⟩ : ∃ j_ : Int, (mx a0_0 (ji61)) = j_ := ⟨_, rfl⟩
                  replace H : (some (ji63, a0_1, ji58, t215, a3, ji61, true, 0)) = some (r1, r2, r3, r4, r5, r6, r7, r8) := by first | (rw [hji63] at H; exact H) | (simp only [hji63] at H ⊢; exact H)
                  (try rw [hji63] at A57)
                  (try rw [hji63] at A59)
                  have hji63_ : (if a0_0 < (ji61) then (ji61) else a0_0) = ji63 := hji63
                  simp only [Option.some.injEq, Prod.mk.injEq] at H
                  obtain ⟨rfl, rfl, rfl, rfl, rfl, rfl, rfl, rfl⟩ := H
                  have hnb64 := NB207_208.out
                  have hnc64 := NB208_207.out
                  have hcz65_0 : wc.cell? ⟨gb207, 0, none⟩ = some (.int .i64 a0_0) := (blk_cell BK207.out 0).trans rfl
                  have hcz65_1 : wc.cell? ⟨gb207, 1, none⟩ = some (.int .i64 a0_1) := (blk_cell BK207.out 1).trans rfl
                  have hcz65_2 : wc.cell? ⟨gb207, 2, none⟩ = some (.int .i64 a0_2) := (blk_cell BK207.out 2).trans rfl
                  have hcz65_3 : wc.cell? ⟨gb207, 3, none⟩ = some (.int .i64 a0_3) := (blk_cell BK207.out 3).trans rfl
                  have hcz65_4 : wc.cell? ⟨gb207, 4, none⟩ = some (.int .i64 a0_4) := (blk_cell BK207.out 4).trans rfl
                  have hcz65_5 : wc.cell? ⟨gb207, 5, none⟩ = some (.int .i64 a0_5) := (blk_cell BK207.out 5).trans rfl
                  have hcz65_6 : wc.cell? ⟨gb207, 6, none⟩ = some (.bool false) := (blk_cell BK207.out 6).trans rfl
                  have hfz65_0 := blk_frozen BK207.out 0
                  have hfz65_1 := blk_frozen BK207.out 1
                  have hfz65_2 := blk_frozen BK207.out 2
                  have hfz65_3 := blk_frozen BK207.out 3
                  have hfz65_4 := blk_frozen BK207.out 4
                  have hfz65_5 := blk_frozen BK207.out 5
                  have hfz65_6 := blk_frozen BK207.out 6
                  try go_wp2_with (first | ((with_reducible refine gate_callee (f := 12) rfl ?_); refine goesL_ (some 70) rfl rfl Try.func12 (by kernel_rfl) rfl #[.int .i64 a0_2, .int .i64 a0_0, .int .i64 a1] rfl (by (try simp only [List.map_toArray, List.map_cons, List.map_nil]); first | done | rfl | (simp only [List.length_drop, List.length_take]; rfl)) ?_; (with_reducible refine (stopcockref21_Turn.calls kj7 a0_2 a0_0 a1 t215 t216 _ A57.out).mono ?_); rintro e w' ⟨rfl, ⟨nd, rfl⟩⟩; refine ⟨_, rfl, ?_⟩) | ((with_reducible refine gate_callee (f := 10) rfl ?_); refine goesL_ (some 95) rfl rfl Try.func10 (by kernel_rfl) rfl #[.int .i64 ji58, .int .i64 a1, .int .i64 (wrap64 ((wrap64 (a4)) - t215))] rfl (by (try simp only [List.map_toArray, List.map_cons, List.map_nil]); first | done | (simp only [hji58]; rfl) | rfl | (simp only [List.length_drop, List.length_take]; rfl)) ?_; (with_reducible refine (stopcockref21_Curve.calls ji58 a1 (wrap64 ((wrap64 (a4)) - t215)) t217 t218 _ A59.out).mono ?_); rintro e w66 ⟨rfl, hb⟩; refine ⟨_, rfl, ?_⟩; have n0_ := Aside0.mk (blk_below (g := gb207) (o := .cells #[.int .i64 a0_0, .int .i64 a0_1, .int .i64 ji58, .int .i64 t215, .int .i64 a3, .int .i64 a0_0, .bool true] 35 (0, 0)) (by refine skp_ ?_; refine blk_put (cs := #[.int .i64 a0_0, .int .i64 a0_1, .int .i64 a0_2, .int .i64 t215, .int .i64 a3, .int .i64 a0_0, .bool true]) ?_ 2 _ rfl; refine skp_ ?_; refine blk_put (cs := #[.int .i64 a0_0, .int .i64 a0_1, .int .i64 a0_2, .int .i64 a0_3, .int .i64 a3, .int .i64 a0_0, .bool true]) ?_ 3 _ rfl; refine skp_ ?_; refine blk_put (cs := #[.int .i64 a0_0, .int .i64 a0_1, .int .i64 a0_2, .int .i64 a0_3, .int .i64 a3, .int .i64 a0_5, .bool true]) ?_ 5 _ rfl; refine skp_ ?_; refine blk_put (cs := #[.int .i64 a0_0, .int .i64 a0_1, .int .i64 a0_2, .int .i64 a0_3, .int .i64 a0_4, .int .i64 a0_5, .bool true]) ?_ 4 _ rfl; refine skp_ ?_; refine blk_put (cs := #[.int .i64 a0_0, .int .i64 a0_1, .int .i64 a0_2, .int .i64 a0_3, .int .i64 a0_4, .int .i64 a0_5, .bool false]) ?_ 6 _ rfl; refine skp_ ?_; exact BK207.out) hb); have n1_ := Aside0.mk (blk_below (g := gb208) (o := .cells #[.int .i64 0, .int .i64 0, .int .i64 0, .int .i64 0, .int .i64 0, .int .i64 0, .bool false] 35 (0, 0)) (by refine skp_ ?_; refine blk_far ?_ NB208_207.out _; refine skp_ ?_; refine blk_far ?_ NB208_207.out _; refine skp_ ?_; refine blk_far ?_ NB208_207.out _; refine skp_ ?_; refine blk_far ?_ NB208_207.out _; refine skp_ ?_; refine blk_far ?_ NB208_207.out _; refine skp_ ?_; exact BK208.out) hb); have n2_ := Aside0.mk (below_step (by repeat (first | (with_reducible first | exact HB.out | apply below_alloc | apply pw_below_drewN | apply below_drew1 | refine below_set ?_ GE207.out | refine below_set ?_ GE208.out) | exact HB.out)) hb); clear BK207; clear BK208; clear HB; have BK207 := n0_; have BK208 := n1_; have HB := n2_; clear n0_ n1_ n2_; (try clear hb); (try clear hb2); (try clear hk); (try clear hi)))
                  have n0_ := Aside0.mk (blk_drew BK207.out)
                  have n1_ := Aside0.mk (blk_drew BK208.out)
                  have n2_ := Aside0.mk (below_drew1 HB.out)
                  clear BK207
                  clear BK208
                  clear HB
                  have BK207 := n0_
                  have BK208 := n1_
                  have HB := n2_
                  clear n0_ n1_ n2_
                  refine start_ (n := 14) (S := fun w' => w'.cell? ⟨gb207, 0, none⟩ = some (.int .i64 a0_0) ∧ w'.cell? ⟨gb207, 1, none⟩ = some (.int .i64 a0_1) ∧ w'.cell? ⟨gb207, 2, none⟩ = some (.int .i64 ji58) ∧ w'.cell? ⟨gb207, 3, none⟩ = some (.int .i64 t215) ∧ w'.cell? ⟨gb207, 4, none⟩ = some (.int .i64 a3) ∧ w'.cell? ⟨gb207, 5, none⟩ = some (.int .i64 a0_0) ∧ w'.cell? ⟨gb207, 6, none⟩ = some (.bool true)) (ds := [13]) #[false, false, false, false, false, false, false, false, false, false, false, false, false, false] (by kernel_rfl) rfl rfl ⟨(blk_cell BK207.out 0).trans rfl, (blk_cell BK207.out 1).trans rfl, (blk_cell BK207.out 2).trans rfl, (blk_cell BK207.out 3).trans rfl, (blk_cell BK207.out 4).trans rfl, (blk_cell BK207.out 5).trans rfl, (blk_cell BK207.out 6).trans rfl⟩ (fun hHeld => ?_); refine with_tabW stopcockref21_Ack.tab15 stopcockref21_Ack.bits15 (fun HT_ HW_ => ?_)
                  generalize w66.drew = w67 at BK207 BK208 HB hHeld ⊢
                  refine pure_ (i := 0) (N := some 98) (v := ?_) (a' := ?_) #[true, false, false, false, false, false, false, false, false, false, false, false, false, false] rfl rfl (any_of HT_.out (by kernel_rfl)) (fun _ _ _ h => h) (Or.inl ⟨by rfl, ?_⟩) ?_ ?_
                  rotate_left
                  · intro w'
                    go_simp
                    with_reducible rfl
                  rotate_left
                  · simp only [Act.put, List.setIfInBounds_toArray, List.set_cons_zero, List.set_cons_succ, i64_w, i32_w]
                    rfl
                  refine pure_ (i := 2) (N := some 100) (v := ?_) (a' := ?_) #[true, false, true, false, false, false, false, false, false, false, false, false, false, false] rfl rfl (any_of HT_.out (by kernel_rfl)) (fun _ _ _ h => h) (Or.inl ⟨by rfl, ?_⟩) ?_ ?_
                  rotate_left
                  · intro w'
                    go_simp
                    with_reducible rfl
                  rotate_left
                  · simp only [Act.put, List.setIfInBounds_toArray, List.set_cons_zero, List.set_cons_succ, i64_w, i32_w]
                    rfl
                  refine pure_ (i := 3) (N := some 101) (v := ?_) (a' := ?_) #[true, false, true, true, false, false, false, false, false, false, false, false, false, false] rfl rfl (any_of HT_.out (by kernel_rfl)) (fun _ _ _ h => h) (Or.inl ⟨by rfl, ?_⟩) ?_ ?_
                  rotate_left
                  · intro w'
                    go_simp
                    with_reducible rfl
                  rotate_left
                  · simp only [Act.put, List.setIfInBounds_toArray, List.set_cons_zero, List.set_cons_succ, i64_w, i32_w]
                    rfl
                  refine pure_ (i := 4) (N := some 102) (v := ?_) (a' := ?_) #[true, false, true, true, true, false, false, false, false, false, false, false, false, false] rfl rfl (any_of HT_.out (by kernel_rfl)) (fun _ _ _ h => h) (Or.inl ⟨by rfl, ?_⟩) ?_ ?_
                  rotate_left
                  · intro w'
                    go_simp
                    with_reducible rfl
                  rotate_left
                  · simp only [Act.put, List.setIfInBounds_toArray, List.set_cons_zero, List.set_cons_succ, i64_w, i32_w]
                    rfl
                  refine pure_ (i := 5) (N := some 103) (v := ?_) (a' := ?_) #[true, false, true, true, true, true, false, false, false, false, false, false, false, false] rfl rfl (any_of HT_.out (by kernel_rfl)) (fun _ _ _ h => h) (Or.inl ⟨by rfl, ?_⟩) ?_ ?_
                  rotate_left
                  · intro w'
                    go_simp
                    with_reducible rfl
                  rotate_left
                  · simp only [Act.put, List.setIfInBounds_toArray, List.set_cons_zero, List.set_cons_succ, i64_w, i32_w]
                    rfl
                  refine pure_ (i := 6) (N := some 104) (v := ?_) (a' := ?_) #[true, false, true, true, true, true, true, false, false, false, false, false, false, false] rfl rfl (any_of HT_.out (by kernel_rfl)) (fun _ _ _ h => h) (Or.inl ⟨by rfl, ?_⟩) ?_ ?_
                  rotate_left
                  · intro w'
                    go_simp
                    with_reducible rfl
                  rotate_left
                  · simp only [Act.put, List.setIfInBounds_toArray, List.set_cons_zero, List.set_cons_succ, i64_w, i32_w]
                    rfl
                  refine take_ (i := 1) (N := some 99) (v := ?_) (a' := ?_) #[true, true, true, true, true, true, true, false, false, false, false, false, false, false] rfl rfl (take_ofW HT_.out HW_.out (by kernel_rfl)) (fun _ _ _ h => h) (Or.inl ⟨by rfl, ?_⟩) hHeld ?_ ?_
                  rotate_left
                  · rintro w' ⟨s0, s1, s2, s3, s4, s5, s6⟩
                    go_simp
                    with_reducible rfl
                  rotate_left
                  · simp only [Act.put, List.setIfInBounds_toArray, List.set_cons_zero, List.set_cons_succ, i64_w, i32_w]
                    rfl
                  refine take_ (i := 7) (N := some 105) (v := ?_) (a' := ?_) #[true, true, true, true, true, true, true, true, false, false, false, false, false, false] rfl rfl (take_ofW HT_.out HW_.out (by kernel_rfl)) (fun _ _ _ h => h) (Or.inl ⟨by rfl, ?_⟩) hHeld ?_ ?_
                  rotate_left
                  · rintro w' ⟨s0, s1, s2, s3, s4, s5, s6⟩
                    go_simp
                    with_reducible rfl
                  rotate_left
                  · simp only [Act.put, List.setIfInBounds_toArray, List.set_cons_zero, List.set_cons_succ, i64_w, i32_w]
                    rfl
                  refine pure_ (i := 8) (N := some 106) (v := ?_) (a' := ?_) #[true, true, true, true, true, true, true, true, true, false, false, false, false, false] rfl rfl (any_of HT_.out (by kernel_rfl)) (fun _ _ _ h => h) (Or.inl ⟨by rfl, ?_⟩) ?_ ?_
                  rotate_left
                  · intro w'
                    go_simp
                    with_reducible rfl
                  rotate_left
                  · simp only [Act.put, List.setIfInBounds_toArray, List.set_cons_zero, List.set_cons_succ, i64_w, i32_w]
                    rfl
                  refine pure_ (i := 9) (N := some 107) (v := ?_) (a' := ?_) #[true, true, true, true, true, true, true, true, true, true, false, false, false, false] rfl rfl (any_of HT_.out (by kernel_rfl)) (fun _ _ _ h => h) (Or.inl ⟨by rfl, ?_⟩) ?_ ?_
                  rotate_left
                  · intro w'
                    go_simp
                    with_reducible rfl
                  rotate_left
                  · simp only [Act.put, List.setIfInBounds_toArray, List.set_cons_zero, List.set_cons_succ, i64_w, i32_w]
                    rfl
                  refine pure_ (i := 10) (N := some 108) (v := ?_) (a' := ?_) #[true, true, true, true, true, true, true, true, true, true, true, false, false, false] rfl rfl (any_of HT_.out (by kernel_rfl)) (fun _ _ _ h => h) (Or.inl ⟨by rfl, ?_⟩) ?_ ?_
                  rotate_left
                  · intro w'
                    go_simp
                    with_reducible rfl
                  rotate_left
                  · simp only [Act.put, List.setIfInBounds_toArray, List.set_cons_zero, List.set_cons_succ, i64_w, i32_w]
                    rfl
                  refine pure_ (i := 11) (N := some 109) (v := ?_) (a' := ?_) #[true, true, true, true, true, true, true, true, true, true, true, true, false, false] rfl rfl (any_of HT_.out (by kernel_rfl)) (fun _ _ _ h => h) (Or.inl ⟨by rfl, ?_⟩) ?_ ?_
                  rotate_left
                  · intro w'
                    go_simp
                    with_reducible rfl
                  rotate_left
                  · simp only [Act.put, List.setIfInBounds_toArray, List.set_cons_zero, List.set_cons_succ, i64_w, i32_w]
                    rfl
                  refine pure_ (i := 12) (N := some 110) (v := ?_) (a' := ?_) #[true, true, true, true, true, true, true, true, true, true, true, true, true, false] rfl rfl (any_of HT_.out (by kernel_rfl)) (fun _ _ _ h => h) (Or.inl ⟨by rfl, ?_⟩) ?_ ?_
                  rotate_left
                  · intro w'
                    go_simp
                    with_reducible rfl
                  rotate_left
                  · simp only [Act.put, List.setIfInBounds_toArray, List.set_cons_zero, List.set_cons_succ, i64_w, i32_w]
                    rfl
                  refine last_ (i := 13) (N := none) #[true, true, true, true, true, true, true, true, true, true, true, true, true, true] rfl rfl (one_of HT_.out (by kernel_rfl)) (by decide) (fun K hK => ?_)
                  have hs68 : w67.cell? ⟨gb207, 5, none⟩ = some (.int .i64 a0_0) := (blk_cell BK207.out 5).trans rfl
                  have hfs68 := blk_frozen BK207.out 5
                  have hns68_1 := NB208_207.out
                  have hms68_1 := NB207_208.out
                  refine skip_ (w1 := ?_) (by rfl) rfl ?_ ?_
                  rotate_left
                  · go_simp
                    rfl
                  refine hK.out _ _ ?_
                  clear hK K
                  refine done_ (done_of HT_.out (by kernel_rfl)) ?_
                  have hcz69_0 : w67.cell? ⟨gb207, 0, none⟩ = some (.int .i64 a0_0) := (blk_cell BK207.out 0).trans rfl
                  have hcz69_1 : w67.cell? ⟨gb207, 1, none⟩ = some (.int .i64 a0_1) := (blk_cell BK207.out 1).trans rfl
                  have hcz69_2 : w67.cell? ⟨gb207, 2, none⟩ = some (.int .i64 ji58) := (blk_cell BK207.out 2).trans rfl
                  have hcz69_3 : w67.cell? ⟨gb207, 3, none⟩ = some (.int .i64 t215) := (blk_cell BK207.out 3).trans rfl
                  have hcz69_4 : w67.cell? ⟨gb207, 4, none⟩ = some (.int .i64 a3) := (blk_cell BK207.out 4).trans rfl
                  have hcz69_5 : w67.cell? ⟨gb207, 5, none⟩ = some (.int .i64 a0_0) := (blk_cell BK207.out 5).trans rfl
                  have hcz69_6 : w67.cell? ⟨gb207, 6, none⟩ = some (.bool true) := (blk_cell BK207.out 6).trans rfl
                  have hfz69_0 := blk_frozen BK207.out 0
                  have hfz69_1 := blk_frozen BK207.out 1
                  have hfz69_2 := blk_frozen BK207.out 2
                  have hfz69_3 := blk_frozen BK207.out 3
                  have hfz69_4 := blk_frozen BK207.out 4
                  have hfz69_5 := blk_frozen BK207.out 5
                  have hfz69_6 := blk_frozen BK207.out 6
                  have hcz70_0 : w67.cell? ⟨gb208, 0, none⟩ = some (.int .i64 0) := (blk_cell BK208.out 0).trans rfl
                  have hcz70_1 : w67.cell? ⟨gb208, 1, none⟩ = some (.int .i64 0) := (blk_cell BK208.out 1).trans rfl
                  have hcz70_2 : w67.cell? ⟨gb208, 2, none⟩ = some (.int .i64 0) := (blk_cell BK208.out 2).trans rfl
                  have hcz70_3 : w67.cell? ⟨gb208, 3, none⟩ = some (.int .i64 0) := (blk_cell BK208.out 3).trans rfl
                  have hcz70_4 : w67.cell? ⟨gb208, 4, none⟩ = some (.int .i64 0) := (blk_cell BK208.out 4).trans rfl
                  have hcz70_5 : w67.cell? ⟨gb208, 5, none⟩ = some (.int .i64 0) := (blk_cell BK208.out 5).trans rfl
                  have hcz70_6 : w67.cell? ⟨gb208, 6, none⟩ = some (.bool false) := (blk_cell BK208.out 6).trans rfl
                  have hfz70_0 := blk_frozen BK208.out 0
                  have hfz70_1 := blk_frozen BK208.out 1
                  have hfz70_2 := blk_frozen BK208.out 2
                  have hfz70_3 := blk_frozen BK208.out 3
                  have hfz70_4 := blk_frozen BK208.out 4
                  have hfz70_5 := blk_frozen BK208.out 5
                  have hfz70_6 := blk_frozen BK208.out 6
                  try go_wp2
                  refine bodyPost_ret (results_ct rfl _ _ gb208 35 #[.int .i64 ji63, .int .i64 a0_1, .int .i64 ji58, .int .i64 t215, .int .i64 a3, .int .i64 ji61, .bool true] (0, 0) _ rfl (by refine skp_ ?_; refine blk_put (cs := #[.int .i64 ji63, .int .i64 a0_1, .int .i64 ji58, .int .i64 t215, .int .i64 a3, .int .i64 ji61, .bool false]) ?_ 6 _ rfl; refine skp_ ?_; refine blk_put (cs := #[.int .i64 ji63, .int .i64 a0_1, .int .i64 ji58, .int .i64 t215, .int .i64 a3, .int .i64 0, .bool false]) ?_ 5 _ rfl; refine skp_ ?_; refine blk_put (cs := #[.int .i64 ji63, .int .i64 a0_1, .int .i64 ji58, .int .i64 t215, .int .i64 0, .int .i64 0, .bool false]) ?_ 4 _ rfl; refine skp_ ?_; refine blk_put (cs := #[.int .i64 ji63, .int .i64 a0_1, .int .i64 ji58, .int .i64 0, .int .i64 0, .int .i64 0, .bool false]) ?_ 3 _ rfl; refine skp_ ?_; refine blk_put (cs := #[.int .i64 ji63, .int .i64 a0_1, .int .i64 0, .int .i64 0, .int .i64 0, .int .i64 0, .bool false]) ?_ 2 _ rfl; refine skp_ ?_; refine blk_put (cs := #[.int .i64 ji63, .int .i64 0, .int .i64 0, .int .i64 0, .int .i64 0, .int .i64 0, .bool false]) ?_ 1 _ rfl; refine skp_ ?_; refine blk_put (cs := #[.int .i64 0, .int .i64 0, .int .i64 0, .int .i64 0, .int .i64 0, .int .i64 0, .bool false]) ?_ 0 _ rfl; refine skp_ ?_; refine blk_far ?_ NB208_207.out _; refine skp_ ?_; refine blk_far ?_ NB208_207.out _; refine skp_ ?_; exact BK208.out) Try.underlying35 rfl (by kernel_rfl)) rfl ?_
                  exact ⟨by first | rfl | (simp [errW_none, errW_some] <;> rfl) | (simp only [← hji58, ← hji61, ← hji63]; first | rfl | (simp [errW_none, errW_some] <;> rfl)) | (simp [*, errW_none, errW_some] <;> rfl), by repeat (first | (with_reducible first | exact HB.out | apply below_alloc | apply pw_below_drewN | apply below_drew1 | refine below_set ?_ GE207.out | refine below_set ?_ GE208.out) | exact HB.out)⟩
                · rw [if_neg c62] at H
                  have c62b0 : decide (t217 < (ji61)) = false := decide_eq_false c62
                  clear c62
                  obtain ⟨ji71, hji71⟩ : ∃ j_ : Int, (mn t217 (wrap64 (Int.tdiv (wrap64 (a0_0 * 3)) 2))) = j_ := ⟨_, rfl⟩
                  replace H : (if a0_0 = 0 then (none) else (some (mn (wrap64 (a0_0 + (wrap64 (Int.tdiv (wrap64 ((wrap64 ((mx a0_0 (ji71)) - a0_0)) * a2)) a0_0)))) 1073741824, a0_1, ji58, t215, a3, ji61, true, 0))) = some (r1, r2, r3, r4, r5, r6, r7, r8) := by first | (rw [hji71] at H; exact H) | (simp only [hji71] at H ⊢; exact H)
                  (try rw [hji71] at A57)
                  (try rw [hji71] at A59)
                  have hji71_ : (if (wrap64 (Int.tdiv (wrap64 (a0_0 * 3)) 2)) < t217 then (wrap64 (Int.tdiv (wrap64 (a0_0 * 3)) 2)) else t217) = ji71 := hji71
                  obtain ⟨ji72, hji72⟩ : ∃ j_ : Int, (mx a0_0 (ji71)) = j_ := ⟨_, rfl⟩
                  replace H : (if a0_0 = 0 then (none) else (some (mn (wrap64 (a0_0 + (wrap64 (Int.tdiv (wrap64 ((wrap64 ((ji72) - a0_0)) * a2)) a0_0)))) 1073741824, a0_1, ji58, t215, a3, ji61, true, 0))) = some (r1, r2, r3, r4, r5, r6, r7, r8) := by first | (rw [hji72] at H; exact H) | (simp only [hji72] at H ⊢; exact H)
                  (try rw [hji72] at A57)
                  (try rw [hji72] at A59)
                  have hji72_ : (if a0_0 < (ji71) then (ji71) else a0_0) = ji72 := hji72
                  by_cases c73 : a0_0 = 0
                  · rw [if_pos c73] at H
                    exact absurd H (by simp)
                  · rw [if_neg c73] at H
                    have c73b0 : (a0_0 == 0) = false := beq_eq_false_iff_ne.mpr c73
                    have c73b1 : (a0_0 != 0) = true := bne_iff_ne.mpr c73
                    obtain ⟨ji74, hji74⟩ : ∃ j_ : Int, (mn (wrap64 (a0_0 + (wrap64 (Int.tdiv (wrap64 ((wrap64 ((ji72) - a0_0)) * a2)) a0_0)))) 1073741824) = j_ := ⟨_, rfl⟩
                    replace H : (some (ji74, a0_1, ji58, t215, a3, ji61, true, 0)) = some (r1, r2, r3, r4, r5, r6, r7, r8) := by first | (rw [hji74] at H; exact H) | (simp only [hji74] at H ⊢; exact H)
                    (try rw [hji74] at A57)
                    (try rw [hji74] at A59)
                    have hji74_ : (if 1073741824 < (wrap64 (a0_0 + (wrap64 (Int.tdiv (wrap64 ((wrap64 ((ji72) - a0_0)) * a2)) a0_0)))) then 1073741824 else (wrap64 (a0_0 + (wrap64 (Int.tdiv (wrap64 ((wrap64 ((ji72) - a0_0)) * a2)) a0_0))))) = ji74 := hji74
                    simp only [Option.some.injEq, Prod.mk.injEq] at H
                    obtain ⟨rfl, rfl, rfl, rfl, rfl, rfl, rfl, rfl⟩ := H
                    have hnb75 := NB207_208.out
                    have hnc75 := NB208_207.out
                    have hcz76_0 : wc.cell? ⟨gb207, 0, none⟩ = some (.int .i64 a0_0) := (blk_cell BK207.out 0).trans rfl
                    have hcz76_1 : wc.cell? ⟨gb207, 1, none⟩ = some (.int .i64 a0_1) := (blk_cell BK207.out 1).trans rfl
                    have hcz76_2 : wc.cell? ⟨gb207, 2, none⟩ = some (.int .i64 a0_2) := (blk_cell BK207.out 2).trans rfl
                    have hcz76_3 : wc.cell? ⟨gb207, 3, none⟩ = some (.int .i64 a0_3) := (blk_cell BK207.out 3).trans rfl
                    have hcz76_4 : wc.cell? ⟨gb207, 4, none⟩ = some (.int .i64 a0_4) := (blk_cell BK207.out 4).trans rfl
                    have hcz76_5 : wc.cell? ⟨gb207, 5, none⟩ = some (.int .i64 a0_5) := (blk_cell BK207.out 5).trans rfl
                    have hcz76_6 : wc.cell? ⟨gb207, 6, none⟩ = some (.bool false) := (blk_cell BK207.out 6).trans rfl
                    have hfz76_0 := blk_frozen BK207.out 0
                    have hfz76_1 := blk_frozen BK207.out 1
                    have hfz76_2 := blk_frozen BK207.out 2
                    have hfz76_3 := blk_frozen BK207.out 3
                    have hfz76_4 := blk_frozen BK207.out 4
                    have hfz76_5 := blk_frozen BK207.out 5
                    have hfz76_6 := blk_frozen BK207.out 6
                    try go_wp2_with (first | ((with_reducible refine gate_callee (f := 12) rfl ?_); refine goesL_ (some 70) rfl rfl Try.func12 (by kernel_rfl) rfl #[.int .i64 a0_2, .int .i64 a0_0, .int .i64 a1] rfl (by (try simp only [List.map_toArray, List.map_cons, List.map_nil]); first | done | rfl | (simp only [List.length_drop, List.length_take]; rfl)) ?_; (with_reducible refine (stopcockref21_Turn.calls kj7 a0_2 a0_0 a1 t215 t216 _ A57.out).mono ?_); rintro e w' ⟨rfl, ⟨nd, rfl⟩⟩; refine ⟨_, rfl, ?_⟩) | ((with_reducible refine gate_callee (f := 10) rfl ?_); refine goesL_ (some 95) rfl rfl Try.func10 (by kernel_rfl) rfl #[.int .i64 ji58, .int .i64 a1, .int .i64 (wrap64 ((wrap64 (a4)) - t215))] rfl (by (try simp only [List.map_toArray, List.map_cons, List.map_nil]); first | done | (simp only [hji58]; rfl) | rfl | (simp only [List.length_drop, List.length_take]; rfl)) ?_; (with_reducible refine (stopcockref21_Curve.calls ji58 a1 (wrap64 ((wrap64 (a4)) - t215)) t217 t218 _ A59.out).mono ?_); rintro e w77 ⟨rfl, hb⟩; refine ⟨_, rfl, ?_⟩; have n0_ := Aside0.mk (blk_below (g := gb207) (o := .cells #[.int .i64 a0_0, .int .i64 a0_1, .int .i64 ji58, .int .i64 t215, .int .i64 a3, .int .i64 a0_0, .bool true] 35 (0, 0)) (by refine skp_ ?_; refine blk_put (cs := #[.int .i64 a0_0, .int .i64 a0_1, .int .i64 a0_2, .int .i64 t215, .int .i64 a3, .int .i64 a0_0, .bool true]) ?_ 2 _ rfl; refine skp_ ?_; refine blk_put (cs := #[.int .i64 a0_0, .int .i64 a0_1, .int .i64 a0_2, .int .i64 a0_3, .int .i64 a3, .int .i64 a0_0, .bool true]) ?_ 3 _ rfl; refine skp_ ?_; refine blk_put (cs := #[.int .i64 a0_0, .int .i64 a0_1, .int .i64 a0_2, .int .i64 a0_3, .int .i64 a3, .int .i64 a0_5, .bool true]) ?_ 5 _ rfl; refine skp_ ?_; refine blk_put (cs := #[.int .i64 a0_0, .int .i64 a0_1, .int .i64 a0_2, .int .i64 a0_3, .int .i64 a0_4, .int .i64 a0_5, .bool true]) ?_ 4 _ rfl; refine skp_ ?_; refine blk_put (cs := #[.int .i64 a0_0, .int .i64 a0_1, .int .i64 a0_2, .int .i64 a0_3, .int .i64 a0_4, .int .i64 a0_5, .bool false]) ?_ 6 _ rfl; refine skp_ ?_; exact BK207.out) hb); have n1_ := Aside0.mk (blk_below (g := gb208) (o := .cells #[.int .i64 0, .int .i64 0, .int .i64 0, .int .i64 0, .int .i64 0, .int .i64 0, .bool false] 35 (0, 0)) (by refine skp_ ?_; refine blk_far ?_ NB208_207.out _; refine skp_ ?_; refine blk_far ?_ NB208_207.out _; refine skp_ ?_; refine blk_far ?_ NB208_207.out _; refine skp_ ?_; refine blk_far ?_ NB208_207.out _; refine skp_ ?_; refine blk_far ?_ NB208_207.out _; refine skp_ ?_; exact BK208.out) hb); have n2_ := Aside0.mk (below_step (by repeat (first | (with_reducible first | exact HB.out | apply below_alloc | apply pw_below_drewN | apply below_drew1 | refine below_set ?_ GE207.out | refine below_set ?_ GE208.out) | exact HB.out)) hb); clear BK207; clear BK208; clear HB; have BK207 := n0_; have BK208 := n1_; have HB := n2_; clear n0_ n1_ n2_; (try clear hb); (try clear hb2); (try clear hk); (try clear hi)))
                    have n0_ := Aside0.mk (blk_drew BK207.out)
                    have n1_ := Aside0.mk (blk_drew BK208.out)
                    have n2_ := Aside0.mk (below_drew1 HB.out)
                    clear BK207
                    clear BK208
                    clear HB
                    have BK207 := n0_
                    have BK208 := n1_
                    have HB := n2_
                    clear n0_ n1_ n2_
                    refine start_ (n := 14) (S := fun w' => w'.cell? ⟨gb207, 0, none⟩ = some (.int .i64 a0_0) ∧ w'.cell? ⟨gb207, 1, none⟩ = some (.int .i64 a0_1) ∧ w'.cell? ⟨gb207, 2, none⟩ = some (.int .i64 ji58) ∧ w'.cell? ⟨gb207, 3, none⟩ = some (.int .i64 t215) ∧ w'.cell? ⟨gb207, 4, none⟩ = some (.int .i64 a3) ∧ w'.cell? ⟨gb207, 5, none⟩ = some (.int .i64 a0_0) ∧ w'.cell? ⟨gb207, 6, none⟩ = some (.bool true)) (ds := [13]) #[false, false, false, false, false, false, false, false, false, false, false, false, false, false] (by kernel_rfl) rfl rfl ⟨(blk_cell BK207.out 0).trans rfl, (blk_cell BK207.out 1).trans rfl, (blk_cell BK207.out 2).trans rfl, (blk_cell BK207.out 3).trans rfl, (blk_cell BK207.out 4).trans rfl, (blk_cell BK207.out 5).trans rfl, (blk_cell BK207.out 6).trans rfl⟩ (fun hHeld => ?_); refine with_tabW stopcockref21_Ack.tab15 stopcockref21_Ack.bits15 (fun HT_ HW_ => ?_)
                    generalize w77.drew = w78 at BK207 BK208 HB hHeld ⊢
                    refine pure_ (i := 0) (N := some 98) (v := ?_) (a' := ?_) #[true, false, false, false, false, false, false, false, false, false, false, false, false, false] rfl rfl (any_of HT_.out (by kernel_rfl)) (fun _ _ _ h => h) (Or.inl ⟨by rfl, ?_⟩) ?_ ?_
                    rotate_left
                    · intro w'
                      go_simp
                      with_reducible rfl
                    rotate_left
                    · simp only [Act.put, List.setIfInBounds_toArray, List.set_cons_zero, List.set_cons_succ, i64_w, i32_w]
                      rfl
                    refine pure_ (i := 2) (N := some 100) (v := ?_) (a' := ?_) #[true, false, true, false, false, false, false, false, false, false, false, false, false, false] rfl rfl (any_of HT_.out (by kernel_rfl)) (fun _ _ _ h => h) (Or.inl ⟨by rfl, ?_⟩) ?_ ?_
                    rotate_left
                    · intro w'
                      go_simp
                      with_reducible rfl
                    rotate_left
                    · simp only [Act.put, List.setIfInBounds_toArray, List.set_cons_zero, List.set_cons_succ, i64_w, i32_w]
                      rfl
                    refine pure_ (i := 3) (N := some 101) (v := ?_) (a' := ?_) #[true, false, true, true, false, false, false, false, false, false, false, false, false, false] rfl rfl (any_of HT_.out (by kernel_rfl)) (fun _ _ _ h => h) (Or.inl ⟨by rfl, ?_⟩) ?_ ?_
                    rotate_left
                    · intro w'
                      go_simp
                      with_reducible rfl
                    rotate_left
                    · simp only [Act.put, List.setIfInBounds_toArray, List.set_cons_zero, List.set_cons_succ, i64_w, i32_w]
                      rfl
                    refine pure_ (i := 4) (N := some 102) (v := ?_) (a' := ?_) #[true, false, true, true, true, false, false, false, false, false, false, false, false, false] rfl rfl (any_of HT_.out (by kernel_rfl)) (fun _ _ _ h => h) (Or.inl ⟨by rfl, ?_⟩) ?_ ?_
                    rotate_left
                    · intro w'
                      go_simp
                      with_reducible rfl
                    rotate_left
                    · simp only [Act.put, List.setIfInBounds_toArray, List.set_cons_zero, List.set_cons_succ, i64_w, i32_w]
                      rfl
                    refine pure_ (i := 5) (N := some 103) (v := ?_) (a' := ?_) #[true, false, true, true, true, true, false, false, false, false, false, false, false, false] rfl rfl (any_of HT_.out (by kernel_rfl)) (fun _ _ _ h => h) (Or.inl ⟨by rfl, ?_⟩) ?_ ?_
                    rotate_left
                    · intro w'
                      go_simp
                      with_reducible rfl
                    rotate_left
                    · simp only [Act.put, List.setIfInBounds_toArray, List.set_cons_zero, List.set_cons_succ, i64_w, i32_w]
                      rfl
                    refine pure_ (i := 6) (N := some 104) (v := ?_) (a' := ?_) #[true, false, true, true, true, true, true, false, false, false, false, false, false, false] rfl rfl (any_of HT_.out (by kernel_rfl)) (fun _ _ _ h => h) (Or.inl ⟨by rfl, ?_⟩) ?_ ?_
                    rotate_left
                    · intro w'
                      go_simp
                      with_reducible rfl
                    rotate_left
                    · simp only [Act.put, List.setIfInBounds_toArray, List.set_cons_zero, List.set_cons_succ, i64_w, i32_w]
                      rfl
                    refine take_ (i := 1) (N := some 99) (v := ?_) (a' := ?_) #[true, true, true, true, true, true, true, false, false, false, false, false, false, false] rfl rfl (take_ofW HT_.out HW_.out (by kernel_rfl)) (fun _ _ _ h => h) (Or.inl ⟨by rfl, ?_⟩) hHeld ?_ ?_
                    rotate_left
                    · rintro w' ⟨s0, s1, s2, s3, s4, s5, s6⟩
                      go_simp
                      with_reducible rfl
                    rotate_left
                    · simp only [Act.put, List.setIfInBounds_toArray, List.set_cons_zero, List.set_cons_succ, i64_w, i32_w]
                      rfl
                    refine take_ (i := 7) (N := some 105) (v := ?_) (a' := ?_) #[true, true, true, true, true, true, true, true, false, false, false, false, false, false] rfl rfl (take_ofW HT_.out HW_.out (by kernel_rfl)) (fun _ _ _ h => h) (Or.inl ⟨by rfl, ?_⟩) hHeld ?_ ?_
                    rotate_left
                    · rintro w' ⟨s0, s1, s2, s3, s4, s5, s6⟩
                      go_simp
                      with_reducible rfl
                    rotate_left
                    · simp only [Act.put, List.setIfInBounds_toArray, List.set_cons_zero, List.set_cons_succ, i64_w, i32_w]
                      rfl
                    refine pure_ (i := 8) (N := some 106) (v := ?_) (a' := ?_) #[true, true, true, true, true, true, true, true, true, false, false, false, false, false] rfl rfl (any_of HT_.out (by kernel_rfl)) (fun _ _ _ h => h) (Or.inl ⟨by rfl, ?_⟩) ?_ ?_
                    rotate_left
                    · intro w'
                      go_simp
                      with_reducible rfl
                    rotate_left
                    · simp only [Act.put, List.setIfInBounds_toArray, List.set_cons_zero, List.set_cons_succ, i64_w, i32_w]
                      rfl
                    refine pure_ (i := 9) (N := some 107) (v := ?_) (a' := ?_) #[true, true, true, true, true, true, true, true, true, true, false, false, false, false] rfl rfl (any_of HT_.out (by kernel_rfl)) (fun _ _ _ h => h) (Or.inl ⟨by rfl, ?_⟩) ?_ ?_
                    rotate_left
                    · intro w'
                      go_simp
                      with_reducible rfl
                    rotate_left
                    · simp only [Act.put, List.setIfInBounds_toArray, List.set_cons_zero, List.set_cons_succ, i64_w, i32_w]
                      rfl
                    refine pure_ (i := 10) (N := some 108) (v := ?_) (a' := ?_) #[true, true, true, true, true, true, true, true, true, true, true, false, false, false] rfl rfl (any_of HT_.out (by kernel_rfl)) (fun _ _ _ h => h) (Or.inl ⟨by rfl, ?_⟩) ?_ ?_
                    rotate_left
                    · intro w'
                      go_simp
                      with_reducible rfl
                    rotate_left
                    · simp only [Act.put, List.setIfInBounds_toArray, List.set_cons_zero, List.set_cons_succ, i64_w, i32_w]
                      rfl
                    refine pure_ (i := 11) (N := some 109) (v := ?_) (a' := ?_) #[true, true, true, true, true, true, true, true, true, true, true, true, false, false] rfl rfl (any_of HT_.out (by kernel_rfl)) (fun _ _ _ h => h) (Or.inl ⟨by rfl, ?_⟩) ?_ ?_
                    rotate_left
                    · intro w'
                      go_simp
                      with_reducible rfl
                    rotate_left
                    · simp only [Act.put, List.setIfInBounds_toArray, List.set_cons_zero, List.set_cons_succ, i64_w, i32_w]
                      rfl
                    refine pure_ (i := 12) (N := some 110) (v := ?_) (a' := ?_) #[true, true, true, true, true, true, true, true, true, true, true, true, true, false] rfl rfl (any_of HT_.out (by kernel_rfl)) (fun _ _ _ h => h) (Or.inl ⟨by rfl, ?_⟩) ?_ ?_
                    rotate_left
                    · intro w'
                      go_simp
                      with_reducible rfl
                    rotate_left
                    · simp only [Act.put, List.setIfInBounds_toArray, List.set_cons_zero, List.set_cons_succ, i64_w, i32_w]
                      rfl
                    refine last_ (i := 13) (N := none) #[true, true, true, true, true, true, true, true, true, true, true, true, true, true] rfl rfl (one_of HT_.out (by kernel_rfl)) (by decide) (fun K hK => ?_)
                    have hs79 : w78.cell? ⟨gb207, 5, none⟩ = some (.int .i64 a0_0) := (blk_cell BK207.out 5).trans rfl
                    have hfs79 := blk_frozen BK207.out 5
                    have hns79_1 := NB208_207.out
                    have hms79_1 := NB207_208.out
                    refine skip_ (w1 := ?_) (by rfl) rfl ?_ ?_
                    rotate_left
                    · go_simp
                      rfl
                    refine hK.out _ _ ?_
                    clear hK K
                    refine done_ (done_of HT_.out (by kernel_rfl)) ?_
                    have hcz80_0 : w78.cell? ⟨gb207, 0, none⟩ = some (.int .i64 a0_0) := (blk_cell BK207.out 0).trans rfl
                    have hcz80_1 : w78.cell? ⟨gb207, 1, none⟩ = some (.int .i64 a0_1) := (blk_cell BK207.out 1).trans rfl
                    have hcz80_2 : w78.cell? ⟨gb207, 2, none⟩ = some (.int .i64 ji58) := (blk_cell BK207.out 2).trans rfl
                    have hcz80_3 : w78.cell? ⟨gb207, 3, none⟩ = some (.int .i64 t215) := (blk_cell BK207.out 3).trans rfl
                    have hcz80_4 : w78.cell? ⟨gb207, 4, none⟩ = some (.int .i64 a3) := (blk_cell BK207.out 4).trans rfl
                    have hcz80_5 : w78.cell? ⟨gb207, 5, none⟩ = some (.int .i64 a0_0) := (blk_cell BK207.out 5).trans rfl
                    have hcz80_6 : w78.cell? ⟨gb207, 6, none⟩ = some (.bool true) := (blk_cell BK207.out 6).trans rfl
                    have hfz80_0 := blk_frozen BK207.out 0
                    have hfz80_1 := blk_frozen BK207.out 1
                    have hfz80_2 := blk_frozen BK207.out 2
                    have hfz80_3 := blk_frozen BK207.out 3
                    have hfz80_4 := blk_frozen BK207.out 4
                    have hfz80_5 := blk_frozen BK207.out 5
                    have hfz80_6 := blk_frozen BK207.out 6
                    try go_wp2
                    have n0_ : Aside0 ((w78.setCell ⟨gb207, 5, none⟩ (.int .i64 ji61)).heap[gb207]? = some (.cells #[.int .i64 a0_0, .int .i64 a0_1, .int .i64 ji58, .int .i64 t215, .int .i64 a3, .int .i64 ji61, .bool true] 35 (0, 0))) := ⟨by refine skp_ ?_; refine blk_put (cs := #[.int .i64 a0_0, .int .i64 a0_1, .int .i64 ji58, .int .i64 t215, .int .i64 a3, .int .i64 a0_0, .bool true]) ?_ 5 _ rfl; refine skp_ ?_; exact BK207.out⟩
                    have n1_ : Aside0 ((w78.setCell ⟨gb207, 5, none⟩ (.int .i64 ji61)).heap[gb208]? = some (.cells #[.int .i64 0, .int .i64 0, .int .i64 0, .int .i64 0, .int .i64 0, .int .i64 0, .bool false] 35 (0, 0))) := ⟨by refine skp_ ?_; refine blk_far ?_ NB208_207.out _; refine skp_ ?_; exact BK208.out⟩
                    have n2_ : Aside0 (Below w.heap.size w (w78.setCell ⟨gb207, 5, none⟩ (.int .i64 ji61))) := ⟨by repeat (first | (with_reducible first | exact HB.out | apply below_alloc | apply pw_below_drewN | apply below_drew1 | refine below_set ?_ GE207.out | refine below_set ?_ GE208.out) | exact HB.out)⟩
                    (try clear BK207)
                    (try clear BK208)
                    (try clear HB)
                    generalize (w78.setCell ⟨gb207, 5, none⟩ (.int .i64 ji61)) = w81 at n0_ n1_ n2_ ⊢
                    have BK207 := n0_
                    have BK208 := n1_
                    have HB := n2_
                    clear n0_ n1_ n2_
                    have n0_ := Aside0.mk (blk_drew BK207.out)
                    have n1_ := Aside0.mk (blk_drew BK208.out)
                    have n2_ := Aside0.mk (below_drew1 HB.out)
                    clear BK207
                    clear BK208
                    clear HB
                    have BK207 := n0_
                    have BK208 := n1_
                    have HB := n2_
                    clear n0_ n1_ n2_
                    refine start_ (n := 15) (S := fun w' => w'.cell? ⟨gb207, 0, none⟩ = some (.int .i64 a0_0) ∧ w'.cell? ⟨gb207, 1, none⟩ = some (.int .i64 a0_1) ∧ w'.cell? ⟨gb207, 2, none⟩ = some (.int .i64 ji58) ∧ w'.cell? ⟨gb207, 3, none⟩ = some (.int .i64 t215) ∧ w'.cell? ⟨gb207, 4, none⟩ = some (.int .i64 a3) ∧ w'.cell? ⟨gb207, 5, none⟩ = some (.int .i64 ji61) ∧ w'.cell? ⟨gb207, 6, none⟩ = some (.bool true)) (ds := [14]) #[false, false, false, false, false, false, false, false, false, false, false, false, false, false, false] (by kernel_rfl) rfl rfl ⟨(blk_cell BK207.out 0).trans rfl, (blk_cell BK207.out 1).trans rfl, (blk_cell BK207.out 2).trans rfl, (blk_cell BK207.out 3).trans rfl, (blk_cell BK207.out 4).trans rfl, (blk_cell BK207.out 5).trans rfl, (blk_cell BK207.out 6).trans rfl⟩ (fun hHeld => ?_); refine with_tabW stopcockref21_Ack.tab20 stopcockref21_Ack.bits20 (fun HT_ HW_ => ?_)
                    generalize w81.drew = w82 at BK207 BK208 HB hHeld ⊢
                    refine pure_ (i := 0) (N := some 131) (v := ?_) (a' := ?_) #[true, false, false, false, false, false, false, false, false, false, false, false, false, false, false] rfl rfl (any_of HT_.out (by kernel_rfl)) (fun _ _ _ h => h) (Or.inl ⟨by rfl, ?_⟩) ?_ ?_
                    rotate_left
                    · intro w'
                      go_simp
                      with_reducible rfl
                    rotate_left
                    · simp only [Act.put, List.setIfInBounds_toArray, List.set_cons_zero, List.set_cons_succ, i64_w, i32_w]
                      rfl
                    refine pure_ (i := 2) (N := some 133) (v := ?_) (a' := ?_) #[true, false, true, false, false, false, false, false, false, false, false, false, false, false, false] rfl rfl (any_of HT_.out (by kernel_rfl)) (fun _ _ _ h => h) (Or.inl ⟨by rfl, ?_⟩) ?_ ?_
                    rotate_left
                    · intro w'
                      go_simp
                      with_reducible rfl
                    rotate_left
                    · simp only [Act.put, List.setIfInBounds_toArray, List.set_cons_zero, List.set_cons_succ, i64_w, i32_w]
                      rfl
                    refine pure_ (i := 3) (N := some 134) (v := ?_) (a' := ?_) #[true, false, true, true, false, false, false, false, false, false, false, false, false, false, false] rfl rfl (any_of HT_.out (by kernel_rfl)) (fun _ _ _ h => h) (Or.inl ⟨by rfl, ?_⟩) ?_ ?_
                    rotate_left
                    · intro w'
                      go_simp
                      with_reducible rfl
                    rotate_left
                    · simp only [Act.put, List.setIfInBounds_toArray, List.set_cons_zero, List.set_cons_succ, i64_w, i32_w]
                      rfl
                    refine pure_ (i := 6) (N := some 137) (v := ?_) (a' := ?_) #[true, false, true, true, false, false, true, false, false, false, false, false, false, false, false] rfl rfl (any_of HT_.out (by kernel_rfl)) (fun _ _ _ h => h) (Or.inl ⟨by rfl, ?_⟩) ?_ ?_
                    rotate_left
                    · intro w'
                      go_simp
                      with_reducible rfl
                    rotate_left
                    · simp only [Act.put, List.setIfInBounds_toArray, List.set_cons_zero, List.set_cons_succ, i64_w, i32_w]
                      rfl
                    refine pure_ (i := 8) (N := some 139) (v := ?_) (a' := ?_) #[true, false, true, true, false, false, true, false, true, false, false, false, false, false, false] rfl rfl (any_of HT_.out (by kernel_rfl)) (fun _ _ _ h => h) (Or.inl ⟨by rfl, ?_⟩) ?_ ?_
                    rotate_left
                    · intro w'
                      go_simp
                      with_reducible rfl
                    rotate_left
                    · simp only [Act.put, List.setIfInBounds_toArray, List.set_cons_zero, List.set_cons_succ, i64_w, i32_w]
                      rfl
                    refine take_ (i := 1) (N := some 132) (v := ?_) (a' := ?_) #[true, true, true, true, false, false, true, false, true, false, false, false, false, false, false] rfl rfl (take_ofW HT_.out HW_.out (by kernel_rfl)) (fun _ _ _ h => h) (Or.inl ⟨by rfl, ?_⟩) hHeld ?_ ?_
                    rotate_left
                    · rintro w' ⟨s0, s1, s2, s3, s4, s5, s6⟩
                      go_simp
                      with_reducible rfl
                    rotate_left
                    · simp only [Act.put, List.setIfInBounds_toArray, List.set_cons_zero, List.set_cons_succ, i64_w, i32_w]
                      rfl
                    refine take_ (i := 4) (N := some 135) (v := ?_) (a' := ?_) #[true, true, true, true, true, false, true, false, true, false, false, false, false, false, false] rfl rfl (take_ofW HT_.out HW_.out (by kernel_rfl)) (fun _ _ _ h => h) (Or.inl ⟨by rfl, ?_⟩) hHeld ?_ ?_
                    rotate_left
                    · rintro w' ⟨s0, s1, s2, s3, s4, s5, s6⟩
                      go_simp
                      with_reducible rfl
                    rotate_left
                    · simp only [Act.put, List.setIfInBounds_toArray, List.set_cons_zero, List.set_cons_succ, i64_w, i32_w]
                      rfl
                    refine pure_ (i := 5) (N := some 136) (v := ?_) (a' := ?_) #[true, true, true, true, true, true, true, false, true, false, false, false, false, false, false] rfl rfl (any_of HT_.out (by kernel_rfl)) (fun _ _ _ h => h) (Or.inl ⟨by rfl, ?_⟩) ?_ ?_
                    rotate_left
                    · intro w'
                      go_simp
                      with_reducible rfl
                    rotate_left
                    · simp only [Act.put, List.setIfInBounds_toArray, List.set_cons_zero, List.set_cons_succ, i64_w, i32_w]
                      rfl
                    refine pure_ (i := 7) (N := some 138) (v := ?_) (a' := ?_) #[true, true, true, true, true, true, true, true, true, false, false, false, false, false, false] rfl rfl (any_of HT_.out (by kernel_rfl)) (fun _ _ _ h => h) (Or.inl ⟨by rfl, ?_⟩) ?_ ?_
                    rotate_left
                    · intro w'
                      go_simp
                      with_reducible rfl
                    rotate_left
                    · simp only [Act.put, List.setIfInBounds_toArray, List.set_cons_zero, List.set_cons_succ, i64_w, i32_w]
                      rfl
                    refine take_ (i := 9) (N := some 140) (v := ?_) (a' := ?_) #[true, true, true, true, true, true, true, true, true, true, false, false, false, false, false] rfl rfl (take_ofW HT_.out HW_.out (by kernel_rfl)) (fun _ _ _ h => h) (Or.inl ⟨by rfl, ?_⟩) hHeld ?_ ?_
                    rotate_left
                    · rintro w' ⟨s0, s1, s2, s3, s4, s5, s6⟩
                      go_simp
                      with_reducible rfl
                    rotate_left
                    · simp only [Act.put, List.setIfInBounds_toArray, List.set_cons_zero, List.set_cons_succ, i64_w, i32_w]
                      rfl
                    refine pure_ (i := 10) (N := some 141) (v := ?_) (a' := ?_) #[true, true, true, true, true, true, true, true, true, true, true, false, false, false, false] rfl rfl (any_of HT_.out (by kernel_rfl)) (fun _ _ _ h => h) (Or.inl ⟨by rfl, ?_⟩) ?_ ?_
                    rotate_left
                    · intro w'
                      go_simp
                      with_reducible rfl
                    rotate_left
                    · simp only [Act.put, List.setIfInBounds_toArray, List.set_cons_zero, List.set_cons_succ, i64_w, i32_w]
                      rfl
                    refine pure_ (i := 11) (N := some 142) (v := ?_) (a' := ?_) #[true, true, true, true, true, true, true, true, true, true, true, true, false, false, false] rfl rfl (any_of HT_.out (by kernel_rfl)) (fun _ _ _ h => h) (Or.inl ⟨by rfl, ?_⟩) ?_ ?_
                    rotate_left
                    · intro w'
                      go_simp
                      with_reducible rfl
                    rotate_left
                    · simp only [Act.put, List.setIfInBounds_toArray, List.set_cons_zero, List.set_cons_succ, i64_w, i32_w]
                      rfl
                    refine pure_ (i := 12) (N := some 143) (v := ?_) (a' := ?_) #[true, true, true, true, true, true, true, true, true, true, true, true, true, false, false] rfl rfl (any_of HT_.out (by kernel_rfl)) (fun _ _ _ h => h) (Or.inl ⟨by rfl, ?_⟩) ?_ ?_
                    rotate_left
                    · intro w'
                      go_simp
                      with_reducible rfl
                    rotate_left
                    · simp only [Act.put, List.setIfInBounds_toArray, List.set_cons_zero, List.set_cons_succ, i64_w, i32_w]
                      rfl
                    refine pure_ (i := 13) (N := some 144) (v := ?_) (a' := ?_) #[true, true, true, true, true, true, true, true, true, true, true, true, true, true, false] rfl rfl (any_of HT_.out (by kernel_rfl)) (fun _ _ _ h => h) (Or.inl ⟨by rfl, ?_⟩) ?_ ?_
                    rotate_left
                    · intro w'
                      go_simp
                      with_reducible rfl
                    rotate_left
                    · simp only [Act.put, List.setIfInBounds_toArray, List.set_cons_zero, List.set_cons_succ, i64_w, i32_w]
                      rfl
                    refine last_ (i := 14) (N := none) #[true, true, true, true, true, true, true, true, true, true, true, true, true, true, true] rfl rfl (one_of HT_.out (by kernel_rfl)) (by decide) (fun K hK => ?_)
                    have hs83 : w82.cell? ⟨gb207, 0, none⟩ = some (.int .i64 a0_0) := (blk_cell BK207.out 0).trans rfl
                    have hfs83 := blk_frozen BK207.out 0
                    have hns83_1 := NB208_207.out
                    have hms83_1 := NB207_208.out
                    refine skip_ (w1 := ?_) (by rfl) rfl ?_ ?_
                    rotate_left
                    · go_simp
                      rfl
                    refine hK.out _ _ ?_
                    clear hK K
                    refine done_ (done_of HT_.out (by kernel_rfl)) ?_
                    have hcz84_0 : w82.cell? ⟨gb207, 0, none⟩ = some (.int .i64 a0_0) := (blk_cell BK207.out 0).trans rfl
                    have hcz84_1 : w82.cell? ⟨gb207, 1, none⟩ = some (.int .i64 a0_1) := (blk_cell BK207.out 1).trans rfl
                    have hcz84_2 : w82.cell? ⟨gb207, 2, none⟩ = some (.int .i64 ji58) := (blk_cell BK207.out 2).trans rfl
                    have hcz84_3 : w82.cell? ⟨gb207, 3, none⟩ = some (.int .i64 t215) := (blk_cell BK207.out 3).trans rfl
                    have hcz84_4 : w82.cell? ⟨gb207, 4, none⟩ = some (.int .i64 a3) := (blk_cell BK207.out 4).trans rfl
                    have hcz84_5 : w82.cell? ⟨gb207, 5, none⟩ = some (.int .i64 ji61) := (blk_cell BK207.out 5).trans rfl
                    have hcz84_6 : w82.cell? ⟨gb207, 6, none⟩ = some (.bool true) := (blk_cell BK207.out 6).trans rfl
                    have hfz84_0 := blk_frozen BK207.out 0
                    have hfz84_1 := blk_frozen BK207.out 1
                    have hfz84_2 := blk_frozen BK207.out 2
                    have hfz84_3 := blk_frozen BK207.out 3
                    have hfz84_4 := blk_frozen BK207.out 4
                    have hfz84_5 := blk_frozen BK207.out 5
                    have hfz84_6 := blk_frozen BK207.out 6
                    have hcz85_0 : w82.cell? ⟨gb208, 0, none⟩ = some (.int .i64 0) := (blk_cell BK208.out 0).trans rfl
                    have hcz85_1 : w82.cell? ⟨gb208, 1, none⟩ = some (.int .i64 0) := (blk_cell BK208.out 1).trans rfl
                    have hcz85_2 : w82.cell? ⟨gb208, 2, none⟩ = some (.int .i64 0) := (blk_cell BK208.out 2).trans rfl
                    have hcz85_3 : w82.cell? ⟨gb208, 3, none⟩ = some (.int .i64 0) := (blk_cell BK208.out 3).trans rfl
                    have hcz85_4 : w82.cell? ⟨gb208, 4, none⟩ = some (.int .i64 0) := (blk_cell BK208.out 4).trans rfl
                    have hcz85_5 : w82.cell? ⟨gb208, 5, none⟩ = some (.int .i64 0) := (blk_cell BK208.out 5).trans rfl
                    have hcz85_6 : w82.cell? ⟨gb208, 6, none⟩ = some (.bool false) := (blk_cell BK208.out 6).trans rfl
                    have hfz85_0 := blk_frozen BK208.out 0
                    have hfz85_1 := blk_frozen BK208.out 1
                    have hfz85_2 := blk_frozen BK208.out 2
                    have hfz85_3 := blk_frozen BK208.out 3
                    have hfz85_4 := blk_frozen BK208.out 4
                    have hfz85_5 := blk_frozen BK208.out 5
                    have hfz85_6 := blk_frozen BK208.out 6
                    try go_wp2
                    refine bodyPost_ret (results_ct rfl _ _ gb208 35 #[.int .i64 ji74, .int .i64 a0_1, .int .i64 ji58, .int .i64 t215, .int .i64 a3, .int .i64 ji61, .bool true] (0, 0) _ rfl (by refine skp_ ?_; refine blk_put (cs := #[.int .i64 ji74, .int .i64 a0_1, .int .i64 ji58, .int .i64 t215, .int .i64 a3, .int .i64 ji61, .bool false]) ?_ 6 _ rfl; refine skp_ ?_; refine blk_put (cs := #[.int .i64 ji74, .int .i64 a0_1, .int .i64 ji58, .int .i64 t215, .int .i64 a3, .int .i64 0, .bool false]) ?_ 5 _ rfl; refine skp_ ?_; refine blk_put (cs := #[.int .i64 ji74, .int .i64 a0_1, .int .i64 ji58, .int .i64 t215, .int .i64 0, .int .i64 0, .bool false]) ?_ 4 _ rfl; refine skp_ ?_; refine blk_put (cs := #[.int .i64 ji74, .int .i64 a0_1, .int .i64 ji58, .int .i64 0, .int .i64 0, .int .i64 0, .bool false]) ?_ 3 _ rfl; refine skp_ ?_; refine blk_put (cs := #[.int .i64 ji74, .int .i64 a0_1, .int .i64 0, .int .i64 0, .int .i64 0, .int .i64 0, .bool false]) ?_ 2 _ rfl; refine skp_ ?_; refine blk_put (cs := #[.int .i64 ji74, .int .i64 0, .int .i64 0, .int .i64 0, .int .i64 0, .int .i64 0, .bool false]) ?_ 1 _ rfl; refine skp_ ?_; refine blk_put (cs := #[.int .i64 0, .int .i64 0, .int .i64 0, .int .i64 0, .int .i64 0, .int .i64 0, .bool false]) ?_ 0 _ rfl; refine skp_ ?_; refine blk_far ?_ NB208_207.out _; refine skp_ ?_; exact BK208.out) Try.underlying35 rfl (by kernel_rfl)) rfl ?_
                    exact ⟨by first | rfl | (simp [errW_none, errW_some] <;> rfl) | (simp only [← hji58, ← hji61, ← hji71, ← hji72, ← hji74]; first | rfl | (simp [errW_none, errW_some] <;> rfl)) | (simp [*, errW_none, errW_some] <;> rfl), by repeat (first | (with_reducible first | exact HB.out | apply below_alloc | apply pw_below_drewN | apply below_drew1 | refine below_set ?_ GE207.out | refine below_set ?_ GE208.out) | exact HB.out)⟩
  · rw [if_neg c7] at H
    have c7b0 : (t209 == 0) = false := beq_eq_false_iff_ne.mpr c7
    have c7b1 : (t209 != 0) = true := bne_iff_ne.mpr c7
    simp only [Option.some.injEq, Prod.mk.injEq] at H
    obtain ⟨rfl, rfl, rfl, rfl, rfl, rfl, rfl, rfl⟩ := H
    go_enter Try.func19, Try.ntmps19
    go_wp2_with (first | ((with_reducible refine gate_dst (N := 5) rfl ?_); refine box_event ?hg (N := 5) ?hd (cs := #[.int .i64 a0_0, .int .i64 a0_1, .int .i64 a0_2, .int .i64 a0_3, .int .i64 a0_4, .int .i64 a0_5, .bool a0_6]) (t := 35) ?hr ?_; (case hd => rfl); (case hg => rfl); (case hr => first | (go_simp; done) | (go_simp; rfl)); intro gb207 hg w86 hbox hb; have n0_ := Aside0.mk (below_step (by repeat (first | (with_reducible first | exact HB.out | apply below_alloc | apply pw_below_drewN | apply below_drew1) | exact HB.out)) hb); have n1_ := Aside0.mk (hbox); have n2_ := Aside0.mk ((by rw [hg]; exact (below_size (by repeat (first | (with_reducible first | exact HB.out | apply below_alloc | apply pw_below_drewN | apply below_drew1) | exact HB.out))) : w.heap.size ≤ gb207)); have n3_ := Aside0.mk ((by rw [hg]; exact (below_size (by repeat (first | (with_reducible first | exact HB.out | apply below_alloc | apply pw_below_drewN | apply below_drew1) | exact HB.out))) : w.heap.size ≤ gb207)); clear HB; have HB := n0_; have BK207 := n1_; have GW207 := n2_; have GE207 := n3_; clear n0_ n1_ n2_ n3_; clear hb hbox hg) | ((with_reducible refine gate_dst (N := 10) rfl ?_); refine box_event ?hg (N := 10) ?hd (cs := #[.int .i64 0, .int .i64 0, .int .i64 0, .int .i64 0, .int .i64 0, .int .i64 0, .bool false]) (t := 35) ?hr ?_; (case hd => rfl); (case hg => rfl); (case hr => first | (go_simp; done) | (go_simp; rfl)); intro gb208 hg w87 hbox hb; have n0_ := Aside0.mk (blk_below (g := gb207) (o := .cells #[.int .i64 a0_0, .int .i64 a0_1, .int .i64 a0_2, .int .i64 a0_3, .int .i64 a0_4, .int .i64 a0_5, .bool a0_6] 35 (0, 0)) (skp_ BK207.out) hb); have n1_ := Aside0.mk (below_step (by repeat (first | (with_reducible first | exact HB.out | apply below_alloc | apply pw_below_drewN | apply below_drew1 | refine below_set ?_ GE207.out) | exact HB.out)) hb); have n2_ := Aside0.mk (hbox); have n3_ := Aside0.mk ((by rw [hg]; exact (below_size (by repeat (first | (with_reducible first | exact HB.out | apply below_alloc | apply pw_below_drewN | apply below_drew1 | refine below_set ?_ GE207.out) | exact HB.out))) : w.heap.size ≤ gb208)); have n4_ := Aside0.mk ((by rw [hg]; exact (below_size (by repeat (first | (with_reducible first | exact HB.out | apply below_alloc | apply pw_below_drewN | apply below_drew1 | refine below_set ?_ GE207.out) | exact HB.out))) : w.heap.size ≤ gb208)); have n5_ := Aside0.mk ((by rw [hg]; exact Nat.ne_of_lt (blk_lt (g := gb207) (o := .cells #[.int .i64 a0_0, .int .i64 a0_1, .int .i64 a0_2, .int .i64 a0_3, .int .i64 a0_4, .int .i64 a0_5, .bool a0_6] 35 (0, 0)) (skp_ BK207.out)) : gb207 ≠ gb208)); have n6_ := Aside0.mk ((by rw [hg]; exact Nat.ne_of_gt (blk_lt (g := gb207) (o := .cells #[.int .i64 a0_0, .int .i64 a0_1, .int .i64 a0_2, .int .i64 a0_3, .int .i64 a0_4, .int .i64 a0_5, .bool a0_6] 35 (0, 0)) (skp_ BK207.out)) : gb208 ≠ gb207)); clear BK207; clear HB; have BK207 := n0_; have HB := n1_; have BK208 := n2_; have GW208 := n3_; have GE208 := n4_; have NB207_208 := n5_; have NB208_207 := n6_; clear n0_ n1_ n2_ n3_ n4_ n5_ n6_; clear hb hbox hg; have hnb88 := NB207_208.out; have hnc88 := NB208_207.out; have hcz89_0 : w87.cell? ⟨gb207, 0, none⟩ = some (.int .i64 a0_0) := (blk_cell BK207.out 0).trans rfl; have hcz89_1 : w87.cell? ⟨gb207, 1, none⟩ = some (.int .i64 a0_1) := (blk_cell BK207.out 1).trans rfl; have hcz89_2 : w87.cell? ⟨gb207, 2, none⟩ = some (.int .i64 a0_2) := (blk_cell BK207.out 2).trans rfl; have hcz89_3 : w87.cell? ⟨gb207, 3, none⟩ = some (.int .i64 a0_3) := (blk_cell BK207.out 3).trans rfl; have hcz89_4 : w87.cell? ⟨gb207, 4, none⟩ = some (.int .i64 a0_4) := (blk_cell BK207.out 4).trans rfl; have hcz89_5 : w87.cell? ⟨gb207, 5, none⟩ = some (.int .i64 a0_5) := (blk_cell BK207.out 5).trans rfl; have hcz89_6 : w87.cell? ⟨gb207, 6, none⟩ = some (.bool a0_6) := (blk_cell BK207.out 6).trans rfl; have hfz89_0 := blk_frozen BK207.out 0; have hfz89_1 := blk_frozen BK207.out 1; have hfz89_2 := blk_frozen BK207.out 2; have hfz89_3 := blk_frozen BK207.out 3; have hfz89_4 := blk_frozen BK207.out 4; have hfz89_5 := blk_frozen BK207.out 5; have hfz89_6 := blk_frozen BK207.out 6) | ((with_reducible refine gate_callee (f := 24) rfl ?_); refine goesL_ (some 19) rfl rfl Try.func24 (by kernel_rfl) rfl #[.agg #[.int .i64 a0_0, .int .i64 a0_1, .int .i64 a0_2, .int .i64 a0_3, .int .i64 a0_4, .int .i64 a0_5, .bool a0_6], .int .i64 a1] rfl (by (try simp only [List.map_toArray, List.map_cons, List.map_nil]); first | done | rfl | (simp only [List.length_drop, List.length_take]; rfl)) ?_; (with_reducible refine (stopcockref21_Check.calls a0_0 a0_1 a0_2 a0_3 a0_4 a0_5 a0_6 a1 t209 _ A6.out).mono ?_); rintro e w90 ⟨rfl, hb⟩; refine ⟨_, rfl, ?_⟩; have n0_ := Aside0.mk (blk_below (g := gb207) (o := .cells #[.int .i64 a0_0, .int .i64 a0_1, .int .i64 a0_2, .int .i64 a0_3, .int .i64 a0_4, .int .i64 a0_5, .bool a0_6] 35 (0, 0)) (skp_ BK207.out) hb); have n1_ := Aside0.mk (blk_below (g := gb208) (o := .cells #[.int .i64 0, .int .i64 0, .int .i64 0, .int .i64 0, .int .i64 0, .int .i64 0, .bool false] 35 (0, 0)) (skp_ BK208.out) hb); have n2_ := Aside0.mk (below_step (by repeat (first | (with_reducible first | exact HB.out | apply below_alloc | apply pw_below_drewN | apply below_drew1 | refine below_set ?_ GE207.out | refine below_set ?_ GE208.out) | exact HB.out)) hb); clear BK207; clear BK208; clear HB; have BK207 := n0_; have BK208 := n1_; have HB := n2_; clear n0_ n1_ n2_; (try clear hb); (try clear hb2); (try clear hk); (try clear hi); have hcz91_0 : w90.cell? ⟨gb208, 0, none⟩ = some (.int .i64 0) := (blk_cell BK208.out 0).trans rfl; have hcz91_1 : w90.cell? ⟨gb208, 1, none⟩ = some (.int .i64 0) := (blk_cell BK208.out 1).trans rfl; have hcz91_2 : w90.cell? ⟨gb208, 2, none⟩ = some (.int .i64 0) := (blk_cell BK208.out 2).trans rfl; have hcz91_3 : w90.cell? ⟨gb208, 3, none⟩ = some (.int .i64 0) := (blk_cell BK208.out 3).trans rfl; have hcz91_4 : w90.cell? ⟨gb208, 4, none⟩ = some (.int .i64 0) := (blk_cell BK208.out 4).trans rfl; have hcz91_5 : w90.cell? ⟨gb208, 5, none⟩ = some (.int .i64 0) := (blk_cell BK208.out 5).trans rfl; have hcz91_6 : w90.cell? ⟨gb208, 6, none⟩ = some (.bool false) := (blk_cell BK208.out 6).trans rfl; have hfz91_0 := blk_frozen BK208.out 0; have hfz91_1 := blk_frozen BK208.out 1; have hfz91_2 := blk_frozen BK208.out 2; have hfz91_3 := blk_frozen BK208.out 3; have hfz91_4 := blk_frozen BK208.out 4; have hfz91_5 := blk_frozen BK208.out 5; have hfz91_6 := blk_frozen BK208.out 6))
    refine bodyPost_ret (results_ct rfl _ _ gb208 35 #[.int .i64 0, .int .i64 0, .int .i64 0, .int .i64 0, .int .i64 0, .int .i64 0, .bool false] (0, 0) _ rfl (by refine skp_ ?_; refine blk_put (cs := #[.int .i64 0, .int .i64 0, .int .i64 0, .int .i64 0, .int .i64 0, .int .i64 0, .bool false]) ?_ 6 _ rfl; refine skp_ ?_; refine blk_put (cs := #[.int .i64 0, .int .i64 0, .int .i64 0, .int .i64 0, .int .i64 0, .int .i64 0, .bool false]) ?_ 5 _ rfl; refine skp_ ?_; refine blk_put (cs := #[.int .i64 0, .int .i64 0, .int .i64 0, .int .i64 0, .int .i64 0, .int .i64 0, .bool false]) ?_ 4 _ rfl; refine skp_ ?_; refine blk_put (cs := #[.int .i64 0, .int .i64 0, .int .i64 0, .int .i64 0, .int .i64 0, .int .i64 0, .bool false]) ?_ 3 _ rfl; refine skp_ ?_; refine blk_put (cs := #[.int .i64 0, .int .i64 0, .int .i64 0, .int .i64 0, .int .i64 0, .int .i64 0, .bool false]) ?_ 2 _ rfl; refine skp_ ?_; refine blk_put (cs := #[.int .i64 0, .int .i64 0, .int .i64 0, .int .i64 0, .int .i64 0, .int .i64 0, .bool false]) ?_ 1 _ rfl; refine skp_ ?_; refine blk_put (cs := #[.int .i64 0, .int .i64 0, .int .i64 0, .int .i64 0, .int .i64 0, .int .i64 0, .bool false]) ?_ 0 _ rfl; refine skp_ ?_; exact BK208.out) Try.underlying35 rfl (by kernel_rfl)) rfl ?_
    exact ⟨by first | rfl | (simp [errW_none, errW_some] <;> rfl) | (simp [*, errW_none, errW_some] <;> rfl), by repeat (first | (with_reducible first | exact HB.out | apply below_alloc | apply pw_below_drewN | apply below_drew1 | refine below_set ?_ GE207.out | refine below_set ?_ GE208.out) | exact HB.out)⟩

end Go.Proofs.Ytolgfodpkeopgaa.PC
