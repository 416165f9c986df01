-- Written by a program of this session (wip/tools/mkprint.py, mp.sh) for this claim.
import Derived.Test.YtbdakddmonopmaaPAx0
import Derived.Test.YtbdakddmonopmaaPAx2
import Derived.Test.YtbdakddmonopmaaPAx3
namespace Go.Proofs.Ytbdakddmonopmaa.PA
open Go.RowKit Go.Proofs.YtbdakddmonopmaaW.PrintWords Go.Proofs.YtbdakddmonopmaaW.PrintLast Go.Proofs.YtbdakddmonopmaaW.PrintMore
attribute [local go_sem] max2_int min2_int max_two min_two max_three min_three max_four min_four   -- for this text's walks alone
set_option linter.unusedVariables false
set_option linter.unusedSimpArgs false

/-! ### stopcocklaw18_RttBacks: function 6 -/
def stopcocklaw18_RttBacks.l0 : Nat → Int → Int → Int → Int → Int → Int → Int → Int → Bool → Int → Int → Int → Option (Bool)
  | 0, _, _, _, _, _, _, _, _, _, _, _, _ => none
  | k + 1, x0, x1, x8, x10, x258000, x258001, x258002, x258003, x264000, x264001, x264002, x264003 => if x10 < x1 then ((rtt_Back.f k x258000 x258001 x258002 x258003 x264000 x264001 x264002 x264003).bind fun bt268 => (stopcocklaw18_RttBacks.l0 k x0 x1 x8 (wrap64 (x10 + 1)) x258000 x258001 x258002 x258003 bt268.1 bt268.2.1 bt268.2.2.1 bt268.2.2.2.1)) else ((rtt_RTO.f k x258000 x258001 x258002 x258003 x264000 x264001 x264002 x264003).bind fun bt273 => ((rtt_Sample.f k x258000 x258001 x258002 x258003 x264000 x264001 x264002 x264003 x0).bind fun bt275 => ((stopcocklaw18_num.f bt273.2).bind fun t281 => ((stopcocklaw18_num.f bt275.2.2.2.2).bind fun t282 => (if (wrap64 (t281 + t282)) = 0 then (if 0 ≤ x1 then (if bt273.1 = (mn (shl .i64 x8 x1) 1073741824) then (some (bt275.2.2.2.1 == 0)) else (some false)) else (none)) else (some false))))))
def stopcocklaw18_RttBacks.f (k : Nat) (a0 : Int) (a1 : Int) : Option (Bool) := (stopcocklaw18_alive.f k).bind fun t256 => (if t256 = true then ((rtt_Sample.f k 1000 1 1073741824 1 false 0 0 0 (wrap64 (1 + (Int.tmod (wrap64 ((Int.tmod a0 1000) + 1000)) 1000)))).bind fun bt258 => ((rtt_RTO.f k 1000 1 1073741824 1 bt258.1 bt258.2.1 bt258.2.2.1 bt258.2.2.2.1).bind fun bt264 => ((stopcocklaw18_num.f bt258.2.2.2.2).bind fun t266 => ((stopcocklaw18_num.f bt264.2).bind fun t267 => (if (wrap64 (t266 + t267)) = 0 then (stopcocklaw18_RttBacks.l0 k (wrap64 (1 + (Int.tmod (wrap64 ((Int.tmod a0 1000) + 1000)) 1000))) (Int.tmod (wrap64 ((Int.tmod a1 16) + 16)) 16) bt264.1 0 1000 1 1073741824 1 bt258.1 bt258.2.1 bt258.2.2.1 bt258.2.2.2.1) else (some false)))))) else (some false))
theorem stopcocklaw18_RttBacks.mono_l : ∀ k, (∀ y0 y1 y2 y3 y4 y5 y6 y7 y8 y9 y10 y11, LeO (stopcocklaw18_RttBacks.l0 k y0 y1 y2 y3 y4 y5 y6 y7 y8 y9 y10 y11) (stopcocklaw18_RttBacks.l0 (k + 1) y0 y1 y2 y3 y4 y5 y6 y7 y8 y9 y10 y11))
  | 0 => fun _ _ _ _ _ _ _ _ _ _ _ _ r h => by simp [stopcocklaw18_RttBacks.l0] at h
  | k + 1 => by
    have ih0 := stopcocklaw18_RttBacks.mono_l k
    · intro y0 y1 y2 y3 y4 y5 y6 y7 y8 y9 y10 y11
      unfold stopcocklaw18_RttBacks.l0
      repeat' first
      | (with_reducible exact ih0 _ _ _ _ _ _ _ _ _ _ _ _)
      | (with_reducible exact rtt_Back.mono _ _ _ _ _ _ _ _ _)
      | (with_reducible exact rtt_RTO.mono _ _ _ _ _ _ _ _ _)
      | (with_reducible exact rtt_Sample.mono _ _ _ _ _ _ _ _ _ _)
      | (with_reducible exact stopcocklaw18_alive.mono _)
      | (with_reducible exact LeO.refl _)
      | (with_reducible exact LeO.none _)
      | (with_reducible refine LeO.ite ?_ ?_)
      | (with_reducible refine LeO.bind ?_ (fun _ => ?_))
      | exact ih0 _ _ _ _ _ _ _ _ _ _ _ _
      | exact rtt_Back.mono _ _ _ _ _ _ _ _ _
      | exact rtt_RTO.mono _ _ _ _ _ _ _ _ _
      | exact rtt_Sample.mono _ _ _ _ _ _ _ _ _ _
      | exact stopcocklaw18_alive.mono _
      | exact LeO.none _
      | refine LeO.ite ?_ ?_
      | refine LeO.bind ?_ (fun _ => ?_)
theorem stopcocklaw18_RttBacks.mono : ∀ a0 a1 k, LeO (stopcocklaw18_RttBacks.f k a0 a1) (stopcocklaw18_RttBacks.f (k + 1) a0 a1) := by
  intro a0 a1 k
  have ih0 := stopcocklaw18_RttBacks.mono_l k
  unfold stopcocklaw18_RttBacks.f
  repeat' first
      | (with_reducible exact ih0 _ _ _ _ _ _ _ _ _ _ _ _)
      | (with_reducible exact rtt_Back.mono _ _ _ _ _ _ _ _ _)
      | (with_reducible exact rtt_RTO.mono _ _ _ _ _ _ _ _ _)
      | (with_reducible exact rtt_Sample.mono _ _ _ _ _ _ _ _ _ _)
      | (with_reducible exact stopcocklaw18_alive.mono _)
      | (with_reducible exact LeO.refl _)
      | (with_reducible exact LeO.none _)
      | (with_reducible refine LeO.ite ?_ ?_)
      | (with_reducible refine LeO.bind ?_ (fun _ => ?_))
      | exact ih0 _ _ _ _ _ _ _ _ _ _ _ _
      | exact rtt_Back.mono _ _ _ _ _ _ _ _ _
      | exact rtt_RTO.mono _ _ _ _ _ _ _ _ _
      | exact rtt_Sample.mono _ _ _ _ _ _ _ _ _ _
      | exact stopcocklaw18_alive.mono _
      | exact LeO.none _
      | refine LeO.ite ?_ ?_
      | refine LeO.bind ?_ (fun _ => ?_)
set_option maxHeartbeats 8000000 in
set_option maxRecDepth 100000 in
theorem stopcocklaw18_RttBacks.calls (k : Nat) (a0 : Int) (a1 : Int) (r : Bool) (w : World) (h : stopcocklaw18_RttBacks.f k a0 a1 = some r) (hrt : r = true) :
    Calls Try.prog 6 #[.int .i64 a0, .int .i64 a1] w fun e w' => e = .returned (.bool r) ∧ Below w.heap.size w w' := by
  have hu24 := Try.underlying24
  have hu26 := Try.underlying26
  have HRT := Aside0.mk hrt
  clear hrt
  have HB := Aside0.mk (Below.refl w.heap.size w)
  have H : ((stopcocklaw18_alive.f k).bind fun t256 => (if t256 = true then ((rtt_Sample.f k 1000 1 1073741824 1 false 0 0 0 (wrap64 (1 + (Int.tmod (wrap64 ((Int.tmod a0 1000) + 1000)) 1000)))).bind fun bt258 => ((rtt_RTO.f k 1000 1 1073741824 1 bt258.1 bt258.2.1 bt258.2.2.1 bt258.2.2.2.1).bind fun bt264 => ((stopcocklaw18_num.f bt258.2.2.2.2).bind fun t266 => ((stopcocklaw18_num.f bt264.2).bind fun t267 => (if (wrap64 (t266 + t267)) = 0 then (stopcocklaw18_RttBacks.l0 k (wrap64 (1 + (Int.tmod (wrap64 ((Int.tmod a0 1000) + 1000)) 1000))) (Int.tmod (wrap64 ((Int.tmod a1 16) + 16)) 16) bt264.1 0 1000 1 1073741824 1 bt258.1 bt258.2.1 bt258.2.2.1 bt258.2.2.2.1) else (some false)))))) else (some false))) = some r := h
  clear h
  replace H := Option.bind_eq_some_iff.mp H
  obtain ⟨t256, A30, H⟩ := H
  replace H : (if t256 = true then ((rtt_Sample.f k 1000 1 1073741824 1 false 0 0 0 (wrap64 (1 + (Int.tmod (wrap64 ((Int.tmod a0 1000) + 1000)) 1000)))).bind fun bt258 => ((rtt_RTO.f k 1000 1 1073741824 1 bt258.1 bt258.2.1 bt258.2.2.1 bt258.2.2.2.1).bind fun bt264 => ((stopcocklaw18_num.f bt258.2.2.2.2).bind fun t266 => ((stopcocklaw18_num.f bt264.2).bind fun t267 => (if (wrap64 (t266 + t267)) = 0 then (stopcocklaw18_RttBacks.l0 k (wrap64 (1 + (Int.tmod (wrap64 ((Int.tmod a0 1000) + 1000)) 1000))) (Int.tmod (wrap64 ((Int.tmod a1 16) + 16)) 16) bt264.1 0 1000 1 1073741824 1 bt258.1 bt258.2.1 bt258.2.2.1 bt258.2.2.2.1) else (some false)))))) else (some false)) = some r := H
  have A3 := Aside0.mk A30
  clear A30
  by_cases c4 : t256 = true
  · subst c4
    have H1 : ((rtt_Sample.f k 1000 1 1073741824 1 false 0 0 0 (wrap64 (1 + (Int.tmod (wrap64 ((Int.tmod a0 1000) + 1000)) 1000)))).bind fun bt258 => ((rtt_RTO.f k 1000 1 1073741824 1 bt258.1 bt258.2.1 bt258.2.2.1 bt258.2.2.2.1).bind fun bt264 => ((stopcocklaw18_num.f bt258.2.2.2.2).bind fun t266 => ((stopcocklaw18_num.f bt264.2).bind fun t267 => (if (wrap64 (t266 + t267)) = 0 then (stopcocklaw18_RttBacks.l0 k (wrap64 (1 + (Int.tmod (wrap64 ((Int.tmod a0 1000) + 1000)) 1000))) (Int.tmod (wrap64 ((Int.tmod a1 16) + 16)) 16) bt264.1 0 1000 1 1073741824 1 bt258.1 bt258.2.1 bt258.2.2.1 bt258.2.2.2.1) else (some false)))))) = some r := by rw [if_pos rfl] at H; exact H
    clear H
    have H := H1
    clear H1
    replace H := Option.bind_eq_some_iff.mp H
    obtain ⟨⟨t258, t259, t260, t261, t262⟩, A50, H⟩ := H
    replace H : ((rtt_RTO.f k 1000 1 1073741824 1 t258 t259 t260 t261).bind fun bt264 => ((stopcocklaw18_num.f t262).bind fun t266 => ((stopcocklaw18_num.f bt264.2).bind fun t267 => (if (wrap64 (t266 + t267)) = 0 then (stopcocklaw18_RttBacks.l0 k (wrap64 (1 + (Int.tmod (wrap64 ((Int.tmod a0 1000) + 1000)) 1000))) (Int.tmod (wrap64 ((Int.tmod a1 16) + 16)) 16) bt264.1 0 1000 1 1073741824 1 t258 t259 t260 t261) else (some false))))) = some r := H
    have A5 := Aside0.mk A50
    clear A50
    replace H := Option.bind_eq_some_iff.mp H
    obtain ⟨⟨t264, t265⟩, A60, H⟩ := H
    replace H : ((stopcocklaw18_num.f t262).bind fun t266 => ((stopcocklaw18_num.f t265).bind fun t267 => (if (wrap64 (t266 + t267)) = 0 then (stopcocklaw18_RttBacks.l0 k (wrap64 (1 + (Int.tmod (wrap64 ((Int.tmod a0 1000) + 1000)) 1000))) (Int.tmod (wrap64 ((Int.tmod a1 16) + 16)) 16) t264 0 1000 1 1073741824 1 t258 t259 t260 t261) else (some false)))) = some r := H
    have A6 := Aside0.mk A60
    clear A60
    replace H := Option.bind_eq_some_iff.mp H
    obtain ⟨t266, A70, H⟩ := H
    replace H : ((stopcocklaw18_num.f t265).bind fun t267 => (if (wrap64 (t266 + t267)) = 0 then (stopcocklaw18_RttBacks.l0 k (wrap64 (1 + (Int.tmod (wrap64 ((Int.tmod a0 1000) + 1000)) 1000))) (Int.tmod (wrap64 ((Int.tmod a1 16) + 16)) 16) t264 0 1000 1 1073741824 1 t258 t259 t260 t261) else (some false))) = some r := H
    have A7 := Aside0.mk A70
    clear A70
    replace H := Option.bind_eq_some_iff.mp H
    obtain ⟨t267, A80, H⟩ := H
    replace H : (if (wrap64 (t266 + t267)) = 0 then (stopcocklaw18_RttBacks.l0 k (wrap64 (1 + (Int.tmod (wrap64 ((Int.tmod a0 1000) + 1000)) 1000))) (Int.tmod (wrap64 ((Int.tmod a1 16) + 16)) 16) t264 0 1000 1 1073741824 1 t258 t259 t260 t261) else (some false)) = some r := H
    have A8 := Aside0.mk A80
    clear A80
    by_cases c9 : (wrap64 (t266 + t267)) = 0
    · rw [if_pos c9] at H
      have c9b0 : ((wrap64 (t266 + t267)) == 0) = true := beq_iff_eq.mpr c9
      have c9b1 : ((wrap64 (t266 + t267)) != 0) = false := bne_eq_false_iff_eq.mpr c9
      clear c9
      have H' := Aside0.mk H
      clear H
      go_enter Try.func6, Try.ntmps6
      go_wp2_with (first | ((with_reducible refine gate_callee (f := 7) rfl ?_); refine goesL_ (some 15) rfl rfl Try.func7 (by kernel_rfl) rfl #[] rfl (by (try simp only [List.map_toArray, List.map_cons, List.map_nil]); first | done | rfl | (simp only [List.length_drop, List.length_take]; rfl)) ?_; (with_reducible refine (stopcocklaw18_alive.calls k  true _ A3.out).mono ?_); rintro e w10 ⟨rfl, hb⟩; refine ⟨_, rfl, ?_⟩; have n0_ := Aside0.mk (below_step (by repeat (first | (with_reducible first | exact HB.out | apply below_alloc | apply pw_below_drewN | apply below_drew1) | exact HB.out)) hb); clear HB; have HB := n0_; clear n0_; (try clear hb); (try clear hb2); (try clear hk); (try clear hi)) | ((with_reducible refine gate_dst (N := 5) rfl ?_); (try (refine gate_guard (by rfl) ?_; dsimp only)); refine box_event ?hg (N := 5) ?hd (cs := #[.int .i64 0, .int .i64 0, .int .i64 0, .int .i64 0]) (t := 24) ?hr ?_; (case hd => rfl); (case hg => rfl); (case hr => first | (go_simp; done) | (go_simp; rfl)); intro gb257 hg w11 hbox hb; have n0_ := Aside0.mk (below_step (by repeat (first | (with_reducible first | exact HB.out | apply below_alloc | apply pw_below_drewN | apply below_drew1) | exact HB.out)) hb); have n1_ := Aside0.mk (hbox); have n2_ := Aside0.mk ((by rw [hg]; exact (below_size (by repeat (first | (with_reducible first | exact HB.out | apply below_alloc | apply pw_below_drewN | apply below_drew1) | exact HB.out))) : w.heap.size ≤ gb257)); have n3_ := Aside0.mk ((by rw [hg]; exact (below_size (by repeat (first | (with_reducible first | exact HB.out | apply below_alloc | apply pw_below_drewN | apply below_drew1) | exact HB.out))) : w.heap.size ≤ gb257)); clear HB; have HB := n0_; have BK257 := n1_; have GW257 := n2_; have GE257 := n3_; clear n0_ n1_ n2_ n3_; clear hb hbox hg; have hcz12_0 : w11.cell? ⟨gb257, 0, none⟩ = some (.int .i64 0) := (blk_cell BK257.out 0).trans rfl; have hcz12_1 : w11.cell? ⟨gb257, 1, none⟩ = some (.int .i64 0) := (blk_cell BK257.out 1).trans rfl; have hcz12_2 : w11.cell? ⟨gb257, 2, none⟩ = some (.int .i64 0) := (blk_cell BK257.out 2).trans rfl; have hcz12_3 : w11.cell? ⟨gb257, 3, none⟩ = some (.int .i64 0) := (blk_cell BK257.out 3).trans rfl; have hfz12_0 := blk_frozen BK257.out 0; have hfz12_1 := blk_frozen BK257.out 1; have hfz12_2 := blk_frozen BK257.out 2; have hfz12_3 := blk_frozen BK257.out 3) | ((with_reducible refine gate_callee (f := 8) rfl ?_); refine goesL_ (some 31) rfl rfl Try.func8 (by kernel_rfl) rfl #[.agg #[.int .i64 1000, .int .i64 1, .int .i64 1073741824, .int .i64 1], .agg #[.bool false, .int .i64 0, .int .i64 0, .int .i64 0], .int .i64 (wrap64 (1 + (Int.tmod (wrap64 ((Int.tmod a0 1000) + 1000)) 1000)))] rfl (by (try simp only [List.map_toArray, List.map_cons, List.map_nil]); first | done | rfl | (simp only [List.length_drop, List.length_take]; rfl)) ?_; (with_reducible refine (rtt_Sample.calls k 1000 1 1073741824 1 false 0 0 0 (wrap64 (1 + (Int.tmod (wrap64 ((Int.tmod a0 1000) + 1000)) 1000))) t258 t259 t260 t261 t262 _ A5.out).mono ?_); rintro e w13 ⟨rfl, hb⟩; refine ⟨_, rfl, ?_⟩; have n0_ := Aside0.mk (blk_below (g := gb257) (o := .cells #[.int .i64 1000, .int .i64 1, .int .i64 1073741824, .int .i64 1] 24 (0, 0)) (by (with_reducible repeat (first | refine blk_drewN ?_ _ | refine blk_drew ?_ | refine blk_alloc ?_ _)); refine blk_put (cs := #[.int .i64 1000, .int .i64 1, .int .i64 1073741824, .int .i64 0]) ?_ 3 _ rfl; (with_reducible repeat (first | refine blk_drewN ?_ _ | refine blk_drew ?_ | refine blk_alloc ?_ _)); refine blk_put (cs := #[.int .i64 1000, .int .i64 1, .int .i64 0, .int .i64 0]) ?_ 2 _ rfl; (with_reducible repeat (first | refine blk_drewN ?_ _ | refine blk_drew ?_ | refine blk_alloc ?_ _)); refine blk_put (cs := #[.int .i64 1000, .int .i64 0, .int .i64 0, .int .i64 0]) ?_ 1 _ rfl; (with_reducible repeat (first | refine blk_drewN ?_ _ | refine blk_drew ?_ | refine blk_alloc ?_ _)); refine blk_put (cs := #[.int .i64 0, .int .i64 0, .int .i64 0, .int .i64 0]) ?_ 0 _ rfl; (with_reducible repeat (first | refine blk_drewN ?_ _ | refine blk_drew ?_ | refine blk_alloc ?_ _)); exact BK257.out) hb); have n1_ := Aside0.mk (below_step (by repeat (first | (with_reducible first | exact HB.out | apply below_alloc | apply pw_below_drewN | apply below_drew1 | refine below_set ?_ GE257.out) | exact HB.out)) hb); clear BK257; clear HB; have BK257 := n0_; have HB := n1_; clear n0_ n1_; (try clear hb); (try clear hb2); (try clear hk); (try clear hi)) | ((with_reducible refine gate_dst (N := 6) rfl ?_); (try (refine gate_guard (by rfl) ?_; dsimp only)); refine box_event ?hg (N := 6) ?hd (cs := #[.bool false, .int .i64 0, .int .i64 0, .int .i64 0]) (t := 26) ?hr ?_; (case hd => rfl); (case hg => rfl); (case hr => first | (go_simp; done) | (go_simp; rfl)); intro gb263 hg w14 hbox hb; have n0_ := Aside0.mk (blk_below (g := gb257) (o := .cells #[.int .i64 1000, .int .i64 1, .int .i64 1073741824, .int .i64 1] 24 (0, 0)) (by (with_reducible repeat (first | refine blk_drewN ?_ _ | refine blk_drew ?_ | refine blk_alloc ?_ _)); exact BK257.out) hb); have n1_ := Aside0.mk (below_step (by repeat (first | (with_reducible first | exact HB.out | apply below_alloc | apply pw_below_drewN | apply below_drew1 | refine below_set ?_ GE257.out) | exact HB.out)) hb); have n2_ := Aside0.mk (hbox); have n3_ := Aside0.mk ((by rw [hg]; exact (below_size (by repeat (first | (with_reducible first | exact HB.out | apply below_alloc | apply pw_below_drewN | apply below_drew1 | refine below_set ?_ GE257.out) | exact HB.out))) : w.heap.size ≤ gb263)); have n4_ := Aside0.mk ((by rw [hg]; exact (below_size (by repeat (first | (with_reducible first | exact HB.out | apply below_alloc | apply pw_below_drewN | apply below_drew1 | refine below_set ?_ GE257.out) | exact HB.out))) : w.heap.size ≤ gb263)); have n5_ := Aside0.mk ((by rw [hg]; exact Nat.ne_of_lt (blk_lt (g := gb257) (o := .cells #[.int .i64 1000, .int .i64 1, .int .i64 1073741824, .int .i64 1] 24 (0, 0)) (by (with_reducible repeat (first | refine blk_drewN ?_ _ | refine blk_drew ?_ | refine blk_alloc ?_ _)); exact BK257.out)) : gb257 ≠ gb263)); have n6_ := Aside0.mk ((by rw [hg]; exact Nat.ne_of_gt (blk_lt (g := gb257) (o := .cells #[.int .i64 1000, .int .i64 1, .int .i64 1073741824, .int .i64 1] 24 (0, 0)) (by (with_reducible repeat (first | refine blk_drewN ?_ _ | refine blk_drew ?_ | refine blk_alloc ?_ _)); exact BK257.out)) : gb263 ≠ gb257)); clear BK257; clear HB; have BK257 := n0_; have HB := n1_; have BK263 := n2_; have GW263 := n3_; have GE263 := n4_; have NB257_263 := n5_; have NB263_257 := n6_; clear n0_ n1_ n2_ n3_ n4_ n5_ n6_; clear hb hbox hg; have hnb15 := NB263_257.out; have hnc15 := NB257_263.out; have hcz16_0 : w14.cell? ⟨gb263, 0, none⟩ = some (.bool false) := (blk_cell BK263.out 0).trans rfl; have hcz16_1 : w14.cell? ⟨gb263, 1, none⟩ = some (.int .i64 0) := (blk_cell BK263.out 1).trans rfl; have hcz16_2 : w14.cell? ⟨gb263, 2, none⟩ = some (.int .i64 0) := (blk_cell BK263.out 2).trans rfl; have hcz16_3 : w14.cell? ⟨gb263, 3, none⟩ = some (.int .i64 0) := (blk_cell BK263.out 3).trans rfl; have hfz16_0 := blk_frozen BK263.out 0; have hfz16_1 := blk_frozen BK263.out 1; have hfz16_2 := blk_frozen BK263.out 2; have hfz16_3 := blk_frozen BK263.out 3; have hcz17_0 : w14.cell? ⟨gb257, 0, none⟩ = some (.int .i64 1000) := (blk_cell BK257.out 0).trans rfl; have hcz17_1 : w14.cell? ⟨gb257, 1, none⟩ = some (.int .i64 1) := (blk_cell BK257.out 1).trans rfl; have hcz17_2 : w14.cell? ⟨gb257, 2, none⟩ = some (.int .i64 1073741824) := (blk_cell BK257.out 2).trans rfl; have hcz17_3 : w14.cell? ⟨gb257, 3, none⟩ = some (.int .i64 1) := (blk_cell BK257.out 3).trans rfl; have hfz17_0 := blk_frozen BK257.out 0; have hfz17_1 := blk_frozen BK257.out 1; have hfz17_2 := blk_frozen BK257.out 2; have hfz17_3 := blk_frozen BK257.out 3) | ((with_reducible refine gate_callee (f := 10) rfl ?_); refine goesL_ (some 37) rfl rfl Try.func10 (by kernel_rfl) rfl #[.agg #[.int .i64 1000, .int .i64 1, .int .i64 1073741824, .int .i64 1], .agg #[.bool t258, .int .i64 t259, .int .i64 t260, .int .i64 t261]] rfl (by (try simp only [List.map_toArray, List.map_cons, List.map_nil]); first | done | rfl | (simp only [List.length_drop, List.length_take]; rfl)) ?_; (with_reducible refine (rtt_RTO.calls k 1000 1 1073741824 1 t258 t259 t260 t261 t264 t265 _ A6.out).mono ?_); rintro e w18 ⟨rfl, hb⟩; refine ⟨_, rfl, ?_⟩; have n0_ := Aside0.mk (blk_below (g := gb257) (o := .cells #[.int .i64 1000, .int .i64 1, .int .i64 1073741824, .int .i64 1] 24 (0, 0)) (by (with_reducible repeat (first | refine blk_drewN ?_ _ | refine blk_drew ?_ | refine blk_alloc ?_ _)); refine blk_far ?_ NB257_263.out _; (with_reducible repeat (first | refine blk_drewN ?_ _ | refine blk_drew ?_ | refine blk_alloc ?_ _)); refine blk_far ?_ NB257_263.out _; (with_reducible repeat (first | refine blk_drewN ?_ _ | refine blk_drew ?_ | refine blk_alloc ?_ _)); refine blk_far ?_ NB257_263.out _; (with_reducible repeat (first | refine blk_drewN ?_ _ | refine blk_drew ?_ | refine blk_alloc ?_ _)); refine blk_far ?_ NB257_263.out _; (with_reducible repeat (first | refine blk_drewN ?_ _ | refine blk_drew ?_ | refine blk_alloc ?_ _)); exact BK257.out) hb); have n1_ := Aside0.mk (blk_below (g := gb263) (o := .cells #[.bool t258, .int .i64 t259, .int .i64 t260, .int .i64 t261] 26 (0, 0)) (by (with_reducible repeat (first | refine blk_drewN ?_ _ | refine blk_drew ?_ | refine blk_alloc ?_ _)); refine blk_put (cs := #[.bool t258, .int .i64 t259, .int .i64 t260, .int .i64 0]) ?_ 3 _ rfl; (with_reducible repeat (first | refine blk_drewN ?_ _ | refine blk_drew ?_ | refine blk_alloc ?_ _)); refine blk_put (cs := #[.bool t258, .int .i64 t259, .int .i64 0, .int .i64 0]) ?_ 2 _ rfl; (with_reducible repeat (first | refine blk_drewN ?_ _ | refine blk_drew ?_ | refine blk_alloc ?_ _)); refine blk_put (cs := #[.bool t258, .int .i64 0, .int .i64 0, .int .i64 0]) ?_ 1 _ rfl; (with_reducible repeat (first | refine blk_drewN ?_ _ | refine blk_drew ?_ | refine blk_alloc ?_ _)); refine blk_put (cs := #[.bool false, .int .i64 0, .int .i64 0, .int .i64 0]) ?_ 0 _ rfl; (with_reducible repeat (first | refine blk_drewN ?_ _ | refine blk_drew ?_ | refine blk_alloc ?_ _)); exact BK263.out) hb); have n2_ := Aside0.mk (below_step (by repeat (first | (with_reducible first | exact HB.out | apply below_alloc | apply pw_below_drewN | apply below_drew1 | refine below_set ?_ GE257.out | refine below_set ?_ GE263.out) | exact HB.out)) hb); clear BK257; clear BK263; clear HB; have BK257 := n0_; have BK263 := n1_; have HB := n2_; clear n0_ n1_ n2_; (try clear hb); (try clear hb2); (try clear hk); (try clear hi)) | ((with_reducible refine gate_callee (f := 9) rfl ?_); refine goesL_ (some 41) rfl rfl Try.func9 (by kernel_rfl) rfl #[.int .i64 t262] rfl (by (try simp only [List.map_toArray, List.map_cons, List.map_nil]); first | done | rfl | (simp only [List.length_drop, List.length_take]; rfl)) ?_; (with_reducible refine (stopcocklaw18_num.calls t262 t266 _ A7.out).mono ?_); rintro e w' ⟨rfl, ⟨nd, rfl⟩⟩; refine ⟨_, rfl, ?_⟩) | ((with_reducible refine gate_callee (f := 9) rfl ?_); refine goesL_ (some 43) rfl rfl Try.func9 (by kernel_rfl) rfl #[.int .i64 t265] rfl (by (try simp only [List.map_toArray, List.map_cons, List.map_nil]); first | done | rfl | (simp only [List.length_drop, List.length_take]; rfl)) ?_; (with_reducible refine (stopcocklaw18_num.calls t265 t267 _ A8.out).mono ?_); rintro e w' ⟨rfl, ⟨nd, rfl⟩⟩; refine ⟨_, rfl, ?_⟩))
      go_loopg [10] k (fun kq v10 w' => ∃ (x10_1 : Int) (x264000_1 : Bool) (x264001_1 : Int) (x264002_1 : Int) (x264003_1 : Int), v10 = .int .i64 x10_1 ∧ Aside0 (stopcocklaw18_RttBacks.l0 kq (wrap64 (1 + (Int.tmod (wrap64 ((Int.tmod a0 1000) + 1000)) 1000))) (Int.tmod (wrap64 ((Int.tmod a1 16) + 16)) 16) t264 x10_1 1000 1 1073741824 1 x264000_1 x264001_1 x264002_1 x264003_1 = some r) ∧ Aside0 (kq ≤ k) ∧ Aside0 (w'.heap[gb257]? = some (.cells #[.int .i64 1000, .int .i64 1, .int .i64 1073741824, .int .i64 1] 24 (0, 0))) ∧ Aside0 (w'.heap[gb263]? = some (.cells #[.bool x264000_1, .int .i64 x264001_1, .int .i64 x264002_1, .int .i64 x264003_1] 26 (0, 0))) ∧ Aside0 (Below w.heap.size w w'))
      case atStart => exact ⟨(0), (t258), (t259), (t260), (t261), (by first | rfl | (simp; done) | (simp [*]; done)), H', ⟨Nat.le_refl _⟩, ⟨by (with_reducible repeat (first | refine blk_drewN ?_ _ | refine blk_drew ?_ | refine blk_alloc ?_ _)); exact BK257.out⟩, ⟨by (with_reducible repeat (first | refine blk_drewN ?_ _ | refine blk_drew ?_ | refine blk_alloc ?_ _)); exact BK263.out⟩, ⟨by repeat (first | (with_reducible first | exact HB.out | apply below_alloc | apply pw_below_drewN | apply below_drew1 | refine below_set ?_ GE257.out | refine below_set ?_ GE263.out) | exact HB.out)⟩⟩
      case round =>
        clear H'
        try clear c1
        try clear p2
        try clear c4
        try clear c6
        try clear p6
        try clear c7
        try clear c8
        try clear c9
        try clear c9b0
        try clear c9b1
        try clear c10
        try clear c15
        try clear hcz12_0
        try clear hcz12_1
        try clear hcz12_2
        try clear hcz12_3
        try clear hcz16_0
        try clear hcz16_1
        try clear hcz16_2
        try clear hcz16_3
        try clear hcz17_0
        try clear hcz17_1
        try clear hcz17_2
        try clear hcz17_3
        try clear hfz12_0
        try clear hfz12_1
        try clear hfz12_2
        try clear hfz12_3
        try clear hfz16_0
        try clear hfz16_1
        try clear hfz16_2
        try clear hfz16_3
        try clear hfz17_0
        try clear hfz17_1
        try clear hfz17_2
        try clear hfz17_3
        obtain ⟨x10_1, x264000_1, x264001_1, x264002_1, x264003_1, rfl, HA, HK1, BK257, BK263, HB⟩ := hrel
        cases gk with
        | zero => exact absurd HA.out (by simp [stopcocklaw18_RttBacks.l0])
        | succ k1 =>
          have H := HA.out
          clear HA
          simp only [stopcocklaw18_RttBacks.l0] at H
          by_cases c19 : x10_1 < (Int.tmod (wrap64 ((Int.tmod a1 16) + 16)) 16)
          · rw [if_pos c19] at H
            have c19b0 : decide (x10_1 < (Int.tmod (wrap64 ((Int.tmod a1 16) + 16)) 16)) = true := decide_eq_true c19
            clear c19
            replace H := Option.bind_eq_some_iff.mp H
            obtain ⟨⟨t268, t269, t270, t271, t272⟩, A200, H⟩ := H
            replace H : (stopcocklaw18_RttBacks.l0 k1 (wrap64 (1 + (Int.tmod (wrap64 ((Int.tmod a0 1000) + 1000)) 1000))) (Int.tmod (wrap64 ((Int.tmod a1 16) + 16)) 16) t264 (wrap64 (x10_1 + 1)) 1000 1 1073741824 1 t268 t269 t270 t271) = some r := H
            have A20 := Aside0.mk A200
            clear A200
            have H' := Aside0.mk H
            clear H
            have hnb21 := NB257_263.out
            have hnc21 := NB263_257.out
            have hcz22_0 : wr.cell? ⟨gb257, 0, none⟩ = some (.int .i64 1000) := (blk_cell BK257.out 0).trans rfl
            have hcz22_1 : wr.cell? ⟨gb257, 1, none⟩ = some (.int .i64 1) := (blk_cell BK257.out 1).trans rfl
            have hcz22_2 : wr.cell? ⟨gb257, 2, none⟩ = some (.int .i64 1073741824) := (blk_cell BK257.out 2).trans rfl
            have hcz22_3 : wr.cell? ⟨gb257, 3, none⟩ = some (.int .i64 1) := (blk_cell BK257.out 3).trans rfl
            have hfz22_0 := blk_frozen BK257.out 0
            have hfz22_1 := blk_frozen BK257.out 1
            have hfz22_2 := blk_frozen BK257.out 2
            have hfz22_3 := blk_frozen BK257.out 3
            have hcz23_0 : wr.cell? ⟨gb263, 0, none⟩ = some (.bool x264000_1) := (blk_cell BK263.out 0).trans rfl
            have hcz23_1 : wr.cell? ⟨gb263, 1, none⟩ = some (.int .i64 x264001_1) := (blk_cell BK263.out 1).trans rfl
            have hcz23_2 : wr.cell? ⟨gb263, 2, none⟩ = some (.int .i64 x264002_1) := (blk_cell BK263.out 2).trans rfl
            have hcz23_3 : wr.cell? ⟨gb263, 3, none⟩ = some (.int .i64 x264003_1) := (blk_cell BK263.out 3).trans rfl
            have hfz23_0 := blk_frozen BK263.out 0
            have hfz23_1 := blk_frozen BK263.out 1
            have hfz23_2 := blk_frozen BK263.out 2
            have hfz23_3 := blk_frozen BK263.out 3
            go_wp2_with (first | ((with_reducible refine gate_callee (f := 12) rfl ?_); refine goesL_ (some 54) rfl rfl Try.func12 (by kernel_rfl) rfl #[.agg #[.int .i64 1000, .int .i64 1, .int .i64 1073741824, .int .i64 1], .agg #[.bool x264000_1, .int .i64 x264001_1, .int .i64 x264002_1, .int .i64 x264003_1]] rfl (by (try simp only [List.map_toArray, List.map_cons, List.map_nil]); first | done | rfl | (simp only [List.length_drop, List.length_take]; rfl)) ?_; (with_reducible refine (rtt_Back.calls k1 1000 1 1073741824 1 x264000_1 x264001_1 x264002_1 x264003_1 t268 t269 t270 t271 t272 _ A20.out).mono ?_); rintro e w24 ⟨rfl, hb⟩; refine ⟨_, rfl, ?_⟩; have n0_ := Aside0.mk (blk_below (g := gb257) (o := .cells #[.int .i64 1000, .int .i64 1, .int .i64 1073741824, .int .i64 1] 24 (0, 0)) (by (with_reducible repeat (first | refine blk_drewN ?_ _ | refine blk_drew ?_ | refine blk_alloc ?_ _)); exact BK257.out) hb); have n1_ := Aside0.mk (blk_below (g := gb263) (o := .cells #[.bool x264000_1, .int .i64 x264001_1, .int .i64 x264002_1, .int .i64 x264003_1] 26 (0, 0)) (by (with_reducible repeat (first | refine blk_drewN ?_ _ | refine blk_drew ?_ | refine blk_alloc ?_ _)); exact BK263.out) hb); have n2_ := Aside0.mk (below_step (by repeat (first | (with_reducible first | exact HB.out | apply below_alloc | apply pw_below_drewN | apply below_drew1 | refine below_set ?_ GE257.out | refine below_set ?_ GE263.out) | exact HB.out)) hb); clear BK257; clear BK263; clear HB; have BK257 := n0_; have BK263 := n1_; have HB := n2_; clear n0_ n1_ n2_; (try clear hb); (try clear hb2); (try clear hk); (try clear hi); have hcz25_0 : w24.cell? ⟨gb263, 0, none⟩ = some (.bool x264000_1) := (blk_cell BK263.out 0).trans rfl; have hcz25_1 : w24.cell? ⟨gb263, 1, none⟩ = some (.int .i64 x264001_1) := (blk_cell BK263.out 1).trans rfl; have hcz25_2 : w24.cell? ⟨gb263, 2, none⟩ = some (.int .i64 x264002_1) := (blk_cell BK263.out 2).trans rfl; have hcz25_3 : w24.cell? ⟨gb263, 3, none⟩ = some (.int .i64 x264003_1) := (blk_cell BK263.out 3).trans rfl; have hfz25_0 := blk_frozen BK263.out 0; have hfz25_1 := blk_frozen BK263.out 1; have hfz25_2 := blk_frozen BK263.out 2; have hfz25_3 := blk_frozen BK263.out 3))
            go_roundg k1
            case measure => have := HK1.out; omega
            case rel => exact ⟨(wrap64 (x10_1 + 1)), (t268), (t269), (t270), (t271), (by first | rfl | (simp; done) | (simp [*]; done)), H', ⟨by have := HK1.out; omega⟩, ⟨by (with_reducible repeat (first | refine blk_drewN ?_ _ | refine blk_drew ?_ | refine blk_alloc ?_ _)); refine blk_far ?_ NB257_263.out _; (with_reducible repeat (first | refine blk_drewN ?_ _ | refine blk_drew ?_ | refine blk_alloc ?_ _)); refine blk_far ?_ NB257_263.out _; (with_reducible repeat (first | refine blk_drewN ?_ _ | refine blk_drew ?_ | refine blk_alloc ?_ _)); refine blk_far ?_ NB257_263.out _; (with_reducible repeat (first | refine blk_drewN ?_ _ | refine blk_drew ?_ | refine blk_alloc ?_ _)); refine blk_far ?_ NB257_263.out _; (with_reducible repeat (first | refine blk_drewN ?_ _ | refine blk_drew ?_ | refine blk_alloc ?_ _)); exact BK257.out⟩, ⟨by (with_reducible repeat (first | refine blk_drewN ?_ _ | refine blk_drew ?_ | refine blk_alloc ?_ _)); refine blk_put (cs := #[.bool t268, .int .i64 t269, .int .i64 t270, .int .i64 x264003_1]) ?_ 3 _ rfl; (with_reducible repeat (first | refine blk_drewN ?_ _ | refine blk_drew ?_ | refine blk_alloc ?_ _)); refine blk_put (cs := #[.bool t268, .int .i64 t269, .int .i64 x264002_1, .int .i64 x264003_1]) ?_ 2 _ rfl; (with_reducible repeat (first | refine blk_drewN ?_ _ | refine blk_drew ?_ | refine blk_alloc ?_ _)); refine blk_put (cs := #[.bool t268, .int .i64 x264001_1, .int .i64 x264002_1, .int .i64 x264003_1]) ?_ 1 _ rfl; (with_reducible repeat (first | refine blk_drewN ?_ _ | refine blk_drew ?_ | refine blk_alloc ?_ _)); refine blk_put (cs := #[.bool x264000_1, .int .i64 x264001_1, .int .i64 x264002_1, .int .i64 x264003_1]) ?_ 0 _ rfl; (with_reducible repeat (first | refine blk_drewN ?_ _ | refine blk_drew ?_ | refine blk_alloc ?_ _)); exact BK263.out⟩, ⟨by repeat (first | (with_reducible first | exact HB.out | apply below_alloc | apply pw_below_drewN | apply below_drew1 | refine below_set ?_ GE257.out | refine below_set ?_ GE263.out) | exact HB.out)⟩⟩
          · rw [if_neg c19] at H
            have c19b0 : decide (x10_1 < (Int.tmod (wrap64 ((Int.tmod a1 16) + 16)) 16)) = false := decide_eq_false c19
            clear c19
            replace H := Option.bind_eq_some_iff.mp H
            obtain ⟨⟨t273, t274⟩, A260, H⟩ := H
            replace H : ((rtt_Sample.f k1 1000 1 1073741824 1 x264000_1 x264001_1 x264002_1 x264003_1 (wrap64 (1 + (Int.tmod (wrap64 ((Int.tmod a0 1000) + 1000)) 1000)))).bind fun bt275 => ((stopcocklaw18_num.f t274).bind fun t281 => ((stopcocklaw18_num.f bt275.2.2.2.2).bind fun t282 => (if (wrap64 (t281 + t282)) = 0 then (if 0 ≤ (Int.tmod (wrap64 ((Int.tmod a1 16) + 16)) 16) then (if t273 = (mn (shl .i64 t264 (Int.tmod (wrap64 ((Int.tmod a1 16) + 16)) 16)) 1073741824) then (some (bt275.2.2.2.1 == 0)) else (some false)) else (none)) else (some false))))) = some r := H
            have A26 := Aside0.mk A260
            clear A260
            replace H := Option.bind_eq_some_iff.mp H
            obtain ⟨⟨t275, t276, t277, t278, t279⟩, A270, H⟩ := H
            replace H : ((stopcocklaw18_num.f t274).bind fun t281 => ((stopcocklaw18_num.f t279).bind fun t282 => (if (wrap64 (t281 + t282)) = 0 then (if 0 ≤ (Int.tmod (wrap64 ((Int.tmod a1 16) + 16)) 16) then (if t273 = (mn (shl .i64 t264 (Int.tmod (wrap64 ((Int.tmod a1 16) + 16)) 16)) 1073741824) then (some (t278 == 0)) else (some false)) else (none)) else (some false)))) = some r := H
            have A27 := Aside0.mk A270
            clear A270
            replace H := Option.bind_eq_some_iff.mp H
            obtain ⟨t281, A280, H⟩ := H
            replace H : ((stopcocklaw18_num.f t279).bind fun t282 => (if (wrap64 (t281 + t282)) = 0 then (if 0 ≤ (Int.tmod (wrap64 ((Int.tmod a1 16) + 16)) 16) then (if t273 = (mn (shl .i64 t264 (Int.tmod (wrap64 ((Int.tmod a1 16) + 16)) 16)) 1073741824) then (some (t278 == 0)) else (some false)) else (none)) else (some false))) = some r := H
            have A28 := Aside0.mk A280
            clear A280
            replace H := Option.bind_eq_some_iff.mp H
            obtain ⟨t282, A290, H⟩ := H
            replace H : (if (wrap64 (t281 + t282)) = 0 then (if 0 ≤ (Int.tmod (wrap64 ((Int.tmod a1 16) + 16)) 16) then (if t273 = (mn (shl .i64 t264 (Int.tmod (wrap64 ((Int.tmod a1 16) + 16)) 16)) 1073741824) then (some (t278 == 0)) else (some false)) else (none)) else (some false)) = some r := H
            have A29 := Aside0.mk A290
            clear A290
            by_cases c30 : (wrap64 (t281 + t282)) = 0
            · rw [if_pos c30] at H
              have c30b0 : ((wrap64 (t281 + t282)) == 0) = true := beq_iff_eq.mpr c30
              have c30b1 : ((wrap64 (t281 + t282)) != 0) = false := bne_eq_false_iff_eq.mpr c30
              clear c30
              obtain ⟨ji31, hji31⟩ : ∃ j_ : Int, (Int.tmod (wrap64 ((Int.tmod a1 16) + 16)) 16) = j_ := ⟨_, rfl⟩
              replace H : (if 0 ≤ (ji31) then (if t273 = (mn (shl .i64 t264 (ji31)) 1073741824) then (some (t278 == 0)) else (some false)) else (none)) = some r := by first | (rw [hji31] at H; exact H) | (simp only [hji31] at H ⊢; exact H)
              (try rw [hji31] at c19b0)
              (try rw [hji31] at A26)
              (try rw [hji31] at A27)
              (try rw [hji31] at A28)
              (try rw [hji31] at A29)
              by_cases c32 : 0 ≤ (ji31)
              · rw [if_pos c32] at H
                have c32b0 := eq_true c32
                have c32b1 : decide (0 ≤ (ji31)) = true := decide_eq_true c32
                clear c32
                obtain ⟨ji33, hji33⟩ : ∃ j_ : Int, (shl .i64 t264 (ji31)) = j_ := ⟨_, rfl⟩
                replace H : (if t273 = (mn (ji33) 1073741824) then (some (t278 == 0)) else (some false)) = some r := by first | (rw [hji33] at H; exact H) | (simp only [hji33] at H ⊢; exact H)
                (try rw [hji33] at A26)
                (try rw [hji33] at A27)
                (try rw [hji33] at A28)
                (try rw [hji33] at A29)
                have hji33_ : (IntKind.i64.wrap (t264 * 2 ^ min (ji31).toNat 64)) = ji33 := hji33
                have hji33z : (ji31) ≤ 64 → (IntKind.i64.wrap (t264 * 2 ^ (ji31).toNat)) = ji33 := shl_small hji33
                have hji33y : (wrap64 (t264 * 2 ^ min (ji31).toNat 64)) = ji33 := (i64_w _).symm.trans hji33_
                have hji33x : (ji31) ≤ 64 → (wrap64 (t264 * 2 ^ (ji31).toNat)) = ji33 := fun h_ => (i64_w _).symm.trans (hji33z h_)
                obtain ⟨ji34, hji34⟩ : ∃ j_ : Int, (mn (ji33) 1073741824) = j_ := ⟨_, rfl⟩
                replace H : (if t273 = (ji34) then (some (t278 == 0)) else (some false)) = some r := by first | (rw [hji34] at H; exact H) | (simp only [hji34] at H ⊢; exact H)
                (try rw [hji34] at A26)
                (try rw [hji34] at A27)
                (try rw [hji34] at A28)
                (try rw [hji34] at A29)
                have hji34_ : (if 1073741824 < (ji33) then 1073741824 else (ji33)) = ji34 := hji34
                by_cases c35 : t273 = (ji34)
                · rw [if_pos c35] at H
                  have c35b0 : (t273 == (ji34)) = true := beq_iff_eq.mpr c35
                  have c35b1 : (t273 != (ji34)) = false := bne_eq_false_iff_eq.mpr c35
                  clear c35
                  obtain rfl := Option.some.inj H
                  have hnb36 := NB257_263.out
                  have hnc36 := NB263_257.out
                  have hcz37_0 : wr.cell? ⟨gb257, 0, none⟩ = some (.int .i64 1000) := (blk_cell BK257.out 0).trans rfl
                  have hcz37_1 : wr.cell? ⟨gb257, 1, none⟩ = some (.int .i64 1) := (blk_cell BK257.out 1).trans rfl
                  have hcz37_2 : wr.cell? ⟨gb257, 2, none⟩ = some (.int .i64 1073741824) := (blk_cell BK257.out 2).trans rfl
                  have hcz37_3 : wr.cell? ⟨gb257, 3, none⟩ = some (.int .i64 1) := (blk_cell BK257.out 3).trans rfl
                  have hfz37_0 := blk_frozen BK257.out 0
                  have hfz37_1 := blk_frozen BK257.out 1
                  have hfz37_2 := blk_frozen BK257.out 2
                  have hfz37_3 := blk_frozen BK257.out 3
                  have hcz38_0 : wr.cell? ⟨gb263, 0, none⟩ = some (.bool x264000_1) := (blk_cell BK263.out 0).trans rfl
                  have hcz38_1 : wr.cell? ⟨gb263, 1, none⟩ = some (.int .i64 x264001_1) := (blk_cell BK263.out 1).trans rfl
                  have hcz38_2 : wr.cell? ⟨gb263, 2, none⟩ = some (.int .i64 x264002_1) := (blk_cell BK263.out 2).trans rfl
                  have hcz38_3 : wr.cell? ⟨gb263, 3, none⟩ = some (.int .i64 x264003_1) := (blk_cell BK263.out 3).trans rfl
                  have hfz38_0 := blk_frozen BK263.out 0
                  have hfz38_1 := blk_frozen BK263.out 1
                  have hfz38_2 := blk_frozen BK263.out 2
                  have hfz38_3 := blk_frozen BK263.out 3
                  go_wp2_with (first | ((with_reducible refine gate_callee (f := 10) rfl ?_); refine goesL_ (some 60) rfl rfl Try.func10 (by kernel_rfl) rfl #[.agg #[.int .i64 1000, .int .i64 1, .int .i64 1073741824, .int .i64 1], .agg #[.bool x264000_1, .int .i64 x264001_1, .int .i64 x264002_1, .int .i64 x264003_1]] rfl (by (try simp only [List.map_toArray, List.map_cons, List.map_nil]); first | done | rfl | (simp only [List.length_drop, List.length_take]; rfl)) ?_; (with_reducible refine (rtt_RTO.calls k1 1000 1 1073741824 1 x264000_1 x264001_1 x264002_1 x264003_1 t273 t274 _ A26.out).mono ?_); rintro e w39 ⟨rfl, hb⟩; refine ⟨_, rfl, ?_⟩; have n0_ := Aside0.mk (blk_below (g := gb257) (o := .cells #[.int .i64 1000, .int .i64 1, .int .i64 1073741824, .int .i64 1] 24 (0, 0)) (by (with_reducible repeat (first | refine blk_drewN ?_ _ | refine blk_drew ?_ | refine blk_alloc ?_ _)); exact BK257.out) hb); have n1_ := Aside0.mk (blk_below (g := gb263) (o := .cells #[.bool x264000_1, .int .i64 x264001_1, .int .i64 x264002_1, .int .i64 x264003_1] 26 (0, 0)) (by (with_reducible repeat (first | refine blk_drewN ?_ _ | refine blk_drew ?_ | refine blk_alloc ?_ _)); exact BK263.out) hb); have n2_ := Aside0.mk (below_step (by repeat (first | (with_reducible first | exact HB.out | apply below_alloc | apply pw_below_drewN | apply below_drew1 | refine below_set ?_ GE257.out | refine below_set ?_ GE263.out) | exact HB.out)) hb); clear BK257; clear BK263; clear HB; have BK257 := n0_; have BK263 := n1_; have HB := n2_; clear n0_ n1_ n2_; (try clear hb); (try clear hb2); (try clear hk); (try clear hi); have hcz40_0 : w39.cell? ⟨gb257, 0, none⟩ = some (.int .i64 1000) := (blk_cell BK257.out 0).trans rfl; have hcz40_1 : w39.cell? ⟨gb257, 1, none⟩ = some (.int .i64 1) := (blk_cell BK257.out 1).trans rfl; have hcz40_2 : w39.cell? ⟨gb257, 2, none⟩ = some (.int .i64 1073741824) := (blk_cell BK257.out 2).trans rfl; have hcz40_3 : w39.cell? ⟨gb257, 3, none⟩ = some (.int .i64 1) := (blk_cell BK257.out 3).trans rfl; have hfz40_0 := blk_frozen BK257.out 0; have hfz40_1 := blk_frozen BK257.out 1; have hfz40_2 := blk_frozen BK257.out 2; have hfz40_3 := blk_frozen BK257.out 3; have hcz41_0 : w39.cell? ⟨gb263, 0, none⟩ = some (.bool x264000_1) := (blk_cell BK263.out 0).trans rfl; have hcz41_1 : w39.cell? ⟨gb263, 1, none⟩ = some (.int .i64 x264001_1) := (blk_cell BK263.out 1).trans rfl; have hcz41_2 : w39.cell? ⟨gb263, 2, none⟩ = some (.int .i64 x264002_1) := (blk_cell BK263.out 2).trans rfl; have hcz41_3 : w39.cell? ⟨gb263, 3, none⟩ = some (.int .i64 x264003_1) := (blk_cell BK263.out 3).trans rfl; have hfz41_0 := blk_frozen BK263.out 0; have hfz41_1 := blk_frozen BK263.out 1; have hfz41_2 := blk_frozen BK263.out 2; have hfz41_3 := blk_frozen BK263.out 3) | ((with_reducible refine gate_callee (f := 8) rfl ?_); refine goesL_ (some 67) rfl rfl Try.func8 (by kernel_rfl) rfl #[.agg #[.int .i64 1000, .int .i64 1, .int .i64 1073741824, .int .i64 1], .agg #[.bool x264000_1, .int .i64 x264001_1, .int .i64 x264002_1, .int .i64 x264003_1], .int .i64 (wrap64 (1 + (Int.tmod (wrap64 ((Int.tmod a0 1000) + 1000)) 1000)))] rfl (by (try simp only [List.map_toArray, List.map_cons, List.map_nil]); first | done | rfl | (simp only [List.length_drop, List.length_take]; rfl)) ?_; (with_reducible refine (rtt_Sample.calls k1 1000 1 1073741824 1 x264000_1 x264001_1 x264002_1 x264003_1 (wrap64 (1 + (Int.tmod (wrap64 ((Int.tmod a0 1000) + 1000)) 1000))) t275 t276 t277 t278 t279 _ A27.out).mono ?_); rintro e w42 ⟨rfl, hb⟩; refine ⟨_, rfl, ?_⟩; have n0_ := Aside0.mk (blk_below (g := gb257) (o := .cells #[.int .i64 1000, .int .i64 1, .int .i64 1073741824, .int .i64 1] 24 (0, 0)) (by (with_reducible repeat (first | refine blk_drewN ?_ _ | refine blk_drew ?_ | refine blk_alloc ?_ _)); exact BK257.out) hb); have n1_ := Aside0.mk (blk_below (g := gb263) (o := .cells #[.bool x264000_1, .int .i64 x264001_1, .int .i64 x264002_1, .int .i64 x264003_1] 26 (0, 0)) (by (with_reducible repeat (first | refine blk_drewN ?_ _ | refine blk_drew ?_ | refine blk_alloc ?_ _)); exact BK263.out) hb); have n2_ := Aside0.mk (below_step (by repeat (first | (with_reducible first | exact HB.out | apply below_alloc | apply pw_below_drewN | apply below_drew1 | refine below_set ?_ GE257.out | refine below_set ?_ GE263.out) | exact HB.out)) hb); clear BK257; clear BK263; clear HB; have BK257 := n0_; have BK263 := n1_; have HB := n2_; clear n0_ n1_ n2_; (try clear hb); (try clear hb2); (try clear hk); (try clear hi)) | ((with_reducible refine gate_dst (N := 13) rfl ?_); (try (refine gate_guard (by rfl) ?_; dsimp only)); refine box_event ?hg (N := 13) ?hd (cs := #[.bool false, .int .i64 0, .int .i64 0, .int .i64 0]) (t := 26) ?hr ?_; (case hd => rfl); (case hg => rfl); (case hr => first | (go_simp; done) | (go_simp; rfl)); intro gb280 hg w43 hbox hb; have n0_ := Aside0.mk (blk_below (g := gb257) (o := .cells #[.int .i64 1000, .int .i64 1, .int .i64 1073741824, .int .i64 1] 24 (0, 0)) (by (with_reducible repeat (first | refine blk_drewN ?_ _ | refine blk_drew ?_ | refine blk_alloc ?_ _)); exact BK257.out) hb); have n1_ := Aside0.mk (blk_below (g := gb263) (o := .cells #[.bool x264000_1, .int .i64 x264001_1, .int .i64 x264002_1, .int .i64 x264003_1] 26 (0, 0)) (by (with_reducible repeat (first | refine blk_drewN ?_ _ | refine blk_drew ?_ | refine blk_alloc ?_ _)); exact BK263.out) hb); have n2_ := Aside0.mk (below_step (by repeat (first | (with_reducible first | exact HB.out | apply below_alloc | apply pw_below_drewN | apply below_drew1 | refine below_set ?_ GE257.out | refine below_set ?_ GE263.out) | exact HB.out)) hb); have n3_ := Aside0.mk (hbox); have n4_ := Aside0.mk ((by rw [hg]; exact (below_size (by repeat (first | (with_reducible first | exact HB.out | apply below_alloc | apply pw_below_drewN | apply below_drew1 | refine below_set ?_ GE257.out | refine below_set ?_ GE263.out) | exact HB.out))) : w.heap.size ≤ gb280)); have n5_ := Aside0.mk ((by rw [hg]; exact (below_size (by repeat (first | (with_reducible first | exact HB.out | apply below_alloc | apply pw_below_drewN | apply below_drew1 | refine below_set ?_ GE257.out | refine below_set ?_ GE263.out) | exact HB.out))) : w.heap.size ≤ gb280)); have n6_ := Aside0.mk ((by rw [hg]; exact Nat.ne_of_lt (blk_lt (g := gb257) (o := .cells #[.int .i64 1000, .int .i64 1, .int .i64 1073741824, .int .i64 1] 24 (0, 0)) (by (with_reducible repeat (first | refine blk_drewN ?_ _ | refine blk_drew ?_ | refine blk_alloc ?_ _)); exact BK257.out)) : gb257 ≠ gb280)); have n7_ := Aside0.mk ((by rw [hg]; exact Nat.ne_of_gt (blk_lt (g := gb257) (o := .cells #[.int .i64 1000, .int .i64 1, .int .i64 1073741824, .int .i64 1] 24 (0, 0)) (by (with_reducible repeat (first | refine blk_drewN ?_ _ | refine blk_drew ?_ | refine blk_alloc ?_ _)); exact BK257.out)) : gb280 ≠ gb257)); have n8_ := Aside0.mk ((by rw [hg]; exact Nat.ne_of_lt (blk_lt (g := gb263) (o := .cells #[.bool x264000_1, .int .i64 x264001_1, .int .i64 x264002_1, .int .i64 x264003_1] 26 (0, 0)) (by (with_reducible repeat (first | refine blk_drewN ?_ _ | refine blk_drew ?_ | refine blk_alloc ?_ _)); exact BK263.out)) : gb263 ≠ gb280)); have n9_ := Aside0.mk ((by rw [hg]; exact Nat.ne_of_gt (blk_lt (g := gb263) (o := .cells #[.bool x264000_1, .int .i64 x264001_1, .int .i64 x264002_1, .int .i64 x264003_1] 26 (0, 0)) (by (with_reducible repeat (first | refine blk_drewN ?_ _ | refine blk_drew ?_ | refine blk_alloc ?_ _)); exact BK263.out)) : gb280 ≠ gb263)); clear BK257; clear BK263; clear HB; have BK257 := n0_; have BK263 := n1_; have HB := n2_; have BK280 := n3_; have GW280 := n4_; have GE280 := n5_; have NB257_280 := n6_; have NB280_257 := n7_; have NB263_280 := n8_; have NB280_263 := n9_; clear n0_ n1_ n2_ n3_ n4_ n5_ n6_ n7_ n8_ n9_; clear hb hbox hg; have hnb44 := NB280_257.out; have hnc44 := NB257_280.out; have hnb45 := NB280_263.out; have hnc45 := NB263_280.out; have hcz46_0 : w43.cell? ⟨gb280, 0, none⟩ = some (.bool false) := (blk_cell BK280.out 0).trans rfl; have hcz46_1 : w43.cell? ⟨gb280, 1, none⟩ = some (.int .i64 0) := (blk_cell BK280.out 1).trans rfl; have hcz46_2 : w43.cell? ⟨gb280, 2, none⟩ = some (.int .i64 0) := (blk_cell BK280.out 2).trans rfl; have hcz46_3 : w43.cell? ⟨gb280, 3, none⟩ = some (.int .i64 0) := (blk_cell BK280.out 3).trans rfl; have hfz46_0 := blk_frozen BK280.out 0; have hfz46_1 := blk_frozen BK280.out 1; have hfz46_2 := blk_frozen BK280.out 2; have hfz46_3 := blk_frozen BK280.out 3) | ((with_reducible refine gate_callee (f := 9) rfl ?_); refine goesL_ (some 71) rfl rfl Try.func9 (by kernel_rfl) rfl #[.int .i64 t274] rfl (by (try simp only [List.map_toArray, List.map_cons, List.map_nil]); first | done | rfl | (simp only [List.length_drop, List.length_take]; rfl)) ?_; (with_reducible refine (stopcocklaw18_num.calls t274 t281 _ A28.out).mono ?_); rintro e w' ⟨rfl, ⟨nd, rfl⟩⟩; refine ⟨_, rfl, ?_⟩) | ((with_reducible refine gate_callee (f := 9) rfl ?_); refine goesL_ (some 73) rfl rfl Try.func9 (by kernel_rfl) rfl #[.int .i64 t279] rfl (by (try simp only [List.map_toArray, List.map_cons, List.map_nil]); first | done | rfl | (simp only [List.length_drop, List.length_take]; rfl)) ?_; (with_reducible refine (stopcocklaw18_num.calls t279 t282 _ A29.out).mono ?_); rintro e w' ⟨rfl, ⟨nd, rfl⟩⟩; refine ⟨_, rfl, ?_⟩))
                  go_ret
                  exact ⟨by first | rfl | (simp [errW_none, errW_some] <;> rfl) | (simp only [← hji31, ← hji33, ← hji34]; first | rfl | (simp [errW_none, errW_some] <;> rfl)) | (simp [*, errW_none, errW_some] <;> rfl), by repeat (first | (with_reducible first | exact HB.out | apply below_alloc | apply pw_below_drewN | apply below_drew1 | refine below_set ?_ GE257.out | refine below_set ?_ GE263.out | refine below_set ?_ GE280.out) | exact HB.out)⟩
                · rw [if_neg c35] at H
                  have c35b0 : (t273 == (ji34)) = false := beq_eq_false_iff_ne.mpr c35
                  have c35b1 : (t273 != (ji34)) = true := bne_iff_ne.mpr c35
                  exact absurd ((Option.some.inj H).trans HRT.out) (by decide)
              · rw [if_neg c32] at H
                exact absurd H (by simp)
            · rw [if_neg c30] at H
              have c30b0 : ((wrap64 (t281 + t282)) == 0) = false := beq_eq_false_iff_ne.mpr c30
              have c30b1 : ((wrap64 (t281 + t282)) != 0) = true := bne_iff_ne.mpr c30
              exact absurd ((Option.some.inj H).trans HRT.out) (by decide)
    · rw [if_neg c9] at H
      have c9b0 : ((wrap64 (t266 + t267)) == 0) = false := beq_eq_false_iff_ne.mpr c9
      have c9b1 : ((wrap64 (t266 + t267)) != 0) = true := bne_iff_ne.mpr c9
      exact absurd ((Option.some.inj H).trans HRT.out) (by decide)
  · replace c4 := Bool.eq_false_iff.mpr c4
    subst c4
    have H1 : (some false) = some r := by rw [if_neg (show ¬ (false = true) by decide)] at H; exact H
    clear H
    have H := H1
    clear H1
    exact absurd ((Option.some.inj H).trans HRT.out) (by decide)

/-- THE ONE PURE STATEMENT of stopcocklaw18_RttBacks: yours. -/
def stopcocklaw18_RttBacks.Pure : Prop := ∀ (a0 : Int) (a1 : Int), (Lit.int .i64 a0).wf = true → (Lit.int .i64 a1).wf = true → ∃ k, stopcocklaw18_RttBacks.f k a0 a1 = some true
theorem stopcocklaw18_RttBacks.walk (P : stopcocklaw18_RttBacks.Pure) (a0 : Int) (a1 : Int) (w : World) (w0 : (Lit.int .i64 a0).wf = true) (w1 : (Lit.int .i64 a1).wf = true) :
    Calls Try.prog 6 #[.int .i64 a0, .int .i64 a1] w fun e w' => e = .returned (.bool true) ∧ Below w.heap.size w w' := by
  obtain ⟨k, h⟩ := P a0 a1 w0 w1
  refine (stopcocklaw18_RttBacks.calls k a0 a1 true w h rfl).mono ?_
  rintro e w' ⟨rfl, hd⟩
  exact ⟨rfl, hd⟩

end Go.Proofs.Ytbdakddmonopmaa.PA
