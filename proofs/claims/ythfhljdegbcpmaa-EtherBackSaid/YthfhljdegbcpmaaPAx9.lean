-- Written by a program of this session (wip/tools/mkprint.py, mp.sh) for this claim.
import Derived.Test.YthfhljdegbcpmaaPAx0
import Derived.Test.YthfhljdegbcpmaaPAx1
import Derived.Test.YthfhljdegbcpmaaPAx2
import Derived.Test.YthfhljdegbcpmaaPAx3
import Derived.Test.YthfhljdegbcpmaaPAx6
import Derived.Test.YthfhljdegbcpmaaPAx8
namespace Go.Proofs.Ythfhljdegbcpmaa.PA
open Go.RowKit Go.Proofs.YthfhljdegbcpmaaW.PrintWords Go.Proofs.YthfhljdegbcpmaaW.PrintLast Go.Proofs.YthfhljdegbcpmaaW.PrintMore
attribute [local go_sem] max2_int min2_int max_two min_two max_three min_three max_four min_four   -- for this text's walks alone
set_option linter.unusedVariables false
set_option linter.unusedSimpArgs false

attribute [local go_sem high] eqA39
/-! ### stopcocklaw03_EtherBack: function 5 -/
mutual
def stopcocklaw03_EtherBack.j0 : Nat → List Int → Int → Int → Int → Int → Int → Option (Bool)
  | 0, _, _, _, _, _, _ => none
  | k + 1, x2, x335000, x335001, x335002, x335003, x335004 => (ether_BuildArp.f x335000 x335001 x335002 x335003 x335004).bind fun bt351 => ((stopcocklaw03_num.f bt351.2).bind fun t355 => (if t355 = 0 then ((ether_ParseArp.f bt351.1).bind fun bt356 => ((stopcocklaw03_num.f bt356.2.2.2.2.2).bind fun t363 => (if t363 = 0 then (if (!(bt356.1 == x335000) || (!(bt356.2.1 == x335001) || (!(bt356.2.2.1 == x335002) || (!(bt356.2.2.2.1 == x335003) || (!(bt356.2.2.2.2.1 == x335004)))))) = true then (some false) else (stopcocklaw03_EtherBack.j1 k x2)) else (some false)))) else (stopcocklaw03_EtherBack.j1 k x2)))
def stopcocklaw03_EtherBack.j1 : Nat → List Int → Option (Bool)
  | 0, _ => none
  | k + 1, x2 => (ether_Parse.f x2).bind fun bt364 => ((stopcocklaw03_num.f bt364.2.2.2.2).bind fun t372 => (if t372 = 0 then ((ether_Build.f k bt364.1 bt364.2.1 bt364.2.2.1 bt364.2.2.2.1).bind fun bt373 => ((stopcocklaw03_num.f bt373.2).bind fun t377 => (if t377 = 0 then ((stopcockplain_SameBytes.f k bt373.1 x2).bind fun t378 => (if t378 = true then (stopcocklaw03_EtherBack.j2 k x2) else (some false))) else (some false)))) else (stopcocklaw03_EtherBack.j2 k x2)))
def stopcocklaw03_EtherBack.j2 : Nat → List Int → Option (Bool)
  | 0, _ => none
  | k + 1, x2 => (ether_ParseArp.f x2).bind fun bt379 => ((stopcocklaw03_num.f bt379.2.2.2.2.2).bind fun t386 => (if t386 = 0 then ((ether_BuildArp.f bt379.1 bt379.2.1 bt379.2.2.1 bt379.2.2.2.1 bt379.2.2.2.2.1).bind fun bt387 => ((stopcocklaw03_num.f bt387.2).bind fun t391 => (if t391 = 0 then (if 28 ≤ (x2.length : Int) then ((stopcockplain_SameBytes.f k bt387.1 (x2.take 28)).bind fun t393 => (some t393)) else (none)) else (some false)))) else (some (bt379.1 == 0 && (bt379.2.1 == 0 && (bt379.2.2.1 == 0 && (bt379.2.2.2.1 == 0 && (bt379.2.2.2.2.1 == 0))))))))
end
def stopcocklaw03_EtherBack.f (k : Nat) (a0_0 : Int) (a0_1 : Int) (a0_2 : Int) (l0_3 : List Int) (a1_0 : Int) (a1_1 : Int) (a1_2 : Int) (a1_3 : Int) (a1_4 : Int) (l2 : List Int) : Option (Bool) := (stopcocklaw03_alive.f k).bind fun t335 => (if t335 = true then ((ether_Build.f k a0_0 a0_1 a0_2 l0_3).bind fun bt336 => ((stopcocklaw03_num.f bt336.2).bind fun t340 => (if t340 = 0 then ((ether_Parse.f bt336.1).bind fun bt341 => ((stopcocklaw03_num.f bt341.2.2.2.2).bind fun t349 => (if t349 = 0 then ((stopcockplain_SameEther.f k bt341.1 bt341.2.1 bt341.2.2.1 bt341.2.2.2.1 a0_0 a0_1 a0_2 l0_3).bind fun t350 => (if t350 = true then (stopcocklaw03_EtherBack.j0 k l2 a1_0 a1_1 a1_2 a1_3 a1_4) else (some false))) else (some false)))) else (stopcocklaw03_EtherBack.j0 k l2 a1_0 a1_1 a1_2 a1_3 a1_4)))) else (some false))
theorem stopcocklaw03_EtherBack.mono_l : ∀ k, (∀ y0 y1 y2 y3 y4 y5, LeO (stopcocklaw03_EtherBack.j0 k y0 y1 y2 y3 y4 y5) (stopcocklaw03_EtherBack.j0 (k + 1) y0 y1 y2 y3 y4 y5)) ∧ (∀ y0, LeO (stopcocklaw03_EtherBack.j1 k y0) (stopcocklaw03_EtherBack.j1 (k + 1) y0)) ∧ (∀ y0, LeO (stopcocklaw03_EtherBack.j2 k y0) (stopcocklaw03_EtherBack.j2 (k + 1) y0))
  | 0 => ⟨fun _ _ _ _ _ _ r h => by simp [stopcocklaw03_EtherBack.j0] at h, fun _ r h => by simp [stopcocklaw03_EtherBack.j1] at h, fun _ r h => by simp [stopcocklaw03_EtherBack.j2] at h⟩
  | k + 1 => by
    obtain ⟨ih0, ih1, ih2⟩ := stopcocklaw03_EtherBack.mono_l k; refine ⟨?_, ?_, ?_⟩
    · intro y0 y1 y2 y3 y4 y5
      unfold stopcocklaw03_EtherBack.j0
      repeat' first
      | (with_reducible exact ih0 _ _ _ _ _ _)
      | (with_reducible exact ih1 _)
      | (with_reducible exact ih2 _)
      | (with_reducible exact ether_Build.mono _ _ _ _ _)
      | (with_reducible exact stopcocklaw03_alive.mono _)
      | (with_reducible exact stopcockplain_SameBytes.mono _ _ _)
      | (with_reducible exact stopcockplain_SameEther.mono _ _ _ _ _ _ _ _ _)
      | (with_reducible exact LeO.refl _)
      | (with_reducible exact LeO.none _)
      | (with_reducible refine LeO.ite ?_ ?_)
      | (with_reducible refine LeO.bind ?_ (fun _ => ?_))
      | exact ih0 _ _ _ _ _ _
      | exact ih1 _
      | exact ih2 _
      | exact ether_Build.mono _ _ _ _ _
      | exact stopcocklaw03_alive.mono _
      | exact stopcockplain_SameBytes.mono _ _ _
      | exact stopcockplain_SameEther.mono _ _ _ _ _ _ _ _ _
      | exact LeO.none _
      | refine LeO.ite ?_ ?_
      | refine LeO.bind ?_ (fun _ => ?_)
    · intro y0
      unfold stopcocklaw03_EtherBack.j1
      repeat' first
      | (with_reducible exact ih0 _ _ _ _ _ _)
      | (with_reducible exact ih1 _)
      | (with_reducible exact ih2 _)
      | (with_reducible exact ether_Build.mono _ _ _ _ _)
      | (with_reducible exact stopcocklaw03_alive.mono _)
      | (with_reducible exact stopcockplain_SameBytes.mono _ _ _)
      | (with_reducible exact stopcockplain_SameEther.mono _ _ _ _ _ _ _ _ _)
      | (with_reducible exact LeO.refl _)
      | (with_reducible exact LeO.none _)
      | (with_reducible refine LeO.ite ?_ ?_)
      | (with_reducible refine LeO.bind ?_ (fun _ => ?_))
      | exact ih0 _ _ _ _ _ _
      | exact ih1 _
      | exact ih2 _
      | exact ether_Build.mono _ _ _ _ _
      | exact stopcocklaw03_alive.mono _
      | exact stopcockplain_SameBytes.mono _ _ _
      | exact stopcockplain_SameEther.mono _ _ _ _ _ _ _ _ _
      | exact LeO.none _
      | refine LeO.ite ?_ ?_
      | refine LeO.bind ?_ (fun _ => ?_)
    · intro y0
      unfold stopcocklaw03_EtherBack.j2
      repeat' first
      | (with_reducible exact ih0 _ _ _ _ _ _)
      | (with_reducible exact ih1 _)
      | (with_reducible exact ih2 _)
      | (with_reducible exact ether_Build.mono _ _ _ _ _)
      | (with_reducible exact stopcocklaw03_alive.mono _)
      | (with_reducible exact stopcockplain_SameBytes.mono _ _ _)
      | (with_reducible exact stopcockplain_SameEther.mono _ _ _ _ _ _ _ _ _)
      | (with_reducible exact LeO.refl _)
      | (with_reducible exact LeO.none _)
      | (with_reducible refine LeO.ite ?_ ?_)
      | (with_reducible refine LeO.bind ?_ (fun _ => ?_))
      | exact ih0 _ _ _ _ _ _
      | exact ih1 _
      | exact ih2 _
      | exact ether_Build.mono _ _ _ _ _
      | exact stopcocklaw03_alive.mono _
      | exact stopcockplain_SameBytes.mono _ _ _
      | exact stopcockplain_SameEther.mono _ _ _ _ _ _ _ _ _
      | exact LeO.none _
      | refine LeO.ite ?_ ?_
      | refine LeO.bind ?_ (fun _ => ?_)
theorem stopcocklaw03_EtherBack.mono : ∀ a0 a1 a2 a3 a4 a5 a6 a7 a8 a9 k, LeO (stopcocklaw03_EtherBack.f k a0 a1 a2 a3 a4 a5 a6 a7 a8 a9) (stopcocklaw03_EtherBack.f (k + 1) a0 a1 a2 a3 a4 a5 a6 a7 a8 a9) := by
  intro a0 a1 a2 a3 a4 a5 a6 a7 a8 a9 k; obtain ⟨ih0, ih1, ih2⟩ := stopcocklaw03_EtherBack.mono_l k
  unfold stopcocklaw03_EtherBack.f
  repeat' first
      | (with_reducible exact ih0 _ _ _ _ _ _)
      | (with_reducible exact ih1 _)
      | (with_reducible exact ih2 _)
      | (with_reducible exact ether_Build.mono _ _ _ _ _)
      | (with_reducible exact stopcocklaw03_alive.mono _)
      | (with_reducible exact stopcockplain_SameBytes.mono _ _ _)
      | (with_reducible exact stopcockplain_SameEther.mono _ _ _ _ _ _ _ _ _)
      | (with_reducible exact LeO.refl _)
      | (with_reducible exact LeO.none _)
      | (with_reducible refine LeO.ite ?_ ?_)
      | (with_reducible refine LeO.bind ?_ (fun _ => ?_))
      | exact ih0 _ _ _ _ _ _
      | exact ih1 _
      | exact ih2 _
      | exact ether_Build.mono _ _ _ _ _
      | exact stopcocklaw03_alive.mono _
      | exact stopcockplain_SameBytes.mono _ _ _
      | exact stopcockplain_SameEther.mono _ _ _ _ _ _ _ _ _
      | exact LeO.none _
      | refine LeO.ite ?_ ?_
      | refine LeO.bind ?_ (fun _ => ?_)
set_option maxHeartbeats 8000000 in
set_option maxRecDepth 100000 in
theorem stopcocklaw03_EtherBack.calls (k : Nat) (a0_0 : Int) (a0_1 : Int) (a0_2 : Int) (A0_3 : Option Addr) (c0_3 : Nat) (l0_3 : List Int) (a1_0 : Int) (a1_1 : Int) (a1_2 : Int) (a1_3 : Int) (a1_4 : Int) (A2 : Option Addr) (c2 : Nat) (l2 : List Int) (r : Bool) (w : World) (hr0_3 : Kd.C (Kd.int .u8) w A0_3 l0_3.length l0_3) (hc0_3 : l0_3.length ≤ c0_3) (hr2 : Kd.C (Kd.int .u8) w A2 l2.length l2) (hc2 : l2.length ≤ c2) (h : stopcocklaw03_EtherBack.f k a0_0 a0_1 a0_2 l0_3 a1_0 a1_1 a1_2 a1_3 a1_4 l2 = some r) (hrt : r = true) :
    Calls Try.prog 5 #[.agg #[.int .u64 a0_0, .int .u64 a0_1, .int .i64 a0_2, .slice A0_3 l0_3.length c0_3], .agg #[.int .i64 a1_0, .int .u64 a1_1, .int .u32 a1_2, .int .u64 a1_3, .int .u32 a1_4], .slice A2 l2.length c2] w fun e w' => e = .returned (.bool r) ∧ Below w.heap.size w w' := by
  have hu25 := Try.underlying25; have hu39 := Try.underlying39; have HRT := Aside0.mk hrt; clear hrt; have HR0_3 := Aside0.mk hr0_3; have HC0_3 := Aside0.mk hc0_3; clear hr0_3 hc0_3; have HR2 := Aside0.mk hr2; have HC2 := Aside0.mk hc2; clear hr2 hc2; have HB := Aside0.mk (Below.refl w.heap.size w); have H : ((stopcocklaw03_alive.f k).bind fun t335 => (if t335 = true then ((ether_Build.f k a0_0 a0_1 a0_2 l0_3).bind fun bt336 => ((stopcocklaw03_num.f bt336.2).bind fun t340 => (if t340 = 0 then ((ether_Parse.f bt336.1).bind fun bt341 => ((stopcocklaw03_num.f bt341.2.2.2.2).bind fun t349 => (if t349 = 0 then ((stopcockplain_SameEther.f k bt341.1 bt341.2.1 bt341.2.2.1 bt341.2.2.2.1 a0_0 a0_1 a0_2 l0_3).bind fun t350 => (if t350 = true then (stopcocklaw03_EtherBack.j0 k l2 a1_0 a1_1 a1_2 a1_3 a1_4) else (some false))) else (some false)))) else (stopcocklaw03_EtherBack.j0 k l2 a1_0 a1_1 a1_2 a1_3 a1_4)))) else (some false))) = some r := h; clear h; replace H := Option.bind_eq_some_iff.mp H; obtain ⟨t335, A40, H⟩ := H; replace H : (if t335 = true then ((ether_Build.f k a0_0 a0_1 a0_2 l0_3).bind fun bt336 => ((stopcocklaw03_num.f bt336.2).bind fun t340 => (if t340 = 0 then ((ether_Parse.f bt336.1).bind fun bt341 => ((stopcocklaw03_num.f bt341.2.2.2.2).bind fun t349 => (if t349 = 0 then ((stopcockplain_SameEther.f k bt341.1 bt341.2.1 bt341.2.2.1 bt341.2.2.2.1 a0_0 a0_1 a0_2 l0_3).bind fun t350 => (if t350 = true then (stopcocklaw03_EtherBack.j0 k l2 a1_0 a1_1 a1_2 a1_3 a1_4) else (some false))) else (some false)))) else (stopcocklaw03_EtherBack.j0 k l2 a1_0 a1_1 a1_2 a1_3 a1_4)))) else (some false)) = some r := H
  have A4 := Aside0.mk A40; clear A40
  by_cases c5 : t335 = true
  · subst c5
    have H1 : ((ether_Build.f k a0_0 a0_1 a0_2 l0_3).bind fun bt336 => ((stopcocklaw03_num.f bt336.2).bind fun t340 => (if t340 = 0 then ((ether_Parse.f bt336.1).bind fun bt341 => ((stopcocklaw03_num.f bt341.2.2.2.2).bind fun t349 => (if t349 = 0 then ((stopcockplain_SameEther.f k bt341.1 bt341.2.1 bt341.2.2.1 bt341.2.2.2.1 a0_0 a0_1 a0_2 l0_3).bind fun t350 => (if t350 = true then (stopcocklaw03_EtherBack.j0 k l2 a1_0 a1_1 a1_2 a1_3 a1_4) else (some false))) else (some false)))) else (stopcocklaw03_EtherBack.j0 k l2 a1_0 a1_1 a1_2 a1_3 a1_4)))) = some r := by rw [if_pos rfl] at H; exact H
    clear H; have H := H1; clear H1; replace H := Option.bind_eq_some_iff.mp H; obtain ⟨⟨t336, t339⟩, A60, H⟩ := H; replace H : ((stopcocklaw03_num.f t339).bind fun t340 => (if t340 = 0 then ((ether_Parse.f t336).bind fun bt341 => ((stopcocklaw03_num.f bt341.2.2.2.2).bind fun t349 => (if t349 = 0 then ((stopcockplain_SameEther.f k bt341.1 bt341.2.1 bt341.2.2.1 bt341.2.2.2.1 a0_0 a0_1 a0_2 l0_3).bind fun t350 => (if t350 = true then (stopcocklaw03_EtherBack.j0 k l2 a1_0 a1_1 a1_2 a1_3 a1_4) else (some false))) else (some false)))) else (stopcocklaw03_EtherBack.j0 k l2 a1_0 a1_1 a1_2 a1_3 a1_4))) = some r := H; have A6 := Aside0.mk A60; clear A60; replace H := Option.bind_eq_some_iff.mp H; obtain ⟨t340, A70, H⟩ := H; replace H : (if t340 = 0 then ((ether_Parse.f t336).bind fun bt341 => ((stopcocklaw03_num.f bt341.2.2.2.2).bind fun t349 => (if t349 = 0 then ((stopcockplain_SameEther.f k bt341.1 bt341.2.1 bt341.2.2.1 bt341.2.2.2.1 a0_0 a0_1 a0_2 l0_3).bind fun t350 => (if t350 = true then (stopcocklaw03_EtherBack.j0 k l2 a1_0 a1_1 a1_2 a1_3 a1_4) else (some false))) else (some false)))) else (stopcocklaw03_EtherBack.j0 k l2 a1_0 a1_1 a1_2 a1_3 a1_4)) = some r := H; have A7 := Aside0.mk A70; clear A70; have HC8 := Aside0.mk H; clear H
    go_enter Try.func5, Try.ntmps5
    go_upto_if 27 with (first | ((with_reducible refine gate_dst (N := 3) rfl ?_); refine box_event ?hg (N := 3) ?hd (cs := #[.int .u64 a0_0, .int .u64 a0_1, .int .i64 a0_2, .slice A0_3 l0_3.length c0_3]) (t := 25) ?hr ?_; (case hd => rfl); (case hg => rfl); (case hr => first | (go_simp; done) | (go_simp; rfl)); intro gb333 hg w9 hbox hb; have n0_ := Aside0.mk (below_step (bel0 HB.out) hb); have n1_ := Aside0.mk (hbox); have n2_ := Aside0.mk ((by rw [hg]; exact (below_size (bel0 HB.out)) : w.heap.size ≤ gb333)); have n3_ := n2_; clear HB; have HB := n0_; have BK333 := n1_; have GW333 := n2_; have GE333 := n3_; clear n0_ n1_ n2_ n3_; clear hb hbox hg) | ((with_reducible refine gate_dst (N := 4) rfl ?_); refine box_event ?hg (N := 4) ?hd (cs := #[.int .i64 a1_0, .int .u64 a1_1, .int .u32 a1_2, .int .u64 a1_3, .int .u32 a1_4]) (t := 39) ?hr ?_; (case hd => rfl); (case hg => rfl); (case hr => first | (go_simp; done) | (go_simp; rfl)); intro gb334 hg w10 hbox hb; have n0_ := Aside0.mk (blk_below (g := gb333) (o := .cells #[.int .u64 a0_0, .int .u64 a0_1, .int .i64 a0_2, .slice A0_3 l0_3.length c0_3] 25 (0, 0)) (skp_ BK333.out) hb); have n1_ := Aside0.mk (below_step (bel1 HB.out GE333.out) hb); have n2_ := Aside0.mk (hbox); have n3_ := Aside0.mk ((by rw [hg]; exact (below_size (bel1 HB.out GE333.out)) : w.heap.size ≤ gb334)); have n4_ := n3_; have n5_ := Aside0.mk ((by rw [hg]; exact Nat.ne_of_lt (blk_lt (skp_ BK333.out)) : gb333 ≠ gb334)); have n6_ := Aside0.mk ((by rw [hg]; exact Nat.ne_of_gt (blk_lt (skp_ BK333.out)) : gb334 ≠ gb333)); clear BK333; clear HB; have BK333 := n0_; have HB := n1_; have BK334 := n2_; have GW334 := n3_; have GE334 := n4_; have NB333_334 := n5_; have NB334_333 := n6_; clear n0_ n1_ n2_ n3_ n4_ n5_ n6_; clear hb hbox hg) | ((with_reducible refine gate_callee (f := 6) rfl ?_); refine goesL_ (some 18) rfl rfl Try.func6 (by kernel_rfl) rfl #[] rfl (by (try simp only [List.map_toArray, List.map_cons, List.map_nil]); first | done | rfl | (simp only [List.length_drop, List.length_take]; rfl)) ?_; (with_reducible refine (stopcocklaw03_alive.calls k  true _ A4.out).mono ?_); rintro e w11 ⟨rfl, hb⟩; refine ⟨_, rfl, ?_⟩; have n0_ := Aside0.mk (blk_below (g := gb333) (o := .cells #[.int .u64 a0_0, .int .u64 a0_1, .int .i64 a0_2, .slice A0_3 l0_3.length c0_3] 25 (0, 0)) (skp_ BK333.out) hb); have n1_ := Aside0.mk (blk_below (g := gb334) (o := .cells #[.int .i64 a1_0, .int .u64 a1_1, .int .u32 a1_2, .int .u64 a1_3, .int .u32 a1_4] 39 (0, 0)) (skp_ BK334.out) hb); have n2_ := Aside0.mk (below_step (bel2 HB.out GE333.out GE334.out) hb); clear BK333; clear BK334; clear HB; have BK333 := n0_; have BK334 := n1_; have HB := n2_; clear n0_ n1_ n2_; (try clear hb); (try clear hb2); (try clear hk); (try clear hi); have hnb12 := NB333_334.out; have hnc12 := NB334_333.out; obtain ⟨hcz13_0, hcz13_1, hcz13_2, hcz13_3⟩ := cz4 BK333.out; have hfz13_0 := blk_frozen BK333.out) | ((with_reducible refine gate_callee (f := 8) rfl ?_); refine goesL_ (some 22) rfl rfl Try.func8 (by kernel_rfl) rfl #[.agg #[.int .u64 a0_0, .int .u64 a0_1, .int .i64 a0_2, .slice A0_3 l0_3.length c0_3]] rfl (by (try simp only [List.map_toArray, List.map_cons, List.map_nil]); first | done | rfl | (simp only [List.length_drop, List.length_take]; rfl)) ?_; (with_reducible refine (ether_Build.calls k a0_0 a0_1 a0_2 _ _ l0_3 t336 t339 _ ?side1 ?side2 A6.out).mono ?_); (case side1 => repeat (first | exact (Kd.C_below HR0_3.out HB.out) | (with_reducible refine Kd.C_alloc ?_ _) | (with_reducible refine Kd.C_drewN ?_ _) | (with_reducible refine Kd.C_drew ?_))); (case side2 => exact HC0_3.out); rintro e w14 ⟨v337, rfl, ho0, hb⟩; refine ⟨_, rfl, ?_⟩; have n0_ := Aside0.mk (Kd.R_lower ho0 (below_size (bel2 HB.out GE333.out GE334.out))); have n1_ := Aside0.mk (blk_below (g := gb333) (o := .cells #[.int .u64 a0_0, .int .u64 a0_1, .int .i64 a0_2, .slice A0_3 l0_3.length c0_3] 25 (0, 0)) (skp_ BK333.out) hb); have n2_ := Aside0.mk (blk_below (g := gb334) (o := .cells #[.int .i64 a1_0, .int .u64 a1_1, .int .u32 a1_2, .int .u64 a1_3, .int .u32 a1_4] 39 (0, 0)) (skp_ BK334.out) hb); have n3_ := Aside0.mk (below_step (bel2 HB.out GE333.out GE334.out) hb); clear BK333; clear BK334; clear HB; have HO338 := n0_; have BK333 := n1_; have BK334 := n2_; have HB := n3_; clear n0_ n1_ n2_ n3_; (try clear hb); (try clear hb2); (try clear hk); (try clear hi); (try clear ho0)) | ((with_reducible refine gate_callee (f := 12) rfl ?_); refine goesL_ (some 26) rfl rfl Try.func12 (by kernel_rfl) rfl #[.int .i64 t339] rfl (by (try simp only [List.map_toArray, List.map_cons, List.map_nil]); first | done | rfl | (simp only [List.length_drop, List.length_take]; rfl)) ?_; (with_reducible refine (stopcocklaw03_num.same t339 t340 _ A7.out).mono ?_); rintro e w' ⟨rfl, rfl⟩; refine ⟨_, rfl, ?_⟩))
    (try simp only [Act.put, List.setIfInBounds_toArray, List.set_cons_zero, List.set_cons_succ])
    go_cut [] (fun wc => ∃ (kq : Nat), Aside0 (stopcocklaw03_EtherBack.j0 kq l2 a1_0 a1_1 a1_2 a1_3 a1_4 = some r) ∧ Aside0 (kq ≤ k) ∧ Aside0 (wc.heap[gb333]? = some (.cells #[.int .u64 a0_0, .int .u64 a0_1, .int .i64 a0_2, (.slice A0_3 l0_3.length c0_3)] 25 (0, 0))) ∧ Aside0 (wc.heap[gb334]? = some (.cells #[.int .i64 a1_0, .int .u64 a1_1, .int .u32 a1_2, .int .u64 a1_3, .int .u32 a1_4] 39 (0, 0))) ∧ Aside0 (Below w.heap.size w wc))
    case first =>
      have H := HC8.out; clear HC8
      by_cases c15 : t340 = 0
      · rw [if_pos c15] at H
        have c15b0 : (t340 == 0) = true := beq_iff_eq.mpr c15; have c15b1 : (t340 != 0) = false := bne_eq_false_iff_eq.mpr c15; clear c15
        (first | rw [c15b0] | (simp only [i64_w, i32_w]; rw [c15b0]) | skip)
        replace H := Option.bind_eq_some_iff.mp H; obtain ⟨⟨t341, t342, t343, t344, t347⟩, A160, H⟩ := H; replace H : ((stopcocklaw03_num.f t347).bind fun t349 => (if t349 = 0 then ((stopcockplain_SameEther.f k t341 t342 t343 t344 a0_0 a0_1 a0_2 l0_3).bind fun t350 => (if t350 = true then (stopcocklaw03_EtherBack.j0 k l2 a1_0 a1_1 a1_2 a1_3 a1_4) else (some false))) else (some false))) = some r := H; have A16 := Aside0.mk A160; clear A160; replace H := Option.bind_eq_some_iff.mp H; obtain ⟨t349, A170, H⟩ := H; replace H : (if t349 = 0 then ((stopcockplain_SameEther.f k t341 t342 t343 t344 a0_0 a0_1 a0_2 l0_3).bind fun t350 => (if t350 = true then (stopcocklaw03_EtherBack.j0 k l2 a1_0 a1_1 a1_2 a1_3 a1_4) else (some false))) else (some false)) = some r := H; have A17 := Aside0.mk A170; clear A170
        by_cases c18 : t349 = 0
        · rw [if_pos c18] at H
          have c18b0 : (t349 == 0) = true := beq_iff_eq.mpr c18; have c18b1 : (t349 != 0) = false := bne_eq_false_iff_eq.mpr c18; clear c18; replace H := Option.bind_eq_some_iff.mp H; obtain ⟨t350, A190, H⟩ := H; replace H : (if t350 = true then (stopcocklaw03_EtherBack.j0 k l2 a1_0 a1_1 a1_2 a1_3 a1_4) else (some false)) = some r := H; have A19 := Aside0.mk A190; clear A190
          by_cases c20 : t350 = true
          · subst c20
            have H1 : (stopcocklaw03_EtherBack.j0 k l2 a1_0 a1_1 a1_2 a1_3 a1_4) = some r := by rw [if_pos rfl] at H; exact H
            clear H; have H := H1; clear H1; have H' := Aside0.mk H; clear H; obtain ⟨Ao21, co21, eo21⟩ := Kd.R_slice HO338.out
            subst eo21
            go_wp2_with (first | ((with_reducible refine gate_callee (f := 11) rfl ?_); refine goesL_ (some 30) rfl rfl Try.func11 (by kernel_rfl) rfl #[.slice Ao21 t336.length co21] rfl (by (try simp only [List.map_toArray, List.map_cons, List.map_nil]); first | done | rfl | (simp only [List.length_drop, List.length_take]; rfl)) ?_; (with_reducible refine (ether_Parse.calls _ _ t336 t341 t342 t343 t344 t347 _ ?side1 ?side2 A16.out).mono ?_); (case side1 => repeat (first | exact (Kd.R_reads' HO338.out).2.2 | (with_reducible refine Kd.C_alloc ?_ _) | (with_reducible refine Kd.C_drewN ?_ _) | (with_reducible refine Kd.C_drew ?_))); (case side2 => exact (Kd.R_reads' HO338.out).2.1); rintro e w22 ⟨v345, rfl, ho0, hb⟩; refine ⟨_, rfl, ?_⟩; have n0_ := Aside0.mk (Kd.R_elder' (by (with_reducible repeat (first | apply Kd.R_alloc | apply Kd.R_drewN | apply Kd.R_drew)); exact HO338.out) (Kd.R_base ho0) hb); have n1_ := Aside0.mk (Kd.R_lower (Kd.R_new' ho0 (Kd.R_lt (by (with_reducible repeat (first | apply Kd.R_alloc | apply Kd.R_drewN | apply Kd.R_drew)); exact HO338.out))) (below_size (bel2 HB.out GE333.out GE334.out))); have n2_ := Aside0.mk (blk_below (g := gb333) (o := .cells #[.int .u64 a0_0, .int .u64 a0_1, .int .i64 a0_2, .slice A0_3 l0_3.length c0_3] 25 (0, 0)) (skp_ BK333.out) hb); have n3_ := Aside0.mk (blk_below (g := gb334) (o := .cells #[.int .i64 a1_0, .int .u64 a1_1, .int .u32 a1_2, .int .u64 a1_3, .int .u32 a1_4] 39 (0, 0)) (skp_ BK334.out) hb); have n4_ := Aside0.mk (below_step (bel2 HB.out GE333.out GE334.out) hb); clear HO338; clear BK333; clear BK334; clear HB; have HO338 := n0_; have HO346 := n1_; have BK333 := n2_; have BK334 := n3_; have HB := n4_; clear n0_ n1_ n2_ n3_ n4_; (try clear hb); (try clear hb2); (try clear hk); (try clear hi); (try clear ho0)) | ((with_reducible refine gate_dst (N := 9) rfl ?_); refine box_event ?hg (N := 9) ?hd (cs := #[.int .u64 0, .int .u64 0, .int .i64 0, .slice none 0 0]) (t := 25) ?hr ?_; (case hd => rfl); (case hg => rfl); (case hr => first | (go_simp; done) | (go_simp; rfl)); intro gb348 hg w23 hbox hb; have n0_ := Aside0.mk (Kd.R_below (by (with_reducible repeat (first | apply Kd.R_alloc | apply Kd.R_drewN | apply Kd.R_drew)); exact HO338.out) hb); have n1_ := Aside0.mk (Kd.R_below (by (with_reducible repeat (first | apply Kd.R_alloc | apply Kd.R_drewN | apply Kd.R_drew)); exact HO346.out) hb); have n2_ := Aside0.mk (blk_below (g := gb333) (o := .cells #[.int .u64 a0_0, .int .u64 a0_1, .int .i64 a0_2, .slice A0_3 l0_3.length c0_3] 25 (0, 0)) (skp_ BK333.out) hb); have n3_ := Aside0.mk (blk_below (g := gb334) (o := .cells #[.int .i64 a1_0, .int .u64 a1_1, .int .u32 a1_2, .int .u64 a1_3, .int .u32 a1_4] 39 (0, 0)) (skp_ BK334.out) hb); have n4_ := Aside0.mk (below_step (bel2 HB.out GE333.out GE334.out) hb); have n5_ := Aside0.mk (hbox); have n6_ := Aside0.mk ((by rw [hg]; exact (below_size (bel2 HB.out GE333.out GE334.out)) : w.heap.size ≤ gb348)); have n7_ := n6_; have n8_ := Aside0.mk ((by rw [hg]; exact Nat.ne_of_lt (blk_lt (skp_ BK333.out)) : gb333 ≠ gb348)); have n9_ := Aside0.mk ((by rw [hg]; exact Nat.ne_of_gt (blk_lt (skp_ BK333.out)) : gb348 ≠ gb333)); have n10_ := Aside0.mk ((by rw [hg]; exact Nat.ne_of_lt (blk_lt (skp_ BK334.out)) : gb334 ≠ gb348)); have n11_ := Aside0.mk ((by rw [hg]; exact Nat.ne_of_gt (blk_lt (skp_ BK334.out)) : gb348 ≠ gb334)); clear HO338; clear HO346; clear BK333; clear BK334; clear HB; have HO338 := n0_; have HO346 := n1_; have BK333 := n2_; have BK334 := n3_; have HB := n4_; have BK348 := n5_; have GW348 := n6_; have GE348 := n7_; have NB333_348 := n8_; have NB348_333 := n9_; have NB334_348 := n10_; have NB348_334 := n11_; clear n0_ n1_ n2_ n3_ n4_ n5_ n6_ n7_ n8_ n9_ n10_ n11_; clear hb hbox hg; have hnb24 := NB348_333.out; have hnc24 := NB333_348.out; have hnb25 := NB348_334.out; have hnc25 := NB334_348.out; obtain ⟨hcz26_0, hcz26_1, hcz26_2, hcz26_3⟩ := cz4 BK348.out; have hfz26_0 := blk_frozen BK348.out; obtain ⟨Ao27, co27, eo27⟩ := Kd.R_slice HO346.out; subst eo27) | ((with_reducible refine gate_callee (f := 12) rfl ?_); refine goesL_ (some 34) rfl rfl Try.func12 (by kernel_rfl) rfl #[.int .i64 t347] rfl (by (try simp only [List.map_toArray, List.map_cons, List.map_nil]); first | done | rfl | (simp only [List.length_drop, List.length_take]; rfl)) ?_; (with_reducible refine (stopcocklaw03_num.same t347 t349 _ A17.out).mono ?_); rintro e w' ⟨rfl, rfl⟩; refine ⟨_, rfl, ?_⟩; have hnb28 := NB333_334.out; have hnc28 := NB334_333.out; obtain ⟨hcz29_0, hcz29_1, hcz29_2, hcz29_3⟩ := cz4 BK333.out; have hfz29_0 := blk_frozen BK333.out) | (go_at_call 19; (with_reducible refine (stopcockplain_SameEther.calls k t341 t342 t343 _ _ t344 a0_0 a0_1 a0_2 _ _ l0_3 true _ ?side1 ?side2 ?side3 ?side4 A19.out).mono ?_); (case side1 => refine (Kd.R_reads' (e := 5) (base := w.heap.size) (ok := fun k_ => (True ∧ some k_ ≠ (.slice Ao21 t336.length co21 : Value).ownBlock)) (n := t344.length) (c := co27) ?_).2.2; exact (by (with_reducible repeat (first | apply Kd.R_alloc | apply Kd.R_drewN | apply Kd.R_drew)); exact (Kd.R_mono (Kd.R_far (p := ⟨gb348, 3, none⟩) (Kd.R_far (p := ⟨gb348, 2, none⟩) (Kd.R_far (p := ⟨gb348, 1, none⟩) (Kd.R_far (p := ⟨gb348, 0, none⟩) (Kd.R_types HO346.out BK348.out (by decide)) (fun _ hk => hk.2) (.int .u64 t341)) (fun _ hk => hk.2) (.int .u64 t342)) (fun _ hk => hk.2) (.int .i64 t343)) (fun _ hk => hk.2) (.slice Ao27 t344.length co27)) (fun _ h_ => h_.1)))); (case side2 => exact (Kd.R_reads' HO346.out).2.1); (case side3 => exact Kd.C_below HR0_3.out (bel3 HB.out GE333.out GE334.out GE348.out)); (case side4 => exact HC0_3.out); rintro e w30 ⟨rfl, hb⟩; have n0_ := Aside0.mk (Kd.R_below (by (with_reducible repeat (first | apply Kd.R_alloc | apply Kd.R_drewN | apply Kd.R_drew)); exact (Kd.R_mono (Kd.R_far (p := ⟨gb348, 3, none⟩) (Kd.R_far (p := ⟨gb348, 2, none⟩) (Kd.R_far (p := ⟨gb348, 1, none⟩) (Kd.R_far (p := ⟨gb348, 0, none⟩) (Kd.R_types HO338.out BK348.out (by decide)) (fun _ hk => hk.2) (.int .u64 t341)) (fun _ hk => hk.2) (.int .u64 t342)) (fun _ hk => hk.2) (.int .i64 t343)) (fun _ hk => hk.2) (.slice Ao27 t344.length co27)) (fun _ h_ => h_.1))) hb); have n1_ := Aside0.mk (Kd.R_below (by (with_reducible repeat (first | apply Kd.R_alloc | apply Kd.R_drewN | apply Kd.R_drew)); exact (Kd.R_mono (Kd.R_far (p := ⟨gb348, 3, none⟩) (Kd.R_far (p := ⟨gb348, 2, none⟩) (Kd.R_far (p := ⟨gb348, 1, none⟩) (Kd.R_far (p := ⟨gb348, 0, none⟩) (Kd.R_types HO346.out BK348.out (by decide)) (fun _ hk => hk.2) (.int .u64 t341)) (fun _ hk => hk.2) (.int .u64 t342)) (fun _ hk => hk.2) (.int .i64 t343)) (fun _ hk => hk.2) (.slice Ao27 t344.length co27)) (fun _ h_ => h_.1))) hb); have n2_ := Aside0.mk (blk_below (g := gb333) (o := .cells #[.int .u64 a0_0, .int .u64 a0_1, .int .i64 a0_2, .slice A0_3 l0_3.length c0_3] 25 (0, 0)) (by exact far_ NB333_348.out BK333.out) hb); have n3_ := Aside0.mk (blk_below (g := gb334) (o := .cells #[.int .i64 a1_0, .int .u64 a1_1, .int .u32 a1_2, .int .u64 a1_3, .int .u32 a1_4] 39 (0, 0)) (by exact far_ NB334_348.out BK334.out) hb); have n4_ := Aside0.mk (blk_below (g := gb348) (o := .cells #[.int .u64 t341, .int .u64 t342, .int .i64 t343, .slice Ao27 t344.length co27] 25 (0, 0)) (by exact put_ BK348.out rfl) hb); have n5_ := Aside0.mk (below_step (bel3 HB.out GE333.out GE334.out GE348.out) hb); clear HO338; clear HO346; clear BK333; clear BK334; clear BK348; clear HB; have HO338 := n0_; have HO346 := n1_; have BK333 := n2_; have BK334 := n3_; have BK348 := n4_; have HB := n5_; clear n0_ n1_ n2_ n3_ n4_ n5_; (try clear hb); (try clear hb2); (try clear hk); (try clear hi)))
            go_meet
            case rel => exact ⟨_, H', ⟨by first | omega | exact Nat.le_refl _⟩, ⟨by exact skp_ BK333.out⟩, ⟨by exact skp_ BK334.out⟩, ⟨by exact bel3 HB.out GE333.out GE334.out GE348.out⟩⟩
          replace c20 := Bool.eq_false_iff.mpr c20
          subst c20
          have H1 : (some false) = some r := by rw [if_neg (show ¬ (false = true) by decide)] at H; exact H
          clear H; have H := H1; clear H1; exact absurd ((Option.some.inj H).trans HRT.out) (by decide)
        rw [if_neg c18] at H; have c18b0 : (t349 == 0) = false := beq_eq_false_iff_ne.mpr c18; have c18b1 : (t349 != 0) = true := bne_iff_ne.mpr c18; exact absurd ((Option.some.inj H).trans HRT.out) (by decide)
      rw [if_neg c15] at H; have c15b0 : (t340 == 0) = false := beq_eq_false_iff_ne.mpr c15; have c15b1 : (t340 != 0) = true := bne_iff_ne.mpr c15
      (first | rw [c15b0] | (simp only [i64_w, i32_w]; rw [c15b0]) | skip)
      have H' := Aside0.mk H; clear H
      go_wp2
      go_meet
      case rel => exact ⟨_, H', ⟨by first | omega | exact Nat.le_refl _⟩, ⟨by exact skp_ BK333.out⟩, ⟨by exact skp_ BK334.out⟩, ⟨by exact bel2 HB.out GE333.out GE334.out⟩⟩
    case rest =>
      clear HC8
      try clear c1
      try clear c2
      try clear p2
      try clear c5
      try clear c6
      try clear c8
      try clear c11
      try clear c12
      try clear c15
      try clear c15b0
      try clear c15b1
      try clear c18
      try clear c18b0
      try clear c18b1
      try clear c20
      try clear c24
      try clear c25
      try clear c28
      try clear hcz13_0
      try clear hcz13_1
      try clear hcz13_2
      try clear hcz13_3
      try clear hcz26_0
      try clear hcz26_1
      try clear hcz26_2
      try clear hcz26_3
      try clear hcz29_0
      try clear hcz29_1
      try clear hcz29_2
      try clear hcz29_3
      try clear hfz13_0
      try clear hfz13_1
      try clear hfz13_2
      try clear hfz13_3
      try clear hfz26_0
      try clear hfz26_1
      try clear hfz26_2
      try clear hfz26_3
      try clear hfz29_0
      try clear hfz29_1
      try clear hfz29_2
      try clear hfz29_3
      obtain ⟨kq, HA, HJ7, BK333, BK334, HB⟩ := hcut
      cases kq with
      | zero => exact absurd HA.out (by simp [stopcocklaw03_EtherBack.j0])
      | succ kj7 =>
        have H := HA.out; clear HA
        simp only [stopcocklaw03_EtherBack.j0] at H
        replace H := Option.bind_eq_some_iff.mp H; obtain ⟨⟨t351, t354⟩, A310, H⟩ := H; replace H : ((stopcocklaw03_num.f t354).bind fun t355 => (if t355 = 0 then ((ether_ParseArp.f t351).bind fun bt356 => ((stopcocklaw03_num.f bt356.2.2.2.2.2).bind fun t363 => (if t363 = 0 then (if (!(bt356.1 == a1_0) || (!(bt356.2.1 == a1_1) || (!(bt356.2.2.1 == a1_2) || (!(bt356.2.2.2.1 == a1_3) || (!(bt356.2.2.2.2.1 == a1_4)))))) = true then (some false) else (stopcocklaw03_EtherBack.j1 kj7 l2)) else (some false)))) else (stopcocklaw03_EtherBack.j1 kj7 l2))) = some r := H; have A31 := Aside0.mk A310; clear A310; replace H := Option.bind_eq_some_iff.mp H; obtain ⟨t355, A320, H⟩ := H; replace H : (if t355 = 0 then ((ether_ParseArp.f t351).bind fun bt356 => ((stopcocklaw03_num.f bt356.2.2.2.2.2).bind fun t363 => (if t363 = 0 then (if (!(bt356.1 == a1_0) || (!(bt356.2.1 == a1_1) || (!(bt356.2.2.1 == a1_2) || (!(bt356.2.2.2.1 == a1_3) || (!(bt356.2.2.2.2.1 == a1_4)))))) = true then (some false) else (stopcocklaw03_EtherBack.j1 kj7 l2)) else (some false)))) else (stopcocklaw03_EtherBack.j1 kj7 l2)) = some r := H; have A32 := Aside0.mk A320; clear A320; have HC33 := Aside0.mk H; clear H; have hnb34 := NB334_333.out; have hnc34 := NB333_334.out; obtain ⟨hcz35_0, hcz35_1, hcz35_2, hcz35_3, hcz35_4⟩ := cz5 BK334.out; have hfz35_0 := blk_frozen BK334.out
        go_upto_if 49 with (first | ((with_reducible refine gate_callee (f := 14) rfl ?_); refine goesL_ (some 44) rfl rfl Try.func14 (by kernel_rfl) rfl #[.agg #[.int .i64 a1_0, .int .u64 a1_1, .int .u32 a1_2, .int .u64 a1_3, .int .u32 a1_4]] rfl (by (try simp only [List.map_toArray, List.map_cons, List.map_nil]); first | done | rfl | (simp only [List.length_drop, List.length_take]; rfl)) ?_; (with_reducible refine (ether_BuildArp.calls a1_0 a1_1 a1_2 a1_3 a1_4 t351 t354 _ A31.out).mono ?_); rintro e w36 ⟨v352, rfl, ho0, hb⟩; refine ⟨_, rfl, ?_⟩; have n0_ := Aside0.mk (Kd.R_lower ho0 (below_size (bel2 HB.out GE333.out GE334.out))); have n1_ := Aside0.mk (blk_below (g := gb333) (o := .cells #[.int .u64 a0_0, .int .u64 a0_1, .int .i64 a0_2, .slice A0_3 l0_3.length c0_3] 25 (0, 0)) (skp_ BK333.out) hb); have n2_ := Aside0.mk (blk_below (g := gb334) (o := .cells #[.int .i64 a1_0, .int .u64 a1_1, .int .u32 a1_2, .int .u64 a1_3, .int .u32 a1_4] 39 (0, 0)) (skp_ BK334.out) hb); have n3_ := Aside0.mk (below_step (bel2 HB.out GE333.out GE334.out) hb); clear BK333; clear BK334; clear HB; have HO353 := n0_; have BK333 := n1_; have BK334 := n2_; have HB := n3_; clear n0_ n1_ n2_ n3_; (try clear hb); (try clear hb2); (try clear hk); (try clear hi); (try clear ho0)) | ((with_reducible refine gate_callee (f := 12) rfl ?_); refine goesL_ (some 48) rfl rfl Try.func12 (by kernel_rfl) rfl #[.int .i64 t354] rfl (by (try simp only [List.map_toArray, List.map_cons, List.map_nil]); first | done | rfl | (simp only [List.length_drop, List.length_take]; rfl)) ?_; (with_reducible refine (stopcocklaw03_num.same t354 t355 _ A32.out).mono ?_); rintro e w' ⟨rfl, rfl⟩; refine ⟨_, rfl, ?_⟩))
        (try simp only [Act.put, List.setIfInBounds_toArray, List.set_cons_zero, List.set_cons_succ])
        go_cut [] (fun wc => ∃ (kq : Nat), Aside0 (stopcocklaw03_EtherBack.j1 kq l2 = some r) ∧ Aside0 (kq ≤ kj7) ∧ Aside0 (wc.heap[gb333]? = some (.cells #[.int .u64 a0_0, .int .u64 a0_1, .int .i64 a0_2, (.slice A0_3 l0_3.length c0_3)] 25 (0, 0))) ∧ Aside0 (wc.heap[gb334]? = some (.cells #[.int .i64 a1_0, .int .u64 a1_1, .int .u32 a1_2, .int .u64 a1_3, .int .u32 a1_4] 39 (0, 0))) ∧ Aside0 (Below w.heap.size w wc))
        case first =>
          have H := HC33.out; clear HC33
          by_cases c37 : t355 = 0
          · rw [if_pos c37] at H
            have c37b0 : (t355 == 0) = true := beq_iff_eq.mpr c37; have c37b1 : (t355 != 0) = false := bne_eq_false_iff_eq.mpr c37; clear c37
            (first | rw [c37b0] | (simp only [i64_w, i32_w]; rw [c37b0]) | skip)
            replace H := Option.bind_eq_some_iff.mp H; obtain ⟨⟨t356, t357, t358, t359, t360, t361⟩, A380, H⟩ := H; replace H : ((stopcocklaw03_num.f t361).bind fun t363 => (if t363 = 0 then (if (!(t356 == a1_0) || (!(t357 == a1_1) || (!(t358 == a1_2) || (!(t359 == a1_3) || (!(t360 == a1_4)))))) = true then (some false) else (stopcocklaw03_EtherBack.j1 kj7 l2)) else (some false))) = some r := H; have A38 := Aside0.mk A380; clear A380; replace H := Option.bind_eq_some_iff.mp H; obtain ⟨t363, A390, H⟩ := H; replace H : (if t363 = 0 then (if (!(t356 == a1_0) || (!(t357 == a1_1) || (!(t358 == a1_2) || (!(t359 == a1_3) || (!(t360 == a1_4)))))) = true then (some false) else (stopcocklaw03_EtherBack.j1 kj7 l2)) else (some false)) = some r := H; have A39 := Aside0.mk A390; clear A390
            by_cases c40 : t363 = 0
            · rw [if_pos c40] at H
              have c40b0 : (t363 == 0) = true := beq_iff_eq.mpr c40; have c40b1 : (t363 != 0) = false := bne_eq_false_iff_eq.mpr c40; clear c40
              by_cases c41 : (!(t356 == a1_0) || (!(t357 == a1_1) || (!(t358 == a1_2) || (!(t359 == a1_3) || (!(t360 == a1_4)))))) = true
              · rw [if_pos c41] at H
                have c41b0 : (!(t356 == a1_0) || (!(t357 == a1_1) || (!(t358 == a1_2) || (!(t359 == a1_3) || (!(t360 == a1_4)))))) = true := c41; clear c41; exact absurd ((Option.some.inj H).trans HRT.out) (by decide)
              rw [if_neg c41] at H; have c41b0 : (!(t356 == a1_0) || (!(t357 == a1_1) || (!(t358 == a1_2) || (!(t359 == a1_3) || (!(t360 == a1_4)))))) = false := by simpa using c41
              clear c41; have H' := Aside0.mk H; clear H; obtain ⟨Ao42, co42, eo42⟩ := Kd.R_slice HO353.out
              subst eo42
              go_wp2_with (first | ((with_reducible refine gate_callee (f := 17) rfl ?_); refine goesL_ (some 52) rfl rfl Try.func17 (by kernel_rfl) rfl #[.slice Ao42 t351.length co42] rfl (by (try simp only [List.map_toArray, List.map_cons, List.map_nil]); first | done | rfl | (simp only [List.length_drop, List.length_take]; rfl)) ?_; (with_reducible refine (ether_ParseArp.calls _ _ t351 t356 t357 t358 t359 t360 t361 _ ?side1 ?side2 A38.out).mono ?_); (case side1 => repeat (first | exact (Kd.R_reads' HO353.out).2.2 | (with_reducible refine Kd.C_alloc ?_ _) | (with_reducible refine Kd.C_drewN ?_ _) | (with_reducible refine Kd.C_drew ?_))); (case side2 => exact (Kd.R_reads' HO353.out).2.1); rintro e w43 ⟨rfl, hb⟩; refine ⟨_, rfl, ?_⟩; have n0_ := Aside0.mk (Kd.R_below (by (with_reducible repeat (first | apply Kd.R_alloc | apply Kd.R_drewN | apply Kd.R_drew)); exact HO353.out) hb); have n1_ := Aside0.mk (blk_below (g := gb333) (o := .cells #[.int .u64 a0_0, .int .u64 a0_1, .int .i64 a0_2, .slice A0_3 l0_3.length c0_3] 25 (0, 0)) (skp_ BK333.out) hb); have n2_ := Aside0.mk (blk_below (g := gb334) (o := .cells #[.int .i64 a1_0, .int .u64 a1_1, .int .u32 a1_2, .int .u64 a1_3, .int .u32 a1_4] 39 (0, 0)) (skp_ BK334.out) hb); have n3_ := Aside0.mk (below_step (bel2 HB.out GE333.out GE334.out) hb); clear HO353; clear BK333; clear BK334; clear HB; have HO353 := n0_; have BK333 := n1_; have BK334 := n2_; have HB := n3_; clear n0_ n1_ n2_ n3_; (try clear hb); (try clear hb2); (try clear hk); (try clear hi)) | ((with_reducible refine gate_dst (N := 12) rfl ?_); refine box_event ?hg (N := 12) ?hd (cs := #[.int .i64 0, .int .u64 0, .int .u32 0, .int .u64 0, .int .u32 0]) (t := 39) ?hr ?_; (case hd => rfl); (case hg => rfl); (case hr => first | (go_simp; done) | (go_simp; rfl)); intro gb362 hg w44 hbox hb; have n0_ := Aside0.mk (Kd.R_below (by (with_reducible repeat (first | apply Kd.R_alloc | apply Kd.R_drewN | apply Kd.R_drew)); exact HO353.out) hb); have n1_ := Aside0.mk (blk_below (g := gb333) (o := .cells #[.int .u64 a0_0, .int .u64 a0_1, .int .i64 a0_2, .slice A0_3 l0_3.length c0_3] 25 (0, 0)) (skp_ BK333.out) hb); have n2_ := Aside0.mk (blk_below (g := gb334) (o := .cells #[.int .i64 a1_0, .int .u64 a1_1, .int .u32 a1_2, .int .u64 a1_3, .int .u32 a1_4] 39 (0, 0)) (skp_ BK334.out) hb); have n3_ := Aside0.mk (below_step (bel2 HB.out GE333.out GE334.out) hb); have n4_ := Aside0.mk (hbox); have n5_ := Aside0.mk ((by rw [hg]; exact (below_size (bel2 HB.out GE333.out GE334.out)) : w.heap.size ≤ gb362)); have n6_ := n5_; have n7_ := Aside0.mk ((by rw [hg]; exact Nat.ne_of_lt (blk_lt (skp_ BK333.out)) : gb333 ≠ gb362)); have n8_ := Aside0.mk ((by rw [hg]; exact Nat.ne_of_gt (blk_lt (skp_ BK333.out)) : gb362 ≠ gb333)); have n9_ := Aside0.mk ((by rw [hg]; exact Nat.ne_of_lt (blk_lt (skp_ BK334.out)) : gb334 ≠ gb362)); have n10_ := Aside0.mk ((by rw [hg]; exact Nat.ne_of_gt (blk_lt (skp_ BK334.out)) : gb362 ≠ gb334)); clear HO353; clear BK333; clear BK334; clear HB; have HO353 := n0_; have BK333 := n1_; have BK334 := n2_; have HB := n3_; have BK362 := n4_; have GW362 := n5_; have GE362 := n6_; have NB333_362 := n7_; have NB362_333 := n8_; have NB334_362 := n9_; have NB362_334 := n10_; clear n0_ n1_ n2_ n3_ n4_ n5_ n6_ n7_ n8_ n9_ n10_; clear hb hbox hg; have hnb45 := NB362_333.out; have hnc45 := NB333_362.out; have hnb46 := NB362_334.out; have hnc46 := NB334_362.out; obtain ⟨hcz47_0, hcz47_1, hcz47_2, hcz47_3, hcz47_4⟩ := cz5 BK362.out; have hfz47_0 := blk_frozen BK362.out) | ((with_reducible refine gate_callee (f := 12) rfl ?_); refine goesL_ (some 56) rfl rfl Try.func12 (by kernel_rfl) rfl #[.int .i64 t361] rfl (by (try simp only [List.map_toArray, List.map_cons, List.map_nil]); first | done | rfl | (simp only [List.length_drop, List.length_take]; rfl)) ?_; (with_reducible refine (stopcocklaw03_num.same t361 t363 _ A39.out).mono ?_); rintro e w' ⟨rfl, rfl⟩; refine ⟨_, rfl, ?_⟩; have hnb48 := NB334_333.out; have hnc48 := NB333_334.out; obtain ⟨hcz49_0, hcz49_1, hcz49_2, hcz49_3, hcz49_4⟩ := cz5 BK334.out; have hfz49_0 := blk_frozen BK334.out))
              go_meet
              case rel => exact ⟨_, H', ⟨by have := HJ7.out; first | omega | exact Nat.le_refl _⟩, ⟨by exact far_ NB333_362.out BK333.out⟩, ⟨by exact far_ NB334_362.out BK334.out⟩, ⟨by exact bel3 HB.out GE333.out GE334.out GE362.out⟩⟩
            rw [if_neg c40] at H; have c40b0 : (t363 == 0) = false := beq_eq_false_iff_ne.mpr c40; have c40b1 : (t363 != 0) = true := bne_iff_ne.mpr c40; exact absurd ((Option.some.inj H).trans HRT.out) (by decide)
          rw [if_neg c37] at H; have c37b0 : (t355 == 0) = false := beq_eq_false_iff_ne.mpr c37; have c37b1 : (t355 != 0) = true := bne_iff_ne.mpr c37
          (first | rw [c37b0] | (simp only [i64_w, i32_w]; rw [c37b0]) | skip)
          have H' := Aside0.mk H; clear H
          go_wp2
          go_meet
          case rel => exact ⟨_, H', ⟨by have := HJ7.out; first | omega | exact Nat.le_refl _⟩, ⟨by exact skp_ BK333.out⟩, ⟨by exact skp_ BK334.out⟩, ⟨by exact bel2 HB.out GE333.out GE334.out⟩⟩
        case rest =>
          clear HC33
          try clear c1
          try clear c2
          try clear p2
          try clear c3
          try clear c4
          try clear c5
          try clear c6
          try clear c8
          try clear c11
          try clear c12
          try clear c14
          try clear c15
          try clear c15b0
          try clear c15b1
          try clear c17
          try clear c18
          try clear c18b0
          try clear c18b1
          try clear c20
          try clear c24
          try clear c25
          try clear c28
          try clear c34
          try clear c37
          try clear c37b0
          try clear c37b1
          try clear c40
          try clear c40b0
          try clear c40b1
          try clear c41
          try clear c41b0
          try clear c45
          try clear c46
          try clear c48
          try clear hcz13_0
          try clear hcz13_1
          try clear hcz13_2
          try clear hcz13_3
          try clear hcz26_0
          try clear hcz26_1
          try clear hcz26_2
          try clear hcz26_3
          try clear hcz29_0
          try clear hcz29_1
          try clear hcz29_2
          try clear hcz29_3
          try clear hcz35_0
          try clear hcz35_1
          try clear hcz35_2
          try clear hcz35_3
          try clear hcz35_4
          try clear hcz47_0
          try clear hcz47_1
          try clear hcz47_2
          try clear hcz47_3
          try clear hcz47_4
          try clear hcz49_0
          try clear hcz49_1
          try clear hcz49_2
          try clear hcz49_3
          try clear hcz49_4
          try clear hfz13_0
          try clear hfz13_1
          try clear hfz13_2
          try clear hfz13_3
          try clear hfz26_0
          try clear hfz26_1
          try clear hfz26_2
          try clear hfz26_3
          try clear hfz29_0
          try clear hfz29_1
          try clear hfz29_2
          try clear hfz29_3
          try clear hfz35_0
          try clear hfz35_1
          try clear hfz35_2
          try clear hfz35_3
          try clear hfz35_4
          try clear hfz47_0
          try clear hfz47_1
          try clear hfz47_2
          try clear hfz47_3
          try clear hfz47_4
          try clear hfz49_0
          try clear hfz49_1
          try clear hfz49_2
          try clear hfz49_3
          try clear hfz49_4
          try clear p2
          obtain ⟨kq, HA, HJ32, BK333, BK334, HB⟩ := hcut
          cases kq with
          | zero => exact absurd HA.out (by simp [stopcocklaw03_EtherBack.j1])
          | succ kj32 =>
            have H := HA.out; clear HA
            simp only [stopcocklaw03_EtherBack.j1] at H
            replace H := Option.bind_eq_some_iff.mp H; obtain ⟨⟨t364, t365, t366, t367, t370⟩, A500, H⟩ := H; replace H : ((stopcocklaw03_num.f t370).bind fun t372 => (if t372 = 0 then ((ether_Build.f kj32 t364 t365 t366 t367).bind fun bt373 => ((stopcocklaw03_num.f bt373.2).bind fun t377 => (if t377 = 0 then ((stopcockplain_SameBytes.f kj32 bt373.1 l2).bind fun t378 => (if t378 = true then (stopcocklaw03_EtherBack.j2 kj32 l2) else (some false))) else (some false)))) else (stopcocklaw03_EtherBack.j2 kj32 l2))) = some r := H; have A50 := Aside0.mk A500; clear A500; replace H := Option.bind_eq_some_iff.mp H; obtain ⟨t372, A510, H⟩ := H; replace H : (if t372 = 0 then ((ether_Build.f kj32 t364 t365 t366 t367).bind fun bt373 => ((stopcocklaw03_num.f bt373.2).bind fun t377 => (if t377 = 0 then ((stopcockplain_SameBytes.f kj32 bt373.1 l2).bind fun t378 => (if t378 = true then (stopcocklaw03_EtherBack.j2 kj32 l2) else (some false))) else (some false)))) else (stopcocklaw03_EtherBack.j2 kj32 l2)) = some r := H; have A51 := Aside0.mk A510; clear A510; have HC52 := Aside0.mk H; clear H
            go_upto_if 70 with (first | ((with_reducible refine gate_callee (f := 11) rfl ?_); refine goesL_ (some 65) rfl rfl Try.func11 (by kernel_rfl) rfl #[.slice A2 l2.length c2] rfl (by (try simp only [List.map_toArray, List.map_cons, List.map_nil]); first | done | rfl | (simp only [List.length_drop, List.length_take]; rfl)) ?_; (with_reducible refine (ether_Parse.calls _ _ l2 t364 t365 t366 t367 t370 _ ?side1 ?side2 A50.out).mono ?_); (case side1 => repeat (first | exact (Kd.C_below HR2.out HB.out) | (with_reducible refine Kd.C_alloc ?_ _) | (with_reducible refine Kd.C_drewN ?_ _) | (with_reducible refine Kd.C_drew ?_))); (case side2 => exact HC2.out); rintro e w53 ⟨v368, rfl, ho0, hb⟩; refine ⟨_, rfl, ?_⟩; have n0_ := Aside0.mk (Kd.R_lower ho0 (below_size (bel2 HB.out GE333.out GE334.out))); have n1_ := Aside0.mk (blk_below (g := gb333) (o := .cells #[.int .u64 a0_0, .int .u64 a0_1, .int .i64 a0_2, .slice A0_3 l0_3.length c0_3] 25 (0, 0)) (skp_ BK333.out) hb); have n2_ := Aside0.mk (blk_below (g := gb334) (o := .cells #[.int .i64 a1_0, .int .u64 a1_1, .int .u32 a1_2, .int .u64 a1_3, .int .u32 a1_4] 39 (0, 0)) (skp_ BK334.out) hb); have n3_ := Aside0.mk (below_step (bel2 HB.out GE333.out GE334.out) hb); clear BK333; clear BK334; clear HB; have HO369 := n0_; have BK333 := n1_; have BK334 := n2_; have HB := n3_; clear n0_ n1_ n2_ n3_; (try clear hb); (try clear hb2); (try clear hk); (try clear hi); (try clear ho0)) | ((with_reducible refine gate_dst (N := 14) rfl ?_); refine box_event ?hg (N := 14) ?hd (cs := #[.int .u64 0, .int .u64 0, .int .i64 0, .slice none 0 0]) (t := 25) ?hr ?_; (case hd => rfl); (case hg => rfl); (case hr => first | (go_simp; done) | (go_simp; rfl)); intro gb371 hg w54 hbox hb; have n0_ := Aside0.mk (Kd.R_below (by (with_reducible repeat (first | apply Kd.R_alloc | apply Kd.R_drewN | apply Kd.R_drew)); exact HO369.out) hb); have n1_ := Aside0.mk (blk_below (g := gb333) (o := .cells #[.int .u64 a0_0, .int .u64 a0_1, .int .i64 a0_2, .slice A0_3 l0_3.length c0_3] 25 (0, 0)) (skp_ BK333.out) hb); have n2_ := Aside0.mk (blk_below (g := gb334) (o := .cells #[.int .i64 a1_0, .int .u64 a1_1, .int .u32 a1_2, .int .u64 a1_3, .int .u32 a1_4] 39 (0, 0)) (skp_ BK334.out) hb); have n3_ := Aside0.mk (below_step (bel2 HB.out GE333.out GE334.out) hb); have n4_ := Aside0.mk (hbox); have n5_ := Aside0.mk ((by rw [hg]; exact (below_size (bel2 HB.out GE333.out GE334.out)) : w.heap.size ≤ gb371)); have n6_ := n5_; have n7_ := Aside0.mk ((by rw [hg]; exact Nat.ne_of_lt (blk_lt (skp_ BK333.out)) : gb333 ≠ gb371)); have n8_ := Aside0.mk ((by rw [hg]; exact Nat.ne_of_gt (blk_lt (skp_ BK333.out)) : gb371 ≠ gb333)); have n9_ := Aside0.mk ((by rw [hg]; exact Nat.ne_of_lt (blk_lt (skp_ BK334.out)) : gb334 ≠ gb371)); have n10_ := Aside0.mk ((by rw [hg]; exact Nat.ne_of_gt (blk_lt (skp_ BK334.out)) : gb371 ≠ gb334)); clear HO369; clear BK333; clear BK334; clear HB; have HO369 := n0_; have BK333 := n1_; have BK334 := n2_; have HB := n3_; have BK371 := n4_; have GW371 := n5_; have GE371 := n6_; have NB333_371 := n7_; have NB371_333 := n8_; have NB334_371 := n9_; have NB371_334 := n10_; clear n0_ n1_ n2_ n3_ n4_ n5_ n6_ n7_ n8_ n9_ n10_; clear hb hbox hg; have hnb55 := NB371_333.out; have hnc55 := NB333_371.out; have hnb56 := NB371_334.out; have hnc56 := NB334_371.out; obtain ⟨hcz57_0, hcz57_1, hcz57_2, hcz57_3⟩ := cz4 BK371.out; have hfz57_0 := blk_frozen BK371.out; obtain ⟨Ao58, co58, eo58⟩ := Kd.R_slice HO369.out; subst eo58) | ((with_reducible refine gate_callee (f := 12) rfl ?_); refine goesL_ (some 69) rfl rfl Try.func12 (by kernel_rfl) rfl #[.int .i64 t370] rfl (by (try simp only [List.map_toArray, List.map_cons, List.map_nil]); first | done | rfl | (simp only [List.length_drop, List.length_take]; rfl)) ?_; (with_reducible refine (stopcocklaw03_num.same t370 t372 _ A51.out).mono ?_); rintro e w' ⟨rfl, rfl⟩; refine ⟨_, rfl, ?_⟩))
            (try simp only [Act.put, List.setIfInBounds_toArray, List.set_cons_zero, List.set_cons_succ])
            go_cut [] (fun wc => ∃ (kq : Nat), Aside0 (stopcocklaw03_EtherBack.j2 kq l2 = some r) ∧ Aside0 (kq ≤ kj32) ∧ Aside0 (Kd.R (Kd.int .u8) 5 wc w.heap.size (fun _ => True) (.slice Ao58 t367.length co58) t367) ∧ Aside0 (wc.heap[gb333]? = some (.cells #[.int .u64 a0_0, .int .u64 a0_1, .int .i64 a0_2, (.slice A0_3 l0_3.length c0_3)] 25 (0, 0))) ∧ Aside0 (wc.heap[gb334]? = some (.cells #[.int .i64 a1_0, .int .u64 a1_1, .int .u32 a1_2, .int .u64 a1_3, .int .u32 a1_4] 39 (0, 0))) ∧ Aside0 (wc.heap[gb371]? = some (.cells #[.int .u64 t364, .int .u64 t365, .int .i64 t366, (.slice Ao58 t367.length co58)] 25 (0, 0))) ∧ Aside0 (Below w.heap.size w wc))
            case first =>
              have H := HC52.out; clear HC52
              by_cases c59 : t372 = 0
              · rw [if_pos c59] at H
                have c59b0 : (t372 == 0) = true := beq_iff_eq.mpr c59; have c59b1 : (t372 != 0) = false := bne_eq_false_iff_eq.mpr c59; clear c59
                (first | rw [c59b0] | (simp only [i64_w, i32_w]; rw [c59b0]) | skip)
                replace H := Option.bind_eq_some_iff.mp H; obtain ⟨⟨t373, t376⟩, A600, H⟩ := H; replace H : ((stopcocklaw03_num.f t376).bind fun t377 => (if t377 = 0 then ((stopcockplain_SameBytes.f kj32 t373 l2).bind fun t378 => (if t378 = true then (stopcocklaw03_EtherBack.j2 kj32 l2) else (some false))) else (some false))) = some r := H; have A60 := Aside0.mk A600; clear A600; replace H := Option.bind_eq_some_iff.mp H; obtain ⟨t377, A610, H⟩ := H; replace H : (if t377 = 0 then ((stopcockplain_SameBytes.f kj32 t373 l2).bind fun t378 => (if t378 = true then (stopcocklaw03_EtherBack.j2 kj32 l2) else (some false))) else (some false)) = some r := H; have A61 := Aside0.mk A610; clear A610
                by_cases c62 : t377 = 0
                · rw [if_pos c62] at H
                  have c62b0 : (t377 == 0) = true := beq_iff_eq.mpr c62; have c62b1 : (t377 != 0) = false := bne_eq_false_iff_eq.mpr c62; clear c62; replace H := Option.bind_eq_some_iff.mp H; obtain ⟨t378, A630, H⟩ := H; replace H : (if t378 = true then (stopcocklaw03_EtherBack.j2 kj32 l2) else (some false)) = some r := H; have A63 := Aside0.mk A630; clear A630
                  by_cases c64 : t378 = true
                  · subst c64
                    have H1 : (stopcocklaw03_EtherBack.j2 kj32 l2) = some r := by rw [if_pos rfl] at H; exact H
                    clear H; have H := H1; clear H1; have H' := Aside0.mk H; clear H; have hnb65 := NB371_333.out; have hnc65 := NB333_371.out; have hnb66 := NB371_334.out; have hnc66 := NB334_371.out; obtain ⟨hcz67_0, hcz67_1, hcz67_2, hcz67_3⟩ := cz4 BK371.out; have hfz67_0 := blk_frozen BK371.out
                    go_wp2_with (first | ((with_reducible refine gate_callee (f := 8) rfl ?_); refine goesL_ (some 73) rfl rfl Try.func8 (by kernel_rfl) rfl #[.agg #[.int .u64 t364, .int .u64 t365, .int .i64 t366, .slice Ao58 t367.length co58]] rfl (by (try simp only [List.map_toArray, List.map_cons, List.map_nil]); first | done | rfl | (simp only [List.length_drop, List.length_take]; rfl)) ?_; (with_reducible refine (ether_Build.calls kj32 t364 t365 t366 _ _ t367 t373 t376 _ ?side1 ?side2 A60.out).mono ?_); (case side1 => refine (Kd.R_reads' (e := 5) (base := w.heap.size) (ok := fun k_ => True) (n := t367.length) (c := co58) ?_).2.2; exact (by (with_reducible repeat (first | apply Kd.R_alloc | apply Kd.R_drewN | apply Kd.R_drew)); exact (Kd.R_mono (Kd.R_far (p := ⟨gb371, 3, none⟩) (Kd.R_far (p := ⟨gb371, 2, none⟩) (Kd.R_far (p := ⟨gb371, 1, none⟩) (Kd.R_far (p := ⟨gb371, 0, none⟩) (Kd.R_types HO369.out BK371.out (by decide)) (fun _ hk => hk.2) (.int .u64 t364)) (fun _ hk => hk.2) (.int .u64 t365)) (fun _ hk => hk.2) (.int .i64 t366)) (fun _ hk => hk.2) (.slice Ao58 t367.length co58)) (fun _ h_ => h_.1)))); (case side2 => exact (Kd.R_reads' HO369.out).2.1); rintro e w68 ⟨v374, rfl, ho0, hb⟩; refine ⟨_, rfl, ?_⟩; have n0_ := Aside0.mk (Kd.R_elder' (by (with_reducible repeat (first | apply Kd.R_alloc | apply Kd.R_drewN | apply Kd.R_drew)); exact (Kd.R_mono (Kd.R_far (p := ⟨gb371, 3, none⟩) (Kd.R_far (p := ⟨gb371, 2, none⟩) (Kd.R_far (p := ⟨gb371, 1, none⟩) (Kd.R_far (p := ⟨gb371, 0, none⟩) (Kd.R_types HO369.out BK371.out (by decide)) (fun _ hk => hk.2) (.int .u64 t364)) (fun _ hk => hk.2) (.int .u64 t365)) (fun _ hk => hk.2) (.int .i64 t366)) (fun _ hk => hk.2) (.slice Ao58 t367.length co58)) (fun _ h_ => h_.1))) (Kd.R_base ho0) hb); have n1_ := Aside0.mk (Kd.R_lower (Kd.R_new' ho0 (Kd.R_lt (by (with_reducible repeat (first | apply Kd.R_alloc | apply Kd.R_drewN | apply Kd.R_drew)); exact (Kd.R_mono (Kd.R_far (p := ⟨gb371, 3, none⟩) (Kd.R_far (p := ⟨gb371, 2, none⟩) (Kd.R_far (p := ⟨gb371, 1, none⟩) (Kd.R_far (p := ⟨gb371, 0, none⟩) (Kd.R_types HO369.out BK371.out (by decide)) (fun _ hk => hk.2) (.int .u64 t364)) (fun _ hk => hk.2) (.int .u64 t365)) (fun _ hk => hk.2) (.int .i64 t366)) (fun _ hk => hk.2) (.slice Ao58 t367.length co58)) (fun _ h_ => h_.1))))) (below_size (bel3 HB.out GE333.out GE334.out GE371.out))); have n2_ := Aside0.mk (blk_below (g := gb333) (o := .cells #[.int .u64 a0_0, .int .u64 a0_1, .int .i64 a0_2, .slice A0_3 l0_3.length c0_3] 25 (0, 0)) (by exact far_ NB333_371.out BK333.out) hb); have n3_ := Aside0.mk (blk_below (g := gb334) (o := .cells #[.int .i64 a1_0, .int .u64 a1_1, .int .u32 a1_2, .int .u64 a1_3, .int .u32 a1_4] 39 (0, 0)) (by exact far_ NB334_371.out BK334.out) hb); have n4_ := Aside0.mk (blk_below (g := gb371) (o := .cells #[.int .u64 t364, .int .u64 t365, .int .i64 t366, .slice Ao58 t367.length co58] 25 (0, 0)) (by exact put_ BK371.out rfl) hb); have n5_ := Aside0.mk (below_step (bel3 HB.out GE333.out GE334.out GE371.out) hb); clear HO369; clear BK333; clear BK334; clear BK371; clear HB; have HO369 := n0_; have HO375 := n1_; have BK333 := n2_; have BK334 := n3_; have BK371 := n4_; have HB := n5_; clear n0_ n1_ n2_ n3_ n4_ n5_; (try clear hb); (try clear hb2); (try clear hk); (try clear hi); (try clear ho0)) | ((with_reducible refine gate_callee (f := 12) rfl ?_); refine goesL_ (some 77) rfl rfl Try.func12 (by kernel_rfl) rfl #[.int .i64 t376] rfl (by (try simp only [List.map_toArray, List.map_cons, List.map_nil]); first | done | rfl | (simp only [List.length_drop, List.length_take]; rfl)) ?_; (with_reducible refine (stopcocklaw03_num.same t376 t377 _ A61.out).mono ?_); rintro e w' ⟨rfl, rfl⟩; refine ⟨_, rfl, ?_⟩; obtain ⟨Ao69, co69, eo69⟩ := Kd.R_slice HO375.out; subst eo69) | (go_at_call 10; (with_reducible refine (stopcockplain_SameBytes.calls kj32 _ _ t373 _ _ l2 true _ ?side1 ?side2 ?side3 ?side4 A63.out).mono ?_); (case side1 => repeat (first | exact (Kd.R_reads' HO375.out).2.2 | (with_reducible refine Kd.C_alloc ?_ _) | (with_reducible refine Kd.C_drewN ?_ _) | (with_reducible refine Kd.C_drew ?_))); (case side2 => exact (Kd.R_reads' HO375.out).2.1); (case side3 => repeat (first | exact (Kd.C_below HR2.out (bel3 HB.out GE333.out GE334.out GE371.out)) | (with_reducible refine Kd.C_alloc ?_ _) | (with_reducible refine Kd.C_drewN ?_ _) | (with_reducible refine Kd.C_drew ?_))); (case side4 => exact HC2.out); rintro e w' ⟨rfl, ⟨nd, rfl⟩⟩))
                    go_meet
                    case rel => exact ⟨_, H', ⟨by have := HJ7.out; have := HJ32.out; first | omega | exact Nat.le_refl _⟩, ⟨by (with_reducible repeat (first | apply Kd.R_alloc | apply Kd.R_drewN | apply Kd.R_drew)); exact Kd.R_mono HO369.out (fun _ hk => trivial)⟩, ⟨by exact skp_ BK333.out⟩, ⟨by exact skp_ BK334.out⟩, ⟨by exact skp_ BK371.out⟩, ⟨by exact bel3 HB.out GE333.out GE334.out GE371.out⟩⟩
                  replace c64 := Bool.eq_false_iff.mpr c64
                  subst c64
                  have H1 : (some false) = some r := by rw [if_neg (show ¬ (false = true) by decide)] at H; exact H
                  clear H; have H := H1; clear H1; exact absurd ((Option.some.inj H).trans HRT.out) (by decide)
                rw [if_neg c62] at H; have c62b0 : (t377 == 0) = false := beq_eq_false_iff_ne.mpr c62; have c62b1 : (t377 != 0) = true := bne_iff_ne.mpr c62; exact absurd ((Option.some.inj H).trans HRT.out) (by decide)
              rw [if_neg c59] at H; have c59b0 : (t372 == 0) = false := beq_eq_false_iff_ne.mpr c59; have c59b1 : (t372 != 0) = true := bne_iff_ne.mpr c59
              (first | rw [c59b0] | (simp only [i64_w, i32_w]; rw [c59b0]) | skip)
              have H' := Aside0.mk H; clear H
              go_wp2
              go_meet
              case rel => exact ⟨_, H', ⟨by have := HJ7.out; have := HJ32.out; first | omega | exact Nat.le_refl _⟩, ⟨by (with_reducible repeat (first | apply Kd.R_alloc | apply Kd.R_drewN | apply Kd.R_drew)); exact Kd.R_mono (Kd.R_far (p := ⟨gb371, 3, none⟩) (Kd.R_far (p := ⟨gb371, 2, none⟩) (Kd.R_far (p := ⟨gb371, 1, none⟩) (Kd.R_far (p := ⟨gb371, 0, none⟩) (Kd.R_types HO369.out BK371.out (by decide)) (fun _ hk => hk.2) (.int .u64 t364)) (fun _ hk => hk.2) (.int .u64 t365)) (fun _ hk => hk.2) (.int .i64 t366)) (fun _ hk => hk.2) (.slice Ao58 t367.length co58)) (fun _ hk => trivial)⟩, ⟨by exact far_ NB333_371.out BK333.out⟩, ⟨by exact far_ NB334_371.out BK334.out⟩, ⟨by exact put_ BK371.out rfl⟩, ⟨by exact bel3 HB.out GE333.out GE334.out GE371.out⟩⟩
            case rest =>
              clear HC52
              try clear c1
              try clear c2
              try clear p2
              try clear c3
              try clear c4
              try clear c5
              try clear c6
              try clear c8
              try clear c11
              try clear c12
              try clear c14
              try clear c15
              try clear c15b0
              try clear c15b1
              try clear c17
              try clear c18
              try clear c18b0
              try clear c18b1
              try clear c20
              try clear c24
              try clear c25
              try clear c28
              try clear c34
              try clear c37
              try clear c37b0
              try clear c37b1
              try clear c40
              try clear c40b0
              try clear c40b1
              try clear c41
              try clear c41b0
              try clear c45
              try clear c46
              try clear c48
              try clear c55
              try clear c56
              try clear c59
              try clear c59b0
              try clear c59b1
              try clear c62
              try clear c62b0
              try clear c62b1
              try clear c64
              try clear c65
              try clear c66
              try clear hcz13_0
              try clear hcz13_1
              try clear hcz13_2
              try clear hcz13_3
              try clear hcz26_0
              try clear hcz26_1
              try clear hcz26_2
              try clear hcz26_3
              try clear hcz29_0
              try clear hcz29_1
              try clear hcz29_2
              try clear hcz29_3
              try clear hcz35_0
              try clear hcz35_1
              try clear hcz35_2
              try clear hcz35_3
              try clear hcz35_4
              try clear hcz47_0
              try clear hcz47_1
              try clear hcz47_2
              try clear hcz47_3
              try clear hcz47_4
              try clear hcz49_0
              try clear hcz49_1
              try clear hcz49_2
              try clear hcz49_3
              try clear hcz49_4
              try clear hcz57_0
              try clear hcz57_1
              try clear hcz57_2
              try clear hcz57_3
              try clear hcz67_0
              try clear hcz67_1
              try clear hcz67_2
              try clear hcz67_3
              try clear hfz13_0
              try clear hfz13_1
              try clear hfz13_2
              try clear hfz13_3
              try clear hfz26_0
              try clear hfz26_1
              try clear hfz26_2
              try clear hfz26_3
              try clear hfz29_0
              try clear hfz29_1
              try clear hfz29_2
              try clear hfz29_3
              try clear hfz35_0
              try clear hfz35_1
              try clear hfz35_2
              try clear hfz35_3
              try clear hfz35_4
              try clear hfz47_0
              try clear hfz47_1
              try clear hfz47_2
              try clear hfz47_3
              try clear hfz47_4
              try clear hfz49_0
              try clear hfz49_1
              try clear hfz49_2
              try clear hfz49_3
              try clear hfz49_4
              try clear hfz57_0
              try clear hfz57_1
              try clear hfz57_2
              try clear hfz57_3
              try clear hfz67_0
              try clear hfz67_1
              try clear hfz67_2
              try clear hfz67_3
              try clear p2
              obtain ⟨kq, HA, HJ51, HO_372003, BK333, BK334, BK371, HB⟩ := hcut
              cases kq with
              | zero => exact absurd HA.out (by simp [stopcocklaw03_EtherBack.j2])
              | succ kj51 =>
                have H := HA.out; clear HA
                simp only [stopcocklaw03_EtherBack.j2] at H
                replace H := Option.bind_eq_some_iff.mp H; obtain ⟨⟨t379, t380, t381, t382, t383, t384⟩, A700, H⟩ := H; replace H : ((stopcocklaw03_num.f t384).bind fun t386 => (if t386 = 0 then ((ether_BuildArp.f t379 t380 t381 t382 t383).bind fun bt387 => ((stopcocklaw03_num.f bt387.2).bind fun t391 => (if t391 = 0 then (if 28 ≤ (l2.length : Int) then ((stopcockplain_SameBytes.f kj51 bt387.1 (l2.take 28)).bind fun t393 => (some t393)) else (none)) else (some false)))) else (some (t379 == 0 && (t380 == 0 && (t381 == 0 && (t382 == 0 && (t383 == 0)))))))) = some r := H; have A70 := Aside0.mk A700; clear A700; replace H := Option.bind_eq_some_iff.mp H; obtain ⟨t386, A710, H⟩ := H; replace H : (if t386 = 0 then ((ether_BuildArp.f t379 t380 t381 t382 t383).bind fun bt387 => ((stopcocklaw03_num.f bt387.2).bind fun t391 => (if t391 = 0 then (if 28 ≤ (l2.length : Int) then ((stopcockplain_SameBytes.f kj51 bt387.1 (l2.take 28)).bind fun t393 => (some t393)) else (none)) else (some false)))) else (some (t379 == 0 && (t380 == 0 && (t381 == 0 && (t382 == 0 && (t383 == 0))))))) = some r := H; have A71 := Aside0.mk A710; clear A710
                by_cases c72 : t386 = 0
                · rw [if_pos c72] at H
                  have c72b0 : (t386 == 0) = true := beq_iff_eq.mpr c72; have c72b1 : (t386 != 0) = false := bne_eq_false_iff_eq.mpr c72; clear c72; replace H := Option.bind_eq_some_iff.mp H; obtain ⟨⟨t387, t390⟩, A730, H⟩ := H; replace H : ((stopcocklaw03_num.f t390).bind fun t391 => (if t391 = 0 then (if 28 ≤ (l2.length : Int) then ((stopcockplain_SameBytes.f kj51 t387 (l2.take 28)).bind fun t393 => (some t393)) else (none)) else (some false))) = some r := H; have A73 := Aside0.mk A730; clear A730; replace H := Option.bind_eq_some_iff.mp H; obtain ⟨t391, A740, H⟩ := H; replace H : (if t391 = 0 then (if 28 ≤ (l2.length : Int) then ((stopcockplain_SameBytes.f kj51 t387 (l2.take 28)).bind fun t393 => (some t393)) else (none)) else (some false)) = some r := H; have A74 := Aside0.mk A740; clear A740
                  by_cases c75 : t391 = 0
                  · rw [if_pos c75] at H
                    have c75b0 : (t391 == 0) = true := beq_iff_eq.mpr c75; have c75b1 : (t391 != 0) = false := bne_eq_false_iff_eq.mpr c75; clear c75
                    by_cases c76 : 28 ≤ (l2.length : Int)
                    · rw [if_pos c76] at H
                      have c76b0 := eq_true c76; have c76b1 : decide (28 ≤ (l2.length : Int)) = true := decide_eq_true c76; clear c76; replace H := Option.bind_eq_some_iff.mp H; obtain ⟨t393, A770, H⟩ := H; replace H : (some t393) = some r := H; have A77 := Aside0.mk A770; clear A770; obtain rfl := Option.some.inj H
                      go_wp2_with (first | ((with_reducible refine gate_callee (f := 17) rfl ?_); refine goesL_ (some 87) rfl rfl Try.func17 (by kernel_rfl) rfl #[.slice A2 l2.length c2] rfl (by (try simp only [List.map_toArray, List.map_cons, List.map_nil]); first | done | rfl | (simp only [List.length_drop, List.length_take]; rfl)) ?_; (with_reducible refine (ether_ParseArp.calls _ _ l2 t379 t380 t381 t382 t383 t384 _ ?side1 ?side2 A70.out).mono ?_); (case side1 => repeat (first | exact (Kd.C_below HR2.out HB.out) | (with_reducible refine Kd.C_alloc ?_ _) | (with_reducible refine Kd.C_drewN ?_ _) | (with_reducible refine Kd.C_drew ?_))); (case side2 => exact HC2.out); rintro e w78 ⟨rfl, hb⟩; refine ⟨_, rfl, ?_⟩; have n0_ := Aside0.mk (Kd.R_below (by (with_reducible repeat (first | apply Kd.R_alloc | apply Kd.R_drewN | apply Kd.R_drew)); exact HO_372003.out) hb); have n1_ := Aside0.mk (blk_below (g := gb333) (o := .cells #[.int .u64 a0_0, .int .u64 a0_1, .int .i64 a0_2, .slice A0_3 l0_3.length c0_3] 25 (0, 0)) (skp_ BK333.out) hb); have n2_ := Aside0.mk (blk_below (g := gb334) (o := .cells #[.int .i64 a1_0, .int .u64 a1_1, .int .u32 a1_2, .int .u64 a1_3, .int .u32 a1_4] 39 (0, 0)) (skp_ BK334.out) hb); have n3_ := Aside0.mk (blk_below (g := gb371) (o := .cells #[.int .u64 t364, .int .u64 t365, .int .i64 t366, .slice Ao58 t367.length co58] 25 (0, 0)) (skp_ BK371.out) hb); have n4_ := Aside0.mk (below_step (bel3 HB.out GE333.out GE334.out GE371.out) hb); clear HO_372003; clear BK333; clear BK334; clear BK371; clear HB; have HO_372003 := n0_; have BK333 := n1_; have BK334 := n2_; have BK371 := n3_; have HB := n4_; clear n0_ n1_ n2_ n3_ n4_; (try clear hb); (try clear hb2); (try clear hk); (try clear hi)) | ((with_reducible refine gate_dst (N := 16) rfl ?_); refine box_event ?hg (N := 16) ?hd (cs := #[.int .i64 0, .int .u64 0, .int .u32 0, .int .u64 0, .int .u32 0]) (t := 39) ?hr ?_; (case hd => rfl); (case hg => rfl); (case hr => first | (go_simp; done) | (go_simp; rfl)); intro gb385 hg w79 hbox hb; have n0_ := Aside0.mk (Kd.R_below (by (with_reducible repeat (first | apply Kd.R_alloc | apply Kd.R_drewN | apply Kd.R_drew)); exact HO_372003.out) hb); have n1_ := Aside0.mk (blk_below (g := gb333) (o := .cells #[.int .u64 a0_0, .int .u64 a0_1, .int .i64 a0_2, .slice A0_3 l0_3.length c0_3] 25 (0, 0)) (skp_ BK333.out) hb); have n2_ := Aside0.mk (blk_below (g := gb334) (o := .cells #[.int .i64 a1_0, .int .u64 a1_1, .int .u32 a1_2, .int .u64 a1_3, .int .u32 a1_4] 39 (0, 0)) (skp_ BK334.out) hb); have n3_ := Aside0.mk (blk_below (g := gb371) (o := .cells #[.int .u64 t364, .int .u64 t365, .int .i64 t366, .slice Ao58 t367.length co58] 25 (0, 0)) (skp_ BK371.out) hb); have n4_ := Aside0.mk (below_step (bel3 HB.out GE333.out GE334.out GE371.out) hb); have n5_ := Aside0.mk (hbox); have n6_ := Aside0.mk ((by rw [hg]; exact (below_size (bel3 HB.out GE333.out GE334.out GE371.out)) : w.heap.size ≤ gb385)); have n7_ := n6_; have n8_ := Aside0.mk ((by rw [hg]; exact Nat.ne_of_lt (blk_lt (skp_ BK333.out)) : gb333 ≠ gb385)); have n9_ := Aside0.mk ((by rw [hg]; exact Nat.ne_of_gt (blk_lt (skp_ BK333.out)) : gb385 ≠ gb333)); have n10_ := Aside0.mk ((by rw [hg]; exact Nat.ne_of_lt (blk_lt (skp_ BK334.out)) : gb334 ≠ gb385)); have n11_ := Aside0.mk ((by rw [hg]; exact Nat.ne_of_gt (blk_lt (skp_ BK334.out)) : gb385 ≠ gb334)); have n12_ := Aside0.mk ((by rw [hg]; exact Nat.ne_of_lt (blk_lt (skp_ BK371.out)) : gb371 ≠ gb385)); have n13_ := Aside0.mk ((by rw [hg]; exact Nat.ne_of_gt (blk_lt (skp_ BK371.out)) : gb385 ≠ gb371)); clear HO_372003; clear BK333; clear BK334; clear BK371; clear HB; have HO_372003 := n0_; have BK333 := n1_; have BK334 := n2_; have BK371 := n3_; have HB := n4_; have BK385 := n5_; have GW385 := n6_; have GE385 := n7_; have NB333_385 := n8_; have NB385_333 := n9_; have NB334_385 := n10_; have NB385_334 := n11_; have NB371_385 := n12_; have NB385_371 := n13_; clear n0_ n1_ n2_ n3_ n4_ n5_ n6_ n7_ n8_ n9_ n10_ n11_ n12_ n13_; clear hb hbox hg; have hnb80 := NB385_333.out; have hnc80 := NB333_385.out; have hnb81 := NB385_334.out; have hnc81 := NB334_385.out; have hnb82 := NB385_371.out; have hnc82 := NB371_385.out; obtain ⟨hcz83_0, hcz83_1, hcz83_2, hcz83_3, hcz83_4⟩ := cz5 BK385.out; have hfz83_0 := blk_frozen BK385.out) | ((with_reducible refine gate_callee (f := 12) rfl ?_); refine goesL_ (some 91) rfl rfl Try.func12 (by kernel_rfl) rfl #[.int .i64 t384] rfl (by (try simp only [List.map_toArray, List.map_cons, List.map_nil]); first | done | rfl | (simp only [List.length_drop, List.length_take]; rfl)) ?_; (with_reducible refine (stopcocklaw03_num.same t384 t386 _ A71.out).mono ?_); rintro e w' ⟨rfl, rfl⟩; refine ⟨_, rfl, ?_⟩) | ((with_reducible refine gate_callee (f := 14) rfl ?_); refine goesL_ (some 98) rfl rfl Try.func14 (by kernel_rfl) rfl #[.agg #[.int .i64 t379, .int .u64 t380, .int .u32 t381, .int .u64 t382, .int .u32 t383]] rfl (by (try simp only [List.map_toArray, List.map_cons, List.map_nil]); first | done | rfl | (simp only [List.length_drop, List.length_take]; rfl)) ?_; (with_reducible refine (ether_BuildArp.calls t379 t380 t381 t382 t383 t387 t390 _ A73.out).mono ?_); rintro e w84 ⟨v388, rfl, ho0, hb⟩; refine ⟨_, rfl, ?_⟩; have n0_ := Aside0.mk (Kd.R_elder' (by (with_reducible repeat (first | apply Kd.R_alloc | apply Kd.R_drewN | apply Kd.R_drew)); exact (Kd.R_mono (Kd.R_far (p := ⟨gb385, 4, none⟩) (Kd.R_far (p := ⟨gb385, 3, none⟩) (Kd.R_far (p := ⟨gb385, 2, none⟩) (Kd.R_far (p := ⟨gb385, 1, none⟩) (Kd.R_far (p := ⟨gb385, 0, none⟩) (Kd.R_types HO_372003.out BK385.out (by decide)) (fun _ hk => hk.2) (.int .i64 t379)) (fun _ hk => hk.2) (.int .u64 t380)) (fun _ hk => hk.2) (.int .u32 t381)) (fun _ hk => hk.2) (.int .u64 t382)) (fun _ hk => hk.2) (.int .u32 t383)) (fun _ h_ => h_.1))) (Kd.R_base ho0) hb); have n1_ := Aside0.mk (Kd.R_lower (Kd.R_new' ho0 (Kd.R_lt (by (with_reducible repeat (first | apply Kd.R_alloc | apply Kd.R_drewN | apply Kd.R_drew)); exact (Kd.R_mono (Kd.R_far (p := ⟨gb385, 4, none⟩) (Kd.R_far (p := ⟨gb385, 3, none⟩) (Kd.R_far (p := ⟨gb385, 2, none⟩) (Kd.R_far (p := ⟨gb385, 1, none⟩) (Kd.R_far (p := ⟨gb385, 0, none⟩) (Kd.R_types HO_372003.out BK385.out (by decide)) (fun _ hk => hk.2) (.int .i64 t379)) (fun _ hk => hk.2) (.int .u64 t380)) (fun _ hk => hk.2) (.int .u32 t381)) (fun _ hk => hk.2) (.int .u64 t382)) (fun _ hk => hk.2) (.int .u32 t383)) (fun _ h_ => h_.1))))) (below_size (bel4 HB.out GE333.out GE334.out GE371.out GE385.out))); have n2_ := Aside0.mk (blk_below (g := gb333) (o := .cells #[.int .u64 a0_0, .int .u64 a0_1, .int .i64 a0_2, .slice A0_3 l0_3.length c0_3] 25 (0, 0)) (by exact far_ NB333_385.out BK333.out) hb); have n3_ := Aside0.mk (blk_below (g := gb334) (o := .cells #[.int .i64 a1_0, .int .u64 a1_1, .int .u32 a1_2, .int .u64 a1_3, .int .u32 a1_4] 39 (0, 0)) (by exact far_ NB334_385.out BK334.out) hb); have n4_ := Aside0.mk (blk_below (g := gb371) (o := .cells #[.int .u64 t364, .int .u64 t365, .int .i64 t366, .slice Ao58 t367.length co58] 25 (0, 0)) (by exact far_ NB371_385.out BK371.out) hb); have n5_ := Aside0.mk (blk_below (g := gb385) (o := .cells #[.int .i64 t379, .int .u64 t380, .int .u32 t381, .int .u64 t382, .int .u32 t383] 39 (0, 0)) (by exact put_ BK385.out rfl) hb); have n6_ := Aside0.mk (below_step (bel4 HB.out GE333.out GE334.out GE371.out GE385.out) hb); clear HO_372003; clear BK333; clear BK334; clear BK371; clear BK385; clear HB; have HO_372003 := n0_; have HO389 := n1_; have BK333 := n2_; have BK334 := n3_; have BK371 := n4_; have BK385 := n5_; have HB := n6_; clear n0_ n1_ n2_ n3_ n4_ n5_ n6_; (try clear hb); (try clear hb2); (try clear hk); (try clear hi); (try clear ho0)) | ((with_reducible refine gate_callee (f := 12) rfl ?_); refine goesL_ (some 102) rfl rfl Try.func12 (by kernel_rfl) rfl #[.int .i64 t390] rfl (by (try simp only [List.map_toArray, List.map_cons, List.map_nil]); first | done | rfl | (simp only [List.length_drop, List.length_take]; rfl)) ?_; (with_reducible refine (stopcocklaw03_num.same t390 t391 _ A74.out).mono ?_); rintro e w' ⟨rfl, rfl⟩; refine ⟨_, rfl, ?_⟩; obtain ⟨i085, hi085, _, hsz85, _⟩ := info_parts info5; obtain ⟨hcut85, hA85, hC85⟩ := print_take_of (P := Try.prog) (Value.int .u8) 0 23 5 .i64 Try.underlying23 hi085 hsz85 A2 c2 l2 28 (by omega) (of_decide_eq_true (by first | (with_reducible assumption) | assumption)) HC2.out; have HR392 := Aside0.mk (Kd.C_of_reads (h1 := fun _ => rfl) (hA85 _ (Kd.reads_of_C HR2.out))); have HC392 := Aside0.mk hC85; clear hA85 hC85 hi085 hsz85; obtain ⟨Ao86, co86, eo86⟩ := Kd.R_slice HO389.out; subst eo86) | (go_at_call 10; (try rw [show min 28 l2.length = (l2.take 28).length from List.length_take.symm]); (with_reducible refine (stopcockplain_SameBytes.calls kj51 _ _ t387 _ _ (l2.take 28) t393 _ ?side1 ?side2 ?side3 ?side4 A77.out).mono ?_); (case side1 => repeat (first | exact (Kd.R_reads' HO389.out).2.2 | (with_reducible refine Kd.C_alloc ?_ _) | (with_reducible refine Kd.C_drewN ?_ _) | (with_reducible refine Kd.C_drew ?_))); (case side2 => exact (Kd.R_reads' HO389.out).2.1); (case side3 => repeat (first | exact (Kd.C_below HR392.out (bel4 HB.out GE333.out GE334.out GE371.out GE385.out)) | (with_reducible refine Kd.C_alloc ?_ _) | (with_reducible refine Kd.C_drewN ?_ _) | (with_reducible refine Kd.C_drew ?_))); (case side4 => exact HC392.out); rintro e w' ⟨rfl, ⟨nd, rfl⟩⟩))
                      go_ret
                      exact ⟨by first | rfl | (simp [errW_none, errW_some] <;> rfl) | (simp [*, errW_none, errW_some] <;> rfl), by exact bel4 HB.out GE333.out GE334.out GE371.out GE385.out⟩
                    rw [if_neg c76] at H; exact absurd H (by simp)
                  rw [if_neg c75] at H; have c75b0 : (t391 == 0) = false := beq_eq_false_iff_ne.mpr c75; have c75b1 : (t391 != 0) = true := bne_iff_ne.mpr c75; exact absurd ((Option.some.inj H).trans HRT.out) (by decide)
                rw [if_neg c72] at H; have c72b0 : (t386 == 0) = false := beq_eq_false_iff_ne.mpr c72; have c72b1 : (t386 != 0) = true := bne_iff_ne.mpr c72; obtain rfl := Option.some.inj H
                go_wp2_with (first | ((with_reducible refine gate_callee (f := 17) rfl ?_); refine goesL_ (some 87) rfl rfl Try.func17 (by kernel_rfl) rfl #[.slice A2 l2.length c2] rfl (by (try simp only [List.map_toArray, List.map_cons, List.map_nil]); first | done | rfl | (simp only [List.length_drop, List.length_take]; rfl)) ?_; (with_reducible refine (ether_ParseArp.calls _ _ l2 t379 t380 t381 t382 t383 t384 _ ?side1 ?side2 A70.out).mono ?_); (case side1 => repeat (first | exact (Kd.C_below HR2.out HB.out) | (with_reducible refine Kd.C_alloc ?_ _) | (with_reducible refine Kd.C_drewN ?_ _) | (with_reducible refine Kd.C_drew ?_))); (case side2 => exact HC2.out); rintro e w87 ⟨rfl, hb⟩; refine ⟨_, rfl, ?_⟩; have n0_ := Aside0.mk (Kd.R_below (by (with_reducible repeat (first | apply Kd.R_alloc | apply Kd.R_drewN | apply Kd.R_drew)); exact HO_372003.out) hb); have n1_ := Aside0.mk (blk_below (g := gb333) (o := .cells #[.int .u64 a0_0, .int .u64 a0_1, .int .i64 a0_2, .slice A0_3 l0_3.length c0_3] 25 (0, 0)) (skp_ BK333.out) hb); have n2_ := Aside0.mk (blk_below (g := gb334) (o := .cells #[.int .i64 a1_0, .int .u64 a1_1, .int .u32 a1_2, .int .u64 a1_3, .int .u32 a1_4] 39 (0, 0)) (skp_ BK334.out) hb); have n3_ := Aside0.mk (blk_below (g := gb371) (o := .cells #[.int .u64 t364, .int .u64 t365, .int .i64 t366, .slice Ao58 t367.length co58] 25 (0, 0)) (skp_ BK371.out) hb); have n4_ := Aside0.mk (below_step (bel3 HB.out GE333.out GE334.out GE371.out) hb); clear HO_372003; clear BK333; clear BK334; clear BK371; clear HB; have HO_372003 := n0_; have BK333 := n1_; have BK334 := n2_; have BK371 := n3_; have HB := n4_; clear n0_ n1_ n2_ n3_ n4_; (try clear hb); (try clear hb2); (try clear hk); (try clear hi)) | ((with_reducible refine gate_dst (N := 16) rfl ?_); refine box_event ?hg (N := 16) ?hd (cs := #[.int .i64 0, .int .u64 0, .int .u32 0, .int .u64 0, .int .u32 0]) (t := 39) ?hr ?_; (case hd => rfl); (case hg => rfl); (case hr => first | (go_simp; done) | (go_simp; rfl)); intro gb385 hg w88 hbox hb; have n0_ := Aside0.mk (Kd.R_below (by (with_reducible repeat (first | apply Kd.R_alloc | apply Kd.R_drewN | apply Kd.R_drew)); exact HO_372003.out) hb); have n1_ := Aside0.mk (blk_below (g := gb333) (o := .cells #[.int .u64 a0_0, .int .u64 a0_1, .int .i64 a0_2, .slice A0_3 l0_3.length c0_3] 25 (0, 0)) (skp_ BK333.out) hb); have n2_ := Aside0.mk (blk_below (g := gb334) (o := .cells #[.int .i64 a1_0, .int .u64 a1_1, .int .u32 a1_2, .int .u64 a1_3, .int .u32 a1_4] 39 (0, 0)) (skp_ BK334.out) hb); have n3_ := Aside0.mk (blk_below (g := gb371) (o := .cells #[.int .u64 t364, .int .u64 t365, .int .i64 t366, .slice Ao58 t367.length co58] 25 (0, 0)) (skp_ BK371.out) hb); have n4_ := Aside0.mk (below_step (bel3 HB.out GE333.out GE334.out GE371.out) hb); have n5_ := Aside0.mk (hbox); have n6_ := Aside0.mk ((by rw [hg]; exact (below_size (bel3 HB.out GE333.out GE334.out GE371.out)) : w.heap.size ≤ gb385)); have n7_ := n6_; have n8_ := Aside0.mk ((by rw [hg]; exact Nat.ne_of_lt (blk_lt (skp_ BK333.out)) : gb333 ≠ gb385)); have n9_ := Aside0.mk ((by rw [hg]; exact Nat.ne_of_gt (blk_lt (skp_ BK333.out)) : gb385 ≠ gb333)); have n10_ := Aside0.mk ((by rw [hg]; exact Nat.ne_of_lt (blk_lt (skp_ BK334.out)) : gb334 ≠ gb385)); have n11_ := Aside0.mk ((by rw [hg]; exact Nat.ne_of_gt (blk_lt (skp_ BK334.out)) : gb385 ≠ gb334)); have n12_ := Aside0.mk ((by rw [hg]; exact Nat.ne_of_lt (blk_lt (skp_ BK371.out)) : gb371 ≠ gb385)); have n13_ := Aside0.mk ((by rw [hg]; exact Nat.ne_of_gt (blk_lt (skp_ BK371.out)) : gb385 ≠ gb371)); clear HO_372003; clear BK333; clear BK334; clear BK371; clear HB; have HO_372003 := n0_; have BK333 := n1_; have BK334 := n2_; have BK371 := n3_; have HB := n4_; have BK385 := n5_; have GW385 := n6_; have GE385 := n7_; have NB333_385 := n8_; have NB385_333 := n9_; have NB334_385 := n10_; have NB385_334 := n11_; have NB371_385 := n12_; have NB385_371 := n13_; clear n0_ n1_ n2_ n3_ n4_ n5_ n6_ n7_ n8_ n9_ n10_ n11_ n12_ n13_; clear hb hbox hg; have hnb89 := NB385_333.out; have hnc89 := NB333_385.out; have hnb90 := NB385_334.out; have hnc90 := NB334_385.out; have hnb91 := NB385_371.out; have hnc91 := NB371_385.out; obtain ⟨hcz92_0, hcz92_1, hcz92_2, hcz92_3, hcz92_4⟩ := cz5 BK385.out; have hfz92_0 := blk_frozen BK385.out) | ((with_reducible refine gate_callee (f := 12) rfl ?_); refine goesL_ (some 91) rfl rfl Try.func12 (by kernel_rfl) rfl #[.int .i64 t384] rfl (by (try simp only [List.map_toArray, List.map_cons, List.map_nil]); first | done | rfl | (simp only [List.length_drop, List.length_take]; rfl)) ?_; (with_reducible refine (stopcocklaw03_num.same t384 t386 _ A71.out).mono ?_); rintro e w' ⟨rfl, rfl⟩; refine ⟨_, rfl, ?_⟩))
                go_ret
                exact ⟨by first | rfl | (simp [errW_none, errW_some] <;> rfl) | (simp [*, errW_none, errW_some] <;> rfl), by exact bel4 HB.out GE333.out GE334.out GE371.out GE385.out⟩
  replace c5 := Bool.eq_false_iff.mpr c5
  subst c5
  have H1 : (some false) = some r := by rw [if_neg (show ¬ (false = true) by decide)] at H; exact H
  clear H; have H := H1; clear H1; exact absurd ((Option.some.inj H).trans HRT.out) (by decide)

/-- THE ONE PURE STATEMENT of stopcocklaw03_EtherBack. -/
def stopcocklaw03_EtherBack.Pure : Prop := ∀ (a0_0 : Int) (a0_1 : Int) (a0_2 : Int) (l0_3 : List Int) (a1_0 : Int) (a1_1 : Int) (a1_2 : Int) (a1_3 : Int) (a1_4 : Int) (l2 : List Int), ((Lit.int .u64 a0_0).wf = true) → ((Lit.int .u64 a0_1).wf = true) → ((Lit.int .i64 a0_2).wf = true) → l0_3.length * 1 ≤ 140737488351232 → (∀ y ∈ l0_3, (Lit.int .u8 y).wf = true) → ((Lit.int .i64 a1_0).wf = true) → ((Lit.int .u64 a1_1).wf = true) → ((Lit.int .u32 a1_2).wf = true) → ((Lit.int .u64 a1_3).wf = true) → ((Lit.int .u32 a1_4).wf = true) → l2.length * 1 ≤ 140737488351232 → (∀ y ∈ l2, (Lit.int .u8 y).wf = true) → ∃ k, stopcocklaw03_EtherBack.f k a0_0 a0_1 a0_2 l0_3 a1_0 a1_1 a1_2 a1_3 a1_4 l2 = some true

end Go.Proofs.Ythfhljdegbcpmaa.PA
