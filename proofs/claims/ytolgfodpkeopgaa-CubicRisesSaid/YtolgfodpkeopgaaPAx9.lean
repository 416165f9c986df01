-- Written by a program of this session (wip/tools/mkprint.py, mp.sh) for this claim.
import Derived.Test.YtolgfodpkeopgaaPAx0
import Derived.Test.YtolgfodpkeopgaaPAx3
import Derived.Test.YtolgfodpkeopgaaPAx4
import Derived.Test.YtolgfodpkeopgaaPAx5
import Derived.Test.YtolgfodpkeopgaaPAx6
namespace Go.Proofs.Ytolgfodpkeopgaa.PA
open Go.RowKit Go.Proofs.YtolgfodpkeopgaaW.PrintWords Go.Proofs.YtolgfodpkeopgaaW.PrintLast Go.Proofs.YtolgfodpkeopgaaW.PrintMore
attribute [local go_sem] max2_int min2_int max_two min_two max_three min_three max_four min_four   -- for this text's walks alone
set_option linter.unusedVariables false
set_option linter.unusedSimpArgs false

/-! ### stopcocklaw21_CubicRises: function 5 -/
mutual
def stopcocklaw21_CubicRises.j0 : Nat → Int → Int → Int → Int → Int → Bool → Option (Bool)
  | 0, _, _, _, _, _, _ => none
  | k + 1, x0, x1, x2, x15, x16, x79 => if x79 = true then (some false) else ((stopcocklaw21_num.f x16).bind fun t173 => (if t173 = 0 then (if x1 > x0 then (stopcocklaw21_CubicRises.j1 k x0 x1 x2 x15 x16 true) else (stopcocklaw21_CubicRises.j1 k x0 x1 x2 x15 x16 (decide (x15 > 29999)))) else (stopcocklaw21_CubicRises.j1 k x0 x1 x2 x15 x16 true)))
def stopcocklaw21_CubicRises.j1 : Nat → Int → Int → Int → Int → Int → Bool → Option (Bool)
  | 0, _, _, _, _, _, _ => none
  | k + 1, x0, x1, x2, x15, x16, x91 => if x91 = true then ((stopcocklaw21_num.f x16).bind fun t174 => (if t174 = 0 then (if x1 > x0 then (some true) else (some (decide (x15 > 29999)))) else (some true))) else ((cubic_Curve.f k x0 x2 (wrap64 (-x15))).bind fun bt175 => ((cubic_Curve.f k x0 x2 (wrap64 ((wrap64 (-x15)) - 1))).bind fun bt177 => (if bt175.1 ≥ (wrap64 (x1 - 1)) then (some (decide (bt177.1 ≤ x1))) else (some false))))
end
def stopcocklaw21_CubicRises.f (k : Nat) (a0 : Int) (a1 : Int) (a2 : Int) (a3 : Int) : Option (Bool) := (stopcocklaw21_alive.f k).bind fun t161 => (if t161 = true then ((cubic_Curve.f k a0 a2 (Int.tmod a3 40000)).bind fun bt162 => ((cubic_Curve.f k a0 a2 (wrap64 ((Int.tmod a3 40000) + 1))).bind fun bt164 => ((cubic_Curve.f k a0 a2 0).bind fun bt166 => ((cubic_Turn.f k a0 a1 a2).bind fun bt168 => ((stopcocklaw21_num.f bt162.2).bind fun t170 => (if t170 = 0 then ((stopcocklaw21_num.f bt164.2).bind fun t171 => ((stopcocklaw21_num.f bt166.2).bind fun t172 => (if (wrap64 (t171 + t172)) = 0 then (if bt162.1 > bt164.1 then (stopcocklaw21_CubicRises.j0 k a0 a1 a2 bt168.1 bt168.2 true) else (stopcocklaw21_CubicRises.j0 k a0 a1 a2 bt168.1 bt168.2 (bt166.1 != a0))) else (stopcocklaw21_CubicRises.j0 k a0 a1 a2 bt168.1 bt168.2 true)))) else (if bt162.2 = bt164.2 then (some (bt164.2 == bt166.2)) else (some false)))))))) else (some false))
theorem stopcocklaw21_CubicRises.mono_l : ∀ k, (∀ y0 y1 y2 y3 y4 y5, LeO (stopcocklaw21_CubicRises.j0 k y0 y1 y2 y3 y4 y5) (stopcocklaw21_CubicRises.j0 (k + 1) y0 y1 y2 y3 y4 y5)) ∧ (∀ y0 y1 y2 y3 y4 y5, LeO (stopcocklaw21_CubicRises.j1 k y0 y1 y2 y3 y4 y5) (stopcocklaw21_CubicRises.j1 (k + 1) y0 y1 y2 y3 y4 y5))
  | 0 => ⟨fun _ _ _ _ _ _ r h => by simp [stopcocklaw21_CubicRises.j0] at h, fun _ _ _ _ _ _ r h => by simp [stopcocklaw21_CubicRises.j1] at h⟩
  | k + 1 => by
    obtain ⟨ih0, ih1⟩ := stopcocklaw21_CubicRises.mono_l k
    refine ⟨?_, ?_⟩
    · intro y0 y1 y2 y3 y4 y5
      unfold stopcocklaw21_CubicRises.j0
      repeat' first
      | (with_reducible exact ih0 _ _ _ _ _ _)
      | (with_reducible exact ih1 _ _ _ _ _ _)
      | (with_reducible exact cubic_Curve.mono _ _ _ _)
      | (with_reducible exact cubic_Turn.mono _ _ _ _)
      | (with_reducible exact stopcocklaw21_alive.mono _)
      | (with_reducible exact LeO.refl _)
      | (with_reducible exact LeO.none _)
      | (with_reducible refine LeO.ite ?_ ?_)
      | (with_reducible refine LeO.bind ?_ (fun _ => ?_))
      | exact ih0 _ _ _ _ _ _
      | exact ih1 _ _ _ _ _ _
      | exact cubic_Curve.mono _ _ _ _
      | exact cubic_Turn.mono _ _ _ _
      | exact stopcocklaw21_alive.mono _
      | exact LeO.none _
      | refine LeO.ite ?_ ?_
      | refine LeO.bind ?_ (fun _ => ?_)
    · intro y0 y1 y2 y3 y4 y5
      unfold stopcocklaw21_CubicRises.j1
      repeat' first
      | (with_reducible exact ih0 _ _ _ _ _ _)
      | (with_reducible exact ih1 _ _ _ _ _ _)
      | (with_reducible exact cubic_Curve.mono _ _ _ _)
      | (with_reducible exact cubic_Turn.mono _ _ _ _)
      | (with_reducible exact stopcocklaw21_alive.mono _)
      | (with_reducible exact LeO.refl _)
      | (with_reducible exact LeO.none _)
      | (with_reducible refine LeO.ite ?_ ?_)
      | (with_reducible refine LeO.bind ?_ (fun _ => ?_))
      | exact ih0 _ _ _ _ _ _
      | exact ih1 _ _ _ _ _ _
      | exact cubic_Curve.mono _ _ _ _
      | exact cubic_Turn.mono _ _ _ _
      | exact stopcocklaw21_alive.mono _
      | exact LeO.none _
      | refine LeO.ite ?_ ?_
      | refine LeO.bind ?_ (fun _ => ?_)
theorem stopcocklaw21_CubicRises.mono : ∀ a0 a1 a2 a3 k, LeO (stopcocklaw21_CubicRises.f k a0 a1 a2 a3) (stopcocklaw21_CubicRises.f (k + 1) a0 a1 a2 a3) := by
  intro a0 a1 a2 a3 k
  obtain ⟨ih0, ih1⟩ := stopcocklaw21_CubicRises.mono_l k
  unfold stopcocklaw21_CubicRises.f
  repeat' first
      | (with_reducible exact ih0 _ _ _ _ _ _)
      | (with_reducible exact ih1 _ _ _ _ _ _)
      | (with_reducible exact cubic_Curve.mono _ _ _ _)
      | (with_reducible exact cubic_Turn.mono _ _ _ _)
      | (with_reducible exact stopcocklaw21_alive.mono _)
      | (with_reducible exact LeO.refl _)
      | (with_reducible exact LeO.none _)
      | (with_reducible refine LeO.ite ?_ ?_)
      | (with_reducible refine LeO.bind ?_ (fun _ => ?_))
      | exact ih0 _ _ _ _ _ _
      | exact ih1 _ _ _ _ _ _
      | exact cubic_Curve.mono _ _ _ _
      | exact cubic_Turn.mono _ _ _ _
      | exact stopcocklaw21_alive.mono _
      | exact LeO.none _
      | refine LeO.ite ?_ ?_
      | refine LeO.bind ?_ (fun _ => ?_)
set_option maxHeartbeats 8000000 in
set_option maxRecDepth 100000 in
theorem stopcocklaw21_CubicRises.calls (k : Nat) (a0 : Int) (a1 : Int) (a2 : Int) (a3 : Int) (r : Bool) (w : World) (h : stopcocklaw21_CubicRises.f k a0 a1 a2 a3 = some r) (hrt : r = true) :
    Calls Try.prog 5 #[.int .i64 a0, .int .i64 a1, .int .i64 a2, .int .i64 a3] w fun e w' => e = .returned (.bool r) ∧ Below w.heap.size w w' := by
  have HRT := Aside0.mk hrt
  clear hrt
  have HB := Aside0.mk (Below.refl w.heap.size w)
  have H : ((stopcocklaw21_alive.f k).bind fun t161 => (if t161 = true then ((cubic_Curve.f k a0 a2 (Int.tmod a3 40000)).bind fun bt162 => ((cubic_Curve.f k a0 a2 (wrap64 ((Int.tmod a3 40000) + 1))).bind fun bt164 => ((cubic_Curve.f k a0 a2 0).bind fun bt166 => ((cubic_Turn.f k a0 a1 a2).bind fun bt168 => ((stopcocklaw21_num.f bt162.2).bind fun t170 => (if t170 = 0 then ((stopcocklaw21_num.f bt164.2).bind fun t171 => ((stopcocklaw21_num.f bt166.2).bind fun t172 => (if (wrap64 (t171 + t172)) = 0 then (if bt162.1 > bt164.1 then (stopcocklaw21_CubicRises.j0 k a0 a1 a2 bt168.1 bt168.2 true) else (stopcocklaw21_CubicRises.j0 k a0 a1 a2 bt168.1 bt168.2 (bt166.1 != a0))) else (stopcocklaw21_CubicRises.j0 k a0 a1 a2 bt168.1 bt168.2 true)))) else (if bt162.2 = bt164.2 then (some (bt164.2 == bt166.2)) else (some false)))))))) else (some false))) = some r := h
  clear h
  replace H := Option.bind_eq_some_iff.mp H
  obtain ⟨t161, A50, H⟩ := H
  replace H : (if t161 = true then ((cubic_Curve.f k a0 a2 (Int.tmod a3 40000)).bind fun bt162 => ((cubic_Curve.f k a0 a2 (wrap64 ((Int.tmod a3 40000) + 1))).bind fun bt164 => ((cubic_Curve.f k a0 a2 0).bind fun bt166 => ((cubic_Turn.f k a0 a1 a2).bind fun bt168 => ((stopcocklaw21_num.f bt162.2).bind fun t170 => (if t170 = 0 then ((stopcocklaw21_num.f bt164.2).bind fun t171 => ((stopcocklaw21_num.f bt166.2).bind fun t172 => (if (wrap64 (t171 + t172)) = 0 then (if bt162.1 > bt164.1 then (stopcocklaw21_CubicRises.j0 k a0 a1 a2 bt168.1 bt168.2 true) else (stopcocklaw21_CubicRises.j0 k a0 a1 a2 bt168.1 bt168.2 (bt166.1 != a0))) else (stopcocklaw21_CubicRises.j0 k a0 a1 a2 bt168.1 bt168.2 true)))) else (if bt162.2 = bt164.2 then (some (bt164.2 == bt166.2)) else (some false)))))))) else (some false)) = some r := H
  have A5 := Aside0.mk A50
  clear A50
  by_cases c6 : t161 = true
  · subst c6
    have H1 : ((cubic_Curve.f k a0 a2 (Int.tmod a3 40000)).bind fun bt162 => ((cubic_Curve.f k a0 a2 (wrap64 ((Int.tmod a3 40000) + 1))).bind fun bt164 => ((cubic_Curve.f k a0 a2 0).bind fun bt166 => ((cubic_Turn.f k a0 a1 a2).bind fun bt168 => ((stopcocklaw21_num.f bt162.2).bind fun t170 => (if t170 = 0 then ((stopcocklaw21_num.f bt164.2).bind fun t171 => ((stopcocklaw21_num.f bt166.2).bind fun t172 => (if (wrap64 (t171 + t172)) = 0 then (if bt162.1 > bt164.1 then (stopcocklaw21_CubicRises.j0 k a0 a1 a2 bt168.1 bt168.2 true) else (stopcocklaw21_CubicRises.j0 k a0 a1 a2 bt168.1 bt168.2 (bt166.1 != a0))) else (stopcocklaw21_CubicRises.j0 k a0 a1 a2 bt168.1 bt168.2 true)))) else (if bt162.2 = bt164.2 then (some (bt164.2 == bt166.2)) else (some false)))))))) = some r := by rw [if_pos rfl] at H; exact H
    clear H
    have H := H1
    clear H1
    replace H := Option.bind_eq_some_iff.mp H
    obtain ⟨⟨t162, t163⟩, A70, H⟩ := H
    replace H : ((cubic_Curve.f k a0 a2 (wrap64 ((Int.tmod a3 40000) + 1))).bind fun bt164 => ((cubic_Curve.f k a0 a2 0).bind fun bt166 => ((cubic_Turn.f k a0 a1 a2).bind fun bt168 => ((stopcocklaw21_num.f t163).bind fun t170 => (if t170 = 0 then ((stopcocklaw21_num.f bt164.2).bind fun t171 => ((stopcocklaw21_num.f bt166.2).bind fun t172 => (if (wrap64 (t171 + t172)) = 0 then (if t162 > bt164.1 then (stopcocklaw21_CubicRises.j0 k a0 a1 a2 bt168.1 bt168.2 true) else (stopcocklaw21_CubicRises.j0 k a0 a1 a2 bt168.1 bt168.2 (bt166.1 != a0))) else (stopcocklaw21_CubicRises.j0 k a0 a1 a2 bt168.1 bt168.2 true)))) else (if t163 = bt164.2 then (some (bt164.2 == bt166.2)) else (some false))))))) = some r := H
    have A7 := Aside0.mk A70
    clear A70
    replace H := Option.bind_eq_some_iff.mp H
    obtain ⟨⟨t164, t165⟩, A80, H⟩ := H
    replace H : ((cubic_Curve.f k a0 a2 0).bind fun bt166 => ((cubic_Turn.f k a0 a1 a2).bind fun bt168 => ((stopcocklaw21_num.f t163).bind fun t170 => (if t170 = 0 then ((stopcocklaw21_num.f t165).bind fun t171 => ((stopcocklaw21_num.f bt166.2).bind fun t172 => (if (wrap64 (t171 + t172)) = 0 then (if t162 > t164 then (stopcocklaw21_CubicRises.j0 k a0 a1 a2 bt168.1 bt168.2 true) else (stopcocklaw21_CubicRises.j0 k a0 a1 a2 bt168.1 bt168.2 (bt166.1 != a0))) else (stopcocklaw21_CubicRises.j0 k a0 a1 a2 bt168.1 bt168.2 true)))) else (if t163 = t165 then (some (t165 == bt166.2)) else (some false)))))) = some r := H
    have A8 := Aside0.mk A80
    clear A80
    replace H := Option.bind_eq_some_iff.mp H
    obtain ⟨⟨t166, t167⟩, A90, H⟩ := H
    replace H : ((cubic_Turn.f k a0 a1 a2).bind fun bt168 => ((stopcocklaw21_num.f t163).bind fun t170 => (if t170 = 0 then ((stopcocklaw21_num.f t165).bind fun t171 => ((stopcocklaw21_num.f t167).bind fun t172 => (if (wrap64 (t171 + t172)) = 0 then (if t162 > t164 then (stopcocklaw21_CubicRises.j0 k a0 a1 a2 bt168.1 bt168.2 true) else (stopcocklaw21_CubicRises.j0 k a0 a1 a2 bt168.1 bt168.2 (t166 != a0))) else (stopcocklaw21_CubicRises.j0 k a0 a1 a2 bt168.1 bt168.2 true)))) else (if t163 = t165 then (some (t165 == t167)) else (some false))))) = some r := H
    have A9 := Aside0.mk A90
    clear A90
    replace H := Option.bind_eq_some_iff.mp H
    obtain ⟨⟨t168, t169⟩, A100, H⟩ := H
    replace H : ((stopcocklaw21_num.f t163).bind fun t170 => (if t170 = 0 then ((stopcocklaw21_num.f t165).bind fun t171 => ((stopcocklaw21_num.f t167).bind fun t172 => (if (wrap64 (t171 + t172)) = 0 then (if t162 > t164 then (stopcocklaw21_CubicRises.j0 k a0 a1 a2 t168 t169 true) else (stopcocklaw21_CubicRises.j0 k a0 a1 a2 t168 t169 (t166 != a0))) else (stopcocklaw21_CubicRises.j0 k a0 a1 a2 t168 t169 true)))) else (if t163 = t165 then (some (t165 == t167)) else (some false)))) = some r := H
    have A10 := Aside0.mk A100
    clear A100
    replace H := Option.bind_eq_some_iff.mp H
    obtain ⟨t170, A110, H⟩ := H
    replace H : (if t170 = 0 then ((stopcocklaw21_num.f t165).bind fun t171 => ((stopcocklaw21_num.f t167).bind fun t172 => (if (wrap64 (t171 + t172)) = 0 then (if t162 > t164 then (stopcocklaw21_CubicRises.j0 k a0 a1 a2 t168 t169 true) else (stopcocklaw21_CubicRises.j0 k a0 a1 a2 t168 t169 (t166 != a0))) else (stopcocklaw21_CubicRises.j0 k a0 a1 a2 t168 t169 true)))) else (if t163 = t165 then (some (t165 == t167)) else (some false))) = some r := H
    have A11 := Aside0.mk A110
    clear A110
    by_cases c12 : t170 = 0
    · rw [if_pos c12] at H
      have c12b0 : (t170 == 0) = true := beq_iff_eq.mpr c12
      have c12b1 : (t170 != 0) = false := bne_eq_false_iff_eq.mpr c12
      clear c12
      have HC13 := Aside0.mk H
      clear H
      go_enter Try.func5, Try.ntmps5
      go_upto_region 10 with (first | ((with_reducible refine gate_callee (f := 14) rfl ?_); refine goesL_ (some 21) rfl rfl Try.func14 (by kernel_rfl) rfl #[] rfl (by (try simp only [List.map_toArray, List.map_cons, List.map_nil]); first | done | rfl | (simp only [List.length_drop, List.length_take]; rfl)) ?_; (with_reducible refine (stopcocklaw21_alive.calls k  true _ A5.out).mono ?_); rintro e w14 ⟨rfl, hb⟩; refine ⟨_, rfl, ?_⟩; have n0_ := Aside0.mk (below_step (by repeat (first | (with_reducible first | exact HB.out | apply below_alloc | apply pw_below_drewN | apply below_drew1) | exact HB.out)) hb); clear HB; have HB := n0_; clear n0_; (try clear hb); (try clear hb2); (try clear hk); (try clear hi)) | ((with_reducible refine gate_callee (f := 9) rfl ?_); refine goesL_ (some 29) rfl rfl Try.func9 (by kernel_rfl) rfl #[.int .i64 a0, .int .i64 a2, .int .i64 (Int.tmod a3 40000)] rfl (by (try simp only [List.map_toArray, List.map_cons, List.map_nil]); first | done | rfl | (simp only [List.length_drop, List.length_take]; rfl)) ?_; (with_reducible refine (cubic_Curve.calls k a0 a2 (Int.tmod a3 40000) t162 t163 _ A7.out).mono ?_); rintro e w15 ⟨rfl, hb⟩; refine ⟨_, rfl, ?_⟩; have n0_ := Aside0.mk (below_step (by repeat (first | (with_reducible first | exact HB.out | apply below_alloc | apply pw_below_drewN | apply below_drew1) | exact HB.out)) hb); clear HB; have HB := n0_; clear n0_; (try clear hb); (try clear hb2); (try clear hk); (try clear hi)) | ((with_reducible refine gate_callee (f := 9) rfl ?_); refine goesL_ (some 37) rfl rfl Try.func9 (by kernel_rfl) rfl #[.int .i64 a0, .int .i64 a2, .int .i64 (wrap64 ((Int.tmod a3 40000) + 1))] rfl (by (try simp only [List.map_toArray, List.map_cons, List.map_nil]); first | done | rfl | (simp only [List.length_drop, List.length_take]; rfl)) ?_; (with_reducible refine (cubic_Curve.calls k a0 a2 (wrap64 ((Int.tmod a3 40000) + 1)) t164 t165 _ A8.out).mono ?_); rintro e w16 ⟨rfl, hb⟩; refine ⟨_, rfl, ?_⟩; have n0_ := Aside0.mk (below_step (by repeat (first | (with_reducible first | exact HB.out | apply below_alloc | apply pw_below_drewN | apply below_drew1) | exact HB.out)) hb); clear HB; have HB := n0_; clear n0_; (try clear hb); (try clear hb2); (try clear hk); (try clear hi)) | ((with_reducible refine gate_callee (f := 9) rfl ?_); refine goesL_ (some 43) rfl rfl Try.func9 (by kernel_rfl) rfl #[.int .i64 a0, .int .i64 a2, .int .i64 0] rfl (by (try simp only [List.map_toArray, List.map_cons, List.map_nil]); first | done | rfl | (simp only [List.length_drop, List.length_take]; rfl)) ?_; (with_reducible refine (cubic_Curve.calls k a0 a2 0 t166 t167 _ A9.out).mono ?_); rintro e w17 ⟨rfl, hb⟩; refine ⟨_, rfl, ?_⟩; have n0_ := Aside0.mk (below_step (by repeat (first | (with_reducible first | exact HB.out | apply below_alloc | apply pw_below_drewN | apply below_drew1) | exact HB.out)) hb); clear HB; have HB := n0_; clear n0_; (try clear hb); (try clear hb2); (try clear hk); (try clear hi)) | ((with_reducible refine gate_callee (f := 11) rfl ?_); refine goesL_ (some 50) rfl rfl Try.func11 (by kernel_rfl) rfl #[.int .i64 a0, .int .i64 a1, .int .i64 a2] rfl (by (try simp only [List.map_toArray, List.map_cons, List.map_nil]); first | done | rfl | (simp only [List.length_drop, List.length_take]; rfl)) ?_; (with_reducible refine (cubic_Turn.calls k a0 a1 a2 t168 t169 _ A10.out).mono ?_); rintro e w18 ⟨rfl, hb⟩; refine ⟨_, rfl, ?_⟩; have n0_ := Aside0.mk (below_step (by repeat (first | (with_reducible first | exact HB.out | apply below_alloc | apply pw_below_drewN | apply below_drew1) | exact HB.out)) hb); clear HB; have HB := n0_; clear n0_; (try clear hb); (try clear hb2); (try clear hk); (try clear hi)) | ((with_reducible refine gate_callee (f := 13) rfl ?_); refine goesL_ (some 54) rfl rfl Try.func13 (by kernel_rfl) rfl #[.int .i64 t163] rfl (by (try simp only [List.map_toArray, List.map_cons, List.map_nil]); first | done | rfl | (simp only [List.length_drop, List.length_take]; rfl)) ?_; (with_reducible refine (stopcocklaw21_num.calls t163 t170 _ A11.out).mono ?_); rintro e w' ⟨rfl, ⟨nd, rfl⟩⟩; refine ⟨_, rfl, ?_⟩))
      (try simp only [Act.put, List.setIfInBounds_toArray, List.set_cons_zero, List.set_cons_succ])
      go_cut [79] (fun v79 wc => ∃ (kq : Nat) (x79_12 : Bool), v79 = .bool x79_12 ∧ Aside0 (stopcocklaw21_CubicRises.j0 kq a0 a1 a2 t168 t169 x79_12 = some r) ∧ Aside0 (kq ≤ k) ∧ Aside0 (Below w.heap.size w wc))
      case first =>
        have H := HC13.out
        clear HC13
        replace H := Option.bind_eq_some_iff.mp H
        obtain ⟨t171, A190, H⟩ := H
        replace H : ((stopcocklaw21_num.f t167).bind fun t172 => (if (wrap64 (t171 + t172)) = 0 then (if t162 > t164 then (stopcocklaw21_CubicRises.j0 k a0 a1 a2 t168 t169 true) else (stopcocklaw21_CubicRises.j0 k a0 a1 a2 t168 t169 (t166 != a0))) else (stopcocklaw21_CubicRises.j0 k a0 a1 a2 t168 t169 true))) = some r := H
        have A19 := Aside0.mk A190
        clear A190
        replace H := Option.bind_eq_some_iff.mp H
        obtain ⟨t172, A200, H⟩ := H
        replace H : (if (wrap64 (t171 + t172)) = 0 then (if t162 > t164 then (stopcocklaw21_CubicRises.j0 k a0 a1 a2 t168 t169 true) else (stopcocklaw21_CubicRises.j0 k a0 a1 a2 t168 t169 (t166 != a0))) else (stopcocklaw21_CubicRises.j0 k a0 a1 a2 t168 t169 true)) = some r := H
        have A20 := Aside0.mk A200
        clear A200
        by_cases c21 : (wrap64 (t171 + t172)) = 0
        · rw [if_pos c21] at H
          have c21b0 : ((wrap64 (t171 + t172)) == 0) = true := beq_iff_eq.mpr c21
          have c21b1 : ((wrap64 (t171 + t172)) != 0) = false := bne_eq_false_iff_eq.mpr c21
          clear c21
          (first | rw [c21b0] | (simp only [i64_w, i32_w]; rw [c21b0]) | skip)
          by_cases c22 : t162 > t164
          · rw [if_pos c22] at H
            have c22b0 : decide (t164 < t162) = true := decide_eq_true c22
            clear c22
            have H' := Aside0.mk H
            clear H
            go_wp2_with (first | ((with_reducible refine gate_callee (f := 13) rfl ?_); refine goesL_ (some 65) rfl rfl Try.func13 (by kernel_rfl) rfl #[.int .i64 t165] rfl (by (try simp only [List.map_toArray, List.map_cons, List.map_nil]); first | done | rfl | (simp only [List.length_drop, List.length_take]; rfl)) ?_; (with_reducible refine (stopcocklaw21_num.calls t165 t171 _ A19.out).mono ?_); rintro e w' ⟨rfl, ⟨nd, rfl⟩⟩; refine ⟨_, rfl, ?_⟩) | ((with_reducible refine gate_callee (f := 13) rfl ?_); refine goesL_ (some 67) rfl rfl Try.func13 (by kernel_rfl) rfl #[.int .i64 t167] rfl (by (try simp only [List.map_toArray, List.map_cons, List.map_nil]); first | done | rfl | (simp only [List.length_drop, List.length_take]; rfl)) ?_; (with_reducible refine (stopcocklaw21_num.calls t167 t172 _ A20.out).mono ?_); rintro e w' ⟨rfl, ⟨nd, rfl⟩⟩; refine ⟨_, rfl, ?_⟩))
            go_meet
            case rel => exact ⟨_, (true), (by first | rfl | (simp; done) | (simp [*]; done)), H', ⟨by first | omega | exact Nat.le_refl _⟩, ⟨by repeat (first | (with_reducible first | exact HB.out | apply below_alloc | apply pw_below_drewN | apply below_drew1) | exact HB.out)⟩⟩
          · rw [if_neg c22] at H
            have c22b0 : decide (t164 < t162) = false := decide_eq_false c22
            clear c22
            have H' := Aside0.mk H
            clear H
            go_wp2_with (first | ((with_reducible refine gate_callee (f := 13) rfl ?_); refine goesL_ (some 65) rfl rfl Try.func13 (by kernel_rfl) rfl #[.int .i64 t165] rfl (by (try simp only [List.map_toArray, List.map_cons, List.map_nil]); first | done | rfl | (simp only [List.length_drop, List.length_take]; rfl)) ?_; (with_reducible refine (stopcocklaw21_num.calls t165 t171 _ A19.out).mono ?_); rintro e w' ⟨rfl, ⟨nd, rfl⟩⟩; refine ⟨_, rfl, ?_⟩) | ((with_reducible refine gate_callee (f := 13) rfl ?_); refine goesL_ (some 67) rfl rfl Try.func13 (by kernel_rfl) rfl #[.int .i64 t167] rfl (by (try simp only [List.map_toArray, List.map_cons, List.map_nil]); first | done | rfl | (simp only [List.length_drop, List.length_take]; rfl)) ?_; (with_reducible refine (stopcocklaw21_num.calls t167 t172 _ A20.out).mono ?_); rintro e w' ⟨rfl, ⟨nd, rfl⟩⟩; refine ⟨_, rfl, ?_⟩))
            go_meet
            case rel => exact ⟨_, ((t166 != a0)), (by first | rfl | (simp; done) | (simp [*]; done)), H', ⟨by first | omega | exact Nat.le_refl _⟩, ⟨by repeat (first | (with_reducible first | exact HB.out | apply below_alloc | apply pw_below_drewN | apply below_drew1) | exact HB.out)⟩⟩
        · rw [if_neg c21] at H
          have c21b0 : ((wrap64 (t171 + t172)) == 0) = false := beq_eq_false_iff_ne.mpr c21
          have c21b1 : ((wrap64 (t171 + t172)) != 0) = true := bne_iff_ne.mpr c21
          (first | rw [c21b0] | (simp only [i64_w, i32_w]; rw [c21b0]) | skip)
          have H' := Aside0.mk H
          clear H
          go_wp2_with (first | ((with_reducible refine gate_callee (f := 13) rfl ?_); refine goesL_ (some 65) rfl rfl Try.func13 (by kernel_rfl) rfl #[.int .i64 t165] rfl (by (try simp only [List.map_toArray, List.map_cons, List.map_nil]); first | done | rfl | (simp only [List.length_drop, List.length_take]; rfl)) ?_; (with_reducible refine (stopcocklaw21_num.calls t165 t171 _ A19.out).mono ?_); rintro e w' ⟨rfl, ⟨nd, rfl⟩⟩; refine ⟨_, rfl, ?_⟩) | ((with_reducible refine gate_callee (f := 13) rfl ?_); refine goesL_ (some 67) rfl rfl Try.func13 (by kernel_rfl) rfl #[.int .i64 t167] rfl (by (try simp only [List.map_toArray, List.map_cons, List.map_nil]); first | done | rfl | (simp only [List.length_drop, List.length_take]; rfl)) ?_; (with_reducible refine (stopcocklaw21_num.calls t167 t172 _ A20.out).mono ?_); rintro e w' ⟨rfl, ⟨nd, rfl⟩⟩; refine ⟨_, rfl, ?_⟩))
          go_meet
          case rel => exact ⟨_, (true), (by first | rfl | (simp; done) | (simp [*]; done)), H', ⟨by first | omega | exact Nat.le_refl _⟩, ⟨by repeat (first | (with_reducible first | exact HB.out | apply below_alloc | apply pw_below_drewN | apply below_drew1) | exact HB.out)⟩⟩
      case rest =>
        clear HC13
        try clear c1
        try clear c2
        try clear p2
        try clear c5
        try clear c6
        try clear p6
        try clear c9
        try clear c11
        try clear c12
        try clear c12b0
        try clear c12b1
        try clear c13
        try clear c14
        try clear c21
        try clear c21b0
        try clear c21b1
        try clear c22
        try clear c22b0
        obtain ⟨kq, x79_12, rfl, HA, HJ12, HB⟩ := hcut
        cases kq with
        | zero => exact absurd HA.out (by simp [stopcocklaw21_CubicRises.j0])
        | succ kj12 =>
          have H := HA.out
          clear HA
          simp only [stopcocklaw21_CubicRises.j0] at H
          by_cases c23 : x79_12 = true
          · subst c23
            have H1 : (some false) = some r := by rw [if_pos rfl] at H; exact H
            clear H
            have H := H1
            clear H1
            exact absurd ((Option.some.inj H).trans HRT.out) (by decide)
          · replace c23 := Bool.eq_false_iff.mpr c23
            subst c23
            have H1 : ((stopcocklaw21_num.f t169).bind fun t173 => (if t173 = 0 then (if a1 > a0 then (stopcocklaw21_CubicRises.j1 kj12 a0 a1 a2 t168 t169 true) else (stopcocklaw21_CubicRises.j1 kj12 a0 a1 a2 t168 t169 (decide (t168 > 29999)))) else (stopcocklaw21_CubicRises.j1 kj12 a0 a1 a2 t168 t169 true))) = some r := by rw [if_neg (show ¬ (false = true) by decide)] at H; exact H
            clear H
            have H := H1
            clear H1
            have HC24 := Aside0.mk H
            clear H
            go_upto_region 12 with (fail)
            go_cut [91] (fun v91 wc => ∃ (kq : Nat) (x91_23 : Bool), v91 = .bool x91_23 ∧ Aside0 (stopcocklaw21_CubicRises.j1 kq a0 a1 a2 t168 t169 x91_23 = some r) ∧ Aside0 (kq ≤ kj12) ∧ Aside0 (Below w.heap.size w wc))
            case first =>
              have H := HC24.out
              clear HC24
              replace H := Option.bind_eq_some_iff.mp H
              obtain ⟨t173, A250, H⟩ := H
              replace H : (if t173 = 0 then (if a1 > a0 then (stopcocklaw21_CubicRises.j1 kj12 a0 a1 a2 t168 t169 true) else (stopcocklaw21_CubicRises.j1 kj12 a0 a1 a2 t168 t169 (decide (t168 > 29999)))) else (stopcocklaw21_CubicRises.j1 kj12 a0 a1 a2 t168 t169 true)) = some r := H
              have A25 := Aside0.mk A250
              clear A250
              by_cases c26 : t173 = 0
              · rw [if_pos c26] at H
                have c26b0 : (t173 == 0) = true := beq_iff_eq.mpr c26
                have c26b1 : (t173 != 0) = false := bne_eq_false_iff_eq.mpr c26
                clear c26
                (first | rw [c26b0] | (simp only [i64_w, i32_w]; rw [c26b0]) | skip)
                by_cases c27 : a1 > a0
                · rw [if_pos c27] at H
                  have c27b0 : decide (a0 < a1) = true := decide_eq_true c27
                  clear c27
                  have H' := Aside0.mk H
                  clear H
                  go_wp2_with (first | ((with_reducible refine gate_callee (f := 13) rfl ?_); refine goesL_ (some 81) rfl rfl Try.func13 (by kernel_rfl) rfl #[.int .i64 t169] rfl (by (try simp only [List.map_toArray, List.map_cons, List.map_nil]); first | done | rfl | (simp only [List.length_drop, List.length_take]; rfl)) ?_; (with_reducible refine (stopcocklaw21_num.calls t169 t173 _ A25.out).mono ?_); rintro e w' ⟨rfl, ⟨nd, rfl⟩⟩; refine ⟨_, rfl, ?_⟩))
                  go_meet
                  case rel => exact ⟨_, (true), (by first | rfl | (simp; done) | (simp [*]; done)), H', ⟨by have := HJ12.out; first | omega | exact Nat.le_refl _⟩, ⟨by repeat (first | (with_reducible first | exact HB.out | apply below_alloc | apply pw_below_drewN | apply below_drew1) | exact HB.out)⟩⟩
                · rw [if_neg c27] at H
                  have c27b0 : decide (a0 < a1) = false := decide_eq_false c27
                  clear c27
                  have H' := Aside0.mk H
                  clear H
                  go_wp2_with (first | ((with_reducible refine gate_callee (f := 13) rfl ?_); refine goesL_ (some 81) rfl rfl Try.func13 (by kernel_rfl) rfl #[.int .i64 t169] rfl (by (try simp only [List.map_toArray, List.map_cons, List.map_nil]); first | done | rfl | (simp only [List.length_drop, List.length_take]; rfl)) ?_; (with_reducible refine (stopcocklaw21_num.calls t169 t173 _ A25.out).mono ?_); rintro e w' ⟨rfl, ⟨nd, rfl⟩⟩; refine ⟨_, rfl, ?_⟩))
                  go_meet
                  case rel => exact ⟨_, (decide (t168 > 29999)), (by first | rfl | (simp; done) | (simp [*]; done)), H', ⟨by have := HJ12.out; first | omega | exact Nat.le_refl _⟩, ⟨by repeat (first | (with_reducible first | exact HB.out | apply below_alloc | apply pw_below_drewN | apply below_drew1) | exact HB.out)⟩⟩
              · rw [if_neg c26] at H
                have c26b0 : (t173 == 0) = false := beq_eq_false_iff_ne.mpr c26
                have c26b1 : (t173 != 0) = true := bne_iff_ne.mpr c26
                (first | rw [c26b0] | (simp only [i64_w, i32_w]; rw [c26b0]) | skip)
                have H' := Aside0.mk H
                clear H
                go_wp2_with (first | ((with_reducible refine gate_callee (f := 13) rfl ?_); refine goesL_ (some 81) rfl rfl Try.func13 (by kernel_rfl) rfl #[.int .i64 t169] rfl (by (try simp only [List.map_toArray, List.map_cons, List.map_nil]); first | done | rfl | (simp only [List.length_drop, List.length_take]; rfl)) ?_; (with_reducible refine (stopcocklaw21_num.calls t169 t173 _ A25.out).mono ?_); rintro e w' ⟨rfl, ⟨nd, rfl⟩⟩; refine ⟨_, rfl, ?_⟩))
                go_meet
                case rel => exact ⟨_, (true), (by first | rfl | (simp; done) | (simp [*]; done)), H', ⟨by have := HJ12.out; first | omega | exact Nat.le_refl _⟩, ⟨by repeat (first | (with_reducible first | exact HB.out | apply below_alloc | apply pw_below_drewN | apply below_drew1) | exact HB.out)⟩⟩
            case rest =>
              clear HC24
              try clear c1
              try clear c2
              try clear p2
              try clear c5
              try clear c6
              try clear p6
              try clear c9
              try clear c11
              try clear c12
              try clear c12b0
              try clear c12b1
              try clear c13
              try clear c14
              try clear c21
              try clear c21b0
              try clear c21b1
              try clear c22
              try clear c22b0
              try clear c23
              try clear c26
              try clear c26b0
              try clear c26b1
              try clear c27
              try clear c27b0
              try clear p2
              try clear p6
              obtain ⟨kq, x91_23, rfl, HA, HJ23, HB⟩ := hcut
              cases kq with
              | zero => exact absurd HA.out (by simp [stopcocklaw21_CubicRises.j1])
              | succ kj23 =>
                have H := HA.out
                clear HA
                simp only [stopcocklaw21_CubicRises.j1] at H
                by_cases c28 : x91_23 = true
                · subst c28
                  have H1 : ((stopcocklaw21_num.f t169).bind fun t174 => (if t174 = 0 then (if a1 > a0 then (some true) else (some (decide (t168 > 29999)))) else (some true))) = some r := by rw [if_pos rfl] at H; exact H
                  clear H
                  have H := H1
                  clear H1
                  replace H := Option.bind_eq_some_iff.mp H
                  obtain ⟨t174, A290, H⟩ := H
                  replace H : (if t174 = 0 then (if a1 > a0 then (some true) else (some (decide (t168 > 29999)))) else (some true)) = some r := H
                  have A29 := Aside0.mk A290
                  clear A290
                  by_cases c30 : t174 = 0
                  · rw [if_pos c30] at H
                    have c30b0 : (t174 == 0) = true := beq_iff_eq.mpr c30
                    have c30b1 : (t174 != 0) = false := bne_eq_false_iff_eq.mpr c30
                    clear c30
                    by_cases c31 : a1 > a0
                    · rw [if_pos c31] at H
                      have c31b0 : decide (a0 < a1) = true := decide_eq_true c31
                      clear c31
                      obtain rfl := Option.some.inj H
                      go_wp2_with (first | ((with_reducible refine gate_callee (f := 13) rfl ?_); refine goesL_ (some 93) rfl rfl Try.func13 (by kernel_rfl) rfl #[.int .i64 t169] rfl (by (try simp only [List.map_toArray, List.map_cons, List.map_nil]); first | done | rfl | (simp only [List.length_drop, List.length_take]; rfl)) ?_; (with_reducible refine (stopcocklaw21_num.calls t169 t174 _ A29.out).mono ?_); rintro e w' ⟨rfl, ⟨nd, rfl⟩⟩; refine ⟨_, rfl, ?_⟩))
                      go_ret
                      exact ⟨by first | rfl | (simp [errW_none, errW_some] <;> rfl) | (simp [*, errW_none, errW_some] <;> rfl), by repeat (first | (with_reducible first | exact HB.out | apply below_alloc | apply pw_below_drewN | apply below_drew1) | exact HB.out)⟩
                    · rw [if_neg c31] at H
                      have c31b0 : decide (a0 < a1) = false := decide_eq_false c31
                      clear c31
                      obtain rfl := Option.some.inj H
                      go_wp2_with (first | ((with_reducible refine gate_callee (f := 13) rfl ?_); refine goesL_ (some 93) rfl rfl Try.func13 (by kernel_rfl) rfl #[.int .i64 t169] rfl (by (try simp only [List.map_toArray, List.map_cons, List.map_nil]); first | done | rfl | (simp only [List.length_drop, List.length_take]; rfl)) ?_; (with_reducible refine (stopcocklaw21_num.calls t169 t174 _ A29.out).mono ?_); rintro e w' ⟨rfl, ⟨nd, rfl⟩⟩; refine ⟨_, rfl, ?_⟩))
                      go_ret
                      exact ⟨by first | rfl | (simp [errW_none, errW_some] <;> rfl) | (simp [*, errW_none, errW_some] <;> rfl), by repeat (first | (with_reducible first | exact HB.out | apply below_alloc | apply pw_below_drewN | apply below_drew1) | exact HB.out)⟩
                  · rw [if_neg c30] at H
                    have c30b0 : (t174 == 0) = false := beq_eq_false_iff_ne.mpr c30
                    have c30b1 : (t174 != 0) = true := bne_iff_ne.mpr c30
                    obtain rfl := Option.some.inj H
                    go_wp2_with (first | ((with_reducible refine gate_callee (f := 13) rfl ?_); refine goesL_ (some 93) rfl rfl Try.func13 (by kernel_rfl) rfl #[.int .i64 t169] rfl (by (try simp only [List.map_toArray, List.map_cons, List.map_nil]); first | done | rfl | (simp only [List.length_drop, List.length_take]; rfl)) ?_; (with_reducible refine (stopcocklaw21_num.calls t169 t174 _ A29.out).mono ?_); rintro e w' ⟨rfl, ⟨nd, rfl⟩⟩; refine ⟨_, rfl, ?_⟩))
                    go_ret
                    exact ⟨by first | rfl | (simp [errW_none, errW_some] <;> rfl) | (simp [*, errW_none, errW_some] <;> rfl), by repeat (first | (with_reducible first | exact HB.out | apply below_alloc | apply pw_below_drewN | apply below_drew1) | exact HB.out)⟩
                · replace c28 := Bool.eq_false_iff.mpr c28
                  subst c28
                  have H1 : ((cubic_Curve.f kj23 a0 a2 (wrap64 (-t168))).bind fun bt175 => ((cubic_Curve.f kj23 a0 a2 (wrap64 ((wrap64 (-t168)) - 1))).bind fun bt177 => (if bt175.1 ≥ (wrap64 (a1 - 1)) then (some (decide (bt177.1 ≤ a1))) else (some false)))) = some r := by rw [if_neg (show ¬ (false = true) by decide)] at H; exact H
                  clear H
                  have H := H1
                  clear H1
                  replace H := Option.bind_eq_some_iff.mp H
                  obtain ⟨⟨t175, t176⟩, A320, H⟩ := H
                  replace H : ((cubic_Curve.f kj23 a0 a2 (wrap64 ((wrap64 (-t168)) - 1))).bind fun bt177 => (if t175 ≥ (wrap64 (a1 - 1)) then (some (decide (bt177.1 ≤ a1))) else (some false))) = some r := H
                  have A32 := Aside0.mk A320
                  clear A320
                  replace H := Option.bind_eq_some_iff.mp H
                  obtain ⟨⟨t177, t178⟩, A330, H⟩ := H
                  replace H : (if t175 ≥ (wrap64 (a1 - 1)) then (some (decide (t177 ≤ a1))) else (some false)) = some r := H
                  have A33 := Aside0.mk A330
                  clear A330
                  by_cases c34 : t175 ≥ (wrap64 (a1 - 1))
                  · rw [if_pos c34] at H
                    have c34b0 : decide ((wrap64 (a1 - 1)) ≤ t175) = true := decide_eq_true c34
                    clear c34
                    obtain rfl := Option.some.inj H
                    go_wp2_with (first | ((with_reducible refine gate_callee (f := 9) rfl ?_); refine goesL_ (some 109) rfl rfl Try.func9 (by kernel_rfl) rfl #[.int .i64 a0, .int .i64 a2, .int .i64 (wrap64 (-t168))] rfl (by (try simp only [List.map_toArray, List.map_cons, List.map_nil]); first | done | rfl | (simp only [List.length_drop, List.length_take]; rfl)) ?_; (with_reducible refine (cubic_Curve.calls kj23 a0 a2 (wrap64 (-t168)) t175 t176 _ A32.out).mono ?_); rintro e w35 ⟨rfl, hb⟩; refine ⟨_, rfl, ?_⟩; have n0_ := Aside0.mk (below_step (by repeat (first | (with_reducible first | exact HB.out | apply below_alloc | apply pw_below_drewN | apply below_drew1) | exact HB.out)) hb); clear HB; have HB := n0_; clear n0_; (try clear hb); (try clear hb2); (try clear hk); (try clear hi)) | ((with_reducible refine gate_callee (f := 9) rfl ?_); refine goesL_ (some 118) rfl rfl Try.func9 (by kernel_rfl) rfl #[.int .i64 a0, .int .i64 a2, .int .i64 (wrap64 ((wrap64 (-t168)) - 1))] rfl (by (try simp only [List.map_toArray, List.map_cons, List.map_nil]); first | done | rfl | (simp only [List.length_drop, List.length_take]; rfl)) ?_; (with_reducible refine (cubic_Curve.calls kj23 a0 a2 (wrap64 ((wrap64 (-t168)) - 1)) t177 t178 _ A33.out).mono ?_); rintro e w36 ⟨rfl, hb⟩; refine ⟨_, rfl, ?_⟩; have n0_ := Aside0.mk (below_step (by repeat (first | (with_reducible first | exact HB.out | apply below_alloc | apply pw_below_drewN | apply below_drew1) | exact HB.out)) hb); clear HB; have HB := n0_; clear n0_; (try clear hb); (try clear hb2); (try clear hk); (try clear hi)))
                    go_ret
                    exact ⟨by first | rfl | (simp [errW_none, errW_some] <;> rfl) | (simp [*, errW_none, errW_some] <;> rfl), by repeat (first | (with_reducible first | exact HB.out | apply below_alloc | apply pw_below_drewN | apply below_drew1) | exact HB.out)⟩
                  · rw [if_neg c34] at H
                    have c34b0 : decide ((wrap64 (a1 - 1)) ≤ t175) = false := decide_eq_false c34
                    clear c34
                    exact absurd ((Option.some.inj H).trans HRT.out) (by decide)
    · rw [if_neg c12] at H
      have c12b0 : (t170 == 0) = false := beq_eq_false_iff_ne.mpr c12
      have c12b1 : (t170 != 0) = true := bne_iff_ne.mpr c12
      by_cases c37 : t163 = t165
      · rw [if_pos c37] at H
        have c37b0 : (t163 == t165) = true := beq_iff_eq.mpr c37
        have c37b1 : (t163 != t165) = false := bne_eq_false_iff_eq.mpr c37
        clear c37
        obtain rfl := Option.some.inj H
        go_enter Try.func5, Try.ntmps5
        go_wp2_with (first | ((with_reducible refine gate_callee (f := 14) rfl ?_); refine goesL_ (some 21) rfl rfl Try.func14 (by kernel_rfl) rfl #[] rfl (by (try simp only [List.map_toArray, List.map_cons, List.map_nil]); first | done | rfl | (simp only [List.length_drop, List.length_take]; rfl)) ?_; (with_reducible refine (stopcocklaw21_alive.calls k  true _ A5.out).mono ?_); rintro e w38 ⟨rfl, hb⟩; refine ⟨_, rfl, ?_⟩; have n0_ := Aside0.mk (below_step (by repeat (first | (with_reducible first | exact HB.out | apply below_alloc | apply pw_below_drewN | apply below_drew1) | exact HB.out)) hb); clear HB; have HB := n0_; clear n0_; (try clear hb); (try clear hb2); (try clear hk); (try clear hi)) | ((with_reducible refine gate_callee (f := 9) rfl ?_); refine goesL_ (some 29) rfl rfl Try.func9 (by kernel_rfl) rfl #[.int .i64 a0, .int .i64 a2, .int .i64 (Int.tmod a3 40000)] rfl (by (try simp only [List.map_toArray, List.map_cons, List.map_nil]); first | done | rfl | (simp only [List.length_drop, List.length_take]; rfl)) ?_; (with_reducible refine (cubic_Curve.calls k a0 a2 (Int.tmod a3 40000) t162 t163 _ A7.out).mono ?_); rintro e w39 ⟨rfl, hb⟩; refine ⟨_, rfl, ?_⟩; have n0_ := Aside0.mk (below_step (by repeat (first | (with_reducible first | exact HB.out | apply below_alloc | apply pw_below_drewN | apply below_drew1) | exact HB.out)) hb); clear HB; have HB := n0_; clear n0_; (try clear hb); (try clear hb2); (try clear hk); (try clear hi)) | ((with_reducible refine gate_callee (f := 9) rfl ?_); refine goesL_ (some 37) rfl rfl Try.func9 (by kernel_rfl) rfl #[.int .i64 a0, .int .i64 a2, .int .i64 (wrap64 ((Int.tmod a3 40000) + 1))] rfl (by (try simp only [List.map_toArray, List.map_cons, List.map_nil]); first | done | rfl | (simp only [List.length_drop, List.length_take]; rfl)) ?_; (with_reducible refine (cubic_Curve.calls k a0 a2 (wrap64 ((Int.tmod a3 40000) + 1)) t164 t165 _ A8.out).mono ?_); rintro e w40 ⟨rfl, hb⟩; refine ⟨_, rfl, ?_⟩; have n0_ := Aside0.mk (below_step (by repeat (first | (with_reducible first | exact HB.out | apply below_alloc | apply pw_below_drewN | apply below_drew1) | exact HB.out)) hb); clear HB; have HB := n0_; clear n0_; (try clear hb); (try clear hb2); (try clear hk); (try clear hi)) | ((with_reducible refine gate_callee (f := 9) rfl ?_); refine goesL_ (some 43) rfl rfl Try.func9 (by kernel_rfl) rfl #[.int .i64 a0, .int .i64 a2, .int .i64 0] rfl (by (try simp only [List.map_toArray, List.map_cons, List.map_nil]); first | done | rfl | (simp only [List.length_drop, List.length_take]; rfl)) ?_; (with_reducible refine (cubic_Curve.calls k a0 a2 0 t166 t167 _ A9.out).mono ?_); rintro e w41 ⟨rfl, hb⟩; refine ⟨_, rfl, ?_⟩; have n0_ := Aside0.mk (below_step (by repeat (first | (with_reducible first | exact HB.out | apply below_alloc | apply pw_below_drewN | apply below_drew1) | exact HB.out)) hb); clear HB; have HB := n0_; clear n0_; (try clear hb); (try clear hb2); (try clear hk); (try clear hi)) | ((with_reducible refine gate_callee (f := 11) rfl ?_); refine goesL_ (some 50) rfl rfl Try.func11 (by kernel_rfl) rfl #[.int .i64 a0, .int .i64 a1, .int .i64 a2] rfl (by (try simp only [List.map_toArray, List.map_cons, List.map_nil]); first | done | rfl | (simp only [List.length_drop, List.length_take]; rfl)) ?_; (with_reducible refine (cubic_Turn.calls k a0 a1 a2 t168 t169 _ A10.out).mono ?_); rintro e w42 ⟨rfl, hb⟩; refine ⟨_, rfl, ?_⟩; have n0_ := Aside0.mk (below_step (by repeat (first | (with_reducible first | exact HB.out | apply below_alloc | apply pw_below_drewN | apply below_drew1) | exact HB.out)) hb); clear HB; have HB := n0_; clear n0_; (try clear hb); (try clear hb2); (try clear hk); (try clear hi)) | ((with_reducible refine gate_callee (f := 13) rfl ?_); refine goesL_ (some 54) rfl rfl Try.func13 (by kernel_rfl) rfl #[.int .i64 t163] rfl (by (try simp only [List.map_toArray, List.map_cons, List.map_nil]); first | done | rfl | (simp only [List.length_drop, List.length_take]; rfl)) ?_; (with_reducible refine (stopcocklaw21_num.calls t163 t170 _ A11.out).mono ?_); rintro e w' ⟨rfl, ⟨nd, rfl⟩⟩; refine ⟨_, rfl, ?_⟩))
        go_ret
        exact ⟨by first | rfl | (simp [errW_none, errW_some] <;> rfl) | (simp [*, errW_none, errW_some] <;> rfl), by repeat (first | (with_reducible first | exact HB.out | apply below_alloc | apply pw_below_drewN | apply below_drew1) | exact HB.out)⟩
      · rw [if_neg c37] at H
        have c37b0 : (t163 == t165) = false := beq_eq_false_iff_ne.mpr c37
        have c37b1 : (t163 != t165) = true := bne_iff_ne.mpr c37
        exact absurd ((Option.some.inj H).trans HRT.out) (by decide)
  · replace c6 := Bool.eq_false_iff.mpr c6
    subst c6
    have H1 : (some false) = some r := by rw [if_neg (show ¬ (false = true) by decide)] at H; exact H
    clear H
    have H := H1
    clear H1
    exact absurd ((Option.some.inj H).trans HRT.out) (by decide)

/-- THE ONE PURE STATEMENT of stopcocklaw21_CubicRises: yours. -/
def stopcocklaw21_CubicRises.Pure : Prop := ∀ (a0 : Int) (a1 : Int) (a2 : Int) (a3 : Int), (Lit.int .i64 a0).wf = true → (Lit.int .i64 a1).wf = true → (Lit.int .i64 a2).wf = true → (Lit.int .i64 a3).wf = true → ∃ k, stopcocklaw21_CubicRises.f k a0 a1 a2 a3 = some true
theorem stopcocklaw21_CubicRises.walk (P : stopcocklaw21_CubicRises.Pure) (a0 : Int) (a1 : Int) (a2 : Int) (a3 : Int) (w : World) (w0 : (Lit.int .i64 a0).wf = true) (w1 : (Lit.int .i64 a1).wf = true) (w2 : (Lit.int .i64 a2).wf = true) (w3 : (Lit.int .i64 a3).wf = true) :
    Calls Try.prog 5 #[.int .i64 a0, .int .i64 a1, .int .i64 a2, .int .i64 a3] w fun e w' => e = .returned (.bool true) ∧ Below w.heap.size w w' := by
  obtain ⟨k, h⟩ := P a0 a1 a2 a3 w0 w1 w2 w3
  refine (stopcocklaw21_CubicRises.calls k a0 a1 a2 a3 true w h rfl).mono ?_
  rintro e w' ⟨rfl, hd⟩
  exact ⟨rfl, hd⟩

end Go.Proofs.Ytolgfodpkeopgaa.PA
