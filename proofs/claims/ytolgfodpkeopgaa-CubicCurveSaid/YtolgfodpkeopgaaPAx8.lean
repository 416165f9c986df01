-- Written by a program of this session (wip/tools/mkprint.py, mp.sh) for this claim.
import Derived.Test.YtolgfodpkeopgaaPAx0
import Derived.Test.YtolgfodpkeopgaaPAx3
import Derived.Test.YtolgfodpkeopgaaPAx5
import Derived.Test.YtolgfodpkeopgaaPAx6
namespace Go.Proofs.Ytolgfodpkeopgaa.PA
open Go.RowKit Go.Proofs.YtolgfodpkeopgaaW.PrintWords Go.Proofs.YtolgfodpkeopgaaW.PrintLast Go.Proofs.YtolgfodpkeopgaaW.PrintMore
attribute [local go_sem] max2_int min2_int max_two min_two max_three min_three max_four min_four   -- for this text's walks alone
set_option linter.unusedVariables false
set_option linter.unusedSimpArgs false

/-! ### stopcocklaw21_CubicCurve: function 4 -/
def stopcocklaw21_CubicCurve.f (k : Nat) (a0 : Int) (a1 : Int) (a2 : Int) : Option (Bool) := (stopcocklaw21_alive.f k).bind fun t157 => (if t157 = true then ((cubic_Curve.f k a0 (wrap64 (1 + (Int.tmod (wrap64 ((Int.tmod a1 60000) + 60000)) 60000))) (Int.tmod a2 30000)).bind fun bt158 => ((stopcocklaw21_num.f bt158.2).bind fun t160 => (if t160 = 0 then (if bt158.1 = 0 then (some true) else (if bt158.1 = 1073741824 then (some true) else (if (wrap64 ((wrap64 ((wrap64 ((wrap64 ((wrap64 (4 * (wrap64 (1 + (Int.tmod (wrap64 ((Int.tmod a1 60000) + 60000)) 60000))))) * (Int.tmod a2 30000))) * (Int.tmod a2 30000))) * (Int.tmod a2 30000))) - (wrap64 ((wrap64 (bt158.1 - a0)) * 10737418240)))) ≥ 0 then (some (decide ((wrap64 ((wrap64 ((wrap64 ((wrap64 ((wrap64 (4 * (wrap64 (1 + (Int.tmod (wrap64 ((Int.tmod a1 60000) + 60000)) 60000))))) * (Int.tmod a2 30000))) * (Int.tmod a2 30000))) * (Int.tmod a2 30000))) - (wrap64 ((wrap64 (bt158.1 - a0)) * 10737418240)))) < 10737418240))) else (some false)))) else (some (bt158.1 == 0))))) else (some false))
theorem stopcocklaw21_CubicCurve.mono : ∀ a0 a1 a2 k, LeO (stopcocklaw21_CubicCurve.f k a0 a1 a2) (stopcocklaw21_CubicCurve.f (k + 1) a0 a1 a2) := by
  intro a0 a1 a2 k
  unfold stopcocklaw21_CubicCurve.f
  repeat' first
      | (with_reducible exact cubic_Curve.mono _ _ _ _)
      | (with_reducible exact stopcocklaw21_alive.mono _)
      | (with_reducible exact LeO.refl _)
      | (with_reducible exact LeO.none _)
      | (with_reducible refine LeO.ite ?_ ?_)
      | (with_reducible refine LeO.bind ?_ (fun _ => ?_))
      | exact cubic_Curve.mono _ _ _ _
      | exact stopcocklaw21_alive.mono _
      | exact LeO.none _
      | refine LeO.ite ?_ ?_
      | refine LeO.bind ?_ (fun _ => ?_)
set_option maxHeartbeats 8000000 in
set_option maxRecDepth 100000 in
theorem stopcocklaw21_CubicCurve.calls (k : Nat) (a0 : Int) (a1 : Int) (a2 : Int) (r : Bool) (w : World) (h : stopcocklaw21_CubicCurve.f k a0 a1 a2 = some r) (hrt : r = true) :
    Calls Try.prog 4 #[.int .i64 a0, .int .i64 a1, .int .i64 a2] w fun e w' => e = .returned (.bool r) ∧ Below w.heap.size w w' := by
  have HRT := Aside0.mk hrt
  clear hrt
  have HB := Aside0.mk (Below.refl w.heap.size w)
  have H : ((stopcocklaw21_alive.f k).bind fun t157 => (if t157 = true then ((cubic_Curve.f k a0 (wrap64 (1 + (Int.tmod (wrap64 ((Int.tmod a1 60000) + 60000)) 60000))) (Int.tmod a2 30000)).bind fun bt158 => ((stopcocklaw21_num.f bt158.2).bind fun t160 => (if t160 = 0 then (if bt158.1 = 0 then (some true) else (if bt158.1 = 1073741824 then (some true) else (if (wrap64 ((wrap64 ((wrap64 ((wrap64 ((wrap64 (4 * (wrap64 (1 + (Int.tmod (wrap64 ((Int.tmod a1 60000) + 60000)) 60000))))) * (Int.tmod a2 30000))) * (Int.tmod a2 30000))) * (Int.tmod a2 30000))) - (wrap64 ((wrap64 (bt158.1 - a0)) * 10737418240)))) ≥ 0 then (some (decide ((wrap64 ((wrap64 ((wrap64 ((wrap64 ((wrap64 (4 * (wrap64 (1 + (Int.tmod (wrap64 ((Int.tmod a1 60000) + 60000)) 60000))))) * (Int.tmod a2 30000))) * (Int.tmod a2 30000))) * (Int.tmod a2 30000))) - (wrap64 ((wrap64 (bt158.1 - a0)) * 10737418240)))) < 10737418240))) else (some false)))) else (some (bt158.1 == 0))))) else (some false))) = some r := h
  clear h
  replace H := Option.bind_eq_some_iff.mp H
  obtain ⟨t157, A40, H⟩ := H
  replace H : (if t157 = true then ((cubic_Curve.f k a0 (wrap64 (1 + (Int.tmod (wrap64 ((Int.tmod a1 60000) + 60000)) 60000))) (Int.tmod a2 30000)).bind fun bt158 => ((stopcocklaw21_num.f bt158.2).bind fun t160 => (if t160 = 0 then (if bt158.1 = 0 then (some true) else (if bt158.1 = 1073741824 then (some true) else (if (wrap64 ((wrap64 ((wrap64 ((wrap64 ((wrap64 (4 * (wrap64 (1 + (Int.tmod (wrap64 ((Int.tmod a1 60000) + 60000)) 60000))))) * (Int.tmod a2 30000))) * (Int.tmod a2 30000))) * (Int.tmod a2 30000))) - (wrap64 ((wrap64 (bt158.1 - a0)) * 10737418240)))) ≥ 0 then (some (decide ((wrap64 ((wrap64 ((wrap64 ((wrap64 ((wrap64 (4 * (wrap64 (1 + (Int.tmod (wrap64 ((Int.tmod a1 60000) + 60000)) 60000))))) * (Int.tmod a2 30000))) * (Int.tmod a2 30000))) * (Int.tmod a2 30000))) - (wrap64 ((wrap64 (bt158.1 - a0)) * 10737418240)))) < 10737418240))) else (some false)))) else (some (bt158.1 == 0))))) else (some false)) = some r := H
  have A4 := Aside0.mk A40
  clear A40
  by_cases c5 : t157 = true
  · subst c5
    have H1 : ((cubic_Curve.f k a0 (wrap64 (1 + (Int.tmod (wrap64 ((Int.tmod a1 60000) + 60000)) 60000))) (Int.tmod a2 30000)).bind fun bt158 => ((stopcocklaw21_num.f bt158.2).bind fun t160 => (if t160 = 0 then (if bt158.1 = 0 then (some true) else (if bt158.1 = 1073741824 then (some true) else (if (wrap64 ((wrap64 ((wrap64 ((wrap64 ((wrap64 (4 * (wrap64 (1 + (Int.tmod (wrap64 ((Int.tmod a1 60000) + 60000)) 60000))))) * (Int.tmod a2 30000))) * (Int.tmod a2 30000))) * (Int.tmod a2 30000))) - (wrap64 ((wrap64 (bt158.1 - a0)) * 10737418240)))) ≥ 0 then (some (decide ((wrap64 ((wrap64 ((wrap64 ((wrap64 ((wrap64 (4 * (wrap64 (1 + (Int.tmod (wrap64 ((Int.tmod a1 60000) + 60000)) 60000))))) * (Int.tmod a2 30000))) * (Int.tmod a2 30000))) * (Int.tmod a2 30000))) - (wrap64 ((wrap64 (bt158.1 - a0)) * 10737418240)))) < 10737418240))) else (some false)))) else (some (bt158.1 == 0))))) = some r := by rw [if_pos rfl] at H; exact H
    clear H
    have H := H1
    clear H1
    replace H := Option.bind_eq_some_iff.mp H
    obtain ⟨⟨t158, t159⟩, A60, H⟩ := H
    replace H : ((stopcocklaw21_num.f t159).bind fun t160 => (if t160 = 0 then (if t158 = 0 then (some true) else (if t158 = 1073741824 then (some true) else (if (wrap64 ((wrap64 ((wrap64 ((wrap64 ((wrap64 (4 * (wrap64 (1 + (Int.tmod (wrap64 ((Int.tmod a1 60000) + 60000)) 60000))))) * (Int.tmod a2 30000))) * (Int.tmod a2 30000))) * (Int.tmod a2 30000))) - (wrap64 ((wrap64 (t158 - a0)) * 10737418240)))) ≥ 0 then (some (decide ((wrap64 ((wrap64 ((wrap64 ((wrap64 ((wrap64 (4 * (wrap64 (1 + (Int.tmod (wrap64 ((Int.tmod a1 60000) + 60000)) 60000))))) * (Int.tmod a2 30000))) * (Int.tmod a2 30000))) * (Int.tmod a2 30000))) - (wrap64 ((wrap64 (t158 - a0)) * 10737418240)))) < 10737418240))) else (some false)))) else (some (t158 == 0)))) = some r := H
    have A6 := Aside0.mk A60
    clear A60
    replace H := Option.bind_eq_some_iff.mp H
    obtain ⟨t160, A70, H⟩ := H
    replace H : (if t160 = 0 then (if t158 = 0 then (some true) else (if t158 = 1073741824 then (some true) else (if (wrap64 ((wrap64 ((wrap64 ((wrap64 ((wrap64 (4 * (wrap64 (1 + (Int.tmod (wrap64 ((Int.tmod a1 60000) + 60000)) 60000))))) * (Int.tmod a2 30000))) * (Int.tmod a2 30000))) * (Int.tmod a2 30000))) - (wrap64 ((wrap64 (t158 - a0)) * 10737418240)))) ≥ 0 then (some (decide ((wrap64 ((wrap64 ((wrap64 ((wrap64 ((wrap64 (4 * (wrap64 (1 + (Int.tmod (wrap64 ((Int.tmod a1 60000) + 60000)) 60000))))) * (Int.tmod a2 30000))) * (Int.tmod a2 30000))) * (Int.tmod a2 30000))) - (wrap64 ((wrap64 (t158 - a0)) * 10737418240)))) < 10737418240))) else (some false)))) else (some (t158 == 0))) = some r := H
    have A7 := Aside0.mk A70
    clear A70
    by_cases c8 : t160 = 0
    · rw [if_pos c8] at H
      have c8b0 : (t160 == 0) = true := beq_iff_eq.mpr c8
      have c8b1 : (t160 != 0) = false := bne_eq_false_iff_eq.mpr c8
      clear c8
      by_cases c9 : t158 = 0
      · rw [if_pos c9] at H
        have c9b0 : (t158 == 0) = true := beq_iff_eq.mpr c9
        have c9b1 : (t158 != 0) = false := bne_eq_false_iff_eq.mpr c9
        clear c9
        obtain rfl := Option.some.inj H
        go_enter Try.func4, Try.ntmps4
        go_wp2_with (first | ((with_reducible refine gate_callee (f := 14) rfl ?_); refine goesL_ (some 10) rfl rfl Try.func14 (by kernel_rfl) rfl #[] rfl (by (try simp only [List.map_toArray, List.map_cons, List.map_nil]); first | done | rfl | (simp only [List.length_drop, List.length_take]; rfl)) ?_; (with_reducible refine (stopcocklaw21_alive.calls k  true _ A4.out).mono ?_); rintro e w10 ⟨rfl, hb⟩; refine ⟨_, rfl, ?_⟩; have n0_ := Aside0.mk (below_step (by repeat (first | (with_reducible first | exact HB.out | apply below_alloc | apply pw_below_drewN | apply below_drew1) | exact HB.out)) hb); clear HB; have HB := n0_; clear n0_; (try clear hb); (try clear hb2); (try clear hk); (try clear hi)) | ((with_reducible refine gate_callee (f := 9) rfl ?_); refine goesL_ (some 23) rfl rfl Try.func9 (by kernel_rfl) rfl #[.int .i64 a0, .int .i64 (wrap64 (1 + (Int.tmod (wrap64 ((Int.tmod a1 60000) + 60000)) 60000))), .int .i64 (Int.tmod a2 30000)] rfl (by (try simp only [List.map_toArray, List.map_cons, List.map_nil]); first | done | rfl | (simp only [List.length_drop, List.length_take]; rfl)) ?_; (with_reducible refine (cubic_Curve.calls k a0 (wrap64 (1 + (Int.tmod (wrap64 ((Int.tmod a1 60000) + 60000)) 60000))) (Int.tmod a2 30000) t158 t159 _ A6.out).mono ?_); rintro e w11 ⟨rfl, hb⟩; refine ⟨_, rfl, ?_⟩; have n0_ := Aside0.mk (below_step (by repeat (first | (with_reducible first | exact HB.out | apply below_alloc | apply pw_below_drewN | apply below_drew1) | exact HB.out)) hb); clear HB; have HB := n0_; clear n0_; (try clear hb); (try clear hb2); (try clear hk); (try clear hi)) | ((with_reducible refine gate_callee (f := 13) rfl ?_); refine goesL_ (some 27) rfl rfl Try.func13 (by kernel_rfl) rfl #[.int .i64 t159] rfl (by (try simp only [List.map_toArray, List.map_cons, List.map_nil]); first | done | rfl | (simp only [List.length_drop, List.length_take]; rfl)) ?_; (with_reducible refine (stopcocklaw21_num.calls t159 t160 _ A7.out).mono ?_); rintro e w' ⟨rfl, ⟨nd, rfl⟩⟩; refine ⟨_, rfl, ?_⟩))
        go_ret
        exact ⟨by first | rfl | (simp [errW_none, errW_some] <;> rfl) | (simp [*, errW_none, errW_some] <;> rfl), by repeat (first | (with_reducible first | exact HB.out | apply below_alloc | apply pw_below_drewN | apply below_drew1) | exact HB.out)⟩
      · rw [if_neg c9] at H
        have c9b0 : (t158 == 0) = false := beq_eq_false_iff_ne.mpr c9
        have c9b1 : (t158 != 0) = true := bne_iff_ne.mpr c9
        by_cases c12 : t158 = 1073741824
        · rw [if_pos c12] at H
          have c12b0 : (t158 == 1073741824) = true := beq_iff_eq.mpr c12
          have c12b1 : (t158 != 1073741824) = false := bne_eq_false_iff_eq.mpr c12
          clear c12
          obtain rfl := Option.some.inj H
          go_enter Try.func4, Try.ntmps4
          go_wp2_with (first | ((with_reducible refine gate_callee (f := 14) rfl ?_); refine goesL_ (some 10) rfl rfl Try.func14 (by kernel_rfl) rfl #[] rfl (by (try simp only [List.map_toArray, List.map_cons, List.map_nil]); first | done | rfl | (simp only [List.length_drop, List.length_take]; rfl)) ?_; (with_reducible refine (stopcocklaw21_alive.calls k  true _ A4.out).mono ?_); rintro e w13 ⟨rfl, hb⟩; refine ⟨_, rfl, ?_⟩; have n0_ := Aside0.mk (below_step (by repeat (first | (with_reducible first | exact HB.out | apply below_alloc | apply pw_below_drewN | apply below_drew1) | exact HB.out)) hb); clear HB; have HB := n0_; clear n0_; (try clear hb); (try clear hb2); (try clear hk); (try clear hi)) | ((with_reducible refine gate_callee (f := 9) rfl ?_); refine goesL_ (some 23) rfl rfl Try.func9 (by kernel_rfl) rfl #[.int .i64 a0, .int .i64 (wrap64 (1 + (Int.tmod (wrap64 ((Int.tmod a1 60000) + 60000)) 60000))), .int .i64 (Int.tmod a2 30000)] rfl (by (try simp only [List.map_toArray, List.map_cons, List.map_nil]); first | done | rfl | (simp only [List.length_drop, List.length_take]; rfl)) ?_; (with_reducible refine (cubic_Curve.calls k a0 (wrap64 (1 + (Int.tmod (wrap64 ((Int.tmod a1 60000) + 60000)) 60000))) (Int.tmod a2 30000) t158 t159 _ A6.out).mono ?_); rintro e w14 ⟨rfl, hb⟩; refine ⟨_, rfl, ?_⟩; have n0_ := Aside0.mk (below_step (by repeat (first | (with_reducible first | exact HB.out | apply below_alloc | apply pw_below_drewN | apply below_drew1) | exact HB.out)) hb); clear HB; have HB := n0_; clear n0_; (try clear hb); (try clear hb2); (try clear hk); (try clear hi)) | ((with_reducible refine gate_callee (f := 13) rfl ?_); refine goesL_ (some 27) rfl rfl Try.func13 (by kernel_rfl) rfl #[.int .i64 t159] rfl (by (try simp only [List.map_toArray, List.map_cons, List.map_nil]); first | done | rfl | (simp only [List.length_drop, List.length_take]; rfl)) ?_; (with_reducible refine (stopcocklaw21_num.calls t159 t160 _ A7.out).mono ?_); rintro e w' ⟨rfl, ⟨nd, rfl⟩⟩; refine ⟨_, rfl, ?_⟩))
          go_ret
          exact ⟨by first | rfl | (simp [errW_none, errW_some] <;> rfl) | (simp [*, errW_none, errW_some] <;> rfl), by repeat (first | (with_reducible first | exact HB.out | apply below_alloc | apply pw_below_drewN | apply below_drew1) | exact HB.out)⟩
        · rw [if_neg c12] at H
          have c12b0 : (t158 == 1073741824) = false := beq_eq_false_iff_ne.mpr c12
          have c12b1 : (t158 != 1073741824) = true := bne_iff_ne.mpr c12
          by_cases c15 : (wrap64 ((wrap64 ((wrap64 ((wrap64 ((wrap64 (4 * (wrap64 (1 + (Int.tmod (wrap64 ((Int.tmod a1 60000) + 60000)) 60000))))) * (Int.tmod a2 30000))) * (Int.tmod a2 30000))) * (Int.tmod a2 30000))) - (wrap64 ((wrap64 (t158 - a0)) * 10737418240)))) ≥ 0
          · rw [if_pos c15] at H
            have c15b0 : decide (0 ≤ (wrap64 ((wrap64 ((wrap64 ((wrap64 ((wrap64 (4 * (wrap64 (1 + (Int.tmod (wrap64 ((Int.tmod a1 60000) + 60000)) 60000))))) * (Int.tmod a2 30000))) * (Int.tmod a2 30000))) * (Int.tmod a2 30000))) - (wrap64 ((wrap64 (t158 - a0)) * 10737418240))))) = true := decide_eq_true c15
            clear c15
            obtain rfl := Option.some.inj H
            go_enter Try.func4, Try.ntmps4
            go_wp2_with (first | ((with_reducible refine gate_callee (f := 14) rfl ?_); refine goesL_ (some 10) rfl rfl Try.func14 (by kernel_rfl) rfl #[] rfl (by (try simp only [List.map_toArray, List.map_cons, List.map_nil]); first | done | rfl | (simp only [List.length_drop, List.length_take]; rfl)) ?_; (with_reducible refine (stopcocklaw21_alive.calls k  true _ A4.out).mono ?_); rintro e w16 ⟨rfl, hb⟩; refine ⟨_, rfl, ?_⟩; have n0_ := Aside0.mk (below_step (by repeat (first | (with_reducible first | exact HB.out | apply below_alloc | apply pw_below_drewN | apply below_drew1) | exact HB.out)) hb); clear HB; have HB := n0_; clear n0_; (try clear hb); (try clear hb2); (try clear hk); (try clear hi)) | ((with_reducible refine gate_callee (f := 9) rfl ?_); refine goesL_ (some 23) rfl rfl Try.func9 (by kernel_rfl) rfl #[.int .i64 a0, .int .i64 (wrap64 (1 + (Int.tmod (wrap64 ((Int.tmod a1 60000) + 60000)) 60000))), .int .i64 (Int.tmod a2 30000)] rfl (by (try simp only [List.map_toArray, List.map_cons, List.map_nil]); first | done | rfl | (simp only [List.length_drop, List.length_take]; rfl)) ?_; (with_reducible refine (cubic_Curve.calls k a0 (wrap64 (1 + (Int.tmod (wrap64 ((Int.tmod a1 60000) + 60000)) 60000))) (Int.tmod a2 30000) t158 t159 _ A6.out).mono ?_); rintro e w17 ⟨rfl, hb⟩; refine ⟨_, rfl, ?_⟩; have n0_ := Aside0.mk (below_step (by repeat (first | (with_reducible first | exact HB.out | apply below_alloc | apply pw_below_drewN | apply below_drew1) | exact HB.out)) hb); clear HB; have HB := n0_; clear n0_; (try clear hb); (try clear hb2); (try clear hk); (try clear hi)) | ((with_reducible refine gate_callee (f := 13) rfl ?_); refine goesL_ (some 27) rfl rfl Try.func13 (by kernel_rfl) rfl #[.int .i64 t159] rfl (by (try simp only [List.map_toArray, List.map_cons, List.map_nil]); first | done | rfl | (simp only [List.length_drop, List.length_take]; rfl)) ?_; (with_reducible refine (stopcocklaw21_num.calls t159 t160 _ A7.out).mono ?_); rintro e w' ⟨rfl, ⟨nd, rfl⟩⟩; refine ⟨_, rfl, ?_⟩))
            go_ret
            exact ⟨by first | rfl | (simp [errW_none, errW_some] <;> rfl) | (simp [*, errW_none, errW_some] <;> rfl), by repeat (first | (with_reducible first | exact HB.out | apply below_alloc | apply pw_below_drewN | apply below_drew1) | exact HB.out)⟩
          · rw [if_neg c15] at H
            have c15b0 : decide (0 ≤ (wrap64 ((wrap64 ((wrap64 ((wrap64 ((wrap64 (4 * (wrap64 (1 + (Int.tmod (wrap64 ((Int.tmod a1 60000) + 60000)) 60000))))) * (Int.tmod a2 30000))) * (Int.tmod a2 30000))) * (Int.tmod a2 30000))) - (wrap64 ((wrap64 (t158 - a0)) * 10737418240))))) = false := decide_eq_false c15
            clear c15
            exact absurd ((Option.some.inj H).trans HRT.out) (by decide)
    · rw [if_neg c8] at H
      have c8b0 : (t160 == 0) = false := beq_eq_false_iff_ne.mpr c8
      have c8b1 : (t160 != 0) = true := bne_iff_ne.mpr c8
      obtain rfl := Option.some.inj H
      go_enter Try.func4, Try.ntmps4
      go_wp2_with (first | ((with_reducible refine gate_callee (f := 14) rfl ?_); refine goesL_ (some 10) rfl rfl Try.func14 (by kernel_rfl) rfl #[] rfl (by (try simp only [List.map_toArray, List.map_cons, List.map_nil]); first | done | rfl | (simp only [List.length_drop, List.length_take]; rfl)) ?_; (with_reducible refine (stopcocklaw21_alive.calls k  true _ A4.out).mono ?_); rintro e w18 ⟨rfl, hb⟩; refine ⟨_, rfl, ?_⟩; have n0_ := Aside0.mk (below_step (by repeat (first | (with_reducible first | exact HB.out | apply below_alloc | apply pw_below_drewN | apply below_drew1) | exact HB.out)) hb); clear HB; have HB := n0_; clear n0_; (try clear hb); (try clear hb2); (try clear hk); (try clear hi)) | ((with_reducible refine gate_callee (f := 9) rfl ?_); refine goesL_ (some 23) rfl rfl Try.func9 (by kernel_rfl) rfl #[.int .i64 a0, .int .i64 (wrap64 (1 + (Int.tmod (wrap64 ((Int.tmod a1 60000) + 60000)) 60000))), .int .i64 (Int.tmod a2 30000)] rfl (by (try simp only [List.map_toArray, List.map_cons, List.map_nil]); first | done | rfl | (simp only [List.length_drop, List.length_take]; rfl)) ?_; (with_reducible refine (cubic_Curve.calls k a0 (wrap64 (1 + (Int.tmod (wrap64 ((Int.tmod a1 60000) + 60000)) 60000))) (Int.tmod a2 30000) t158 t159 _ A6.out).mono ?_); rintro e w19 ⟨rfl, hb⟩; refine ⟨_, rfl, ?_⟩; have n0_ := Aside0.mk (below_step (by repeat (first | (with_reducible first | exact HB.out | apply below_alloc | apply pw_below_drewN | apply below_drew1) | exact HB.out)) hb); clear HB; have HB := n0_; clear n0_; (try clear hb); (try clear hb2); (try clear hk); (try clear hi)) | ((with_reducible refine gate_callee (f := 13) rfl ?_); refine goesL_ (some 27) rfl rfl Try.func13 (by kernel_rfl) rfl #[.int .i64 t159] rfl (by (try simp only [List.map_toArray, List.map_cons, List.map_nil]); first | done | rfl | (simp only [List.length_drop, List.length_take]; rfl)) ?_; (with_reducible refine (stopcocklaw21_num.calls t159 t160 _ A7.out).mono ?_); rintro e w' ⟨rfl, ⟨nd, rfl⟩⟩; refine ⟨_, rfl, ?_⟩))
      go_ret
      exact ⟨by first | rfl | (simp [errW_none, errW_some] <;> rfl) | (simp [*, errW_none, errW_some] <;> rfl), by repeat (first | (with_reducible first | exact HB.out | apply below_alloc | apply pw_below_drewN | apply below_drew1) | exact HB.out)⟩
  · replace c5 := Bool.eq_false_iff.mpr c5
    subst c5
    have H1 : (some false) = some r := by rw [if_neg (show ¬ (false = true) by decide)] at H; exact H
    clear H
    have H := H1
    clear H1
    exact absurd ((Option.some.inj H).trans HRT.out) (by decide)

/-- THE ONE PURE STATEMENT of stopcocklaw21_CubicCurve: yours. -/
def stopcocklaw21_CubicCurve.Pure : Prop := ∀ (a0 : Int) (a1 : Int) (a2 : Int), (Lit.int .i64 a0).wf = true → (Lit.int .i64 a1).wf = true → (Lit.int .i64 a2).wf = true → ∃ k, stopcocklaw21_CubicCurve.f k a0 a1 a2 = some true
theorem stopcocklaw21_CubicCurve.walk (P : stopcocklaw21_CubicCurve.Pure) (a0 : Int) (a1 : Int) (a2 : Int) (w : World) (w0 : (Lit.int .i64 a0).wf = true) (w1 : (Lit.int .i64 a1).wf = true) (w2 : (Lit.int .i64 a2).wf = true) :
    Calls Try.prog 4 #[.int .i64 a0, .int .i64 a1, .int .i64 a2] w fun e w' => e = .returned (.bool true) ∧ Below w.heap.size w w' := by
  obtain ⟨k, h⟩ := P a0 a1 a2 w0 w1 w2
  refine (stopcocklaw21_CubicCurve.calls k a0 a1 a2 true w h rfl).mono ?_
  rintro e w' ⟨rfl, hd⟩
  exact ⟨rfl, hd⟩

end Go.Proofs.Ytolgfodpkeopgaa.PA
