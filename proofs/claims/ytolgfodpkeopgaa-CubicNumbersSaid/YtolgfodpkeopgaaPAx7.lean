-- Written by a program of this session (wip/tools/mkprint.py, mp.sh) for this claim.
import Derived.Test.YtolgfodpkeopgaaPAx0
import Derived.Test.YtolgfodpkeopgaaPAx2
import Derived.Test.YtolgfodpkeopgaaPAx3
import Derived.Test.YtolgfodpkeopgaaPAx4
import Derived.Test.YtolgfodpkeopgaaPAx5
import Derived.Test.YtolgfodpkeopgaaPAx6
namespace Go.Proofs.Ytolgfodpkeopgaa.PA
open Go.RowKit Go.Proofs.YtolgfodpkeopgaaW.PrintWords Go.Proofs.YtolgfodpkeopgaaW.PrintLast Go.Proofs.YtolgfodpkeopgaaW.PrintMore
attribute [local go_sem] max2_int min2_int max_two min_two max_three min_three max_four min_four   -- for this text's walks alone
set_option linter.unusedVariables false
set_option linter.unusedSimpArgs false

/-! ### stopcocklaw21_CubicNumbers: function 3 -/
def stopcocklaw21_CubicNumbers.j0 : Nat → Int → Int → Int → Int → Bool → Option (Bool)
  | 0, _, _, _, _, _ => none
  | k + 1, x1, x2, x3, x4, x48 => if x48 = true then (some false) else ((cubic_Curve.f k x1 x3 x4).bind fun bt146 => ((stopcockref21_Curve.f x1 x3 x4).bind fun bt148 => ((cubic_Turn.f k x1 x2 x3).bind fun bt150 => ((stopcockref21_Turn.f k x1 x2 x3).bind fun bt152 => (if bt146.1 = bt148.1 then ((stopcocklaw21_num.f bt146.2).bind fun t154 => (if t154 = bt148.2 then (if bt150.1 = bt152.1 then ((stopcocklaw21_num.f bt150.2).bind fun t155 => (if t155 = bt152.2 then ((stopcocklaw21_alive.f k).bind fun t156 => (some t156)) else (some false))) else (some false)) else (some false))) else (some false))))))
def stopcocklaw21_CubicNumbers.f (k : Nat) (a0 : Int) (a1 : Int) (a2 : Int) (a3 : Int) (a4 : Int) : Option (Bool) := (cubic_Root.f k a0).bind fun t145 => (if t145 > 2642245 then (stopcocklaw21_CubicNumbers.j0 k a1 a2 a3 a4 true) else (if (IntKind.u64.wrap ((IntKind.u64.wrap (t145 * t145)) * t145)) > a0 then (stopcocklaw21_CubicNumbers.j0 k a1 a2 a3 a4 true) else (if t145 < 2642245 then (stopcocklaw21_CubicNumbers.j0 k a1 a2 a3 a4 (decide ((IntKind.u64.wrap ((IntKind.u64.wrap ((IntKind.u64.wrap (t145 + 1)) * (IntKind.u64.wrap (t145 + 1)))) * (IntKind.u64.wrap (t145 + 1)))) ≤ a0))) else (stopcocklaw21_CubicNumbers.j0 k a1 a2 a3 a4 false))))
theorem stopcocklaw21_CubicNumbers.mono_l : ∀ k, (∀ y0 y1 y2 y3 y4, LeO (stopcocklaw21_CubicNumbers.j0 k y0 y1 y2 y3 y4) (stopcocklaw21_CubicNumbers.j0 (k + 1) y0 y1 y2 y3 y4))
  | 0 => fun _ _ _ _ _ r h => by simp [stopcocklaw21_CubicNumbers.j0] at h
  | k + 1 => by
    have ih0 := stopcocklaw21_CubicNumbers.mono_l k
    · intro y0 y1 y2 y3 y4
      unfold stopcocklaw21_CubicNumbers.j0
      repeat' first
      | (with_reducible exact ih0 _ _ _ _ _)
      | (with_reducible exact cubic_Curve.mono _ _ _ _)
      | (with_reducible exact cubic_Root.mono _ _)
      | (with_reducible exact cubic_Turn.mono _ _ _ _)
      | (with_reducible exact stopcocklaw21_alive.mono _)
      | (with_reducible exact stopcockref21_Turn.mono _ _ _ _)
      | (with_reducible exact LeO.refl _)
      | (with_reducible exact LeO.none _)
      | (with_reducible refine LeO.ite ?_ ?_)
      | (with_reducible refine LeO.bind ?_ (fun _ => ?_))
      | exact ih0 _ _ _ _ _
      | exact cubic_Curve.mono _ _ _ _
      | exact cubic_Root.mono _ _
      | exact cubic_Turn.mono _ _ _ _
      | exact stopcocklaw21_alive.mono _
      | exact stopcockref21_Turn.mono _ _ _ _
      | exact LeO.none _
      | refine LeO.ite ?_ ?_
      | refine LeO.bind ?_ (fun _ => ?_)
theorem stopcocklaw21_CubicNumbers.mono : ∀ a0 a1 a2 a3 a4 k, LeO (stopcocklaw21_CubicNumbers.f k a0 a1 a2 a3 a4) (stopcocklaw21_CubicNumbers.f (k + 1) a0 a1 a2 a3 a4) := by
  intro a0 a1 a2 a3 a4 k
  have ih0 := stopcocklaw21_CubicNumbers.mono_l k
  unfold stopcocklaw21_CubicNumbers.f
  repeat' first
      | (with_reducible exact ih0 _ _ _ _ _)
      | (with_reducible exact cubic_Curve.mono _ _ _ _)
      | (with_reducible exact cubic_Root.mono _ _)
      | (with_reducible exact cubic_Turn.mono _ _ _ _)
      | (with_reducible exact stopcocklaw21_alive.mono _)
      | (with_reducible exact stopcockref21_Turn.mono _ _ _ _)
      | (with_reducible exact LeO.refl _)
      | (with_reducible exact LeO.none _)
      | (with_reducible refine LeO.ite ?_ ?_)
      | (with_reducible refine LeO.bind ?_ (fun _ => ?_))
      | exact ih0 _ _ _ _ _
      | exact cubic_Curve.mono _ _ _ _
      | exact cubic_Root.mono _ _
      | exact cubic_Turn.mono _ _ _ _
      | exact stopcocklaw21_alive.mono _
      | exact stopcockref21_Turn.mono _ _ _ _
      | exact LeO.none _
      | refine LeO.ite ?_ ?_
      | refine LeO.bind ?_ (fun _ => ?_)
set_option maxHeartbeats 8000000 in
set_option maxRecDepth 100000 in
theorem stopcocklaw21_CubicNumbers.calls (k : Nat) (a0 : Int) (a1 : Int) (a2 : Int) (a3 : Int) (a4 : Int) (r : Bool) (w : World) (h : stopcocklaw21_CubicNumbers.f k a0 a1 a2 a3 a4 = some r) (hrt : r = true) :
    Calls Try.prog 3 #[.int .u64 a0, .int .i64 a1, .int .i64 a2, .int .i64 a3, .int .i64 a4] w fun e w' => e = .returned (.bool r) ∧ Below w.heap.size w w' := by
  have HRT := Aside0.mk hrt
  clear hrt
  have HB := Aside0.mk (Below.refl w.heap.size w)
  have H : ((cubic_Root.f k a0).bind fun t145 => (if t145 > 2642245 then (stopcocklaw21_CubicNumbers.j0 k a1 a2 a3 a4 true) else (if (IntKind.u64.wrap ((IntKind.u64.wrap (t145 * t145)) * t145)) > a0 then (stopcocklaw21_CubicNumbers.j0 k a1 a2 a3 a4 true) else (if t145 < 2642245 then (stopcocklaw21_CubicNumbers.j0 k a1 a2 a3 a4 (decide ((IntKind.u64.wrap ((IntKind.u64.wrap ((IntKind.u64.wrap (t145 + 1)) * (IntKind.u64.wrap (t145 + 1)))) * (IntKind.u64.wrap (t145 + 1)))) ≤ a0))) else (stopcocklaw21_CubicNumbers.j0 k a1 a2 a3 a4 false))))) = some r := h
  clear h
  replace H := Option.bind_eq_some_iff.mp H
  obtain ⟨t145, A60, H⟩ := H
  replace H : (if t145 > 2642245 then (stopcocklaw21_CubicNumbers.j0 k a1 a2 a3 a4 true) else (if (IntKind.u64.wrap ((IntKind.u64.wrap (t145 * t145)) * t145)) > a0 then (stopcocklaw21_CubicNumbers.j0 k a1 a2 a3 a4 true) else (if t145 < 2642245 then (stopcocklaw21_CubicNumbers.j0 k a1 a2 a3 a4 (decide ((IntKind.u64.wrap ((IntKind.u64.wrap ((IntKind.u64.wrap (t145 + 1)) * (IntKind.u64.wrap (t145 + 1)))) * (IntKind.u64.wrap (t145 + 1)))) ≤ a0))) else (stopcocklaw21_CubicNumbers.j0 k a1 a2 a3 a4 false)))) = some r := H
  have A6 := Aside0.mk A60
  clear A60
  have HC7 := Aside0.mk H
  clear H
  go_enter Try.func3, Try.ntmps3
  go_upto_region 2 with (first | ((with_reducible refine gate_callee (f := 8) rfl ?_); refine goesL_ (some 21) rfl rfl Try.func8 (by kernel_rfl) rfl #[.int .u64 a0] rfl (by (try simp only [List.map_toArray, List.map_cons, List.map_nil]); first | done | rfl | (simp only [List.length_drop, List.length_take]; rfl)) ?_; (with_reducible refine (cubic_Root.calls k a0 t145 _ A6.out).mono ?_); rintro e w' ⟨rfl, ⟨nd, rfl⟩⟩; refine ⟨_, rfl, ?_⟩))
  (try simp only [Act.put, List.setIfInBounds_toArray, List.set_cons_zero, List.set_cons_succ])
  go_cut [48] (fun v48 wc => ∃ (kq : Nat) (x48_6 : Bool), v48 = .bool x48_6 ∧ Aside0 (stopcocklaw21_CubicNumbers.j0 kq a1 a2 a3 a4 x48_6 = some r) ∧ Aside0 (kq ≤ k) ∧ Aside0 (Below w.heap.size w wc))
  case first =>
    have H := HC7.out
    clear HC7
    by_cases c8 : t145 > 2642245
    · rw [if_pos c8] at H
      have c8b0 : decide (2642245 < t145) = true := decide_eq_true c8
      clear c8
      (first | rw [c8b0] | (simp only [i64_w, i32_w]; rw [c8b0]) | skip)
      have H' := Aside0.mk H
      clear H
      go_wp2
      go_meet
      case rel => exact ⟨_, (true), (by first | rfl | (simp; done) | (simp [*]; done)), H', ⟨by first | omega | exact Nat.le_refl _⟩, ⟨by repeat (first | (with_reducible first | exact HB.out | apply below_alloc | apply pw_below_drewN | apply below_drew1) | exact HB.out)⟩⟩
    · rw [if_neg c8] at H
      have c8b0 : decide (2642245 < t145) = false := decide_eq_false c8
      clear c8
      (first | rw [c8b0] | (simp only [i64_w, i32_w]; rw [c8b0]) | skip)
      by_cases c9 : (IntKind.u64.wrap ((IntKind.u64.wrap (t145 * t145)) * t145)) > a0
      · rw [if_pos c9] at H
        have c9b0 : decide (a0 < (IntKind.u64.wrap ((IntKind.u64.wrap (t145 * t145)) * t145))) = true := decide_eq_true c9
        clear c9
        have H' := Aside0.mk H
        clear H
        go_wp2
        go_meet
        case rel => exact ⟨_, (true), (by first | rfl | (simp; done) | (simp [*]; done)), H', ⟨by first | omega | exact Nat.le_refl _⟩, ⟨by repeat (first | (with_reducible first | exact HB.out | apply below_alloc | apply pw_below_drewN | apply below_drew1) | exact HB.out)⟩⟩
      · rw [if_neg c9] at H
        have c9b0 : decide (a0 < (IntKind.u64.wrap ((IntKind.u64.wrap (t145 * t145)) * t145))) = false := decide_eq_false c9
        clear c9
        by_cases c10 : t145 < 2642245
        · rw [if_pos c10] at H
          have c10b0 : decide (t145 < 2642245) = true := decide_eq_true c10
          clear c10
          have H' := Aside0.mk H
          clear H
          go_wp2
          go_meet
          case rel => exact ⟨_, (decide ((IntKind.u64.wrap ((IntKind.u64.wrap ((IntKind.u64.wrap (t145 + 1)) * (IntKind.u64.wrap (t145 + 1)))) * (IntKind.u64.wrap (t145 + 1)))) ≤ a0)), (by first | rfl | (simp; done) | (simp [*]; done)), H', ⟨by first | omega | exact Nat.le_refl _⟩, ⟨by repeat (first | (with_reducible first | exact HB.out | apply below_alloc | apply pw_below_drewN | apply below_drew1) | exact HB.out)⟩⟩
        · rw [if_neg c10] at H
          have c10b0 : decide (t145 < 2642245) = false := decide_eq_false c10
          clear c10
          have H' := Aside0.mk H
          clear H
          go_wp2
          go_meet
          case rel => exact ⟨_, (false), (by first | rfl | (simp; done) | (simp [*]; done)), H', ⟨by first | omega | exact Nat.le_refl _⟩, ⟨by repeat (first | (with_reducible first | exact HB.out | apply below_alloc | apply pw_below_drewN | apply below_drew1) | exact HB.out)⟩⟩
  case rest =>
    clear HC7
    try clear c1
    try clear p2
    try clear c3
    try clear c8
    try clear c8b0
    try clear c9
    try clear c9b0
    try clear c10
    try clear c10b0
    obtain ⟨kq, x48_6, rfl, HA, HJ6, HB⟩ := hcut
    cases kq with
    | zero => exact absurd HA.out (by simp [stopcocklaw21_CubicNumbers.j0])
    | succ kj6 =>
      have H := HA.out
      clear HA
      simp only [stopcocklaw21_CubicNumbers.j0] at H
      by_cases c11 : x48_6 = true
      · subst c11
        have H1 : (some false) = some r := by rw [if_pos rfl] at H; exact H
        clear H
        have H := H1
        clear H1
        exact absurd ((Option.some.inj H).trans HRT.out) (by decide)
      · replace c11 := Bool.eq_false_iff.mpr c11
        subst c11
        have H1 : ((cubic_Curve.f kj6 a1 a3 a4).bind fun bt146 => ((stopcockref21_Curve.f a1 a3 a4).bind fun bt148 => ((cubic_Turn.f kj6 a1 a2 a3).bind fun bt150 => ((stopcockref21_Turn.f kj6 a1 a2 a3).bind fun bt152 => (if bt146.1 = bt148.1 then ((stopcocklaw21_num.f bt146.2).bind fun t154 => (if t154 = bt148.2 then (if bt150.1 = bt152.1 then ((stopcocklaw21_num.f bt150.2).bind fun t155 => (if t155 = bt152.2 then ((stopcocklaw21_alive.f kj6).bind fun t156 => (some t156)) else (some false))) else (some false)) else (some false))) else (some false)))))) = some r := by rw [if_neg (show ¬ (false = true) by decide)] at H; exact H
        clear H
        have H := H1
        clear H1
        replace H := Option.bind_eq_some_iff.mp H
        obtain ⟨⟨t146, t147⟩, A120, H⟩ := H
        replace H : ((stopcockref21_Curve.f a1 a3 a4).bind fun bt148 => ((cubic_Turn.f kj6 a1 a2 a3).bind fun bt150 => ((stopcockref21_Turn.f kj6 a1 a2 a3).bind fun bt152 => (if t146 = bt148.1 then ((stopcocklaw21_num.f t147).bind fun t154 => (if t154 = bt148.2 then (if bt150.1 = bt152.1 then ((stopcocklaw21_num.f bt150.2).bind fun t155 => (if t155 = bt152.2 then ((stopcocklaw21_alive.f kj6).bind fun t156 => (some t156)) else (some false))) else (some false)) else (some false))) else (some false))))) = some r := H
        have A12 := Aside0.mk A120
        clear A120
        replace H := Option.bind_eq_some_iff.mp H
        obtain ⟨⟨t148, t149⟩, A130, H⟩ := H
        replace H : ((cubic_Turn.f kj6 a1 a2 a3).bind fun bt150 => ((stopcockref21_Turn.f kj6 a1 a2 a3).bind fun bt152 => (if t146 = t148 then ((stopcocklaw21_num.f t147).bind fun t154 => (if t154 = t149 then (if bt150.1 = bt152.1 then ((stopcocklaw21_num.f bt150.2).bind fun t155 => (if t155 = bt152.2 then ((stopcocklaw21_alive.f kj6).bind fun t156 => (some t156)) else (some false))) else (some false)) else (some false))) else (some false)))) = some r := H
        have A13 := Aside0.mk A130
        clear A130
        replace H := Option.bind_eq_some_iff.mp H
        obtain ⟨⟨t150, t151⟩, A140, H⟩ := H
        replace H : ((stopcockref21_Turn.f kj6 a1 a2 a3).bind fun bt152 => (if t146 = t148 then ((stopcocklaw21_num.f t147).bind fun t154 => (if t154 = t149 then (if t150 = bt152.1 then ((stopcocklaw21_num.f t151).bind fun t155 => (if t155 = bt152.2 then ((stopcocklaw21_alive.f kj6).bind fun t156 => (some t156)) else (some false))) else (some false)) else (some false))) else (some false))) = some r := H
        have A14 := Aside0.mk A140
        clear A140
        replace H := Option.bind_eq_some_iff.mp H
        obtain ⟨⟨t152, t153⟩, A150, H⟩ := H
        replace H : (if t146 = t148 then ((stopcocklaw21_num.f t147).bind fun t154 => (if t154 = t149 then (if t150 = t152 then ((stopcocklaw21_num.f t151).bind fun t155 => (if t155 = t153 then ((stopcocklaw21_alive.f kj6).bind fun t156 => (some t156)) else (some false))) else (some false)) else (some false))) else (some false)) = some r := H
        have A15 := Aside0.mk A150
        clear A150
        by_cases c16 : t146 = t148
        · rw [if_pos c16] at H
          have c16b0 : (t146 == t148) = true := beq_iff_eq.mpr c16
          have c16b1 : (t146 != t148) = false := bne_eq_false_iff_eq.mpr c16
          clear c16
          replace H := Option.bind_eq_some_iff.mp H
          obtain ⟨t154, A170, H⟩ := H
          replace H : (if t154 = t149 then (if t150 = t152 then ((stopcocklaw21_num.f t151).bind fun t155 => (if t155 = t153 then ((stopcocklaw21_alive.f kj6).bind fun t156 => (some t156)) else (some false))) else (some false)) else (some false)) = some r := H
          have A17 := Aside0.mk A170
          clear A170
          by_cases c18 : t154 = t149
          · rw [if_pos c18] at H
            have c18b0 : (t154 == t149) = true := beq_iff_eq.mpr c18
            have c18b1 : (t154 != t149) = false := bne_eq_false_iff_eq.mpr c18
            clear c18
            by_cases c19 : t150 = t152
            · rw [if_pos c19] at H
              have c19b0 : (t150 == t152) = true := beq_iff_eq.mpr c19
              have c19b1 : (t150 != t152) = false := bne_eq_false_iff_eq.mpr c19
              clear c19
              replace H := Option.bind_eq_some_iff.mp H
              obtain ⟨t155, A200, H⟩ := H
              replace H : (if t155 = t153 then ((stopcocklaw21_alive.f kj6).bind fun t156 => (some t156)) else (some false)) = some r := H
              have A20 := Aside0.mk A200
              clear A200
              by_cases c21 : t155 = t153
              · rw [if_pos c21] at H
                have c21b0 : (t155 == t153) = true := beq_iff_eq.mpr c21
                have c21b1 : (t155 != t153) = false := bne_eq_false_iff_eq.mpr c21
                clear c21
                replace H := Option.bind_eq_some_iff.mp H
                obtain ⟨t156, A220, H⟩ := H
                replace H : (some t156) = some r := H
                have A22 := Aside0.mk A220
                clear A220
                obtain rfl := Option.some.inj H
                go_wp2_with (first | ((with_reducible refine gate_callee (f := 9) rfl ?_); refine goesL_ (some 53) rfl rfl Try.func9 (by kernel_rfl) rfl #[.int .i64 a1, .int .i64 a3, .int .i64 a4] rfl (by (try simp only [List.map_toArray, List.map_cons, List.map_nil]); first | done | rfl | (simp only [List.length_drop, List.length_take]; rfl)) ?_; (with_reducible refine (cubic_Curve.calls kj6 a1 a3 a4 t146 t147 _ A12.out).mono ?_); rintro e w23 ⟨rfl, hb⟩; refine ⟨_, rfl, ?_⟩; have n0_ := Aside0.mk (below_step (by repeat (first | (with_reducible first | exact HB.out | apply below_alloc | apply pw_below_drewN | apply below_drew1) | exact HB.out)) hb); clear HB; have HB := n0_; clear n0_; (try clear hb); (try clear hb2); (try clear hk); (try clear hi)) | ((with_reducible refine gate_callee (f := 10) rfl ?_); refine goesL_ (some 60) rfl rfl Try.func10 (by kernel_rfl) rfl #[.int .i64 a1, .int .i64 a3, .int .i64 a4] rfl (by (try simp only [List.map_toArray, List.map_cons, List.map_nil]); first | done | rfl | (simp only [List.length_drop, List.length_take]; rfl)) ?_; (with_reducible refine (stopcockref21_Curve.calls a1 a3 a4 t148 t149 _ A13.out).mono ?_); rintro e w24 ⟨rfl, hb⟩; refine ⟨_, rfl, ?_⟩; have n0_ := Aside0.mk (below_step (by repeat (first | (with_reducible first | exact HB.out | apply below_alloc | apply pw_below_drewN | apply below_drew1) | exact HB.out)) hb); clear HB; have HB := n0_; clear n0_; (try clear hb); (try clear hb2); (try clear hk); (try clear hi)) | ((with_reducible refine gate_callee (f := 11) rfl ?_); refine goesL_ (some 67) rfl rfl Try.func11 (by kernel_rfl) rfl #[.int .i64 a1, .int .i64 a2, .int .i64 a3] rfl (by (try simp only [List.map_toArray, List.map_cons, List.map_nil]); first | done | rfl | (simp only [List.length_drop, List.length_take]; rfl)) ?_; (with_reducible refine (cubic_Turn.calls kj6 a1 a2 a3 t150 t151 _ A14.out).mono ?_); rintro e w25 ⟨rfl, hb⟩; refine ⟨_, rfl, ?_⟩; have n0_ := Aside0.mk (below_step (by repeat (first | (with_reducible first | exact HB.out | apply below_alloc | apply pw_below_drewN | apply below_drew1) | exact HB.out)) hb); clear HB; have HB := n0_; clear n0_; (try clear hb); (try clear hb2); (try clear hk); (try clear hi)) | ((with_reducible refine gate_callee (f := 12) rfl ?_); refine goesL_ (some 74) rfl rfl Try.func12 (by kernel_rfl) rfl #[.int .i64 a1, .int .i64 a2, .int .i64 a3] rfl (by (try simp only [List.map_toArray, List.map_cons, List.map_nil]); first | done | rfl | (simp only [List.length_drop, List.length_take]; rfl)) ?_; (with_reducible refine (stopcockref21_Turn.calls kj6 a1 a2 a3 t152 t153 _ A15.out).mono ?_); rintro e w' ⟨rfl, ⟨nd, rfl⟩⟩; refine ⟨_, rfl, ?_⟩) | (go_at_call 13; (with_reducible refine (stopcocklaw21_num.calls t147 t154 _ A17.out).mono ?_); rintro e w' ⟨rfl, ⟨nd, rfl⟩⟩) | (go_at_call 13; (with_reducible refine (stopcocklaw21_num.calls t151 t155 _ A20.out).mono ?_); rintro e w' ⟨rfl, ⟨nd, rfl⟩⟩) | (go_at_call 14; (with_reducible refine (stopcocklaw21_alive.calls kj6  t156 _ A22.out).mono ?_); rintro e w26 ⟨rfl, hb⟩; have n0_ := Aside0.mk (below_step (by repeat (first | (with_reducible first | exact HB.out | apply below_alloc | apply pw_below_drewN | apply below_drew1) | exact HB.out)) hb); clear HB; have HB := n0_; clear n0_; (try clear hb); (try clear hb2); (try clear hk); (try clear hi)))
                go_ret
                exact ⟨by first | rfl | (simp [errW_none, errW_some] <;> rfl) | (simp [*, errW_none, errW_some] <;> rfl), by repeat (first | (with_reducible first | exact HB.out | apply below_alloc | apply pw_below_drewN | apply below_drew1) | exact HB.out)⟩
              · rw [if_neg c21] at H
                have c21b0 : (t155 == t153) = false := beq_eq_false_iff_ne.mpr c21
                have c21b1 : (t155 != t153) = true := bne_iff_ne.mpr c21
                exact absurd ((Option.some.inj H).trans HRT.out) (by decide)
            · rw [if_neg c19] at H
              have c19b0 : (t150 == t152) = false := beq_eq_false_iff_ne.mpr c19
              have c19b1 : (t150 != t152) = true := bne_iff_ne.mpr c19
              exact absurd ((Option.some.inj H).trans HRT.out) (by decide)
          · rw [if_neg c18] at H
            have c18b0 : (t154 == t149) = false := beq_eq_false_iff_ne.mpr c18
            have c18b1 : (t154 != t149) = true := bne_iff_ne.mpr c18
            exact absurd ((Option.some.inj H).trans HRT.out) (by decide)
        · rw [if_neg c16] at H
          have c16b0 : (t146 == t148) = false := beq_eq_false_iff_ne.mpr c16
          have c16b1 : (t146 != t148) = true := bne_iff_ne.mpr c16
          exact absurd ((Option.some.inj H).trans HRT.out) (by decide)

/-- THE ONE PURE STATEMENT of stopcocklaw21_CubicNumbers: yours. -/
def stopcocklaw21_CubicNumbers.Pure : Prop := ∀ (a0 : Int) (a1 : Int) (a2 : Int) (a3 : Int) (a4 : Int), (Lit.int .u64 a0).wf = true → (Lit.int .i64 a1).wf = true → (Lit.int .i64 a2).wf = true → (Lit.int .i64 a3).wf = true → (Lit.int .i64 a4).wf = true → ∃ k, stopcocklaw21_CubicNumbers.f k a0 a1 a2 a3 a4 = some true
theorem stopcocklaw21_CubicNumbers.walk (P : stopcocklaw21_CubicNumbers.Pure) (a0 : Int) (a1 : Int) (a2 : Int) (a3 : Int) (a4 : Int) (w : World) (w0 : (Lit.int .u64 a0).wf = true) (w1 : (Lit.int .i64 a1).wf = true) (w2 : (Lit.int .i64 a2).wf = true) (w3 : (Lit.int .i64 a3).wf = true) (w4 : (Lit.int .i64 a4).wf = true) :
    Calls Try.prog 3 #[.int .u64 a0, .int .i64 a1, .int .i64 a2, .int .i64 a3, .int .i64 a4] w fun e w' => e = .returned (.bool true) ∧ Below w.heap.size w w' := by
  obtain ⟨k, h⟩ := P a0 a1 a2 a3 a4 w0 w1 w2 w3 w4
  refine (stopcocklaw21_CubicNumbers.calls k a0 a1 a2 a3 a4 true w h rfl).mono ?_
  rintro e w' ⟨rfl, hd⟩
  exact ⟨rfl, hd⟩

end Go.Proofs.Ytolgfodpkeopgaa.PA
