-- Written by a program of this session (wip/tools/mkprint.py, mp.sh) for this claim.
import Derived.Test.YtolgfodpkeopgaaPCx0
import Derived.Test.YtolgfodpkeopgaaPCx13
import Derived.Test.YtolgfodpkeopgaaPCx14
namespace Go.Proofs.Ytolgfodpkeopgaa.PC
open Go.RowKit Go.Proofs.YtolgfodpkeopgaaW.PrintWords Go.Proofs.YtolgfodpkeopgaaW.PrintLast Go.Proofs.YtolgfodpkeopgaaW.PrintMore
attribute [local go_sem] max2_int min2_int max_two min_two max_three min_three max_four min_four   -- for this text's walks alone
set_option linter.unusedVariables false
set_option linter.unusedSimpArgs false

/-! ### stopcockref21_Curve: function 10 -/
def stopcockref21_Curve.f (a0 : Int) (a1 : Int) (a2 : Int) : Option (Int × Int) := (stopcockref21_within.f a0 0 1073741824).bind fun t192 => (if t192 = true then ((stopcockref21_within.f a1 1 65535).bind fun t193 => (if t193 = true then ((stopcockref21_down.f (wrap64 ((wrap64 (4 * a1)) * (wrap64 ((wrap64 ((mx (-30000) (mn 30000 a2)) * (mx (-30000) (mn 30000 a2)))) * (mx (-30000) (mn 30000 a2)))))) 10737418240).bind fun t194 => (some (mx 0 (mn (wrap64 (a0 + t194)) 1073741824), 0))) else (some (0, 4)))) else (some (0, 4)))
set_option maxHeartbeats 8000000 in
set_option maxRecDepth 100000 in
theorem stopcockref21_Curve.calls (a0 : Int) (a1 : Int) (a2 : Int) (r1 : Int) (r2 : Int) (w : World) (h : stopcockref21_Curve.f a0 a1 a2 = some (r1, r2)) :
    Calls Try.prog 10 #[.int .i64 a0, .int .i64 a1, .int .i64 a2] w fun e w' => e = .returned (.tuple #[.int .i64 r1, .int .i64 r2]) ∧ Below w.heap.size w w' := by
  have HB := Aside0.mk (Below.refl w.heap.size w)
  have H : ((stopcockref21_within.f a0 0 1073741824).bind fun t192 => (if t192 = true then ((stopcockref21_within.f a1 1 65535).bind fun t193 => (if t193 = true then ((stopcockref21_down.f (wrap64 ((wrap64 (4 * a1)) * (wrap64 ((wrap64 ((mx (-30000) (mn 30000 a2)) * (mx (-30000) (mn 30000 a2)))) * (mx (-30000) (mn 30000 a2)))))) 10737418240).bind fun t194 => (some (mx 0 (mn (wrap64 (a0 + t194)) 1073741824), 0))) else (some (0, 4)))) else (some (0, 4)))) = some (r1, r2) := h
  clear h
  replace H := Option.bind_eq_some_iff.mp H
  obtain ⟨t192, A40, H⟩ := H
  replace H : (if t192 = true then ((stopcockref21_within.f a1 1 65535).bind fun t193 => (if t193 = true then ((stopcockref21_down.f (wrap64 ((wrap64 (4 * a1)) * (wrap64 ((wrap64 ((mx (-30000) (mn 30000 a2)) * (mx (-30000) (mn 30000 a2)))) * (mx (-30000) (mn 30000 a2)))))) 10737418240).bind fun t194 => (some (mx 0 (mn (wrap64 (a0 + t194)) 1073741824), 0))) else (some (0, 4)))) else (some (0, 4))) = some (r1, r2) := H
  have A4 := Aside0.mk A40
  clear A40
  by_cases c5 : t192 = true
  · subst c5
    have H1 : ((stopcockref21_within.f a1 1 65535).bind fun t193 => (if t193 = true then ((stopcockref21_down.f (wrap64 ((wrap64 (4 * a1)) * (wrap64 ((wrap64 ((mx (-30000) (mn 30000 a2)) * (mx (-30000) (mn 30000 a2)))) * (mx (-30000) (mn 30000 a2)))))) 10737418240).bind fun t194 => (some (mx 0 (mn (wrap64 (a0 + t194)) 1073741824), 0))) else (some (0, 4)))) = some (r1, r2) := by rw [if_pos rfl] at H; exact H
    clear H
    have H := H1
    clear H1
    replace H := Option.bind_eq_some_iff.mp H
    obtain ⟨t193, A60, H⟩ := H
    replace H : (if t193 = true then ((stopcockref21_down.f (wrap64 ((wrap64 (4 * a1)) * (wrap64 ((wrap64 ((mx (-30000) (mn 30000 a2)) * (mx (-30000) (mn 30000 a2)))) * (mx (-30000) (mn 30000 a2)))))) 10737418240).bind fun t194 => (some (mx 0 (mn (wrap64 (a0 + t194)) 1073741824), 0))) else (some (0, 4))) = some (r1, r2) := H
    have A6 := Aside0.mk A60
    clear A60
    by_cases c7 : t193 = true
    · subst c7
      have H1 : ((stopcockref21_down.f (wrap64 ((wrap64 (4 * a1)) * (wrap64 ((wrap64 ((mx (-30000) (mn 30000 a2)) * (mx (-30000) (mn 30000 a2)))) * (mx (-30000) (mn 30000 a2)))))) 10737418240).bind fun t194 => (some (mx 0 (mn (wrap64 (a0 + t194)) 1073741824), 0))) = some (r1, r2) := by rw [if_pos rfl] at H; exact H
      clear H
      have H := H1
      clear H1
      obtain ⟨ji8, hji8⟩ : ∃ j_ : Int, (mn 30000 a2) = j_ := ⟨_, rfl⟩
      replace H : ((stopcockref21_down.f (wrap64 ((wrap64 (4 * a1)) * (wrap64 ((wrap64 ((mx (-30000) (ji8)) * (mx (-30000) (ji8)))) * (mx (-30000) (ji8)))))) 10737418240).bind fun t194 => (some (mx 0 (mn (wrap64 (a0 + t194)) 1073741824), 0))) = some (r1, r2) := by first | (rw [hji8] at H; exact H) | (simp only [hji8] at H ⊢; exact H)
      (try rw [hji8] at A4)
      (try rw [hji8] at A6)
      (try (have hji8h : ji8 ≤ 30000 := by (rw [← hji8]; unfold mn; (repeat' split) <;> omega)))
      (try (have hji8g : ji8 ≤ 64 := by omega))
      have hji8_ : (if a2 < 30000 then a2 else 30000) = ji8 := hji8
      obtain ⟨ji9, hji9⟩ : ∃ j_ : Int, (mx (-30000) (ji8)) = j_ := ⟨_, rfl⟩
      replace H : ((stopcockref21_down.f (wrap64 ((wrap64 (4 * a1)) * (wrap64 ((wrap64 ((ji9) * (ji9))) * (ji9))))) 10737418240).bind fun t194 => (some (mx 0 (mn (wrap64 (a0 + t194)) 1073741824), 0))) = some (r1, r2) := by first | (rw [hji9] at H; exact H) | (simp only [hji9] at H ⊢; exact H)
      (try rw [hji9] at A4)
      (try rw [hji9] at A6)
      have hji9_ : (if (-30000) < (ji8) then (ji8) else (-30000)) = ji9 := hji9
      replace H := Option.bind_eq_some_iff.mp H
      obtain ⟨t194, A100, H⟩ := H
      replace H : (some (mx 0 (mn (wrap64 (a0 + t194)) 1073741824), 0)) = some (r1, r2) := H
      have A10 := Aside0.mk A100
      clear A100
      obtain ⟨ji11, hji11⟩ : ∃ j_ : Int, (mn (wrap64 (a0 + t194)) 1073741824) = j_ := ⟨_, rfl⟩
      replace H : (some (mx 0 (ji11), 0)) = some (r1, r2) := by first | (rw [hji11] at H; exact H) | (simp only [hji11] at H ⊢; exact H)
      (try rw [hji11] at A4)
      (try rw [hji11] at A6)
      (try rw [hji11] at A10)
      (try (have hji11h : ji11 ≤ 1073741824 := by (rw [← hji11]; unfold mn; (repeat' split) <;> omega)))
      (try (have hji11g : ji11 ≤ 64 := by omega))
      have hji11_ : (if 1073741824 < (wrap64 (a0 + t194)) then 1073741824 else (wrap64 (a0 + t194))) = ji11 := hji11
      obtain ⟨ji12, hji12⟩ : ∃ j_ : Int, (mx 0 (ji11)) = j_ := ⟨_, rfl⟩
      replace H : (some (ji12, 0)) = some (r1, r2) := by first | (rw [hji12] at H; exact H) | (simp only [hji12] at H ⊢; exact H)
      (try rw [hji12] at A4)
      (try rw [hji12] at A6)
      (try rw [hji12] at A10)
      have hji12_ : (if 0 < (ji11) then (ji11) else 0) = ji12 := hji12
      simp only [Option.some.injEq, Prod.mk.injEq] at H
      obtain ⟨rfl, rfl⟩ := H
      go_enter Try.func10, Try.ntmps10
      go_wp2_with (first | ((with_reducible refine gate_callee (f := 28) rfl ?_); refine goesL_ (some 10) rfl rfl Try.func28 (by kernel_rfl) rfl #[.int .i64 a0, .int .i64 0, .int .i64 1073741824] rfl (by (try simp only [List.map_toArray, List.map_cons, List.map_nil]); first | done | rfl | (simp only [List.length_drop, List.length_take]; rfl)) ?_; (with_reducible refine (stopcockref21_within.calls a0 0 1073741824 true _ A4.out).mono ?_); rintro e w' ⟨rfl, ⟨nd, rfl⟩⟩; refine ⟨_, rfl, ?_⟩) | (go_at_call 28; (with_reducible refine (stopcockref21_within.calls a1 1 65535 true _ A6.out).mono ?_); rintro e w' ⟨rfl, ⟨nd, rfl⟩⟩) | ((with_reducible refine gate_callee (f := 29) rfl ?_); refine goesL_ (some 29) rfl rfl Try.func29 (by kernel_rfl) rfl #[.int .i64 (wrap64 ((wrap64 (4 * a1)) * (wrap64 ((wrap64 ((ji9) * (ji9))) * (ji9))))), .int .i64 10737418240] rfl (by (try simp only [List.map_toArray, List.map_cons, List.map_nil]); first | done | (simp only [hji9]; rfl) | rfl | (simp only [List.length_drop, List.length_take]; rfl)) ?_; (with_reducible refine (stopcockref21_down.calls (wrap64 ((wrap64 (4 * a1)) * (wrap64 ((wrap64 ((ji9) * (ji9))) * (ji9))))) 10737418240 t194 _ A10.out).mono ?_); rintro e w' ⟨rfl, ⟨nd, rfl⟩⟩; refine ⟨_, rfl, ?_⟩))
      go_ret2
      exact ⟨by first | rfl | (simp [errW_none, errW_some] <;> rfl) | (simp only [← hji8, ← hji9, ← hji11, ← hji12]; first | rfl | (simp [errW_none, errW_some] <;> rfl)) | (simp [*, errW_none, errW_some] <;> rfl), by repeat (first | (with_reducible first | exact HB.out | apply below_alloc | apply pw_below_drewN | apply below_drew1) | exact HB.out)⟩
    · replace c7 := Bool.eq_false_iff.mpr c7
      subst c7
      have H1 : (some (0, 4)) = some (r1, r2) := by rw [if_neg (show ¬ (false = true) by decide)] at H; exact H
      clear H
      have H := H1
      clear H1
      simp only [Option.some.injEq, Prod.mk.injEq] at H
      obtain ⟨rfl, rfl⟩ := H
      go_enter Try.func10, Try.ntmps10
      go_wp2_with (first | ((with_reducible refine gate_callee (f := 28) rfl ?_); refine goesL_ (some 10) rfl rfl Try.func28 (by kernel_rfl) rfl #[.int .i64 a0, .int .i64 0, .int .i64 1073741824] rfl (by (try simp only [List.map_toArray, List.map_cons, List.map_nil]); first | done | rfl | (simp only [List.length_drop, List.length_take]; rfl)) ?_; (with_reducible refine (stopcockref21_within.calls a0 0 1073741824 true _ A4.out).mono ?_); rintro e w' ⟨rfl, ⟨nd, rfl⟩⟩; refine ⟨_, rfl, ?_⟩) | (go_at_call 28; (with_reducible refine (stopcockref21_within.calls a1 1 65535 false _ A6.out).mono ?_); rintro e w' ⟨rfl, ⟨nd, rfl⟩⟩))
      go_ret2
      exact ⟨by first | rfl | (simp [errW_none, errW_some] <;> rfl) | (simp [*, errW_none, errW_some] <;> rfl), by repeat (first | (with_reducible first | exact HB.out | apply below_alloc | apply pw_below_drewN | apply below_drew1) | exact HB.out)⟩
  · replace c5 := Bool.eq_false_iff.mpr c5
    subst c5
    have H1 : (some (0, 4)) = some (r1, r2) := by rw [if_neg (show ¬ (false = true) by decide)] at H; exact H
    clear H
    have H := H1
    clear H1
    simp only [Option.some.injEq, Prod.mk.injEq] at H
    obtain ⟨rfl, rfl⟩ := H
    go_enter Try.func10, Try.ntmps10
    go_wp2_with (first | ((with_reducible refine gate_callee (f := 28) rfl ?_); refine goesL_ (some 10) rfl rfl Try.func28 (by kernel_rfl) rfl #[.int .i64 a0, .int .i64 0, .int .i64 1073741824] rfl (by (try simp only [List.map_toArray, List.map_cons, List.map_nil]); first | done | rfl | (simp only [List.length_drop, List.length_take]; rfl)) ?_; (with_reducible refine (stopcockref21_within.calls a0 0 1073741824 false _ A4.out).mono ?_); rintro e w' ⟨rfl, ⟨nd, rfl⟩⟩; refine ⟨_, rfl, ?_⟩))
    go_ret2
    exact ⟨by first | rfl | (simp [errW_none, errW_some] <;> rfl) | (simp [*, errW_none, errW_some] <;> rfl), by repeat (first | (with_reducible first | exact HB.out | apply below_alloc | apply pw_below_drewN | apply below_drew1) | exact HB.out)⟩

end Go.Proofs.Ytolgfodpkeopgaa.PC
