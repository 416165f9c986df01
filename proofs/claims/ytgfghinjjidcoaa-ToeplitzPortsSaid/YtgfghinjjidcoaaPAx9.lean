-- Written by a program of this session (wip/tools/mkprint.py, mp.sh) for this claim.
import Derived.Test.YtgfghinjjidcoaaPAx0
namespace Go.Proofs.Ytgfghinjjidcoaa.PA
open Go.RowKit Go.Proofs.YtgfghinjjidcoaaW.PrintWords Go.Proofs.YtgfghinjjidcoaaW.PrintLast Go.Proofs.YtgfghinjjidcoaaW.PrintMore
attribute [local go_sem] max2_int min2_int max_two min_two max_three min_three max_four min_four   -- for this text's walks alone
set_option linter.unusedVariables false
set_option linter.unusedSimpArgs false

-- NOT PRINTED: function 33 (slices_Min_int_int)

-- NOT PRINTED: function 34 (slices_Max_int_int)

/-! ### toeplitz_checkTable: function 27 -/
def toeplitz_checkTable.f (l0 : List Int) : Option (Int) := Hand.checkT l0
set_option maxHeartbeats 8000000 in
set_option maxRecDepth 100000 in
theorem toeplitz_checkTable.calls (A0 : Option Addr) (c0 : Nat) (l0 : List Int) (r : Int) (w : World) (hr0 : Kd.C (Kd.int .i64) w A0 l0.length l0) (hc0 : l0.length ≤ c0) (h : toeplitz_checkTable.f l0 = some r) :
    Calls Try.prog 27 #[.slice A0 l0.length c0] w fun e w' => e = .returned (.int .i64 r) ∧ Drawn0 w w' := by
  exact (Hand.check_calls A0 c0 l0 r w hr0 hc0 h).mono fun e w' ⟨he, hw⟩ => ⟨he, hw ▸ Drawn0.refl _⟩


/-! ### toeplitz_Shard: function 17 -/
def toeplitz_Shard.f (l0 : List Int) (a1 : Int) : Option (Int × Int) := (toeplitz_checkTable.f l0).bind fun t156 => (if t156 = 0 then (if 0 ≤ (Go.bits .and .u32 a1 127) then (if (Go.bits .and .u32 a1 127) < (l0.length : Int) then (some (rd l0 (Go.bits .and .u32 a1 127), 0)) else (none)) else (none)) else (some (0, t156)))
set_option maxHeartbeats 8000000 in
set_option maxRecDepth 100000 in
theorem toeplitz_Shard.calls (A0 : Option Addr) (c0 : Nat) (l0 : List Int) (a1 : Int) (r1 : Int) (r2 : Int) (w : World) (hr0 : Kd.C (Kd.int .i64) w A0 l0.length l0) (hc0 : l0.length ≤ c0) (h : toeplitz_Shard.f l0 a1 = some (r1, r2)) :
    Calls Try.prog 17 #[.slice A0 l0.length c0, .int .u32 a1] w fun e w' => e = .returned (.tuple #[.int .i64 r1, .int .i64 r2]) ∧ Drawn0 w w' := by
  have HR0 := Aside0.mk hr0; have HC0 := Aside0.mk hc0; clear hr0 hc0; have H : ((toeplitz_checkTable.f l0).bind fun t156 => (if t156 = 0 then (if 0 ≤ (Go.bits .and .u32 a1 127) then (if (Go.bits .and .u32 a1 127) < (l0.length : Int) then (some (rd l0 (Go.bits .and .u32 a1 127), 0)) else (none)) else (none)) else (some (0, t156)))) = some (r1, r2) := h; clear h; replace H := Option.bind_eq_some_iff.mp H; obtain ⟨t156, A30, H⟩ := H; replace H : (if t156 = 0 then (if 0 ≤ (Go.bits .and .u32 a1 127) then (if (Go.bits .and .u32 a1 127) < (l0.length : Int) then (some (rd l0 (Go.bits .and .u32 a1 127), 0)) else (none)) else (none)) else (some (0, t156))) = some (r1, r2) := H; have A3 := Aside0.mk A30; clear A30
  by_cases c4 : t156 = 0
  · rw [if_pos c4] at H
    have c4b0 : (t156 == 0) = true := beq_iff_eq.mpr c4; have c4b1 : (t156 != 0) = false := bne_eq_false_iff_eq.mpr c4; clear c4
    by_cases c5 : 0 ≤ (Go.bits .and .u32 a1 127)
    · rw [if_pos c5] at H
      have c5b0 : decide (0 ≤ (Go.bits .and .u32 a1 127)) = true := decide_eq_true c5; clear c5
      by_cases c6 : (Go.bits .and .u32 a1 127) < (l0.length : Int)
      · rw [if_pos c6] at H
        have c6b0 : decide ((Go.bits .and .u32 a1 127) < (l0.length : Int)) = true := decide_eq_true c6; clear c6
        simp only [Option.some.injEq, Prod.mk.injEq] at H
        obtain ⟨rfl, rfl⟩ := H
        go_enter Try.func17, Try.ntmps17
        go_wp2_with (first | ((with_reducible refine gate_callee (f := 27) rfl ?_); refine goesL_ (some 8) rfl rfl Try.func27 (by kernel_rfl) rfl #[.slice A0 l0.length c0] rfl (by (try simp only [List.map_toArray, List.map_cons, List.map_nil]); first | done | rfl | (simp only [List.length_drop, List.length_take]; rfl)) ?_; (with_reducible refine (toeplitz_checkTable.calls _ _ l0 t156 _ ?side1 ?side2 A3.out).mono ?_); (case side1 => repeat (first | exact HR0.out | (with_reducible refine Kd.C_alloc ?_ _) | (with_reducible refine Kd.C_drewN ?_ _) | (with_reducible refine Kd.C_drew ?_))); (case side2 => exact HC0.out); rintro e w' ⟨rfl, ⟨nd, rfl⟩⟩; refine ⟨_, rfl, ?_⟩; have p157 : 0 ≤ ((Go.bits .and .u32 a1 127) : Int) := of_decide_eq_true (by first | (with_reducible assumption) | assumption); have q157 : (Go.bits .and .u32 a1 127) < (l0.length : Int) := of_decide_eq_true (by first | (with_reducible assumption) | assumption); obtain ⟨ad157, e157, hx157_0⟩ := Kd.at_int HR0.out (Go.bits .and .u32 a1 127) p157 q157; cases e157; replace p157 := eq_true p157; replace q157 := eq_true q157))
        go_ret2
        exact ⟨by first | rfl | (simp; done) | (simp [*]; done), by repeat (first | exact Drawn0.refl _ | apply Drawn0.step)⟩
      rw [if_neg c6] at H; exact absurd H (by simp)
    rw [if_neg c5] at H; exact absurd H (by simp)
  rw [if_neg c4] at H; have c4b0 : (t156 == 0) = false := beq_eq_false_iff_ne.mpr c4; have c4b1 : (t156 != 0) = true := bne_iff_ne.mpr c4
  simp only [Option.some.injEq, Prod.mk.injEq] at H
  obtain ⟨rfl, rfl⟩ := H
  go_enter Try.func17, Try.ntmps17
  go_wp2_with (first | ((with_reducible refine gate_callee (f := 27) rfl ?_); refine goesL_ (some 8) rfl rfl Try.func27 (by kernel_rfl) rfl #[.slice A0 l0.length c0] rfl (by (try simp only [List.map_toArray, List.map_cons, List.map_nil]); first | done | rfl | (simp only [List.length_drop, List.length_take]; rfl)) ?_; (with_reducible refine (toeplitz_checkTable.calls _ _ l0 t156 _ ?side1 ?side2 A3.out).mono ?_); (case side1 => repeat (first | exact HR0.out | (with_reducible refine Kd.C_alloc ?_ _) | (with_reducible refine Kd.C_drewN ?_ _) | (with_reducible refine Kd.C_drew ?_))); (case side2 => exact HC0.out); rintro e w' ⟨rfl, ⟨nd, rfl⟩⟩; refine ⟨_, rfl, ?_⟩))
  go_ret2
  exact ⟨by first | rfl | (simp; done) | (simp [*]; done), by repeat (first | exact Drawn0.refl _ | apply Drawn0.step)⟩

end Go.Proofs.Ytgfghinjjidcoaa.PA
