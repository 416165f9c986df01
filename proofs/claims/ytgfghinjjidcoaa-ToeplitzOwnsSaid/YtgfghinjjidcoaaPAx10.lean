-- Written by a program of this session (wip/tools/mkprint.py, mp.sh) for this claim.
import Derived.Test.YtgfghinjjidcoaaPAx0
namespace Go.Proofs.Ytgfghinjjidcoaa.PA
open Go.RowKit Go.Proofs.YtgfghinjjidcoaaW.PrintWords Go.Proofs.YtgfghinjjidcoaaW.PrintLast Go.Proofs.YtgfghinjjidcoaaW.PrintMore
attribute [local go_sem] max2_int min2_int max_two min_two max_three min_three max_four min_four   -- for this text's walks alone
set_option linter.unusedVariables false
set_option linter.unusedSimpArgs false

/-! ### stopcockref07_CheckTable: function 28 -/
def stopcockref07_CheckTable.l0 : Nat → List Int → Int → Option (Int)
  | 0, _, _ => none
  | k + 1, x0, x3 => if x3 < (x0.length : Int) then (if 0 ≤ x3 then (if (rd x0 x3) < 0 then (some 4) else (if (rd x0 x3) ≥ 16 then (some 4) else (stopcockref07_CheckTable.l0 k x0 (wrap64 (x3 + 1))))) else (none)) else (some 0)
def stopcockref07_CheckTable.f (k : Nat) (l0 : List Int) : Option (Int) := if (l0.length : Int) = 128 then (stopcockref07_CheckTable.l0 k l0 0) else (some 3)
theorem stopcockref07_CheckTable.mono_l : ∀ k, (∀ y0 y1, LeO (stopcockref07_CheckTable.l0 k y0 y1) (stopcockref07_CheckTable.l0 (k + 1) y0 y1))
  | 0 => fun _ _ r h => by simp [stopcockref07_CheckTable.l0] at h
  | k + 1 => by
    have ih0 := stopcockref07_CheckTable.mono_l k
    · intro y0 y1
      unfold stopcockref07_CheckTable.l0
      repeat' first
      | (with_reducible exact ih0 _ _)
      | (with_reducible exact LeO.refl _)
      | (with_reducible exact LeO.none _)
      | (with_reducible refine LeO.ite ?_ ?_)
      | (with_reducible refine LeO.bind ?_ (fun _ => ?_))
      | exact ih0 _ _
      | exact LeO.none _
      | refine LeO.ite ?_ ?_
      | refine LeO.bind ?_ (fun _ => ?_)
theorem stopcockref07_CheckTable.mono : ∀ a0 k, LeO (stopcockref07_CheckTable.f k a0) (stopcockref07_CheckTable.f (k + 1) a0) := by
  intro a0 k; have ih0 := stopcockref07_CheckTable.mono_l k
  unfold stopcockref07_CheckTable.f
  repeat' first
      | (with_reducible exact ih0 _ _)
      | (with_reducible exact LeO.refl _)
      | (with_reducible exact LeO.none _)
      | (with_reducible refine LeO.ite ?_ ?_)
      | (with_reducible refine LeO.bind ?_ (fun _ => ?_))
      | exact ih0 _ _
      | exact LeO.none _
      | refine LeO.ite ?_ ?_
      | refine LeO.bind ?_ (fun _ => ?_)
set_option maxHeartbeats 8000000 in
set_option maxRecDepth 100000 in
theorem stopcockref07_CheckTable.calls (k : Nat) (A0 : Option Addr) (c0 : Nat) (l0 : List Int) (r : Int) (w : World) (hr0 : Kd.C (Kd.int .i64) w A0 l0.length l0) (hc0 : l0.length ≤ c0) (h : stopcockref07_CheckTable.f k l0 = some r) :
    Calls Try.prog 28 #[.slice A0 l0.length c0] w fun e w' => e = .returned (.int .i64 r) ∧ Drawn0 w w' := by
  have HR0 := Aside0.mk hr0; have HC0 := Aside0.mk hc0; clear hr0 hc0; have H : (if (l0.length : Int) = 128 then (stopcockref07_CheckTable.l0 k l0 0) else (some 3)) = some r := h; clear h
  by_cases c2 : (l0.length : Int) = 128
  · rw [if_pos c2] at H
    have c2b0 : ((l0.length : Int) == 128) = true := beq_iff_eq.mpr c2; have c2b1 : ((l0.length : Int) != 128) = false := bne_eq_false_iff_eq.mpr c2; clear c2; have H' := Aside0.mk H; clear H
    go_enter Try.func28, Try.ntmps28
    go_wp2
    go_loopg [3] k (fun kq v3 w' => ∃ (x3_1 : Int), v3 = .int .i64 x3_1 ∧ Aside0 (stopcockref07_CheckTable.l0 kq l0 x3_1 = some r) ∧ Aside0 (kq ≤ k) ∧ Drawn0 w w')
    case atStart => exact ⟨(0), (by first | rfl | (simp; done) | (simp [*]; done)), H', ⟨Nat.le_refl _⟩, by repeat (first | exact Drawn0.refl _ | apply Drawn0.step)⟩
    case round =>
      clear H'
      try clear c2
      try clear c2b0
      try clear c2b1
      try clear p2
      obtain ⟨x3_1, rfl, HA, HK1, ⟨m1, rfl⟩⟩ := hrel
      cases gk with
      | zero => exact absurd HA.out (by simp [stopcockref07_CheckTable.l0])
      | succ k1 =>
        have H := HA.out; clear HA
        simp only [stopcockref07_CheckTable.l0] at H
        by_cases c3 : x3_1 < (l0.length : Int)
        · rw [if_pos c3] at H
          have c3b0 : decide (x3_1 < (l0.length : Int)) = true := decide_eq_true c3; clear c3
          by_cases c4 : 0 ≤ x3_1
          · rw [if_pos c4] at H
            have c4b0 : decide (0 ≤ x3_1) = true := decide_eq_true c4; clear c4
            by_cases c5 : (rd l0 x3_1) < 0
            · rw [if_pos c5] at H
              have c5b0 : decide ((rd l0 x3_1) < 0) = true := decide_eq_true c5; clear c5; obtain rfl := Option.some.inj H; have p158 : 0 ≤ (x3_1 : Int) := of_decide_eq_true (by first | (with_reducible assumption) | assumption); have q158 : x3_1 < (l0.length : Int) := of_decide_eq_true (by first | (with_reducible assumption) | assumption); obtain ⟨ad158, e158, hx158_0⟩ := Kd.at_int HR0.out x3_1 p158 q158
              cases e158
              replace p158 := eq_true p158; replace q158 := eq_true q158
              go_wp2
              go_ret
              exact ⟨by first | rfl | (simp; done) | (simp [*]; done), by repeat (first | exact Drawn0.refl _ | apply Drawn0.step)⟩
            rw [if_neg c5] at H; have c5b0 : decide ((rd l0 x3_1) < 0) = false := decide_eq_false c5; clear c5
            by_cases c6 : (rd l0 x3_1) ≥ 16
            · rw [if_pos c6] at H
              have c6b0 : decide (16 ≤ (rd l0 x3_1)) = true := decide_eq_true c6; clear c6; obtain rfl := Option.some.inj H; have p158 : 0 ≤ (x3_1 : Int) := of_decide_eq_true (by first | (with_reducible assumption) | assumption); have q158 : x3_1 < (l0.length : Int) := of_decide_eq_true (by first | (with_reducible assumption) | assumption); obtain ⟨ad158, e158, hx158_0⟩ := Kd.at_int HR0.out x3_1 p158 q158
              cases e158
              replace p158 := eq_true p158; replace q158 := eq_true q158; have p159 : 0 ≤ (x3_1 : Int) := of_decide_eq_true (by first | (with_reducible assumption) | assumption); have q159 : x3_1 < (l0.length : Int) := of_decide_eq_true (by first | (with_reducible assumption) | assumption); obtain ⟨ad159, e159, hx159_0⟩ := Kd.at_int HR0.out x3_1 p159 q159; obtain rfl : ad158 = ad159 := (by injection e159); replace p159 := eq_true p159; replace q159 := eq_true q159
              go_wp2
              go_ret
              exact ⟨by first | rfl | (simp; done) | (simp [*]; done), by repeat (first | exact Drawn0.refl _ | apply Drawn0.step)⟩
            rw [if_neg c6] at H; have c6b0 : decide (16 ≤ (rd l0 x3_1)) = false := decide_eq_false c6; clear c6; have H' := Aside0.mk H; clear H; have p158 : 0 ≤ (x3_1 : Int) := of_decide_eq_true (by first | (with_reducible assumption) | assumption); have q158 : x3_1 < (l0.length : Int) := of_decide_eq_true (by first | (with_reducible assumption) | assumption); obtain ⟨ad158, e158, hx158_0⟩ := Kd.at_int HR0.out x3_1 p158 q158
            cases e158
            replace p158 := eq_true p158; replace q158 := eq_true q158; have p159 : 0 ≤ (x3_1 : Int) := of_decide_eq_true (by first | (with_reducible assumption) | assumption); have q159 : x3_1 < (l0.length : Int) := of_decide_eq_true (by first | (with_reducible assumption) | assumption); obtain ⟨ad159, e159, hx159_0⟩ := Kd.at_int HR0.out x3_1 p159 q159; obtain rfl : ad158 = ad159 := (by injection e159); replace p159 := eq_true p159; replace q159 := eq_true q159
            go_wp2
            go_roundg k1
            case measure => have := HK1.out; omega
            case rel => exact ⟨(wrap64 (x3_1 + 1)), (by first | rfl | (simp; done) | (simp [*]; done)), H', ⟨by have := HK1.out; omega⟩, by repeat (first | exact Drawn0.refl _ | apply Drawn0.step)⟩
          rw [if_neg c4] at H; exact absurd H (by simp)
        rw [if_neg c3] at H; have c3b0 : decide (x3_1 < (l0.length : Int)) = false := decide_eq_false c3; clear c3; obtain rfl := Option.some.inj H
        go_wp2
        go_ret
        exact ⟨by first | rfl | (simp; done) | (simp [*]; done), by repeat (first | exact Drawn0.refl _ | apply Drawn0.step)⟩
  rw [if_neg c2] at H; have c2b0 : ((l0.length : Int) == 128) = false := beq_eq_false_iff_ne.mpr c2; have c2b1 : ((l0.length : Int) != 128) = true := bne_iff_ne.mpr c2; obtain rfl := Option.some.inj H
  go_enter Try.func28, Try.ntmps28
  go_wp2
  go_ret
  exact ⟨by first | rfl | (simp; done) | (simp [*]; done), by repeat (first | exact Drawn0.refl _ | apply Drawn0.step)⟩

end Go.Proofs.Ytgfghinjjidcoaa.PA
