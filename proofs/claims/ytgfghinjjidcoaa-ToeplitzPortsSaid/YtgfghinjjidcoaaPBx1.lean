-- Written by a program of this session (wip/tools/mkprint.py, mp.sh) for this claim.
import Derived.Test.YtgfghinjjidcoaaPBx0
namespace Go.Proofs.Ytgfghinjjidcoaa.PB
open Go.RowKit Go.Proofs.YtgfghinjjidcoaaW.PrintWords Go.Proofs.YtgfghinjjidcoaaW.PrintLast Go.Proofs.YtgfghinjjidcoaaW.PrintMore
attribute [local go_sem] max2_int min2_int max_two min_two max_three min_three max_four min_four   -- for this text's walks alone
set_option linter.unusedVariables false
set_option linter.unusedSimpArgs false

/-! ### toeplitz_Hash: function 9 -/
mutual
def toeplitz_Hash.j0 : Nat → List Int → List Int → Bool → Option (Int × Int)
  | 0, _, _, _ => none
  | k + 1, x0, x1, x20 => if x20 = true then (some (0, 3)) else (if 8 ≤ (x0.length : Int) then (toeplitz_Hash.l0 k x0 x1 0 (x0.take 8) ((x0.take 8).length : Int) 0) else (none))
def toeplitz_Hash.l0 : Nat → List Int → List Int → Int → List Int → Int → Int → Option (Int × Int)
  | 0, _, _, _, _, _, _ => none
  | k + 1, x0, x1, x6, x22, x23, x24 => if x24 < x23 then (if 0 ≤ x24 then (if x24 < (x22.length : Int) then (toeplitz_Hash.l0 k x0 x1 (Go.bits .or .u64 (IntKind.u64.wrap (x6 * 256)) (IntKind.u64.wrap (rd x22 x24))) x22 x23 (wrap64 (x24 + 1))) else (none)) else (none)) else (toeplitz_Hash.l1 k x0 x6 0 x1 (x1.length : Int) 0)
def toeplitz_Hash.l1 : Nat → List Int → Int → Int → List Int → Int → Int → Option (Int × Int)
  | 0, _, _, _, _, _, _ => none
  | k + 1, x0, x6, x9, x34, x35, x36 => if x36 < x35 then (if 0 ≤ x36 then (if x36 < (x34.length : Int) then (toeplitz_Hash.l2 k x0 x6 x9 x36 (rd x34 x36) x34 x35 x36 0) else (none)) else (none)) else (some (x9, 0))
def toeplitz_Hash.l2 : Nat → List Int → Int → Int → Int → Int → List Int → Int → Int → Int → Option (Int × Int)
  | 0, _, _, _, _, _, _, _, _, _ => none
  | k + 1, x0, x6, x9, x10, x11, x34, x35, x36, x41 => if x41 < 8 then (if 0 ≤ x41 then (if (Go.bits .and .u8 (shl .u8 x11 x41) 128) = 0 then (toeplitz_Hash.l2 k x0 x6 x9 x10 x11 x34 x35 x36 (wrap64 (x41 + 1))) else (toeplitz_Hash.l2 k x0 x6 (Go.bits .xor .u32 x9 (((shl .u64 x6 x41) / 4294967296) % 4294967296)) x10 x11 x34 x35 x36 (wrap64 (x41 + 1)))) else (none)) else (if (wrap64 (x10 + 8)) < (x0.length : Int) then (if 0 ≤ (wrap64 (x10 + 8)) then (toeplitz_Hash.l1 k x0 (Go.bits .or .u64 (IntKind.u64.wrap (x6 * 256)) (IntKind.u64.wrap (rd x0 (wrap64 (x10 + 8))))) x9 x34 x35 (wrap64 (x36 + 1))) else (none)) else (toeplitz_Hash.l1 k x0 (IntKind.u64.wrap (x6 * 256)) x9 x34 x35 (wrap64 (x36 + 1))))
end
def toeplitz_Hash.f (k : Nat) (l0 : List Int) (l1 : List Int) : Option (Int × Int) := if (l0.length : Int) = 40 then (toeplitz_Hash.j0 k l0 l1 (decide ((l1.length : Int) > 36))) else (toeplitz_Hash.j0 k l0 l1 true)
theorem toeplitz_Hash.mono_l : ∀ k, (∀ y0 y1 y2, LeO (toeplitz_Hash.j0 k y0 y1 y2) (toeplitz_Hash.j0 (k + 1) y0 y1 y2)) ∧ (∀ y0 y1 y2 y3 y4 y5, LeO (toeplitz_Hash.l0 k y0 y1 y2 y3 y4 y5) (toeplitz_Hash.l0 (k + 1) y0 y1 y2 y3 y4 y5)) ∧ (∀ y0 y1 y2 y3 y4 y5, LeO (toeplitz_Hash.l1 k y0 y1 y2 y3 y4 y5) (toeplitz_Hash.l1 (k + 1) y0 y1 y2 y3 y4 y5)) ∧ (∀ y0 y1 y2 y3 y4 y5 y6 y7 y8, LeO (toeplitz_Hash.l2 k y0 y1 y2 y3 y4 y5 y6 y7 y8) (toeplitz_Hash.l2 (k + 1) y0 y1 y2 y3 y4 y5 y6 y7 y8))
  | 0 => ⟨fun _ _ _ r h => by simp [toeplitz_Hash.j0] at h, fun _ _ _ _ _ _ r h => by simp [toeplitz_Hash.l0] at h, fun _ _ _ _ _ _ r h => by simp [toeplitz_Hash.l1] at h, fun _ _ _ _ _ _ _ _ _ r h => by simp [toeplitz_Hash.l2] at h⟩
  | k + 1 => by
    obtain ⟨ih0, ih1, ih2, ih3⟩ := toeplitz_Hash.mono_l k; refine ⟨?_, ?_, ?_, ?_⟩
    · intro y0 y1 y2
      unfold toeplitz_Hash.j0
      repeat' first
      | (with_reducible exact ih0 _ _ _)
      | (with_reducible exact ih1 _ _ _ _ _ _)
      | (with_reducible exact ih2 _ _ _ _ _ _)
      | (with_reducible exact ih3 _ _ _ _ _ _ _ _ _)
      | (with_reducible exact LeO.refl _)
      | (with_reducible exact LeO.none _)
      | (with_reducible refine LeO.ite ?_ ?_)
      | (with_reducible refine LeO.bind ?_ (fun _ => ?_))
      | exact ih0 _ _ _
      | exact ih1 _ _ _ _ _ _
      | exact ih2 _ _ _ _ _ _
      | exact ih3 _ _ _ _ _ _ _ _ _
      | exact LeO.none _
      | refine LeO.ite ?_ ?_
      | refine LeO.bind ?_ (fun _ => ?_)
    · intro y0 y1 y2 y3 y4 y5
      unfold toeplitz_Hash.l0
      repeat' first
      | (with_reducible exact ih0 _ _ _)
      | (with_reducible exact ih1 _ _ _ _ _ _)
      | (with_reducible exact ih2 _ _ _ _ _ _)
      | (with_reducible exact ih3 _ _ _ _ _ _ _ _ _)
      | (with_reducible exact LeO.refl _)
      | (with_reducible exact LeO.none _)
      | (with_reducible refine LeO.ite ?_ ?_)
      | (with_reducible refine LeO.bind ?_ (fun _ => ?_))
      | exact ih0 _ _ _
      | exact ih1 _ _ _ _ _ _
      | exact ih2 _ _ _ _ _ _
      | exact ih3 _ _ _ _ _ _ _ _ _
      | exact LeO.none _
      | refine LeO.ite ?_ ?_
      | refine LeO.bind ?_ (fun _ => ?_)
    · intro y0 y1 y2 y3 y4 y5
      unfold toeplitz_Hash.l1
      repeat' first
      | (with_reducible exact ih0 _ _ _)
      | (with_reducible exact ih1 _ _ _ _ _ _)
      | (with_reducible exact ih2 _ _ _ _ _ _)
      | (with_reducible exact ih3 _ _ _ _ _ _ _ _ _)
      | (with_reducible exact LeO.refl _)
      | (with_reducible exact LeO.none _)
      | (with_reducible refine LeO.ite ?_ ?_)
      | (with_reducible refine LeO.bind ?_ (fun _ => ?_))
      | exact ih0 _ _ _
      | exact ih1 _ _ _ _ _ _
      | exact ih2 _ _ _ _ _ _
      | exact ih3 _ _ _ _ _ _ _ _ _
      | exact LeO.none _
      | refine LeO.ite ?_ ?_
      | refine LeO.bind ?_ (fun _ => ?_)
    · intro y0 y1 y2 y3 y4 y5 y6 y7 y8
      unfold toeplitz_Hash.l2
      repeat' first
      | (with_reducible exact ih0 _ _ _)
      | (with_reducible exact ih1 _ _ _ _ _ _)
      | (with_reducible exact ih2 _ _ _ _ _ _)
      | (with_reducible exact ih3 _ _ _ _ _ _ _ _ _)
      | (with_reducible exact LeO.refl _)
      | (with_reducible exact LeO.none _)
      | (with_reducible refine LeO.ite ?_ ?_)
      | (with_reducible refine LeO.bind ?_ (fun _ => ?_))
      | exact ih0 _ _ _
      | exact ih1 _ _ _ _ _ _
      | exact ih2 _ _ _ _ _ _
      | exact ih3 _ _ _ _ _ _ _ _ _
      | exact LeO.none _
      | refine LeO.ite ?_ ?_
      | refine LeO.bind ?_ (fun _ => ?_)
theorem toeplitz_Hash.mono : ∀ a0 a1 k, LeO (toeplitz_Hash.f k a0 a1) (toeplitz_Hash.f (k + 1) a0 a1) := by
  intro a0 a1 k; obtain ⟨ih0, ih1, ih2, ih3⟩ := toeplitz_Hash.mono_l k
  unfold toeplitz_Hash.f
  repeat' first
      | (with_reducible exact ih0 _ _ _)
      | (with_reducible exact ih1 _ _ _ _ _ _)
      | (with_reducible exact ih2 _ _ _ _ _ _)
      | (with_reducible exact ih3 _ _ _ _ _ _ _ _ _)
      | (with_reducible exact LeO.refl _)
      | (with_reducible exact LeO.none _)
      | (with_reducible refine LeO.ite ?_ ?_)
      | (with_reducible refine LeO.bind ?_ (fun _ => ?_))
      | exact ih0 _ _ _
      | exact ih1 _ _ _ _ _ _
      | exact ih2 _ _ _ _ _ _
      | exact ih3 _ _ _ _ _ _ _ _ _
      | exact LeO.none _
      | refine LeO.ite ?_ ?_
      | refine LeO.bind ?_ (fun _ => ?_)
set_option maxHeartbeats 8000000 in
set_option maxRecDepth 100000 in
theorem toeplitz_Hash.calls (k : Nat) (A0 : Option Addr) (c0 : Nat) (l0 : List Int) (A1 : Option Addr) (c1 : Nat) (l1 : List Int) (r1 : Int) (r2 : Int) (w : World) (hr0 : Kd.C (Kd.int .u8) w A0 l0.length l0) (hc0 : l0.length ≤ c0) (hr1 : Kd.C (Kd.int .u8) w A1 l1.length l1) (hc1 : l1.length ≤ c1) (h : toeplitz_Hash.f k l0 l1 = some (r1, r2)) :
    Calls Try.prog 9 #[.slice A0 l0.length c0, .slice A1 l1.length c1] w fun e w' => e = .returned (.tuple #[.int .u32 r1, .int .i64 r2]) ∧ Drawn0 w w' := by
  have HR0 := Aside0.mk hr0; have HC0 := Aside0.mk hc0; clear hr0 hc0; have HR1 := Aside0.mk hr1; have HC1 := Aside0.mk hc1; clear hr1 hc1; have H : (if (l0.length : Int) = 40 then (toeplitz_Hash.j0 k l0 l1 (decide ((l1.length : Int) > 36))) else (toeplitz_Hash.j0 k l0 l1 true)) = some (r1, r2) := h; clear h; have HC3 := Aside0.mk H; clear H
  go_enter Try.func9, Try.ntmps9
  go_upto_region 1 with (fail)
  go_cut [20] (fun v20 wc => ∃ (kq : Nat) (x20_2 : Bool), v20 = .bool x20_2 ∧ Aside0 (toeplitz_Hash.j0 kq l0 l1 x20_2 = some (r1, r2)) ∧ Aside0 (kq ≤ k) ∧ Drawn0 w wc)
  case first =>
    have H := HC3.out; clear HC3
    by_cases c4 : (l0.length : Int) = 40
    · rw [if_pos c4] at H
      have c4b0 : ((l0.length : Int) == 40) = true := beq_iff_eq.mpr c4; have c4b1 : ((l0.length : Int) != 40) = false := bne_eq_false_iff_eq.mpr c4; clear c4
      (first | rw [c4b0] | (simp only [i64_w, i32_w]; rw [c4b0]) | skip)
      have H' := Aside0.mk H; clear H
      go_wp2
      go_meet
      case rel => exact ⟨_, (decide ((l1.length : Int) > 36)), (by first | rfl | (simp; done) | (simp [*]; done)), H', ⟨by first | omega | exact Nat.le_refl _⟩, by repeat (first | exact Drawn0.refl _ | apply Drawn0.step)⟩
    rw [if_neg c4] at H; have c4b0 : ((l0.length : Int) == 40) = false := beq_eq_false_iff_ne.mpr c4; have c4b1 : ((l0.length : Int) != 40) = true := bne_iff_ne.mpr c4
    (first | rw [c4b0] | (simp only [i64_w, i32_w]; rw [c4b0]) | skip)
    have H' := Aside0.mk H; clear H
    go_wp2
    go_meet
    case rel => exact ⟨_, (true), (by first | rfl | (simp; done) | (simp [*]; done)), H', ⟨by first | omega | exact Nat.le_refl _⟩, by repeat (first | exact Drawn0.refl _ | apply Drawn0.step)⟩
  case rest =>
    clear HC3
    try clear c1
    try clear p2
    try clear c4
    try clear c4b0
    try clear c4b1
    obtain ⟨kq, x20_2, rfl, HA, HJ2, ⟨mc2, rfl⟩⟩ := hcut
    cases kq with
    | zero => exact absurd HA.out (by simp [toeplitz_Hash.j0])
    | succ kj2 =>
      have H := HA.out; clear HA
      simp only [toeplitz_Hash.j0] at H
      by_cases c5 : x20_2 = true
      · subst c5
        have H1 : (some (0, 3)) = some (r1, r2) := by rw [if_pos rfl] at H; exact H
        clear H; have H := H1; clear H1
        simp only [Option.some.injEq, Prod.mk.injEq] at H
        obtain ⟨rfl, rfl⟩ := H
        go_wp2
        go_ret2
        exact ⟨by first | rfl | (simp; done) | (simp [*]; done), by repeat (first | exact Drawn0.refl _ | apply Drawn0.step)⟩
      replace c5 := Bool.eq_false_iff.mpr c5
      subst c5
      have H1 : (if 8 ≤ (l0.length : Int) then (toeplitz_Hash.l0 kj2 l0 l1 0 (l0.take 8) ((l0.take 8).length : Int) 0) else (none)) = some (r1, r2) := by rw [if_neg (show ¬ (false = true) by decide)] at H; exact H
      clear H; have H := H1; clear H1
      by_cases c6 : 8 ≤ (l0.length : Int)
      · rw [if_pos c6] at H
        have c6b0 := eq_true c6; have c6b1 : decide (8 ≤ (l0.length : Int)) = true := decide_eq_true c6; clear c6; have H' := Aside0.mk H; clear H; obtain ⟨i07, hi07, _, hsz7, _⟩ := info_parts info5; obtain ⟨hcut7, hA7, hC7⟩ := print_take_of (P := Try.prog) (Value.int .u8) 0 22 5 .i64 Try.underlying22 hi07 hsz7 A0 c0 l0 8 (by omega) (of_decide_eq_true (by first | (with_reducible assumption) | assumption)) HC0.out; have HR101 := Aside0.mk (Kd.C_of_reads (h1 := fun _ => rfl) (hA7 _ (Kd.reads_of_C HR0.out))); have HC101 := Aside0.mk hC7; clear hA7 hC7 hi07 hsz7
        go_wp2
        go_loopg [6, 24] kj2 (fun kq v6 v24 w' => ∃ (x6_2 : Int) (x24_2 : Int), v6 = .int .u64 x6_2 ∧ v24 = .int .i64 x24_2 ∧ Aside0 (toeplitz_Hash.l0 kq l0 l1 x6_2 (l0.take 8) ((l0.take 8).length : Int) x24_2 = some (r1, r2)) ∧ Aside0 (kq ≤ kj2) ∧ Drawn0 w w')
        case atStart => exact ⟨(0), (0), (by first | rfl | (simp; done) | (simp [*]; done)), (by first | rfl | (simp; done) | (simp [*]; done)), H', ⟨Nat.le_refl _⟩, by repeat (first | exact Drawn0.refl _ | apply Drawn0.step)⟩
        case round =>
          clear H'
          try clear c1
          try clear c2
          try clear p2
          try clear c4
          try clear c4b0
          try clear c4b1
          try clear c5
          try clear c6
          try clear c6b0
          try clear c6b1
          try clear p2
          obtain ⟨x6_2, x24_2, rfl, rfl, HA, HK2, ⟨m2, rfl⟩⟩ := hrel
          cases gk with
          | zero => exact absurd HA.out (by simp [toeplitz_Hash.l0])
          | succ k2 =>
            have H := HA.out; clear HA
            simp only [toeplitz_Hash.l0] at H
            by_cases c8 : x24_2 < ((l0.take 8).length : Int)
            · rw [if_pos c8] at H
              have c8b0 : decide (x24_2 < ((l0.take 8).length : Int)) = true := decide_eq_true c8; have c8b0m : decide (x24_2 < ((min 8 l0.length : Nat) : Int)) = true := (by rw [← List.length_take]; exact c8b0); clear c8
              by_cases c9 : 0 ≤ x24_2
              · rw [if_pos c9] at H
                have c9b0 : decide (0 ≤ x24_2) = true := decide_eq_true c9; clear c9
                by_cases c10 : x24_2 < ((l0.take 8).length : Int)
                · rw [if_pos c10] at H
                  have c10b0 : decide (x24_2 < ((l0.take 8).length : Int)) = true := decide_eq_true c10; have c10b0m : decide (x24_2 < ((min 8 l0.length : Nat) : Int)) = true := (by rw [← List.length_take]; exact c10b0); clear c10; have H' := Aside0.mk H; clear H; have p102 : 0 ≤ (x24_2 : Int) := of_decide_eq_true (by first | (with_reducible assumption) | assumption); have q102 : x24_2 < ((l0.take 8).length : Int) := of_decide_eq_true (by first | (with_reducible assumption) | assumption); have q102m : x24_2 < ((min 8 l0.length : Nat) : Int) := (by rw [← List.length_take]; exact q102); obtain ⟨ad102, e102, hx102_0⟩ := Kd.at_int HR101.out x24_2 p102 q102
                  cases e102
                  replace p102 := eq_true p102; replace q102 := eq_true q102
                  go_wp2
                  go_roundg k2
                  case measure => have := HJ2.out; have := HK2.out; omega
                  case rel => exact ⟨(Go.bits .or .u64 (IntKind.u64.wrap (x6_2 * 256)) (IntKind.u64.wrap (rd (l0.take 8) x24_2))), (wrap64 (x24_2 + 1)), (by first | rfl | (simp; done) | (simp [*]; done)), (by first | rfl | (simp; done) | (simp [*]; done)), H', ⟨by have := HJ2.out; have := HK2.out; omega⟩, by repeat (first | exact Drawn0.refl _ | apply Drawn0.step)⟩
                rw [if_neg c10] at H; exact absurd H (by simp)
              rw [if_neg c9] at H; exact absurd H (by simp)
            rw [if_neg c8] at H; have c8b0 : decide (x24_2 < ((l0.take 8).length : Int)) = false := decide_eq_false c8; have c8b0m : decide (x24_2 < ((min 8 l0.length : Nat) : Int)) = false := (by rw [← List.length_take]; exact c8b0); clear c8; have H' := Aside0.mk H; clear H
            go_wp2
            go_loopg [6, 9, 36] k2 (fun kq v6 v9 v36 w' => ∃ (x6_3 : Int) (x9_3 : Int) (x36_3 : Int), v6 = .int .u64 x6_3 ∧ v9 = .int .u32 x9_3 ∧ v36 = .int .i64 x36_3 ∧ Aside0 (toeplitz_Hash.l1 kq l0 x6_3 x9_3 l1 (l1.length : Int) x36_3 = some (r1, r2)) ∧ Aside0 (kq ≤ k2) ∧ Drawn0 w w')
            case atStart => exact ⟨(x6_2), (0), (0), (by first | rfl | (simp; done) | (simp [*]; done)), (by first | rfl | (simp; done) | (simp [*]; done)), (by first | rfl | (simp; done) | (simp [*]; done)), H', ⟨Nat.le_refl _⟩, by repeat (first | exact Drawn0.refl _ | apply Drawn0.step)⟩
            case round =>
              clear H'
              try clear c1
              try clear p1
              try clear q1
              try clear hx1
              try clear c2
              try clear p2
              try clear c4
              try clear c4b0
              try clear c4b1
              try clear c5
              try clear c6
              try clear c6b0
              try clear c6b1
              try clear p6
              try clear c8
              try clear c8b0
              try clear c9
              try clear c9b0
              try clear c10
              try clear c10b0
              try clear p10
              try clear q10
              try clear hx10
              try clear hx102_0
              try clear p102
              try clear p2
              try clear q102
              obtain ⟨x6_3, x9_3, x36_3, rfl, rfl, rfl, HA, HK3, ⟨m3, rfl⟩⟩ := hrel
              cases gk with
              | zero => exact absurd HA.out (by simp [toeplitz_Hash.l1])
              | succ k3 =>
                have H := HA.out; clear HA
                simp only [toeplitz_Hash.l1] at H
                by_cases c11 : x36_3 < (l1.length : Int)
                · rw [if_pos c11] at H
                  have c11b0 : decide (x36_3 < (l1.length : Int)) = true := decide_eq_true c11; clear c11
                  by_cases c12 : 0 ≤ x36_3
                  · rw [if_pos c12] at H
                    have c12b0 : decide (0 ≤ x36_3) = true := decide_eq_true c12; clear c12
                    by_cases c13 : x36_3 < (l1.length : Int)
                    · rw [if_pos c13] at H
                      have c13b0 : decide (x36_3 < (l1.length : Int)) = true := decide_eq_true c13; clear c13; have H' := Aside0.mk H; clear H; have p103 : 0 ≤ (x36_3 : Int) := of_decide_eq_true (by first | (with_reducible assumption) | assumption); have q103 : x36_3 < (l1.length : Int) := of_decide_eq_true (by first | (with_reducible assumption) | assumption); obtain ⟨ad103, e103, hx103_0⟩ := Kd.at_int HR1.out x36_3 p103 q103
                      cases e103
                      replace p103 := eq_true p103; replace q103 := eq_true q103
                      go_wp2
                      go_loopg [9, 41] k3 (fun kq v9 v41 w' => ∃ (x9_4 : Int) (x41_4 : Int), v9 = .int .u32 x9_4 ∧ v41 = .int .i64 x41_4 ∧ Aside0 (toeplitz_Hash.l2 kq l0 x6_3 x9_4 x36_3 (rd l1 x36_3) l1 (l1.length : Int) x36_3 x41_4 = some (r1, r2)) ∧ Aside0 (kq ≤ k3) ∧ Drawn0 w w')
                      case atStart => exact ⟨(x9_3), (0), (by first | rfl | (simp; done) | (simp [*]; done)), (by first | rfl | (simp; done) | (simp [*]; done)), H', ⟨Nat.le_refl _⟩, by repeat (first | exact Drawn0.refl _ | apply Drawn0.step)⟩
                      case round =>
                        clear H'
                        try clear c1
                        try clear p1
                        try clear q1
                        try clear hx1
                        try clear c2
                        try clear p2
                        try clear c4
                        try clear c4b0
                        try clear c4b1
                        try clear c5
                        try clear c6
                        try clear c6b0
                        try clear c6b1
                        try clear p6
                        try clear c8
                        try clear c8b0
                        try clear c9
                        try clear c9b0
                        try clear c10
                        try clear c10b0
                        try clear p10
                        try clear q10
                        try clear hx10
                        try clear c11
                        try clear c11b0
                        try clear c12
                        try clear c12b0
                        try clear c13
                        try clear c13b0
                        try clear hx102_0
                        try clear hx103_0
                        try clear p1
                        try clear p10
                        try clear p102
                        try clear p103
                        try clear p2
                        try clear p6
                        try clear q1
                        try clear q10
                        try clear q102
                        try clear q103
                        obtain ⟨x9_4, x41_4, rfl, rfl, HA, HK4, ⟨m4, rfl⟩⟩ := hrel
                        cases gk with
                        | zero => exact absurd HA.out (by simp [toeplitz_Hash.l2])
                        | succ k4 =>
                          have H := HA.out; clear HA
                          simp only [toeplitz_Hash.l2] at H
                          by_cases c14 : x41_4 < 8
                          · rw [if_pos c14] at H
                            have c14b0 : decide (x41_4 < 8) = true := decide_eq_true c14; clear c14
                            by_cases c15 : 0 ≤ x41_4
                            · rw [if_pos c15] at H
                              have c15b0 := eq_true c15; have c15b1 : decide (0 ≤ x41_4) = true := decide_eq_true c15; clear c15; obtain ⟨ji16, hji16⟩ : ∃ j_ : Int, (shl .u8 (rd l1 x36_3) x41_4) = j_ := ⟨_, rfl⟩; replace H : (if (Go.bits .and .u8 (ji16) 128) = 0 then (toeplitz_Hash.l2 k4 l0 x6_3 x9_4 x36_3 (rd l1 x36_3) l1 (l1.length : Int) x36_3 (wrap64 (x41_4 + 1))) else (toeplitz_Hash.l2 k4 l0 x6_3 (Go.bits .xor .u32 x9_4 (((shl .u64 x6_3 x41_4) / 4294967296) % 4294967296)) x36_3 (rd l1 x36_3) l1 (l1.length : Int) x36_3 (wrap64 (x41_4 + 1)))) = some (r1, r2) := by first | (rw [hji16] at H; exact H) | (simp only [hji16] at H ⊢; exact H)
                              have hji16_ : (IntKind.u8.wrap ((rd l1 x36_3) * 2 ^ min x41_4.toNat 8)) = ji16 := hji16; have hji16z : x41_4 ≤ 8 → (IntKind.u8.wrap ((rd l1 x36_3) * 2 ^ x41_4.toNat)) = ji16 := shl_small hji16
                              by_cases c17 : (Go.bits .and .u8 (ji16) 128) = 0
                              · rw [if_pos c17] at H
                                have c17b0 : ((Go.bits .and .u8 (ji16) 128) == 0) = true := beq_iff_eq.mpr c17; have c17b1 : ((Go.bits .and .u8 (ji16) 128) != 0) = false := bne_eq_false_iff_eq.mpr c17; clear c17; have H' := Aside0.mk H; clear H
                                go_wp2
                                go_roundg k4
                                case measure => have := HJ2.out; have := HK2.out; have := HK3.out; have := HK4.out; omega
                                case rel => exact ⟨(x9_4), (wrap64 (x41_4 + 1)), (by first | rfl | (simp; done) | (simp [*]; done)), (by first | rfl | (simp; done) | (simp [*]; done)), H', ⟨by have := HJ2.out; have := HK2.out; have := HK3.out; have := HK4.out; omega⟩, by repeat (first | exact Drawn0.refl _ | apply Drawn0.step)⟩
                              rw [if_neg c17] at H; have c17b0 : ((Go.bits .and .u8 (ji16) 128) == 0) = false := beq_eq_false_iff_ne.mpr c17; have c17b1 : ((Go.bits .and .u8 (ji16) 128) != 0) = true := bne_iff_ne.mpr c17; have c18b0 := eq_true (of_decide_eq_true (by first | (with_reducible assumption) | assumption) : 0 ≤ x41_4); obtain ⟨ji19, hji19⟩ : ∃ j_ : Int, (shl .u64 x6_3 x41_4) = j_ := ⟨_, rfl⟩; replace H : (toeplitz_Hash.l2 k4 l0 x6_3 (Go.bits .xor .u32 x9_4 (((ji19) / 4294967296) % 4294967296)) x36_3 (rd l1 x36_3) l1 (l1.length : Int) x36_3 (wrap64 (x41_4 + 1))) = some (r1, r2) := by first | (rw [hji19] at H; exact H) | (simp only [hji19] at H ⊢; exact H)
                              have hji19_ : (IntKind.u64.wrap (x6_3 * 2 ^ min x41_4.toNat 64)) = ji19 := hji19; have hji19z : x41_4 ≤ 64 → (IntKind.u64.wrap (x6_3 * 2 ^ x41_4.toNat)) = ji19 := shl_small hji19; have H' := Aside0.mk H; clear H
                              go_wp2
                              go_roundg k4
                              case measure => have := HJ2.out; have := HK2.out; have := HK3.out; have := HK4.out; omega
                              case rel => exact ⟨(Go.bits .xor .u32 x9_4 (((ji19) / 4294967296) % 4294967296)), (wrap64 (x41_4 + 1)), (by first | rfl | (simp; done) | (simp only [← hji19] <;> (first | rfl | simp)) | (simp [*]; done)), (by first | rfl | (simp; done) | (simp [*]; done)), H', ⟨by have := HJ2.out; have := HK2.out; have := HK3.out; have := HK4.out; omega⟩, by repeat (first | exact Drawn0.refl _ | apply Drawn0.step)⟩
                            rw [if_neg c15] at H; exact absurd H (by simp)
                          rw [if_neg c14] at H; have c14b0 : decide (x41_4 < 8) = false := decide_eq_false c14; clear c14
                          by_cases c20 : (wrap64 (x36_3 + 8)) < (l0.length : Int)
                          · rw [if_pos c20] at H
                            have c20b0 : decide ((wrap64 (x36_3 + 8)) < (l0.length : Int)) = true := decide_eq_true c20; clear c20; obtain ⟨ji21, hji21⟩ : ∃ j_ : Int, (wrap64 (x36_3 + 8)) = j_ := ⟨_, rfl⟩; replace H : (if 0 ≤ (ji21) then (toeplitz_Hash.l1 k4 l0 (Go.bits .or .u64 (IntKind.u64.wrap (x6_3 * 256)) (IntKind.u64.wrap (rd l0 (ji21)))) x9_4 l1 (l1.length : Int) (wrap64 (x36_3 + 1))) else (none)) = some (r1, r2) := by first | (rw [hji21] at H; exact H) | (simp only [hji21] at H ⊢; exact H)
                            (try rw [hji21] at c20b0)
                            have hji21w : (IntKind.i64.wrap (x36_3 + 8)) = ji21 := (i64_w _).trans hji21
                            by_cases c22 : 0 ≤ (ji21)
                            · rw [if_pos c22] at H
                              have c22b0 : decide (0 ≤ (ji21)) = true := decide_eq_true c22; clear c22; have H' := Aside0.mk H; clear H; have p104 : 0 ≤ ((ji21) : Int) := of_decide_eq_true (by first | (with_reducible assumption) | assumption); have q104 : (ji21) < (l0.length : Int) := of_decide_eq_true (by first | (with_reducible assumption) | assumption); obtain ⟨ad104, e104, hx104_0⟩ := Kd.at_int HR0.out (ji21) p104 q104
                              cases e104
                              replace p104 := eq_true p104; replace q104 := eq_true q104
                              go_wp2
                              go_roundg k4
                              case measure => have := HJ2.out; have := HK2.out; have := HK3.out; have := HK4.out; omega
                              case rel => exact ⟨(Go.bits .or .u64 (IntKind.u64.wrap (x6_3 * 256)) (IntKind.u64.wrap (rd l0 (ji21)))), (x9_4), (wrap64 (x36_3 + 1)), (by first | rfl | (simp; done) | (simp only [← hji21] <;> (first | rfl | simp)) | (simp [*]; done)), (by first | rfl | (simp; done) | (simp [*]; done)), (by first | rfl | (simp; done) | (simp [*]; done)), H', ⟨by have := HJ2.out; have := HK2.out; have := HK3.out; have := HK4.out; omega⟩, by repeat (first | exact Drawn0.refl _ | apply Drawn0.step)⟩
                            rw [if_neg c22] at H; exact absurd H (by simp)
                          rw [if_neg c20] at H; have c20b0 : decide ((wrap64 (x36_3 + 8)) < (l0.length : Int)) = false := decide_eq_false c20; clear c20; have H' := Aside0.mk H; clear H
                          go_wp2
                          go_roundg k4
                          case measure => have := HJ2.out; have := HK2.out; have := HK3.out; have := HK4.out; omega
                          case rel => exact ⟨(IntKind.u64.wrap (x6_3 * 256)), (x9_4), (wrap64 (x36_3 + 1)), (by first | rfl | (simp; done) | (simp [*]; done)), (by first | rfl | (simp; done) | (simp [*]; done)), (by first | rfl | (simp; done) | (simp [*]; done)), H', ⟨by have := HJ2.out; have := HK2.out; have := HK3.out; have := HK4.out; omega⟩, by repeat (first | exact Drawn0.refl _ | apply Drawn0.step)⟩
                    rw [if_neg c13] at H; exact absurd H (by simp)
                  rw [if_neg c12] at H; exact absurd H (by simp)
                rw [if_neg c11] at H; have c11b0 : decide (x36_3 < (l1.length : Int)) = false := decide_eq_false c11; clear c11
                simp only [Option.some.injEq, Prod.mk.injEq] at H
                obtain ⟨rfl, rfl⟩ := H
                go_wp2
                go_ret2
                exact ⟨by first | rfl | (simp; done) | (simp [*]; done), by repeat (first | exact Drawn0.refl _ | apply Drawn0.step)⟩
      rw [if_neg c6] at H; exact absurd H (by simp)

/-! ### stopcocklaw07_num: function 10 -/
def stopcocklaw07_num.f (a0 : Int) : Option (Int) := some a0
set_option maxHeartbeats 8000000 in
set_option maxRecDepth 100000 in
theorem stopcocklaw07_num.calls (a0 : Int) (r : Int) (w : World) (h : stopcocklaw07_num.f a0 = some r) :
    Calls Try.prog 10 #[.int .i64 a0] w fun e w' => e = .returned (.int .i64 r) ∧ Drawn0 w w' := by
  have H : (some a0) = some r := h; clear h; obtain rfl := Option.some.inj H
  go_enter Try.func10, Try.ntmps10
  go_wp2
  go_ret
  exact ⟨by first | rfl | (simp; done) | (simp [*]; done), by repeat (first | exact Drawn0.refl _ | apply Drawn0.step)⟩
theorem stopcocklaw07_num.same (a0 : Int) (r : Int) (w : World) (h : stopcocklaw07_num.f a0 = some r) : Calls Try.prog 10 #[.int .i64 a0] w fun e w' => e = .returned (.int .i64 r) ∧ w' = w := by
  have H : (some a0) = some r := h; clear h; obtain rfl := Option.some.inj H
  go_enter Try.func10, Try.ntmps10
  go_wp2
  go_ret
  exact ⟨rfl, rfl⟩

/-! ### toeplitz_Tuple: function 11 -/
def toeplitz_Tuple.f (a0 : Int) (a1 : Int) (a2 : Int) (a3 : Int) : Option (List Int) := Hand.tuple a0 a1 a2 a3
set_option maxHeartbeats 8000000 in
set_option maxRecDepth 100000 in
theorem toeplitz_Tuple.calls (a0 : Int) (a1 : Int) (a2 : Int) (a3 : Int) (r : List Int) (w : World) (h : toeplitz_Tuple.f a0 a1 a2 a3 = some r) :
    Calls Try.prog 11 #[.int .u32 a0, .int .u32 a1, .int .u16 a2, .int .u16 a3] w fun e w' => ∃ v0_ : Value, e = .returned (v0_) ∧ Kd.R (Kd.int .u8) 5 w' w.heap.size (fun _ => True) v0_ r ∧ Below w.heap.size w w' := by
  exact Hand.tuple_calls a0 a1 a2 a3 r w h

/-! ### octets_nibble: function 31 -/
def octets_nibble.j0 : Nat → Int → Bool → Option (Int × Bool)
  | 0, _, _ => none
  | k + 1, x0, x4 => if x4 = true then (some ((x0 - 48) % 256, true)) else (if (Go.bits .or .u8 x0 32) ≥ 97 then (if (Go.bits .or .u8 x0 32) ≤ 102 then (some (((((Go.bits .or .u8 x0 32) - 97) % 256) + 10) % 256, true)) else (some (0, false))) else (some (0, false)))
def octets_nibble.f (k : Nat) (a0 : Int) : Option (Int × Bool) := if a0 ≥ 48 then (octets_nibble.j0 k a0 (decide (a0 ≤ 57))) else (octets_nibble.j0 k a0 false)
theorem octets_nibble.mono_l : ∀ k, (∀ y0 y1, LeO (octets_nibble.j0 k y0 y1) (octets_nibble.j0 (k + 1) y0 y1))
  | 0 => fun _ _ r h => by simp [octets_nibble.j0] at h
  | k + 1 => by
    have ih0 := octets_nibble.mono_l k
    · intro y0 y1
      unfold octets_nibble.j0
      repeat' first
      | (with_reducible exact ih0 _ _)
      | (with_reducible exact LeO.refl _)
      | (with_reducible exact LeO.none _)
      | (with_reducible refine LeO.ite ?_ ?_)
      | (with_reducible refine LeO.bind ?_ (fun _ => ?_))
      | exact ih0 _ _
      | exact LeO.none _
      | refine LeO.ite ?_ ?_
      | refine LeO.bind ?_ (fun _ => ?_)
theorem octets_nibble.mono : ∀ a0 k, LeO (octets_nibble.f k a0) (octets_nibble.f (k + 1) a0) := by
  intro a0 k; have ih0 := octets_nibble.mono_l k
  unfold octets_nibble.f
  repeat' first
      | (with_reducible exact ih0 _ _)
      | (with_reducible exact LeO.refl _)
      | (with_reducible exact LeO.none _)
      | (with_reducible refine LeO.ite ?_ ?_)
      | (with_reducible refine LeO.bind ?_ (fun _ => ?_))
      | exact ih0 _ _
      | exact LeO.none _
      | refine LeO.ite ?_ ?_
      | refine LeO.bind ?_ (fun _ => ?_)
set_option maxHeartbeats 8000000 in
set_option maxRecDepth 100000 in
theorem octets_nibble.calls (k : Nat) (a0 : Int) (r1 : Int) (r2 : Bool) (w : World) (h : octets_nibble.f k a0 = some (r1, r2)) :
    Calls Try.prog 31 #[.int .u8 a0] w fun e w' => e = .returned (.tuple #[.int .u8 r1, .bool r2]) ∧ Drawn0 w w' := by
  have H : (if a0 ≥ 48 then (octets_nibble.j0 k a0 (decide (a0 ≤ 57))) else (octets_nibble.j0 k a0 false)) = some (r1, r2) := h; clear h; have HC2 := Aside0.mk H; clear H
  go_enter Try.func31, Try.ntmps31
  go_upto_region 1 with (fail)
  go_cut [4] (fun v4 wc => ∃ (kq : Nat) (x4_1 : Bool), v4 = .bool x4_1 ∧ Aside0 (octets_nibble.j0 kq a0 x4_1 = some (r1, r2)) ∧ Aside0 (kq ≤ k) ∧ Drawn0 w wc)
  case first =>
    have H := HC2.out; clear HC2
    by_cases c3 : a0 ≥ 48
    · rw [if_pos c3] at H
      have c3b0 : decide (48 ≤ a0) = true := decide_eq_true c3; clear c3
      (first | rw [c3b0] | (simp only [i64_w, i32_w]; rw [c3b0]) | skip)
      have H' := Aside0.mk H; clear H
      go_wp2
      go_meet
      case rel => exact ⟨_, (decide (a0 ≤ 57)), (by first | rfl | (simp; done) | (simp [*]; done)), H', ⟨by first | omega | exact Nat.le_refl _⟩, by repeat (first | exact Drawn0.refl _ | apply Drawn0.step)⟩
    rw [if_neg c3] at H; have c3b0 : decide (48 ≤ a0) = false := decide_eq_false c3; clear c3
    (first | rw [c3b0] | (simp only [i64_w, i32_w]; rw [c3b0]) | skip)
    have H' := Aside0.mk H; clear H
    go_wp2
    go_meet
    case rel => exact ⟨_, (false), (by first | rfl | (simp; done) | (simp [*]; done)), H', ⟨by first | omega | exact Nat.le_refl _⟩, by repeat (first | exact Drawn0.refl _ | apply Drawn0.step)⟩
  case rest =>
    clear HC2
    try clear p2
    try clear c3
    try clear c3b0
    obtain ⟨kq, x4_1, rfl, HA, HJ1, ⟨mc1, rfl⟩⟩ := hcut
    cases kq with
    | zero => exact absurd HA.out (by simp [octets_nibble.j0])
    | succ kj1 =>
      have H := HA.out; clear HA
      simp only [octets_nibble.j0] at H
      by_cases c4 : x4_1 = true
      · subst c4
        have H1 : (some ((a0 - 48) % 256, true)) = some (r1, r2) := by rw [if_pos rfl] at H; exact H
        clear H; have H := H1; clear H1
        simp only [Option.some.injEq, Prod.mk.injEq] at H
        obtain ⟨rfl, rfl⟩ := H
        go_wp2
        go_ret2
        exact ⟨by first | rfl | (simp; done) | (simp [*]; done), by repeat (first | exact Drawn0.refl _ | apply Drawn0.step)⟩
      replace c4 := Bool.eq_false_iff.mpr c4
      subst c4
      have H1 : (if (Go.bits .or .u8 a0 32) ≥ 97 then (if (Go.bits .or .u8 a0 32) ≤ 102 then (some (((((Go.bits .or .u8 a0 32) - 97) % 256) + 10) % 256, true)) else (some (0, false))) else (some (0, false))) = some (r1, r2) := by rw [if_neg (show ¬ (false = true) by decide)] at H; exact H
      clear H; have H := H1; clear H1
      by_cases c5 : (Go.bits .or .u8 a0 32) ≥ 97
      · rw [if_pos c5] at H
        have c5b0 : decide (97 ≤ (Go.bits .or .u8 a0 32)) = true := decide_eq_true c5; clear c5
        by_cases c6 : (Go.bits .or .u8 a0 32) ≤ 102
        · rw [if_pos c6] at H
          have c6b0 : decide ((Go.bits .or .u8 a0 32) ≤ 102) = true := decide_eq_true c6; clear c6
          simp only [Option.some.injEq, Prod.mk.injEq] at H
          obtain ⟨rfl, rfl⟩ := H
          go_wp2
          go_ret2
          exact ⟨by first | rfl | (simp; done) | (simp [*]; done), by repeat (first | exact Drawn0.refl _ | apply Drawn0.step)⟩
        rw [if_neg c6] at H; have c6b0 : decide ((Go.bits .or .u8 a0 32) ≤ 102) = false := decide_eq_false c6; clear c6
        simp only [Option.some.injEq, Prod.mk.injEq] at H
        obtain ⟨rfl, rfl⟩ := H
        go_wp2
        go_ret2
        exact ⟨by first | rfl | (simp; done) | (simp [*]; done), by repeat (first | exact Drawn0.refl _ | apply Drawn0.step)⟩
      rw [if_neg c5] at H; have c5b0 : decide (97 ≤ (Go.bits .or .u8 a0 32)) = false := decide_eq_false c5; clear c5
      simp only [Option.some.injEq, Prod.mk.injEq] at H
      obtain ⟨rfl, rfl⟩ := H
      go_wp2
      go_ret2
      exact ⟨by first | rfl | (simp; done) | (simp [*]; done), by repeat (first | exact Drawn0.refl _ | apply Drawn0.step)⟩

-- NOT PRINTED: function 32 (slices_Chunk_byte_byte)

/-! ### octets_Unhex: function 25 -/
def octets_Unhex.f (a0 : ByteArray) : Option (List Int × Int × Int) := Hand.unhex a0
set_option maxHeartbeats 8000000 in
set_option maxRecDepth 100000 in
theorem octets_Unhex.calls (a0 : ByteArray) (r1 : List Int) (r2 : Int) (r3 : Int) (w : World) (h : octets_Unhex.f a0 = some (r1, r2, r3)) :
    Calls Try.prog 25 #[.string a0] w fun e w' => ∃ v0_ : Value, e = .returned (.tuple #[v0_, .int .i64 r2, .int .i64 r3]) ∧ Kd.R (Kd.int .u8) 5 w' w.heap.size (fun _ => True) v0_ r1 ∧ Below w.heap.size w w' := by
  exact Hand.unhex_calls a0 r1 r2 r3 w h

/-! ### stopcocklaw07_alive: function 8 -/
def stopcocklaw07_alive.f (k : Nat)  : Option (Bool) := (octets_Unhex.f (⟨#[54, 100, 53, 97, 53, 54, 100, 97, 50, 53, 53, 98, 48, 101, 99, 50, 52, 49, 54, 55, 50, 53, 51, 100, 52, 51, 97, 51, 56, 102, 98, 48, 100, 48, 99, 97, 50, 98, 99, 98, 97, 101, 55, 98, 51, 48, 98, 52, 55, 55, 99, 98, 50, 100, 97, 51, 56, 48, 51, 48, 102, 50, 48, 99, 54, 97, 52, 50, 98, 55, 51, 98, 98, 101, 97, 99, 48, 49, 102, 97]⟩ : ByteArray)).bind fun bt105 => ((toeplitz_Tuple.f 1107924411 2710463568 2794 1766).bind fun t110 => ((toeplitz_Hash.f k bt105.1 t110).bind fun bt113 => ((stopcocklaw07_num.f bt113.2).bind fun t115 => (if t115 = 0 then (some (bt113.1 == 1372373368)) else (some false)))))
theorem stopcocklaw07_alive.mono : ∀ k, LeO (stopcocklaw07_alive.f k ) (stopcocklaw07_alive.f (k + 1) ) := by
  intro  k
  unfold stopcocklaw07_alive.f
  repeat' first
      | (with_reducible exact toeplitz_Hash.mono _ _ _)
      | (with_reducible exact LeO.refl _)
      | (with_reducible exact LeO.none _)
      | (with_reducible refine LeO.ite ?_ ?_)
      | (with_reducible refine LeO.bind ?_ (fun _ => ?_))
      | exact toeplitz_Hash.mono _ _ _
      | exact LeO.none _
      | refine LeO.ite ?_ ?_
      | refine LeO.bind ?_ (fun _ => ?_)
set_option maxHeartbeats 8000000 in
set_option maxRecDepth 100000 in
theorem stopcocklaw07_alive.calls (k : Nat)  (r : Bool) (w : World) (h : stopcocklaw07_alive.f k  = some r) :
    Calls Try.prog 8 #[] w fun e w' => e = .returned (.bool r) ∧ Below w.heap.size w w' := by
  have HB := Aside0.mk (Below.refl w.heap.size w); have H : ((octets_Unhex.f (⟨#[54, 100, 53, 97, 53, 54, 100, 97, 50, 53, 53, 98, 48, 101, 99, 50, 52, 49, 54, 55, 50, 53, 51, 100, 52, 51, 97, 51, 56, 102, 98, 48, 100, 48, 99, 97, 50, 98, 99, 98, 97, 101, 55, 98, 51, 48, 98, 52, 55, 55, 99, 98, 50, 100, 97, 51, 56, 48, 51, 48, 102, 50, 48, 99, 54, 97, 52, 50, 98, 55, 51, 98, 98, 101, 97, 99, 48, 49, 102, 97]⟩ : ByteArray)).bind fun bt105 => ((toeplitz_Tuple.f 1107924411 2710463568 2794 1766).bind fun t110 => ((toeplitz_Hash.f k bt105.1 t110).bind fun bt113 => ((stopcocklaw07_num.f bt113.2).bind fun t115 => (if t115 = 0 then (some (bt113.1 == 1372373368)) else (some false)))))) = some r := h; clear h; replace H := Option.bind_eq_some_iff.mp H; obtain ⟨⟨t105, t106, t107⟩, A10, H⟩ := H; replace H : ((toeplitz_Tuple.f 1107924411 2710463568 2794 1766).bind fun t110 => ((toeplitz_Hash.f k t105 t110).bind fun bt113 => ((stopcocklaw07_num.f bt113.2).bind fun t115 => (if t115 = 0 then (some (bt113.1 == 1372373368)) else (some false))))) = some r := H; have A1 := Aside0.mk A10; clear A10; replace H := Option.bind_eq_some_iff.mp H; obtain ⟨t110, A20, H⟩ := H; replace H : ((toeplitz_Hash.f k t105 t110).bind fun bt113 => ((stopcocklaw07_num.f bt113.2).bind fun t115 => (if t115 = 0 then (some (bt113.1 == 1372373368)) else (some false)))) = some r := H; have A2 := Aside0.mk A20; clear A20; replace H := Option.bind_eq_some_iff.mp H; obtain ⟨⟨t113, t114⟩, A30, H⟩ := H; replace H : ((stopcocklaw07_num.f t114).bind fun t115 => (if t115 = 0 then (some (t113 == 1372373368)) else (some false))) = some r := H
  have A3 := Aside0.mk A30; clear A30; replace H := Option.bind_eq_some_iff.mp H; obtain ⟨t115, A40, H⟩ := H; replace H : (if t115 = 0 then (some (t113 == 1372373368)) else (some false)) = some r := H; have A4 := Aside0.mk A40; clear A40
  by_cases c5 : t115 = 0
  · rw [if_pos c5] at H
    have c5b0 : (t115 == 0) = true := beq_iff_eq.mpr c5; have c5b1 : (t115 != 0) = false := bne_eq_false_iff_eq.mpr c5; clear c5; obtain rfl := Option.some.inj H
    go_enter Try.func8, Try.ntmps8
    go_wp2_with (first | ((with_reducible refine gate_callee (f := 25) rfl ?_); refine goesL_ (some 7) rfl rfl Try.func25 (by kernel_rfl) rfl #[.string (⟨#[54, 100, 53, 97, 53, 54, 100, 97, 50, 53, 53, 98, 48, 101, 99, 50, 52, 49, 54, 55, 50, 53, 51, 100, 52, 51, 97, 51, 56, 102, 98, 48, 100, 48, 99, 97, 50, 98, 99, 98, 97, 101, 55, 98, 51, 48, 98, 52, 55, 55, 99, 98, 50, 100, 97, 51, 56, 48, 51, 48, 102, 50, 48, 99, 54, 97, 52, 50, 98, 55, 51, 98, 98, 101, 97, 99, 48, 49, 102, 97]⟩ : ByteArray)] rfl (by (try simp only [List.map_toArray, List.map_cons, List.map_nil]); first | done | rfl | (simp only [List.length_drop, List.length_take]; rfl)) ?_; (with_reducible refine (octets_Unhex.calls (⟨#[54, 100, 53, 97, 53, 54, 100, 97, 50, 53, 53, 98, 48, 101, 99, 50, 52, 49, 54, 55, 50, 53, 51, 100, 52, 51, 97, 51, 56, 102, 98, 48, 100, 48, 99, 97, 50, 98, 99, 98, 97, 101, 55, 98, 51, 48, 98, 52, 55, 55, 99, 98, 50, 100, 97, 51, 56, 48, 51, 48, 102, 50, 48, 99, 54, 97, 52, 50, 98, 55, 51, 98, 98, 101, 97, 99, 48, 49, 102, 97]⟩ : ByteArray) t105 t106 t107 _ A1.out).mono ?_); rintro e w6 ⟨v108, rfl, ho0, hb⟩; refine ⟨_, rfl, ?_⟩; have n0_ := Aside0.mk (Kd.R_lower ho0 (below_size (bel0 HB.out))); have n1_ := Aside0.mk (below_step (bel0 HB.out) hb); clear HB; have HO109 := n0_; have HB := n1_; clear n0_ n1_; (try clear hb); (try clear hb2); (try clear hk); (try clear hi); (try clear ho0)) | ((with_reducible refine gate_callee (f := 11) rfl ?_); refine goesL_ (some 13) rfl rfl Try.func11 (by kernel_rfl) rfl #[.int .u32 1107924411, .int .u32 2710463568, .int .u16 2794, .int .u16 1766] rfl (by (try simp only [List.map_toArray, List.map_cons, List.map_nil]); first | done | rfl | (simp only [List.length_drop, List.length_take]; rfl)) ?_; (with_reducible refine (toeplitz_Tuple.calls 1107924411 2710463568 2794 1766 t110 _ A2.out).mono ?_); rintro e w7 ⟨v111, rfl, ho0, hb⟩; refine ⟨_, rfl, ?_⟩; have n0_ := Aside0.mk (Kd.R_elder' (by (with_reducible repeat (first | apply Kd.R_alloc | apply Kd.R_drewN | apply Kd.R_drew)); exact HO109.out) (Kd.R_base ho0) hb); have n1_ := Aside0.mk (Kd.R_lower (Kd.R_new' ho0 (Kd.R_lt (by (with_reducible repeat (first | apply Kd.R_alloc | apply Kd.R_drewN | apply Kd.R_drew)); exact HO109.out))) (below_size (bel0 HB.out))); have n2_ := Aside0.mk (below_step (bel0 HB.out) hb); clear HO109; clear HB; have HO109 := n0_; have HO112 := n1_; have HB := n2_; clear n0_ n1_ n2_; (try clear hb); (try clear hb2); (try clear hk); (try clear hi); (try clear ho0); obtain ⟨Ao8, co8, eo8⟩ := Kd.R_slice HO109.out; subst eo8; obtain ⟨Ao9, co9, eo9⟩ := Kd.R_slice HO112.out; subst eo9) | ((with_reducible refine gate_callee (f := 9) rfl ?_); refine goesL_ (some 14) rfl rfl Try.func9 (by kernel_rfl) rfl #[.slice Ao8 t105.length co8, .slice Ao9 t110.length co9] rfl (by (try simp only [List.map_toArray, List.map_cons, List.map_nil]); first | done | rfl | (simp only [List.length_drop, List.length_take]; rfl)) ?_; (with_reducible refine (toeplitz_Hash.calls k _ _ t105 _ _ t110 t113 t114 _ ?side1 ?side2 ?side3 ?side4 A3.out).mono ?_); (case side1 => repeat (first | exact (Kd.R_reads' HO109.out).2.2 | (with_reducible refine Kd.C_alloc ?_ _) | (with_reducible refine Kd.C_drewN ?_ _) | (with_reducible refine Kd.C_drew ?_))); (case side2 => exact (Kd.R_reads' HO109.out).2.1); (case side3 => repeat (first | exact (Kd.R_reads' HO112.out).2.2 | (with_reducible refine Kd.C_alloc ?_ _) | (with_reducible refine Kd.C_drewN ?_ _) | (with_reducible refine Kd.C_drew ?_))); (case side4 => exact (Kd.R_reads' HO112.out).2.1); rintro e w' ⟨rfl, ⟨nd, rfl⟩⟩; refine ⟨_, rfl, ?_⟩) | ((with_reducible refine gate_callee (f := 10) rfl ?_); refine goesL_ (some 18) rfl rfl Try.func10 (by kernel_rfl) rfl #[.int .i64 t114] rfl (by (try simp only [List.map_toArray, List.map_cons, List.map_nil]); first | done | rfl | (simp only [List.length_drop, List.length_take]; rfl)) ?_; (with_reducible refine (stopcocklaw07_num.same t114 t115 _ A4.out).mono ?_); rintro e w' ⟨rfl, rfl⟩; refine ⟨_, rfl, ?_⟩))
    go_ret
    exact ⟨by first | rfl | (simp [errW_none, errW_some] <;> rfl) | (simp [*, errW_none, errW_some] <;> rfl), by exact bel0 HB.out⟩
  rw [if_neg c5] at H; have c5b0 : (t115 == 0) = false := beq_eq_false_iff_ne.mpr c5; have c5b1 : (t115 != 0) = true := bne_iff_ne.mpr c5; obtain rfl := Option.some.inj H
  go_enter Try.func8, Try.ntmps8
  go_wp2_with (first | ((with_reducible refine gate_callee (f := 25) rfl ?_); refine goesL_ (some 7) rfl rfl Try.func25 (by kernel_rfl) rfl #[.string (⟨#[54, 100, 53, 97, 53, 54, 100, 97, 50, 53, 53, 98, 48, 101, 99, 50, 52, 49, 54, 55, 50, 53, 51, 100, 52, 51, 97, 51, 56, 102, 98, 48, 100, 48, 99, 97, 50, 98, 99, 98, 97, 101, 55, 98, 51, 48, 98, 52, 55, 55, 99, 98, 50, 100, 97, 51, 56, 48, 51, 48, 102, 50, 48, 99, 54, 97, 52, 50, 98, 55, 51, 98, 98, 101, 97, 99, 48, 49, 102, 97]⟩ : ByteArray)] rfl (by (try simp only [List.map_toArray, List.map_cons, List.map_nil]); first | done | rfl | (simp only [List.length_drop, List.length_take]; rfl)) ?_; (with_reducible refine (octets_Unhex.calls (⟨#[54, 100, 53, 97, 53, 54, 100, 97, 50, 53, 53, 98, 48, 101, 99, 50, 52, 49, 54, 55, 50, 53, 51, 100, 52, 51, 97, 51, 56, 102, 98, 48, 100, 48, 99, 97, 50, 98, 99, 98, 97, 101, 55, 98, 51, 48, 98, 52, 55, 55, 99, 98, 50, 100, 97, 51, 56, 48, 51, 48, 102, 50, 48, 99, 54, 97, 52, 50, 98, 55, 51, 98, 98, 101, 97, 99, 48, 49, 102, 97]⟩ : ByteArray) t105 t106 t107 _ A1.out).mono ?_); rintro e w10 ⟨v108, rfl, ho0, hb⟩; refine ⟨_, rfl, ?_⟩; have n0_ := Aside0.mk (Kd.R_lower ho0 (below_size (bel0 HB.out))); have n1_ := Aside0.mk (below_step (bel0 HB.out) hb); clear HB; have HO109 := n0_; have HB := n1_; clear n0_ n1_; (try clear hb); (try clear hb2); (try clear hk); (try clear hi); (try clear ho0)) | ((with_reducible refine gate_callee (f := 11) rfl ?_); refine goesL_ (some 13) rfl rfl Try.func11 (by kernel_rfl) rfl #[.int .u32 1107924411, .int .u32 2710463568, .int .u16 2794, .int .u16 1766] rfl (by (try simp only [List.map_toArray, List.map_cons, List.map_nil]); first | done | rfl | (simp only [List.length_drop, List.length_take]; rfl)) ?_; (with_reducible refine (toeplitz_Tuple.calls 1107924411 2710463568 2794 1766 t110 _ A2.out).mono ?_); rintro e w11 ⟨v111, rfl, ho0, hb⟩; refine ⟨_, rfl, ?_⟩; have n0_ := Aside0.mk (Kd.R_elder' (by (with_reducible repeat (first | apply Kd.R_alloc | apply Kd.R_drewN | apply Kd.R_drew)); exact HO109.out) (Kd.R_base ho0) hb); have n1_ := Aside0.mk (Kd.R_lower (Kd.R_new' ho0 (Kd.R_lt (by (with_reducible repeat (first | apply Kd.R_alloc | apply Kd.R_drewN | apply Kd.R_drew)); exact HO109.out))) (below_size (bel0 HB.out))); have n2_ := Aside0.mk (below_step (bel0 HB.out) hb); clear HO109; clear HB; have HO109 := n0_; have HO112 := n1_; have HB := n2_; clear n0_ n1_ n2_; (try clear hb); (try clear hb2); (try clear hk); (try clear hi); (try clear ho0); obtain ⟨Ao12, co12, eo12⟩ := Kd.R_slice HO109.out; subst eo12; obtain ⟨Ao13, co13, eo13⟩ := Kd.R_slice HO112.out; subst eo13) | ((with_reducible refine gate_callee (f := 9) rfl ?_); refine goesL_ (some 14) rfl rfl Try.func9 (by kernel_rfl) rfl #[.slice Ao12 t105.length co12, .slice Ao13 t110.length co13] rfl (by (try simp only [List.map_toArray, List.map_cons, List.map_nil]); first | done | rfl | (simp only [List.length_drop, List.length_take]; rfl)) ?_; (with_reducible refine (toeplitz_Hash.calls k _ _ t105 _ _ t110 t113 t114 _ ?side1 ?side2 ?side3 ?side4 A3.out).mono ?_); (case side1 => repeat (first | exact (Kd.R_reads' HO109.out).2.2 | (with_reducible refine Kd.C_alloc ?_ _) | (with_reducible refine Kd.C_drewN ?_ _) | (with_reducible refine Kd.C_drew ?_))); (case side2 => exact (Kd.R_reads' HO109.out).2.1); (case side3 => repeat (first | exact (Kd.R_reads' HO112.out).2.2 | (with_reducible refine Kd.C_alloc ?_ _) | (with_reducible refine Kd.C_drewN ?_ _) | (with_reducible refine Kd.C_drew ?_))); (case side4 => exact (Kd.R_reads' HO112.out).2.1); rintro e w' ⟨rfl, ⟨nd, rfl⟩⟩; refine ⟨_, rfl, ?_⟩) | ((with_reducible refine gate_callee (f := 10) rfl ?_); refine goesL_ (some 18) rfl rfl Try.func10 (by kernel_rfl) rfl #[.int .i64 t114] rfl (by (try simp only [List.map_toArray, List.map_cons, List.map_nil]); first | done | rfl | (simp only [List.length_drop, List.length_take]; rfl)) ?_; (with_reducible refine (stopcocklaw07_num.same t114 t115 _ A4.out).mono ?_); rintro e w' ⟨rfl, rfl⟩; refine ⟨_, rfl, ?_⟩))
  go_ret
  exact ⟨by first | rfl | (simp [errW_none, errW_some] <;> rfl) | (simp [*, errW_none, errW_some] <;> rfl), by exact bel0 HB.out⟩

-- NOT PRINTED: function 33 (slices_Min_int_int)

-- NOT PRINTED: function 34 (slices_Max_int_int)

/-! ### toeplitz_checkTable: function 27 -/
def toeplitz_checkTable.f (l0 : List Int) : Option (Int) := Hand.checkT l0
set_option maxHeartbeats 8000000 in
set_option maxRecDepth 100000 in
theorem toeplitz_checkTable.calls (A0 : Option Addr) (c0 : Nat) (l0 : List Int) (r : Int) (w : World) (hr0 : Kd.C (Kd.int .i64) w A0 l0.length l0) (hc0 : l0.length ≤ c0) (h : toeplitz_checkTable.f l0 = some r) :
    Calls Try.prog 27 #[.slice A0 l0.length c0] w fun e w' => e = .returned (.int .i64 r) ∧ Drawn0 w w' := by
  exact (Hand.check_calls A0 c0 l0 r w hr0 hc0 h).mono fun e w' ⟨he, hw⟩ => ⟨he, hw ▸ Drawn0.refl _⟩


/-! ### toeplitz_Shard: function 17 -/
def toeplitz_Shard.f (l0 : List Int) (a1 : Int) : Option (Int × Int) := (toeplitz_checkTable.f l0).bind fun t116 => (if t116 = 0 then (if 0 ≤ (Go.bits .and .u32 a1 127) then (if (Go.bits .and .u32 a1 127) < (l0.length : Int) then (some (rd l0 (Go.bits .and .u32 a1 127), 0)) else (none)) else (none)) else (some (0, t116)))
set_option maxHeartbeats 8000000 in
set_option maxRecDepth 100000 in
theorem toeplitz_Shard.calls (A0 : Option Addr) (c0 : Nat) (l0 : List Int) (a1 : Int) (r1 : Int) (r2 : Int) (w : World) (hr0 : Kd.C (Kd.int .i64) w A0 l0.length l0) (hc0 : l0.length ≤ c0) (h : toeplitz_Shard.f l0 a1 = some (r1, r2)) :
    Calls Try.prog 17 #[.slice A0 l0.length c0, .int .u32 a1] w fun e w' => e = .returned (.tuple #[.int .i64 r1, .int .i64 r2]) ∧ Drawn0 w w' := by
  have HR0 := Aside0.mk hr0; have HC0 := Aside0.mk hc0; clear hr0 hc0; have H : ((toeplitz_checkTable.f l0).bind fun t116 => (if t116 = 0 then (if 0 ≤ (Go.bits .and .u32 a1 127) then (if (Go.bits .and .u32 a1 127) < (l0.length : Int) then (some (rd l0 (Go.bits .and .u32 a1 127), 0)) else (none)) else (none)) else (some (0, t116)))) = some (r1, r2) := h; clear h; replace H := Option.bind_eq_some_iff.mp H; obtain ⟨t116, A30, H⟩ := H; replace H : (if t116 = 0 then (if 0 ≤ (Go.bits .and .u32 a1 127) then (if (Go.bits .and .u32 a1 127) < (l0.length : Int) then (some (rd l0 (Go.bits .and .u32 a1 127), 0)) else (none)) else (none)) else (some (0, t116))) = some (r1, r2) := H; have A3 := Aside0.mk A30; clear A30
  by_cases c4 : t116 = 0
  · rw [if_pos c4] at H
    have c4b0 : (t116 == 0) = true := beq_iff_eq.mpr c4; have c4b1 : (t116 != 0) = false := bne_eq_false_iff_eq.mpr c4; clear c4
    by_cases c5 : 0 ≤ (Go.bits .and .u32 a1 127)
    · rw [if_pos c5] at H
      have c5b0 : decide (0 ≤ (Go.bits .and .u32 a1 127)) = true := decide_eq_true c5; clear c5
      by_cases c6 : (Go.bits .and .u32 a1 127) < (l0.length : Int)
      · rw [if_pos c6] at H
        have c6b0 : decide ((Go.bits .and .u32 a1 127) < (l0.length : Int)) = true := decide_eq_true c6; clear c6
        simp only [Option.some.injEq, Prod.mk.injEq] at H
        obtain ⟨rfl, rfl⟩ := H
        go_enter Try.func17, Try.ntmps17
        go_wp2_with (first | ((with_reducible refine gate_callee (f := 27) rfl ?_); refine goesL_ (some 8) rfl rfl Try.func27 (by kernel_rfl) rfl #[.slice A0 l0.length c0] rfl (by (try simp only [List.map_toArray, List.map_cons, List.map_nil]); first | done | rfl | (simp only [List.length_drop, List.length_take]; rfl)) ?_; (with_reducible refine (toeplitz_checkTable.calls _ _ l0 t116 _ ?side1 ?side2 A3.out).mono ?_); (case side1 => repeat (first | exact HR0.out | (with_reducible refine Kd.C_alloc ?_ _) | (with_reducible refine Kd.C_drewN ?_ _) | (with_reducible refine Kd.C_drew ?_))); (case side2 => exact HC0.out); rintro e w' ⟨rfl, ⟨nd, rfl⟩⟩; refine ⟨_, rfl, ?_⟩; have p117 : 0 ≤ ((Go.bits .and .u32 a1 127) : Int) := of_decide_eq_true (by first | (with_reducible assumption) | assumption); have q117 : (Go.bits .and .u32 a1 127) < (l0.length : Int) := of_decide_eq_true (by first | (with_reducible assumption) | assumption); obtain ⟨ad117, e117, hx117_0⟩ := Kd.at_int HR0.out (Go.bits .and .u32 a1 127) p117 q117; cases e117; replace p117 := eq_true p117; replace q117 := eq_true q117))
        go_ret2
        exact ⟨by first | rfl | (simp; done) | (simp [*]; done), by repeat (first | exact Drawn0.refl _ | apply Drawn0.step)⟩
      rw [if_neg c6] at H; exact absurd H (by simp)
    rw [if_neg c5] at H; exact absurd H (by simp)
  rw [if_neg c4] at H; have c4b0 : (t116 == 0) = false := beq_eq_false_iff_ne.mpr c4; have c4b1 : (t116 != 0) = true := bne_iff_ne.mpr c4
  simp only [Option.some.injEq, Prod.mk.injEq] at H
  obtain ⟨rfl, rfl⟩ := H
  go_enter Try.func17, Try.ntmps17
  go_wp2_with (first | ((with_reducible refine gate_callee (f := 27) rfl ?_); refine goesL_ (some 8) rfl rfl Try.func27 (by kernel_rfl) rfl #[.slice A0 l0.length c0] rfl (by (try simp only [List.map_toArray, List.map_cons, List.map_nil]); first | done | rfl | (simp only [List.length_drop, List.length_take]; rfl)) ?_; (with_reducible refine (toeplitz_checkTable.calls _ _ l0 t116 _ ?side1 ?side2 A3.out).mono ?_); (case side1 => repeat (first | exact HR0.out | (with_reducible refine Kd.C_alloc ?_ _) | (with_reducible refine Kd.C_drewN ?_ _) | (with_reducible refine Kd.C_drew ?_))); (case side2 => exact HC0.out); rintro e w' ⟨rfl, ⟨nd, rfl⟩⟩; refine ⟨_, rfl, ?_⟩))
  go_ret2
  exact ⟨by first | rfl | (simp; done) | (simp [*]; done), by repeat (first | exact Drawn0.refl _ | apply Drawn0.step)⟩

/-! ### toeplitz_Check: function 19 -/
def toeplitz_Check.f (l0 : List Int) (l1 : List Int) : Option (Int) := if (l0.length : Int) = 40 then ((toeplitz_checkTable.f l1).bind fun t118 => (some t118)) else (some 3)
set_option maxHeartbeats 8000000 in
set_option maxRecDepth 100000 in
theorem toeplitz_Check.calls (A0 : Option Addr) (c0 : Nat) (l0 : List Int) (A1 : Option Addr) (c1 : Nat) (l1 : List Int) (r : Int) (w : World) (hr0 : Kd.C (Kd.int .u8) w A0 l0.length l0) (hc0 : l0.length ≤ c0) (hr1 : Kd.C (Kd.int .i64) w A1 l1.length l1) (hc1 : l1.length ≤ c1) (h : toeplitz_Check.f l0 l1 = some r) :
    Calls Try.prog 19 #[.slice A0 l0.length c0, .slice A1 l1.length c1] w fun e w' => e = .returned (.int .i64 r) ∧ Drawn0 w w' := by
  have HR0 := Aside0.mk hr0; have HC0 := Aside0.mk hc0; clear hr0 hc0; have HR1 := Aside0.mk hr1; have HC1 := Aside0.mk hc1; clear hr1 hc1; have H : (if (l0.length : Int) = 40 then ((toeplitz_checkTable.f l1).bind fun t118 => (some t118)) else (some 3)) = some r := h; clear h
  by_cases c3 : (l0.length : Int) = 40
  · rw [if_pos c3] at H
    have c3b0 : ((l0.length : Int) == 40) = true := beq_iff_eq.mpr c3; have c3b1 : ((l0.length : Int) != 40) = false := bne_eq_false_iff_eq.mpr c3; clear c3; replace H := Option.bind_eq_some_iff.mp H; obtain ⟨t118, A40, H⟩ := H; replace H : (some t118) = some r := H; have A4 := Aside0.mk A40; clear A40; obtain rfl := Option.some.inj H
    go_enter Try.func19, Try.ntmps19
    go_wp2_with (first | ((with_reducible refine gate_callee (f := 27) rfl ?_); refine goesL_ (some 9) rfl rfl Try.func27 (by kernel_rfl) rfl #[.slice A1 l1.length c1] rfl (by (try simp only [List.map_toArray, List.map_cons, List.map_nil]); first | done | rfl | (simp only [List.length_drop, List.length_take]; rfl)) ?_; (with_reducible refine (toeplitz_checkTable.calls _ _ l1 t118 _ ?side1 ?side2 A4.out).mono ?_); (case side1 => repeat (first | exact HR1.out | (with_reducible refine Kd.C_alloc ?_ _) | (with_reducible refine Kd.C_drewN ?_ _) | (with_reducible refine Kd.C_drew ?_))); (case side2 => exact HC1.out); rintro e w' ⟨rfl, ⟨nd, rfl⟩⟩; refine ⟨_, rfl, ?_⟩))
    go_ret
    exact ⟨by first | rfl | (simp; done) | (simp [*]; done), by repeat (first | exact Drawn0.refl _ | apply Drawn0.step)⟩
  rw [if_neg c3] at H; have c3b0 : ((l0.length : Int) == 40) = false := beq_eq_false_iff_ne.mpr c3; have c3b1 : ((l0.length : Int) != 40) = true := bne_iff_ne.mpr c3; obtain rfl := Option.some.inj H
  go_enter Try.func19, Try.ntmps19
  go_wp2
  go_ret
  exact ⟨by first | rfl | (simp; done) | (simp [*]; done), by repeat (first | exact Drawn0.refl _ | apply Drawn0.step)⟩

-- NOT PRINTED: function 30 (toeplitz_ports)

/-! ### toeplitz_Port: function 23 -/
def toeplitz_Port.f (l0 : List Int) (l1 : List Int) (a2 : Int) (a3 : Int) (a4 : Int) (a5 : Int) (a6 : Int) : Option (Int × Int) := Hand.portF l0 l1 a2 a3 a4 a5 a6
set_option maxHeartbeats 8000000 in
set_option maxRecDepth 100000 in
theorem toeplitz_Port.calls (A0 : Option Addr) (c0 : Nat) (l0 : List Int) (A1 : Option Addr) (c1 : Nat) (l1 : List Int) (a2 : Int) (a3 : Int) (a4 : Int) (a5 : Int) (a6 : Int) (r1 : Int) (r2 : Int) (w : World) (hr0 : Kd.C (Kd.int .u8) w A0 l0.length l0) (hc0 : l0.length ≤ c0) (hr1 : Kd.C (Kd.int .i64) w A1 l1.length l1) (hc1 : l1.length ≤ c1) (h : toeplitz_Port.f l0 l1 a2 a3 a4 a5 a6 = some (r1, r2)) :
    Calls Try.prog 23 #[.slice A0 l0.length c0, .slice A1 l1.length c1, .int .u32 a2, .int .u32 a3, .int .u16 a4, .int .i64 a5, .int .u16 a6] w fun e w' => e = .returned (.tuple #[.int .u16 r1, .int .i64 r2]) ∧ Below w.heap.size w w' := by
  exact Hand.port_calls A0 c0 l0 A1 c1 l1 a2 a3 a4 a5 a6 r1 r2 w hr0 hc0 hr1 hc1 h


/-! ### stopcockref07_bit: function 26 -/
def stopcockref07_bit.f (l0 : List Int) (a1 : Int) : Option (Int) := if 0 ≤ (wrap64 (Int.tdiv a1 8)) then (if (wrap64 (Int.tdiv a1 8)) < (l0.length : Int) then (if 0 ≤ (wrap64 (7 - (Int.tmod a1 8))) then (some (Go.bits .and .u32 ((shr .u8 (rd l0 (wrap64 (Int.tdiv a1 8))) (wrap64 (7 - (Int.tmod a1 8)))) % 4294967296) 1)) else (none)) else (none)) else (none)
set_option maxHeartbeats 8000000 in
set_option maxRecDepth 100000 in
theorem stopcockref07_bit.calls (A0 : Option Addr) (c0 : Nat) (l0 : List Int) (a1 : Int) (r : Int) (w : World) (hr0 : Kd.C (Kd.int .u8) w A0 l0.length l0) (hc0 : l0.length ≤ c0) (h : stopcockref07_bit.f l0 a1 = some r) :
    Calls Try.prog 26 #[.slice A0 l0.length c0, .int .i64 a1] w fun e w' => e = .returned (.int .u32 r) ∧ Drawn0 w w' := by
  have HR0 := Aside0.mk hr0; have HC0 := Aside0.mk hc0; clear hr0 hc0; have H : (if 0 ≤ (wrap64 (Int.tdiv a1 8)) then (if (wrap64 (Int.tdiv a1 8)) < (l0.length : Int) then (if 0 ≤ (wrap64 (7 - (Int.tmod a1 8))) then (some (Go.bits .and .u32 ((shr .u8 (rd l0 (wrap64 (Int.tdiv a1 8))) (wrap64 (7 - (Int.tmod a1 8)))) % 4294967296) 1)) else (none)) else (none)) else (none)) = some r := h; clear h; obtain ⟨ji3, hji3⟩ : ∃ j_ : Int, (wrap64 (Int.tdiv a1 8)) = j_ := ⟨_, rfl⟩; replace H : (if 0 ≤ (ji3) then (if (ji3) < (l0.length : Int) then (if 0 ≤ (wrap64 (7 - (Int.tmod a1 8))) then (some (Go.bits .and .u32 ((shr .u8 (rd l0 (ji3)) (wrap64 (7 - (Int.tmod a1 8)))) % 4294967296) 1)) else (none)) else (none)) else (none)) = some r := by first | (rw [hji3] at H; exact H) | (simp only [hji3] at H ⊢; exact H)
  have hji3w : (IntKind.i64.wrap (Int.tdiv a1 8)) = ji3 := (i64_w _).trans hji3
  by_cases c4 : 0 ≤ (ji3)
  · rw [if_pos c4] at H
    have c4b0 : decide (0 ≤ (ji3)) = true := decide_eq_true c4; clear c4
    by_cases c5 : (ji3) < (l0.length : Int)
    · rw [if_pos c5] at H
      have c5b0 : decide ((ji3) < (l0.length : Int)) = true := decide_eq_true c5; clear c5; obtain ⟨ji6, hji6⟩ : ∃ j_ : Int, (wrap64 (7 - (Int.tmod a1 8))) = j_ := ⟨_, rfl⟩; replace H : (if 0 ≤ (ji6) then (some (Go.bits .and .u32 ((shr .u8 (rd l0 (ji3)) (ji6)) % 4294967296) 1)) else (none)) = some r := by first | (rw [hji6] at H; exact H) | (simp only [hji6] at H ⊢; exact H)
      have hji6w : (IntKind.i64.wrap (7 - (Int.tmod a1 8))) = ji6 := (i64_w _).trans hji6
      by_cases c7 : 0 ≤ (ji6)
      · rw [if_pos c7] at H
        have c7b0 := eq_true c7; have c7b1 : decide (0 ≤ (ji6)) = true := decide_eq_true c7; clear c7; obtain ⟨ji8, hji8⟩ : ∃ j_ : Int, (shr .u8 (rd l0 (ji3)) (ji6)) = j_ := ⟨_, rfl⟩; replace H : (some (Go.bits .and .u32 ((ji8) % 4294967296) 1)) = some r := by first | (rw [hji8] at H; exact H) | (simp only [hji8] at H ⊢; exact H)
        have hji8_ : ((rd l0 (ji3)) / 2 ^ min (ji6).toNat 8) = ji8 := hji8; have hji8z : (ji6) ≤ 8 → ((rd l0 (ji3)) / 2 ^ (ji6).toNat) = ji8 := shr_small hji8; obtain rfl := Option.some.inj H; have p119 : 0 ≤ ((ji3) : Int) := of_decide_eq_true (by first | (with_reducible assumption) | assumption); have q119 : (ji3) < (l0.length : Int) := of_decide_eq_true (by first | (with_reducible assumption) | assumption); obtain ⟨ad119, e119, hx119_0⟩ := Kd.at_int HR0.out (ji3) p119 q119
        cases e119
        replace p119 := eq_true p119; replace q119 := eq_true q119
        go_enter Try.func26, Try.ntmps26
        go_wp2
        go_ret
        exact ⟨by first | rfl | (simp; done) | (simp only [← hji3, ← hji6, ← hji8] <;> (first | rfl | simp)) | (simp [*]; done), by repeat (first | exact Drawn0.refl _ | apply Drawn0.step)⟩
      rw [if_neg c7] at H; exact absurd H (by simp)
    rw [if_neg c5] at H; exact absurd H (by simp)
  rw [if_neg c4] at H; exact absurd H (by simp)

/-! ### stopcockref07_Hash: function 16 -/
mutual
def stopcockref07_Hash.j0 : Nat → List Int → List Int → Bool → Option (Int × Int)
  | 0, _, _, _ => none
  | k + 1, x0, x1, x17 => if x17 = true then (some (0, 3)) else (stopcockref07_Hash.l0 k x0 x1 0 0)
def stopcockref07_Hash.l0 : Nat → List Int → List Int → Int → Int → Option (Int × Int)
  | 0, _, _, _, _ => none
  | k + 1, x0, x1, x6, x7 => if x7 < (wrap64 (8 * (x1.length : Int))) then ((stopcockref07_bit.f x1 x7).bind fun t120 => (if t120 = 0 then (stopcockref07_Hash.l0 k x0 x1 x6 (wrap64 (x7 + 1))) else (stopcockref07_Hash.l1 k x0 x1 x6 x7 0 0))) else (some (x6, 0))
def stopcockref07_Hash.l1 : Nat → List Int → List Int → Int → Int → Int → Int → Option (Int × Int)
  | 0, _, _, _, _, _, _ => none
  | k + 1, x0, x1, x6, x7, x8, x9 => if x9 < 32 then ((stopcockref07_bit.f x0 (wrap64 (x7 + x9))).bind fun t121 => (stopcockref07_Hash.l1 k x0 x1 x6 x7 (Go.bits .or .u32 ((x8 * 2) % 4294967296) t121) (wrap64 (x9 + 1)))) else (stopcockref07_Hash.l0 k x0 x1 (Go.bits .xor .u32 x6 x8) (wrap64 (x7 + 1)))
end
def stopcockref07_Hash.f (k : Nat) (l0 : List Int) (l1 : List Int) : Option (Int × Int) := if (l0.length : Int) = 40 then (stopcockref07_Hash.j0 k l0 l1 (decide ((l1.length : Int) > 36))) else (stopcockref07_Hash.j0 k l0 l1 true)
theorem stopcockref07_Hash.mono_l : ∀ k, (∀ y0 y1 y2, LeO (stopcockref07_Hash.j0 k y0 y1 y2) (stopcockref07_Hash.j0 (k + 1) y0 y1 y2)) ∧ (∀ y0 y1 y2 y3, LeO (stopcockref07_Hash.l0 k y0 y1 y2 y3) (stopcockref07_Hash.l0 (k + 1) y0 y1 y2 y3)) ∧ (∀ y0 y1 y2 y3 y4 y5, LeO (stopcockref07_Hash.l1 k y0 y1 y2 y3 y4 y5) (stopcockref07_Hash.l1 (k + 1) y0 y1 y2 y3 y4 y5))
  | 0 => ⟨fun _ _ _ r h => by simp [stopcockref07_Hash.j0] at h, fun _ _ _ _ r h => by simp [stopcockref07_Hash.l0] at h, fun _ _ _ _ _ _ r h => by simp [stopcockref07_Hash.l1] at h⟩
  | k + 1 => by
    obtain ⟨ih0, ih1, ih2⟩ := stopcockref07_Hash.mono_l k; refine ⟨?_, ?_, ?_⟩
    · intro y0 y1 y2
      unfold stopcockref07_Hash.j0
      repeat' first
      | (with_reducible exact ih0 _ _ _)
      | (with_reducible exact ih1 _ _ _ _)
      | (with_reducible exact ih2 _ _ _ _ _ _)
      | (with_reducible exact LeO.refl _)
      | (with_reducible exact LeO.none _)
      | (with_reducible refine LeO.ite ?_ ?_)
      | (with_reducible refine LeO.bind ?_ (fun _ => ?_))
      | exact ih0 _ _ _
      | exact ih1 _ _ _ _
      | exact ih2 _ _ _ _ _ _
      | exact LeO.none _
      | refine LeO.ite ?_ ?_
      | refine LeO.bind ?_ (fun _ => ?_)
    · intro y0 y1 y2 y3
      unfold stopcockref07_Hash.l0
      repeat' first
      | (with_reducible exact ih0 _ _ _)
      | (with_reducible exact ih1 _ _ _ _)
      | (with_reducible exact ih2 _ _ _ _ _ _)
      | (with_reducible exact LeO.refl _)
      | (with_reducible exact LeO.none _)
      | (with_reducible refine LeO.ite ?_ ?_)
      | (with_reducible refine LeO.bind ?_ (fun _ => ?_))
      | exact ih0 _ _ _
      | exact ih1 _ _ _ _
      | exact ih2 _ _ _ _ _ _
      | exact LeO.none _
      | refine LeO.ite ?_ ?_
      | refine LeO.bind ?_ (fun _ => ?_)
    · intro y0 y1 y2 y3 y4 y5
      unfold stopcockref07_Hash.l1
      repeat' first
      | (with_reducible exact ih0 _ _ _)
      | (with_reducible exact ih1 _ _ _ _)
      | (with_reducible exact ih2 _ _ _ _ _ _)
      | (with_reducible exact LeO.refl _)
      | (with_reducible exact LeO.none _)
      | (with_reducible refine LeO.ite ?_ ?_)
      | (with_reducible refine LeO.bind ?_ (fun _ => ?_))
      | exact ih0 _ _ _
      | exact ih1 _ _ _ _
      | exact ih2 _ _ _ _ _ _
      | exact LeO.none _
      | refine LeO.ite ?_ ?_
      | refine LeO.bind ?_ (fun _ => ?_)
theorem stopcockref07_Hash.mono : ∀ a0 a1 k, LeO (stopcockref07_Hash.f k a0 a1) (stopcockref07_Hash.f (k + 1) a0 a1) := by
  intro a0 a1 k; obtain ⟨ih0, ih1, ih2⟩ := stopcockref07_Hash.mono_l k
  unfold stopcockref07_Hash.f
  repeat' first
      | (with_reducible exact ih0 _ _ _)
      | (with_reducible exact ih1 _ _ _ _)
      | (with_reducible exact ih2 _ _ _ _ _ _)
      | (with_reducible exact LeO.refl _)
      | (with_reducible exact LeO.none _)
      | (with_reducible refine LeO.ite ?_ ?_)
      | (with_reducible refine LeO.bind ?_ (fun _ => ?_))
      | exact ih0 _ _ _
      | exact ih1 _ _ _ _
      | exact ih2 _ _ _ _ _ _
      | exact LeO.none _
      | refine LeO.ite ?_ ?_
      | refine LeO.bind ?_ (fun _ => ?_)
set_option maxHeartbeats 8000000 in
set_option maxRecDepth 100000 in
theorem stopcockref07_Hash.calls (k : Nat) (A0 : Option Addr) (c0 : Nat) (l0 : List Int) (A1 : Option Addr) (c1 : Nat) (l1 : List Int) (r1 : Int) (r2 : Int) (w : World) (hr0 : Kd.C (Kd.int .u8) w A0 l0.length l0) (hc0 : l0.length ≤ c0) (hr1 : Kd.C (Kd.int .u8) w A1 l1.length l1) (hc1 : l1.length ≤ c1) (h : stopcockref07_Hash.f k l0 l1 = some (r1, r2)) :
    Calls Try.prog 16 #[.slice A0 l0.length c0, .slice A1 l1.length c1] w fun e w' => e = .returned (.tuple #[.int .u32 r1, .int .i64 r2]) ∧ Drawn0 w w' := by
  have HR0 := Aside0.mk hr0; have HC0 := Aside0.mk hc0; clear hr0 hc0; have HR1 := Aside0.mk hr1; have HC1 := Aside0.mk hc1; clear hr1 hc1; have H : (if (l0.length : Int) = 40 then (stopcockref07_Hash.j0 k l0 l1 (decide ((l1.length : Int) > 36))) else (stopcockref07_Hash.j0 k l0 l1 true)) = some (r1, r2) := h; clear h; have HC3 := Aside0.mk H; clear H
  go_enter Try.func16, Try.ntmps16
  go_upto_region 1 with (fail)
  go_cut [17] (fun v17 wc => ∃ (kq : Nat) (x17_2 : Bool), v17 = .bool x17_2 ∧ Aside0 (stopcockref07_Hash.j0 kq l0 l1 x17_2 = some (r1, r2)) ∧ Aside0 (kq ≤ k) ∧ Drawn0 w wc)
  case first =>
    have H := HC3.out; clear HC3
    by_cases c4 : (l0.length : Int) = 40
    · rw [if_pos c4] at H
      have c4b0 : ((l0.length : Int) == 40) = true := beq_iff_eq.mpr c4; have c4b1 : ((l0.length : Int) != 40) = false := bne_eq_false_iff_eq.mpr c4; clear c4
      (first | rw [c4b0] | (simp only [i64_w, i32_w]; rw [c4b0]) | skip)
      have H' := Aside0.mk H; clear H
      go_wp2
      go_meet
      case rel => exact ⟨_, (decide ((l1.length : Int) > 36)), (by first | rfl | (simp; done) | (simp [*]; done)), H', ⟨by first | omega | exact Nat.le_refl _⟩, by repeat (first | exact Drawn0.refl _ | apply Drawn0.step)⟩
    rw [if_neg c4] at H; have c4b0 : ((l0.length : Int) == 40) = false := beq_eq_false_iff_ne.mpr c4; have c4b1 : ((l0.length : Int) != 40) = true := bne_iff_ne.mpr c4
    (first | rw [c4b0] | (simp only [i64_w, i32_w]; rw [c4b0]) | skip)
    have H' := Aside0.mk H; clear H
    go_wp2
    go_meet
    case rel => exact ⟨_, (true), (by first | rfl | (simp; done) | (simp [*]; done)), H', ⟨by first | omega | exact Nat.le_refl _⟩, by repeat (first | exact Drawn0.refl _ | apply Drawn0.step)⟩
  case rest =>
    clear HC3
    try clear c1
    try clear p2
    try clear c4
    try clear c4b0
    try clear c4b1
    obtain ⟨kq, x17_2, rfl, HA, HJ2, ⟨mc2, rfl⟩⟩ := hcut
    cases kq with
    | zero => exact absurd HA.out (by simp [stopcockref07_Hash.j0])
    | succ kj2 =>
      have H := HA.out; clear HA
      simp only [stopcockref07_Hash.j0] at H
      by_cases c5 : x17_2 = true
      · subst c5
        have H1 : (some (0, 3)) = some (r1, r2) := by rw [if_pos rfl] at H; exact H
        clear H; have H := H1; clear H1
        simp only [Option.some.injEq, Prod.mk.injEq] at H
        obtain ⟨rfl, rfl⟩ := H
        go_wp2
        go_ret2
        exact ⟨by first | rfl | (simp; done) | (simp [*]; done), by repeat (first | exact Drawn0.refl _ | apply Drawn0.step)⟩
      replace c5 := Bool.eq_false_iff.mpr c5
      subst c5
      have H1 : (stopcockref07_Hash.l0 kj2 l0 l1 0 0) = some (r1, r2) := by rw [if_neg (show ¬ (false = true) by decide)] at H; exact H
      clear H; have H := H1; clear H1; have H' := Aside0.mk H; clear H
      go_wp2
      go_loopg [6, 7] kj2 (fun kq v6 v7 w' => ∃ (x6_2 : Int) (x7_2 : Int), v6 = .int .u32 x6_2 ∧ v7 = .int .i64 x7_2 ∧ Aside0 (stopcockref07_Hash.l0 kq l0 l1 x6_2 x7_2 = some (r1, r2)) ∧ Aside0 (kq ≤ kj2) ∧ Drawn0 w w')
      case atStart => exact ⟨(0), (0), (by first | rfl | (simp; done) | (simp [*]; done)), (by first | rfl | (simp; done) | (simp [*]; done)), H', ⟨Nat.le_refl _⟩, by repeat (first | exact Drawn0.refl _ | apply Drawn0.step)⟩
      case round =>
        clear H'
        try clear c1
        try clear c2
        try clear p2
        try clear c4
        try clear c4b0
        try clear c4b1
        try clear c5
        try clear p2
        obtain ⟨x6_2, x7_2, rfl, rfl, HA, HK2, ⟨m2, rfl⟩⟩ := hrel
        cases gk with
        | zero => exact absurd HA.out (by simp [stopcockref07_Hash.l0])
        | succ k2 =>
          have H := HA.out; clear HA
          simp only [stopcockref07_Hash.l0] at H
          by_cases c6 : x7_2 < (wrap64 (8 * (l1.length : Int)))
          · rw [if_pos c6] at H
            have c6b0 : decide (x7_2 < (wrap64 (8 * (l1.length : Int)))) = true := decide_eq_true c6; clear c6; replace H := Option.bind_eq_some_iff.mp H; obtain ⟨t120, A70, H⟩ := H; replace H : (if t120 = 0 then (stopcockref07_Hash.l0 k2 l0 l1 x6_2 (wrap64 (x7_2 + 1))) else (stopcockref07_Hash.l1 k2 l0 l1 x6_2 x7_2 0 0)) = some (r1, r2) := H; have A7 := Aside0.mk A70; clear A70
            by_cases c8 : t120 = 0
            · rw [if_pos c8] at H
              have c8b0 : (t120 == 0) = true := beq_iff_eq.mpr c8; have c8b1 : (t120 != 0) = false := bne_eq_false_iff_eq.mpr c8; clear c8; have H' := Aside0.mk H; clear H
              go_wp2_with (first | ((with_reducible refine gate_callee (f := 26) rfl ?_); refine goesL_ (some 27) rfl rfl Try.func26 (by kernel_rfl) rfl #[.slice A1 l1.length c1, .int .i64 x7_2] rfl (by (try simp only [List.map_toArray, List.map_cons, List.map_nil]); first | done | rfl | (simp only [List.length_drop, List.length_take]; rfl)) ?_; (with_reducible refine (stopcockref07_bit.calls _ _ l1 x7_2 t120 _ ?side1 ?side2 A7.out).mono ?_); (case side1 => repeat (first | exact HR1.out | (with_reducible refine Kd.C_alloc ?_ _) | (with_reducible refine Kd.C_drewN ?_ _) | (with_reducible refine Kd.C_drew ?_))); (case side2 => exact HC1.out); rintro e w' ⟨rfl, ⟨nd, rfl⟩⟩; refine ⟨_, rfl, ?_⟩))
              go_roundg k2
              case measure => have := HJ2.out; have := HK2.out; omega
              case rel => exact ⟨(x6_2), (wrap64 (x7_2 + 1)), (by first | rfl | (simp; done) | (simp [*]; done)), (by first | rfl | (simp; done) | (simp [*]; done)), H', ⟨by have := HJ2.out; have := HK2.out; omega⟩, by repeat (first | exact Drawn0.refl _ | apply Drawn0.step)⟩
            rw [if_neg c8] at H; have c8b0 : (t120 == 0) = false := beq_eq_false_iff_ne.mpr c8; have c8b1 : (t120 != 0) = true := bne_iff_ne.mpr c8; have H' := Aside0.mk H; clear H
            go_wp2_with (first | ((with_reducible refine gate_callee (f := 26) rfl ?_); refine goesL_ (some 27) rfl rfl Try.func26 (by kernel_rfl) rfl #[.slice A1 l1.length c1, .int .i64 x7_2] rfl (by (try simp only [List.map_toArray, List.map_cons, List.map_nil]); first | done | rfl | (simp only [List.length_drop, List.length_take]; rfl)) ?_; (with_reducible refine (stopcockref07_bit.calls _ _ l1 x7_2 t120 _ ?side1 ?side2 A7.out).mono ?_); (case side1 => repeat (first | exact HR1.out | (with_reducible refine Kd.C_alloc ?_ _) | (with_reducible refine Kd.C_drewN ?_ _) | (with_reducible refine Kd.C_drew ?_))); (case side2 => exact HC1.out); rintro e w' ⟨rfl, ⟨nd, rfl⟩⟩; refine ⟨_, rfl, ?_⟩))
            go_loopg [8, 9] k2 (fun kq v8 v9 w' => ∃ (x8_3 : Int) (x9_3 : Int), v8 = .int .u32 x8_3 ∧ v9 = .int .i64 x9_3 ∧ Aside0 (stopcockref07_Hash.l1 kq l0 l1 x6_2 x7_2 x8_3 x9_3 = some (r1, r2)) ∧ Aside0 (kq ≤ k2) ∧ Drawn0 w w')
            case atStart => exact ⟨(0), (0), (by first | rfl | (simp; done) | (simp [*]; done)), (by first | rfl | (simp; done) | (simp [*]; done)), H', ⟨Nat.le_refl _⟩, by repeat (first | exact Drawn0.refl _ | apply Drawn0.step)⟩
            case round =>
              clear H'
              try clear c1
              try clear c2
              try clear p2
              try clear c4
              try clear c4b0
              try clear c4b1
              try clear c5
              try clear c6
              try clear c6b0
              try clear p6
              try clear c8
              try clear c8b0
              try clear c8b1
              try clear p2
              obtain ⟨x8_3, x9_3, rfl, rfl, HA, HK3, ⟨m3, rfl⟩⟩ := hrel
              cases gk with
              | zero => exact absurd HA.out (by simp [stopcockref07_Hash.l1])
              | succ k3 =>
                have H := HA.out; clear HA
                simp only [stopcockref07_Hash.l1] at H
                by_cases c9 : x9_3 < 32
                · rw [if_pos c9] at H
                  have c9b0 : decide (x9_3 < 32) = true := decide_eq_true c9; clear c9; replace H := Option.bind_eq_some_iff.mp H; obtain ⟨t121, A100, H⟩ := H; replace H : (stopcockref07_Hash.l1 k3 l0 l1 x6_2 x7_2 (Go.bits .or .u32 ((x8_3 * 2) % 4294967296) t121) (wrap64 (x9_3 + 1))) = some (r1, r2) := H; have A10 := Aside0.mk A100; clear A100; have H' := Aside0.mk H; clear H
                  go_wp2_with (first | ((with_reducible refine gate_callee (f := 26) rfl ?_); refine goesL_ (some 39) rfl rfl Try.func26 (by kernel_rfl) rfl #[.slice A0 l0.length c0, .int .i64 (wrap64 (x7_2 + x9_3))] rfl (by (try simp only [List.map_toArray, List.map_cons, List.map_nil]); first | done | rfl | (simp only [List.length_drop, List.length_take]; rfl)) ?_; (with_reducible refine (stopcockref07_bit.calls _ _ l0 (wrap64 (x7_2 + x9_3)) t121 _ ?side1 ?side2 A10.out).mono ?_); (case side1 => repeat (first | exact HR0.out | (with_reducible refine Kd.C_alloc ?_ _) | (with_reducible refine Kd.C_drewN ?_ _) | (with_reducible refine Kd.C_drew ?_))); (case side2 => exact HC0.out); rintro e w' ⟨rfl, ⟨nd, rfl⟩⟩; refine ⟨_, rfl, ?_⟩))
                  go_roundg k3
                  case measure => have := HJ2.out; have := HK2.out; have := HK3.out; omega
                  case rel => exact ⟨(Go.bits .or .u32 ((x8_3 * 2) % 4294967296) t121), (wrap64 (x9_3 + 1)), (by first | rfl | (simp; done) | (simp [*]; done)), (by first | rfl | (simp; done) | (simp [*]; done)), H', ⟨by have := HJ2.out; have := HK2.out; have := HK3.out; omega⟩, by repeat (first | exact Drawn0.refl _ | apply Drawn0.step)⟩
                rw [if_neg c9] at H; have c9b0 : decide (x9_3 < 32) = false := decide_eq_false c9; clear c9; have H' := Aside0.mk H; clear H
                go_wp2
                go_roundg k3
                case measure => have := HJ2.out; have := HK2.out; have := HK3.out; omega
                case rel => exact ⟨(Go.bits .xor .u32 x6_2 x8_3), (wrap64 (x7_2 + 1)), (by first | rfl | (simp; done) | (simp [*]; done)), (by first | rfl | (simp; done) | (simp [*]; done)), H', ⟨by have := HJ2.out; have := HK2.out; have := HK3.out; omega⟩, by repeat (first | exact Drawn0.refl _ | apply Drawn0.step)⟩
          rw [if_neg c6] at H; have c6b0 : decide (x7_2 < (wrap64 (8 * (l1.length : Int)))) = false := decide_eq_false c6; clear c6
          simp only [Option.some.injEq, Prod.mk.injEq] at H
          obtain ⟨rfl, rfl⟩ := H
          go_wp2
          go_ret2
          exact ⟨by first | rfl | (simp; done) | (simp [*]; done), by repeat (first | exact Drawn0.refl _ | apply Drawn0.step)⟩

/-! ### stopcockref07_CheckTable: function 28 -/
def stopcockref07_CheckTable.l0 : Nat → List Int → Int → Option (Int)
  | 0, _, _ => none
  | k + 1, x0, x3 => if x3 < (x0.length : Int) then (if 0 ≤ x3 then (if (rd x0 x3) < 0 then (some 4) else (if (rd x0 x3) ≥ 16 then (some 4) else (stopcockref07_CheckTable.l0 k x0 (wrap64 (x3 + 1))))) else (none)) else (some 0)
def stopcockref07_CheckTable.f (k : Nat) (l0 : List Int) : Option (Int) := if (l0.length : Int) = 128 then (stopcockref07_CheckTable.l0 k l0 0) else (some 3)
theorem stopcockref07_CheckTable.mono_l : ∀ k, (∀ y0 y1, LeO (stopcockref07_CheckTable.l0 k y0 y1) (stopcockref07_CheckTable.l0 (k + 1) y0 y1))
  | 0 => fun _ _ r h => by simp [stopcockref07_CheckTable.l0] at h
  | k + 1 => by
    have ih0 := stopcockref07_CheckTable.mono_l k
    · intro y0 y1
      unfold stopcockref07_CheckTable.l0
      repeat' first
      | (with_reducible exact ih0 _ _)
      | (with_reducible exact LeO.refl _)
      | (with_reducible exact LeO.none _)
      | (with_reducible refine LeO.ite ?_ ?_)
      | (with_reducible refine LeO.bind ?_ (fun _ => ?_))
      | exact ih0 _ _
      | exact LeO.none _
      | refine LeO.ite ?_ ?_
      | refine LeO.bind ?_ (fun _ => ?_)
theorem stopcockref07_CheckTable.mono : ∀ a0 k, LeO (stopcockref07_CheckTable.f k a0) (stopcockref07_CheckTable.f (k + 1) a0) := by
  intro a0 k; have ih0 := stopcockref07_CheckTable.mono_l k
  unfold stopcockref07_CheckTable.f
  repeat' first
      | (with_reducible exact ih0 _ _)
      | (with_reducible exact LeO.refl _)
      | (with_reducible exact LeO.none _)
      | (with_reducible refine LeO.ite ?_ ?_)
      | (with_reducible refine LeO.bind ?_ (fun _ => ?_))
      | exact ih0 _ _
      | exact LeO.none _
      | refine LeO.ite ?_ ?_
      | refine LeO.bind ?_ (fun _ => ?_)
set_option maxHeartbeats 8000000 in
set_option maxRecDepth 100000 in
theorem stopcockref07_CheckTable.calls (k : Nat) (A0 : Option Addr) (c0 : Nat) (l0 : List Int) (r : Int) (w : World) (hr0 : Kd.C (Kd.int .i64) w A0 l0.length l0) (hc0 : l0.length ≤ c0) (h : stopcockref07_CheckTable.f k l0 = some r) :
    Calls Try.prog 28 #[.slice A0 l0.length c0] w fun e w' => e = .returned (.int .i64 r) ∧ Drawn0 w w' := by
  have HR0 := Aside0.mk hr0; have HC0 := Aside0.mk hc0; clear hr0 hc0; have H : (if (l0.length : Int) = 128 then (stopcockref07_CheckTable.l0 k l0 0) else (some 3)) = some r := h; clear h
  by_cases c2 : (l0.length : Int) = 128
  · rw [if_pos c2] at H
    have c2b0 : ((l0.length : Int) == 128) = true := beq_iff_eq.mpr c2; have c2b1 : ((l0.length : Int) != 128) = false := bne_eq_false_iff_eq.mpr c2; clear c2; have H' := Aside0.mk H; clear H
    go_enter Try.func28, Try.ntmps28
    go_wp2
    go_loopg [3] k (fun kq v3 w' => ∃ (x3_1 : Int), v3 = .int .i64 x3_1 ∧ Aside0 (stopcockref07_CheckTable.l0 kq l0 x3_1 = some r) ∧ Aside0 (kq ≤ k) ∧ Drawn0 w w')
    case atStart => exact ⟨(0), (by first | rfl | (simp; done) | (simp [*]; done)), H', ⟨Nat.le_refl _⟩, by repeat (first | exact Drawn0.refl _ | apply Drawn0.step)⟩
    case round =>
      clear H'
      try clear c2
      try clear c2b0
      try clear c2b1
      try clear p2
      obtain ⟨x3_1, rfl, HA, HK1, ⟨m1, rfl⟩⟩ := hrel
      cases gk with
      | zero => exact absurd HA.out (by simp [stopcockref07_CheckTable.l0])
      | succ k1 =>
        have H := HA.out; clear HA
        simp only [stopcockref07_CheckTable.l0] at H
        by_cases c3 : x3_1 < (l0.length : Int)
        · rw [if_pos c3] at H
          have c3b0 : decide (x3_1 < (l0.length : Int)) = true := decide_eq_true c3; clear c3
          by_cases c4 : 0 ≤ x3_1
          · rw [if_pos c4] at H
            have c4b0 : decide (0 ≤ x3_1) = true := decide_eq_true c4; clear c4
            by_cases c5 : (rd l0 x3_1) < 0
            · rw [if_pos c5] at H
              have c5b0 : decide ((rd l0 x3_1) < 0) = true := decide_eq_true c5; clear c5; obtain rfl := Option.some.inj H; have p122 : 0 ≤ (x3_1 : Int) := of_decide_eq_true (by first | (with_reducible assumption) | assumption); have q122 : x3_1 < (l0.length : Int) := of_decide_eq_true (by first | (with_reducible assumption) | assumption); obtain ⟨ad122, e122, hx122_0⟩ := Kd.at_int HR0.out x3_1 p122 q122
              cases e122
              replace p122 := eq_true p122; replace q122 := eq_true q122
              go_wp2
              go_ret
              exact ⟨by first | rfl | (simp; done) | (simp [*]; done), by repeat (first | exact Drawn0.refl _ | apply Drawn0.step)⟩
            rw [if_neg c5] at H; have c5b0 : decide ((rd l0 x3_1) < 0) = false := decide_eq_false c5; clear c5
            by_cases c6 : (rd l0 x3_1) ≥ 16
            · rw [if_pos c6] at H
              have c6b0 : decide (16 ≤ (rd l0 x3_1)) = true := decide_eq_true c6; clear c6; obtain rfl := Option.some.inj H; have p122 : 0 ≤ (x3_1 : Int) := of_decide_eq_true (by first | (with_reducible assumption) | assumption); have q122 : x3_1 < (l0.length : Int) := of_decide_eq_true (by first | (with_reducible assumption) | assumption); obtain ⟨ad122, e122, hx122_0⟩ := Kd.at_int HR0.out x3_1 p122 q122
              cases e122
              replace p122 := eq_true p122; replace q122 := eq_true q122; have p123 : 0 ≤ (x3_1 : Int) := of_decide_eq_true (by first | (with_reducible assumption) | assumption); have q123 : x3_1 < (l0.length : Int) := of_decide_eq_true (by first | (with_reducible assumption) | assumption); obtain ⟨ad123, e123, hx123_0⟩ := Kd.at_int HR0.out x3_1 p123 q123; obtain rfl : ad122 = ad123 := (by injection e123); replace p123 := eq_true p123; replace q123 := eq_true q123
              go_wp2
              go_ret
              exact ⟨by first | rfl | (simp; done) | (simp [*]; done), by repeat (first | exact Drawn0.refl _ | apply Drawn0.step)⟩
            rw [if_neg c6] at H; have c6b0 : decide (16 ≤ (rd l0 x3_1)) = false := decide_eq_false c6; clear c6; have H' := Aside0.mk H; clear H; have p122 : 0 ≤ (x3_1 : Int) := of_decide_eq_true (by first | (with_reducible assumption) | assumption); have q122 : x3_1 < (l0.length : Int) := of_decide_eq_true (by first | (with_reducible assumption) | assumption); obtain ⟨ad122, e122, hx122_0⟩ := Kd.at_int HR0.out x3_1 p122 q122
            cases e122
            replace p122 := eq_true p122; replace q122 := eq_true q122; have p123 : 0 ≤ (x3_1 : Int) := of_decide_eq_true (by first | (with_reducible assumption) | assumption); have q123 : x3_1 < (l0.length : Int) := of_decide_eq_true (by first | (with_reducible assumption) | assumption); obtain ⟨ad123, e123, hx123_0⟩ := Kd.at_int HR0.out x3_1 p123 q123; obtain rfl : ad122 = ad123 := (by injection e123); replace p123 := eq_true p123; replace q123 := eq_true q123
            go_wp2
            go_roundg k1
            case measure => have := HK1.out; omega
            case rel => exact ⟨(wrap64 (x3_1 + 1)), (by first | rfl | (simp; done) | (simp [*]; done)), H', ⟨by have := HK1.out; omega⟩, by repeat (first | exact Drawn0.refl _ | apply Drawn0.step)⟩
          rw [if_neg c4] at H; exact absurd H (by simp)
        rw [if_neg c3] at H; have c3b0 : decide (x3_1 < (l0.length : Int)) = false := decide_eq_false c3; clear c3; obtain rfl := Option.some.inj H
        go_wp2
        go_ret
        exact ⟨by first | rfl | (simp; done) | (simp [*]; done), by repeat (first | exact Drawn0.refl _ | apply Drawn0.step)⟩
  rw [if_neg c2] at H; have c2b0 : ((l0.length : Int) == 128) = false := beq_eq_false_iff_ne.mpr c2; have c2b1 : ((l0.length : Int) != 128) = true := bne_iff_ne.mpr c2; obtain rfl := Option.some.inj H
  go_enter Try.func28, Try.ntmps28
  go_wp2
  go_ret
  exact ⟨by first | rfl | (simp; done) | (simp [*]; done), by repeat (first | exact Drawn0.refl _ | apply Drawn0.step)⟩

/-! ### stopcockref07_Check: function 20 -/
def stopcockref07_Check.f (k : Nat) (l0 : List Int) (l1 : List Int) : Option (Int) := if (l0.length : Int) = 40 then ((stopcockref07_CheckTable.f k l1).bind fun t124 => (some t124)) else (some 3)
theorem stopcockref07_Check.mono : ∀ a0 a1 k, LeO (stopcockref07_Check.f k a0 a1) (stopcockref07_Check.f (k + 1) a0 a1) := by
  intro a0 a1 k
  unfold stopcockref07_Check.f
  repeat' first
      | (with_reducible exact stopcockref07_CheckTable.mono _ _)
      | (with_reducible exact LeO.refl _)
      | (with_reducible exact LeO.none _)
      | (with_reducible refine LeO.ite ?_ ?_)
      | (with_reducible refine LeO.bind ?_ (fun _ => ?_))
      | exact stopcockref07_CheckTable.mono _ _
      | exact LeO.none _
      | refine LeO.ite ?_ ?_
      | refine LeO.bind ?_ (fun _ => ?_)
set_option maxHeartbeats 8000000 in
set_option maxRecDepth 100000 in
theorem stopcockref07_Check.calls (k : Nat) (A0 : Option Addr) (c0 : Nat) (l0 : List Int) (A1 : Option Addr) (c1 : Nat) (l1 : List Int) (r : Int) (w : World) (hr0 : Kd.C (Kd.int .u8) w A0 l0.length l0) (hc0 : l0.length ≤ c0) (hr1 : Kd.C (Kd.int .i64) w A1 l1.length l1) (hc1 : l1.length ≤ c1) (h : stopcockref07_Check.f k l0 l1 = some r) :
    Calls Try.prog 20 #[.slice A0 l0.length c0, .slice A1 l1.length c1] w fun e w' => e = .returned (.int .i64 r) ∧ Drawn0 w w' := by
  have HR0 := Aside0.mk hr0; have HC0 := Aside0.mk hc0; clear hr0 hc0; have HR1 := Aside0.mk hr1; have HC1 := Aside0.mk hc1; clear hr1 hc1; have H : (if (l0.length : Int) = 40 then ((stopcockref07_CheckTable.f k l1).bind fun t124 => (some t124)) else (some 3)) = some r := h; clear h
  by_cases c3 : (l0.length : Int) = 40
  · rw [if_pos c3] at H
    have c3b0 : ((l0.length : Int) == 40) = true := beq_iff_eq.mpr c3; have c3b1 : ((l0.length : Int) != 40) = false := bne_eq_false_iff_eq.mpr c3; clear c3; replace H := Option.bind_eq_some_iff.mp H; obtain ⟨t124, A40, H⟩ := H; replace H : (some t124) = some r := H; have A4 := Aside0.mk A40; clear A40; obtain rfl := Option.some.inj H
    go_enter Try.func20, Try.ntmps20
    go_wp2_with (first | ((with_reducible refine gate_callee (f := 28) rfl ?_); refine goesL_ (some 9) rfl rfl Try.func28 (by kernel_rfl) rfl #[.slice A1 l1.length c1] rfl (by (try simp only [List.map_toArray, List.map_cons, List.map_nil]); first | done | rfl | (simp only [List.length_drop, List.length_take]; rfl)) ?_; (with_reducible refine (stopcockref07_CheckTable.calls k _ _ l1 t124 _ ?side1 ?side2 A4.out).mono ?_); (case side1 => repeat (first | exact HR1.out | (with_reducible refine Kd.C_alloc ?_ _) | (with_reducible refine Kd.C_drewN ?_ _) | (with_reducible refine Kd.C_drew ?_))); (case side2 => exact HC1.out); rintro e w' ⟨rfl, ⟨nd, rfl⟩⟩; refine ⟨_, rfl, ?_⟩))
    go_ret
    exact ⟨by first | rfl | (simp; done) | (simp [*]; done), by repeat (first | exact Drawn0.refl _ | apply Drawn0.step)⟩
  rw [if_neg c3] at H; have c3b0 : ((l0.length : Int) == 40) = false := beq_eq_false_iff_ne.mpr c3; have c3b1 : ((l0.length : Int) != 40) = true := bne_iff_ne.mpr c3; obtain rfl := Option.some.inj H
  go_enter Try.func20, Try.ntmps20
  go_wp2
  go_ret
  exact ⟨by first | rfl | (simp; done) | (simp [*]; done), by repeat (first | exact Drawn0.refl _ | apply Drawn0.step)⟩

/-! ### stopcockref01_Octets: function 29 -/
def stopcockref01_Octets.l0 : Nat → Int → List Int → Int → Option (List Int)
  | 0, _, _, _ => none
  | k + 1, x0, x5, x6 => if x6 ≥ 0 then (if 0 ≤ x6 then (if x6 < (x5.length : Int) then (stopcockref01_Octets.l0 k (x0 / 256) (x5.set (x6 : Int).toNat ((x0) % 256)) (wrap64 (x6 - 1))) else (none)) else (none)) else (some x5)
def stopcockref01_Octets.f (k : Nat) (a0 : Int) (a1 : Int) : Option (List Int) := if 0 ≤ a1 then (if (a1 : Int).toNat ≤ 281474976710656 then (stopcockref01_Octets.l0 k a0 (List.replicate (a1 : Int).toNat 0) (wrap64 (a1 - 1))) else (none)) else (none)
theorem stopcockref01_Octets.mono_l : ∀ k, (∀ y0 y1 y2, LeO (stopcockref01_Octets.l0 k y0 y1 y2) (stopcockref01_Octets.l0 (k + 1) y0 y1 y2))
  | 0 => fun _ _ _ r h => by simp [stopcockref01_Octets.l0] at h
  | k + 1 => by
    have ih0 := stopcockref01_Octets.mono_l k
    · intro y0 y1 y2
      unfold stopcockref01_Octets.l0
      repeat' first
      | (with_reducible exact ih0 _ _ _)
      | (with_reducible exact LeO.refl _)
      | (with_reducible exact LeO.none _)
      | (with_reducible refine LeO.ite ?_ ?_)
      | (with_reducible refine LeO.bind ?_ (fun _ => ?_))
      | exact ih0 _ _ _
      | exact LeO.none _
      | refine LeO.ite ?_ ?_
      | refine LeO.bind ?_ (fun _ => ?_)
theorem stopcockref01_Octets.mono : ∀ a0 a1 k, LeO (stopcockref01_Octets.f k a0 a1) (stopcockref01_Octets.f (k + 1) a0 a1) := by
  intro a0 a1 k; have ih0 := stopcockref01_Octets.mono_l k
  unfold stopcockref01_Octets.f
  repeat' first
      | (with_reducible exact ih0 _ _ _)
      | (with_reducible exact LeO.refl _)
      | (with_reducible exact LeO.none _)
      | (with_reducible refine LeO.ite ?_ ?_)
      | (with_reducible refine LeO.bind ?_ (fun _ => ?_))
      | exact ih0 _ _ _
      | exact LeO.none _
      | refine LeO.ite ?_ ?_
      | refine LeO.bind ?_ (fun _ => ?_)
set_option maxHeartbeats 8000000 in
set_option maxRecDepth 100000 in
theorem stopcockref01_Octets.calls (k : Nat) (a0 : Int) (a1 : Int) (r : List Int) (w : World) (h : stopcockref01_Octets.f k a0 a1 = some r) :
    Calls Try.prog 29 #[.int .u64 a0, .int .i64 a1] w fun e w' => ∃ v0_ : Value, e = .returned (v0_) ∧ Kd.R (Kd.int .u8) 5 w' w.heap.size (fun _ => True) v0_ r ∧ Below w.heap.size w w' := by
  have HB := Aside0.mk (Below.refl w.heap.size w); have H : (if 0 ≤ a1 then (if (a1 : Int).toNat ≤ 281474976710656 then (stopcockref01_Octets.l0 k a0 (List.replicate (a1 : Int).toNat 0) (wrap64 (a1 - 1))) else (none)) else (none)) = some r := h; clear h
  by_cases c3 : 0 ≤ a1
  · rw [if_pos c3] at H
    have c3b0 := eq_true c3; have c3b1 : decide (0 ≤ a1) = true := decide_eq_true c3; clear c3
    by_cases c4 : (a1 : Int).toNat ≤ 281474976710656
    · rw [if_pos c4] at H
      have c4b0 := eq_true c4; have c4b1 : decide ((a1 : Int).toNat ≤ 281474976710656) = true := decide_eq_true c4; clear c4; obtain ⟨y125, hy125⟩ : ∃ y_ : List Int, y_ = (List.replicate (a1 : Int).toNat 0) := ⟨_, rfl⟩; replace H : (stopcockref01_Octets.l0 k a0 y125 (wrap64 (a1 - 1))) = some r := by first | (rw [hy125]; with_reducible exact H) | (have H2_ := (Option.bind_some _ _).symm.trans H; rw [hy125]; with_reducible exact H2_) | (have H2_ := (Option.bind_some _ _).symm.trans H; with_reducible exact H2_) | with_reducible exact H | (rw [hy125]; exact H) | exact H
      have Ny125 := Aside0.mk hy125; clear hy125; have H' := Aside0.mk H; clear H
      go_enter Try.func29, Try.ntmps29
      go_wp2_with (first | ((with_reducible refine gate_dst (N := 8) rfl ?_); refine Kd.R_make (Kd.int .u8) _ 5 rfl (N := 8) rfl 22 _ _ rfl a1 rfl rfl Try.underlying22 (.int .u8 0) 1 info5 rfl (by decide) (by omega) 0 (ok := fun _ => True) (okp := fun _ => True) rfl (fun _ hk => hk) trivial (of_decide_eq_true (by first | (with_reducible assumption) | assumption)) (Nat.le_trans (Nat.mul_le_mul_right _ (of_decide_eq_true (by first | (with_reducible assumption) | assumption) : a1.toNat ≤ 281474976710656)) (by omega)) (Below.refl _ _) (Nat.le_refl _) ?_; intro v126 w5 ho6 hb hg_ hnew_; clear hg_ hnew_; (first | rw [← Ny125.out] at ho6 | (simp only [Int.reduceToNat] at ho6; rw [← Ny125.out] at ho6)); have n0_ := Aside0.mk (Kd.R_lower ho6 (below_size (bel0 HB.out))); have n1_ := Aside0.mk (below_step (bel0 HB.out) hb); clear HB; have HO127 := n0_; have HB := n1_; clear n0_ n1_; clear hb ho6))
      go_loopg [0, 6] k (fun kq v0 v6 w' => ∃ (x0_1 : Int) (x5_1 : List Int) (x6_1 : Int), v0 = .int .u64 x0_1 ∧ v6 = .int .i64 x6_1 ∧ Aside0 (stopcockref01_Octets.l0 kq x0_1 x5_1 x6_1 = some r) ∧ Aside0 (kq ≤ k) ∧ Aside0 (Kd.R (Kd.int .u8) 5 w' w.heap.size (fun _ => True) v126 x5_1) ∧ Aside0 (Below w.heap.size w w'))
      case atStart => exact ⟨(a0), (y125), (wrap64 (a1 - 1)), (by first | rfl | (simp; done) | (simp [*]; done)), (by first | rfl | (simp; done) | (simp [*]; done)), H', ⟨Nat.le_refl _⟩, ⟨by (with_reducible repeat (first | apply Kd.R_alloc | apply Kd.R_drewN | apply Kd.R_drew)); exact HO127.out⟩, ⟨by exact bel0 HB.out⟩⟩
      case round =>
        clear H'
        try clear c2
        try clear p2
        try clear c3
        try clear c3b0
        try clear c3b1
        try clear c4
        try clear c4b0
        try clear c4b1
        try clear p6
        obtain ⟨x0_1, x5_1, x6_1, rfl, rfl, HA, HK1, HO_5, HB⟩ := hrel
        cases gk with
        | zero => exact absurd HA.out (by simp [stopcockref01_Octets.l0])
        | succ k1 =>
          have H := HA.out; clear HA
          simp only [stopcockref01_Octets.l0] at H
          by_cases c7 : x6_1 ≥ 0
          · rw [if_pos c7] at H
            have c7b0 : decide (0 ≤ x6_1) = true := decide_eq_true c7; clear c7
            by_cases c8 : 0 ≤ x6_1
            · rw [if_pos c8] at H
              have c8b0 : decide (0 ≤ x6_1) = true := decide_eq_true c8; clear c8
              by_cases c9 : x6_1 < (x5_1.length : Int)
              · rw [if_pos c9] at H
                have c9b0 : decide (x6_1 < (x5_1.length : Int)) = true := decide_eq_true c9; clear c9; obtain ⟨y128, hy128⟩ : ∃ y_ : List Int, y_ = (x5_1.set (x6_1 : Int).toNat ((x0_1) % 256)) := ⟨_, rfl⟩; replace H : (stopcockref01_Octets.l0 k1 (x0_1 / 256) y128 (wrap64 (x6_1 - 1))) = some r := by first | (rw [hy128]; with_reducible exact H) | (have H2_ := (Option.bind_some _ _).symm.trans H; rw [hy128]; with_reducible exact H2_) | (have H2_ := (Option.bind_some _ _).symm.trans H; with_reducible exact H2_) | with_reducible exact H | (rw [hy128]; exact H) | exact H
                have Ny128 := Aside0.mk hy128; clear hy128; have H' := Aside0.mk H; clear H; have p10 : 0 ≤ (x6_1 : Int) := of_decide_eq_true (by first | (with_reducible assumption) | assumption); have q10 : (x6_1 : Int) < ((x5_1.length : Int) : Int) := of_decide_eq_true (by first | (with_reducible assumption) | assumption); obtain ⟨go10, co10, eo10, gb10, gl10, cl10, HG10⟩ := Kd.R_form HO_5.out (by omega)
                (first | cases eo10 | (injection eo10 with ea_ en_ ec_; (first | subst ea_ | (injection ea_ with ea_; subst ea_)); subst ec_; clear en_))
                have GB10 := Aside0.mk gb10; have GG10 := Aside0.mk HG10; clear gb10 gl10 HG10; obtain ⟨hx10_0, hf10_0⟩ := Kd.R_celln 0 HO_5.out (x6_1 : Int) p10 q10; replace p10 := eq_true p10; replace q10 := eq_true q10; have HP11 := Kd.R_putg HO_5.out (x6_1 : Int) ((x0_1) % 256)
                go_wp2_with (first | ((with_reducible refine gate_store (t := 5) (p := 19) rfl ?_); refine store_event (t := 5) (p := 19) (v := ?vo_w12) (w1 := (wr.setCell ⟨go10, (x6_1 : Int).toNat, none⟩ (.int .u8 ((x0_1) % 256)))) ?hg ?ho ?hn ?hr ?_; (case ho => rfl); (case hg => rfl); (case hn => rfl); (case hr => first | (go_simp; done) | (go_simp; rfl)); intro w12 hw; have hg : wr.grownBy w12 (some go10) := (by rw [hw]; exact HP11.2); have hp_ : Kd.R (Kd.int .u8) 5 w12 w.heap.size (fun _ => True) (.slice (some ⟨go10, 0, none⟩) x5_1.length co10) y128 := (by rw [hw, Ny128.out]; exact HP11.1); clear HP11; have n0_ := Aside0.mk (hp_); have n1_ := Aside0.mk ((by rw [hw]; exact below_set (HB.out) GB10.out : Below w.heap.size w w12)); clear HO_5; clear HB; have HO_5 := n0_; have HB := n1_; clear n0_ n1_; clear hg hw hp_))
                go_roundg k1
                case measure => have := HK1.out; omega
                case rel => exact ⟨(x0_1 / 256), (y128), (wrap64 (x6_1 - 1)), (by first | rfl | (simp; done) | (simp [*]; done)), (by first | rfl | (simp; done) | (simp [*]; done)), H', ⟨by have := HK1.out; omega⟩, ⟨by (with_reducible repeat (first | apply Kd.R_alloc | apply Kd.R_drewN | apply Kd.R_drew)); exact HO_5.out⟩, ⟨by exact bel0 HB.out⟩⟩
              rw [if_neg c9] at H; exact absurd H (by simp)
            rw [if_neg c8] at H; exact absurd H (by simp)
          rw [if_neg c7] at H; have c7b0 : decide (0 ≤ x6_1) = false := decide_eq_false c7; clear c7; obtain rfl := Option.some.inj H
          go_wp2
          go_ret
          exact ⟨_, by first | rfl | (simp [errW_none, errW_some] <;> rfl) | (simp [*, errW_none, errW_some] <;> rfl), by (with_reducible repeat (first | apply Kd.R_alloc | apply Kd.R_drewN | apply Kd.R_drew)); exact HO_5.out, by exact bel0 HB.out⟩
    rw [if_neg c4] at H; exact absurd H (by simp)
  rw [if_neg c3] at H; exact absurd H (by simp)

/-! ### stopcockref07_Tuple: function 21 -/
def stopcockref07_Tuple.f (k : Nat) (a0 : Int) (a1 : Int) (a2 : Int) (a3 : Int) : Option (List Int) := (stopcockref01_Octets.f k (IntKind.u64.wrap (a0)) 4).bind fun t129 => ((stopcockref01_Octets.f k (IntKind.u64.wrap (a1)) 4).bind fun t132 => (if t129.length + t132.length < 140737488355328 then ((some (t129 ++ t132 : List Int)).bind fun y135 => ((stopcockref01_Octets.f k (IntKind.u64.wrap (a2)) 2).bind fun t138 => (if y135.length + t138.length < 140737488355328 then ((some (y135 ++ t138 : List Int)).bind fun y141 => ((stopcockref01_Octets.f k (IntKind.u64.wrap (a3)) 2).bind fun t144 => (if y141.length + t144.length < 140737488355328 then (some (y141 ++ t144)) else (none)))) else (none)))) else (none)))
theorem stopcockref07_Tuple.mono : ∀ a0 a1 a2 a3 k, LeO (stopcockref07_Tuple.f k a0 a1 a2 a3) (stopcockref07_Tuple.f (k + 1) a0 a1 a2 a3) := by
  intro a0 a1 a2 a3 k
  unfold stopcockref07_Tuple.f
  repeat' first
      | (with_reducible exact stopcockref01_Octets.mono _ _ _)
      | (with_reducible exact LeO.refl _)
      | (with_reducible exact LeO.none _)
      | (with_reducible refine LeO.ite ?_ ?_)
      | (with_reducible refine LeO.bind ?_ (fun _ => ?_))
      | exact stopcockref01_Octets.mono _ _ _
      | exact LeO.none _
      | refine LeO.ite ?_ ?_
      | refine LeO.bind ?_ (fun _ => ?_)
set_option maxHeartbeats 8000000 in
set_option maxRecDepth 100000 in
theorem stopcockref07_Tuple.calls (k : Nat) (a0 : Int) (a1 : Int) (a2 : Int) (a3 : Int) (r : List Int) (w : World) (h : stopcockref07_Tuple.f k a0 a1 a2 a3 = some r) :
    Calls Try.prog 21 #[.int .u32 a0, .int .u32 a1, .int .u16 a2, .int .u16 a3] w fun e w' => ∃ v0_ : Value, e = .returned (v0_) ∧ Kd.R (Kd.int .u8) 5 w' w.heap.size (fun _ => True) v0_ r ∧ Below w.heap.size w w' := by
  have HB := Aside0.mk (Below.refl w.heap.size w); have H : ((stopcockref01_Octets.f k (IntKind.u64.wrap (a0)) 4).bind fun t129 => ((stopcockref01_Octets.f k (IntKind.u64.wrap (a1)) 4).bind fun t132 => (if t129.length + t132.length < 140737488355328 then ((some (t129 ++ t132 : List Int)).bind fun y135 => ((stopcockref01_Octets.f k (IntKind.u64.wrap (a2)) 2).bind fun t138 => (if y135.length + t138.length < 140737488355328 then ((some (y135 ++ t138 : List Int)).bind fun y141 => ((stopcockref01_Octets.f k (IntKind.u64.wrap (a3)) 2).bind fun t144 => (if y141.length + t144.length < 140737488355328 then (some (y141 ++ t144)) else (none)))) else (none)))) else (none)))) = some r := h; clear h; replace H := Option.bind_eq_some_iff.mp H; obtain ⟨t129, A50, H⟩ := H; replace H : ((stopcockref01_Octets.f k (IntKind.u64.wrap (a1)) 4).bind fun t132 => (if t129.length + t132.length < 140737488355328 then ((some (t129 ++ t132 : List Int)).bind fun y135 => ((stopcockref01_Octets.f k (IntKind.u64.wrap (a2)) 2).bind fun t138 => (if y135.length + t138.length < 140737488355328 then ((some (y135 ++ t138 : List Int)).bind fun y141 => ((stopcockref01_Octets.f k (IntKind.u64.wrap (a3)) 2).bind fun t144 => (if y141.length + t144.length < 140737488355328 then (some (y141 ++ t144)) else (none)))) else (none)))) else (none))) = some r := H; have A5 := Aside0.mk A50; clear A50; replace H := Option.bind_eq_some_iff.mp H; obtain ⟨t132, A60, H⟩ := H; replace H : (if t129.length + t132.length < 140737488355328 then ((some (t129 ++ t132 : List Int)).bind fun y135 => ((stopcockref01_Octets.f k (IntKind.u64.wrap (a2)) 2).bind fun t138 => (if y135.length + t138.length < 140737488355328 then ((some (y135 ++ t138 : List Int)).bind fun y141 => ((stopcockref01_Octets.f k (IntKind.u64.wrap (a3)) 2).bind fun t144 => (if y141.length + t144.length < 140737488355328 then (some (y141 ++ t144)) else (none)))) else (none)))) else (none)) = some r := H
  have A6 := Aside0.mk A60; clear A60
  by_cases c7 : t129.length + t132.length < 140737488355328
  · rw [if_pos c7] at H
    have LMc7 := Aside0.mk c7; clear c7; obtain ⟨y135, hy135⟩ : ∃ y_ : List Int, y_ = (t129 ++ t132) := ⟨_, rfl⟩; replace H : ((stopcockref01_Octets.f k (IntKind.u64.wrap (a2)) 2).bind fun t138 => (if y135.length + t138.length < 140737488355328 then ((some (y135 ++ t138 : List Int)).bind fun y141 => ((stopcockref01_Octets.f k (IntKind.u64.wrap (a3)) 2).bind fun t144 => (if y141.length + t144.length < 140737488355328 then (some (y141 ++ t144)) else (none)))) else (none))) = some r := by first | (rw [hy135]; with_reducible exact H) | (have H2_ := (Option.bind_some _ _).symm.trans H; rw [hy135]; with_reducible exact H2_) | (have H2_ := (Option.bind_some _ _).symm.trans H; with_reducible exact H2_) | with_reducible exact H | (rw [hy135]; exact H) | exact H
    have Ny135 := Aside0.mk hy135; clear hy135; replace H := Option.bind_eq_some_iff.mp H; obtain ⟨t138, A80, H⟩ := H; replace H : (if y135.length + t138.length < 140737488355328 then ((some (y135 ++ t138 : List Int)).bind fun y141 => ((stopcockref01_Octets.f k (IntKind.u64.wrap (a3)) 2).bind fun t144 => (if y141.length + t144.length < 140737488355328 then (some (y141 ++ t144)) else (none)))) else (none)) = some r := H; have A8 := Aside0.mk A80; clear A80
    by_cases c9 : y135.length + t138.length < 140737488355328
    · rw [if_pos c9] at H
      have LMc9 := Aside0.mk c9; clear c9; obtain ⟨y141, hy141⟩ : ∃ y_ : List Int, y_ = (y135 ++ t138) := ⟨_, rfl⟩; replace H : ((stopcockref01_Octets.f k (IntKind.u64.wrap (a3)) 2).bind fun t144 => (if y141.length + t144.length < 140737488355328 then (some (y141 ++ t144)) else (none))) = some r := by first | (rw [hy141]; with_reducible exact H) | (have H2_ := (Option.bind_some _ _).symm.trans H; rw [hy141]; with_reducible exact H2_) | (have H2_ := (Option.bind_some _ _).symm.trans H; with_reducible exact H2_) | with_reducible exact H | (rw [hy141]; exact H) | exact H
      have Ny141 := Aside0.mk hy141; clear hy141; replace H := Option.bind_eq_some_iff.mp H; obtain ⟨t144, A100, H⟩ := H; replace H : (if y141.length + t144.length < 140737488355328 then (some (y141 ++ t144)) else (none)) = some r := H; have A10 := Aside0.mk A100; clear A100
      by_cases c11 : y141.length + t144.length < 140737488355328
      · rw [if_pos c11] at H
        have LMc11 := Aside0.mk c11; clear c11; obtain ⟨y147, hy147⟩ : ∃ y_ : List Int, y_ = (y141 ++ t144) := ⟨_, rfl⟩; replace H : (some y147) = some r := by first | (rw [hy147]; with_reducible exact H) | (have H2_ := (Option.bind_some _ _).symm.trans H; rw [hy147]; with_reducible exact H2_) | (have H2_ := (Option.bind_some _ _).symm.trans H; with_reducible exact H2_) | with_reducible exact H | (rw [hy147]; exact H) | exact H
        have Ny147 := Aside0.mk hy147; clear hy147; obtain rfl := Option.some.inj H
        go_enter Try.func21, Try.ntmps21
        go_wp2_with (first | ((with_reducible refine gate_callee (f := 29) rfl ?_); refine goesL_ (some 12) rfl rfl Try.func29 (by kernel_rfl) rfl #[.int .u64 (IntKind.u64.wrap (a0)), .int .i64 4] rfl (by (try simp only [List.map_toArray, List.map_cons, List.map_nil]); first | done | rfl | (simp only [List.length_drop, List.length_take]; rfl)) ?_; (with_reducible refine (stopcockref01_Octets.calls k (IntKind.u64.wrap (a0)) 4 t129 _ A5.out).mono ?_); rintro e w12 ⟨v130, rfl, ho0, hb⟩; refine ⟨_, rfl, ?_⟩; have n0_ := Aside0.mk (Kd.R_lower ho0 (below_size (bel0 HB.out))); have n1_ := Aside0.mk (below_step (bel0 HB.out) hb); clear HB; have HO131 := n0_; have HB := n1_; clear n0_ n1_; (try clear hb); (try clear hb2); (try clear hk); (try clear hi); (try clear ho0)) | ((with_reducible refine gate_callee (f := 29) rfl ?_); refine goesL_ (some 15) rfl rfl Try.func29 (by kernel_rfl) rfl #[.int .u64 (IntKind.u64.wrap (a1)), .int .i64 4] rfl (by (try simp only [List.map_toArray, List.map_cons, List.map_nil]); first | done | rfl | (simp only [List.length_drop, List.length_take]; rfl)) ?_; (with_reducible refine (stopcockref01_Octets.calls k (IntKind.u64.wrap (a1)) 4 t132 _ A6.out).mono ?_); rintro e w13 ⟨v133, rfl, ho0, hb⟩; refine ⟨_, rfl, ?_⟩; have n0_ := Aside0.mk (Kd.R_elder' (by (with_reducible repeat (first | apply Kd.R_alloc | apply Kd.R_drewN | apply Kd.R_drew)); exact HO131.out) (Kd.R_base ho0) hb); have n1_ := Aside0.mk (Kd.R_lower (Kd.R_new' ho0 (Kd.R_lt (by (with_reducible repeat (first | apply Kd.R_alloc | apply Kd.R_drewN | apply Kd.R_drew)); exact HO131.out))) (below_size (bel0 HB.out))); have n2_ := Aside0.mk (below_step (bel0 HB.out) hb); clear HO131; clear HB; have HO131 := n0_; have HO134 := n1_; have HB := n2_; clear n0_ n1_ n2_; (try clear hb); (try clear hb2); (try clear hk); (try clear hi); (try clear ho0); obtain ⟨Ao15, co15, eo15⟩ := Kd.R_slice HO134.out; subst eo15) | ((with_reducible refine gate_builtin (b := .append) (xs := #[.tmp 12, .tmp 15]) rfl ?_); at_builtin; refine Kd.R_append_rows (Kd.int .u8) (w0 := w) w.heap.size rfl (.tmp 12) (.tmp 15) 22 5 (.int .u8 0) 1 rfl Try.underlying22 info5 rfl (by decide) (by omega) v130 t129 t132 _ _ _ (fun k_ => some k_ ≠ (.slice Ao15 t132.length co15 : Value).ownBlock) (fun _ => False) rfl rfl ?aO ?aR (fun _ _ h => h) (fun _ h => h.elim) ?aF ?aB ?aS ?aL ?_; (case aR => repeat (first | exact (Kd.R_reads' HO134.out).2.2 | (with_reducible refine Kd.C_alloc ?_ _) | (with_reducible refine Kd.C_drewN ?_ _) | (with_reducible refine Kd.C_drew ?_))); (case aB => exact (bel0 HB.out)); (case aF => exact (fun k_ hk => Kd.fresh' (Kd.R_lt (by (with_reducible repeat (first | apply Kd.R_alloc | apply Kd.R_drewN | apply Kd.R_drew)); exact HO134.out)) k_ hk)); (case aO => exact (by (with_reducible repeat (first | apply Kd.R_alloc | apply Kd.R_drewN | apply Kd.R_drew)); exact Kd.R_mono HO131.out (fun _ hk => hk.2))); (case aS => exact (below_size (bel0 HB.out))); (case aL => have := LMc7.out; omega); intro v136 w14 ho hb hg hat; rw [← Ny135.out] at ho; have n0_ := Aside0.mk (Kd.R_after (ok := (fun _ => True)) (by (with_reducible repeat (first | apply Kd.R_alloc | apply Kd.R_drewN | apply Kd.R_drew)); exact HO134.out) hg hat); have n1_ := Aside0.mk (hb); have n2_ := Aside0.mk (ho); clear HO134; clear HB; clear HO131; have HO134 := n0_; have HB := n1_; have HO137 := n2_; clear n0_ n1_ n2_; clear ho hb hg hat) | ((with_reducible refine gate_callee (f := 29) rfl ?_); refine goesL_ (some 20) rfl rfl Try.func29 (by kernel_rfl) rfl #[.int .u64 (IntKind.u64.wrap (a2)), .int .i64 2] rfl (by (try simp only [List.map_toArray, List.map_cons, List.map_nil]); first | done | rfl | (simp only [List.length_drop, List.length_take]; rfl)) ?_; (with_reducible refine (stopcockref01_Octets.calls k (IntKind.u64.wrap (a2)) 2 t138 _ A8.out).mono ?_); rintro e w16 ⟨v139, rfl, ho0, hb⟩; refine ⟨_, rfl, ?_⟩; have n0_ := Aside0.mk (Kd.R_elder' (by (with_reducible repeat (first | apply Kd.R_alloc | apply Kd.R_drewN | apply Kd.R_drew)); exact HO134.out) (Kd.R_base ho0) hb); have n1_ := Aside0.mk (Kd.R_elder' (by (with_reducible repeat (first | apply Kd.R_alloc | apply Kd.R_drewN | apply Kd.R_drew)); exact HO137.out) (Kd.R_base ho0) hb); have n2_ := Aside0.mk (Kd.R_lower (Kd.R_new' (Kd.R_new' ho0 (Kd.R_lt (by (with_reducible repeat (first | apply Kd.R_alloc | apply Kd.R_drewN | apply Kd.R_drew)); exact HO134.out))) (Kd.R_lt (by (with_reducible repeat (first | apply Kd.R_alloc | apply Kd.R_drewN | apply Kd.R_drew)); exact HO137.out))) (below_size (bel0 HB.out))); have n3_ := Aside0.mk (below_step (bel0 HB.out) hb); clear HO134; clear HO137; clear HB; have HO134 := n0_; have HO137 := n1_; have HO140 := n2_; have HB := n3_; clear n0_ n1_ n2_ n3_; (try clear hb); (try clear hb2); (try clear hk); (try clear hi); (try clear ho0); obtain ⟨Ao18, co18, eo18⟩ := Kd.R_slice HO140.out; subst eo18) | ((with_reducible refine gate_builtin (b := .append) (xs := #[.tmp 17, .tmp 20]) rfl ?_); at_builtin; refine Kd.R_append_rows (Kd.int .u8) (w0 := w) w.heap.size rfl (.tmp 17) (.tmp 20) 22 5 (.int .u8 0) 1 rfl Try.underlying22 info5 rfl (by decide) (by omega) v136 y135 t138 _ _ _ (fun k_ => some k_ ≠ (.slice Ao15 t132.length co15 : Value).ownBlock ∧ some k_ ≠ (.slice Ao18 t138.length co18 : Value).ownBlock) (fun _ => False) rfl rfl ?aO ?aR (fun _ _ h => h) (fun _ h => h.elim) ?aF ?aB ?aS ?aL ?_; (case aR => repeat (first | exact (Kd.R_reads' HO140.out).2.2 | (with_reducible refine Kd.C_alloc ?_ _) | (with_reducible refine Kd.C_drewN ?_ _) | (with_reducible refine Kd.C_drew ?_))); (case aB => exact (bel0 HB.out)); (case aF => exact (fun k_ hk => ⟨Kd.fresh' (Kd.R_lt (by (with_reducible repeat (first | apply Kd.R_alloc | apply Kd.R_drewN | apply Kd.R_drew)); exact HO134.out)) k_ hk, Kd.fresh' (Kd.R_lt (by (with_reducible repeat (first | apply Kd.R_alloc | apply Kd.R_drewN | apply Kd.R_drew)); exact HO140.out)) k_ hk⟩)); (case aO => exact (by (with_reducible repeat (first | apply Kd.R_alloc | apply Kd.R_drewN | apply Kd.R_drew)); exact HO137.out)); (case aS => exact (below_size (bel0 HB.out))); (case aL => have := LMc9.out; omega); intro v142 w17 ho hb hg hat; rw [← Ny141.out] at ho; have n0_ := Aside0.mk (Kd.R_after (ok := (fun k_ => some k_ ≠ (.slice Ao18 t138.length co18 : Value).ownBlock)) (by (with_reducible repeat (first | apply Kd.R_alloc | apply Kd.R_drewN | apply Kd.R_drew)); exact Kd.R_mono HO134.out (fun _ hk => ⟨hk.2, hk.1.2⟩)) hg hat); have n1_ := Aside0.mk (Kd.R_after (ok := (fun k_ => some k_ ≠ (.slice Ao15 t132.length co15 : Value).ownBlock)) (by (with_reducible repeat (first | apply Kd.R_alloc | apply Kd.R_drewN | apply Kd.R_drew)); exact Kd.R_mono HO140.out (fun _ hk => ⟨hk.1.2, hk.2⟩)) hg hat); have n2_ := Aside0.mk (hb); have n3_ := Aside0.mk (ho); clear HO134; clear HO140; clear HB; clear HO137; have HO134 := n0_; have HO140 := n1_; have HB := n2_; have HO143 := n3_; clear n0_ n1_ n2_ n3_; clear ho hb hg hat) | ((with_reducible refine gate_callee (f := 29) rfl ?_); refine goesL_ (some 25) rfl rfl Try.func29 (by kernel_rfl) rfl #[.int .u64 (IntKind.u64.wrap (a3)), .int .i64 2] rfl (by (try simp only [List.map_toArray, List.map_cons, List.map_nil]); first | done | rfl | (simp only [List.length_drop, List.length_take]; rfl)) ?_; (with_reducible refine (stopcockref01_Octets.calls k (IntKind.u64.wrap (a3)) 2 t144 _ A10.out).mono ?_); rintro e w19 ⟨v145, rfl, ho0, hb⟩; refine ⟨_, rfl, ?_⟩; have n0_ := Aside0.mk (Kd.R_elder' (by (with_reducible repeat (first | apply Kd.R_alloc | apply Kd.R_drewN | apply Kd.R_drew)); exact HO134.out) (Kd.R_base ho0) hb); have n1_ := Aside0.mk (Kd.R_elder' (by (with_reducible repeat (first | apply Kd.R_alloc | apply Kd.R_drewN | apply Kd.R_drew)); exact HO140.out) (Kd.R_base ho0) hb); have n2_ := Aside0.mk (Kd.R_elder' (by (with_reducible repeat (first | apply Kd.R_alloc | apply Kd.R_drewN | apply Kd.R_drew)); exact HO143.out) (Kd.R_base ho0) hb); have n3_ := Aside0.mk (Kd.R_lower (Kd.R_new' (Kd.R_new' (Kd.R_new' ho0 (Kd.R_lt (by (with_reducible repeat (first | apply Kd.R_alloc | apply Kd.R_drewN | apply Kd.R_drew)); exact HO134.out))) (Kd.R_lt (by (with_reducible repeat (first | apply Kd.R_alloc | apply Kd.R_drewN | apply Kd.R_drew)); exact HO140.out))) (Kd.R_lt (by (with_reducible repeat (first | apply Kd.R_alloc | apply Kd.R_drewN | apply Kd.R_drew)); exact HO143.out))) (below_size (bel0 HB.out))); have n4_ := Aside0.mk (below_step (bel0 HB.out) hb); clear HO134; clear HO140; clear HO143; clear HB; have HO134 := n0_; have HO140 := n1_; have HO143 := n2_; have HO146 := n3_; have HB := n4_; clear n0_ n1_ n2_ n3_ n4_; (try clear hb); (try clear hb2); (try clear hk); (try clear hi); (try clear ho0); obtain ⟨Ao21, co21, eo21⟩ := Kd.R_slice HO146.out; subst eo21) | ((with_reducible refine gate_builtin (b := .append) (xs := #[.tmp 22, .tmp 25]) rfl ?_); at_builtin; refine Kd.R_append_rows (Kd.int .u8) (w0 := w) w.heap.size rfl (.tmp 22) (.tmp 25) 22 5 (.int .u8 0) 1 rfl Try.underlying22 info5 rfl (by decide) (by omega) v142 y141 t144 _ _ _ (fun k_ => some k_ ≠ (.slice Ao15 t132.length co15 : Value).ownBlock ∧ some k_ ≠ (.slice Ao18 t138.length co18 : Value).ownBlock ∧ some k_ ≠ (.slice Ao21 t144.length co21 : Value).ownBlock) (fun _ => False) rfl rfl ?aO ?aR (fun _ _ h => h) (fun _ h => h.elim) ?aF ?aB ?aS ?aL ?_; (case aR => repeat (first | exact (Kd.R_reads' HO146.out).2.2 | (with_reducible refine Kd.C_alloc ?_ _) | (with_reducible refine Kd.C_drewN ?_ _) | (with_reducible refine Kd.C_drew ?_))); (case aB => exact (bel0 HB.out)); (case aF => exact (fun k_ hk => ⟨Kd.fresh' (Kd.R_lt (by (with_reducible repeat (first | apply Kd.R_alloc | apply Kd.R_drewN | apply Kd.R_drew)); exact HO134.out)) k_ hk, Kd.fresh' (Kd.R_lt (by (with_reducible repeat (first | apply Kd.R_alloc | apply Kd.R_drewN | apply Kd.R_drew)); exact HO140.out)) k_ hk, Kd.fresh' (Kd.R_lt (by (with_reducible repeat (first | apply Kd.R_alloc | apply Kd.R_drewN | apply Kd.R_drew)); exact HO146.out)) k_ hk⟩)); (case aO => exact (by (with_reducible repeat (first | apply Kd.R_alloc | apply Kd.R_drewN | apply Kd.R_drew)); exact Kd.R_mono HO143.out (fun _ hk => ⟨hk.1.1, ⟨hk.1.2, hk.2⟩⟩))); (case aS => exact (below_size (bel0 HB.out))); (case aL => have := LMc11.out; omega); intro v148 w20 ho hb hg hat; rw [← Ny147.out] at ho; have n0_ := Aside0.mk (Kd.R_after (ok := (fun k_ => some k_ ≠ (.slice Ao18 t138.length co18 : Value).ownBlock ∧ some k_ ≠ (.slice Ao21 t144.length co21 : Value).ownBlock)) (by (with_reducible repeat (first | apply Kd.R_alloc | apply Kd.R_drewN | apply Kd.R_drew)); exact Kd.R_mono HO134.out (fun _ hk => ⟨⟨hk.1.1, hk.2⟩, hk.1.2⟩)) hg hat); have n1_ := Aside0.mk (Kd.R_after (ok := (fun k_ => some k_ ≠ (.slice Ao15 t132.length co15 : Value).ownBlock ∧ some k_ ≠ (.slice Ao21 t144.length co21 : Value).ownBlock)) (by (with_reducible repeat (first | apply Kd.R_alloc | apply Kd.R_drewN | apply Kd.R_drew)); exact Kd.R_mono HO140.out (fun _ hk => ⟨⟨hk.1.1, hk.2⟩, hk.1.2⟩)) hg hat); have n2_ := Aside0.mk (Kd.R_after (ok := (fun k_ => some k_ ≠ (.slice Ao15 t132.length co15 : Value).ownBlock ∧ some k_ ≠ (.slice Ao18 t138.length co18 : Value).ownBlock)) (by (with_reducible repeat (first | apply Kd.R_alloc | apply Kd.R_drewN | apply Kd.R_drew)); exact Kd.R_mono HO146.out (fun _ hk => ⟨⟨hk.1.1.2, hk.1.2⟩, hk.2⟩)) hg hat); have n3_ := Aside0.mk (hb); have n4_ := Aside0.mk (ho); clear HO134; clear HO140; clear HO146; clear HB; clear HO143; have HO134 := n0_; have HO140 := n1_; have HO146 := n2_; have HB := n3_; have HO149 := n4_; clear n0_ n1_ n2_ n3_ n4_; clear ho hb hg hat))
        go_ret
        exact ⟨_, by first | rfl | (simp [errW_none, errW_some] <;> rfl) | (simp [*, errW_none, errW_some] <;> rfl), by (with_reducible repeat (first | apply Kd.R_alloc | apply Kd.R_drewN | apply Kd.R_drew)); exact Kd.R_mono HO149.out (fun _ hk => trivial), by exact bel0 HB.out⟩
      rw [if_neg c11] at H; exact absurd H (by simp)
    rw [if_neg c9] at H; exact absurd H (by simp)
  rw [if_neg c7] at H; exact absurd H (by simp)

/-! ### stopcockref07_Port: function 24 -/
mutual
def stopcockref07_Port.j0 : Nat → List Int → List Int → Int → Int → Int → Int → Int → Bool → Option (Int × Int)
  | 0, _, _, _, _, _, _, _, _ => none
  | k + 1, x0, x1, x2, x3, x4, x5, x6, x36 => if x36 = true then (some (0, 4)) else (stopcockref07_Port.l0 k x0 x1 x2 x3 x4 x5 x6 0)
def stopcockref07_Port.l0 : Nat → List Int → List Int → Int → Int → Int → Int → Int → Int → Option (Int × Int)
  | 0, _, _, _, _, _, _, _, _ => none
  | k + 1, x0, x1, x2, x3, x4, x5, x6, x17 => if x17 < 32768 then ((stopcockref07_Tuple.f k x3 x2 x4 (IntKind.u16.wrap (wrap64 (32768 + (Int.tmod (wrap64 ((wrap64 ((wrap64 (x6)) - 32768)) + x17)) 32768))))).bind fun t151 => ((stopcockref07_Hash.f k x0 t151).bind fun bt154 => (if 0 ≤ (Int.tmod bt154.1 128) then (if (Int.tmod bt154.1 128) < (x1.length : Int) then (if (rd x1 (Int.tmod bt154.1 128)) = x5 then (some (IntKind.u16.wrap (wrap64 (32768 + (Int.tmod (wrap64 ((wrap64 ((wrap64 (x6)) - 32768)) + x17)) 32768))), 0)) else (stopcockref07_Port.l0 k x0 x1 x2 x3 x4 x5 x6 (wrap64 (x17 + 1)))) else (none)) else (none)))) else (some (0, 71))
end
def stopcockref07_Port.f (k : Nat) (l0 : List Int) (l1 : List Int) (a2 : Int) (a3 : Int) (a4 : Int) (a5 : Int) (a6 : Int) : Option (Int × Int) := (stopcockref07_Check.f k l0 l1).bind fun t150 => (if t150 = 0 then (if a5 < 0 then (stopcockref07_Port.j0 k l0 l1 a2 a3 a4 a5 a6 true) else (if a5 ≥ 16 then (stopcockref07_Port.j0 k l0 l1 a2 a3 a4 a5 a6 true) else (stopcockref07_Port.j0 k l0 l1 a2 a3 a4 a5 a6 (decide (a6 < 32768))))) else (some (0, t150)))
theorem stopcockref07_Port.mono_l : ∀ k, (∀ y0 y1 y2 y3 y4 y5 y6 y7, LeO (stopcockref07_Port.j0 k y0 y1 y2 y3 y4 y5 y6 y7) (stopcockref07_Port.j0 (k + 1) y0 y1 y2 y3 y4 y5 y6 y7)) ∧ (∀ y0 y1 y2 y3 y4 y5 y6 y7, LeO (stopcockref07_Port.l0 k y0 y1 y2 y3 y4 y5 y6 y7) (stopcockref07_Port.l0 (k + 1) y0 y1 y2 y3 y4 y5 y6 y7))
  | 0 => ⟨fun _ _ _ _ _ _ _ _ r h => by simp [stopcockref07_Port.j0] at h, fun _ _ _ _ _ _ _ _ r h => by simp [stopcockref07_Port.l0] at h⟩
  | k + 1 => by
    obtain ⟨ih0, ih1⟩ := stopcockref07_Port.mono_l k; refine ⟨?_, ?_⟩
    · intro y0 y1 y2 y3 y4 y5 y6 y7
      unfold stopcockref07_Port.j0
      repeat' first
      | (with_reducible exact ih0 _ _ _ _ _ _ _ _)
      | (with_reducible exact ih1 _ _ _ _ _ _ _ _)
      | (with_reducible exact stopcockref07_Check.mono _ _ _)
      | (with_reducible exact stopcockref07_Hash.mono _ _ _)
      | (with_reducible exact stopcockref07_Tuple.mono _ _ _ _ _)
      | (with_reducible exact LeO.refl _)
      | (with_reducible exact LeO.none _)
      | (with_reducible refine LeO.ite ?_ ?_)
      | (with_reducible refine LeO.bind ?_ (fun _ => ?_))
      | exact ih0 _ _ _ _ _ _ _ _
      | exact ih1 _ _ _ _ _ _ _ _
      | exact stopcockref07_Check.mono _ _ _
      | exact stopcockref07_Hash.mono _ _ _
      | exact stopcockref07_Tuple.mono _ _ _ _ _
      | exact LeO.none _
      | refine LeO.ite ?_ ?_
      | refine LeO.bind ?_ (fun _ => ?_)
    · intro y0 y1 y2 y3 y4 y5 y6 y7
      unfold stopcockref07_Port.l0
      repeat' first
      | (with_reducible exact ih0 _ _ _ _ _ _ _ _)
      | (with_reducible exact ih1 _ _ _ _ _ _ _ _)
      | (with_reducible exact stopcockref07_Check.mono _ _ _)
      | (with_reducible exact stopcockref07_Hash.mono _ _ _)
      | (with_reducible exact stopcockref07_Tuple.mono _ _ _ _ _)
      | (with_reducible exact LeO.refl _)
      | (with_reducible exact LeO.none _)
      | (with_reducible refine LeO.ite ?_ ?_)
      | (with_reducible refine LeO.bind ?_ (fun _ => ?_))
      | exact ih0 _ _ _ _ _ _ _ _
      | exact ih1 _ _ _ _ _ _ _ _
      | exact stopcockref07_Check.mono _ _ _
      | exact stopcockref07_Hash.mono _ _ _
      | exact stopcockref07_Tuple.mono _ _ _ _ _
      | exact LeO.none _
      | refine LeO.ite ?_ ?_
      | refine LeO.bind ?_ (fun _ => ?_)
theorem stopcockref07_Port.mono : ∀ a0 a1 a2 a3 a4 a5 a6 k, LeO (stopcockref07_Port.f k a0 a1 a2 a3 a4 a5 a6) (stopcockref07_Port.f (k + 1) a0 a1 a2 a3 a4 a5 a6) := by
  intro a0 a1 a2 a3 a4 a5 a6 k; obtain ⟨ih0, ih1⟩ := stopcockref07_Port.mono_l k
  unfold stopcockref07_Port.f
  repeat' first
      | (with_reducible exact ih0 _ _ _ _ _ _ _ _)
      | (with_reducible exact ih1 _ _ _ _ _ _ _ _)
      | (with_reducible exact stopcockref07_Check.mono _ _ _)
      | (with_reducible exact stopcockref07_Hash.mono _ _ _)
      | (with_reducible exact stopcockref07_Tuple.mono _ _ _ _ _)
      | (with_reducible exact LeO.refl _)
      | (with_reducible exact LeO.none _)
      | (with_reducible refine LeO.ite ?_ ?_)
      | (with_reducible refine LeO.bind ?_ (fun _ => ?_))
      | exact ih0 _ _ _ _ _ _ _ _
      | exact ih1 _ _ _ _ _ _ _ _
      | exact stopcockref07_Check.mono _ _ _
      | exact stopcockref07_Hash.mono _ _ _
      | exact stopcockref07_Tuple.mono _ _ _ _ _
      | exact LeO.none _
      | refine LeO.ite ?_ ?_
      | refine LeO.bind ?_ (fun _ => ?_)
set_option maxHeartbeats 8000000 in
set_option maxRecDepth 100000 in
theorem stopcockref07_Port.calls (k : Nat) (A0 : Option Addr) (c0 : Nat) (l0 : List Int) (A1 : Option Addr) (c1 : Nat) (l1 : List Int) (a2 : Int) (a3 : Int) (a4 : Int) (a5 : Int) (a6 : Int) (r1 : Int) (r2 : Int) (w : World) (hr0 : Kd.C (Kd.int .u8) w A0 l0.length l0) (hc0 : l0.length ≤ c0) (hr1 : Kd.C (Kd.int .i64) w A1 l1.length l1) (hc1 : l1.length ≤ c1) (h : stopcockref07_Port.f k l0 l1 a2 a3 a4 a5 a6 = some (r1, r2)) :
    Calls Try.prog 24 #[.slice A0 l0.length c0, .slice A1 l1.length c1, .int .u32 a2, .int .u32 a3, .int .u16 a4, .int .i64 a5, .int .u16 a6] w fun e w' => e = .returned (.tuple #[.int .u16 r1, .int .i64 r2]) ∧ Below w.heap.size w w' := by
  have HR0 := Aside0.mk hr0; have HC0 := Aside0.mk hc0; clear hr0 hc0; have HR1 := Aside0.mk hr1; have HC1 := Aside0.mk hc1; clear hr1 hc1; have HB := Aside0.mk (Below.refl w.heap.size w); have H : ((stopcockref07_Check.f k l0 l1).bind fun t150 => (if t150 = 0 then (if a5 < 0 then (stopcockref07_Port.j0 k l0 l1 a2 a3 a4 a5 a6 true) else (if a5 ≥ 16 then (stopcockref07_Port.j0 k l0 l1 a2 a3 a4 a5 a6 true) else (stopcockref07_Port.j0 k l0 l1 a2 a3 a4 a5 a6 (decide (a6 < 32768))))) else (some (0, t150)))) = some (r1, r2) := h; clear h; replace H := Option.bind_eq_some_iff.mp H; obtain ⟨t150, A80, H⟩ := H; replace H : (if t150 = 0 then (if a5 < 0 then (stopcockref07_Port.j0 k l0 l1 a2 a3 a4 a5 a6 true) else (if a5 ≥ 16 then (stopcockref07_Port.j0 k l0 l1 a2 a3 a4 a5 a6 true) else (stopcockref07_Port.j0 k l0 l1 a2 a3 a4 a5 a6 (decide (a6 < 32768))))) else (some (0, t150))) = some (r1, r2) := H; have A8 := Aside0.mk A80; clear A80
  by_cases c9 : t150 = 0
  · rw [if_pos c9] at H
    have c9b0 : (t150 == 0) = true := beq_iff_eq.mpr c9; have c9b1 : (t150 != 0) = false := bne_eq_false_iff_eq.mpr c9; clear c9; have HC10 := Aside0.mk H; clear H
    go_enter Try.func24, Try.ntmps24
    go_upto_region 4 with (first | ((with_reducible refine gate_callee (f := 20) rfl ?_); refine goesL_ (some 23) rfl rfl Try.func20 (by kernel_rfl) rfl #[.slice A0 l0.length c0, .slice A1 l1.length c1] rfl (by (try simp only [List.map_toArray, List.map_cons, List.map_nil]); first | done | rfl | (simp only [List.length_drop, List.length_take]; rfl)) ?_; (with_reducible refine (stopcockref07_Check.calls k _ _ l0 _ _ l1 t150 _ ?side1 ?side2 ?side3 ?side4 A8.out).mono ?_); (case side1 => repeat (first | exact HR0.out | (with_reducible refine Kd.C_alloc ?_ _) | (with_reducible refine Kd.C_drewN ?_ _) | (with_reducible refine Kd.C_drew ?_))); (case side2 => exact HC0.out); (case side3 => repeat (first | exact HR1.out | (with_reducible refine Kd.C_alloc ?_ _) | (with_reducible refine Kd.C_drewN ?_ _) | (with_reducible refine Kd.C_drew ?_))); (case side4 => exact HC1.out); rintro e w' ⟨rfl, ⟨nd, rfl⟩⟩; refine ⟨_, rfl, ?_⟩))
    (try simp only [Act.put, List.setIfInBounds_toArray, List.set_cons_zero, List.set_cons_succ])
    go_cut [36] (fun v36 wc => ∃ (kq : Nat) (x36_9 : Bool), v36 = .bool x36_9 ∧ Aside0 (stopcockref07_Port.j0 kq l0 l1 a2 a3 a4 a5 a6 x36_9 = some (r1, r2)) ∧ Aside0 (kq ≤ k) ∧ Aside0 (Below w.heap.size w wc))
    case first =>
      have H := HC10.out; clear HC10
      by_cases c11 : a5 < 0
      · rw [if_pos c11] at H
        have c11b0 : decide (a5 < 0) = true := decide_eq_true c11; clear c11
        (first | rw [c11b0] | (simp only [i64_w, i32_w]; rw [c11b0]) | skip)
        have H' := Aside0.mk H; clear H
        go_wp2
        go_meet
        case rel => exact ⟨_, (true), (by first | rfl | (simp; done) | (simp [*]; done)), H', ⟨by first | omega | exact Nat.le_refl _⟩, ⟨by exact bel0 HB.out⟩⟩
      rw [if_neg c11] at H; have c11b0 : decide (a5 < 0) = false := decide_eq_false c11; clear c11
      (first | rw [c11b0] | (simp only [i64_w, i32_w]; rw [c11b0]) | skip)
      by_cases c12 : a5 ≥ 16
      · rw [if_pos c12] at H
        have c12b0 : decide (16 ≤ a5) = true := decide_eq_true c12; clear c12; have H' := Aside0.mk H; clear H
        go_wp2
        go_meet
        case rel => exact ⟨_, (true), (by first | rfl | (simp; done) | (simp [*]; done)), H', ⟨by first | omega | exact Nat.le_refl _⟩, ⟨by exact bel0 HB.out⟩⟩
      rw [if_neg c12] at H; have c12b0 : decide (16 ≤ a5) = false := decide_eq_false c12; clear c12; have H' := Aside0.mk H; clear H
      go_wp2
      go_meet
      case rel => exact ⟨_, (decide (a6 < 32768)), (by first | rfl | (simp; done) | (simp [*]; done)), H', ⟨by first | omega | exact Nat.le_refl _⟩, ⟨by exact bel0 HB.out⟩⟩
    case rest =>
      clear HC10
      try clear c1
      try clear c2
      try clear p2
      try clear c9
      try clear c9b0
      try clear c9b1
      try clear c11
      try clear c11b0
      try clear c12
      try clear c12b0
      obtain ⟨kq, x36_9, rfl, HA, HJ9, HB⟩ := hcut
      cases kq with
      | zero => exact absurd HA.out (by simp [stopcockref07_Port.j0])
      | succ kj9 =>
        have H := HA.out; clear HA
        simp only [stopcockref07_Port.j0] at H
        by_cases c13 : x36_9 = true
        · subst c13
          have H1 : (some (0, 4)) = some (r1, r2) := by rw [if_pos rfl] at H; exact H
          clear H; have H := H1; clear H1
          simp only [Option.some.injEq, Prod.mk.injEq] at H
          obtain ⟨rfl, rfl⟩ := H
          go_wp2
          go_ret2
          exact ⟨by first | rfl | (simp [errW_none, errW_some] <;> rfl) | (simp [*, errW_none, errW_some] <;> rfl), by exact bel0 HB.out⟩
        replace c13 := Bool.eq_false_iff.mpr c13
        subst c13
        have H1 : (stopcockref07_Port.l0 kj9 l0 l1 a2 a3 a4 a5 a6 0) = some (r1, r2) := by rw [if_neg (show ¬ (false = true) by decide)] at H; exact H
        clear H; have H := H1; clear H1; have H' := Aside0.mk H; clear H
        go_wp2
        go_loopg [17] kj9 (fun kq v17 w' => ∃ (x17_2 : Int), v17 = .int .i64 x17_2 ∧ Aside0 (stopcockref07_Port.l0 kq l0 l1 a2 a3 a4 a5 a6 x17_2 = some (r1, r2)) ∧ Aside0 (kq ≤ kj9) ∧ Aside0 (Below w.heap.size w w'))
        case atStart => exact ⟨(0), (by first | rfl | (simp; done) | (simp [*]; done)), H', ⟨Nat.le_refl _⟩, ⟨by exact bel0 HB.out⟩⟩
        case round =>
          clear H'
          try clear c1
          try clear c2
          try clear p2
          try clear c9
          try clear c9b0
          try clear c9b1
          try clear c11
          try clear c11b0
          try clear c12
          try clear c12b0
          try clear c13
          try clear p2
          obtain ⟨x17_2, rfl, HA, HK2, HB⟩ := hrel
          cases gk with
          | zero => exact absurd HA.out (by simp [stopcockref07_Port.l0])
          | succ k2 =>
            have H := HA.out; clear HA
            simp only [stopcockref07_Port.l0] at H
            by_cases c14 : x17_2 < 32768
            · rw [if_pos c14] at H
              have c14b0 : decide (x17_2 < 32768) = true := decide_eq_true c14; clear c14; replace H := Option.bind_eq_some_iff.mp H; obtain ⟨t151, A150, H⟩ := H; replace H : ((stopcockref07_Hash.f k2 l0 t151).bind fun bt154 => (if 0 ≤ (Int.tmod bt154.1 128) then (if (Int.tmod bt154.1 128) < (l1.length : Int) then (if (rd l1 (Int.tmod bt154.1 128)) = a5 then (some (IntKind.u16.wrap (wrap64 (32768 + (Int.tmod (wrap64 ((wrap64 ((wrap64 (a6)) - 32768)) + x17_2)) 32768))), 0)) else (stopcockref07_Port.l0 k2 l0 l1 a2 a3 a4 a5 a6 (wrap64 (x17_2 + 1)))) else (none)) else (none))) = some (r1, r2) := H; have A15 := Aside0.mk A150; clear A150; replace H := Option.bind_eq_some_iff.mp H; obtain ⟨⟨t154, t155⟩, A160, H⟩ := H; replace H : (if 0 ≤ (Int.tmod t154 128) then (if (Int.tmod t154 128) < (l1.length : Int) then (if (rd l1 (Int.tmod t154 128)) = a5 then (some (IntKind.u16.wrap (wrap64 (32768 + (Int.tmod (wrap64 ((wrap64 ((wrap64 (a6)) - 32768)) + x17_2)) 32768))), 0)) else (stopcockref07_Port.l0 k2 l0 l1 a2 a3 a4 a5 a6 (wrap64 (x17_2 + 1)))) else (none)) else (none)) = some (r1, r2) := H; have A16 := Aside0.mk A160; clear A160; obtain ⟨ji17, hji17⟩ : ∃ j_ : Int, (Int.tmod t154 128) = j_ := ⟨_, rfl⟩; replace H : (if 0 ≤ (ji17) then (if (ji17) < (l1.length : Int) then (if (rd l1 (ji17)) = a5 then (some (IntKind.u16.wrap (wrap64 (32768 + (Int.tmod (wrap64 ((wrap64 ((wrap64 (a6)) - 32768)) + x17_2)) 32768))), 0)) else (stopcockref07_Port.l0 k2 l0 l1 a2 a3 a4 a5 a6 (wrap64 (x17_2 + 1)))) else (none)) else (none)) = some (r1, r2) := by first | (rw [hji17] at H; exact H) | (simp only [hji17] at H ⊢; exact H)
              (try rw [hji17] at A15)
              (try rw [hji17] at A16)
              by_cases c18 : 0 ≤ (ji17)
              · rw [if_pos c18] at H
                have c18b0 : decide (0 ≤ (ji17)) = true := decide_eq_true c18; clear c18
                by_cases c19 : (ji17) < (l1.length : Int)
                · rw [if_pos c19] at H
                  have c19b0 : decide ((ji17) < (l1.length : Int)) = true := decide_eq_true c19; clear c19
                  by_cases c20 : (rd l1 (ji17)) = a5
                  · rw [if_pos c20] at H
                    have c20b0 : ((rd l1 (ji17)) == a5) = true := beq_iff_eq.mpr c20; have c20b1 : ((rd l1 (ji17)) != a5) = false := bne_eq_false_iff_eq.mpr c20; clear c20
                    simp only [Option.some.injEq, Prod.mk.injEq] at H
                    obtain ⟨rfl, rfl⟩ := H
                    go_wp2_with (first | ((with_reducible refine gate_callee (f := 21) rfl ?_); refine goesL_ (some 55) rfl rfl Try.func21 (by kernel_rfl) rfl #[.int .u32 a3, .int .u32 a2, .int .u16 a4, .int .u16 (IntKind.u16.wrap (wrap64 (32768 + (Int.tmod (wrap64 ((wrap64 ((wrap64 (a6)) - 32768)) + x17_2)) 32768))))] rfl (by (try simp only [List.map_toArray, List.map_cons, List.map_nil]); first | done | rfl | (simp only [List.length_drop, List.length_take]; rfl)) ?_; (with_reducible refine (stopcockref07_Tuple.calls k2 a3 a2 a4 (IntKind.u16.wrap (wrap64 (32768 + (Int.tmod (wrap64 ((wrap64 ((wrap64 (a6)) - 32768)) + x17_2)) 32768)))) t151 _ A15.out).mono ?_); rintro e w21 ⟨v152, rfl, ho0, hb⟩; refine ⟨_, rfl, ?_⟩; have n0_ := Aside0.mk (Kd.R_lower ho0 (below_size (bel0 HB.out))); have n1_ := Aside0.mk (below_step (bel0 HB.out) hb); clear HB; have HO153 := n0_; have HB := n1_; clear n0_ n1_; (try clear hb); (try clear hb2); (try clear hk); (try clear hi); (try clear ho0); obtain ⟨Ao22, co22, eo22⟩ := Kd.R_slice HO153.out; subst eo22) | ((with_reducible refine gate_callee (f := 16) rfl ?_); refine goesL_ (some 56) rfl rfl Try.func16 (by kernel_rfl) rfl #[.slice A0 l0.length c0, .slice Ao22 t151.length co22] rfl (by (try simp only [List.map_toArray, List.map_cons, List.map_nil]); first | done | rfl | (simp only [List.length_drop, List.length_take]; rfl)) ?_; (with_reducible refine (stopcockref07_Hash.calls k2 _ _ l0 _ _ t151 t154 t155 _ ?side1 ?side2 ?side3 ?side4 A16.out).mono ?_); (case side1 => repeat (first | exact (Kd.C_below HR0.out HB.out) | (with_reducible refine Kd.C_alloc ?_ _) | (with_reducible refine Kd.C_drewN ?_ _) | (with_reducible refine Kd.C_drew ?_))); (case side2 => exact HC0.out); (case side3 => repeat (first | exact (Kd.R_reads' HO153.out).2.2 | (with_reducible refine Kd.C_alloc ?_ _) | (with_reducible refine Kd.C_drewN ?_ _) | (with_reducible refine Kd.C_drew ?_))); (case side4 => exact (Kd.R_reads' HO153.out).2.1); rintro e w' ⟨rfl, ⟨nd, rfl⟩⟩; refine ⟨_, rfl, ?_⟩; have p156 : 0 ≤ ((ji17) : Int) := of_decide_eq_true (by first | (with_reducible assumption) | assumption); have q156 : (ji17) < (l1.length : Int) := of_decide_eq_true (by first | (with_reducible assumption) | assumption); obtain ⟨ad156, e156, hx156_0⟩ := Kd.at_int HR1.out (ji17) p156 q156; cases e156; replace hx156_0 := (HB.out.cell (World.block_lt_of_cell? w _ hx156_0)).trans hx156_0; replace p156 := eq_true p156; replace q156 := eq_true q156))
                    go_ret2
                    exact ⟨by first | rfl | (simp [errW_none, errW_some] <;> rfl) | (simp only [← hji17]; first | rfl | (simp [errW_none, errW_some] <;> rfl)) | (simp [*, errW_none, errW_some] <;> rfl), by exact bel0 HB.out⟩
                  rw [if_neg c20] at H; have c20b0 : ((rd l1 (ji17)) == a5) = false := beq_eq_false_iff_ne.mpr c20; have c20b1 : ((rd l1 (ji17)) != a5) = true := bne_iff_ne.mpr c20; have H' := Aside0.mk H; clear H
                  go_wp2_with (first | ((with_reducible refine gate_callee (f := 21) rfl ?_); refine goesL_ (some 55) rfl rfl Try.func21 (by kernel_rfl) rfl #[.int .u32 a3, .int .u32 a2, .int .u16 a4, .int .u16 (IntKind.u16.wrap (wrap64 (32768 + (Int.tmod (wrap64 ((wrap64 ((wrap64 (a6)) - 32768)) + x17_2)) 32768))))] rfl (by (try simp only [List.map_toArray, List.map_cons, List.map_nil]); first | done | rfl | (simp only [List.length_drop, List.length_take]; rfl)) ?_; (with_reducible refine (stopcockref07_Tuple.calls k2 a3 a2 a4 (IntKind.u16.wrap (wrap64 (32768 + (Int.tmod (wrap64 ((wrap64 ((wrap64 (a6)) - 32768)) + x17_2)) 32768)))) t151 _ A15.out).mono ?_); rintro e w23 ⟨v152, rfl, ho0, hb⟩; refine ⟨_, rfl, ?_⟩; have n0_ := Aside0.mk (Kd.R_lower ho0 (below_size (bel0 HB.out))); have n1_ := Aside0.mk (below_step (bel0 HB.out) hb); clear HB; have HO153 := n0_; have HB := n1_; clear n0_ n1_; (try clear hb); (try clear hb2); (try clear hk); (try clear hi); (try clear ho0); obtain ⟨Ao24, co24, eo24⟩ := Kd.R_slice HO153.out; subst eo24) | ((with_reducible refine gate_callee (f := 16) rfl ?_); refine goesL_ (some 56) rfl rfl Try.func16 (by kernel_rfl) rfl #[.slice A0 l0.length c0, .slice Ao24 t151.length co24] rfl (by (try simp only [List.map_toArray, List.map_cons, List.map_nil]); first | done | rfl | (simp only [List.length_drop, List.length_take]; rfl)) ?_; (with_reducible refine (stopcockref07_Hash.calls k2 _ _ l0 _ _ t151 t154 t155 _ ?side1 ?side2 ?side3 ?side4 A16.out).mono ?_); (case side1 => repeat (first | exact (Kd.C_below HR0.out HB.out) | (with_reducible refine Kd.C_alloc ?_ _) | (with_reducible refine Kd.C_drewN ?_ _) | (with_reducible refine Kd.C_drew ?_))); (case side2 => exact HC0.out); (case side3 => repeat (first | exact (Kd.R_reads' HO153.out).2.2 | (with_reducible refine Kd.C_alloc ?_ _) | (with_reducible refine Kd.C_drewN ?_ _) | (with_reducible refine Kd.C_drew ?_))); (case side4 => exact (Kd.R_reads' HO153.out).2.1); rintro e w' ⟨rfl, ⟨nd, rfl⟩⟩; refine ⟨_, rfl, ?_⟩; have p156 : 0 ≤ ((ji17) : Int) := of_decide_eq_true (by first | (with_reducible assumption) | assumption); have q156 : (ji17) < (l1.length : Int) := of_decide_eq_true (by first | (with_reducible assumption) | assumption); obtain ⟨ad156, e156, hx156_0⟩ := Kd.at_int HR1.out (ji17) p156 q156; cases e156; replace hx156_0 := (HB.out.cell (World.block_lt_of_cell? w _ hx156_0)).trans hx156_0; replace p156 := eq_true p156; replace q156 := eq_true q156))
                  go_roundg k2
                  case measure => have := HJ9.out; have := HK2.out; omega
                  case rel => exact ⟨(wrap64 (x17_2 + 1)), (by first | rfl | (simp; done) | (simp [*]; done)), H', ⟨by have := HJ9.out; have := HK2.out; omega⟩, ⟨by exact bel0 HB.out⟩⟩
                rw [if_neg c19] at H; exact absurd H (by simp)
              rw [if_neg c18] at H; exact absurd H (by simp)
            rw [if_neg c14] at H; have c14b0 : decide (x17_2 < 32768) = false := decide_eq_false c14; clear c14
            simp only [Option.some.injEq, Prod.mk.injEq] at H
            obtain ⟨rfl, rfl⟩ := H
            go_wp2
            go_ret2
            exact ⟨by first | rfl | (simp [errW_none, errW_some] <;> rfl) | (simp [*, errW_none, errW_some] <;> rfl), by exact bel0 HB.out⟩
  rw [if_neg c9] at H; have c9b0 : (t150 == 0) = false := beq_eq_false_iff_ne.mpr c9; have c9b1 : (t150 != 0) = true := bne_iff_ne.mpr c9
  simp only [Option.some.injEq, Prod.mk.injEq] at H
  obtain ⟨rfl, rfl⟩ := H
  go_enter Try.func24, Try.ntmps24
  go_wp2_with (first | ((with_reducible refine gate_callee (f := 20) rfl ?_); refine goesL_ (some 23) rfl rfl Try.func20 (by kernel_rfl) rfl #[.slice A0 l0.length c0, .slice A1 l1.length c1] rfl (by (try simp only [List.map_toArray, List.map_cons, List.map_nil]); first | done | rfl | (simp only [List.length_drop, List.length_take]; rfl)) ?_; (with_reducible refine (stopcockref07_Check.calls k _ _ l0 _ _ l1 t150 _ ?side1 ?side2 ?side3 ?side4 A8.out).mono ?_); (case side1 => repeat (first | exact HR0.out | (with_reducible refine Kd.C_alloc ?_ _) | (with_reducible refine Kd.C_drewN ?_ _) | (with_reducible refine Kd.C_drew ?_))); (case side2 => exact HC0.out); (case side3 => repeat (first | exact HR1.out | (with_reducible refine Kd.C_alloc ?_ _) | (with_reducible refine Kd.C_drewN ?_ _) | (with_reducible refine Kd.C_drew ?_))); (case side4 => exact HC1.out); rintro e w' ⟨rfl, ⟨nd, rfl⟩⟩; refine ⟨_, rfl, ?_⟩))
  go_ret2
  exact ⟨by first | rfl | (simp [errW_none, errW_some] <;> rfl) | (simp [*, errW_none, errW_some] <;> rfl), by exact bel0 HB.out⟩

/-! ### stopcocklaw07_ToeplitzPorts: function 6 -/
def stopcocklaw07_ToeplitzPorts.f (k : Nat) (l0 : List Int) (l1 : List Int) (a2_0 : Int) (a2_1 : Int) (a2_2 : Int) (a2_3 : Int) (a2_4 : Int) : Option (Bool) := (toeplitz_Port.f l0 l1 a2_0 a2_1 a2_2 a2_3 a2_4).bind fun bt158 => ((stopcockref07_Port.f k l0 l1 a2_0 a2_1 a2_2 a2_3 a2_4).bind fun bt160 => (if bt158.1 = bt160.1 then ((stopcocklaw07_num.f bt158.2).bind fun t162 => (if t162 = bt160.2 then ((stopcocklaw07_alive.f k).bind fun t163 => (some t163)) else (some false))) else (some false)))
theorem stopcocklaw07_ToeplitzPorts.mono : ∀ a0 a1 a2 a3 a4 a5 a6 k, LeO (stopcocklaw07_ToeplitzPorts.f k a0 a1 a2 a3 a4 a5 a6) (stopcocklaw07_ToeplitzPorts.f (k + 1) a0 a1 a2 a3 a4 a5 a6) := by
  intro a0 a1 a2 a3 a4 a5 a6 k
  unfold stopcocklaw07_ToeplitzPorts.f
  repeat' first
      | (with_reducible exact stopcocklaw07_alive.mono _)
      | (with_reducible exact stopcockref07_Port.mono _ _ _ _ _ _ _ _)
      | (with_reducible exact LeO.refl _)
      | (with_reducible exact LeO.none _)
      | (with_reducible refine LeO.ite ?_ ?_)
      | (with_reducible refine LeO.bind ?_ (fun _ => ?_))
      | exact stopcocklaw07_alive.mono _
      | exact stopcockref07_Port.mono _ _ _ _ _ _ _ _
      | exact LeO.none _
      | refine LeO.ite ?_ ?_
      | refine LeO.bind ?_ (fun _ => ?_)
set_option maxHeartbeats 8000000 in
set_option maxRecDepth 100000 in
theorem stopcocklaw07_ToeplitzPorts.calls (k : Nat) (A0 : Option Addr) (c0 : Nat) (l0 : List Int) (A1 : Option Addr) (c1 : Nat) (l1 : List Int) (a2_0 : Int) (a2_1 : Int) (a2_2 : Int) (a2_3 : Int) (a2_4 : Int) (r : Bool) (w : World) (hr0 : Kd.C (Kd.int .u8) w A0 l0.length l0) (hc0 : l0.length ≤ c0) (hr1 : Kd.C (Kd.int .i64) w A1 l1.length l1) (hc1 : l1.length ≤ c1) (h : stopcocklaw07_ToeplitzPorts.f k l0 l1 a2_0 a2_1 a2_2 a2_3 a2_4 = some r) (hrt : r = true) :
    Calls Try.prog 6 #[.slice A0 l0.length c0, .slice A1 l1.length c1, .agg #[.int .u32 a2_0, .int .u32 a2_1, .int .u16 a2_2, .int .i64 a2_3, .int .u16 a2_4]] w fun e w' => e = .returned (.bool r) ∧ Below w.heap.size w w' := by
  have hu50 := Try.underlying50; have HRT := Aside0.mk hrt; clear hrt; have HR0 := Aside0.mk hr0; have HC0 := Aside0.mk hc0; clear hr0 hc0; have HR1 := Aside0.mk hr1; have HC1 := Aside0.mk hc1; clear hr1 hc1; have HB := Aside0.mk (Below.refl w.heap.size w); have H : ((toeplitz_Port.f l0 l1 a2_0 a2_1 a2_2 a2_3 a2_4).bind fun bt158 => ((stopcockref07_Port.f k l0 l1 a2_0 a2_1 a2_2 a2_3 a2_4).bind fun bt160 => (if bt158.1 = bt160.1 then ((stopcocklaw07_num.f bt158.2).bind fun t162 => (if t162 = bt160.2 then ((stopcocklaw07_alive.f k).bind fun t163 => (some t163)) else (some false))) else (some false)))) = some r := h; clear h; replace H := Option.bind_eq_some_iff.mp H; obtain ⟨⟨t158, t159⟩, A40, H⟩ := H; replace H : ((stopcockref07_Port.f k l0 l1 a2_0 a2_1 a2_2 a2_3 a2_4).bind fun bt160 => (if t158 = bt160.1 then ((stopcocklaw07_num.f t159).bind fun t162 => (if t162 = bt160.2 then ((stopcocklaw07_alive.f k).bind fun t163 => (some t163)) else (some false))) else (some false))) = some r := H; have A4 := Aside0.mk A40; clear A40; replace H := Option.bind_eq_some_iff.mp H; obtain ⟨⟨t160, t161⟩, A50, H⟩ := H; replace H : (if t158 = t160 then ((stopcocklaw07_num.f t159).bind fun t162 => (if t162 = t161 then ((stopcocklaw07_alive.f k).bind fun t163 => (some t163)) else (some false))) else (some false)) = some r := H; have A5 := Aside0.mk A50; clear A50
  by_cases c6 : t158 = t160
  · rw [if_pos c6] at H
    have c6b0 : (t158 == t160) = true := beq_iff_eq.mpr c6; have c6b1 : (t158 != t160) = false := bne_eq_false_iff_eq.mpr c6; clear c6; replace H := Option.bind_eq_some_iff.mp H; obtain ⟨t162, A70, H⟩ := H; replace H : (if t162 = t161 then ((stopcocklaw07_alive.f k).bind fun t163 => (some t163)) else (some false)) = some r := H; have A7 := Aside0.mk A70; clear A70
    by_cases c8 : t162 = t161
    · rw [if_pos c8] at H
      have c8b0 : (t162 == t161) = true := beq_iff_eq.mpr c8; have c8b1 : (t162 != t161) = false := bne_eq_false_iff_eq.mpr c8; clear c8; replace H := Option.bind_eq_some_iff.mp H; obtain ⟨t163, A90, H⟩ := H; replace H : (some t163) = some r := H; have A9 := Aside0.mk A90; clear A90; obtain rfl := Option.some.inj H
      go_enter Try.func6, Try.ntmps6
      go_wp2_with (first | ((with_reducible refine gate_dst (N := 5) rfl ?_); refine box_event ?hg (N := 5) ?hd (cs := #[.int .u32 a2_0, .int .u32 a2_1, .int .u16 a2_2, .int .i64 a2_3, .int .u16 a2_4]) (t := 50) ?hr ?_; (case hd => rfl); (case hg => rfl); (case hr => first | (go_simp; done) | (go_simp; rfl)); intro gb157 hg w10 hbox hb; have n0_ := Aside0.mk (below_step (bel0 HB.out) hb); have n1_ := Aside0.mk (hbox); have n2_ := Aside0.mk ((by rw [hg]; exact (below_size (bel0 HB.out)) : w.heap.size ≤ gb157)); have n3_ := n2_; clear HB; have HB := n0_; have BK157 := n1_; have GW157 := n2_; have GE157 := n3_; clear n0_ n1_ n2_ n3_; clear hb hbox hg; obtain ⟨hcz11_0, hcz11_1, hcz11_2, hcz11_3, hcz11_4⟩ := cz5 BK157.out; have hfz11_0 := blk_frozen BK157.out) | ((with_reducible refine gate_callee (f := 23) rfl ?_); refine goesL_ (some 24) rfl rfl Try.func23 (by kernel_rfl) rfl #[.slice A0 l0.length c0, .slice A1 l1.length c1, .int .u32 a2_0, .int .u32 a2_1, .int .u16 a2_2, .int .i64 a2_3, .int .u16 a2_4] rfl (by (try simp only [List.map_toArray, List.map_cons, List.map_nil]); first | done | rfl | (simp only [List.length_drop, List.length_take]; rfl)) ?_; (with_reducible refine (toeplitz_Port.calls _ _ l0 _ _ l1 a2_0 a2_1 a2_2 a2_3 a2_4 t158 t159 _ ?side1 ?side2 ?side3 ?side4 A4.out).mono ?_); (case side1 => repeat (first | exact (Kd.C_below HR0.out HB.out) | (with_reducible refine Kd.C_alloc ?_ _) | (with_reducible refine Kd.C_drewN ?_ _) | (with_reducible refine Kd.C_drew ?_))); (case side2 => exact HC0.out); (case side3 => repeat (first | exact (Kd.C_below HR1.out HB.out) | (with_reducible refine Kd.C_alloc ?_ _) | (with_reducible refine Kd.C_drewN ?_ _) | (with_reducible refine Kd.C_drew ?_))); (case side4 => exact HC1.out); rintro e w12 ⟨rfl, hb⟩; refine ⟨_, rfl, ?_⟩; have n0_ := Aside0.mk (blk_below (g := gb157) (o := .cells #[.int .u32 a2_0, .int .u32 a2_1, .int .u16 a2_2, .int .i64 a2_3, .int .u16 a2_4] 50 (0, 0)) (skp_ BK157.out) hb); have n1_ := Aside0.mk (below_step (bel1 HB.out GE157.out) hb); clear BK157; clear HB; have BK157 := n0_; have HB := n1_; clear n0_ n1_; (try clear hb); (try clear hb2); (try clear hk); (try clear hi); obtain ⟨hcz13_0, hcz13_1, hcz13_2, hcz13_3, hcz13_4⟩ := cz5 BK157.out; have hfz13_0 := blk_frozen BK157.out) | ((with_reducible refine gate_callee (f := 24) rfl ?_); refine goesL_ (some 40) rfl rfl Try.func24 (by kernel_rfl) rfl #[.slice A0 l0.length c0, .slice A1 l1.length c1, .int .u32 a2_0, .int .u32 a2_1, .int .u16 a2_2, .int .i64 a2_3, .int .u16 a2_4] rfl (by (try simp only [List.map_toArray, List.map_cons, List.map_nil]); first | done | rfl | (simp only [List.length_drop, List.length_take]; rfl)) ?_; (with_reducible refine (stopcockref07_Port.calls k _ _ l0 _ _ l1 a2_0 a2_1 a2_2 a2_3 a2_4 t160 t161 _ ?side1 ?side2 ?side3 ?side4 A5.out).mono ?_); (case side1 => repeat (first | exact (Kd.C_below HR0.out HB.out) | (with_reducible refine Kd.C_alloc ?_ _) | (with_reducible refine Kd.C_drewN ?_ _) | (with_reducible refine Kd.C_drew ?_))); (case side2 => exact HC0.out); (case side3 => repeat (first | exact (Kd.C_below HR1.out HB.out) | (with_reducible refine Kd.C_alloc ?_ _) | (with_reducible refine Kd.C_drewN ?_ _) | (with_reducible refine Kd.C_drew ?_))); (case side4 => exact HC1.out); rintro e w14 ⟨rfl, hb⟩; refine ⟨_, rfl, ?_⟩; have n0_ := Aside0.mk (blk_below (g := gb157) (o := .cells #[.int .u32 a2_0, .int .u32 a2_1, .int .u16 a2_2, .int .i64 a2_3, .int .u16 a2_4] 50 (0, 0)) (skp_ BK157.out) hb); have n1_ := Aside0.mk (below_step (bel1 HB.out GE157.out) hb); clear BK157; clear HB; have BK157 := n0_; have HB := n1_; clear n0_ n1_; (try clear hb); (try clear hb2); (try clear hk); (try clear hi)) | (go_at_call 10; (with_reducible refine (stopcocklaw07_num.same t159 t162 _ A7.out).mono ?_); rintro e w' ⟨rfl, rfl⟩) | (go_at_call 8; (with_reducible refine (stopcocklaw07_alive.calls k  t163 _ A9.out).mono ?_); rintro e w15 ⟨rfl, hb⟩; have n0_ := Aside0.mk (blk_below (g := gb157) (o := .cells #[.int .u32 a2_0, .int .u32 a2_1, .int .u16 a2_2, .int .i64 a2_3, .int .u16 a2_4] 50 (0, 0)) (skp_ BK157.out) hb); have n1_ := Aside0.mk (below_step (bel1 HB.out GE157.out) hb); clear BK157; clear HB; have BK157 := n0_; have HB := n1_; clear n0_ n1_; (try clear hb); (try clear hb2); (try clear hk); (try clear hi)))
      go_ret
      exact ⟨by first | rfl | (simp [errW_none, errW_some] <;> rfl) | (simp [*, errW_none, errW_some] <;> rfl), by exact bel1 HB.out GE157.out⟩
    rw [if_neg c8] at H; have c8b0 : (t162 == t161) = false := beq_eq_false_iff_ne.mpr c8; have c8b1 : (t162 != t161) = true := bne_iff_ne.mpr c8; exact absurd ((Option.some.inj H).trans HRT.out) (by decide)
  rw [if_neg c6] at H; have c6b0 : (t158 == t160) = false := beq_eq_false_iff_ne.mpr c6; have c6b1 : (t158 != t160) = true := bne_iff_ne.mpr c6; exact absurd ((Option.some.inj H).trans HRT.out) (by decide)

/-- THE ONE PURE STATEMENT of stopcocklaw07_ToeplitzPorts. -/
def stopcocklaw07_ToeplitzPorts.Pure : Prop := ∀ (l0 : List Int) (l1 : List Int) (a2_0 : Int) (a2_1 : Int) (a2_2 : Int) (a2_3 : Int) (a2_4 : Int), l0.length * 1 ≤ 140737488351232 → (∀ y ∈ l0, (Lit.int .u8 y).wf = true) → l1.length * 8 ≤ 140737488351232 → (∀ y ∈ l1, (Lit.int .i64 y).wf = true) → ((Lit.int .u32 a2_0).wf = true) → ((Lit.int .u32 a2_1).wf = true) → ((Lit.int .u16 a2_2).wf = true) → ((Lit.int .i64 a2_3).wf = true) → ((Lit.int .u16 a2_4).wf = true) → ∃ k, stopcocklaw07_ToeplitzPorts.f k l0 l1 a2_0 a2_1 a2_2 a2_3 a2_4 = some true

/-! ### stopcocklaw07_ToeplitzOwns: function 7 -/
def stopcocklaw07_ToeplitzOwns.f (k : Nat) (l0 : List Int) (l1 : List Int) (a2_0 : Int) (a2_1 : Int) (a2_2 : Int) (a2_3 : Int) (a2_4 : Int) : Option (Bool) := (stopcocklaw07_alive.f k).bind fun t165 => (if t165 = true then ((toeplitz_Port.f l0 l1 a2_0 a2_1 a2_2 a2_3 a2_4).bind fun bt166 => ((stopcocklaw07_num.f bt166.2).bind fun t168 => (if t168 = 0 then ((toeplitz_Tuple.f a2_1 a2_0 a2_2 bt166.1).bind fun t169 => ((toeplitz_Hash.f k l0 t169).bind fun bt172 => ((toeplitz_Shard.f l1 bt172.1).bind fun bt174 => ((stopcocklaw07_num.f bt172.2).bind fun t176 => ((stopcocklaw07_num.f bt174.2).bind fun t177 => (if (wrap64 (t176 + t177)) = 0 then (if bt174.1 = a2_3 then (some (decide (bt166.1 ≥ 32768))) else (some false)) else (some false))))))) else (some (bt166.1 == 0))))) else (some false))
theorem stopcocklaw07_ToeplitzOwns.mono : ∀ a0 a1 a2 a3 a4 a5 a6 k, LeO (stopcocklaw07_ToeplitzOwns.f k a0 a1 a2 a3 a4 a5 a6) (stopcocklaw07_ToeplitzOwns.f (k + 1) a0 a1 a2 a3 a4 a5 a6) := by
  intro a0 a1 a2 a3 a4 a5 a6 k
  unfold stopcocklaw07_ToeplitzOwns.f
  repeat' first
      | (with_reducible exact stopcocklaw07_alive.mono _)
      | (with_reducible exact toeplitz_Hash.mono _ _ _)
      | (with_reducible exact LeO.refl _)
      | (with_reducible exact LeO.none _)
      | (with_reducible refine LeO.ite ?_ ?_)
      | (with_reducible refine LeO.bind ?_ (fun _ => ?_))
      | exact stopcocklaw07_alive.mono _
      | exact toeplitz_Hash.mono _ _ _
      | exact LeO.none _
      | refine LeO.ite ?_ ?_
      | refine LeO.bind ?_ (fun _ => ?_)
set_option maxHeartbeats 8000000 in
set_option maxRecDepth 100000 in
theorem stopcocklaw07_ToeplitzOwns.calls (k : Nat) (A0 : Option Addr) (c0 : Nat) (l0 : List Int) (A1 : Option Addr) (c1 : Nat) (l1 : List Int) (a2_0 : Int) (a2_1 : Int) (a2_2 : Int) (a2_3 : Int) (a2_4 : Int) (r : Bool) (w : World) (hr0 : Kd.C (Kd.int .u8) w A0 l0.length l0) (hc0 : l0.length ≤ c0) (hr1 : Kd.C (Kd.int .i64) w A1 l1.length l1) (hc1 : l1.length ≤ c1) (h : stopcocklaw07_ToeplitzOwns.f k l0 l1 a2_0 a2_1 a2_2 a2_3 a2_4 = some r) (hrt : r = true) :
    Calls Try.prog 7 #[.slice A0 l0.length c0, .slice A1 l1.length c1, .agg #[.int .u32 a2_0, .int .u32 a2_1, .int .u16 a2_2, .int .i64 a2_3, .int .u16 a2_4]] w fun e w' => e = .returned (.bool r) ∧ Below w.heap.size w w' := by
  have hu50 := Try.underlying50; have HRT := Aside0.mk hrt; clear hrt; have HR0 := Aside0.mk hr0; have HC0 := Aside0.mk hc0; clear hr0 hc0; have HR1 := Aside0.mk hr1; have HC1 := Aside0.mk hc1; clear hr1 hc1; have HB := Aside0.mk (Below.refl w.heap.size w); have H : ((stopcocklaw07_alive.f k).bind fun t165 => (if t165 = true then ((toeplitz_Port.f l0 l1 a2_0 a2_1 a2_2 a2_3 a2_4).bind fun bt166 => ((stopcocklaw07_num.f bt166.2).bind fun t168 => (if t168 = 0 then ((toeplitz_Tuple.f a2_1 a2_0 a2_2 bt166.1).bind fun t169 => ((toeplitz_Hash.f k l0 t169).bind fun bt172 => ((toeplitz_Shard.f l1 bt172.1).bind fun bt174 => ((stopcocklaw07_num.f bt172.2).bind fun t176 => ((stopcocklaw07_num.f bt174.2).bind fun t177 => (if (wrap64 (t176 + t177)) = 0 then (if bt174.1 = a2_3 then (some (decide (bt166.1 ≥ 32768))) else (some false)) else (some false))))))) else (some (bt166.1 == 0))))) else (some false))) = some r := h; clear h; replace H := Option.bind_eq_some_iff.mp H; obtain ⟨t165, A40, H⟩ := H; replace H : (if t165 = true then ((toeplitz_Port.f l0 l1 a2_0 a2_1 a2_2 a2_3 a2_4).bind fun bt166 => ((stopcocklaw07_num.f bt166.2).bind fun t168 => (if t168 = 0 then ((toeplitz_Tuple.f a2_1 a2_0 a2_2 bt166.1).bind fun t169 => ((toeplitz_Hash.f k l0 t169).bind fun bt172 => ((toeplitz_Shard.f l1 bt172.1).bind fun bt174 => ((stopcocklaw07_num.f bt172.2).bind fun t176 => ((stopcocklaw07_num.f bt174.2).bind fun t177 => (if (wrap64 (t176 + t177)) = 0 then (if bt174.1 = a2_3 then (some (decide (bt166.1 ≥ 32768))) else (some false)) else (some false))))))) else (some (bt166.1 == 0))))) else (some false)) = some r := H
  have A4 := Aside0.mk A40; clear A40
  by_cases c5 : t165 = true
  · subst c5
    have H1 : ((toeplitz_Port.f l0 l1 a2_0 a2_1 a2_2 a2_3 a2_4).bind fun bt166 => ((stopcocklaw07_num.f bt166.2).bind fun t168 => (if t168 = 0 then ((toeplitz_Tuple.f a2_1 a2_0 a2_2 bt166.1).bind fun t169 => ((toeplitz_Hash.f k l0 t169).bind fun bt172 => ((toeplitz_Shard.f l1 bt172.1).bind fun bt174 => ((stopcocklaw07_num.f bt172.2).bind fun t176 => ((stopcocklaw07_num.f bt174.2).bind fun t177 => (if (wrap64 (t176 + t177)) = 0 then (if bt174.1 = a2_3 then (some (decide (bt166.1 ≥ 32768))) else (some false)) else (some false))))))) else (some (bt166.1 == 0))))) = some r := by rw [if_pos rfl] at H; exact H
    clear H; have H := H1; clear H1; replace H := Option.bind_eq_some_iff.mp H; obtain ⟨⟨t166, t167⟩, A60, H⟩ := H; replace H : ((stopcocklaw07_num.f t167).bind fun t168 => (if t168 = 0 then ((toeplitz_Tuple.f a2_1 a2_0 a2_2 t166).bind fun t169 => ((toeplitz_Hash.f k l0 t169).bind fun bt172 => ((toeplitz_Shard.f l1 bt172.1).bind fun bt174 => ((stopcocklaw07_num.f bt172.2).bind fun t176 => ((stopcocklaw07_num.f bt174.2).bind fun t177 => (if (wrap64 (t176 + t177)) = 0 then (if bt174.1 = a2_3 then (some (decide (t166 ≥ 32768))) else (some false)) else (some false))))))) else (some (t166 == 0)))) = some r := H; have A6 := Aside0.mk A60; clear A60; replace H := Option.bind_eq_some_iff.mp H; obtain ⟨t168, A70, H⟩ := H; replace H : (if t168 = 0 then ((toeplitz_Tuple.f a2_1 a2_0 a2_2 t166).bind fun t169 => ((toeplitz_Hash.f k l0 t169).bind fun bt172 => ((toeplitz_Shard.f l1 bt172.1).bind fun bt174 => ((stopcocklaw07_num.f bt172.2).bind fun t176 => ((stopcocklaw07_num.f bt174.2).bind fun t177 => (if (wrap64 (t176 + t177)) = 0 then (if bt174.1 = a2_3 then (some (decide (t166 ≥ 32768))) else (some false)) else (some false))))))) else (some (t166 == 0))) = some r := H; have A7 := Aside0.mk A70; clear A70
    by_cases c8 : t168 = 0
    · rw [if_pos c8] at H
      have c8b0 : (t168 == 0) = true := beq_iff_eq.mpr c8; have c8b1 : (t168 != 0) = false := bne_eq_false_iff_eq.mpr c8; clear c8; replace H := Option.bind_eq_some_iff.mp H; obtain ⟨t169, A90, H⟩ := H; replace H : ((toeplitz_Hash.f k l0 t169).bind fun bt172 => ((toeplitz_Shard.f l1 bt172.1).bind fun bt174 => ((stopcocklaw07_num.f bt172.2).bind fun t176 => ((stopcocklaw07_num.f bt174.2).bind fun t177 => (if (wrap64 (t176 + t177)) = 0 then (if bt174.1 = a2_3 then (some (decide (t166 ≥ 32768))) else (some false)) else (some false)))))) = some r := H; have A9 := Aside0.mk A90; clear A90; replace H := Option.bind_eq_some_iff.mp H; obtain ⟨⟨t172, t173⟩, A100, H⟩ := H; replace H : ((toeplitz_Shard.f l1 t172).bind fun bt174 => ((stopcocklaw07_num.f t173).bind fun t176 => ((stopcocklaw07_num.f bt174.2).bind fun t177 => (if (wrap64 (t176 + t177)) = 0 then (if bt174.1 = a2_3 then (some (decide (t166 ≥ 32768))) else (some false)) else (some false))))) = some r := H; have A10 := Aside0.mk A100; clear A100; replace H := Option.bind_eq_some_iff.mp H; obtain ⟨⟨t174, t175⟩, A110, H⟩ := H; replace H : ((stopcocklaw07_num.f t173).bind fun t176 => ((stopcocklaw07_num.f t175).bind fun t177 => (if (wrap64 (t176 + t177)) = 0 then (if t174 = a2_3 then (some (decide (t166 ≥ 32768))) else (some false)) else (some false)))) = some r := H; have A11 := Aside0.mk A110; clear A110; replace H := Option.bind_eq_some_iff.mp H; obtain ⟨t176, A120, H⟩ := H; replace H : ((stopcocklaw07_num.f t175).bind fun t177 => (if (wrap64 (t176 + t177)) = 0 then (if t174 = a2_3 then (some (decide (t166 ≥ 32768))) else (some false)) else (some false))) = some r := H
      have A12 := Aside0.mk A120; clear A120; replace H := Option.bind_eq_some_iff.mp H; obtain ⟨t177, A130, H⟩ := H; replace H : (if (wrap64 (t176 + t177)) = 0 then (if t174 = a2_3 then (some (decide (t166 ≥ 32768))) else (some false)) else (some false)) = some r := H; have A13 := Aside0.mk A130; clear A130
      by_cases c14 : (wrap64 (t176 + t177)) = 0
      · rw [if_pos c14] at H
        have c14b0 : ((wrap64 (t176 + t177)) == 0) = true := beq_iff_eq.mpr c14; have c14b1 : ((wrap64 (t176 + t177)) != 0) = false := bne_eq_false_iff_eq.mpr c14; clear c14
        by_cases c15 : t174 = a2_3
        · rw [if_pos c15] at H
          have c15b0 : (t174 == a2_3) = true := beq_iff_eq.mpr c15; have c15b1 : (t174 != a2_3) = false := bne_eq_false_iff_eq.mpr c15; clear c15; obtain rfl := Option.some.inj H
          go_enter Try.func7, Try.ntmps7
          go_wp2_with (first | ((with_reducible refine gate_dst (N := 5) rfl ?_); refine box_event ?hg (N := 5) ?hd (cs := #[.int .u32 a2_0, .int .u32 a2_1, .int .u16 a2_2, .int .i64 a2_3, .int .u16 a2_4]) (t := 50) ?hr ?_; (case hd => rfl); (case hg => rfl); (case hr => first | (go_simp; done) | (go_simp; rfl)); intro gb164 hg w16 hbox hb; have n0_ := Aside0.mk (below_step (bel0 HB.out) hb); have n1_ := Aside0.mk (hbox); have n2_ := Aside0.mk ((by rw [hg]; exact (below_size (bel0 HB.out)) : w.heap.size ≤ gb164)); have n3_ := n2_; clear HB; have HB := n0_; have BK164 := n1_; have GW164 := n2_; have GE164 := n3_; clear n0_ n1_ n2_ n3_; clear hb hbox hg) | ((with_reducible refine gate_callee (f := 8) rfl ?_); refine goesL_ (some 13) rfl rfl Try.func8 (by kernel_rfl) rfl #[] rfl (by (try simp only [List.map_toArray, List.map_cons, List.map_nil]); first | done | rfl | (simp only [List.length_drop, List.length_take]; rfl)) ?_; (with_reducible refine (stopcocklaw07_alive.calls k  true _ A4.out).mono ?_); rintro e w17 ⟨rfl, hb⟩; refine ⟨_, rfl, ?_⟩; have n0_ := Aside0.mk (blk_below (g := gb164) (o := .cells #[.int .u32 a2_0, .int .u32 a2_1, .int .u16 a2_2, .int .i64 a2_3, .int .u16 a2_4] 50 (0, 0)) (skp_ BK164.out) hb); have n1_ := Aside0.mk (below_step (bel1 HB.out GE164.out) hb); clear BK164; clear HB; have BK164 := n0_; have HB := n1_; clear n0_ n1_; (try clear hb); (try clear hb2); (try clear hk); (try clear hi); obtain ⟨hcz18_0, hcz18_1, hcz18_2, hcz18_3, hcz18_4⟩ := cz5 BK164.out; have hfz18_0 := blk_frozen BK164.out) | ((with_reducible refine gate_callee (f := 23) rfl ?_); refine goesL_ (some 28) rfl rfl Try.func23 (by kernel_rfl) rfl #[.slice A0 l0.length c0, .slice A1 l1.length c1, .int .u32 a2_0, .int .u32 a2_1, .int .u16 a2_2, .int .i64 a2_3, .int .u16 a2_4] rfl (by (try simp only [List.map_toArray, List.map_cons, List.map_nil]); first | done | rfl | (simp only [List.length_drop, List.length_take]; rfl)) ?_; (with_reducible refine (toeplitz_Port.calls _ _ l0 _ _ l1 a2_0 a2_1 a2_2 a2_3 a2_4 t166 t167 _ ?side1 ?side2 ?side3 ?side4 A6.out).mono ?_); (case side1 => repeat (first | exact (Kd.C_below HR0.out HB.out) | (with_reducible refine Kd.C_alloc ?_ _) | (with_reducible refine Kd.C_drewN ?_ _) | (with_reducible refine Kd.C_drew ?_))); (case side2 => exact HC0.out); (case side3 => repeat (first | exact (Kd.C_below HR1.out HB.out) | (with_reducible refine Kd.C_alloc ?_ _) | (with_reducible refine Kd.C_drewN ?_ _) | (with_reducible refine Kd.C_drew ?_))); (case side4 => exact HC1.out); rintro e w19 ⟨rfl, hb⟩; refine ⟨_, rfl, ?_⟩; have n0_ := Aside0.mk (blk_below (g := gb164) (o := .cells #[.int .u32 a2_0, .int .u32 a2_1, .int .u16 a2_2, .int .i64 a2_3, .int .u16 a2_4] 50 (0, 0)) (skp_ BK164.out) hb); have n1_ := Aside0.mk (below_step (bel1 HB.out GE164.out) hb); clear BK164; clear HB; have BK164 := n0_; have HB := n1_; clear n0_ n1_; (try clear hb); (try clear hb2); (try clear hk); (try clear hi)) | ((with_reducible refine gate_callee (f := 10) rfl ?_); refine goesL_ (some 32) rfl rfl Try.func10 (by kernel_rfl) rfl #[.int .i64 t167] rfl (by (try simp only [List.map_toArray, List.map_cons, List.map_nil]); first | done | rfl | (simp only [List.length_drop, List.length_take]; rfl)) ?_; (with_reducible refine (stopcocklaw07_num.same t167 t168 _ A7.out).mono ?_); rintro e w' ⟨rfl, rfl⟩; refine ⟨_, rfl, ?_⟩; obtain ⟨hcz20_0, hcz20_1, hcz20_2, hcz20_3, hcz20_4⟩ := cz5 BK164.out; have hfz20_0 := blk_frozen BK164.out) | ((with_reducible refine gate_callee (f := 11) rfl ?_); refine goesL_ (some 45) rfl rfl Try.func11 (by kernel_rfl) rfl #[.int .u32 a2_1, .int .u32 a2_0, .int .u16 a2_2, .int .u16 t166] rfl (by (try simp only [List.map_toArray, List.map_cons, List.map_nil]); first | done | rfl | (simp only [List.length_drop, List.length_take]; rfl)) ?_; (with_reducible refine (toeplitz_Tuple.calls a2_1 a2_0 a2_2 t166 t169 _ A9.out).mono ?_); rintro e w21 ⟨v170, rfl, ho0, hb⟩; refine ⟨_, rfl, ?_⟩; have n0_ := Aside0.mk (Kd.R_lower ho0 (below_size (bel1 HB.out GE164.out))); have n1_ := Aside0.mk (blk_below (g := gb164) (o := .cells #[.int .u32 a2_0, .int .u32 a2_1, .int .u16 a2_2, .int .i64 a2_3, .int .u16 a2_4] 50 (0, 0)) (skp_ BK164.out) hb); have n2_ := Aside0.mk (below_step (bel1 HB.out GE164.out) hb); clear BK164; clear HB; have HO171 := n0_; have BK164 := n1_; have HB := n2_; clear n0_ n1_ n2_; (try clear hb); (try clear hb2); (try clear hk); (try clear hi); (try clear ho0); obtain ⟨Ao22, co22, eo22⟩ := Kd.R_slice HO171.out; subst eo22) | ((with_reducible refine gate_callee (f := 9) rfl ?_); refine goesL_ (some 46) rfl rfl Try.func9 (by kernel_rfl) rfl #[.slice A0 l0.length c0, .slice Ao22 t169.length co22] rfl (by (try simp only [List.map_toArray, List.map_cons, List.map_nil]); first | done | rfl | (simp only [List.length_drop, List.length_take]; rfl)) ?_; (with_reducible refine (toeplitz_Hash.calls k _ _ l0 _ _ t169 t172 t173 _ ?side1 ?side2 ?side3 ?side4 A10.out).mono ?_); (case side1 => repeat (first | exact (Kd.C_below HR0.out HB.out) | (with_reducible refine Kd.C_alloc ?_ _) | (with_reducible refine Kd.C_drewN ?_ _) | (with_reducible refine Kd.C_drew ?_))); (case side2 => exact HC0.out); (case side3 => repeat (first | exact (Kd.R_reads' HO171.out).2.2 | (with_reducible refine Kd.C_alloc ?_ _) | (with_reducible refine Kd.C_drewN ?_ _) | (with_reducible refine Kd.C_drew ?_))); (case side4 => exact (Kd.R_reads' HO171.out).2.1); rintro e w' ⟨rfl, ⟨nd, rfl⟩⟩; refine ⟨_, rfl, ?_⟩) | ((with_reducible refine gate_callee (f := 17) rfl ?_); refine goesL_ (some 52) rfl rfl Try.func17 (by kernel_rfl) rfl #[.slice A1 l1.length c1, .int .u32 t172] rfl (by (try simp only [List.map_toArray, List.map_cons, List.map_nil]); first | done | rfl | (simp only [List.length_drop, List.length_take]; rfl)) ?_; (with_reducible refine (toeplitz_Shard.calls _ _ l1 t172 t174 t175 _ ?side1 ?side2 A11.out).mono ?_); (case side1 => repeat (first | exact (Kd.C_below HR1.out (bel1 HB.out GE164.out)) | (with_reducible refine Kd.C_alloc ?_ _) | (with_reducible refine Kd.C_drewN ?_ _) | (with_reducible refine Kd.C_drew ?_))); (case side2 => exact HC1.out); rintro e w' ⟨rfl, ⟨nd, rfl⟩⟩; refine ⟨_, rfl, ?_⟩) | ((with_reducible refine gate_callee (f := 10) rfl ?_); refine goesL_ (some 56) rfl rfl Try.func10 (by kernel_rfl) rfl #[.int .i64 t173] rfl (by (try simp only [List.map_toArray, List.map_cons, List.map_nil]); first | done | rfl | (simp only [List.length_drop, List.length_take]; rfl)) ?_; (with_reducible refine (stopcocklaw07_num.same t173 t176 _ A12.out).mono ?_); rintro e w' ⟨rfl, rfl⟩; refine ⟨_, rfl, ?_⟩) | ((with_reducible refine gate_callee (f := 10) rfl ?_); refine goesL_ (some 58) rfl rfl Try.func10 (by kernel_rfl) rfl #[.int .i64 t175] rfl (by (try simp only [List.map_toArray, List.map_cons, List.map_nil]); first | done | rfl | (simp only [List.length_drop, List.length_take]; rfl)) ?_; (with_reducible refine (stopcocklaw07_num.same t175 t177 _ A13.out).mono ?_); rintro e w' ⟨rfl, rfl⟩; refine ⟨_, rfl, ?_⟩; obtain ⟨hcz23_0, hcz23_1, hcz23_2, hcz23_3, hcz23_4⟩ := cz5 BK164.out; have hfz23_0 := blk_frozen BK164.out))
          go_ret
          exact ⟨by first | rfl | (simp [errW_none, errW_some] <;> rfl) | (simp [*, errW_none, errW_some] <;> rfl), by exact bel1 HB.out GE164.out⟩
        rw [if_neg c15] at H; have c15b0 : (t174 == a2_3) = false := beq_eq_false_iff_ne.mpr c15; have c15b1 : (t174 != a2_3) = true := bne_iff_ne.mpr c15; exact absurd ((Option.some.inj H).trans HRT.out) (by decide)
      rw [if_neg c14] at H; have c14b0 : ((wrap64 (t176 + t177)) == 0) = false := beq_eq_false_iff_ne.mpr c14; have c14b1 : ((wrap64 (t176 + t177)) != 0) = true := bne_iff_ne.mpr c14; exact absurd ((Option.some.inj H).trans HRT.out) (by decide)
    rw [if_neg c8] at H; have c8b0 : (t168 == 0) = false := beq_eq_false_iff_ne.mpr c8; have c8b1 : (t168 != 0) = true := bne_iff_ne.mpr c8; obtain rfl := Option.some.inj H
    go_enter Try.func7, Try.ntmps7
    go_wp2_with (first | ((with_reducible refine gate_dst (N := 5) rfl ?_); refine box_event ?hg (N := 5) ?hd (cs := #[.int .u32 a2_0, .int .u32 a2_1, .int .u16 a2_2, .int .i64 a2_3, .int .u16 a2_4]) (t := 50) ?hr ?_; (case hd => rfl); (case hg => rfl); (case hr => first | (go_simp; done) | (go_simp; rfl)); intro gb164 hg w24 hbox hb; have n0_ := Aside0.mk (below_step (bel0 HB.out) hb); have n1_ := Aside0.mk (hbox); have n2_ := Aside0.mk ((by rw [hg]; exact (below_size (bel0 HB.out)) : w.heap.size ≤ gb164)); have n3_ := n2_; clear HB; have HB := n0_; have BK164 := n1_; have GW164 := n2_; have GE164 := n3_; clear n0_ n1_ n2_ n3_; clear hb hbox hg) | ((with_reducible refine gate_callee (f := 8) rfl ?_); refine goesL_ (some 13) rfl rfl Try.func8 (by kernel_rfl) rfl #[] rfl (by (try simp only [List.map_toArray, List.map_cons, List.map_nil]); first | done | rfl | (simp only [List.length_drop, List.length_take]; rfl)) ?_; (with_reducible refine (stopcocklaw07_alive.calls k  true _ A4.out).mono ?_); rintro e w25 ⟨rfl, hb⟩; refine ⟨_, rfl, ?_⟩; have n0_ := Aside0.mk (blk_below (g := gb164) (o := .cells #[.int .u32 a2_0, .int .u32 a2_1, .int .u16 a2_2, .int .i64 a2_3, .int .u16 a2_4] 50 (0, 0)) (skp_ BK164.out) hb); have n1_ := Aside0.mk (below_step (bel1 HB.out GE164.out) hb); clear BK164; clear HB; have BK164 := n0_; have HB := n1_; clear n0_ n1_; (try clear hb); (try clear hb2); (try clear hk); (try clear hi); obtain ⟨hcz26_0, hcz26_1, hcz26_2, hcz26_3, hcz26_4⟩ := cz5 BK164.out; have hfz26_0 := blk_frozen BK164.out) | ((with_reducible refine gate_callee (f := 23) rfl ?_); refine goesL_ (some 28) rfl rfl Try.func23 (by kernel_rfl) rfl #[.slice A0 l0.length c0, .slice A1 l1.length c1, .int .u32 a2_0, .int .u32 a2_1, .int .u16 a2_2, .int .i64 a2_3, .int .u16 a2_4] rfl (by (try simp only [List.map_toArray, List.map_cons, List.map_nil]); first | done | rfl | (simp only [List.length_drop, List.length_take]; rfl)) ?_; (with_reducible refine (toeplitz_Port.calls _ _ l0 _ _ l1 a2_0 a2_1 a2_2 a2_3 a2_4 t166 t167 _ ?side1 ?side2 ?side3 ?side4 A6.out).mono ?_); (case side1 => repeat (first | exact (Kd.C_below HR0.out HB.out) | (with_reducible refine Kd.C_alloc ?_ _) | (with_reducible refine Kd.C_drewN ?_ _) | (with_reducible refine Kd.C_drew ?_))); (case side2 => exact HC0.out); (case side3 => repeat (first | exact (Kd.C_below HR1.out HB.out) | (with_reducible refine Kd.C_alloc ?_ _) | (with_reducible refine Kd.C_drewN ?_ _) | (with_reducible refine Kd.C_drew ?_))); (case side4 => exact HC1.out); rintro e w27 ⟨rfl, hb⟩; refine ⟨_, rfl, ?_⟩; have n0_ := Aside0.mk (blk_below (g := gb164) (o := .cells #[.int .u32 a2_0, .int .u32 a2_1, .int .u16 a2_2, .int .i64 a2_3, .int .u16 a2_4] 50 (0, 0)) (skp_ BK164.out) hb); have n1_ := Aside0.mk (below_step (bel1 HB.out GE164.out) hb); clear BK164; clear HB; have BK164 := n0_; have HB := n1_; clear n0_ n1_; (try clear hb); (try clear hb2); (try clear hk); (try clear hi)) | ((with_reducible refine gate_callee (f := 10) rfl ?_); refine goesL_ (some 32) rfl rfl Try.func10 (by kernel_rfl) rfl #[.int .i64 t167] rfl (by (try simp only [List.map_toArray, List.map_cons, List.map_nil]); first | done | rfl | (simp only [List.length_drop, List.length_take]; rfl)) ?_; (with_reducible refine (stopcocklaw07_num.same t167 t168 _ A7.out).mono ?_); rintro e w' ⟨rfl, rfl⟩; refine ⟨_, rfl, ?_⟩))
    go_ret
    exact ⟨by first | rfl | (simp [errW_none, errW_some] <;> rfl) | (simp [*, errW_none, errW_some] <;> rfl), by exact bel1 HB.out GE164.out⟩
  replace c5 := Bool.eq_false_iff.mpr c5
  subst c5
  have H1 : (some false) = some r := by rw [if_neg (show ¬ (false = true) by decide)] at H; exact H
  clear H; have H := H1; clear H1; exact absurd ((Option.some.inj H).trans HRT.out) (by decide)

/-- THE ONE PURE STATEMENT of stopcocklaw07_ToeplitzOwns. -/
def stopcocklaw07_ToeplitzOwns.Pure : Prop := ∀ (l0 : List Int) (l1 : List Int) (a2_0 : Int) (a2_1 : Int) (a2_2 : Int) (a2_3 : Int) (a2_4 : Int), l0.length * 1 ≤ 140737488351232 → (∀ y ∈ l0, (Lit.int .u8 y).wf = true) → l1.length * 8 ≤ 140737488351232 → (∀ y ∈ l1, (Lit.int .i64 y).wf = true) → ((Lit.int .u32 a2_0).wf = true) → ((Lit.int .u32 a2_1).wf = true) → ((Lit.int .u16 a2_2).wf = true) → ((Lit.int .i64 a2_3).wf = true) → ((Lit.int .u16 a2_4).wf = true) → ∃ k, stopcocklaw07_ToeplitzOwns.f k l0 l1 a2_0 a2_1 a2_2 a2_3 a2_4 = some true

end Go.Proofs.Ytgfghinjjidcoaa.PB
