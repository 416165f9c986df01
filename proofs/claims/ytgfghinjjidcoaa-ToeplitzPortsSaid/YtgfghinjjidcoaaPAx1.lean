-- Written by a program of this session (wip/tools/mkprint.py, mp.sh) for this claim.
import Derived.Test.YtgfghinjjidcoaaPAx0
namespace Go.Proofs.Ytgfghinjjidcoaa.PA
open Go.RowKit Go.Proofs.YtgfghinjjidcoaaW.PrintWords Go.Proofs.YtgfghinjjidcoaaW.PrintLast Go.Proofs.YtgfghinjjidcoaaW.PrintMore
attribute [local go_sem] max2_int min2_int max_two min_two max_three min_three max_four min_four   -- for this text's walks alone
set_option linter.unusedVariables false
set_option linter.unusedSimpArgs false

/-! ### toeplitz_Hash: function 9 -/
mutual
def toeplitz_Hash.j0 : Nat → List Int → List Int → Bool → Option (Int × Int)
  | 0, _, _, _ => none
  | k + 1, x0, x1, x20 => if x20 = true then (some (0, 3)) else (if 8 ≤ (x0.length : Int) then (toeplitz_Hash.l0 k x0 x1 0 (x0.take 8) ((x0.take 8).length : Int) 0) else (none))
def toeplitz_Hash.l0 : Nat → List Int → List Int → Int → List Int → Int → Int → Option (Int × Int)
  | 0, _, _, _, _, _, _ => none
  | k + 1, x0, x1, x6, x22, x23, x24 => if x24 < x23 then (if 0 ≤ x24 then (if x24 < (x22.length : Int) then (toeplitz_Hash.l0 k x0 x1 (Go.bits .or .u64 (IntKind.u64.wrap (x6 * 256)) (IntKind.u64.wrap (rd x22 x24))) x22 x23 (wrap64 (x24 + 1))) else (none)) else (none)) else (toeplitz_Hash.l1 k x0 x6 0 x1 (x1.length : Int) 0)
def toeplitz_Hash.l1 : Nat → List Int → Int → Int → List Int → Int → Int → Option (Int × Int)
  | 0, _, _, _, _, _, _ => none
  | k + 1, x0, x6, x9, x34, x35, x36 => if x36 < x35 then (if 0 ≤ x36 then (if x36 < (x34.length : Int) then (toeplitz_Hash.l2 k x0 x6 x9 x36 (rd x34 x36) x34 x35 x36 0) else (none)) else (none)) else (some (x9, 0))
def toeplitz_Hash.l2 : Nat → List Int → Int → Int → Int → Int → List Int → Int → Int → Int → Option (Int × Int)
  | 0, _, _, _, _, _, _, _, _, _ => none
  | k + 1, x0, x6, x9, x10, x11, x34, x35, x36, x41 => if x41 < 8 then (if 0 ≤ x41 then (if (Go.bits .and .u8 (shl .u8 x11 x41) 128) = 0 then (toeplitz_Hash.l2 k x0 x6 x9 x10 x11 x34 x35 x36 (wrap64 (x41 + 1))) else (toeplitz_Hash.l2 k x0 x6 (Go.bits .xor .u32 x9 (((shl .u64 x6 x41) / 4294967296) % 4294967296)) x10 x11 x34 x35 x36 (wrap64 (x41 + 1)))) else (none)) else (if (wrap64 (x10 + 8)) < (x0.length : Int) then (if 0 ≤ (wrap64 (x10 + 8)) then (toeplitz_Hash.l1 k x0 (Go.bits .or .u64 (IntKind.u64.wrap (x6 * 256)) (IntKind.u64.wrap (rd x0 (wrap64 (x10 + 8))))) x9 x34 x35 (wrap64 (x36 + 1))) else (none)) else (toeplitz_Hash.l1 k x0 (IntKind.u64.wrap (x6 * 256)) x9 x34 x35 (wrap64 (x36 + 1))))
end
def toeplitz_Hash.f (k : Nat) (l0 : List Int) (l1 : List Int) : Option (Int × Int) := if (l0.length : Int) = 40 then (toeplitz_Hash.j0 k l0 l1 (decide ((l1.length : Int) > 36))) else (toeplitz_Hash.j0 k l0 l1 true)
theorem toeplitz_Hash.mono_l : ∀ k, (∀ y0 y1 y2, LeO (toeplitz_Hash.j0 k y0 y1 y2) (toeplitz_Hash.j0 (k + 1) y0 y1 y2)) ∧ (∀ y0 y1 y2 y3 y4 y5, LeO (toeplitz_Hash.l0 k y0 y1 y2 y3 y4 y5) (toeplitz_Hash.l0 (k + 1) y0 y1 y2 y3 y4 y5)) ∧ (∀ y0 y1 y2 y3 y4 y5, LeO (toeplitz_Hash.l1 k y0 y1 y2 y3 y4 y5) (toeplitz_Hash.l1 (k + 1) y0 y1 y2 y3 y4 y5)) ∧ (∀ y0 y1 y2 y3 y4 y5 y6 y7 y8, LeO (toeplitz_Hash.l2 k y0 y1 y2 y3 y4 y5 y6 y7 y8) (toeplitz_Hash.l2 (k + 1) y0 y1 y2 y3 y4 y5 y6 y7 y8))
  | 0 => ⟨fun _ _ _ r h => by simp [toeplitz_Hash.j0] at h, fun _ _ _ _ _ _ r h => by simp [toeplitz_Hash.l0] at h, fun _ _ _ _ _ _ r h => by simp [toeplitz_Hash.l1] at h, fun _ _ _ _ _ _ _ _ _ r h => by simp [toeplitz_Hash.l2] at h⟩
  | k + 1 => by
    obtain ⟨ih0, ih1, ih2, ih3⟩ := toeplitz_Hash.mono_l k; refine ⟨?_, ?_, ?_, ?_⟩
    · intro y0 y1 y2
      unfold toeplitz_Hash.j0
      repeat' first
      | (with_reducible exact ih0 _ _ _)
      | (with_reducible exact ih1 _ _ _ _ _ _)
      | (with_reducible exact ih2 _ _ _ _ _ _)
      | (with_reducible exact ih3 _ _ _ _ _ _ _ _ _)
      | (with_reducible exact LeO.refl _)
      | (with_reducible exact LeO.none _)
      | (with_reducible refine LeO.ite ?_ ?_)
      | (with_reducible refine LeO.bind ?_ (fun _ => ?_))
      | exact ih0 _ _ _
      | exact ih1 _ _ _ _ _ _
      | exact ih2 _ _ _ _ _ _
      | exact ih3 _ _ _ _ _ _ _ _ _
      | exact LeO.none _
      | refine LeO.ite ?_ ?_
      | refine LeO.bind ?_ (fun _ => ?_)
    · intro y0 y1 y2 y3 y4 y5
      unfold toeplitz_Hash.l0
      repeat' first
      | (with_reducible exact ih0 _ _ _)
      | (with_reducible exact ih1 _ _ _ _ _ _)
      | (with_reducible exact ih2 _ _ _ _ _ _)
      | (with_reducible exact ih3 _ _ _ _ _ _ _ _ _)
      | (with_reducible exact LeO.refl _)
      | (with_reducible exact LeO.none _)
      | (with_reducible refine LeO.ite ?_ ?_)
      | (with_reducible refine LeO.bind ?_ (fun _ => ?_))
      | exact ih0 _ _ _
      | exact ih1 _ _ _ _ _ _
      | exact ih2 _ _ _ _ _ _
      | exact ih3 _ _ _ _ _ _ _ _ _
      | exact LeO.none _
      | refine LeO.ite ?_ ?_
      | refine LeO.bind ?_ (fun _ => ?_)
    · intro y0 y1 y2 y3 y4 y5
      unfold toeplitz_Hash.l1
      repeat' first
      | (with_reducible exact ih0 _ _ _)
      | (with_reducible exact ih1 _ _ _ _ _ _)
      | (with_reducible exact ih2 _ _ _ _ _ _)
      | (with_reducible exact ih3 _ _ _ _ _ _ _ _ _)
      | (with_reducible exact LeO.refl _)
      | (with_reducible exact LeO.none _)
      | (with_reducible refine LeO.ite ?_ ?_)
      | (with_reducible refine LeO.bind ?_ (fun _ => ?_))
      | exact ih0 _ _ _
      | exact ih1 _ _ _ _ _ _
      | exact ih2 _ _ _ _ _ _
      | exact ih3 _ _ _ _ _ _ _ _ _
      | exact LeO.none _
      | refine LeO.ite ?_ ?_
      | refine LeO.bind ?_ (fun _ => ?_)
    · intro y0 y1 y2 y3 y4 y5 y6 y7 y8
      unfold toeplitz_Hash.l2
      repeat' first
      | (with_reducible exact ih0 _ _ _)
      | (with_reducible exact ih1 _ _ _ _ _ _)
      | (with_reducible exact ih2 _ _ _ _ _ _)
      | (with_reducible exact ih3 _ _ _ _ _ _ _ _ _)
      | (with_reducible exact LeO.refl _)
      | (with_reducible exact LeO.none _)
      | (with_reducible refine LeO.ite ?_ ?_)
      | (with_reducible refine LeO.bind ?_ (fun _ => ?_))
      | exact ih0 _ _ _
      | exact ih1 _ _ _ _ _ _
      | exact ih2 _ _ _ _ _ _
      | exact ih3 _ _ _ _ _ _ _ _ _
      | exact LeO.none _
      | refine LeO.ite ?_ ?_
      | refine LeO.bind ?_ (fun _ => ?_)
theorem toeplitz_Hash.mono : ∀ a0 a1 k, LeO (toeplitz_Hash.f k a0 a1) (toeplitz_Hash.f (k + 1) a0 a1) := by
  intro a0 a1 k; obtain ⟨ih0, ih1, ih2, ih3⟩ := toeplitz_Hash.mono_l k
  unfold toeplitz_Hash.f
  repeat' first
      | (with_reducible exact ih0 _ _ _)
      | (with_reducible exact ih1 _ _ _ _ _ _)
      | (with_reducible exact ih2 _ _ _ _ _ _)
      | (with_reducible exact ih3 _ _ _ _ _ _ _ _ _)
      | (with_reducible exact LeO.refl _)
      | (with_reducible exact LeO.none _)
      | (with_reducible refine LeO.ite ?_ ?_)
      | (with_reducible refine LeO.bind ?_ (fun _ => ?_))
      | exact ih0 _ _ _
      | exact ih1 _ _ _ _ _ _
      | exact ih2 _ _ _ _ _ _
      | exact ih3 _ _ _ _ _ _ _ _ _
      | exact LeO.none _
      | refine LeO.ite ?_ ?_
      | refine LeO.bind ?_ (fun _ => ?_)
set_option maxHeartbeats 8000000 in
set_option maxRecDepth 100000 in
theorem toeplitz_Hash.calls (k : Nat) (A0 : Option Addr) (c0 : Nat) (l0 : List Int) (A1 : Option Addr) (c1 : Nat) (l1 : List Int) (r1 : Int) (r2 : Int) (w : World) (hr0 : Kd.C (Kd.int .u8) w A0 l0.length l0) (hc0 : l0.length ≤ c0) (hr1 : Kd.C (Kd.int .u8) w A1 l1.length l1) (hc1 : l1.length ≤ c1) (h : toeplitz_Hash.f k l0 l1 = some (r1, r2)) :
    Calls Try.prog 9 #[.slice A0 l0.length c0, .slice A1 l1.length c1] w fun e w' => e = .returned (.tuple #[.int .u32 r1, .int .i64 r2]) ∧ Drawn0 w w' := by
  have HR0 := Aside0.mk hr0; have HC0 := Aside0.mk hc0; clear hr0 hc0; have HR1 := Aside0.mk hr1; have HC1 := Aside0.mk hc1; clear hr1 hc1; have H : (if (l0.length : Int) = 40 then (toeplitz_Hash.j0 k l0 l1 (decide ((l1.length : Int) > 36))) else (toeplitz_Hash.j0 k l0 l1 true)) = some (r1, r2) := h; clear h; have HC3 := Aside0.mk H; clear H
  go_enter Try.func9, Try.ntmps9
  go_upto_region 1 with (fail)
  go_cut [20] (fun v20 wc => ∃ (kq : Nat) (x20_2 : Bool), v20 = .bool x20_2 ∧ Aside0 (toeplitz_Hash.j0 kq l0 l1 x20_2 = some (r1, r2)) ∧ Aside0 (kq ≤ k) ∧ Drawn0 w wc)
  case first =>
    have H := HC3.out; clear HC3
    by_cases c4 : (l0.length : Int) = 40
    · rw [if_pos c4] at H
      have c4b0 : ((l0.length : Int) == 40) = true := beq_iff_eq.mpr c4; have c4b1 : ((l0.length : Int) != 40) = false := bne_eq_false_iff_eq.mpr c4; clear c4
      (first | rw [c4b0] | (simp only [i64_w, i32_w]; rw [c4b0]) | skip)
      have H' := Aside0.mk H; clear H
      go_wp2
      go_meet
      case rel => exact ⟨_, (decide ((l1.length : Int) > 36)), (by first | rfl | (simp; done) | (simp [*]; done)), H', ⟨by first | omega | exact Nat.le_refl _⟩, by repeat (first | exact Drawn0.refl _ | apply Drawn0.step)⟩
    rw [if_neg c4] at H; have c4b0 : ((l0.length : Int) == 40) = false := beq_eq_false_iff_ne.mpr c4; have c4b1 : ((l0.length : Int) != 40) = true := bne_iff_ne.mpr c4
    (first | rw [c4b0] | (simp only [i64_w, i32_w]; rw [c4b0]) | skip)
    have H' := Aside0.mk H; clear H
    go_wp2
    go_meet
    case rel => exact ⟨_, (true), (by first | rfl | (simp; done) | (simp [*]; done)), H', ⟨by first | omega | exact Nat.le_refl _⟩, by repeat (first | exact Drawn0.refl _ | apply Drawn0.step)⟩
  case rest =>
    clear HC3
    try clear c1
    try clear p2
    try clear c4
    try clear c4b0
    try clear c4b1
    obtain ⟨kq, x20_2, rfl, HA, HJ2, ⟨mc2, rfl⟩⟩ := hcut
    cases kq with
    | zero => exact absurd HA.out (by simp [toeplitz_Hash.j0])
    | succ kj2 =>
      have H := HA.out; clear HA
      simp only [toeplitz_Hash.j0] at H
      by_cases c5 : x20_2 = true
      · subst c5
        have H1 : (some (0, 3)) = some (r1, r2) := by rw [if_pos rfl] at H; exact H
        clear H; have H := H1; clear H1
        simp only [Option.some.injEq, Prod.mk.injEq] at H
        obtain ⟨rfl, rfl⟩ := H
        go_wp2
        go_ret2
        exact ⟨by first | rfl | (simp; done) | (simp [*]; done), by repeat (first | exact Drawn0.refl _ | apply Drawn0.step)⟩
      replace c5 := Bool.eq_false_iff.mpr c5
      subst c5
      have H1 : (if 8 ≤ (l0.length : Int) then (toeplitz_Hash.l0 kj2 l0 l1 0 (l0.take 8) ((l0.take 8).length : Int) 0) else (none)) = some (r1, r2) := by rw [if_neg (show ¬ (false = true) by decide)] at H; exact H
      clear H; have H := H1; clear H1
      by_cases c6 : 8 ≤ (l0.length : Int)
      · rw [if_pos c6] at H
        have c6b0 := eq_true c6; have c6b1 : decide (8 ≤ (l0.length : Int)) = true := decide_eq_true c6; clear c6; have H' := Aside0.mk H; clear H; obtain ⟨i07, hi07, _, hsz7, _⟩ := info_parts info5; obtain ⟨hcut7, hA7, hC7⟩ := print_take_of (P := Try.prog) (Value.int .u8) 0 22 5 .i64 Try.underlying22 hi07 hsz7 A0 c0 l0 8 (by omega) (of_decide_eq_true (by first | (with_reducible assumption) | assumption)) HC0.out; have HR101 := Aside0.mk (Kd.C_of_reads (h1 := fun _ => rfl) (hA7 _ (Kd.reads_of_C HR0.out))); have HC101 := Aside0.mk hC7; clear hA7 hC7 hi07 hsz7
        go_wp2
        go_loopg [6, 24] kj2 (fun kq v6 v24 w' => ∃ (x6_2 : Int) (x24_2 : Int), v6 = .int .u64 x6_2 ∧ v24 = .int .i64 x24_2 ∧ Aside0 (toeplitz_Hash.l0 kq l0 l1 x6_2 (l0.take 8) ((l0.take 8).length : Int) x24_2 = some (r1, r2)) ∧ Aside0 (kq ≤ kj2) ∧ Drawn0 w w')
        case atStart => exact ⟨(0), (0), (by first | rfl | (simp; done) | (simp [*]; done)), (by first | rfl | (simp; done) | (simp [*]; done)), H', ⟨Nat.le_refl _⟩, by repeat (first | exact Drawn0.refl _ | apply Drawn0.step)⟩
        case round =>
          clear H'
          try clear c1
          try clear c2
          try clear p2
          try clear c4
          try clear c4b0
          try clear c4b1
          try clear c5
          try clear c6
          try clear c6b0
          try clear c6b1
          try clear p2
          obtain ⟨x6_2, x24_2, rfl, rfl, HA, HK2, ⟨m2, rfl⟩⟩ := hrel
          cases gk with
          | zero => exact absurd HA.out (by simp [toeplitz_Hash.l0])
          | succ k2 =>
            have H := HA.out; clear HA
            simp only [toeplitz_Hash.l0] at H
            by_cases c8 : x24_2 < ((l0.take 8).length : Int)
            · rw [if_pos c8] at H
              have c8b0 : decide (x24_2 < ((l0.take 8).length : Int)) = true := decide_eq_true c8; have c8b0m : decide (x24_2 < ((min 8 l0.length : Nat) : Int)) = true := (by rw [← List.length_take]; exact c8b0); clear c8
              by_cases c9 : 0 ≤ x24_2
              · rw [if_pos c9] at H
                have c9b0 : decide (0 ≤ x24_2) = true := decide_eq_true c9; clear c9
                by_cases c10 : x24_2 < ((l0.take 8).length : Int)
                · rw [if_pos c10] at H
                  have c10b0 : decide (x24_2 < ((l0.take 8).length : Int)) = true := decide_eq_true c10; have c10b0m : decide (x24_2 < ((min 8 l0.length : Nat) : Int)) = true := (by rw [← List.length_take]; exact c10b0); clear c10; have H' := Aside0.mk H; clear H; have p102 : 0 ≤ (x24_2 : Int) := of_decide_eq_true (by first | (with_reducible assumption) | assumption); have q102 : x24_2 < ((l0.take 8).length : Int) := of_decide_eq_true (by first | (with_reducible assumption) | assumption); have q102m : x24_2 < ((min 8 l0.length : Nat) : Int) := (by rw [← List.length_take]; exact q102); obtain ⟨ad102, e102, hx102_0⟩ := Kd.at_int HR101.out x24_2 p102 q102
                  cases e102
                  replace p102 := eq_true p102; replace q102 := eq_true q102
                  go_wp2
                  go_roundg k2
                  case measure => have := HJ2.out; have := HK2.out; omega
                  case rel => exact ⟨(Go.bits .or .u64 (IntKind.u64.wrap (x6_2 * 256)) (IntKind.u64.wrap (rd (l0.take 8) x24_2))), (wrap64 (x24_2 + 1)), (by first | rfl | (simp; done) | (simp [*]; done)), (by first | rfl | (simp; done) | (simp [*]; done)), H', ⟨by have := HJ2.out; have := HK2.out; omega⟩, by repeat (first | exact Drawn0.refl _ | apply Drawn0.step)⟩
                rw [if_neg c10] at H; exact absurd H (by simp)
              rw [if_neg c9] at H; exact absurd H (by simp)
            rw [if_neg c8] at H; have c8b0 : decide (x24_2 < ((l0.take 8).length : Int)) = false := decide_eq_false c8; have c8b0m : decide (x24_2 < ((min 8 l0.length : Nat) : Int)) = false := (by rw [← List.length_take]; exact c8b0); clear c8; have H' := Aside0.mk H; clear H
            go_wp2
            go_loopg [6, 9, 36] k2 (fun kq v6 v9 v36 w' => ∃ (x6_3 : Int) (x9_3 : Int) (x36_3 : Int), v6 = .int .u64 x6_3 ∧ v9 = .int .u32 x9_3 ∧ v36 = .int .i64 x36_3 ∧ Aside0 (toeplitz_Hash.l1 kq l0 x6_3 x9_3 l1 (l1.length : Int) x36_3 = some (r1, r2)) ∧ Aside0 (kq ≤ k2) ∧ Drawn0 w w')
            case atStart => exact ⟨(x6_2), (0), (0), (by first | rfl | (simp; done) | (simp [*]; done)), (by first | rfl | (simp; done) | (simp [*]; done)), (by first | rfl | (simp; done) | (simp [*]; done)), H', ⟨Nat.le_refl _⟩, by repeat (first | exact Drawn0.refl _ | apply Drawn0.step)⟩
            case round =>
              clear H'
              try clear c1
              try clear p1
              try clear q1
              try clear hx1
              try clear c2
              try clear p2
              try clear c4
              try clear c4b0
              try clear c4b1
              try clear c5
              try clear c6
              try clear c6b0
              try clear c6b1
              try clear p6
              try clear c8
              try clear c8b0
              try clear c9
              try clear c9b0
              try clear c10
              try clear c10b0
              try clear p10
              try clear q10
              try clear hx10
              try clear hx102_0
              try clear p102
              try clear p2
              try clear q102
              obtain ⟨x6_3, x9_3, x36_3, rfl, rfl, rfl, HA, HK3, ⟨m3, rfl⟩⟩ := hrel
              cases gk with
              | zero => exact absurd HA.out (by simp [toeplitz_Hash.l1])
              | succ k3 =>
                have H := HA.out; clear HA
                simp only [toeplitz_Hash.l1] at H
                by_cases c11 : x36_3 < (l1.length : Int)
                · rw [if_pos c11] at H
                  have c11b0 : decide (x36_3 < (l1.length : Int)) = true := decide_eq_true c11; clear c11
                  by_cases c12 : 0 ≤ x36_3
                  · rw [if_pos c12] at H
                    have c12b0 : decide (0 ≤ x36_3) = true := decide_eq_true c12; clear c12
                    by_cases c13 : x36_3 < (l1.length : Int)
                    · rw [if_pos c13] at H
                      have c13b0 : decide (x36_3 < (l1.length : Int)) = true := decide_eq_true c13; clear c13; have H' := Aside0.mk H; clear H; have p103 : 0 ≤ (x36_3 : Int) := of_decide_eq_true (by first | (with_reducible assumption) | assumption); have q103 : x36_3 < (l1.length : Int) := of_decide_eq_true (by first | (with_reducible assumption) | assumption); obtain ⟨ad103, e103, hx103_0⟩ := Kd.at_int HR1.out x36_3 p103 q103
                      cases e103
                      replace p103 := eq_true p103; replace q103 := eq_true q103
                      go_wp2
                      go_loopg [9, 41] k3 (fun kq v9 v41 w' => ∃ (x9_4 : Int) (x41_4 : Int), v9 = .int .u32 x9_4 ∧ v41 = .int .i64 x41_4 ∧ Aside0 (toeplitz_Hash.l2 kq l0 x6_3 x9_4 x36_3 (rd l1 x36_3) l1 (l1.length : Int) x36_3 x41_4 = some (r1, r2)) ∧ Aside0 (kq ≤ k3) ∧ Drawn0 w w')
                      case atStart => exact ⟨(x9_3), (0), (by first | rfl | (simp; done) | (simp [*]; done)), (by first | rfl | (simp; done) | (simp [*]; done)), H', ⟨Nat.le_refl _⟩, by repeat (first | exact Drawn0.refl _ | apply Drawn0.step)⟩
                      case round =>
                        clear H'
                        try clear c1
                        try clear p1
                        try clear q1
                        try clear hx1
                        try clear c2
                        try clear p2
                        try clear c4
                        try clear c4b0
                        try clear c4b1
                        try clear c5
                        try clear c6
                        try clear c6b0
                        try clear c6b1
                        try clear p6
                        try clear c8
                        try clear c8b0
                        try clear c9
                        try clear c9b0
                        try clear c10
                        try clear c10b0
                        try clear p10
                        try clear q10
                        try clear hx10
                        try clear c11
                        try clear c11b0
                        try clear c12
                        try clear c12b0
                        try clear c13
                        try clear c13b0
                        try clear hx102_0
                        try clear hx103_0
                        try clear p1
                        try clear p10
                        try clear p102
                        try clear p103
                        try clear p2
                        try clear p6
                        try clear q1
                        try clear q10
                        try clear q102
                        try clear q103
                        obtain ⟨x9_4, x41_4, rfl, rfl, HA, HK4, ⟨m4, rfl⟩⟩ := hrel
                        cases gk with
                        | zero => exact absurd HA.out (by simp [toeplitz_Hash.l2])
                        | succ k4 =>
                          have H := HA.out; clear HA
                          simp only [toeplitz_Hash.l2] at H
                          by_cases c14 : x41_4 < 8
                          · rw [if_pos c14] at H
                            have c14b0 : decide (x41_4 < 8) = true := decide_eq_true c14; clear c14
                            by_cases c15 : 0 ≤ x41_4
                            · rw [if_pos c15] at H
                              have c15b0 := eq_true c15; have c15b1 : decide (0 ≤ x41_4) = true := decide_eq_true c15; clear c15; obtain ⟨ji16, hji16⟩ : ∃ j_ : Int, (shl .u8 (rd l1 x36_3) x41_4) = j_ := ⟨_, rfl⟩; replace H : (if (Go.bits .and .u8 (ji16) 128) = 0 then (toeplitz_Hash.l2 k4 l0 x6_3 x9_4 x36_3 (rd l1 x36_3) l1 (l1.length : Int) x36_3 (wrap64 (x41_4 + 1))) else (toeplitz_Hash.l2 k4 l0 x6_3 (Go.bits .xor .u32 x9_4 (((shl .u64 x6_3 x41_4) / 4294967296) % 4294967296)) x36_3 (rd l1 x36_3) l1 (l1.length : Int) x36_3 (wrap64 (x41_4 + 1)))) = some (r1, r2) := by first | (rw [hji16] at H; exact H) | (simp only [hji16] at H ⊢; exact H)
                              have hji16_ : (IntKind.u8.wrap ((rd l1 x36_3) * 2 ^ min x41_4.toNat 8)) = ji16 := hji16; have hji16z : x41_4 ≤ 8 → (IntKind.u8.wrap ((rd l1 x36_3) * 2 ^ x41_4.toNat)) = ji16 := shl_small hji16
                              by_cases c17 : (Go.bits .and .u8 (ji16) 128) = 0
                              · rw [if_pos c17] at H
                                have c17b0 : ((Go.bits .and .u8 (ji16) 128) == 0) = true := beq_iff_eq.mpr c17; have c17b1 : ((Go.bits .and .u8 (ji16) 128) != 0) = false := bne_eq_false_iff_eq.mpr c17; clear c17; have H' := Aside0.mk H; clear H
                                go_wp2
                                go_roundg k4
                                case measure => have := HJ2.out; have := HK2.out; have := HK3.out; have := HK4.out; omega
                                case rel => exact ⟨(x9_4), (wrap64 (x41_4 + 1)), (by first | rfl | (simp; done) | (simp [*]; done)), (by first | rfl | (simp; done) | (simp [*]; done)), H', ⟨by have := HJ2.out; have := HK2.out; have := HK3.out; have := HK4.out; omega⟩, by repeat (first | exact Drawn0.refl _ | apply Drawn0.step)⟩
                              rw [if_neg c17] at H; have c17b0 : ((Go.bits .and .u8 (ji16) 128) == 0) = false := beq_eq_false_iff_ne.mpr c17; have c17b1 : ((Go.bits .and .u8 (ji16) 128) != 0) = true := bne_iff_ne.mpr c17; have c18b0 := eq_true (of_decide_eq_true (by first | (with_reducible assumption) | assumption) : 0 ≤ x41_4); obtain ⟨ji19, hji19⟩ : ∃ j_ : Int, (shl .u64 x6_3 x41_4) = j_ := ⟨_, rfl⟩; replace H : (toeplitz_Hash.l2 k4 l0 x6_3 (Go.bits .xor .u32 x9_4 (((ji19) / 4294967296) % 4294967296)) x36_3 (rd l1 x36_3) l1 (l1.length : Int) x36_3 (wrap64 (x41_4 + 1))) = some (r1, r2) := by first | (rw [hji19] at H; exact H) | (simp only [hji19] at H ⊢; exact H)
                              have hji19_ : (IntKind.u64.wrap (x6_3 * 2 ^ min x41_4.toNat 64)) = ji19 := hji19; have hji19z : x41_4 ≤ 64 → (IntKind.u64.wrap (x6_3 * 2 ^ x41_4.toNat)) = ji19 := shl_small hji19; have H' := Aside0.mk H; clear H
                              go_wp2
                              go_roundg k4
                              case measure => have := HJ2.out; have := HK2.out; have := HK3.out; have := HK4.out; omega
                              case rel => exact ⟨(Go.bits .xor .u32 x9_4 (((ji19) / 4294967296) % 4294967296)), (wrap64 (x41_4 + 1)), (by first | rfl | (simp; done) | (simp only [← hji19] <;> (first | rfl | simp)) | (simp [*]; done)), (by first | rfl | (simp; done) | (simp [*]; done)), H', ⟨by have := HJ2.out; have := HK2.out; have := HK3.out; have := HK4.out; omega⟩, by repeat (first | exact Drawn0.refl _ | apply Drawn0.step)⟩
                            rw [if_neg c15] at H; exact absurd H (by simp)
                          rw [if_neg c14] at H; have c14b0 : decide (x41_4 < 8) = false := decide_eq_false c14; clear c14
                          by_cases c20 : (wrap64 (x36_3 + 8)) < (l0.length : Int)
                          · rw [if_pos c20] at H
                            have c20b0 : decide ((wrap64 (x36_3 + 8)) < (l0.length : Int)) = true := decide_eq_true c20; clear c20; obtain ⟨ji21, hji21⟩ : ∃ j_ : Int, (wrap64 (x36_3 + 8)) = j_ := ⟨_, rfl⟩; replace H : (if 0 ≤ (ji21) then (toeplitz_Hash.l1 k4 l0 (Go.bits .or .u64 (IntKind.u64.wrap (x6_3 * 256)) (IntKind.u64.wrap (rd l0 (ji21)))) x9_4 l1 (l1.length : Int) (wrap64 (x36_3 + 1))) else (none)) = some (r1, r2) := by first | (rw [hji21] at H; exact H) | (simp only [hji21] at H ⊢; exact H)
                            (try rw [hji21] at c20b0)
                            have hji21w : (IntKind.i64.wrap (x36_3 + 8)) = ji21 := (i64_w _).trans hji21
                            by_cases c22 : 0 ≤ (ji21)
                            · rw [if_pos c22] at H
                              have c22b0 : decide (0 ≤ (ji21)) = true := decide_eq_true c22; clear c22; have H' := Aside0.mk H; clear H; have p104 : 0 ≤ ((ji21) : Int) := of_decide_eq_true (by first | (with_reducible assumption) | assumption); have q104 : (ji21) < (l0.length : Int) := of_decide_eq_true (by first | (with_reducible assumption) | assumption); obtain ⟨ad104, e104, hx104_0⟩ := Kd.at_int HR0.out (ji21) p104 q104
                              cases e104
                              replace p104 := eq_true p104; replace q104 := eq_true q104
                              go_wp2
                              go_roundg k4
                              case measure => have := HJ2.out; have := HK2.out; have := HK3.out; have := HK4.out; omega
                              case rel => exact ⟨(Go.bits .or .u64 (IntKind.u64.wrap (x6_3 * 256)) (IntKind.u64.wrap (rd l0 (ji21)))), (x9_4), (wrap64 (x36_3 + 1)), (by first | rfl | (simp; done) | (simp only [← hji21] <;> (first | rfl | simp)) | (simp [*]; done)), (by first | rfl | (simp; done) | (simp [*]; done)), (by first | rfl | (simp; done) | (simp [*]; done)), H', ⟨by have := HJ2.out; have := HK2.out; have := HK3.out; have := HK4.out; omega⟩, by repeat (first | exact Drawn0.refl _ | apply Drawn0.step)⟩
                            rw [if_neg c22] at H; exact absurd H (by simp)
                          rw [if_neg c20] at H; have c20b0 : decide ((wrap64 (x36_3 + 8)) < (l0.length : Int)) = false := decide_eq_false c20; clear c20; have H' := Aside0.mk H; clear H
                          go_wp2
                          go_roundg k4
                          case measure => have := HJ2.out; have := HK2.out; have := HK3.out; have := HK4.out; omega
                          case rel => exact ⟨(IntKind.u64.wrap (x6_3 * 256)), (x9_4), (wrap64 (x36_3 + 1)), (by first | rfl | (simp; done) | (simp [*]; done)), (by first | rfl | (simp; done) | (simp [*]; done)), (by first | rfl | (simp; done) | (simp [*]; done)), H', ⟨by have := HJ2.out; have := HK2.out; have := HK3.out; have := HK4.out; omega⟩, by repeat (first | exact Drawn0.refl _ | apply Drawn0.step)⟩
                    rw [if_neg c13] at H; exact absurd H (by simp)
                  rw [if_neg c12] at H; exact absurd H (by simp)
                rw [if_neg c11] at H; have c11b0 : decide (x36_3 < (l1.length : Int)) = false := decide_eq_false c11; clear c11
                simp only [Option.some.injEq, Prod.mk.injEq] at H
                obtain ⟨rfl, rfl⟩ := H
                go_wp2
                go_ret2
                exact ⟨by first | rfl | (simp; done) | (simp [*]; done), by repeat (first | exact Drawn0.refl _ | apply Drawn0.step)⟩
      rw [if_neg c6] at H; exact absurd H (by simp)

end Go.Proofs.Ytgfghinjjidcoaa.PA
