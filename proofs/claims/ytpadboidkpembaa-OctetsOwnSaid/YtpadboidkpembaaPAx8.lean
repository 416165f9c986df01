-- Written by a program of this session (wip/tools/mkprint.py, mp.sh) for this claim.
import Derived.Test.YtpadboidkpembaaPAx0
import Derived.Test.YtpadboidkpembaaPAx7
namespace Go.Proofs.Ytpadboidkpembaa.PA
open Go.RowKit Go.Proofs.YtpadboidkpembaaW.PrintWords Go.Proofs.YtpadboidkpembaaW.PrintLast Go.Proofs.YtpadboidkpembaaW.PrintMore
attribute [local go_sem] max2_int min2_int max_two min_two max_three min_three max_four min_four   -- for this text's walks alone
set_option linter.unusedVariables false
set_option linter.unusedSimpArgs false

/-! ### stopcockref01_ParseInt: function 16 -/
mutual
def stopcockref01_ParseInt.j0 : Nat → ByteArray → Int → Bool → Option (Int × Int)
  | 0, _, _, _ => none
  | k + 1, x0, x4, x15 => if x15 = true then (stopcockref01_ParseInt.j1 k x0 1) else (stopcockref01_ParseInt.j1 k x0 x4)
def stopcockref01_ParseInt.j1 : Nat → ByteArray → Int → Option (Int × Int)
  | 0, _, _ => none
  | k + 1, x0, x4 => if (wrap64 ((x0.size : Int) - x4)) < 1 then (stopcockref01_ParseInt.j2 k x0 x4 true) else (stopcockref01_ParseInt.j2 k x0 x4 (decide ((wrap64 ((x0.size : Int) - x4)) > 19)))
def stopcockref01_ParseInt.j2 : Nat → ByteArray → Int → Bool → Option (Int × Int)
  | 0, _, _, _ => none
  | k + 1, x0, x4, x27 => if x27 = true then (some (0, 11)) else (stopcockref01_ParseInt.l0 k x0 x4 0 x4)
def stopcockref01_ParseInt.l0 : Nat → ByteArray → Int → Int → Int → Option (Int × Int)
  | 0, _, _, _, _ => none
  | k + 1, x0, x4, x5, x6 => if x6 < (x0.size : Int) then (if 0 ≤ x6 then (if (bt x0 x6) < 48 then (some (0, 11)) else (if (bt x0 x6) > 57 then (some (0, 11)) else (stopcockref01_ParseInt.l0 k x0 x4 (IntKind.u64.wrap ((IntKind.u64.wrap (x5 * 10)) + (((bt x0 x6) - 48) % 256))) (wrap64 (x6 + 1))))) else (none)) else (if x4 = 1 then (if x5 > 0 then (stopcockref01_ParseInt.j4 k x0 x4 x5 (wrap64 (x5)) (decide (x5 ≤ 9223372036854775808))) else (stopcockref01_ParseInt.j4 k x0 x4 x5 (wrap64 (x5)) false)) else (stopcockref01_ParseInt.j4 k x0 x4 x5 (wrap64 (x5)) false))
def stopcockref01_ParseInt.j4 : Nat → ByteArray → Int → Int → Int → Bool → Option (Int × Int)
  | 0, _, _, _, _, _ => none
  | k + 1, x0, x4, x5, x7, x55 => if x55 = true then ((stopcockref01_Decimal.f k (wrap64 ((wrap64 (-(wrap64 (IntKind.u64.wrap (x5 - 1))))) - 1))).bind fun t182 => (if t182.toList = x0.toList then (some (wrap64 ((wrap64 (-(wrap64 (IntKind.u64.wrap (x5 - 1))))) - 1), 0)) else (some (0, 11)))) else (if x4 = 1 then (stopcockref01_ParseInt.j5 k x0 x7 true) else (stopcockref01_ParseInt.j5 k x0 x7 (decide (x5 ≥ 9223372036854775808))))
def stopcockref01_ParseInt.j5 : Nat → ByteArray → Int → Bool → Option (Int × Int)
  | 0, _, _, _ => none
  | k + 1, x0, x7, x71 => if x71 = true then (some (0, 11)) else ((stopcockref01_Decimal.f k x7).bind fun t183 => (if t183.toList = x0.toList then (some (x7, 0)) else (some (0, 11))))
end
def stopcockref01_ParseInt.f (k : Nat) (a0 : ByteArray) : Option (Int × Int) := if (a0.size : Int) > 0 then (if 0 < (a0.size : Int) then (stopcockref01_ParseInt.j0 k a0 0 ((bt a0 0) == 45)) else (none)) else (stopcockref01_ParseInt.j0 k a0 0 false)
theorem stopcockref01_ParseInt.mono_l : ∀ k, (∀ y0 y1 y2, LeO (stopcockref01_ParseInt.j0 k y0 y1 y2) (stopcockref01_ParseInt.j0 (k + 1) y0 y1 y2)) ∧ (∀ y0 y1, LeO (stopcockref01_ParseInt.j1 k y0 y1) (stopcockref01_ParseInt.j1 (k + 1) y0 y1)) ∧ (∀ y0 y1 y2, LeO (stopcockref01_ParseInt.j2 k y0 y1 y2) (stopcockref01_ParseInt.j2 (k + 1) y0 y1 y2)) ∧ (∀ y0 y1 y2 y3, LeO (stopcockref01_ParseInt.l0 k y0 y1 y2 y3) (stopcockref01_ParseInt.l0 (k + 1) y0 y1 y2 y3)) ∧ (∀ y0 y1 y2 y3 y4, LeO (stopcockref01_ParseInt.j4 k y0 y1 y2 y3 y4) (stopcockref01_ParseInt.j4 (k + 1) y0 y1 y2 y3 y4)) ∧ (∀ y0 y1 y2, LeO (stopcockref01_ParseInt.j5 k y0 y1 y2) (stopcockref01_ParseInt.j5 (k + 1) y0 y1 y2))
  | 0 => ⟨fun _ _ _ r h => by simp [stopcockref01_ParseInt.j0] at h, fun _ _ r h => by simp [stopcockref01_ParseInt.j1] at h, fun _ _ _ r h => by simp [stopcockref01_ParseInt.j2] at h, fun _ _ _ _ r h => by simp [stopcockref01_ParseInt.l0] at h, fun _ _ _ _ _ r h => by simp [stopcockref01_ParseInt.j4] at h, fun _ _ _ r h => by simp [stopcockref01_ParseInt.j5] at h⟩
  | k + 1 => by
    obtain ⟨ih0, ih1, ih2, ih3, ih4, ih5⟩ := stopcockref01_ParseInt.mono_l k; refine ⟨?_, ?_, ?_, ?_, ?_, ?_⟩
    · intro y0 y1 y2
      unfold stopcockref01_ParseInt.j0
      repeat' first
      | (with_reducible exact ih0 _ _ _)
      | (with_reducible exact ih1 _ _)
      | (with_reducible exact ih2 _ _ _)
      | (with_reducible exact ih3 _ _ _ _)
      | (with_reducible exact ih4 _ _ _ _ _)
      | (with_reducible exact ih5 _ _ _)
      | (with_reducible exact stopcockref01_Decimal.mono _ _)
      | (with_reducible exact LeO.refl _)
      | (with_reducible exact LeO.none _)
      | (with_reducible refine LeO.ite ?_ ?_)
      | (with_reducible refine LeO.bind ?_ (fun _ => ?_))
      | exact ih0 _ _ _
      | exact ih1 _ _
      | exact ih2 _ _ _
      | exact ih3 _ _ _ _
      | exact ih4 _ _ _ _ _
      | exact ih5 _ _ _
      | exact stopcockref01_Decimal.mono _ _
      | exact LeO.none _
      | refine LeO.ite ?_ ?_
      | refine LeO.bind ?_ (fun _ => ?_)
    · intro y0 y1
      unfold stopcockref01_ParseInt.j1
      repeat' first
      | (with_reducible exact ih0 _ _ _)
      | (with_reducible exact ih1 _ _)
      | (with_reducible exact ih2 _ _ _)
      | (with_reducible exact ih3 _ _ _ _)
      | (with_reducible exact ih4 _ _ _ _ _)
      | (with_reducible exact ih5 _ _ _)
      | (with_reducible exact stopcockref01_Decimal.mono _ _)
      | (with_reducible exact LeO.refl _)
      | (with_reducible exact LeO.none _)
      | (with_reducible refine LeO.ite ?_ ?_)
      | (with_reducible refine LeO.bind ?_ (fun _ => ?_))
      | exact ih0 _ _ _
      | exact ih1 _ _
      | exact ih2 _ _ _
      | exact ih3 _ _ _ _
      | exact ih4 _ _ _ _ _
      | exact ih5 _ _ _
      | exact stopcockref01_Decimal.mono _ _
      | exact LeO.none _
      | refine LeO.ite ?_ ?_
      | refine LeO.bind ?_ (fun _ => ?_)
    · intro y0 y1 y2
      unfold stopcockref01_ParseInt.j2
      repeat' first
      | (with_reducible exact ih0 _ _ _)
      | (with_reducible exact ih1 _ _)
      | (with_reducible exact ih2 _ _ _)
      | (with_reducible exact ih3 _ _ _ _)
      | (with_reducible exact ih4 _ _ _ _ _)
      | (with_reducible exact ih5 _ _ _)
      | (with_reducible exact stopcockref01_Decimal.mono _ _)
      | (with_reducible exact LeO.refl _)
      | (with_reducible exact LeO.none _)
      | (with_reducible refine LeO.ite ?_ ?_)
      | (with_reducible refine LeO.bind ?_ (fun _ => ?_))
      | exact ih0 _ _ _
      | exact ih1 _ _
      | exact ih2 _ _ _
      | exact ih3 _ _ _ _
      | exact ih4 _ _ _ _ _
      | exact ih5 _ _ _
      | exact stopcockref01_Decimal.mono _ _
      | exact LeO.none _
      | refine LeO.ite ?_ ?_
      | refine LeO.bind ?_ (fun _ => ?_)
    · intro y0 y1 y2 y3
      unfold stopcockref01_ParseInt.l0
      repeat' first
      | (with_reducible exact ih0 _ _ _)
      | (with_reducible exact ih1 _ _)
      | (with_reducible exact ih2 _ _ _)
      | (with_reducible exact ih3 _ _ _ _)
      | (with_reducible exact ih4 _ _ _ _ _)
      | (with_reducible exact ih5 _ _ _)
      | (with_reducible exact stopcockref01_Decimal.mono _ _)
      | (with_reducible exact LeO.refl _)
      | (with_reducible exact LeO.none _)
      | (with_reducible refine LeO.ite ?_ ?_)
      | (with_reducible refine LeO.bind ?_ (fun _ => ?_))
      | exact ih0 _ _ _
      | exact ih1 _ _
      | exact ih2 _ _ _
      | exact ih3 _ _ _ _
      | exact ih4 _ _ _ _ _
      | exact ih5 _ _ _
      | exact stopcockref01_Decimal.mono _ _
      | exact LeO.none _
      | refine LeO.ite ?_ ?_
      | refine LeO.bind ?_ (fun _ => ?_)
    · intro y0 y1 y2 y3 y4
      unfold stopcockref01_ParseInt.j4
      repeat' first
      | (with_reducible exact ih0 _ _ _)
      | (with_reducible exact ih1 _ _)
      | (with_reducible exact ih2 _ _ _)
      | (with_reducible exact ih3 _ _ _ _)
      | (with_reducible exact ih4 _ _ _ _ _)
      | (with_reducible exact ih5 _ _ _)
      | (with_reducible exact stopcockref01_Decimal.mono _ _)
      | (with_reducible exact LeO.refl _)
      | (with_reducible exact LeO.none _)
      | (with_reducible refine LeO.ite ?_ ?_)
      | (with_reducible refine LeO.bind ?_ (fun _ => ?_))
      | exact ih0 _ _ _
      | exact ih1 _ _
      | exact ih2 _ _ _
      | exact ih3 _ _ _ _
      | exact ih4 _ _ _ _ _
      | exact ih5 _ _ _
      | exact stopcockref01_Decimal.mono _ _
      | exact LeO.none _
      | refine LeO.ite ?_ ?_
      | refine LeO.bind ?_ (fun _ => ?_)
    · intro y0 y1 y2
      unfold stopcockref01_ParseInt.j5
      repeat' first
      | (with_reducible exact ih0 _ _ _)
      | (with_reducible exact ih1 _ _)
      | (with_reducible exact ih2 _ _ _)
      | (with_reducible exact ih3 _ _ _ _)
      | (with_reducible exact ih4 _ _ _ _ _)
      | (with_reducible exact ih5 _ _ _)
      | (with_reducible exact stopcockref01_Decimal.mono _ _)
      | (with_reducible exact LeO.refl _)
      | (with_reducible exact LeO.none _)
      | (with_reducible refine LeO.ite ?_ ?_)
      | (with_reducible refine LeO.bind ?_ (fun _ => ?_))
      | exact ih0 _ _ _
      | exact ih1 _ _
      | exact ih2 _ _ _
      | exact ih3 _ _ _ _
      | exact ih4 _ _ _ _ _
      | exact ih5 _ _ _
      | exact stopcockref01_Decimal.mono _ _
      | exact LeO.none _
      | refine LeO.ite ?_ ?_
      | refine LeO.bind ?_ (fun _ => ?_)
theorem stopcockref01_ParseInt.mono : ∀ a0 k, LeO (stopcockref01_ParseInt.f k a0) (stopcockref01_ParseInt.f (k + 1) a0) := by
  intro a0 k; obtain ⟨ih0, ih1, ih2, ih3, ih4, ih5⟩ := stopcockref01_ParseInt.mono_l k
  unfold stopcockref01_ParseInt.f
  repeat' first
      | (with_reducible exact ih0 _ _ _)
      | (with_reducible exact ih1 _ _)
      | (with_reducible exact ih2 _ _ _)
      | (with_reducible exact ih3 _ _ _ _)
      | (with_reducible exact ih4 _ _ _ _ _)
      | (with_reducible exact ih5 _ _ _)
      | (with_reducible exact stopcockref01_Decimal.mono _ _)
      | (with_reducible exact LeO.refl _)
      | (with_reducible exact LeO.none _)
      | (with_reducible refine LeO.ite ?_ ?_)
      | (with_reducible refine LeO.bind ?_ (fun _ => ?_))
      | exact ih0 _ _ _
      | exact ih1 _ _
      | exact ih2 _ _ _
      | exact ih3 _ _ _ _
      | exact ih4 _ _ _ _ _
      | exact ih5 _ _ _
      | exact stopcockref01_Decimal.mono _ _
      | exact LeO.none _
      | refine LeO.ite ?_ ?_
      | refine LeO.bind ?_ (fun _ => ?_)
set_option maxHeartbeats 8000000 in
set_option maxRecDepth 100000 in
theorem stopcockref01_ParseInt.calls (k : Nat) (a0 : ByteArray) (r1 : Int) (r2 : Int) (w : World) (h : stopcockref01_ParseInt.f k a0 = some (r1, r2)) :
    Calls Try.prog 16 #[.string a0] w fun e w' => e = .returned (.tuple #[.int .i64 r1, .int .i64 r2]) ∧ Below w.heap.size w w' := by
  have HB := Aside0.mk (Below.refl w.heap.size w); have H : (if (a0.size : Int) > 0 then (if 0 < (a0.size : Int) then (stopcockref01_ParseInt.j0 k a0 0 ((bt a0 0) == 45)) else (none)) else (stopcockref01_ParseInt.j0 k a0 0 false)) = some (r1, r2) := h; clear h; have HC2 := Aside0.mk H; clear H
  go_enter Try.func16, Try.ntmps16
  go_upto_region 2 with (fail)
  go_cut [15] (fun v15 wc => ∃ (kq : Nat) (x15_1 : Bool), v15 = .bool x15_1 ∧ Aside0 (stopcockref01_ParseInt.j0 kq a0 0 x15_1 = some (r1, r2)) ∧ Aside0 (kq ≤ k) ∧ Aside0 (Below w.heap.size w wc))
  case first =>
    have H := HC2.out; clear HC2
    by_cases c3 : (a0.size : Int) > 0
    · rw [if_pos c3] at H
      have c3b0 : decide (0 < (a0.size : Int)) = true := decide_eq_true c3; have c3b1 : decide (0 < a0.size) = true := decide_eq_true (by omega); clear c3
      (first | rw [c3b0] | (simp only [i64_w, i32_w]; rw [c3b0]) | skip)
      by_cases c4 : 0 < (a0.size : Int)
      · rw [if_pos c4] at H
        have c4b0 : decide (0 < (a0.size : Int)) = true := decide_eq_true c4; have c4b1 : decide (0 < a0.size) = true := decide_eq_true (by omega); clear c4; have H' := Aside0.mk H; clear H; have p5 : 0 ≤ (0 : Int) := (by omega); have q5 : 0 < a0.size := (by have : (0 : Int) < (a0.size : Int) := of_decide_eq_true (by first | (with_reducible assumption) | assumption); omega); have hx5 : ∀ h : 0 < a0.size, ((a0[0]'h).toNat : Int) = bt a0 0 := bt_at a0 0; clear p5; have qi5 : (0 < (a0.size : Int)) = True := eq_true (of_decide_eq_true (by first | (with_reducible assumption) | assumption)); replace q5 := eq_true q5
        go_wp2
        go_meet
        case rel => exact ⟨_, (((bt a0 0) == 45)), (by first | rfl | (simp; done) | (simp [*]; done)), H', ⟨by first | omega | exact Nat.le_refl _⟩, ⟨by exact bel0 HB.out⟩⟩
      rw [if_neg c4] at H; exact absurd H (by simp)
    rw [if_neg c3] at H; have c3b0 : decide (0 < (a0.size : Int)) = false := decide_eq_false c3; have c3b1 : decide (0 < a0.size) = false := decide_eq_false (by omega); clear c3
    (first | rw [c3b0] | (simp only [i64_w, i32_w]; rw [c3b0]) | skip)
    have H' := Aside0.mk H; clear H
    go_wp2
    go_meet
    case rel => exact ⟨_, (false), (by first | rfl | (simp; done) | (simp [*]; done)), H', ⟨by first | omega | exact Nat.le_refl _⟩, ⟨by exact bel0 HB.out⟩⟩
  case rest =>
    clear HC2
    try clear c1
    try clear p2
    try clear c3
    try clear c3b0
    try clear c3b1
    try clear c4
    try clear c4b0
    try clear c4b1
    try clear p5
    try clear q5
    try clear hx5
    try clear qi5
    try clear p5
    try clear q5
    obtain ⟨kq, x15_1, rfl, HA, HJ1, HB⟩ := hcut
    cases kq with
    | zero => exact absurd HA.out (by simp [stopcockref01_ParseInt.j0])
    | succ kj1 =>
      have H := HA.out; clear HA
      simp only [stopcockref01_ParseInt.j0] at H
      have HC6 := Aside0.mk H; clear H
      go_upto_if 15 with (fail)
      go_cut [4] (fun v4 wc => ∃ (kq : Nat) (x4_5 : Int), v4 = .int .i64 x4_5 ∧ Aside0 (stopcockref01_ParseInt.j1 kq a0 x4_5 = some (r1, r2)) ∧ Aside0 (kq ≤ kj1) ∧ Aside0 (Below w.heap.size w wc))
      case first =>
        have H := HC6.out; clear HC6
        by_cases c7 : x15_1 = true
        · subst c7
          have H1 : (stopcockref01_ParseInt.j1 kj1 a0 1) = some (r1, r2) := by rw [if_pos rfl] at H; exact H
          clear H; have H := H1; clear H1; have H' := Aside0.mk H; clear H
          go_wp2
          go_meet
          case rel => exact ⟨_, (1), (by first | rfl | (simp; done) | (simp [*]; done)), H', ⟨by have := HJ1.out; first | omega | exact Nat.le_refl _⟩, ⟨by exact bel0 HB.out⟩⟩
        replace c7 := Bool.eq_false_iff.mpr c7
        subst c7
        have H1 : (stopcockref01_ParseInt.j1 kj1 a0 0) = some (r1, r2) := by rw [if_neg (show ¬ (false = true) by decide)] at H; exact H
        clear H; have H := H1; clear H1; have H' := Aside0.mk H; clear H
        go_wp2
        go_meet
        case rel => exact ⟨_, (0), (by first | rfl | (simp; done) | (simp [*]; done)), H', ⟨by have := HJ1.out; first | omega | exact Nat.le_refl _⟩, ⟨by exact bel0 HB.out⟩⟩
      case rest =>
        clear HC6
        try clear c1
        try clear p2
        try clear c3
        try clear c3b0
        try clear c3b1
        try clear c4
        try clear c4b0
        try clear c4b1
        try clear p5
        try clear q5
        try clear hx5
        try clear qi5
        try clear c7
        try clear p2
        try clear p5
        try clear q5
        obtain ⟨kq, x4_5, rfl, HA, HJ5, HB⟩ := hcut
        cases kq with
        | zero => exact absurd HA.out (by simp [stopcockref01_ParseInt.j1])
        | succ kj5 =>
          have H := HA.out; clear HA
          simp only [stopcockref01_ParseInt.j1] at H
          have HC8 := Aside0.mk H; clear H
          go_upto_region 4 with (fail)
          go_cut [27] (fun v27 wc => ∃ (kq : Nat) (x27_7 : Bool), v27 = .bool x27_7 ∧ Aside0 (stopcockref01_ParseInt.j2 kq a0 x4_5 x27_7 = some (r1, r2)) ∧ Aside0 (kq ≤ kj5) ∧ Aside0 (Below w.heap.size w wc))
          case first =>
            have H := HC8.out; clear HC8
            by_cases c9 : (wrap64 ((a0.size : Int) - x4_5)) < 1
            · rw [if_pos c9] at H
              have c9b0 : decide ((wrap64 ((a0.size : Int) - x4_5)) < 1) = true := decide_eq_true c9; clear c9
              (first | rw [c9b0] | (simp only [i64_w, i32_w]; rw [c9b0]) | skip)
              have H' := Aside0.mk H; clear H
              go_wp2
              go_meet
              case rel => exact ⟨_, (true), (by first | rfl | (simp; done) | (simp [*]; done)), H', ⟨by have := HJ1.out; have := HJ5.out; first | omega | exact Nat.le_refl _⟩, ⟨by exact bel0 HB.out⟩⟩
            rw [if_neg c9] at H; have c9b0 : decide ((wrap64 ((a0.size : Int) - x4_5)) < 1) = false := decide_eq_false c9; clear c9
            (first | rw [c9b0] | (simp only [i64_w, i32_w]; rw [c9b0]) | skip)
            have H' := Aside0.mk H; clear H
            go_wp2
            go_meet
            case rel => exact ⟨_, (decide ((wrap64 ((a0.size : Int) - x4_5)) > 19)), (by first | rfl | (simp; done) | (simp [*]; done)), H', ⟨by have := HJ1.out; have := HJ5.out; first | omega | exact Nat.le_refl _⟩, ⟨by exact bel0 HB.out⟩⟩
          case rest =>
            clear HC8
            try clear c1
            try clear p2
            try clear c3
            try clear c3b0
            try clear c3b1
            try clear c4
            try clear c4b0
            try clear c4b1
            try clear p5
            try clear q5
            try clear hx5
            try clear qi5
            try clear p6
            try clear c7
            try clear c9
            try clear c9b0
            try clear p2
            try clear p5
            try clear q5
            obtain ⟨kq, x27_7, rfl, HA, HJ7, HB⟩ := hcut
            cases kq with
            | zero => exact absurd HA.out (by simp [stopcockref01_ParseInt.j2])
            | succ kj7 =>
              have H := HA.out; clear HA
              simp only [stopcockref01_ParseInt.j2] at H
              by_cases c10 : x27_7 = true
              · subst c10
                have H1 : (some (0, 11)) = some (r1, r2) := by rw [if_pos rfl] at H; exact H
                clear H; have H := H1; clear H1
                simp only [Option.some.injEq, Prod.mk.injEq] at H
                obtain ⟨rfl, rfl⟩ := H
                go_wp2
                go_ret2
                exact ⟨by first | rfl | (simp [errW_none, errW_some] <;> rfl) | (simp [*, errW_none, errW_some] <;> rfl), by exact bel0 HB.out⟩
              replace c10 := Bool.eq_false_iff.mpr c10
              subst c10
              have H1 : (stopcockref01_ParseInt.l0 kj7 a0 x4_5 0 x4_5) = some (r1, r2) := by rw [if_neg (show ¬ (false = true) by decide)] at H; exact H
              clear H; have H := H1; clear H1; have H' := Aside0.mk H; clear H
              go_wp2
              go_loopg [5, 6] kj7 (fun kq v5 v6 w' => ∃ (x5_4 : Int) (x6_4 : Int), v5 = .int .u64 x5_4 ∧ v6 = .int .i64 x6_4 ∧ Aside0 (stopcockref01_ParseInt.l0 kq a0 x4_5 x5_4 x6_4 = some (r1, r2)) ∧ Aside0 (kq ≤ kj7) ∧ Aside0 (Below w.heap.size w w'))
              case atStart => exact ⟨(0), (x4_5), (by first | rfl | (simp; done) | (simp [*]; done)), (by first | rfl | (simp; done) | (simp [*]; done)), H', ⟨Nat.le_refl _⟩, ⟨by exact bel0 HB.out⟩⟩
              case round =>
                clear H'
                try clear c1
                try clear p2
                try clear c3
                try clear c3b0
                try clear c3b1
                try clear c4
                try clear c4b0
                try clear c4b1
                try clear p5
                try clear q5
                try clear hx5
                try clear qi5
                try clear p6
                try clear c7
                try clear c9
                try clear c9b0
                try clear c10
                try clear p2
                try clear p5
                try clear p6
                try clear q5
                obtain ⟨x5_4, x6_4, rfl, rfl, HA, HK4, HB⟩ := hrel
                cases gk with
                | zero => exact absurd HA.out (by simp [stopcockref01_ParseInt.l0])
                | succ k4 =>
                  have H := HA.out; clear HA
                  simp only [stopcockref01_ParseInt.l0] at H
                  by_cases c11 : x6_4 < (a0.size : Int)
                  · rw [if_pos c11] at H
                    have c11b0 : decide (x6_4 < (a0.size : Int)) = true := decide_eq_true c11; clear c11
                    by_cases c12 : 0 ≤ x6_4
                    · rw [if_pos c12] at H
                      have c12b0 : decide (0 ≤ x6_4) = true := decide_eq_true c12; clear c12
                      by_cases c14 : (bt a0 x6_4) < 48
                      · rw [if_pos c14] at H
                        have c14b0 : decide ((bt a0 x6_4) < 48) = true := decide_eq_true c14; clear c14
                        simp only [Option.some.injEq, Prod.mk.injEq] at H
                        obtain ⟨rfl, rfl⟩ := H; have p13 : 0 ≤ (x6_4 : Int) := of_decide_eq_true (by first | (with_reducible assumption) | assumption); have q13 : x6_4 < (a0.size : Int) := of_decide_eq_true (by first | (with_reducible assumption) | assumption); have hx13 := bt_at a0 x6_4; replace p13 := eq_true p13; replace q13 := eq_true q13
                        go_wp2
                        go_ret2
                        exact ⟨by first | rfl | (simp [errW_none, errW_some] <;> rfl) | (simp [*, errW_none, errW_some] <;> rfl), by exact bel0 HB.out⟩
                      rw [if_neg c14] at H; have c14b0 : decide ((bt a0 x6_4) < 48) = false := decide_eq_false c14; clear c14
                      by_cases c16 : (bt a0 x6_4) > 57
                      · rw [if_pos c16] at H
                        have c16b0 : decide (57 < (bt a0 x6_4)) = true := decide_eq_true c16; clear c16
                        simp only [Option.some.injEq, Prod.mk.injEq] at H
                        obtain ⟨rfl, rfl⟩ := H; have p13 : 0 ≤ (x6_4 : Int) := of_decide_eq_true (by first | (with_reducible assumption) | assumption); have q13 : x6_4 < (a0.size : Int) := of_decide_eq_true (by first | (with_reducible assumption) | assumption); have hx13 := bt_at a0 x6_4; replace p13 := eq_true p13; replace q13 := eq_true q13; have p15 : 0 ≤ (x6_4 : Int) := of_decide_eq_true (by first | (with_reducible assumption) | assumption); have q15 : x6_4 < (a0.size : Int) := of_decide_eq_true (by first | (with_reducible assumption) | assumption); have hx15 := bt_at a0 x6_4; replace p15 := eq_true p15; replace q15 := eq_true q15
                        go_wp2
                        go_ret2
                        exact ⟨by first | rfl | (simp [errW_none, errW_some] <;> rfl) | (simp [*, errW_none, errW_some] <;> rfl), by exact bel0 HB.out⟩
                      rw [if_neg c16] at H; have c16b0 : decide (57 < (bt a0 x6_4)) = false := decide_eq_false c16; clear c16; have H' := Aside0.mk H; clear H; have p13 : 0 ≤ (x6_4 : Int) := of_decide_eq_true (by first | (with_reducible assumption) | assumption); have q13 : x6_4 < (a0.size : Int) := of_decide_eq_true (by first | (with_reducible assumption) | assumption); have hx13 := bt_at a0 x6_4; replace p13 := eq_true p13; replace q13 := eq_true q13; have p15 : 0 ≤ (x6_4 : Int) := of_decide_eq_true (by first | (with_reducible assumption) | assumption); have q15 : x6_4 < (a0.size : Int) := of_decide_eq_true (by first | (with_reducible assumption) | assumption); have hx15 := bt_at a0 x6_4; replace p15 := eq_true p15; replace q15 := eq_true q15; have p17 : 0 ≤ (x6_4 : Int) := of_decide_eq_true (by first | (with_reducible assumption) | assumption); have q17 : x6_4 < (a0.size : Int) := of_decide_eq_true (by first | (with_reducible assumption) | assumption); have hx17 := bt_at a0 x6_4; replace p17 := eq_true p17; replace q17 := eq_true q17
                      go_wp2
                      go_roundg k4
                      case measure => have := HJ1.out; have := HJ5.out; have := HJ7.out; have := HK4.out; omega
                      case rel => exact ⟨(IntKind.u64.wrap ((IntKind.u64.wrap (x5_4 * 10)) + (((bt a0 x6_4) - 48) % 256))), (wrap64 (x6_4 + 1)), (by first | rfl | (simp; done) | (simp [*]; done)), (by first | rfl | (simp; done) | (simp [*]; done)), H', ⟨by have := HJ1.out; have := HJ5.out; have := HJ7.out; have := HK4.out; omega⟩, ⟨by exact bel0 HB.out⟩⟩
                    rw [if_neg c12] at H; exact absurd H (by simp)
                  rw [if_neg c11] at H; have c11b0 : decide (x6_4 < (a0.size : Int)) = false := decide_eq_false c11; clear c11; have HC18 := Aside0.mk H; clear H
                  go_upto_region 14 with (fail)
                  go_cut [55] (fun v55 wc => ∃ (kq : Nat) (x55_17 : Bool), v55 = .bool x55_17 ∧ Aside0 (stopcockref01_ParseInt.j4 kq a0 x4_5 x5_4 (wrap64 (x5_4)) x55_17 = some (r1, r2)) ∧ Aside0 (kq ≤ k4) ∧ Aside0 (Below w.heap.size w wc))
                  case first =>
                    have H := HC18.out; clear HC18
                    by_cases c19 : x4_5 = 1
                    · rw [if_pos c19] at H
                      have c19b0 : (x4_5 == 1) = true := beq_iff_eq.mpr c19; have c19b1 : (x4_5 != 1) = false := bne_eq_false_iff_eq.mpr c19; clear c19
                      (first | rw [c19b0] | (simp only [i64_w, i32_w]; rw [c19b0]) | skip)
                      by_cases c20 : x5_4 > 0
                      · rw [if_pos c20] at H
                        have c20b0 : decide (0 < x5_4) = true := decide_eq_true c20; clear c20; have H' := Aside0.mk H; clear H
                        go_wp2
                        go_meet
                        case rel => exact ⟨_, (decide (x5_4 ≤ 9223372036854775808)), (by first | rfl | (simp; done) | (simp [*]; done)), H', ⟨by have := HJ1.out; have := HJ5.out; have := HJ7.out; have := HK4.out; first | omega | exact Nat.le_refl _⟩, ⟨by exact bel0 HB.out⟩⟩
                      rw [if_neg c20] at H; have c20b0 : decide (0 < x5_4) = false := decide_eq_false c20; clear c20; have H' := Aside0.mk H; clear H
                      go_wp2
                      go_meet
                      case rel => exact ⟨_, (false), (by first | rfl | (simp; done) | (simp [*]; done)), H', ⟨by have := HJ1.out; have := HJ5.out; have := HJ7.out; have := HK4.out; first | omega | exact Nat.le_refl _⟩, ⟨by exact bel0 HB.out⟩⟩
                    rw [if_neg c19] at H; have c19b0 : (x4_5 == 1) = false := beq_eq_false_iff_ne.mpr c19; have c19b1 : (x4_5 != 1) = true := bne_iff_ne.mpr c19
                    (first | rw [c19b0] | (simp only [i64_w, i32_w]; rw [c19b0]) | skip)
                    have H' := Aside0.mk H; clear H
                    go_wp2
                    go_meet
                    case rel => exact ⟨_, (false), (by first | rfl | (simp; done) | (simp [*]; done)), H', ⟨by have := HJ1.out; have := HJ5.out; have := HJ7.out; have := HK4.out; first | omega | exact Nat.le_refl _⟩, ⟨by exact bel0 HB.out⟩⟩
                  case rest =>
                    clear HC18
                    try clear c1
                    try clear p1
                    try clear q1
                    try clear hx1
                    try clear c2
                    try clear p2
                    try clear c3
                    try clear c3b0
                    try clear c3b1
                    try clear c4
                    try clear c4b0
                    try clear c4b1
                    try clear p5
                    try clear q5
                    try clear hx5
                    try clear qi5
                    try clear p6
                    try clear c7
                    try clear c9
                    try clear c9b0
                    try clear c10
                    try clear c11
                    try clear c11b0
                    try clear c12
                    try clear c12b0
                    try clear p13
                    try clear q13
                    try clear hx13
                    try clear c14
                    try clear c14b0
                    try clear p15
                    try clear q15
                    try clear hx15
                    try clear c16
                    try clear c16b0
                    try clear p17
                    try clear q17
                    try clear hx17
                    try clear c19
                    try clear c19b0
                    try clear c19b1
                    try clear c20
                    try clear c20b0
                    try clear p13
                    try clear p15
                    try clear p17
                    try clear p2
                    try clear p5
                    try clear p6
                    try clear q13
                    try clear q15
                    try clear q17
                    try clear q5
                    obtain ⟨kq, x55_17, rfl, HA, HJ17, HB⟩ := hcut
                    cases kq with
                    | zero => exact absurd HA.out (by simp [stopcockref01_ParseInt.j4])
                    | succ kj17 =>
                      have H := HA.out; clear HA
                      simp only [stopcockref01_ParseInt.j4] at H
                      by_cases c21 : x55_17 = true
                      · subst c21
                        have H1 : ((stopcockref01_Decimal.f kj17 (wrap64 ((wrap64 (-(wrap64 (IntKind.u64.wrap (x5_4 - 1))))) - 1))).bind fun t182 => (if t182.toList = a0.toList then (some (wrap64 ((wrap64 (-(wrap64 (IntKind.u64.wrap (x5_4 - 1))))) - 1), 0)) else (some (0, 11)))) = some (r1, r2) := by rw [if_pos rfl] at H; exact H
                        clear H; have H := H1; clear H1; replace H := Option.bind_eq_some_iff.mp H; obtain ⟨t182, A220, H⟩ := H; replace H : (if t182.toList = a0.toList then (some (wrap64 ((wrap64 (-(wrap64 (IntKind.u64.wrap (x5_4 - 1))))) - 1), 0)) else (some (0, 11))) = some (r1, r2) := H; have A22 := Aside0.mk A220; clear A220
                        by_cases c23 : t182.toList = a0.toList
                        · rw [if_pos c23] at H
                          have c23b0 : (t182.toList == a0.toList) = true := beq_iff_eq.mpr c23; have c23b1 : (t182.toList != a0.toList) = false := bne_eq_false_iff_eq.mpr c23; clear c23
                          simp only [Option.some.injEq, Prod.mk.injEq] at H
                          obtain ⟨rfl, rfl⟩ := H
                          go_wp2_with (first | ((with_reducible refine gate_callee (f := 20) rfl ?_); refine goesL_ (some 79) rfl rfl Try.func20 (by kernel_rfl) rfl #[.int .i64 (wrap64 ((wrap64 (-(wrap64 (IntKind.u64.wrap (x5_4 - 1))))) - 1))] rfl (by (try simp only [List.map_toArray, List.map_cons, List.map_nil]); first | done | rfl | (simp only [List.length_drop, List.length_take]; rfl)) ?_; (with_reducible refine (stopcockref01_Decimal.calls kj17 (wrap64 ((wrap64 (-(wrap64 (IntKind.u64.wrap (x5_4 - 1))))) - 1)) t182 _ A22.out).mono ?_); rintro e w24 ⟨rfl, hb⟩; refine ⟨_, rfl, ?_⟩; have n0_ := Aside0.mk (below_step (bel0 HB.out) hb); clear HB; have HB := n0_; clear n0_; (try clear hb); (try clear hb2); (try clear hk); (try clear hi)))
                          go_ret2
                          exact ⟨by first | rfl | (simp [errW_none, errW_some] <;> rfl) | (simp [*, errW_none, errW_some] <;> rfl), by exact bel0 HB.out⟩
                        rw [if_neg c23] at H; have c23b0 : (t182.toList == a0.toList) = false := beq_eq_false_iff_ne.mpr c23; have c23b1 : (t182.toList != a0.toList) = true := bne_iff_ne.mpr c23
                        simp only [Option.some.injEq, Prod.mk.injEq] at H
                        obtain ⟨rfl, rfl⟩ := H
                        go_wp2_with (first | ((with_reducible refine gate_callee (f := 20) rfl ?_); refine goesL_ (some 79) rfl rfl Try.func20 (by kernel_rfl) rfl #[.int .i64 (wrap64 ((wrap64 (-(wrap64 (IntKind.u64.wrap (x5_4 - 1))))) - 1))] rfl (by (try simp only [List.map_toArray, List.map_cons, List.map_nil]); first | done | rfl | (simp only [List.length_drop, List.length_take]; rfl)) ?_; (with_reducible refine (stopcockref01_Decimal.calls kj17 (wrap64 ((wrap64 (-(wrap64 (IntKind.u64.wrap (x5_4 - 1))))) - 1)) t182 _ A22.out).mono ?_); rintro e w25 ⟨rfl, hb⟩; refine ⟨_, rfl, ?_⟩; have n0_ := Aside0.mk (below_step (bel0 HB.out) hb); clear HB; have HB := n0_; clear n0_; (try clear hb); (try clear hb2); (try clear hk); (try clear hi)))
                        go_ret2
                        exact ⟨by first | rfl | (simp [errW_none, errW_some] <;> rfl) | (simp [*, errW_none, errW_some] <;> rfl), by exact bel0 HB.out⟩
                      replace c21 := Bool.eq_false_iff.mpr c21
                      subst c21
                      have H1 : (if x4_5 = 1 then (stopcockref01_ParseInt.j5 kj17 a0 (wrap64 (x5_4)) true) else (stopcockref01_ParseInt.j5 kj17 a0 (wrap64 (x5_4)) (decide (x5_4 ≥ 9223372036854775808)))) = some (r1, r2) := by rw [if_neg (show ¬ (false = true) by decide)] at H; exact H
                      clear H; have H := H1; clear H1; have HC26 := Aside0.mk H; clear H
                      go_upto_region 16 with (fail)
                      go_cut [71] (fun v71 wc => ∃ (kq : Nat) (x71_25 : Bool), v71 = .bool x71_25 ∧ Aside0 (stopcockref01_ParseInt.j5 kq a0 (wrap64 (x5_4)) x71_25 = some (r1, r2)) ∧ Aside0 (kq ≤ kj17) ∧ Aside0 (Below w.heap.size w wc))
                      case first =>
                        have H := HC26.out; clear HC26
                        by_cases c27 : x4_5 = 1
                        · rw [if_pos c27] at H
                          have c27b0 : (x4_5 == 1) = true := beq_iff_eq.mpr c27; have c27b1 : (x4_5 != 1) = false := bne_eq_false_iff_eq.mpr c27; clear c27
                          (first | rw [c27b0] | (simp only [i64_w, i32_w]; rw [c27b0]) | skip)
                          have H' := Aside0.mk H; clear H
                          go_wp2
                          go_meet
                          case rel => exact ⟨_, (true), (by first | rfl | (simp; done) | (simp [*]; done)), H', ⟨by have := HJ1.out; have := HJ5.out; have := HJ7.out; have := HK4.out; have := HJ17.out; first | omega | exact Nat.le_refl _⟩, ⟨by exact bel0 HB.out⟩⟩
                        rw [if_neg c27] at H; have c27b0 : (x4_5 == 1) = false := beq_eq_false_iff_ne.mpr c27; have c27b1 : (x4_5 != 1) = true := bne_iff_ne.mpr c27
                        (first | rw [c27b0] | (simp only [i64_w, i32_w]; rw [c27b0]) | skip)
                        have H' := Aside0.mk H; clear H
                        go_wp2
                        go_meet
                        case rel => exact ⟨_, (decide (x5_4 ≥ 9223372036854775808)), (by first | rfl | (simp; done) | (simp [*]; done)), H', ⟨by have := HJ1.out; have := HJ5.out; have := HJ7.out; have := HK4.out; have := HJ17.out; first | omega | exact Nat.le_refl _⟩, ⟨by exact bel0 HB.out⟩⟩
                      case rest =>
                        clear HC26
                        try clear c1
                        try clear p1
                        try clear q1
                        try clear hx1
                        try clear c2
                        try clear p2
                        try clear c3
                        try clear c3b0
                        try clear c3b1
                        try clear c4
                        try clear c4b0
                        try clear c4b1
                        try clear p5
                        try clear q5
                        try clear hx5
                        try clear qi5
                        try clear p6
                        try clear c7
                        try clear c9
                        try clear c9b0
                        try clear c10
                        try clear c11
                        try clear c11b0
                        try clear c12
                        try clear c12b0
                        try clear p13
                        try clear q13
                        try clear hx13
                        try clear c14
                        try clear c14b0
                        try clear p15
                        try clear q15
                        try clear hx15
                        try clear c16
                        try clear c16b0
                        try clear p17
                        try clear q17
                        try clear hx17
                        try clear c19
                        try clear c19b0
                        try clear c19b1
                        try clear c20
                        try clear c20b0
                        try clear c21
                        try clear c23
                        try clear c23b0
                        try clear c23b1
                        try clear c27
                        try clear c27b0
                        try clear c27b1
                        try clear p1
                        try clear p13
                        try clear p15
                        try clear p17
                        try clear p2
                        try clear p5
                        try clear p6
                        try clear q1
                        try clear q13
                        try clear q15
                        try clear q17
                        try clear q5
                        obtain ⟨kq, x71_25, rfl, HA, HJ25, HB⟩ := hcut
                        cases kq with
                        | zero => exact absurd HA.out (by simp [stopcockref01_ParseInt.j5])
                        | succ kj25 =>
                          have H := HA.out; clear HA
                          simp only [stopcockref01_ParseInt.j5] at H
                          by_cases c28 : x71_25 = true
                          · subst c28
                            have H1 : (some (0, 11)) = some (r1, r2) := by rw [if_pos rfl] at H; exact H
                            clear H; have H := H1; clear H1
                            simp only [Option.some.injEq, Prod.mk.injEq] at H
                            obtain ⟨rfl, rfl⟩ := H
                            go_wp2
                            go_ret2
                            exact ⟨by first | rfl | (simp [errW_none, errW_some] <;> rfl) | (simp [*, errW_none, errW_some] <;> rfl), by exact bel0 HB.out⟩
                          replace c28 := Bool.eq_false_iff.mpr c28
                          subst c28
                          have H1 : ((stopcockref01_Decimal.f kj25 (wrap64 (x5_4))).bind fun t183 => (if t183.toList = a0.toList then (some ((wrap64 (x5_4)), 0)) else (some (0, 11)))) = some (r1, r2) := by rw [if_neg (show ¬ (false = true) by decide)] at H; exact H
                          clear H; have H := H1; clear H1; replace H := Option.bind_eq_some_iff.mp H; obtain ⟨t183, A290, H⟩ := H; replace H : (if t183.toList = a0.toList then (some ((wrap64 (x5_4)), 0)) else (some (0, 11))) = some (r1, r2) := H; have A29 := Aside0.mk A290; clear A290
                          by_cases c30 : t183.toList = a0.toList
                          · rw [if_pos c30] at H
                            have c30b0 : (t183.toList == a0.toList) = true := beq_iff_eq.mpr c30; have c30b1 : (t183.toList != a0.toList) = false := bne_eq_false_iff_eq.mpr c30; clear c30
                            simp only [Option.some.injEq, Prod.mk.injEq] at H
                            obtain ⟨rfl, rfl⟩ := H
                            go_wp2_with (first | ((with_reducible refine gate_callee (f := 20) rfl ?_); refine goesL_ (some 79) rfl rfl Try.func20 (by kernel_rfl) rfl #[.int .i64 (wrap64 (x5_4))] rfl (by (try simp only [List.map_toArray, List.map_cons, List.map_nil]); first | done | rfl | (simp only [List.length_drop, List.length_take]; rfl)) ?_; (with_reducible refine (stopcockref01_Decimal.calls kj25 (wrap64 (x5_4)) t183 _ A29.out).mono ?_); rintro e w31 ⟨rfl, hb⟩; refine ⟨_, rfl, ?_⟩; have n0_ := Aside0.mk (below_step (bel0 HB.out) hb); clear HB; have HB := n0_; clear n0_; (try clear hb); (try clear hb2); (try clear hk); (try clear hi)))
                            go_ret2
                            exact ⟨by first | rfl | (simp [errW_none, errW_some] <;> rfl) | (simp [*, errW_none, errW_some] <;> rfl), by exact bel0 HB.out⟩
                          rw [if_neg c30] at H; have c30b0 : (t183.toList == a0.toList) = false := beq_eq_false_iff_ne.mpr c30; have c30b1 : (t183.toList != a0.toList) = true := bne_iff_ne.mpr c30
                          simp only [Option.some.injEq, Prod.mk.injEq] at H
                          obtain ⟨rfl, rfl⟩ := H
                          go_wp2_with (first | ((with_reducible refine gate_callee (f := 20) rfl ?_); refine goesL_ (some 79) rfl rfl Try.func20 (by kernel_rfl) rfl #[.int .i64 (wrap64 (x5_4))] rfl (by (try simp only [List.map_toArray, List.map_cons, List.map_nil]); first | done | rfl | (simp only [List.length_drop, List.length_take]; rfl)) ?_; (with_reducible refine (stopcockref01_Decimal.calls kj25 (wrap64 (x5_4)) t183 _ A29.out).mono ?_); rintro e w32 ⟨rfl, hb⟩; refine ⟨_, rfl, ?_⟩; have n0_ := Aside0.mk (below_step (bel0 HB.out) hb); clear HB; have HB := n0_; clear n0_; (try clear hb); (try clear hb2); (try clear hk); (try clear hi)))
                          go_ret2
                          exact ⟨by first | rfl | (simp [errW_none, errW_some] <;> rfl) | (simp [*, errW_none, errW_some] <;> rfl), by exact bel0 HB.out⟩

end Go.Proofs.Ytpadboidkpembaa.PA
