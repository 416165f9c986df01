/- The contracts of hystart.Check and hystart.Growth: what they compute, by hand (arrays of numbers are ranged over, or looked into). -/
import Derived.Test.YtgibiffjkmmeeaaProg
import Derived.Below
import Derived.Deep.Draws
import Derived.WalkKit
import Derived.KernelRfl
import Derived.RowKit3
import Derived.Deep.LoopGhost
import Derived.Deep.QuietTactic
import Derived.BigQuiet
import Derived.Laws.Rows
import Derived.Test.YtgibiffjkmmeeaaWWords
import Derived.Test.YtgibiffjkmmeeaaWLast
import Derived.Test.YtgibiffjkmmeeaaWMore
namespace Go.Proofs.Ytgibiffjkmmeeaa.Hand
open Go.RowKit Go.Proofs.YtgibiffjkmmeeaaW.PrintWords Go.Proofs.YtgibiffjkmmeeaaW.PrintLast Go.Proofs.YtgibiffjkmmeeaaW.PrintMore
attribute [local go_sem] max2_int min2_int max_two min_two max_three min_three max_four min_four
set_option linter.unusedVariables false
set_option linter.unusedSimpArgs false

def may (ph la no sa ba ro : Int) : Prop := 0 ≤ ph ∧ ph ≤ 2 ∧ 0 ≤ la ∧ la ≤ 1073741824 ∧ 0 ≤ no ∧ no ≤ 1073741824 ∧ 0 ≤ sa ∧ sa ≤ 1073741824 ∧ 0 ≤ ba ∧ ba ≤ 1073741824 ∧ 0 ≤ ro ∧ ro ≤ 1073741824
instance (ph la no sa ba ro : Int) : Decidable (may ph la no sa ba ro) := by unfold may; infer_instance
def checkF (ph : Int) (h1 h2 : Bool) (la no sa ba ro : Int) : Option Int := if may ph la no sa ba ro then some 0 else some 171
abbrev arr (la no sa ba ro : Int) : Value := .agg #[.int .i64 la, .int .i64 no, .int .i64 sa, .int .i64 ba, .int .i64 ro]
theorem arr0 (la no sa ba ro : Int) (w : World) : (Instr.index 49 (arr la no sa ba ro) (.int .i64 0)).run Try.prog w = .ok (.int .i64 la) w := by kernel_rfl
theorem arr1 (la no sa ba ro : Int) (w : World) : (Instr.index 49 (arr la no sa ba ro) (.int .i64 1)).run Try.prog w = .ok (.int .i64 no) w := by kernel_rfl
theorem arr2 (la no sa ba ro : Int) (w : World) : (Instr.index 49 (arr la no sa ba ro) (.int .i64 2)).run Try.prog w = .ok (.int .i64 sa) w := by kernel_rfl
theorem arr3 (la no sa ba ro : Int) (w : World) : (Instr.index 49 (arr la no sa ba ro) (.int .i64 3)).run Try.prog w = .ok (.int .i64 ba) w := by kernel_rfl
theorem arr4 (la no sa ba ro : Int) (w : World) : (Instr.index 49 (arr la no sa ba ro) (.int .i64 4)).run Try.prog w = .ok (.int .i64 ro) w := by kernel_rfl

set_option maxHeartbeats 1600000 in
set_option maxRecDepth 100000 in
theorem check_ok (ph : Int) (h1 h2 : Bool) (la no sa ba ro : Int) (w : World) (h : may ph la no sa ba ro) :
    Calls Try.prog 17 #[.agg #[.int .i64 ph, .bool h1, .bool h2, .int .i64 la, .int .i64 no, .int .i64 sa, .int .i64 ba, .int .i64 ro]] w fun e w' => e = .returned (.int .i64 0) ∧ Below w.heap.size w w' := by
  obtain ⟨g1, g2, g3, g4, g5, g6, g7, g8, g9, g10, g11, g12⟩ := h
  have i0 := arr0 la no sa ba ro
  have i1 := arr1 la no sa ba ro
  have i2 := arr2 la no sa ba ro
  have i3 := arr3 la no sa ba ro
  have i4 := arr4 la no sa ba ro
  go_enter Try.func17, Try.ntmps17
  go_wp2
  go_loop [3, 5, 25] (fun b n i => ∃ k : Nat, k ≤ 5 ∧ i = .int .i64 k ∧ b = .bool true) (fun _ _ i => 5 - (intOf i).toNat)
  case atStart => exact ⟨0, by omega, rfl, rfl⟩
  case round =>
    obtain ⟨k, hk, rfl, rfl⟩ := hrel
    have hk5 : k = 0 ∨ k = 1 ∨ k = 2 ∨ k = 3 ∨ k = 4 ∨ k = 5 := by omega
    rcases hk5 with rfl | rfl | rfl | rfl | rfl | rfl
    · go_wp2
      go_round
      case rel => exact ⟨1, by omega, rfl, rfl⟩
      case measure => simp [intOf]
    · go_wp2
      go_round
      case rel => exact ⟨2, by omega, rfl, rfl⟩
      case measure => simp [intOf]
    · go_wp2
      go_round
      case rel => exact ⟨3, by omega, rfl, rfl⟩
      case measure => simp [intOf]
    · go_wp2
      go_round
      case rel => exact ⟨4, by omega, rfl, rfl⟩
      case measure => simp [intOf]
    · go_wp2
      go_round
      case rel => exact ⟨5, by omega, rfl, rfl⟩
      case measure => simp [intOf]
    · go_wp2
      go_ret
      exact ⟨rfl, (Below.refl _ _).alloc (Nat.le_refl _) _⟩

def upto (ph la no sa ba ro : Int) (k : Nat) : Prop := (0 ≤ ph ∧ ph ≤ 2) ∧ (0 < k → 0 ≤ la ∧ la ≤ 1073741824) ∧ (1 < k → 0 ≤ no ∧ no ≤ 1073741824) ∧ (2 < k → 0 ≤ sa ∧ sa ≤ 1073741824) ∧ (3 < k → 0 ≤ ba ∧ ba ≤ 1073741824) ∧ (4 < k → 0 ≤ ro ∧ ro ≤ 1073741824)
set_option maxHeartbeats 1600000 in
set_option maxRecDepth 100000 in
theorem check_bad (ph : Int) (h1 h2 : Bool) (la no sa ba ro : Int) (w : World) (h : ¬ may ph la no sa ba ro) :
    Calls Try.prog 17 #[.agg #[.int .i64 ph, .bool h1, .bool h2, .int .i64 la, .int .i64 no, .int .i64 sa, .int .i64 ba, .int .i64 ro]] w fun e w' => e = .returned (.int .i64 171) ∧ Below w.heap.size w w' := by
  have HN := Aside0.mk h
  clear h
  have i0 := arr0 la no sa ba ro
  have i1 := arr1 la no sa ba ro
  have i2 := arr2 la no sa ba ro
  have i3 := arr3 la no sa ba ro
  have i4 := arr4 la no sa ba ro
  obtain ⟨b0, hb0⟩ : ∃ b : Bool, b = decide (0 ≤ ph ∧ ph ≤ 2) := ⟨_, rfl⟩
  have HB0 := Aside0.mk hb0
  clear hb0
  go_enter Try.func17, Try.ntmps17
  rcases (by omega : ph < 0 ∨ 0 ≤ ph) with hq | hq
  all_goals
    go_wp2
    go_loop [3, 5, 25] (fun bv n i => ∃ (k : Nat) (b : Bool), k ≤ 5 ∧ i = .int .i64 k ∧ bv = .bool b ∧ (b = true → upto ph la no sa ba ro k)) (fun _ _ i => 5 - (intOf i).toNat)
    case atStart => exact ⟨0, _, by omega, rfl, rfl, fun h => by first | (cases h; done) | (unfold upto; omega) | (have h' := of_decide_eq_true h; unfold upto; omega)⟩
    case round =>
      obtain ⟨k, b, hk, rfl, rfl, hb⟩ := hrel
      have HB := Aside0.mk hb
      clear hb
      clear hq
      have hk5 : k = 0 ∨ k = 1 ∨ k = 2 ∨ k = 3 ∨ k = 4 ∨ k = 5 := by omega
      rcases hk5 with rfl | rfl | rfl | rfl | rfl | rfl
      · cases b with
        | false =>
          go_wp2
          go_round
          case rel => exact ⟨1, false, by omega, rfl, rfl, fun h => by cases h⟩
          case measure => simp [intOf]
        | true =>
          rcases (by omega : la < 0 ∨ 0 ≤ la) with hq | hq
          · go_wp2
            go_round
            case rel => exact ⟨1, false, by omega, rfl, rfl, fun h => by cases h⟩
            case measure => simp [intOf]
          · go_wp2
            go_round
            case rel => exact ⟨1, _, by omega, rfl, rfl, fun h => by have h' := of_decide_eq_true h; obtain ⟨g0, g1, g2, g3, g4, g5⟩ := HB.out rfl; exact ⟨by omega, by omega, by omega, by omega, by omega, by omega⟩⟩
            case measure => simp [intOf]
      · cases b with
        | false =>
          go_wp2
          go_round
          case rel => exact ⟨2, false, by omega, rfl, rfl, fun h => by cases h⟩
          case measure => simp [intOf]
        | true =>
          rcases (by omega : no < 0 ∨ 0 ≤ no) with hq | hq
          · go_wp2
            go_round
            case rel => exact ⟨2, false, by omega, rfl, rfl, fun h => by cases h⟩
            case measure => simp [intOf]
          · go_wp2
            go_round
            case rel => exact ⟨2, _, by omega, rfl, rfl, fun h => by have h' := of_decide_eq_true h; obtain ⟨g0, g1, g2, g3, g4, g5⟩ := HB.out rfl; exact ⟨by omega, by omega, by omega, by omega, by omega, by omega⟩⟩
            case measure => simp [intOf]
      · cases b with
        | false =>
          go_wp2
          go_round
          case rel => exact ⟨3, false, by omega, rfl, rfl, fun h => by cases h⟩
          case measure => simp [intOf]
        | true =>
          rcases (by omega : sa < 0 ∨ 0 ≤ sa) with hq | hq
          · go_wp2
            go_round
            case rel => exact ⟨3, false, by omega, rfl, rfl, fun h => by cases h⟩
            case measure => simp [intOf]
          · go_wp2
            go_round
            case rel => exact ⟨3, _, by omega, rfl, rfl, fun h => by have h' := of_decide_eq_true h; obtain ⟨g0, g1, g2, g3, g4, g5⟩ := HB.out rfl; exact ⟨by omega, by omega, by omega, by omega, by omega, by omega⟩⟩
            case measure => simp [intOf]
      · cases b with
        | false =>
          go_wp2
          go_round
          case rel => exact ⟨4, false, by omega, rfl, rfl, fun h => by cases h⟩
          case measure => simp [intOf]
        | true =>
          rcases (by omega : ba < 0 ∨ 0 ≤ ba) with hq | hq
          · go_wp2
            go_round
            case rel => exact ⟨4, false, by omega, rfl, rfl, fun h => by cases h⟩
            case measure => simp [intOf]
          · go_wp2
            go_round
            case rel => exact ⟨4, _, by omega, rfl, rfl, fun h => by have h' := of_decide_eq_true h; obtain ⟨g0, g1, g2, g3, g4, g5⟩ := HB.out rfl; exact ⟨by omega, by omega, by omega, by omega, by omega, by omega⟩⟩
            case measure => simp [intOf]
      · cases b with
        | false =>
          go_wp2
          go_round
          case rel => exact ⟨5, false, by omega, rfl, rfl, fun h => by cases h⟩
          case measure => simp [intOf]
        | true =>
          rcases (by omega : ro < 0 ∨ 0 ≤ ro) with hq | hq
          · go_wp2
            go_round
            case rel => exact ⟨5, false, by omega, rfl, rfl, fun h => by cases h⟩
            case measure => simp [intOf]
          · go_wp2
            go_round
            case rel => exact ⟨5, _, by omega, rfl, rfl, fun h => by have h' := of_decide_eq_true h; obtain ⟨g0, g1, g2, g3, g4, g5⟩ := HB.out rfl; exact ⟨by omega, by omega, by omega, by omega, by omega, by omega⟩⟩
            case measure => simp [intOf]
      · cases b with
        | false =>
          go_wp2
          go_ret
          exact ⟨rfl, (Below.refl _ _).alloc (Nat.le_refl _) _⟩
        | true => obtain ⟨g0, g1, g2, g3, g4, g5⟩ := HB.out rfl; exact absurd (by unfold may; omega) HN.out
theorem check_calls (ph : Int) (h1 h2 : Bool) (la no sa ba ro r : Int) (w : World) (h : checkF ph h1 h2 la no sa ba ro = some r) :
    Calls Try.prog 17 #[.agg #[.int .i64 ph, .bool h1, .bool h2, .int .i64 la, .int .i64 no, .int .i64 sa, .int .i64 ba, .int .i64 ro]] w fun e w' => e = .returned (.int .i64 r) ∧ Below w.heap.size w w' := by
  unfold checkF at h
  by_cases hm : may ph la no sa ba ro
  · rw [if_pos hm] at h
    obtain rfl := Option.some.inj h
    exact check_ok ph h1 h2 la no sa ba ro w hm
  · rw [if_neg hm] at h
    obtain rfl := Option.some.inj h
    exact check_bad ph h1 h2 la no sa ba ro w hm

def growthF (ph : Int) (h1 h2 : Bool) (la no sa ba ro n mss : Int) : Option (Int × Int) :=
  if may ph la no sa ba ro then
    if 0 ≤ n ∧ n ≤ 1073741824 ∧ 1 ≤ mss ∧ mss ≤ 65535 then some (if ph = 0 then mn n (8 * mss) else if ph = 1 then mn n (8 * mss) / 4 else 0, 0) else some (0, 4)
  else some (0, 171)
theorem tri0 (x y : Int) (w : World) : (Instr.index 48 (.agg #[.int .i64 x, .int .i64 y, .int .i64 0]) (.int .i64 0)).run Try.prog w = .ok (.int .i64 x) w := by kernel_rfl
theorem tri1 (x y : Int) (w : World) : (Instr.index 48 (.agg #[.int .i64 x, .int .i64 y, .int .i64 0]) (.int .i64 1)).run Try.prog w = .ok (.int .i64 y) w := by kernel_rfl
theorem tri2 (x y : Int) (w : World) : (Instr.index 48 (.agg #[.int .i64 x, .int .i64 y, .int .i64 0]) (.int .i64 2)).run Try.prog w = .ok (.int .i64 0) w := by kernel_rfl
set_option maxHeartbeats 1600000 in
set_option maxRecDepth 100000 in
theorem growth_none (ph : Int) (h1 h2 : Bool) (la no sa ba ro n mss : Int) (w : World) (h : ¬ may ph la no sa ba ro) :
    Calls Try.prog 16 #[.agg #[.int .i64 ph, .bool h1, .bool h2, .int .i64 la, .int .i64 no, .int .i64 sa, .int .i64 ba, .int .i64 ro], .int .i64 n, .int .i64 mss] w fun e w' => e = .returned (.tuple #[.int .i64 0, .int .i64 171]) ∧ Below w.heap.size w w' := by
  have hc := fun w => check_bad ph h1 h2 la no sa ba ro w h
  have HC := Aside0.mk hc
  clear hc h
  go_enter Try.func16, Try.ntmps16
  go_wp2_with (go_at_call 17; refine (HC.out _).mono ?_; rintro e w1 ⟨rfl, hb⟩)
  have HB := Aside0.mk hb
  clear hb
  go_wp2
  go_ret2
  exact ⟨rfl, ((Below.refl _ _).alloc (Nat.le_refl _) _).trans (HB.out.mono (by simp))⟩
set_option maxHeartbeats 1600000 in
set_option maxRecDepth 100000 in
theorem growth_range (ph : Int) (h1 h2 : Bool) (la no sa ba ro n mss : Int) (w : World) (h : may ph la no sa ba ro) (hr : ¬ (0 ≤ n ∧ n ≤ 1073741824 ∧ 1 ≤ mss ∧ mss ≤ 65535)) :
    Calls Try.prog 16 #[.agg #[.int .i64 ph, .bool h1, .bool h2, .int .i64 la, .int .i64 no, .int .i64 sa, .int .i64 ba, .int .i64 ro], .int .i64 n, .int .i64 mss] w fun e w' => e = .returned (.tuple #[.int .i64 0, .int .i64 4]) ∧ Below w.heap.size w w' := by
  have hc := fun w => check_ok ph h1 h2 la no sa ba ro w h
  have HC := Aside0.mk hc
  clear hc h
  have hcs : n < 0 ∨ (0 ≤ n ∧ 1073741824 < n) ∨ (0 ≤ n ∧ n ≤ 1073741824 ∧ mss < 1) ∨ (0 ≤ n ∧ n ≤ 1073741824 ∧ 1 ≤ mss ∧ 65535 < mss) := by omega
  clear hr
  rcases hcs with g | ⟨g, g2⟩ | ⟨g, g2, g3⟩ | ⟨g, g2, g3, g4⟩
  all_goals
    go_enter Try.func16, Try.ntmps16
    go_wp2_with (go_at_call 17; refine (HC.out _).mono ?_; rintro e w1 ⟨rfl, hb⟩)
    have HB := Aside0.mk hb
    clear hb
    go_wp2
    go_ret2
    exact ⟨rfl, ((Below.refl _ _).alloc (Nat.le_refl _) _).trans (HB.out.mono (by simp))⟩
theorem cell0 (w : World) (ph : Int) (h1 h2 : Bool) (la no sa ba ro : Int) : (w.alloc (.cells #[.int .i64 ph, .bool h1, .bool h2, .int .i64 la, .int .i64 no, .int .i64 sa, .int .i64 ba, .int .i64 ro] 25)).cell? ⟨w.heap.size, 0, none⟩ = some (.int .i64 ph) := by go_simp
set_option maxHeartbeats 1600000 in
set_option maxRecDepth 100000 in
theorem growth_ok (ph : Int) (h1 h2 : Bool) (la no sa ba ro n mss : Int) (w : World) (h : may ph la no sa ba ro) (hr : 0 ≤ n ∧ n ≤ 1073741824 ∧ 1 ≤ mss ∧ mss ≤ 65535) :
    Calls Try.prog 16 #[.agg #[.int .i64 ph, .bool h1, .bool h2, .int .i64 la, .int .i64 no, .int .i64 sa, .int .i64 ba, .int .i64 ro], .int .i64 n, .int .i64 mss] w fun e w' => e = .returned (.tuple #[.int .i64 (if ph = 0 then mn n (8 * mss) else if ph = 1 then mn n (8 * mss) / 4 else 0), .int .i64 0]) ∧ Below w.heap.size w w' := by
  have hc := fun w => check_ok ph h1 h2 la no sa ba ro w h
  have HC := Aside0.mk hc
  clear hc
  have hph : ph = 0 ∨ ph = 1 ∨ ph = 2 := by unfold may at h; omega
  clear h
  obtain ⟨r1, r2, r3, r4⟩ := hr
  obtain ⟨m, hm⟩ : ∃ m, (if 8 * mss < n then 8 * mss else n) = m := ⟨_, rfl⟩
  have hm0 : 0 ≤ m ∧ m ≤ 1073741824 := by rw [← hm]; split <;> omega
  obtain ⟨m0, m1⟩ := hm0
  have E : mn n (8 * mss) = m := hm
  have EH := Aside0.mk E
  clear E
  have t0 := tri0 m (m / 4)
  have t1 := tri1 m (m / 4)
  have t2 := tri2 m (m / 4)
  rcases hph with rfl | rfl | rfl
  all_goals
    go_enter Try.func16, Try.ntmps16
    go_wp2_with (go_at_call 17; refine (HC.out _).mono ?_; rintro e w1 ⟨rfl, hb⟩; have hcc := (hb.cell (p := ⟨w.heap.size, 0, none⟩) (by simp)).trans (cell0 w _ _ _ _ _ _ _ _); have HB := Aside0.mk hb; clear hb)
    go_wp2
    go_ret2
    refine ⟨?_, ((Below.refl _ _).alloc (Nat.le_refl _) _).trans (HB.out.mono (by simp))⟩
    first | (rw [EH.out]; rfl) | rfl
theorem growth_calls (ph : Int) (h1 h2 : Bool) (la no sa ba ro n mss r1 r2 : Int) (w : World) (h : growthF ph h1 h2 la no sa ba ro n mss = some (r1, r2)) :
    Calls Try.prog 16 #[.agg #[.int .i64 ph, .bool h1, .bool h2, .int .i64 la, .int .i64 no, .int .i64 sa, .int .i64 ba, .int .i64 ro], .int .i64 n, .int .i64 mss] w fun e w' => e = .returned (.tuple #[.int .i64 r1, .int .i64 r2]) ∧ Below w.heap.size w w' := by
  unfold growthF at h
  by_cases hm : may ph la no sa ba ro
  · rw [if_pos hm] at h
    by_cases hr : 0 ≤ n ∧ n ≤ 1073741824 ∧ 1 ≤ mss ∧ mss ≤ 65535
    · rw [if_pos hr] at h
      simp only [Option.some.injEq, Prod.mk.injEq] at h
      obtain ⟨rfl, rfl⟩ := h
      exact growth_ok ph h1 h2 la no sa ba ro n mss w hm hr
    · rw [if_neg hr] at h
      simp only [Option.some.injEq, Prod.mk.injEq] at h
      obtain ⟨rfl, rfl⟩ := h
      exact growth_range ph h1 h2 la no sa ba ro n mss w hm hr
  · rw [if_neg hm] at h
    simp only [Option.some.injEq, Prod.mk.injEq] at h
    obtain ⟨rfl, rfl⟩ := h
    exact growth_none ph h1 h2 la no sa ba ro n mss w hm
end Go.Proofs.Ytgibiffjkmmeeaa.Hand
