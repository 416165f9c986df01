/- The contract of pacer.Depart: what it computes, by hand (an array of arrays is ranged over). -/
import Derived.Test.YtlepbdbghiedjaaProg
import Derived.Below
import Derived.Deep.Draws
import Derived.WalkKit
import Derived.KernelRfl
import Derived.RowKit3
import Derived.Deep.LoopGhost
import Derived.Deep.QuietTactic
import Derived.BigQuiet
import Derived.Laws.Rows
import Derived.Test.YtlepbdbghiedjaaWWords
import Derived.Test.YtlepbdbghiedjaaWLast
import Derived.Test.YtlepbdbghiedjaaWMore
namespace Go.Proofs.Ytlepbdbghiedjaa.Hand
open Go.RowKit Go.Proofs.YtlepbdbghiedjaaW.PrintWords Go.Proofs.YtlepbdbghiedjaaW.PrintLast Go.Proofs.YtlepbdbghiedjaaW.PrintMore
attribute [local go_sem] max2_int min2_int max_two min_two max_three min_three max_four min_four

def may (a0 a1 a2 a3 a4 : Int) : Prop := 1 ≤ a1 ∧ a1 ≤ 65535 ∧ 1 ≤ a2 ∧ a2 ≤ 1073741824 ∧ 0 ≤ a3 ∧ a3 ≤ 1048576 ∧ 0 ≤ a4 ∧ a4 ≤ 1099511627776 ∧ 0 ≤ a0 ∧ a0 ≤ 1099511627776
instance (a0 a1 a2 a3 a4 : Int) : Decidable (may a0 a1 a2 a3 a4) := by unfold may; infer_instance
def cost (a1 a2 : Int) : Int := if a1 * 1024 / a2 * a2 < a1 * 1024 then a1 * 1024 / a2 + 1 else a1 * 1024 / a2
def departF (a0 a1 a2 a3 a4 : Int) : Option (Int × Int × Int) :=
  if may a0 a1 a2 a3 a4 then some (mn (mx a0 (a4 - a3 * 1024 / a2) + cost a1 a2) 1099511627776, mx (mx a0 (a4 - a3 * 1024 / a2)) a4, 0) else some (0, 0, 4)

abbrev arr (a0 a1 a2 a3 a4 : Int) : Value := .agg #[.int .i64 a1, .int .i64 1, .int .i64 65535, .int .i64 a2, .int .i64 1, .int .i64 1073741824, .int .i64 a3, .int .i64 0, .int .i64 1048576, .int .i64 a4, .int .i64 0, .int .i64 1099511627776, .int .i64 a0, .int .i64 0, .int .i64 1099511627776]
theorem arr0 (a0 a1 a2 a3 a4 : Int) (w : World) : (Instr.index 46 (arr a0 a1 a2 a3 a4) (.int .i64 0)).run Try.prog w = .ok (.agg #[.int .i64 a1, .int .i64 1, .int .i64 65535]) w := by kernel_rfl
theorem arr1 (a0 a1 a2 a3 a4 : Int) (w : World) : (Instr.index 46 (arr a0 a1 a2 a3 a4) (.int .i64 1)).run Try.prog w = .ok (.agg #[.int .i64 a2, .int .i64 1, .int .i64 1073741824]) w := by kernel_rfl
theorem arr2 (a0 a1 a2 a3 a4 : Int) (w : World) : (Instr.index 46 (arr a0 a1 a2 a3 a4) (.int .i64 2)).run Try.prog w = .ok (.agg #[.int .i64 a3, .int .i64 0, .int .i64 1048576]) w := by kernel_rfl
theorem arr3 (a0 a1 a2 a3 a4 : Int) (w : World) : (Instr.index 46 (arr a0 a1 a2 a3 a4) (.int .i64 3)).run Try.prog w = .ok (.agg #[.int .i64 a4, .int .i64 0, .int .i64 1099511627776]) w := by kernel_rfl
theorem arr4 (a0 a1 a2 a3 a4 : Int) (w : World) : (Instr.index 46 (arr a0 a1 a2 a3 a4) (.int .i64 4)).run Try.prog w = .ok (.agg #[.int .i64 a0, .int .i64 0, .int .i64 1099511627776]) w := by kernel_rfl

set_option maxHeartbeats 1600000 in
set_option maxRecDepth 100000 in
theorem depart_ok (a0 a1 a2 a3 a4 : Int) (w : World) (h : may a0 a1 a2 a3 a4) :
    Calls Try.prog 6 #[.agg #[.int .i64 a0], .int .i64 a1, .int .i64 a2, .int .i64 a3, .int .i64 a4] w fun e w' =>
      e = .returned (.tuple #[.agg #[.int .i64 (mn (mx a0 (a4 - a3 * 1024 / a2) + cost a1 a2) 1099511627776)], .int .i64 (mx (mx a0 (a4 - a3 * 1024 / a2)) a4), .int .i64 0]) ∧ Below w.heap.size w w' := by
  obtain ⟨h1, h2, h3, h4, h5, h6, h7, h8, h9, h10⟩ := h
  have i0 := arr0 a0 a1 a2 a3 a4
  have i1 := arr1 a0 a1 a2 a3 a4
  have i2 := arr2 a0 a1 a2 a3 a4
  have i3 := arr3 a0 a1 a2 a3 a4
  have i4 := arr4 a0 a1 a2 a3 a4
  go_enter Try.func6, Try.ntmps6
  go_wp2
  go_loopw [29] (fun i wr => ∃ k : Nat, k ≤ 5 ∧ i = .int .i64 k ∧ Below ((w.alloc (.cells #[.int .i64 a0] 23)).alloc (.cells #[.int .i64 0] 23)).heap.size ((w.alloc (.cells #[.int .i64 a0] 23)).alloc (.cells #[.int .i64 0] 23)) wr) (fun i _ => 5 - (intOf i).toNat)
  case atStart => exact ⟨0, by omega, rfl, Below.refl _ _⟩
  case round =>
    obtain ⟨k, hk, rfl, hB⟩ := hrel
    have hk5 : k = 0 ∨ k = 1 ∨ k = 2 ∨ k = 3 ∨ k = 4 ∨ k = 5 := by omega
    rcases hk5 with rfl | rfl | rfl | rfl | rfl | rfl
    · go_wp2
      go_roundw
      case rel => exact ⟨1, by omega, rfl, below_alloc hB _⟩
      case measure => simp [intOf]
    · go_wp2
      go_roundw
      case rel => exact ⟨2, by omega, rfl, below_alloc hB _⟩
      case measure => simp [intOf]
    · go_wp2
      go_roundw
      case rel => exact ⟨3, by omega, rfl, below_alloc hB _⟩
      case measure => simp [intOf]
    · go_wp2
      go_roundw
      case rel => exact ⟨4, by omega, rfl, below_alloc hB _⟩
      case measure => simp [intOf]
    · go_wp2
      go_roundw
      case rel => exact ⟨5, by omega, rfl, below_alloc hB _⟩
      case measure => simp [intOf]
    · have hq1 : 0 ≤ a1 * 1024 / a2 := Int.ediv_nonneg (by omega) (by omega)
      have hq2 : a1 * 1024 / a2 * a2 ≤ a1 * 1024 := Int.ediv_mul_le _ (by omega)
      have hq3 : 0 ≤ a1 * 1024 / a2 * a2 := Int.mul_nonneg hq1 (by omega)
      have hq4 : a1 * 1024 / a2 ≤ a1 * 1024 := Int.ediv_le_self _ (by omega)
      have hr1 : 0 ≤ a3 * 1024 / a2 := Int.ediv_nonneg (by omega) (by omega)
      have hr2 : a3 * 1024 / a2 ≤ a3 * 1024 := Int.ediv_le_self _ (by omega)
      have hc0 : wr.cell? ⟨w.heap.size, 0, none⟩ = some (.int .i64 a0) := (hB.cell (p := ⟨w.heap.size, 0, none⟩) (by simp; omega)).trans (by go_simp)
      have hc1 : wr.cell? ⟨w.heap.size + 1, 0, none⟩ = some (.int .i64 0) := (hB.cell (p := ⟨w.heap.size + 1, 0, none⟩) (by simp)).trans (by go_simp)
      have hf1 : wr.frozen? ⟨w.heap.size + 1, 0, none⟩ = false := (hB.frozen (p := ⟨w.heap.size + 1, 0, none⟩) (by simp)).trans (by go_simp)
      have hW : Below w.heap.size w wr := (((Below.refl _ w).alloc (Nat.le_refl _) _).alloc (by simp) _).trans (hB.mono (by simp; omega))
      by_cases hc : a1 * 1024 / a2 * a2 < a1 * 1024
      · have hcd : decide (a1 * 1024 / a2 * a2 < a1 * 1024) = true := decide_eq_true hc
        have HC : cost a1 a2 = a1 * 1024 / a2 + 1 := by unfold cost; rw [if_pos hc]
        have HCH := Aside0.mk HC
        clear hc HC
        obtain ⟨m1, hm1⟩ : ∃ m, (if a0 < a4 - a3 * 1024 / a2 then a4 - a3 * 1024 / a2 else a0) = m := ⟨_, rfl⟩
        have hb1 : 0 ≤ m1 ∧ m1 ≤ 1099511627776 := by rw [← hm1]; split <;> omega
        obtain ⟨hb1, hb2⟩ := hb1
        obtain ⟨m2, hm2⟩ : ∃ m, (if 1099511627776 < m1 + (a1 * 1024 / a2 + 1) then 1099511627776 else m1 + (a1 * 1024 / a2 + 1)) = m := ⟨_, rfl⟩
        obtain ⟨m3, hm3⟩ : ∃ m, (if m1 < a4 then a4 else m1) = m := ⟨_, rfl⟩
        have E2 : mn (mx a0 (a4 - a3 * 1024 / a2) + cost a1 a2) 1099511627776 = m2 := by unfold mn mx; rw [HCH.out, hm1, hm2]
        have E3 : mx (mx a0 (a4 - a3 * 1024 / a2)) a4 = m3 := by unfold mx; rw [hm1, hm3]
        have E2H := Aside0.mk E2
        have E3H := Aside0.mk E3
        clear E2 E3
        go_wp2
        go_quiet (fail)
        go_wp2
        refine bodyPost_ret (v := .tuple #[.agg #[.int .i64 m2], .int .i64 m3, .int .i64 0]) (by simp [results, Try.results6, go_sem, hc1]) rfl ⟨?_, ?_⟩
        · rw [E2H.out, E3H.out]
        · repeat (first | (with_reducible first | exact hW | apply below_alloc | apply pw_below_drewN | apply below_drew1 | refine below_set ?_ (Nat.le_succ _)) | exact hW)
      · have hcd : decide (a1 * 1024 / a2 * a2 < a1 * 1024) = false := decide_eq_false hc
        have HC : cost a1 a2 = a1 * 1024 / a2 := by unfold cost; rw [if_neg hc]
        have HCH := Aside0.mk HC
        clear hc HC
        obtain ⟨m1, hm1⟩ : ∃ m, (if a0 < a4 - a3 * 1024 / a2 then a4 - a3 * 1024 / a2 else a0) = m := ⟨_, rfl⟩
        have hb1 : 0 ≤ m1 ∧ m1 ≤ 1099511627776 := by rw [← hm1]; split <;> omega
        obtain ⟨hb1, hb2⟩ := hb1
        obtain ⟨m2, hm2⟩ : ∃ m, (if 1099511627776 < m1 + a1 * 1024 / a2 then 1099511627776 else m1 + a1 * 1024 / a2) = m := ⟨_, rfl⟩
        obtain ⟨m3, hm3⟩ : ∃ m, (if m1 < a4 then a4 else m1) = m := ⟨_, rfl⟩
        have E2 : mn (mx a0 (a4 - a3 * 1024 / a2) + cost a1 a2) 1099511627776 = m2 := by unfold mn mx; rw [HCH.out, hm1, hm2]
        have E3 : mx (mx a0 (a4 - a3 * 1024 / a2)) a4 = m3 := by unfold mx; rw [hm1, hm3]
        have E2H := Aside0.mk E2
        have E3H := Aside0.mk E3
        clear E2 E3
        go_wp2
        go_quiet (fail)
        go_wp2
        refine bodyPost_ret (v := .tuple #[.agg #[.int .i64 m2], .int .i64 m3, .int .i64 0]) (by simp [results, Try.results6, go_sem, hc1]) rfl ⟨?_, ?_⟩
        · rw [E2H.out, E3H.out]
        · repeat (first | (with_reducible first | exact hW | apply below_alloc | apply pw_below_drewN | apply below_drew1 | refine below_set ?_ (Nat.le_succ _)) | exact hW)

set_option maxHeartbeats 1600000 in
set_option maxRecDepth 100000 in
theorem depart_bad (a0 a1 a2 a3 a4 : Int) (w : World) (h : ¬ may a0 a1 a2 a3 a4) :
    Calls Try.prog 6 #[.agg #[.int .i64 a0], .int .i64 a1, .int .i64 a2, .int .i64 a3, .int .i64 a4] w fun e w' =>
      e = .returned (.tuple #[.agg #[.int .i64 0], .int .i64 0, .int .i64 4]) ∧ Below w.heap.size w w' := by
  have HN := Aside0.mk h
  clear h
  have i0 := arr0 a0 a1 a2 a3 a4
  have i1 := arr1 a0 a1 a2 a3 a4
  have i2 := arr2 a0 a1 a2 a3 a4
  have i3 := arr3 a0 a1 a2 a3 a4
  have i4 := arr4 a0 a1 a2 a3 a4
  go_enter Try.func6, Try.ntmps6
  go_wp2
  go_loopw [29] (fun i wr => ∃ k : Nat, k ≤ 5 ∧ i = .int .i64 k ∧ (0 < k → 1 ≤ a1 ∧ a1 ≤ 65535) ∧ (1 < k → 1 ≤ a2 ∧ a2 ≤ 1073741824) ∧ (2 < k → 0 ≤ a3 ∧ a3 ≤ 1048576) ∧ (3 < k → 0 ≤ a4 ∧ a4 ≤ 1099511627776) ∧ (4 < k → 0 ≤ a0 ∧ a0 ≤ 1099511627776) ∧ Below ((w.alloc (.cells #[.int .i64 a0] 23)).alloc (.cells #[.int .i64 0] 23)).heap.size ((w.alloc (.cells #[.int .i64 a0] 23)).alloc (.cells #[.int .i64 0] 23)) wr) (fun i _ => 5 - (intOf i).toNat)
  case atStart => exact ⟨0, by omega, rfl, by omega, by omega, by omega, by omega, by omega, Below.refl _ _⟩
  case round =>
    obtain ⟨k, hk, rfl, g1, g2, g3, g4, g5, hB⟩ := hrel
    have hc0 : wr.cell? ⟨w.heap.size, 0, none⟩ = some (.int .i64 a0) := (hB.cell (p := ⟨w.heap.size, 0, none⟩) (by simp; omega)).trans (by go_simp)
    have hc1 : wr.cell? ⟨w.heap.size + 1, 0, none⟩ = some (.int .i64 0) := (hB.cell (p := ⟨w.heap.size + 1, 0, none⟩) (by simp)).trans (by go_simp)
    have hf1 : wr.frozen? ⟨w.heap.size + 1, 0, none⟩ = false := (hB.frozen (p := ⟨w.heap.size + 1, 0, none⟩) (by simp)).trans (by go_simp)
    have hz : w.heap.size + 1 < wr.heap.size := by have := hB.size; simp at this; omega
    have hW : Below w.heap.size w wr := (((Below.refl _ w).alloc (Nat.le_refl _) _).alloc (by simp) _).trans (hB.mono (by simp; omega))
    have G := Aside0.mk (And.intro g1 (And.intro g2 (And.intro g3 (And.intro g4 g5))))
    clear g1 g2 g3 g4 g5
    have hk5 : k = 0 ∨ k = 1 ∨ k = 2 ∨ k = 3 ∨ k = 4 ∨ k = 5 := by omega
    rcases hk5 with rfl | rfl | rfl | rfl | rfl | rfl
    · rcases (by omega : a1 < 1 ∨ (1 ≤ a1 ∧ 65535 < a1) ∨ (1 ≤ a1 ∧ a1 ≤ 65535)) with hq | ⟨hq, hq'⟩ | ⟨hq, hq'⟩
      · go_wp2
        refine bodyPost_ret (v := .tuple #[.agg #[.int .i64 0], .int .i64 0, .int .i64 4]) (by simp [results, Try.results6, go_sem, hc1, hz]) rfl ⟨rfl, ?_⟩
        repeat (first | (with_reducible first | exact hW | apply below_alloc | apply pw_below_drewN | apply below_drew1 | refine below_set ?_ (Nat.le_succ _)) | exact hW)
      · go_wp2
        refine bodyPost_ret (v := .tuple #[.agg #[.int .i64 0], .int .i64 0, .int .i64 4]) (by simp [results, Try.results6, go_sem, hc1, hz]) rfl ⟨rfl, ?_⟩
        repeat (first | (with_reducible first | exact hW | apply below_alloc | apply pw_below_drewN | apply below_drew1 | refine below_set ?_ (Nat.le_succ _)) | exact hW)
      · go_wp2
        go_roundw
        case rel => obtain ⟨g1, g2, g3, g4, g5⟩ := G.out; exact ⟨1, by omega, rfl, by omega, by omega, by omega, by omega, by omega, below_alloc hB _⟩
        case measure => simp [intOf]
    · rcases (by omega : a2 < 1 ∨ (1 ≤ a2 ∧ 1073741824 < a2) ∨ (1 ≤ a2 ∧ a2 ≤ 1073741824)) with hq | ⟨hq, hq'⟩ | ⟨hq, hq'⟩
      · go_wp2
        refine bodyPost_ret (v := .tuple #[.agg #[.int .i64 0], .int .i64 0, .int .i64 4]) (by simp [results, Try.results6, go_sem, hc1, hz]) rfl ⟨rfl, ?_⟩
        repeat (first | (with_reducible first | exact hW | apply below_alloc | apply pw_below_drewN | apply below_drew1 | refine below_set ?_ (Nat.le_succ _)) | exact hW)
      · go_wp2
        refine bodyPost_ret (v := .tuple #[.agg #[.int .i64 0], .int .i64 0, .int .i64 4]) (by simp [results, Try.results6, go_sem, hc1, hz]) rfl ⟨rfl, ?_⟩
        repeat (first | (with_reducible first | exact hW | apply below_alloc | apply pw_below_drewN | apply below_drew1 | refine below_set ?_ (Nat.le_succ _)) | exact hW)
      · go_wp2
        go_roundw
        case rel => obtain ⟨g1, g2, g3, g4, g5⟩ := G.out; exact ⟨2, by omega, rfl, by omega, by omega, by omega, by omega, by omega, below_alloc hB _⟩
        case measure => simp [intOf]
    · rcases (by omega : a3 < 0 ∨ (0 ≤ a3 ∧ 1048576 < a3) ∨ (0 ≤ a3 ∧ a3 ≤ 1048576)) with hq | ⟨hq, hq'⟩ | ⟨hq, hq'⟩
      · go_wp2
        refine bodyPost_ret (v := .tuple #[.agg #[.int .i64 0], .int .i64 0, .int .i64 4]) (by simp [results, Try.results6, go_sem, hc1, hz]) rfl ⟨rfl, ?_⟩
        repeat (first | (with_reducible first | exact hW | apply below_alloc | apply pw_below_drewN | apply below_drew1 | refine below_set ?_ (Nat.le_succ _)) | exact hW)
      · go_wp2
        refine bodyPost_ret (v := .tuple #[.agg #[.int .i64 0], .int .i64 0, .int .i64 4]) (by simp [results, Try.results6, go_sem, hc1, hz]) rfl ⟨rfl, ?_⟩
        repeat (first | (with_reducible first | exact hW | apply below_alloc | apply pw_below_drewN | apply below_drew1 | refine below_set ?_ (Nat.le_succ _)) | exact hW)
      · go_wp2
        go_roundw
        case rel => obtain ⟨g1, g2, g3, g4, g5⟩ := G.out; exact ⟨3, by omega, rfl, by omega, by omega, by omega, by omega, by omega, below_alloc hB _⟩
        case measure => simp [intOf]
    · rcases (by omega : a4 < 0 ∨ (0 ≤ a4 ∧ 1099511627776 < a4) ∨ (0 ≤ a4 ∧ a4 ≤ 1099511627776)) with hq | ⟨hq, hq'⟩ | ⟨hq, hq'⟩
      · go_wp2
        refine bodyPost_ret (v := .tuple #[.agg #[.int .i64 0], .int .i64 0, .int .i64 4]) (by simp [results, Try.results6, go_sem, hc1, hz]) rfl ⟨rfl, ?_⟩
        repeat (first | (with_reducible first | exact hW | apply below_alloc | apply pw_below_drewN | apply below_drew1 | refine below_set ?_ (Nat.le_succ _)) | exact hW)
      · go_wp2
        refine bodyPost_ret (v := .tuple #[.agg #[.int .i64 0], .int .i64 0, .int .i64 4]) (by simp [results, Try.results6, go_sem, hc1, hz]) rfl ⟨rfl, ?_⟩
        repeat (first | (with_reducible first | exact hW | apply below_alloc | apply pw_below_drewN | apply below_drew1 | refine below_set ?_ (Nat.le_succ _)) | exact hW)
      · go_wp2
        go_roundw
        case rel => obtain ⟨g1, g2, g3, g4, g5⟩ := G.out; exact ⟨4, by omega, rfl, by omega, by omega, by omega, by omega, by omega, below_alloc hB _⟩
        case measure => simp [intOf]
    · rcases (by omega : a0 < 0 ∨ (0 ≤ a0 ∧ 1099511627776 < a0) ∨ (0 ≤ a0 ∧ a0 ≤ 1099511627776)) with hq | ⟨hq, hq'⟩ | ⟨hq, hq'⟩
      · go_wp2
        refine bodyPost_ret (v := .tuple #[.agg #[.int .i64 0], .int .i64 0, .int .i64 4]) (by simp [results, Try.results6, go_sem, hc1, hz]) rfl ⟨rfl, ?_⟩
        repeat (first | (with_reducible first | exact hW | apply below_alloc | apply pw_below_drewN | apply below_drew1 | refine below_set ?_ (Nat.le_succ _)) | exact hW)
      · go_wp2
        refine bodyPost_ret (v := .tuple #[.agg #[.int .i64 0], .int .i64 0, .int .i64 4]) (by simp [results, Try.results6, go_sem, hc1, hz]) rfl ⟨rfl, ?_⟩
        repeat (first | (with_reducible first | exact hW | apply below_alloc | apply pw_below_drewN | apply below_drew1 | refine below_set ?_ (Nat.le_succ _)) | exact hW)
      · go_wp2
        go_roundw
        case rel => obtain ⟨g1, g2, g3, g4, g5⟩ := G.out; exact ⟨5, by omega, rfl, by omega, by omega, by omega, by omega, by omega, below_alloc hB _⟩
        case measure => simp [intOf]
    · obtain ⟨g1, g2, g3, g4, g5⟩ := G.out
      exact absurd (by unfold may; omega) HN.out
theorem depart_calls (a0 a1 a2 a3 a4 r1 r2 r3 : Int) (w : World) (h : departF a0 a1 a2 a3 a4 = some (r1, r2, r3)) :
    Calls Try.prog 6 #[.agg #[.int .i64 a0], .int .i64 a1, .int .i64 a2, .int .i64 a3, .int .i64 a4] w fun e w' =>
      e = .returned (.tuple #[.agg #[.int .i64 r1], .int .i64 r2, .int .i64 r3]) ∧ Below w.heap.size w w' := by
  unfold departF at h
  by_cases hm : may a0 a1 a2 a3 a4
  · rw [if_pos hm] at h
    simp only [Option.some.injEq, Prod.mk.injEq] at h
    obtain ⟨rfl, rfl, rfl⟩ := h
    exact depart_ok a0 a1 a2 a3 a4 w hm
  · rw [if_neg hm] at h
    simp only [Option.some.injEq, Prod.mk.injEq] at h
    obtain ⟨rfl, rfl, rfl⟩ := h
    exact depart_bad a0 a1 a2 a3 a4 w hm
end Go.Proofs.Ytlepbdbghiedjaa.Hand
