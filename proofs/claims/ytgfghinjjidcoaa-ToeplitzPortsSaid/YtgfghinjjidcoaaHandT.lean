/- The contract of toeplitz.Tuple: what it computes, by hand (an array of numbers is ranged over). -/
import Derived.Test.YtgfghinjjidcoaaProg
import Derived.Below
import Derived.Deep.Draws
import Derived.WalkKit
import Derived.KernelRfl
import Derived.RowKit3
import Derived.Deep.LoopGhost
import Derived.Deep.QuietTactic
import Derived.BigQuiet
import Derived.OwnWalk
import Derived.Outline
import Derived.Laws.Rows
import Derived.Test.YtgfghinjjidcoaaWWords
import Derived.Test.YtgfghinjjidcoaaWLast
import Derived.Test.YtgfghinjjidcoaaWMore
namespace Go.Proofs.Ytgfghinjjidcoaa.Hand
open Go.RowKit Go.Proofs.YtgfghinjjidcoaaW.PrintWords Go.Proofs.YtgfghinjjidcoaaW.PrintLast Go.Proofs.YtgfghinjjidcoaaW.PrintMore
set_option linter.unusedVariables false
set_option linter.unusedSimpArgs false

abbrev arr3 (a b c : Int) : Value := .agg #[.int .u32 a, .int .u32 b, .int .u32 c]
theorem arr3_0 (a b c : Int) (w : World) : (Instr.index 59 (arr3 a b c) (.int .i64 0)).run Try.prog w = .ok (.int .u32 a) w := by kernel_rfl
theorem arr3_1 (a b c : Int) (w : World) : (Instr.index 59 (arr3 a b c) (.int .i64 1)).run Try.prog w = .ok (.int .u32 b) w := by kernel_rfl
theorem arr3_2 (a b c : Int) (w : World) : (Instr.index 59 (arr3 a b c) (.int .i64 2)).run Try.prog w = .ok (.int .u32 c) w := by kernel_rfl
theorem info5 : (Try.prog.info? 5).map (fun i => (i.zero, i.size, i.bytes)) = some (some (.int .u8 0), 1, 1) := by kernel_rfl
def four (x : Int) : List Int := [x / 16777216, x / 65536 % 256, x / 256 % 256, x % 256]

theorem or16 (x y : Int) (h0 : 0 ≤ x) (h1 : x ≤ 65535) (h2 : 0 ≤ y) (h3 : y ≤ 65535) : bits .or .u32 (x * 65536) y = x * 65536 + y :=
  bits_join .u32 32 (by decide) (fun n a b => by rw [IntKind.wrap_u32]; omega) 16 (x * 65536) y (by omega) (by omega) (by omega) h2 (by omega) (by omega)
def tupK (a0 a1 z : Int) : Nat → List Int
  | 0 => []
  | 1 => four a0
  | 2 => four a0 ++ four a1
  | _ => four a0 ++ four a1 ++ four z

theorem c_new (k : IntKind) (W : World) (xs : List Int) (t : TypeId) (n : Nat) (hn : n = xs.length) (hl : xs.length ≤ 1000) : (Kd.int k).C (W.alloc (.cells (encs (Value.int k) xs).toArray t)) (some ⟨W.heap.size, 0, none⟩) n xs := by
  subst hn
  refine Kd.C_of_reads (d := (0 : Int)) (h1 := fun _ => rfl) ⟨rfl, by omega, fun _ => ⟨_, rfl, fun j hj => ?_⟩⟩
  have e : (⟨W.heap.size, 0, none⟩ : Addr).add j = ⟨W.heap.size, j, none⟩ := by simp [Addr.add]; omega
  rw [e]
  exact (blk_cell (blk_new W _) j).trans (by simp [encs, hj])
set_option maxHeartbeats 1600000 in
set_option maxRecDepth 100000 in
theorem tuple_walk (a0 a1 a2 a3 : Int) (w : World) (h0 : 0 ≤ a0) (h1 : a0 ≤ 4294967295) (h2 : 0 ≤ a1) (h3 : a1 ≤ 4294967295) (h4 : 0 ≤ a2) (h5 : a2 ≤ 65535) (h6 : 0 ≤ a3) (h7 : a3 ≤ 65535) :
    Calls Try.prog 11 #[.int .u32 a0, .int .u32 a1, .int .u16 a2, .int .u16 a3] w fun e w' => ∃ v0_ : Value, e = .returned (v0_) ∧ Kd.R (Kd.int .u8) 5 w' w.heap.size (fun _ => True) v0_ (four a0 ++ four a1 ++ four (a2 * 65536 + a3)) ∧ Below w.heap.size w w' := by
  have hor := or16 a2 a3 h4 h5 h6 h7
  obtain ⟨z, hz⟩ : ∃ z, a2 * 65536 + a3 = z := ⟨_, rfl⟩
  have hz0 : 0 ≤ z := by omega
  have hz1 : z ≤ 4294967295 := by omega
  rw [hz] at hor ⊢
  have HZ := Aside0.mk hz
  clear hz
  have i0 := arr3_0 a0 a1 z
  have i1 := arr3_1 a0 a1 z
  have i2 := arr3_2 a0 a1 z
  go_enter Try.func11, Try.ntmps11
  go_wp2
  go_loopw [9, 21] (fun v i wr => ∃ k : Nat, k ≤ 3 ∧ i = .int .i64 k ∧ Kd.R (Kd.int .u8) 5 wr w.heap.size (fun _ => True) v (tupK a0 a1 z k) ∧ Below w.heap.size w wr) (fun _ i _ => 3 - (intOf i).toNat)
  case atStart => exact ⟨0, by omega, rfl, Kd.R_nil _ _ _ _ _, Below.refl _ _⟩
  case round =>
    obtain ⟨k, hk, rfl, hown, hB⟩ := hrel
    have hk3 : k = 0 ∨ k = 1 ∨ k = 2 ∨ k = 3 := by omega
    have HO := Aside0.mk hown
    have HB := Aside0.mk hB
    clear hown hB
    clear hor
    have hbs := below_size HB.out
    rcases hk3 with rfl | rfl | rfl | rfl
    · go_wp2_with (at_builtin; go_loud (refine Kd.R_append_row (Value.int .u8) (0 : Int) (h1 := fun _ => rfl) (w0 := w) w.heap.size rfl _ _ 22 5 (.int .u8 0) 1 rfl Try.underlying22 info5 rfl (by decide) _ (tupK a0 a1 z 0) (four a0) _ 4 4 (fun _ => True) rfl rfl (fun _ _ => trivial) (Kd.R_alloc HO.out _) (c_new .u8 wr (four a0) 5 4 rfl (by simp [four])) (below_alloc HB.out _) (by simp; omega) (by simp [tupK, four]) ?_); intro v' w1 ho hb _ _)
      go_roundw
      case rel => exact ⟨1, by omega, rfl, ho, hb⟩
      case measure => simp [intOf]
    · go_wp2_with (at_builtin; go_loud (refine Kd.R_append_row (Value.int .u8) (0 : Int) (h1 := fun _ => rfl) (w0 := w) w.heap.size rfl _ _ 22 5 (.int .u8 0) 1 rfl Try.underlying22 info5 rfl (by decide) _ (tupK a0 a1 z 1) (four a1) _ 4 4 (fun _ => True) rfl rfl (fun _ _ => trivial) (Kd.R_alloc HO.out _) (c_new .u8 wr (four a1) 5 4 rfl (by simp [four])) (below_alloc HB.out _) (by simp; omega) (by simp [tupK, four]) ?_); intro v' w1 ho hb _ _)
      go_roundw
      case rel => exact ⟨2, by omega, rfl, ho, hb⟩
      case measure => simp [intOf]
    · go_wp2_with (at_builtin; go_loud (refine Kd.R_append_row (Value.int .u8) (0 : Int) (h1 := fun _ => rfl) (w0 := w) w.heap.size rfl _ _ 22 5 (.int .u8 0) 1 rfl Try.underlying22 info5 rfl (by decide) _ (tupK a0 a1 z 2) (four z) _ 4 4 (fun _ => True) rfl rfl (fun _ _ => trivial) (Kd.R_alloc HO.out _) (c_new .u8 wr (four z) 5 4 rfl (by simp [four])) (below_alloc HB.out _) (by simp; omega) (by simp [tupK, four]) ?_); intro v' w1 ho hb _ _)
      go_roundw
      case rel => exact ⟨3, by omega, rfl, ho, hb⟩
      case measure => simp [intOf]
    · go_wp2
      go_ret
      exact ⟨_, rfl, by have := HZ.out; subst this; exact HO.out, HB.out⟩
def tuple (a0 a1 a2 a3 : Int) : Option (List Int) :=
  if 0 ≤ a0 ∧ a0 ≤ 4294967295 ∧ 0 ≤ a1 ∧ a1 ≤ 4294967295 ∧ 0 ≤ a2 ∧ a2 ≤ 65535 ∧ 0 ≤ a3 ∧ a3 ≤ 65535 then some (four a0 ++ four a1 ++ four (a2 * 65536 + a3)) else none
theorem tuple_calls (a0 a1 a2 a3 : Int) (r : List Int) (w : World) (h : tuple a0 a1 a2 a3 = some r) :
    Calls Try.prog 11 #[.int .u32 a0, .int .u32 a1, .int .u16 a2, .int .u16 a3] w fun e w' => ∃ v0_ : Value, e = .returned (v0_) ∧ Kd.R (Kd.int .u8) 5 w' w.heap.size (fun _ => True) v0_ r ∧ Below w.heap.size w w' := by
  unfold tuple at h
  by_cases hm : 0 ≤ a0 ∧ a0 ≤ 4294967295 ∧ 0 ≤ a1 ∧ a1 ≤ 4294967295 ∧ 0 ≤ a2 ∧ a2 ≤ 65535 ∧ 0 ≤ a3 ∧ a3 ≤ 65535
  · rw [if_pos hm] at h
    obtain rfl := Option.some.inj h
    obtain ⟨h0, h1, h2, h3, h4, h5, h6, h7⟩ := hm
    exact tuple_walk a0 a1 a2 a3 w h0 h1 h2 h3 h4 h5 h6 h7
  · rw [if_neg hm] at h
    exact absurd h (by simp)
end Go.Proofs.Ytgfghinjjidcoaa.Hand
