/- Chapter 15: the calls that are refused, of a nil buffer and of any; New of any size. -/
import Derived.Test.YtiphiacidokhiaaDoorHandV
namespace Go.Proofs.YtiphiacidokhiaaDoor.Hand
open Go.RowKit Go.Proofs.YtiphiacidokhiaaDoorW.PrintWords Go.Proofs.YtiphiacidokhiaaDoorW.PrintLast Go.Proofs.YtiphiacidokhiaaDoorW.PrintMore
set_option linter.unusedVariables false
set_option linter.unusedSimpArgs false
attribute [local go_sem] Oper.semAt_some
/-- It is none. -/
def None (p : Value) (w : World) : Prop := Calls Tryd.prog 31 #[p] w fun e w' => e = .returned (.bool true) ∧ w = w'
set_option maxRecDepth 100000 in
theorem none_nil (w : World) : None (.pointer none) w := by
  unfold None
  go_enter Tryd.func31, Tryd.ntmps31
  go_wp2
  go_ret
  exact ⟨rfl, rfl⟩
set_option maxRecDepth 100000 in
theorem none_zero (g : Nat) (w : World) (hb : w.heap[g]? = some (.cells #[.slice none 0 0, .int .i64 0, .int .i64 0, .int .u32 0] 59 (0, 0))) : None (.pointer (some ⟨g, 0, none⟩)) w := by
  unfold None
  have h0 := (blk_cell hb 0).trans rfl
  have heq := fun (w : World) => run_eql_slice_nil (P := Tryd.prog) w 31 5 none 0 0 Tryd.underlying31
  simp at heq
  go_enter Tryd.func31, Tryd.ntmps31
  go_wp2
  go_ret
  exact ⟨rfl, rfl⟩
set_option maxRecDepth 100000 in
theorem none_una (p : Value) (w : World) (hn : None p w) : Calls Tryd.prog 20 #[p] w fun e w' => e = .returned (.int .u32 0) ∧ w = w' := by
  have HN := Aside0.mk hn; clear hn
  go_enter Tryd.func20, Tryd.ntmps20
  go_wp2_with (go_at_call 31; refine HN.out.mono ?_; rintro x w1 ⟨rfl, rfl⟩)
  go_ret
  exact ⟨rfl, rfl⟩
set_option maxRecDepth 100000 in
theorem none_end (p : Value) (w : World) (hn : None p w) : Calls Tryd.prog 21 #[p] w fun e w' => e = .returned (.int .u32 0) ∧ w = w' := by
  have HN := Aside0.mk hn; clear hn
  go_enter Tryd.func21, Tryd.ntmps21
  go_wp2_with (go_at_call 31; refine HN.out.mono ?_; rintro x w1 ⟨rfl, rfl⟩)
  go_ret
  exact ⟨rfl, rfl⟩
set_option maxRecDepth 100000 in
theorem none_room (p : Value) (w : World) (hn : None p w) : Calls Tryd.prog 23 #[p] w fun e w' => e = .returned (.int .i64 0) ∧ w = w' := by
  have HN := Aside0.mk hn; clear hn
  go_enter Tryd.func23, Tryd.ntmps23
  go_wp2_with (go_at_call 31; refine HN.out.mono ?_; rintro x w1 ⟨rfl, rfl⟩)
  go_ret
  exact ⟨rfl, rfl⟩
set_option maxRecDepth 100000 in
theorem none_write (p d : Value) (w : World) (hn : None p w) : Calls Tryd.prog 10 #[p, d] w fun e w' => e = .returned (.tuple #[.int .i64 0, .int .i64 2]) ∧ w = w' := by
  have HN := Aside0.mk hn; clear hn
  go_enter Tryd.func10, Tryd.ntmps10
  go_wp2_with (go_at_call 31; refine HN.out.mono ?_; rintro x w1 ⟨rfl, rfl⟩)
  go_ret2
  exact ⟨rfl, rfl⟩
set_option maxRecDepth 100000 in
theorem none_ack (p : Value) (q : Int) (w : World) (hn : None p w) : Calls Tryd.prog 11 #[p, .int .u32 q] w fun e w' => e = .returned (.tuple #[.int .i64 0, .int .i64 2]) ∧ w = w' := by
  have HN := Aside0.mk hn; clear hn
  go_enter Tryd.func11, Tryd.ntmps11
  go_wp2_with (go_at_call 31; refine HN.out.mono ?_; rintro x w1 ⟨rfl, rfl⟩)
  go_ret2
  exact ⟨rfl, rfl⟩
set_option maxRecDepth 100000 in
theorem none_slice (p : Value) (q m : Int) (w : World) (hn : None p w) : Calls Tryd.prog 12 #[p, .int .u32 q, .int .i64 m] w fun e w' => e = .returned (.tuple #[.slice none 0 0, .int .i64 2]) ∧ w = w' := by
  have HN := Aside0.mk hn; clear hn
  go_enter Tryd.func12, Tryd.ntmps12
  go_wp2_with (first | (go_at_call 31; refine HN.out.mono ?_; rintro x w1 ⟨rfl, rfl⟩) | (go_at_call 20; refine (none_una p w HN.out).mono ?_; rintro x w1 ⟨rfl, rfl⟩))
  go_ret2
  exact ⟨rfl, rfl⟩
set_option maxHeartbeats 2000000 in
set_option maxRecDepth 100000 in
theorem nothing_calls (p : Value) (w : World) (hn : None p w) : Calls Tryd.prog 24 #[p] w fun e w' => e = .returned (.bool true) ∧ w = w' := by
  have HN := Aside0.mk hn; clear hn
  go_enter Tryd.func24, Tryd.ntmps24
  go_wp2_with (first
    | (go_at_call 9; refine (num_calls _ _).mono ?_; rintro x w9 ⟨rfl, rfl⟩)
    | (go_at_call 10; refine (none_write p _ w HN.out).mono ?_; rintro x w9 ⟨rfl, rfl⟩)
    | (go_at_call 11; refine (none_ack p _ w HN.out).mono ?_; rintro x w9 ⟨rfl, rfl⟩)
    | (go_at_call 12; refine (none_slice p _ _ w HN.out).mono ?_; rintro x w9 ⟨rfl, rfl⟩)
    | (go_at_call 20; refine (none_una p w HN.out).mono ?_; rintro x w9 ⟨rfl, rfl⟩)
    | (go_at_call 21; refine (none_end p w HN.out).mono ?_; rintro x w9 ⟨rfl, rfl⟩)
    | (go_at_call 23; refine (none_room p w HN.out).mono ?_; rintro x w9 ⟨rfl, rfl⟩))
  go_ret
  exact ⟨rfl, rfl⟩
set_option maxHeartbeats 2000000 in
set_option maxRecDepth 100000 in
theorem new_gen (z : Nat) (first : Int) (h1 : 1 ≤ z) (h2 : z ≤ 1048576) (w : World) :
    Calls Tryd.prog 8 #[.int .i64 z, .int .u32 first] w fun e w' => ∃ g R, e = .returned (.tuple #[.pointer (some ⟨g, 0, none⟩), .int .i64 0]) ∧ w'.heap[g]? = some (.cells (c4 R z 0 0 first) 59 (0, 0)) ∧ w'.heap[R]? = some (.cells (Array.replicate z (.int .u8 0)) 5 (0, 0)) ∧ g ≠ R ∧ w.heap.size ≤ g ∧ w.heap.size ≤ R ∧ g < w'.heap.size ∧ R < w'.heap.size ∧ Below w.heap.size w w' := by
  have hi5 : (Tryd.prog.info? 5).map (fun i => (i.zero, i.size, i.bytes)) = some (some (.int .u8 0), 1, 1) := by kernel_rfl
  obtain ⟨i0, hi, hz0, hz1, hz2⟩ := info_parts hi5
  have hmk := fun u : World => run_make (P := Tryd.prog) u 31 5 i0 (.int .u8 0) Tryd.underlying31 hi hz0 .i64 .i64 z z (by omega) (Int.le_refl _) (by rw [hz2]; omega) (by omega)
  have hmc : madeCells (Value.int .u8 0).cells z = Array.replicate z (.int .u8 0) := by
    apply Array.ext_getElem?
    intro i
    unfold madeCells
    by_cases h : i < z <;> simp [Value.cells, Array.getElem?_replicate, Nat.mod_one, h]
  simp [hz1, hmc] at hmk
  have hl : ¬ ((z : Int) < 1) := by omega
  have hg : ¬ ((z : Int) > 1048576) := by omega
  go_enter Tryd.func8, Tryd.ntmps8
  go_wp2
  go_ret2
  refine ⟨w.heap.size + 1, rfl, w.heap.size, ?_, ?_, by omega, by omega, by omega, ?_, ?_, below_alloc (below_alloc (.refl _ _) _) _⟩
  · have := Array.getElem?_push_size (xs := w.heap.push (.cells (Array.replicate z (.int .u8 0)) 5)) (x := .cells (c4 w.heap.size z 0 0 first) 59)
    rw [Array.size_push] at this
    exact this
  · show ((w.heap.push _).push _)[w.heap.size]? = _
    simp [Array.getElem?_push]
  · show _ < ((w.heap.push _).push _).size
    simp only [Array.size_push]; omega
  · show _ < ((w.heap.push _).push _).size
    simp only [Array.size_push]; omega
end Go.Proofs.YtiphiacidokhiaaDoor.Hand
