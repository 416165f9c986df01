/- Chapter 15: End; Ack and Slice that are refused. -/
import Derived.Test.YtiphiacidokhiaaDoorHandX
namespace Go.Proofs.YtiphiacidokhiaaDoor.Hand
open Go.RowKit Go.Proofs.YtiphiacidokhiaaDoorW.PrintWords Go.Proofs.YtiphiacidokhiaaDoorW.PrintLast Go.Proofs.YtiphiacidokhiaaDoorW.PrintMore
set_option linter.unusedVariables false
set_option linter.unusedSimpArgs false
attribute [local go_sem] Oper.semAt_some max2_int max_two min2_int min_two
set_option maxHeartbeats 1000000 in
set_option maxRecDepth 100000 in
theorem end_calls (g R sz : Nat) (fr n una : Int) (w : World) (hb : w.heap[g]? = some (.cells (c4 R sz fr n una) 59 (0, 0))) :
    Calls Tryd.prog 21 #[.pointer (some ⟨g, 0, none⟩)] w fun e w' => e = .returned (.int .u32 ((una + n % 4294967296) % 4294967296)) ∧ Drawn0 w w' := by
  have h2 := (blk_cell hb 2).trans rfl
  have h3 := (blk_cell hb 3).trans rfl
  have HB := Aside0.mk hb
  clear hb
  go_enter Tryd.func21, Tryd.ntmps21
  go_wp2_with (go_at_call 31; refine (none_calls g R sz fr n una w HB.out).mono ?_; rintro x w1 ⟨rfl, rfl⟩)
  try go_quiet (fail)
  try go_wp2
  go_ret
  exact ⟨rfl, ⟨_, rfl⟩⟩
set_option maxHeartbeats 1000000 in
set_option maxRecDepth 100000 in
theorem ack_no (g R sz : Nat) (fr n una q o : Int) (ho : (q - una) % 4294967296 = o) (ho2 : 0 ≤ o ∧ o < 4294967296) (hn : n < o) (w : World) (hb : w.heap[g]? = some (.cells (c4 R sz fr n una) 59 (0, 0))) :
    Calls Tryd.prog 11 #[.pointer (some ⟨g, 0, none⟩), .int .u32 q] w fun e w' => e = .returned (.tuple #[.int .i64 0, .int .i64 151]) ∧ w = w' := by
  have h2 := (blk_cell hb 2).trans rfl
  have h3 := (blk_cell hb 3).trans rfl
  have HB := Aside0.mk hb
  clear hb
  go_enter Tryd.func11, Tryd.ntmps11
  go_wp2_with (go_at_call 31; refine (none_calls g R sz fr n una w HB.out).mono ?_; rintro x w1 ⟨rfl, rfl⟩)
  go_ret2
  exact ⟨rfl, rfl⟩
set_option maxHeartbeats 1000000 in
set_option maxRecDepth 100000 in
theorem slice_no (g R sz : Nat) (fr n una q o m : Int) (hm : 0 ≤ m) (ho : (q - una) % 4294967296 = o) (ho2 : 0 ≤ o ∧ o < 4294967296) (hn : n < o) (w : World) (hb : w.heap[g]? = some (.cells (c4 R sz fr n una) 59 (0, 0))) :
    Calls Tryd.prog 12 #[.pointer (some ⟨g, 0, none⟩), .int .u32 q, .int .i64 m] w fun e w' => e = .returned (.tuple #[.slice none 0 0, .int .i64 151]) ∧ w = w' := by
  have h2 := (blk_cell hb 2).trans rfl
  have HB := Aside0.mk hb
  clear hb
  go_enter Tryd.func12, Tryd.ntmps12
  go_wp2_with (first | (go_at_call 20; refine (una_calls g R sz fr n una w HB.out).mono ?_; rintro x w1 ⟨rfl, rfl⟩) | (go_at_call 31; refine (none_calls g R sz fr n una w HB.out).mono ?_; rintro x w1 ⟨rfl, rfl⟩))
  go_ret2
  exact ⟨rfl, rfl⟩
set_option maxHeartbeats 1000000 in
set_option maxRecDepth 100000 in
theorem slice_neg (g R sz : Nat) (fr n una q m : Int) (hm : m < 0) (w : World) (hb : w.heap[g]? = some (.cells (c4 R sz fr n una) 59 (0, 0))) :
    Calls Tryd.prog 12 #[.pointer (some ⟨g, 0, none⟩), .int .u32 q, .int .i64 m] w fun e w' => e = .returned (.tuple #[.slice none 0 0, .int .i64 4]) ∧ w = w' := by
  have HB := Aside0.mk hb
  clear hb
  go_enter Tryd.func12, Tryd.ntmps12
  go_wp2_with (first | (go_at_call 20; refine (una_calls g R sz fr n una w HB.out).mono ?_; rintro x w1 ⟨rfl, rfl⟩) | (go_at_call 31; refine (none_calls g R sz fr n una w HB.out).mono ?_; rintro x w1 ⟨rfl, rfl⟩))
  go_ret2
  exact ⟨rfl, rfl⟩
end Go.Proofs.YtiphiacidokhiaaDoor.Hand
