/- alive of chapter 15: the page's example, walked by hand. -/
import Derived.Test.YtiphiacidokhiaaDoorHandB
import Derived.Laws.CopyRow
import Derived.Laws.IdiomCopy
import Derived.Lib.ConvBytes
import Derived.WalkKit
import Derived.Lib.LazyBuf
import Derived.Laws.Tables
import Derived.Laws.CopyOwn
import Derived.Deep.QuietTactic
import Derived.BigQuiet
import Derived.Test.YtiphiacidokhiaaDoorWWords
import Derived.Test.YtiphiacidokhiaaDoorWLast
import Derived.Test.YtiphiacidokhiaaDoorWMore
import Derived.Test.YtiphiacidokhiaaDoorSkip
namespace Go.Proofs.YtiphiacidokhiaaDoor.Hand
open Go.RowKit Go.Proofs.YtiphiacidokhiaaDoorW.PrintWords Go.Proofs.YtiphiacidokhiaaDoorW.PrintLast Go.Proofs.YtiphiacidokhiaaDoorW.PrintMore
set_option linter.unusedVariables false
set_option linter.unusedSimpArgs false
attribute [local go_sem] Oper.semAt_some max2_int max_two min2_int min_two

theorem gb_below {g : Nat} {w w' : World} (h : Below w.heap.size w w') : w.grownBy w' (some g) := ⟨h.os, h.tape, h.output, h.size, fun k hk _ => h.block k hk⟩
theorem gb_set {w w1 : World} {g : Nat} (h : w.grownBy w1 (some g)) (i : Nat) (x : Value) : w.grownBy (w1.setCell ⟨g, i, none⟩ x) (some g) := by
  have hb := (Below.refl g w1).setCell (p := ⟨g, i, none⟩) (Nat.le_refl _) x
  exact ⟨hb.os.trans h.os, hb.tape.trans h.tape, hb.output.trans h.output, Nat.le_trans h.size hb.size, fun k hk hne => (Below.heap_setCell w1 ⟨g, i, none⟩ x k (fun e => hne (by rw [e]))).trans (h.block k hk hne)⟩
/-- A buffer's four cells. -/
abbrev c4 (R sz : Nat) (fr n una : Int) : Array Value := #[.slice (some ⟨R, 0, none⟩) sz sz, .int .i64 fr, .int .i64 n, .int .u32 una]
set_option maxHeartbeats 1000000 in
set_option maxRecDepth 100000 in
theorem none_calls (g R sz : Nat) (fr n una : Int) (w : World) (hb : w.heap[g]? = some (.cells (c4 R sz fr n una) 59 (0, 0))) :
    Calls Tryd.prog 31 #[.pointer (some ⟨g, 0, none⟩)] w fun e w' => e = .returned (.bool false) ∧ w = w' := by
  have h0 := (blk_cell hb 0).trans rfl
  have heq := fun (w : World) => run_eql_slice_nil (P := Tryd.prog) w 31 5 (some ⟨R, 0, none⟩) sz sz Tryd.underlying31
  simp at heq
  go_enter Tryd.func31, Tryd.ntmps31
  go_wp2
  go_ret
  exact ⟨rfl, rfl⟩
set_option maxHeartbeats 1000000 in
set_option maxRecDepth 100000 in
theorem una_calls (g R sz : Nat) (fr n una : Int) (w : World) (hb : w.heap[g]? = some (.cells (c4 R sz fr n una) 59 (0, 0))) :
    Calls Tryd.prog 20 #[.pointer (some ⟨g, 0, none⟩)] w fun e w' => e = .returned (.int .u32 una) ∧ w = w' := by
  have h3 := (blk_cell hb 3).trans rfl
  have HB := Aside0.mk hb
  clear hb
  go_enter Tryd.func20, Tryd.ntmps20
  go_wp2_with (go_at_call 31; refine (none_calls g R sz fr n una w HB.out).mono ?_; rintro x w1 ⟨rfl, rfl⟩)
  go_ret
  exact ⟨rfl, rfl⟩
set_option maxHeartbeats 2000000 in
set_option maxRecDepth 100000 in
theorem room_calls (g R sz : Nat) (fr n una : Int) (hn : 0 ≤ n ∧ n ≤ sz) (hs : sz ≤ 1048576) (w : World) (hb : w.heap[g]? = some (.cells (c4 R sz fr n una) 59 (0, 0))) :
    Calls Tryd.prog 23 #[.pointer (some ⟨g, 0, none⟩)] w fun e w' => e = .returned (.int .i64 (sz - n)) ∧ Drawn0 w w' := by
  have h2 := (blk_cell hb 2).trans rfl
  have h0 := (blk_cell hb 0).trans rfl
  have HB := Aside0.mk hb
  clear hb
  go_enter Tryd.func23, Tryd.ntmps23
  go_wp2_with (go_at_call 31; refine (none_calls g R sz fr n una w HB.out).mono ?_; rintro x w1 ⟨rfl, rfl⟩)
  go_quiet (fail)
  go_wp2
  go_ret
  exact ⟨rfl, ⟨_, rfl⟩⟩
set_option maxHeartbeats 2000000 in
set_option maxRecDepth 100000 in
theorem new_calls (w : World) :
    Calls Tryd.prog 8 #[.int .i64 4, .int .u32 4294967295] w fun e w' => e = .returned (.tuple #[.pointer (some ⟨w.heap.size + 1, 0, none⟩), .int .i64 0]) ∧ w' = (w.alloc (.cells #[.int .u8 0, .int .u8 0, .int .u8 0, .int .u8 0] 5)).alloc (.cells (c4 w.heap.size 4 0 0 4294967295) 59) := by
  have hi5 : (Tryd.prog.info? 5).map (fun i => (i.zero, i.size, i.bytes)) = some (some (.int .u8 0), 1, 1) := by kernel_rfl
  obtain ⟨i0, hi, hz0, hz1, hz2⟩ := info_parts hi5
  have hmk := fun u : World => run_make (P := Tryd.prog) u 31 5 i0 (.int .u8 0) Tryd.underlying31 hi hz0 .i64 .i64 4 4 (by omega) (Int.le_refl _) (by rw [hz2]; omega) (by omega)
  simp [hz1, Value.cells, madeCells] at hmk
  go_enter Tryd.func8, Tryd.ntmps8
  go_wp2
  go_ret2
  exact ⟨rfl, rfl⟩
set_option maxHeartbeats 2000000 in
set_option maxRecDepth 100000 in
theorem write_calls (g R D : Nat) (una : Int) (w : World) (hb : w.heap[g]? = some (.cells (c4 R 4 0 0 una) 59 (0, 0))) (hr : w.heap[R]? = some (.cells #[.int .u8 0, .int .u8 0, .int .u8 0, .int .u8 0] 5 (0, 0))) (hgR : g ≠ R)
    (hd : ∀ j : Nat, j < 5 → w.cell? ⟨D, j, none⟩ = some (.int .u8 (97 + j))) :
    Calls Tryd.prog 10 #[.pointer (some ⟨g, 0, none⟩), .slice (some ⟨D, 0, none⟩) 5 5] w fun e w' => e = .returned (.tuple #[.int .i64 4, .int .i64 0]) ∧ w'.heap[g]? = some (.cells (c4 R 4 0 4 una) 59 (0, 0)) ∧ w'.heap[R]? = some (.cells #[.int .u8 97, .int .u8 98, .int .u8 99, .int .u8 100] 5 (0, 0)) ∧ ∀ n₀, n₀ ≤ g → n₀ ≤ R → Below n₀ w w' := by
  have h0 := (blk_cell hb 0).trans rfl
  have h1 := (blk_cell hb 1).trans rfl
  have h2 := (blk_cell hb 2).trans rfl
  have HB := Aside0.mk hb
  have HR := Aside0.mk hr
  have HD := Aside0.mk hd
  clear hb hr hd
  go_enter Tryd.func10, Tryd.ntmps10
  go_wp2_with (go_at_call 31; refine (none_calls g R 4 0 0 una w HB.out).mono ?_; rintro x w1 ⟨rfl, rfl⟩)
  go_quiet (fail)
  go_wp2
  go_quiet (fail)
  go_wp2
  refine start_ (n := 23) (S := fun w' => w'.cell? ⟨g, 0, none⟩ = some (.slice (some ⟨R, 0, none⟩) 4 4) ∧ w'.cell? ⟨g, 1, none⟩ = some (.int .i64 0) ∧ w'.cell? ⟨g, 2, none⟩ = some (.int .i64 0)) (ds := [21]) (bs 23 0) (by kernel_rfl) rfl rfl ⟨(blk_cell HB.out 0).trans rfl, (blk_cell HB.out 1).trans rfl, (blk_cell HB.out 2).trans rfl⟩ (fun hHeld => ?_)
  generalize hwd : World.drew _ = wd at hHeld ⊢
  have hh : wd.heap = w.heap := by rw [← hwd]; rfl
  have BW : Aside0 (∀ n₀, Below n₀ w wd) := ⟨fun n₀ => by rw [← hwd]; exact ⟨rfl, rfl, rfl, Nat.le_refl _, fun _ _ => rfl⟩⟩
  clear hwd h0 h1 h2
  have hbd : wd.heap[g]? = some (.cells (c4 R 4 0 0 una) 59 (0, 0)) := by rw [hh]; exact HB.out
  have hrd : wd.heap[R]? = some (.cells #[.int .u8 0, .int .u8 0, .int .u8 0, .int .u8 0] 5 (0, 0)) := by rw [hh]; exact HR.out
  have hdd : ∀ j : Nat, j < 5 → wd.cell? ⟨D, j, none⟩ = some (.int .u8 (97 + j)) := fun j hj => (World.cell?_of_block (by rw [hh])).trans (HD.out j hj)
  have hi5 : (Tryd.prog.info? 5).map (·.size) = some 1 := by kernel_rfl
  have hcp : ∀ ty, (Builtin.copy_ #[31, 31] ty #[.slice (some ⟨R, 0, none⟩) 4 4, .slice (some ⟨D, 0, none⟩) 4 5]).run Tryd.prog wd = .ok (goInt 4) (wd.setRow R #[.int .u8 97, .int .u8 98, .int .u8 99, .int .u8 100]) := fun ty => by
    have h := run_copy_row (P := Tryd.prog) wd 31 31 ty 5 R 0 4 4 ⟨D, 0, none⟩ 4 5 _ 5 [.int .u8 97, .int .u8 98, .int .u8 99, .int .u8 100] Tryd.underlying31 hi5 hrd rfl (fun j v hv => by
      have e : (⟨D, 0, none⟩ : Addr).add j = ⟨D, j, none⟩ := by simp [Addr.add]; omega
      rw [e]
      have hj : j = 0 ∨ j = 1 ∨ j = 2 ∨ j = 3 ∨ 4 ≤ j := by omega
      rcases hj with rfl | rfl | rfl | rfl | hj
      · simp at hv; rw [hdd 0 (by omega), ← hv]; rfl
      · simp at hv; rw [hdd 1 (by omega), ← hv]; rfl
      · simp at hv; rw [hdd 2 (by omega), ← hv]; rfl
      · simp at hv; rw [hdd 3 (by omega), ← hv]; rfl
      · rw [List.getElem?_eq_none (by simpa using hj)] at hv; cases hv) (by simp) (by simp [Value.oneCell'])
    simpa using h
  have hw0 : wrap64 0 = 0 := by decide +kernel
  have ht0 : Int.tmod 0 4 = 0 := by decide +kernel
  refine pure_ (i := 0) (N := some 39) (v := ?_) (a' := ?_) (bs 23 1) rfl rfl (by kernel_rfl) (fun _ _ _ h => h) (Or.inl ⟨by rfl, ?_⟩) ?_ ?_; rotate_left; (intro w'; go_simp; with_reducible rfl); rotate_left; (simp only [Act.put, q1_, q2_, q3_, i64_w, i32_w]; rfl)
  refine pure_ (i := 1) (N := some 40) (v := ?_) (a' := ?_) (bs 23 3) rfl rfl (by kernel_rfl) (fun _ _ _ h => h) (Or.inl ⟨by rfl, ?_⟩) ?_ ?_; rotate_left; (intro w'; go_simp; with_reducible rfl); rotate_left; (simp only [Act.put, q1_, q2_, q3_, i64_w, i32_w]; rfl)
  refine pure_ (i := 2) (N := some 41) (v := ?_) (a' := ?_) (bs 23 7) rfl rfl (by kernel_rfl) (fun _ _ _ h => h) (Or.inl ⟨by rfl, ?_⟩) ?_ ?_; rotate_left; (intro w'; go_simp; with_reducible rfl); rotate_left; (simp only [Act.put, q1_, q2_, q3_, i64_w, i32_w]; rfl)
  refine pure_ (i := 4) (N := some 43) (v := ?_) (a' := ?_) (bs 23 23) rfl rfl (by kernel_rfl) (fun _ _ _ h => h) (Or.inl ⟨by rfl, ?_⟩) ?_ ?_; rotate_left; (intro w'; go_simp; with_reducible rfl); rotate_left; (simp only [Act.put, q1_, q2_, q3_, i64_w, i32_w]; rfl)
  refine pure_ (i := 5) (N := some 44) (v := ?_) (a' := ?_) (bs 23 55) rfl rfl (by kernel_rfl) (fun _ _ _ h => h) (Or.inl ⟨by rfl, ?_⟩) ?_ ?_; rotate_left; (intro w'; go_simp; with_reducible rfl); rotate_left; (simp only [Act.put, q1_, q2_, q3_, i64_w, i32_w]; rfl)
  refine pure_ (i := 6) (N := some 45) (v := ?_) (a' := ?_) (bs 23 119) rfl rfl (by kernel_rfl) (fun _ _ _ h => h) (Or.inl ⟨by rfl, ?_⟩) ?_ ?_; rotate_left; (intro w'; go_simp; with_reducible rfl); rotate_left; (simp only [Act.put, q1_, q2_, q3_, i64_w, i32_w]; rfl)
  refine pure_ (i := 8) (N := some 47) (v := ?_) (a' := ?_) (bs 23 375) rfl rfl (by kernel_rfl) (fun _ _ _ h => h) (Or.inl ⟨by rfl, ?_⟩) ?_ ?_; rotate_left; (intro w'; go_simp; with_reducible rfl); rotate_left; (simp only [Act.put, q1_, q2_, q3_, i64_w, i32_w]; rfl)
  refine pure_ (i := 9) (N := some 48) (v := ?_) (a' := ?_) (bs 23 887) rfl rfl (by kernel_rfl) (fun _ _ _ h => h) (Or.inl ⟨by rfl, ?_⟩) ?_ ?_; rotate_left; (intro w'; go_simp; with_reducible rfl); rotate_left; (simp only [Act.put, q1_, q2_, q3_, i64_w, i32_w]; rfl)
  refine pure_ (i := 10) (N := some 49) (v := ?_) (a' := ?_) (bs 23 1911) rfl rfl (by kernel_rfl) (fun _ _ _ h => h) (Or.inl ⟨by rfl, ?_⟩) ?_ ?_; rotate_left; (intro w'; go_simp; with_reducible rfl); rotate_left; (simp only [Act.put, q1_, q2_, q3_, i64_w, i32_w]; rfl)
  refine pure_ (i := 13) (N := some 52) (v := ?_) (a' := ?_) (bs 23 10103) rfl rfl (by kernel_rfl) (fun _ _ _ h => h) (Or.inl ⟨by rfl, ?_⟩) ?_ ?_; rotate_left; (intro w'; go_simp; with_reducible rfl); rotate_left; (simp only [Act.put, q1_, q2_, q3_, i64_w, i32_w]; rfl)
  refine pure_ (i := 14) (N := some 53) (v := ?_) (a' := ?_) (bs 23 26487) rfl rfl (by kernel_rfl) (fun _ _ _ h => h) (Or.inl ⟨by rfl, ?_⟩) ?_ ?_; rotate_left; (intro w'; go_simp; with_reducible rfl); rotate_left; (simp only [Act.put, q1_, q2_, q3_, i64_w, i32_w]; rfl)
  refine pure_ (i := 15) (N := some 54) (v := ?_) (a' := ?_) (bs 23 59255) rfl rfl (by kernel_rfl) (fun _ _ _ h => h) (Or.inl ⟨by rfl, ?_⟩) ?_ ?_; rotate_left; (intro w'; go_simp; with_reducible rfl); rotate_left; (simp only [Act.put, q1_, q2_, q3_, i64_w, i32_w]; rfl)
  refine pure_ (i := 20) (N := some 59) (v := ?_) (a' := ?_) (bs 23 1107831) rfl rfl (by kernel_rfl) (fun _ _ _ h => h) (Or.inl ⟨by rfl, ?_⟩) ?_ ?_; rotate_left; (intro w'; go_simp; with_reducible rfl); rotate_left; (simp only [Act.put, q1_, q2_, q3_, i64_w, i32_w]; rfl)
  refine take_ (i := 3) (N := some 42) (v := ?_) (a' := ?_) (bs 23 1107839) rfl rfl (by kernel_rfl) (fun _ _ _ h => h) (Or.inl ⟨by rfl, ?_⟩) hHeld ?_ ?_; rotate_left; (rintro w' ⟨s0, s1, s2⟩; go_simp; with_reducible rfl); rotate_left; (simp only [Act.put, q1_, q2_, q3_, i64_w, i32_w]; rfl)
  refine take_ (i := 7) (N := some 46) (v := ?_) (a' := ?_) (bs 23 1107967) rfl rfl (by kernel_rfl) (fun _ _ _ h => h) (Or.inl ⟨by rfl, ?_⟩) hHeld ?_ ?_; rotate_left; (rintro w' ⟨s0, s1, s2⟩; go_simp; with_reducible rfl); rotate_left; (simp only [Act.put, q1_, q2_, q3_, i64_w, i32_w]; rfl)
  refine take_ (i := 11) (N := some 50) (v := ?_) (a' := ?_) (bs 23 1110015) rfl rfl (by kernel_rfl) (fun _ _ _ h => h) (Or.inl ⟨by rfl, ?_⟩) hHeld ?_ ?_; rotate_left; (rintro w' ⟨s0, s1, s2⟩; go_simp; with_reducible rfl); rotate_left; (simp only [Act.put, q1_, q2_, q3_, i64_w, i32_w]; rfl)
  refine pure_ (i := 12) (N := some 51) (v := ?_) (a' := ?_) (bs 23 1114111) rfl rfl (by kernel_rfl) (fun _ _ _ h => h) (Or.inl ⟨by rfl, ?_⟩) ?_ ?_; rotate_left; (intro w'; go_simp; with_reducible rfl); rotate_left; (simp only [Act.put, q1_, q2_, q3_, i64_w, i32_w]; rfl)
  refine take_ (i := 16) (N := some 55) (v := ?_) (a' := ?_) (bs 23 1179647) rfl rfl (by kernel_rfl) (fun _ _ _ h => h) (Or.inl ⟨by rfl, ?_⟩) hHeld ?_ ?_; rotate_left; (rintro w' ⟨s0, s1, s2⟩; go_simp; with_reducible rfl); rotate_left; (simp only [Act.put, q1_, q2_, q3_, i64_w, i32_w]; rfl)
  refine pure_ (i := 17) (N := some 56) (v := ?_) (a' := ?_) (bs 23 1310719) rfl rfl (by kernel_rfl) (fun _ _ _ h => h) (Or.inl ⟨by rfl, ?_⟩) ?_ ?_; rotate_left; (intro w'; go_simp; with_reducible rfl); rotate_left; (simp only [Act.put, q1_, q2_, q3_, i64_w, i32_w]; rfl)
  refine pure_ (i := 18) (N := some 57) (v := ?_) (a' := ?_) (bs 23 1572863) rfl rfl (by kernel_rfl) (fun _ _ _ h => h) (Or.inl ⟨by rfl, ?_⟩) ?_ ?_; rotate_left; (intro w'; go_simp; with_reducible rfl); rotate_left; (simp only [Act.put, q1_, q2_, q3_, i64_w, i32_w]; rfl)
  refine pure_ (i := 19) (N := some 58) (v := ?_) (a' := ?_) (bs 23 2097151) rfl rfl (by kernel_rfl) (fun _ _ _ h => h) (Or.inl ⟨by rfl, ?_⟩) ?_ ?_; rotate_left; (intro w'; go_simp; with_reducible rfl); rotate_left; (simp only [Act.put, q1_, q2_, q3_, i64_w, i32_w]; rfl)
  refine last_ (i := 21) (N := some 60) (bs 23 4194303) rfl rfl (by kernel_rfl) (by decide) (fun K hK => ?_)
  refine value_ (w1 := ?_) (v := ?_) (by rfl) rfl ?_ ?_; rotate_left 2; (go_simp; constructor; rfl; rfl); refine hK.out _ _ ?_; clear hK K
  refine norm_ (a' := ?_) ?_ ?_; rotate_left; (show Act.put _ (some 60) _ = _; simp only [Act.put, q1_, q2_, q3_, i64_w, i32_w]; rfl)
  refine pure_ (i := 22) (N := some 6) (v := ?_) (a' := ?_) (bs 23 8388607) rfl rfl (by kernel_rfl) (fun _ _ _ h => h) (Or.inl ⟨by rfl, ?_⟩) ?_ ?_; rotate_left; (intro w'; go_simp; with_reducible rfl); rotate_left; (simp only [Act.put, q1_, q2_, q3_, i64_w, i32_w]; rfl)
  refine done_ (by kernel_rfl) ?_
  have hb7 : (wd.setRow R #[.int .u8 97, .int .u8 98, .int .u8 99, .int .u8 100]).heap[g]? = some (.cells (c4 R 4 0 0 una) 59 (0, 0)) := (setRow_other wd R g _ hgR).trans hbd
  have hr7 : (wd.setRow R #[.int .u8 97, .int .u8 98, .int .u8 99, .int .u8 100]).heap[R]? = some (.cells #[.int .u8 97, .int .u8 98, .int .u8 99, .int .u8 100] 5 (0, 0)) := setRow_heap wd R _ _ 5 (0, 0) hrd
  have BW7 : Aside0 (∀ n₀, n₀ ≤ R → Below n₀ w (wd.setRow R #[.int .u8 97, .int .u8 98, .int .u8 99, .int .u8 100])) := ⟨fun n₀ h => below_setRow (BW.out n₀) h _⟩
  clear hcp hHeld hbd hrd hdd hh
  generalize wd.setRow R #[.int .u8 97, .int .u8 98, .int .u8 99, .int .u8 100] = w7 at hb7 hr7 BW7 ⊢
  have HB7 := Aside0.mk hb7
  have HR7 := Aside0.mk hr7
  clear hb7 hr7 BW HB HR HD
  go_wp2
  refine start_ (n := 8) (S := fun w' => w'.cell? ⟨g, 0, none⟩ = some (.slice (some ⟨R, 0, none⟩) 4 4) ∧ w'.cell? ⟨g, 1, none⟩ = some (.int .i64 0) ∧ w'.cell? ⟨g, 2, none⟩ = some (.int .i64 0)) (ds := [7]) (bs 8 0) (by kernel_rfl) rfl rfl ⟨(blk_cell HB7.out 0).trans rfl, (blk_cell HB7.out 1).trans rfl, (blk_cell HB7.out 2).trans rfl⟩ (fun hHeld => ?_)
  generalize hwd : World.drew _ = we at hHeld ⊢
  have hh : we.heap = w7.heap := by rw [← hwd]; rfl
  have BW8 : Aside0 (∀ n₀, n₀ ≤ R → Below n₀ w we) := ⟨fun n₀ h => by rw [← hwd]; exact below_drew1 (BW7.out n₀ h)⟩
  clear hwd BW7
  have hb8 : we.heap[g]? = some (.cells (c4 R 4 0 0 una) 59 (0, 0)) := by rw [hh]; exact HB7.out
  have hr8 : we.heap[R]? = some (.cells #[.int .u8 97, .int .u8 98, .int .u8 99, .int .u8 100] 5 (0, 0)) := by rw [hh]; exact HR7.out
  have hcn : ∀ (ty : TypeId), (Builtin.copy_ #[31, 31] ty #[.slice (some ⟨R, 0, none⟩) 4 4, .slice (some ⟨D, 4, none⟩) 0 1]).run Tryd.prog we = .ok (goInt 0) we := fun ty => run_copy_none (P := Tryd.prog) we 31 31 ty 5 _ _ 4 4 0 1 Tryd.underlying31 hi5 rfl
  refine pure_ (i := 0) (N := some 61) (v := ?_) (a' := ?_) (bs 8 1) rfl rfl (by kernel_rfl) (fun _ _ _ h => h) (Or.inl ⟨by rfl, ?_⟩) ?_ ?_; rotate_left; (intro w'; go_simp; with_reducible rfl); rotate_left; (simp only [Act.put, q1_, q2_, q3_, i64_w, i32_w]; rfl)
  refine pure_ (i := 1) (N := some 62) (v := ?_) (a' := ?_) (bs 8 3) rfl rfl (by kernel_rfl) (fun _ _ _ h => h) (Or.inl ⟨by rfl, ?_⟩) ?_ ?_; rotate_left; (intro w'; go_simp; with_reducible rfl); rotate_left; (simp only [Act.put, q1_, q2_, q3_, i64_w, i32_w]; rfl)
  refine pure_ (i := 2) (N := some 63) (v := ?_) (a' := ?_) (bs 8 7) rfl rfl (by kernel_rfl) (fun _ _ _ h => h) (Or.inl ⟨by rfl, ?_⟩) ?_ ?_; rotate_left; (intro w'; go_simp; with_reducible rfl); rotate_left; (simp only [Act.put, q1_, q2_, q3_, i64_w, i32_w]; rfl)
  refine pure_ (i := 4) (N := some 65) (v := ?_) (a' := ?_) (bs 8 23) rfl rfl (by kernel_rfl) (fun _ _ _ h => h) (Or.inl ⟨by rfl, ?_⟩) ?_ ?_; rotate_left; (intro w'; go_simp; with_reducible rfl); rotate_left; (simp only [Act.put, q1_, q2_, q3_, i64_w, i32_w]; rfl)
  refine pure_ (i := 5) (N := some 66) (v := ?_) (a' := ?_) (bs 8 55) rfl rfl (by kernel_rfl) (fun _ _ _ h => h) (Or.inl ⟨by rfl, ?_⟩) ?_ ?_; rotate_left; (intro w'; go_simp; with_reducible rfl); rotate_left; (simp only [Act.put, q1_, q2_, q3_, i64_w, i32_w]; rfl)
  refine pure_ (i := 6) (N := some 67) (v := ?_) (a' := ?_) (bs 8 119) rfl rfl (by kernel_rfl) (fun _ _ _ h => h) (Or.inl ⟨by rfl, ?_⟩) ?_ ?_; rotate_left; (intro w'; go_simp; with_reducible rfl); rotate_left; (simp only [Act.put, q1_, q2_, q3_, i64_w, i32_w]; rfl)
  refine take_ (i := 3) (N := some 64) (v := ?_) (a' := ?_) (bs 8 127) rfl rfl (by kernel_rfl) (fun _ _ _ h => h) (Or.inl ⟨by rfl, ?_⟩) hHeld ?_ ?_; rotate_left; (rintro w' ⟨s0, s1, s2⟩; go_simp; with_reducible rfl); rotate_left; (simp only [Act.put, q1_, q2_, q3_, i64_w, i32_w]; rfl)
  refine last_ (i := 7) (N := some 68) (bs 8 255) rfl rfl (by kernel_rfl) (by decide) (fun K hK => ?_)
  refine value_ (w1 := ?_) (v := ?_) (by rfl) rfl ?_ ?_; rotate_left 2; (go_simp; constructor; rfl; rfl); refine hK.out _ _ ?_; clear hK K
  refine norm_ (a' := ?_) ?_ ?_; rotate_left; (show Act.put _ (some 68) _ = _; simp only [Act.put, q1_, q2_, q3_, i64_w, i32_w]; rfl)
  refine done_ (by kernel_rfl) ?_
  have c2' := (blk_cell hb8 2).trans rfl
  have f2' := blk_frozen hb8 2
  have HB8 := Aside0.mk hb8
  have HR8 := Aside0.mk hr8
  clear hb8 hr8 hHeld hh HB7 HR7
  go_wp2
  go_ret2
  exact ⟨rfl, blk_put HB8.out 2 (.int .i64 4) rfl, blk_far HR8.out (p := ⟨g, 2, none⟩) (fun e => hgR e.symm) _, fun n₀ h1 h2 => (BW8.out n₀ h2).setCell (p := ⟨g, 2, none⟩) h1 _⟩
set_option maxHeartbeats 2000000 in
set_option maxRecDepth 100000 in
theorem ack_calls (g R : Nat) (w : World) (hb : w.heap[g]? = some (.cells (c4 R 4 0 4 4294967295) 59 (0, 0))) :
    Calls Tryd.prog 11 #[.pointer (some ⟨g, 0, none⟩), .int .u32 1] w fun e w' => e = .returned (.tuple #[.int .i64 2, .int .i64 0]) ∧ w'.heap[g]? = some (.cells (c4 R 4 2 2 1) 59 (0, 0)) ∧ w.grownBy w' (some g) := by
  have h0 := (blk_cell hb 0).trans rfl
  have h1 := (blk_cell hb 1).trans rfl
  have h2 := (blk_cell hb 2).trans rfl
  have h3 := (blk_cell hb 3).trans rfl
  have HB := Aside0.mk hb
  have hw2 : IntKind.u32.wrap (1 - 4294967295) = 2 := by decide +kernel
  have hw3 : IntKind.u32.wrap (-4294967294) = 2 := by decide +kernel
  clear hb
  go_enter Tryd.func11, Tryd.ntmps11
  go_wp2_with (go_at_call 31; refine (none_calls g R 4 0 4 4294967295 w HB.out).mono ?_; rintro x w1 ⟨rfl, rfl⟩)
  refine start_ (n := 16) (S := fun w' => w'.cell? ⟨g, 0, none⟩ = some (.slice (some ⟨R, 0, none⟩) 4 4) ∧ w'.cell? ⟨g, 1, none⟩ = some (.int .i64 0)) (ds := [15]) (bs 16 0) (by kernel_rfl) rfl rfl ⟨(blk_cell HB.out 0).trans rfl, (blk_cell HB.out 1).trans rfl⟩ (fun hHeld => ?_)
  generalize hwd : World.drew _ = wd at hHeld ⊢
  have hh : wd.heap = w.heap := by rw [← hwd]; rfl
  have BW : Aside0 (∀ n₀, Below n₀ w wd) := ⟨fun n₀ => by rw [← hwd]; exact ⟨rfl, rfl, rfl, Nat.le_refl _, fun _ _ => rfl⟩⟩
  clear hwd h0 h1 h2 h3 hw2 hw3
  have hbd : wd.heap[g]? = some (.cells (c4 R 4 0 4 4294967295) 59 (0, 0)) := by rw [hh]; exact HB.out
  have f1 := blk_frozen hbd 1
  have c1 : wd.cell? ⟨g, 1, none⟩ = some (.int .i64 0) := (blk_cell hbd 1).trans rfl
  have hw0 : wrap64 2 = 2 := by decide +kernel
  have ht0 : Int.tmod 2 4 = 2 := by decide +kernel
  refine pure_ (i := 0) (N := some 22) (v := ?_) (a' := ?_) (bs 16 1) rfl rfl (by kernel_rfl) (fun _ _ _ h => h) (Or.inl ⟨by rfl, ?_⟩) ?_ ?_; rotate_left; (intro w'; go_simp; with_reducible rfl); rotate_left; (simp only [Act.put, q1_, q2_, q3_, i64_w, i32_w]; rfl)
  refine pure_ (i := 1) (N := some 23) (v := ?_) (a' := ?_) (bs 16 3) rfl rfl (by kernel_rfl) (fun _ _ _ h => h) (Or.inl ⟨by rfl, ?_⟩) ?_ ?_; rotate_left; (intro w'; go_simp; with_reducible rfl); rotate_left; (simp only [Act.put, q1_, q2_, q3_, i64_w, i32_w]; rfl)
  refine pure_ (i := 2) (N := some 24) (v := ?_) (a' := ?_) (bs 16 7) rfl rfl (by kernel_rfl) (fun _ _ _ h => h) (Or.inl ⟨by rfl, ?_⟩) ?_ ?_; rotate_left; (intro w'; go_simp; with_reducible rfl); rotate_left; (simp only [Act.put, q1_, q2_, q3_, i64_w, i32_w]; rfl)
  refine pure_ (i := 3) (N := some 25) (v := ?_) (a' := ?_) (bs 16 15) rfl rfl (by kernel_rfl) (fun _ _ _ h => h) (Or.inl ⟨by rfl, ?_⟩) ?_ ?_; rotate_left; (intro w'; go_simp; with_reducible rfl); rotate_left; (simp only [Act.put, q1_, q2_, q3_, i64_w, i32_w]; rfl)
  refine pure_ (i := 5) (N := some 27) (v := ?_) (a' := ?_) (bs 16 47) rfl rfl (by kernel_rfl) (fun _ _ _ h => h) (Or.inl ⟨by rfl, ?_⟩) ?_ ?_; rotate_left; (intro w'; go_simp; with_reducible rfl); rotate_left; (simp only [Act.put, q1_, q2_, q3_, i64_w, i32_w]; rfl)
  refine pure_ (i := 7) (N := some 29) (v := ?_) (a' := ?_) (bs 16 175) rfl rfl (by kernel_rfl) (fun _ _ _ h => h) (Or.inl ⟨by rfl, ?_⟩) ?_ ?_; rotate_left; (intro w'; go_simp; with_reducible rfl); rotate_left; (simp only [Act.put, q1_, q2_, q3_, i64_w, i32_w]; rfl)
  refine pure_ (i := 8) (N := some 30) (v := ?_) (a' := ?_) (bs 16 431) rfl rfl (by kernel_rfl) (fun _ _ _ h => h) (Or.inl ⟨by rfl, ?_⟩) ?_ ?_; rotate_left; (intro w'; go_simp; with_reducible rfl); rotate_left; (simp only [Act.put, q1_, q2_, q3_, i64_w, i32_w]; rfl)
  refine pure_ (i := 9) (N := some 31) (v := ?_) (a' := ?_) (bs 16 943) rfl rfl (by kernel_rfl) (fun _ _ _ h => h) (Or.inl ⟨by rfl, ?_⟩) ?_ ?_; rotate_left; (intro w'; go_simp; with_reducible rfl); rotate_left; (simp only [Act.put, q1_, q2_, q3_, i64_w, i32_w]; rfl)
  refine take_ (i := 4) (N := some 26) (v := ?_) (a' := ?_) (bs 16 959) rfl rfl (by kernel_rfl) (fun _ _ _ h => h) (Or.inl ⟨by rfl, ?_⟩) hHeld ?_ ?_; rotate_left; (rintro w' ⟨s0, s1⟩; go_simp; with_reducible rfl); rotate_left; (simp only [Act.put, q1_, q2_, q3_, i64_w, i32_w]; rfl)
  refine pure_ (i := 6) (N := some 28) (v := ?_) (a' := ?_) (bs 16 1023) rfl rfl (by kernel_rfl) (fun _ _ _ h => h) (Or.inl ⟨by rfl, ?_⟩) ?_ ?_; rotate_left; (intro w'; go_simp; with_reducible rfl); rotate_left; (simp only [Act.put, q1_, q2_, q3_, i64_w, i32_w]; rfl)
  refine take_ (i := 10) (N := some 32) (v := ?_) (a' := ?_) (bs 16 2047) rfl rfl (by kernel_rfl) (fun _ _ _ h => h) (Or.inl ⟨by rfl, ?_⟩) hHeld ?_ ?_; rotate_left; (rintro w' ⟨s0, s1⟩; go_simp; with_reducible rfl); rotate_left; (simp only [Act.put, q1_, q2_, q3_, i64_w, i32_w]; rfl)
  refine pure_ (i := 11) (N := some 33) (v := ?_) (a' := ?_) (bs 16 4095) rfl rfl (by kernel_rfl) (fun _ _ _ h => h) (Or.inl ⟨by rfl, ?_⟩) ?_ ?_; rotate_left; (intro w'; go_simp; with_reducible rfl); rotate_left; (simp only [Act.put, q1_, q2_, q3_, i64_w, i32_w]; rfl)
  refine pure_ (i := 12) (N := some 34) (v := ?_) (a' := ?_) (bs 16 8191) rfl rfl (by kernel_rfl) (fun _ _ _ h => h) (Or.inl ⟨by rfl, ?_⟩) ?_ ?_; rotate_left; (intro w'; go_simp; with_reducible rfl); rotate_left; (simp only [Act.put, q1_, q2_, q3_, i64_w, i32_w]; rfl)
  refine pure_ (i := 13) (N := some 35) (v := ?_) (a' := ?_) (bs 16 16383) rfl rfl (by kernel_rfl) (fun _ _ _ h => h) (Or.inl ⟨by rfl, ?_⟩) ?_ ?_; rotate_left; (intro w'; go_simp; with_reducible rfl); rotate_left; (simp only [Act.put, q1_, q2_, q3_, i64_w, i32_w]; rfl)
  refine pure_ (i := 14) (N := some 36) (v := ?_) (a' := ?_) (bs 16 32767) rfl rfl (by kernel_rfl) (fun _ _ _ h => h) (Or.inl ⟨by rfl, ?_⟩) ?_ ?_; rotate_left; (intro w'; go_simp; with_reducible rfl); rotate_left; (simp only [Act.put, q1_, q2_, q3_, i64_w, i32_w]; rfl)
  refine last_ (i := 15) (N := none) (bs 16 65535) rfl rfl (by kernel_rfl) (by decide) (fun K hK => ?_)
  refine skip_ (w1 := wd.setCell ⟨g, 1, none⟩ (.int .i64 2)) (by rfl) rfl (by go_simp) ?_
  refine hK.out _ _ ?_; clear hK K
  refine done_ (by kernel_rfl) ?_
  have hb9 : (wd.setCell ⟨g, 1, none⟩ (.int .i64 2)).heap[g]? = some (.cells (c4 R 4 2 4 4294967295) 59 (0, 0)) := blk_put hbd 1 (.int .i64 2) rfl
  have hgr : w.grownBy (wd.setCell ⟨g, 1, none⟩ (.int .i64 2)) (some g) := gb_set (gb_below (BW.out _)) 1 _
  generalize wd.setCell ⟨g, 1, none⟩ (.int .i64 2) = wf at hb9 hgr ⊢
  have HB9 := Aside0.mk hb9
  have HGR := Aside0.mk hgr
  have c2 := (blk_cell hb9 2).trans rfl
  have f2 := blk_frozen hb9 2
  have c3 := (blk_cell hb9 3).trans rfl
  have f3 := blk_frozen hb9 3
  clear hHeld hh BW hbd f1 c1 hw0 ht0 hb9 hgr HB
  go_wp2
  go_ret2
  exact ⟨rfl, blk_put (blk_put HB9.out 2 (.int .i64 2) rfl) 3 (.int .u32 1) rfl, gb_set (gb_set HGR.out _ _) _ _⟩
set_option maxHeartbeats 2000000 in
set_option maxRecDepth 100000 in
theorem slice_calls (g R : Nat) (w : World) (hb : w.heap[g]? = some (.cells (c4 R 4 0 4 4294967295) 59 (0, 0))) (hr : w.heap[R]? = some (.cells #[.int .u8 97, .int .u8 98, .int .u8 99, .int .u8 100] 5 (0, 0))) :
    Calls Tryd.prog 12 #[.pointer (some ⟨g, 0, none⟩), .int .u32 0, .int .i64 2] w fun e w' => ∃ v, e = .returned (.tuple #[v, .int .i64 0]) ∧ w'.ownsRow w.heap.size 5 1 v 2 [.int .u8 98, .int .u8 99] ∧ Below w.heap.size w w' := by
  have h2 := (blk_cell hb 2).trans rfl
  have HB := Aside0.mk hb
  have HR := Aside0.mk hr
  have hw2 : IntKind.u32.wrap (0 - 4294967295) = 1 := by decide +kernel
  have hw3 : IntKind.u32.wrap (-4294967295) = 1 := by decide +kernel
  clear hb hr
  go_enter Tryd.func12, Tryd.ntmps12
  go_wp2_with (first | (go_at_call 20; refine (una_calls g R 4 0 4 4294967295 w HB.out).mono ?_; rintro x w1 ⟨rfl, rfl⟩) | (go_at_call 31; refine (none_calls g R 4 0 4 4294967295 w HB.out).mono ?_; rintro x w1 ⟨rfl, rfl⟩))
  clear hw2 hw3 h2
  go_loopw [10] (fun i wr => ∃ k : Nat, k ≤ 2 ∧ i = .int .i64 ((1 + k : Nat) : Int) ∧ Lib.IsBuffer 67 5 w.heap.size w.heap.size (([.int .u8 98, .int .u8 99] : List Value).take k) wr ∧ Below w.heap.size w wr) (fun i _ => 3 - (intOf i).toNat)
  case atStart => exact ⟨0, by omega, rfl, Lib.fresh_isBuffer 67 5 w, below_alloc (Below.refl _ _) _⟩
  case round =>
    obtain ⟨k, hk, rfl, hI, hBl⟩ := hrel
    have hg' := (hBl.block g (blk_lt HB.out)).trans HB.out
    have hR' := (hBl.block R (blk_lt HR.out)).trans HR.out
    have HG := Aside0.mk (And.intro hg' hR')
    rcases (by omega : k = 0 ∨ k = 1 ∨ k = 2) with rfl | rfl | rfl
    · have HI : Aside0 (Lib.IsBuffer 67 5 w.heap.size w.heap.size [] wr ∧ Below w.heap.size w wr) := ⟨hI, hBl⟩
      clear hI hBl
      have c0 := (blk_cell hg' 0).trans rfl
      have c1 := (blk_cell hg' 1).trans rfl
      have c2 := (blk_cell hg' 2).trans rfl
      clear hg' hR'
      go_wp2
      refine start_ (n := 19) (S := fun w' => w'.cell? ⟨g, 0, none⟩ = some (.slice (some ⟨R, 0, none⟩) 4 4) ∧ w'.cell? ⟨g, 1, none⟩ = some (.int .i64 0) ∧ w'.cell? ⟨R, 1, none⟩ = some (.int .u8 98)) (ds := [18]) (bs 19 0) (by kernel_rfl) rfl rfl ⟨(blk_cell HG.out.1 0).trans rfl, (blk_cell HG.out.1 1).trans rfl, (blk_cell HG.out.2 1).trans rfl⟩ (fun hHeld => ?_)
      have HId : Aside0 (Lib.IsBuffer 67 5 w.heap.size w.heap.size [] wr.drew ∧ Below w.heap.size w wr.drew) := ⟨HI.out.1, below_drew1 HI.out.2⟩
      generalize wr.drew = wd at hHeld HId ⊢
      clear c0 c1 c2 HG HI
      have hw0 : wrap64 1 = 1 := by decide +kernel
      have ht0 : Int.tmod 1 4 = 1 := by decide +kernel
      refine pure_ (i := 0) (N := some 45) (v := ?_) (a' := ?_) (bs 19 1) rfl rfl (by kernel_rfl) (fun _ _ _ h => h) (Or.inl ⟨by rfl, ?_⟩) ?_ ?_; rotate_left; (intro w'; go_simp; with_reducible rfl); rotate_left; (simp only [Act.put, q1_, q2_, q3_, i64_w, i32_w]; rfl)
      refine pure_ (i := 1) (N := some 46) (v := ?_) (a' := ?_) (bs 19 3) rfl rfl (by kernel_rfl) (fun _ _ _ h => h) (Or.inl ⟨by rfl, ?_⟩) ?_ ?_; rotate_left; (intro w'; go_simp; with_reducible rfl); rotate_left; (simp only [Act.put, q1_, q2_, q3_, i64_w, i32_w]; rfl)
      refine pure_ (i := 2) (N := some 47) (v := ?_) (a' := ?_) (bs 19 7) rfl rfl (by kernel_rfl) (fun _ _ _ h => h) (Or.inl ⟨by rfl, ?_⟩) ?_ ?_; rotate_left; (intro w'; go_simp; with_reducible rfl); rotate_left; (simp only [Act.put, q1_, q2_, q3_, i64_w, i32_w]; rfl)
      refine pure_ (i := 4) (N := some 49) (v := ?_) (a' := ?_) (bs 19 23) rfl rfl (by kernel_rfl) (fun _ _ _ h => h) (Or.inl ⟨by rfl, ?_⟩) ?_ ?_; rotate_left; (intro w'; go_simp; with_reducible rfl); rotate_left; (simp only [Act.put, q1_, q2_, q3_, i64_w, i32_w]; rfl)
      refine pure_ (i := 5) (N := some 50) (v := ?_) (a' := ?_) (bs 19 55) rfl rfl (by kernel_rfl) (fun _ _ _ h => h) (Or.inl ⟨by rfl, ?_⟩) ?_ ?_; rotate_left; (intro w'; go_simp; with_reducible rfl); rotate_left; (simp only [Act.put, q1_, q2_, q3_, i64_w, i32_w]; rfl)
      refine pure_ (i := 6) (N := some 51) (v := ?_) (a' := ?_) (bs 19 119) rfl rfl (by kernel_rfl) (fun _ _ _ h => h) (Or.inl ⟨by rfl, ?_⟩) ?_ ?_; rotate_left; (intro w'; go_simp; with_reducible rfl); rotate_left; (simp only [Act.put, q1_, q2_, q3_, i64_w, i32_w]; rfl)
      refine pure_ (i := 8) (N := some 53) (v := ?_) (a' := ?_) (bs 19 375) rfl rfl (by kernel_rfl) (fun _ _ _ h => h) (Or.inl ⟨by rfl, ?_⟩) ?_ ?_; rotate_left; (intro w'; go_simp; with_reducible rfl); rotate_left; (simp only [Act.put, q1_, q2_, q3_, i64_w, i32_w]; rfl)
      refine pure_ (i := 10) (N := some 55) (v := ?_) (a' := ?_) (bs 19 1399) rfl rfl (by kernel_rfl) (fun _ _ _ h => h) (Or.inl ⟨by rfl, ?_⟩) ?_ ?_; rotate_left; (intro w'; go_simp; with_reducible rfl); rotate_left; (simp only [Act.put, q1_, q2_, q3_, i64_w, i32_w]; rfl)
      refine pure_ (i := 11) (N := some 56) (v := ?_) (a' := ?_) (bs 19 3447) rfl rfl (by kernel_rfl) (fun _ _ _ h => h) (Or.inl ⟨by rfl, ?_⟩) ?_ ?_; rotate_left; (intro w'; go_simp; with_reducible rfl); rotate_left; (simp only [Act.put, q1_, q2_, q3_, i64_w, i32_w]; rfl)
      refine pure_ (i := 12) (N := some 57) (v := ?_) (a' := ?_) (bs 19 7543) rfl rfl (by kernel_rfl) (fun _ _ _ h => h) (Or.inl ⟨by rfl, ?_⟩) ?_ ?_; rotate_left; (intro w'; go_simp; with_reducible rfl); rotate_left; (simp only [Act.put, q1_, q2_, q3_, i64_w, i32_w]; rfl)
      refine take_ (i := 3) (N := some 48) (v := ?_) (a' := ?_) (bs 19 7551) rfl rfl (by kernel_rfl) (fun _ _ _ h => h) (Or.inl ⟨by rfl, ?_⟩) hHeld ?_ ?_; rotate_left; (rintro w' ⟨s0, s1, s2⟩; go_simp; with_reducible rfl); rotate_left; (simp only [Act.put, q1_, q2_, q3_, i64_w, i32_w]; rfl)
      refine take_ (i := 7) (N := some 52) (v := ?_) (a' := ?_) (bs 19 7679) rfl rfl (by kernel_rfl) (fun _ _ _ h => h) (Or.inl ⟨by rfl, ?_⟩) hHeld ?_ ?_; rotate_left; (rintro w' ⟨s0, s1, s2⟩; go_simp; with_reducible rfl); rotate_left; (simp only [Act.put, q1_, q2_, q3_, i64_w, i32_w]; rfl)
      refine pure_ (i := 9) (N := some 54) (v := ?_) (a' := ?_) (bs 19 8191) rfl rfl (by kernel_rfl) (fun _ _ _ h => h) (Or.inl ⟨by rfl, ?_⟩) ?_ ?_; rotate_left; (intro w'; go_simp; with_reducible rfl); rotate_left; (simp only [Act.put, q1_, q2_, q3_, i64_w, i32_w]; rfl)
      refine take_ (i := 13) (N := some 58) (v := ?_) (a' := ?_) (bs 19 16383) rfl rfl (by kernel_rfl) (fun _ _ _ h => h) (Or.inl ⟨by rfl, ?_⟩) hHeld ?_ ?_; rotate_left; (rintro w' ⟨s0, s1, s2⟩; go_simp; with_reducible rfl); rotate_left; (simp only [Act.put, q1_, q2_, q3_, i64_w, i32_w]; rfl)
      refine pure_ (i := 14) (N := some 59) (v := ?_) (a' := ?_) (bs 19 32767) rfl rfl (by kernel_rfl) (fun _ _ _ h => h) (Or.inl ⟨by rfl, ?_⟩) ?_ ?_; rotate_left; (intro w'; go_simp; with_reducible rfl); rotate_left; (simp only [Act.put, q1_, q2_, q3_, i64_w, i32_w]; rfl)
      refine pure_ (i := 15) (N := some 60) (v := ?_) (a' := ?_) (bs 19 65535) rfl rfl (by kernel_rfl) (fun _ _ _ h => h) (Or.inl ⟨by rfl, ?_⟩) ?_ ?_; rotate_left; (intro w'; go_simp; with_reducible rfl); rotate_left; (simp only [Act.put, q1_, q2_, q3_, i64_w, i32_w]; rfl)
      refine pure_ (i := 16) (N := some 61) (v := ?_) (a' := ?_) (bs 19 131071) rfl rfl (by kernel_rfl) (fun _ _ _ h => h) (Or.inl ⟨by rfl, ?_⟩) ?_ ?_; rotate_left; (intro w'; go_simp; with_reducible rfl); rotate_left; (simp only [Act.put, q1_, q2_, q3_, i64_w, i32_w]; rfl)
      refine take_ (i := 17) (N := some 62) (v := ?_) (a' := ?_) (bs 19 262143) rfl rfl (by kernel_rfl) (fun _ _ _ h => h) (Or.inl ⟨by rfl, ?_⟩) hHeld ?_ ?_; rotate_left; (rintro w' ⟨s0, s1, s2⟩; go_simp; with_reducible rfl); rotate_left; (simp only [Act.put, q1_, q2_, q3_, i64_w, i32_w]; rfl)
      refine last_ (i := 18) (N := some 63) (bs 19 524287) rfl rfl (by kernel_rfl) (by decide) (fun K hK => ?_)
      refine goes_ Tryd.func32 (by kernel_rfl) rfl #[.pointer (some ⟨w.heap.size, 0, none⟩), .int .u8 98] (by rfl) rfl rfl (by (try simp only [List.map_toArray, List.map_cons, List.map_nil]); first | done | rfl) ?_
      refine (writeByte w.heap.size w.heap.size [] 98 wd HId.out.1 (HId.out.2.size) (by simp [Value.oneCell']) (by simp)).mono ?_
      rintro x w6 ⟨rfl, hI6, hb6, _⟩
      refine ⟨_, rfl, ?_⟩
      refine hK.out _ _ ?_; clear hK K
      refine norm_ (a' := ?_) ?_ ?_; rotate_left; (show Act.put _ (some 63) _ = _; simp only [Act.put, q1_, q2_, q3_, i64_w, i32_w]; rfl)
      refine done_ (by kernel_rfl) ?_
      clear hHeld hw0 ht0
      go_wp2
      go_roundw
      case rel => exact ⟨1, by omega, rfl, hI6, HId.out.2.trans hb6⟩
      case measure => simp [intOf]
    · have HI : Aside0 (Lib.IsBuffer 67 5 w.heap.size w.heap.size [.int .u8 98] wr ∧ Below w.heap.size w wr) := ⟨hI, hBl⟩
      clear hI hBl
      have c0 := (blk_cell hg' 0).trans rfl
      have c1 := (blk_cell hg' 1).trans rfl
      have c2 := (blk_cell hg' 2).trans rfl
      clear hg' hR'
      go_wp2
      refine start_ (n := 19) (S := fun w' => w'.cell? ⟨g, 0, none⟩ = some (.slice (some ⟨R, 0, none⟩) 4 4) ∧ w'.cell? ⟨g, 1, none⟩ = some (.int .i64 0) ∧ w'.cell? ⟨R, 2, none⟩ = some (.int .u8 99)) (ds := [18]) (bs 19 0) (by kernel_rfl) rfl rfl ⟨(blk_cell HG.out.1 0).trans rfl, (blk_cell HG.out.1 1).trans rfl, (blk_cell HG.out.2 2).trans rfl⟩ (fun hHeld => ?_)
      have HId : Aside0 (Lib.IsBuffer 67 5 w.heap.size w.heap.size [.int .u8 98] wr.drew ∧ Below w.heap.size w wr.drew) := ⟨HI.out.1, below_drew1 HI.out.2⟩
      generalize wr.drew = wd at hHeld HId ⊢
      clear c0 c1 c2 HG HI
      have hw0 : wrap64 2 = 2 := by decide +kernel
      have ht0 : Int.tmod 2 4 = 2 := by decide +kernel
      refine pure_ (i := 0) (N := some 45) (v := ?_) (a' := ?_) (bs 19 1) rfl rfl (by kernel_rfl) (fun _ _ _ h => h) (Or.inl ⟨by rfl, ?_⟩) ?_ ?_; rotate_left; (intro w'; go_simp; with_reducible rfl); rotate_left; (simp only [Act.put, q1_, q2_, q3_, i64_w, i32_w]; rfl)
      refine pure_ (i := 1) (N := some 46) (v := ?_) (a' := ?_) (bs 19 3) rfl rfl (by kernel_rfl) (fun _ _ _ h => h) (Or.inl ⟨by rfl, ?_⟩) ?_ ?_; rotate_left; (intro w'; go_simp; with_reducible rfl); rotate_left; (simp only [Act.put, q1_, q2_, q3_, i64_w, i32_w]; rfl)
      refine pure_ (i := 2) (N := some 47) (v := ?_) (a' := ?_) (bs 19 7) rfl rfl (by kernel_rfl) (fun _ _ _ h => h) (Or.inl ⟨by rfl, ?_⟩) ?_ ?_; rotate_left; (intro w'; go_simp; with_reducible rfl); rotate_left; (simp only [Act.put, q1_, q2_, q3_, i64_w, i32_w]; rfl)
      refine pure_ (i := 4) (N := some 49) (v := ?_) (a' := ?_) (bs 19 23) rfl rfl (by kernel_rfl) (fun _ _ _ h => h) (Or.inl ⟨by rfl, ?_⟩) ?_ ?_; rotate_left; (intro w'; go_simp; with_reducible rfl); rotate_left; (simp only [Act.put, q1_, q2_, q3_, i64_w, i32_w]; rfl)
      refine pure_ (i := 5) (N := some 50) (v := ?_) (a' := ?_) (bs 19 55) rfl rfl (by kernel_rfl) (fun _ _ _ h => h) (Or.inl ⟨by rfl, ?_⟩) ?_ ?_; rotate_left; (intro w'; go_simp; with_reducible rfl); rotate_left; (simp only [Act.put, q1_, q2_, q3_, i64_w, i32_w]; rfl)
      refine pure_ (i := 6) (N := some 51) (v := ?_) (a' := ?_) (bs 19 119) rfl rfl (by kernel_rfl) (fun _ _ _ h => h) (Or.inl ⟨by rfl, ?_⟩) ?_ ?_; rotate_left; (intro w'; go_simp; with_reducible rfl); rotate_left; (simp only [Act.put, q1_, q2_, q3_, i64_w, i32_w]; rfl)
      refine pure_ (i := 8) (N := some 53) (v := ?_) (a' := ?_) (bs 19 375) rfl rfl (by kernel_rfl) (fun _ _ _ h => h) (Or.inl ⟨by rfl, ?_⟩) ?_ ?_; rotate_left; (intro w'; go_simp; with_reducible rfl); rotate_left; (simp only [Act.put, q1_, q2_, q3_, i64_w, i32_w]; rfl)
      refine pure_ (i := 10) (N := some 55) (v := ?_) (a' := ?_) (bs 19 1399) rfl rfl (by kernel_rfl) (fun _ _ _ h => h) (Or.inl ⟨by rfl, ?_⟩) ?_ ?_; rotate_left; (intro w'; go_simp; with_reducible rfl); rotate_left; (simp only [Act.put, q1_, q2_, q3_, i64_w, i32_w]; rfl)
      refine pure_ (i := 11) (N := some 56) (v := ?_) (a' := ?_) (bs 19 3447) rfl rfl (by kernel_rfl) (fun _ _ _ h => h) (Or.inl ⟨by rfl, ?_⟩) ?_ ?_; rotate_left; (intro w'; go_simp; with_reducible rfl); rotate_left; (simp only [Act.put, q1_, q2_, q3_, i64_w, i32_w]; rfl)
      refine pure_ (i := 12) (N := some 57) (v := ?_) (a' := ?_) (bs 19 7543) rfl rfl (by kernel_rfl) (fun _ _ _ h => h) (Or.inl ⟨by rfl, ?_⟩) ?_ ?_; rotate_left; (intro w'; go_simp; with_reducible rfl); rotate_left; (simp only [Act.put, q1_, q2_, q3_, i64_w, i32_w]; rfl)
      refine take_ (i := 3) (N := some 48) (v := ?_) (a' := ?_) (bs 19 7551) rfl rfl (by kernel_rfl) (fun _ _ _ h => h) (Or.inl ⟨by rfl, ?_⟩) hHeld ?_ ?_; rotate_left; (rintro w' ⟨s0, s1, s2⟩; go_simp; with_reducible rfl); rotate_left; (simp only [Act.put, q1_, q2_, q3_, i64_w, i32_w]; rfl)
      refine take_ (i := 7) (N := some 52) (v := ?_) (a' := ?_) (bs 19 7679) rfl rfl (by kernel_rfl) (fun _ _ _ h => h) (Or.inl ⟨by rfl, ?_⟩) hHeld ?_ ?_; rotate_left; (rintro w' ⟨s0, s1, s2⟩; go_simp; with_reducible rfl); rotate_left; (simp only [Act.put, q1_, q2_, q3_, i64_w, i32_w]; rfl)
      refine pure_ (i := 9) (N := some 54) (v := ?_) (a' := ?_) (bs 19 8191) rfl rfl (by kernel_rfl) (fun _ _ _ h => h) (Or.inl ⟨by rfl, ?_⟩) ?_ ?_; rotate_left; (intro w'; go_simp; with_reducible rfl); rotate_left; (simp only [Act.put, q1_, q2_, q3_, i64_w, i32_w]; rfl)
      refine take_ (i := 13) (N := some 58) (v := ?_) (a' := ?_) (bs 19 16383) rfl rfl (by kernel_rfl) (fun _ _ _ h => h) (Or.inl ⟨by rfl, ?_⟩) hHeld ?_ ?_; rotate_left; (rintro w' ⟨s0, s1, s2⟩; go_simp; with_reducible rfl); rotate_left; (simp only [Act.put, q1_, q2_, q3_, i64_w, i32_w]; rfl)
      refine pure_ (i := 14) (N := some 59) (v := ?_) (a' := ?_) (bs 19 32767) rfl rfl (by kernel_rfl) (fun _ _ _ h => h) (Or.inl ⟨by rfl, ?_⟩) ?_ ?_; rotate_left; (intro w'; go_simp; with_reducible rfl); rotate_left; (simp only [Act.put, q1_, q2_, q3_, i64_w, i32_w]; rfl)
      refine pure_ (i := 15) (N := some 60) (v := ?_) (a' := ?_) (bs 19 65535) rfl rfl (by kernel_rfl) (fun _ _ _ h => h) (Or.inl ⟨by rfl, ?_⟩) ?_ ?_; rotate_left; (intro w'; go_simp; with_reducible rfl); rotate_left; (simp only [Act.put, q1_, q2_, q3_, i64_w, i32_w]; rfl)
      refine pure_ (i := 16) (N := some 61) (v := ?_) (a' := ?_) (bs 19 131071) rfl rfl (by kernel_rfl) (fun _ _ _ h => h) (Or.inl ⟨by rfl, ?_⟩) ?_ ?_; rotate_left; (intro w'; go_simp; with_reducible rfl); rotate_left; (simp only [Act.put, q1_, q2_, q3_, i64_w, i32_w]; rfl)
      refine take_ (i := 17) (N := some 62) (v := ?_) (a' := ?_) (bs 19 262143) rfl rfl (by kernel_rfl) (fun _ _ _ h => h) (Or.inl ⟨by rfl, ?_⟩) hHeld ?_ ?_; rotate_left; (rintro w' ⟨s0, s1, s2⟩; go_simp; with_reducible rfl); rotate_left; (simp only [Act.put, q1_, q2_, q3_, i64_w, i32_w]; rfl)
      refine last_ (i := 18) (N := some 63) (bs 19 524287) rfl rfl (by kernel_rfl) (by decide) (fun K hK => ?_)
      refine goes_ Tryd.func32 (by kernel_rfl) rfl #[.pointer (some ⟨w.heap.size, 0, none⟩), .int .u8 99] (by rfl) rfl rfl (by (try simp only [List.map_toArray, List.map_cons, List.map_nil]); first | done | rfl) ?_
      refine (writeByte w.heap.size w.heap.size [.int .u8 98] 99 wd HId.out.1 (HId.out.2.size) (by simp [Value.oneCell']) (by simp)).mono ?_
      rintro x w6 ⟨rfl, hI6, hb6, _⟩
      refine ⟨_, rfl, ?_⟩
      refine hK.out _ _ ?_; clear hK K
      refine norm_ (a' := ?_) ?_ ?_; rotate_left; (show Act.put _ (some 63) _ = _; simp only [Act.put, q1_, q2_, q3_, i64_w, i32_w]; rfl)
      refine done_ (by kernel_rfl) ?_
      clear hHeld hw0 ht0
      go_wp2
      go_roundw
      case rel => exact ⟨2, by omega, rfl, hI6, HId.out.2.trans hb6⟩
      case measure => simp [intOf]
    · have HI : Aside0 (Lib.IsBuffer 67 5 w.heap.size w.heap.size [.int .u8 98, .int .u8 99] wr ∧ Below w.heap.size w wr) := ⟨hI, hBl⟩
      clear hI hBl
      have c2 := (blk_cell hg' 2).trans rfl
      clear hg' hR'
      go_wp2_with (go_at_call 33; refine (bytesOfBuffer w.heap.size w.heap.size _ wr HI.out.1).mono ?_; rintro x w6 ⟨v, rfl, hv, nd, rfl⟩)
      go_ret2
      exact ⟨v, rfl, hv, pw_below_drewN HI.out.2 nd⟩
end Go.Proofs.YtiphiacidokhiaaDoor.Hand
