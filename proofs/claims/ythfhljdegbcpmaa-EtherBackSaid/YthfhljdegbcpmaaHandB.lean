/- The contract of ether.BuildArp: what it computes, by hand (an array of structures is ranged over). -/
import Derived.Test.YthfhljdegbcpmaaHandA
import Derived.Test.YthfhljdegbcpmaaPQx3
import Derived.ArgAppend
import Derived.Lib.SmallJoins
namespace Go.Proofs.Ythfhljdegbcpmaa.Hand
open Go.RowKit Go.Proofs.YthfhljdegbcpmaaW.PrintWords Go.Proofs.YthfhljdegbcpmaaW.PrintLast Go.Proofs.YthfhljdegbcpmaaW.PrintMore Go.Proofs.Ythfhljdegbcpmaa.PQ
set_option linter.unusedVariables false
set_option linter.unusedSimpArgs false
attribute [local go_sem] Oper.semAt_some max2_int max_two

/-- The highest octets first. -/
def hi (n : Int) (s : Nat) : List Int := (lows n s).reverse
theorem hi_len (n : Int) (s : Nat) : (hi n s).length = s := by simp [hi, lows_len]
theorem put_f (l : List Int) (n : Int) (s : Nat) (h0 : 0 ≤ n) (h1 : n < 256 ^ s) (h2 : 1 ≤ s) (h8 : s ≤ 8) (hl : l.length + s < 140737488355328) : ether_put.f l n s = some (l ++ hi n s) := by
  have h64 : n < 18446744073709551616 := Int.lt_of_lt_of_le h1 (by
    rcases (by omega : s = 1 ∨ s = 2 ∨ s = 3 ∨ s = 4 ∨ s = 5 ∨ s = 6 ∨ s = 7 ∨ s = 8) with rfl | rfl | rfl | rfl | rfl | rfl | rfl | rfl <;> decide)
  unfold ether_put.f octets_Put.f putF
  rw [if_pos ⟨h0, h64⟩, if_pos (by omega), Int.toNat_natCast, if_pos (Int.ediv_eq_zero_of_lt h0 h1)]
  show (if l.length + (hi n s).length < 140737488355328 then some (l ++ hi n s) else none) = _
  rw [hi_len, if_pos hl]
/-- What is there behind k ends. -/
def arpAcc (op sm si dm di : Int) : Nat → List Int
  | 0 => kind7 ++ [op]
  | 1 => kind7 ++ [op] ++ hi sm 6 ++ hi si 4
  | _ => kind7 ++ [op] ++ hi sm 6 ++ hi si 4 ++ hi dm 6 ++ hi di 4
theorem cells2 {w : World} {b : Nat} {x0 x1 : Value} {t : TypeId} (h : w.heap[b]? = some (.cells #[x0, x1] t)) : w.cell? ⟨b, 0, none⟩ = some x0 ∧ w.cell? ⟨b, 1, none⟩ = some x1 := by
  simp [World.cell?, h]
theorem append_run {P : Program} {ops : Array Oper} {rest : List Oper} {o : Oper} {a : Act} {Q : Exit → Act → World → Prop} {W : World} (hgd : o.guard = none) (s x : Operand) (t : TypeId) (ho : o.op = .call { callee := .builtin .append, args := #[s, x], argTypes := #[t, t] }) (v u v1 : Value) (w1 : World)
    (hs : a.eval s = v) (hx : a.eval x = u) (hr : (Builtin.append_ #[t, t] o.type #[v, u]).run P W = .ok v1 w1) (h : wpList P ops Q rest (a.put o.dst v1) w1) : wpList P ops Q (o :: rest) a W := by
  refine wpList_plain hgd fun K hK => ?_
  unfold Oper.wp execOp
  simp only [ho, resolve, invoke, builtin, Sem.run_bind, Sem.run_pure, Result.andThen_ok, List.map_toArray, List.map_cons, List.map_nil, hs, hx, hr]
  exact hK _ _ h
theorem info56 : (Try.prog.info? 56).map (·.size) = some 2 := by kernel_rfl
theorem index57 (a b c d : Value) (i : Int) (hi : i = 0 ∨ i = 1) (W : World) : (Instr.index 57 (.agg #[a, b, c, d]) (.int .i64 i)).run Try.prog W = .ok (.agg (if i = 0 then #[a, b] else #[c, d])) W := by
  obtain ⟨t, ht, hz⟩ := Option.map_eq_some_iff.1 info56
  rcases hi with rfl | rfl <;>
  simp [Instr.index, asIntOf, run_underlying Try.underlying57, sizeOf, typeInfo, ht, hz, part, isAgg, run_underlying Try.underlying56]
def kindC : Array Value := #[.int .u8 0, .int .u8 1, .int .u8 8, .int .u8 0, .int .u8 6, .int .u8 4, .int .u8 0]
theorem kind_conv (w : World) (o : Obj) : (convert 23 23 (.slice (some ⟨w.heap.size + 1, 0, none⟩) 7 7)).run Try.prog ((w.alloc o).alloc (.cells kindC 5)) = .ok (.slice (some ⟨w.heap.size + 1, 0, none⟩) 7 7) ((w.alloc o).alloc (.cells kindC 5 (7, 8))) :=
  Joins.run_convert_bytes_const_at (P := Try.prog) (w.alloc o) 23 5 kindC 7 7 (w.heap.size + 1) (by simp) Try.underlying23 Try.underlying5
theorem kind_append (w : World) (o : Obj) (op : Int) : ∃ v' w', (Builtin.append_ #[23, 23] 23 #[.slice (some ⟨w.heap.size + 1, 0, none⟩) 7 7, .slice (some ⟨w.heap.size + 1 + 1, 0, none⟩) 1 1]).run Try.prog (((w.alloc o).alloc (.cells kindC 5 (7, 8))).alloc (.cells #[.int .u8 op] 5)) = .ok v' w' ∧
    Kd.R (Kd.int .u8) 5 w' w.heap.size (fun _ => True) v' (kind7 ++ [op]) ∧ Below w.heap.size w w' ∧ w'.heap[w.heap.size]? = some o := by
  obtain ⟨i0, hi, hz0, hz1, hz2⟩ := info_parts info5
  have hk : (((w.alloc o).alloc (.cells kindC 5 (7, 8))).alloc (.cells #[.int .u8 op] 5)).heap[w.heap.size + 1]? = some (.cells kindC 5 (7, 8)) := by
    rw [Below.heap_alloc _ _ _ (by simp)]
    have := World.alloc_heap_new (w.alloc o) (.cells kindC 5 (7, 8))
    rwa [World.size_alloc] at this
  have hn : (((w.alloc o).alloc (.cells kindC 5 (7, 8))).alloc (.cells #[.int .u8 op] 5)).heap[w.heap.size + 2]? = some (.cells #[.int .u8 op] 5) := by
    have := World.alloc_heap_new ((w.alloc o).alloc (.cells kindC 5 (7, 8))) (.cells #[.int .u8 op] 5)
    rwa [World.size_alloc, World.size_alloc] at this
  obtain ⟨v', w', hr, ho, hg⟩ := run_append_arg_grows (P := Try.prog) (((w.alloc o).alloc (.cells kindC 5 (7, 8))).alloc (.cells #[.int .u8 op] 5)) 23 23 5 i0 (.int .u8 0) 1 1 Try.underlying23 hi hz0 hz1 hz2 rfl (by decide)
    ⟨w.heap.size + 1, 0, none⟩ 7 7 kindC.toList rfl (World.news_of_block hk) ⟨w.heap.size + 2, 0, none⟩ 1 1 [.int .u8 op] rfl (by simpa using World.news_of_block hn) (by decide) (by decide) (by decide)
  refine ⟨v', w', hr, ?_, ?_, ?_⟩
  · exact Kd.R_mono (Kd.R_lower (Kd.R_of_own (enc := Value.int .u8) (h1 := fun _ => rfl) (ok := fun _ => True) (xs := kind7 ++ [op]) ho (fun _ _ => trivial)) (by simp; omega)) (fun _ _ => trivial)
  · exact (below_alloc (below_alloc (below_alloc (Below.refl _ w) _) _) _).grown hg (by simp; omega) (fun k e => by cases e)
  · rw [hg.block _ (by simp; omega) (by simp), Below.heap_alloc _ _ _ (by simp; omega), Below.heap_alloc _ _ _ (by simp)]; exact World.alloc_heap_new w o
set_option maxHeartbeats 4000000 in
set_option maxRecDepth 100000 in
theorem buildArp_bad (op sm si dm di r : Int) (w : World) (h : (op < 1 ∧ r = 31) ∨ (1 ≤ op ∧ 2 < op ∧ r = 31) ∨ (1 ≤ op ∧ op ≤ 2 ∧ 281474976710655 < mx sm dm ∧ r = 4)) :
    Calls Try.prog 14 #[.agg #[.int .i64 op, .int .u64 sm, .int .u32 si, .int .u64 dm, .int .u32 di]] w fun e w' => e = .returned (.tuple #[.slice none 0 0, .int .i64 r]) ∧ Below w.heap.size w w' := by
  have hB := Aside0.mk (below_alloc (Below.refl w.heap.size w) (.cells #[.int .i64 op, .int .u64 sm, .int .u32 si, .int .u64 dm, .int .u32 di] 39))
  rcases h with ⟨h, rfl⟩ | ⟨h, h2, rfl⟩ | ⟨h, h2, h3, rfl⟩
  · go_enter Try.func14, Try.ntmps14
    go_wp2
    go_ret2
    exact ⟨rfl, hB.out⟩
  · go_enter Try.func14, Try.ntmps14
    go_wp2
    go_ret2
    exact ⟨rfl, hB.out⟩
  · obtain ⟨z, hz⟩ : ∃ z, (if sm < dm then dm else sm) = z := ⟨_, rfl⟩
    replace h3 : 281474976710655 < z := by rw [← hz]; exact h3
    go_enter Try.func14, Try.ntmps14
    go_wp2
    go_ret2
    exact ⟨rfl, hB.out⟩
set_option maxHeartbeats 8000000 in
set_option maxRecDepth 100000 in
theorem buildArp_ok (op sm si dm di : Int) (w : World) (o1 : 1 ≤ op) (o2 : op ≤ 2) (s0 : 0 ≤ sm) (s1 : sm < 281474976710656) (d0 : 0 ≤ dm) (d1 : dm < 281474976710656) (i0 : 0 ≤ si) (i1 : si < 4294967296) (j0 : 0 ≤ di) (j1 : di < 4294967296) :
    Calls Try.prog 14 #[.agg #[.int .i64 op, .int .u64 sm, .int .u32 si, .int .u64 dm, .int .u32 di]] w fun e w' => ∃ v0_ : Value, e = .returned (.tuple #[v0_, .int .i64 0]) ∧ Kd.R (Kd.int .u8) 5 w' w.heap.size (fun _ => True) v0_ (arpAcc op sm si dm di 2) ∧ Below w.heap.size w w' := by
  obtain ⟨z, hz⟩ : ∃ z, (if sm < dm then dm else sm) = z := ⟨_, rfl⟩
  have hmx : z ≤ 281474976710655 := by rw [← hz]; split <;> omega
  have hcv := kind_conv w (.cells #[.int .i64 op, .int .u64 sm, .int .u32 si, .int .u64 dm, .int .u32 di] 39)
  obtain ⟨v1, w1, hap, hR1, hB1, hbx⟩ := kind_append w (.cells #[.int .i64 op, .int .u64 sm, .int .u32 si, .int .u64 dm, .int .u32 di] 39) op
  unfold kindC at hcv hap
  have HW0 : Aside0 (IntKind.u64.wrap si = si) := ⟨by rw [wrap_u64]; omega⟩
  have HW1 : Aside0 (IntKind.u64.wrap di = di) := ⟨by rw [wrap_u64]; omega⟩
  have hix0 : ∀ W, (Instr.index 57 (.agg #[.int .u64 sm, .int .u32 si, .int .u64 dm, .int .u32 di]) (.int .i64 0)).run Try.prog W = .ok (.agg #[.int .u64 sm, .int .u32 si]) W := fun W => index57 _ _ _ _ 0 (.inl rfl) W
  have hix1 : ∀ W, (Instr.index 57 (.agg #[.int .u64 sm, .int .u32 si, .int .u64 dm, .int .u32 di]) (.int .i64 1)).run Try.prog W = .ok (.agg #[.int .u64 dm, .int .u32 di]) W := fun W => index57 _ _ _ _ 1 (.inr rfl) W
  obtain ⟨f0, f1, f2, f3, f4, _⟩ := cells5 hbx
  have HR1 := Aside0.mk (And.intro hR1 hB1)
  have HAP := Aside0.mk hap
  clear hR1 hB1 hbx hap
  go_enter Try.func14, Try.ntmps14
  go_wp2_with (at_builtin; go_loud (refine append_run rfl _ _ 23 rfl _ _ v1 w1 rfl rfl HAP.out ?_))
  go_loopw [4, 39] (fun q i wr => ∃ k : Nat, k ≤ 2 ∧ i = .int .i64 (k : Nat) ∧ Kd.R (Kd.int .u8) 5 wr w.heap.size (fun _ => True) q (arpAcc op sm si dm di k) ∧ Below w.heap.size w wr) (fun _ i _ => 2 - (intOf i).toNat)
  case atStart => exact ⟨0, by omega, rfl, HR1.out.1, HR1.out.2⟩
  case round =>
    obtain ⟨k, hk, rfl, hR, hB⟩ := hrel
    have HR := Aside0.mk hR
    have HB := Aside0.mk hB
    clear hR hB
    rcases (by omega : k = 0 ∨ k = 1 ∨ k = 2) with rfl | rfl | rfl
    · go_wp2
      have hB2 := below_alloc HB.out (.cells #[.int .u64 sm, .int .u32 si] 56)
      have hR2 := Kd.R_alloc (Kd.R_mono (Kd.R_bound HR.out) (ok' := fun k => k ≠ wr.heap.size) (fun k hk => Nat.ne_of_lt hk.2.2.1)) (.cells #[.int .u64 sm, .int .u32 si] 56)
      have hbl := World.alloc_heap_new wr (.cells #[.int .u64 sm, .int .u32 si] 56)
      have hzl : (wr.alloc (.cells #[.int .u64 sm, .int .u32 si] 56)).heap.size = wr.heap.size + 1 := by simp
      generalize wr.alloc (.cells #[.int .u64 sm, .int .u32 si] 56) = wa at hB2 hR2 hbl hzl ⊢
      obtain ⟨c0, c1⟩ := cells2 hbl
      have HA := Aside0.mk (And.intro hB2 (And.intro hR2 (And.intro hbl hzl)))
      clear hB2 hR2 hbl hzl
      refine start_ (n := 9) (S := fun w' => w'.cell? ⟨wr.heap.size, 0, none⟩ = some (.int .u64 sm) ∧ w'.cell? ⟨wr.heap.size, 1, none⟩ = some (.int .u32 si)) (ds := []) (bs 9 0) (by kernel_rfl) rfl rfl ⟨c0, c1⟩ (fun hHeld => ?_)
      have hbd : Below w.heap.size w wa.drew := below_drew1 HA.out.1
      have hRd : Kd.R (Kd.int .u8) 5 wa.drew w.heap.size (fun k => k ≠ wr.heap.size) u4 (arpAcc op sm si dm di 0) := Kd.R_drew HA.out.2.1
      have hbk : wa.drew.heap[wr.heap.size]? = some (.cells #[.int .u64 sm, .int .u32 si] 56) := HA.out.2.2.1
      have hzd : wa.drew.heap.size = wr.heap.size + 1 := HA.out.2.2.2
      generalize wa.drew = wd at hHeld hbd hRd hbk hzd ⊢
      refine pure_ (i := 0) (N := some 42) (v := ?_) (a' := ?_) (bs 9 1) rfl rfl (by kernel_rfl) (fun _ _ _ h => h) (Or.inl ⟨by rfl, ?_⟩) ?_ ?_; rotate_left; (intro w'; go_simp; with_reducible rfl); rotate_left; (simp only [Act.put, q1_, q2_, q3_, i64_w, i32_w]; rfl)
      refine pure_ (i := 1) (N := some 43) (v := ?_) (a' := ?_) (bs 9 3) rfl rfl (by kernel_rfl) (fun _ _ _ h => h) (Or.inl ⟨by rfl, ?_⟩) ?_ ?_; rotate_left; (intro w'; go_simp; with_reducible rfl); rotate_left; (simp only [Act.put, q1_, q2_, q3_, i64_w, i32_w]; rfl)
      refine take_ (i := 2) (N := some 44) (v := ?_) (a' := ?_) (bs 9 7) rfl rfl (by kernel_rfl) (fun _ _ _ h => h) (Or.inl ⟨by rfl, ?_⟩) hHeld ?_ ?_; rotate_left; (rintro w' ⟨s0, s1⟩; go_simp; with_reducible rfl); rotate_left; (simp only [Act.put, q1_, q2_, q3_, i64_w, i32_w]; rfl)
      refine pure_ (i := 4) (N := some 46) (v := ?_) (a' := ?_) (bs 9 23) rfl rfl (by kernel_rfl) (fun _ _ _ h => h) (Or.inl ⟨by rfl, ?_⟩) ?_ ?_; rotate_left; (intro w'; go_simp; with_reducible rfl); rotate_left; (simp only [Act.put, q1_, q2_, q3_, i64_w, i32_w]; rfl)
      refine take_ (i := 5) (N := some 47) (v := ?_) (a' := ?_) (bs 9 55) rfl rfl (by kernel_rfl) (fun _ _ _ h => h) (Or.inl ⟨by rfl, ?_⟩) hHeld ?_ ?_; rotate_left; (rintro w' ⟨s0, s1⟩; go_simp; with_reducible rfl); rotate_left; (simp only [Act.put, q1_, q2_, q3_, i64_w, i32_w]; rfl)
      refine pure_ (i := 6) (N := some 48) (v := ?_) (a' := ?_) (bs 9 119) rfl rfl (by kernel_rfl) (fun _ _ _ h => h) (Or.inl ⟨by rfl, ?_⟩) ?_ ?_; rotate_left; (intro w'; go_simp; with_reducible rfl); rotate_left; (simp only [Act.put, q1_, q2_, q3_, i64_w, i32_w]; rfl)
      refine one_ (i := 3) (N := some 45) (bs 9 127) rfl rfl (by kernel_rfl) (by decide) (fun K hK => ?_)
      refine goes_ Try.func20 (by kernel_rfl) rfl #[u4, .int .u64 sm, .int .i64 6] (by rfl) rfl rfl (by (try simp only [List.map_toArray, List.map_cons, List.map_nil]); first | done | rfl) ?_
      refine (ether_put.calls (fun k => k ≠ wr.heap.size) u4 (arpAcc op sm si dm di 0) sm 6 _ w wd hbd hRd (put_f _ sm 6 (by omega) (by omega) (by decide) (by decide) (by simp [arpAcc, kind7, hi_len]))).mono ?_
      rintro e w2 ⟨v2, rfl, hR3, hB3, hK3⟩
      refine ⟨v2, rfl, ?_⟩
      have hbk2 : w2.heap[wr.heap.size]? = some (.cells #[.int .u64 sm, .int .u32 si] 56) := (hK3.2 _ (by omega) (fun h => h rfl)).trans hbk
      have hz2 : wr.heap.size < w2.heap.size := blk_lt hbk2
      have hR4 := Kd.R_mono hR3 (ok' := fun k => k ≠ wr.heap.size) (fun k hk => hk.elim id (fun h e => by omega))
      refine hK.out _ _ (cells2 hbk2) (fun hHeld => ?_); clear hK K
      refine norm_ (a' := ?_) ?_ ?_; rotate_left; (show Act.put _ (some 45) _ = _; simp only [Act.put, q1_, q2_, q3_, i64_w, i32_w]; rfl)
      clear hR3 hK3 hbd hRd
      refine one_ (i := 7) (N := some 49) (bs 9 255) rfl rfl (by kernel_rfl) (by decide) (fun K hK => ?_)
      refine goes_ Try.func20 (by kernel_rfl) rfl #[v2, .int .u64 (IntKind.u64.wrap si), .int .i64 4] (by rfl) rfl rfl (by (try simp only [List.map_toArray, List.map_cons, List.map_nil]); first | done | rfl) ?_
      rw [HW0.out]
      refine (ether_put.calls (fun k => k ≠ wr.heap.size) v2 _ si 4 _ w w2 hB3 hR4 (put_f _ si 4 (by omega) (by omega) (by decide) (by decide) (by simp [arpAcc, kind7, hi_len]))).mono ?_
      rintro e w3 ⟨v3, rfl, hR5, hB5, hK5⟩
      refine ⟨v3, rfl, ?_⟩
      have hbk3 : w3.heap[wr.heap.size]? = some (.cells #[.int .u64 sm, .int .u32 si] 56) := (hK5.2 _ hz2 (fun h => h rfl)).trans hbk2
      refine hK.out _ _ (cells2 hbk3) (fun hHeld => ?_); clear hK K
      refine norm_ (a' := ?_) ?_ ?_; rotate_left; (show Act.put _ (some 49) _ = _; simp only [Act.put, q1_, q2_, q3_, i64_w, i32_w]; rfl)
      refine pure_ (i := 8) (N := some 4) (v := ?_) (a' := ?_) (bs 9 511) rfl rfl (by kernel_rfl) (fun _ _ _ h => h) (Or.inl ⟨by rfl, ?_⟩) ?_ ?_; rotate_left; (intro w'; go_simp; with_reducible rfl); rotate_left; (simp only [Act.put, q1_, q2_, q3_, i64_w, i32_w]; rfl)
      refine done_ (by kernel_rfl) ?_
      have HF := Aside0.mk (And.intro (Kd.R_mono hR5 (ok' := fun _ => True) (fun _ _ => trivial)) hB5)
      clear hR5 hB5 hK5 hR4 hB3 hHeld hbk3 hbk2 hbk hzd
      go_wp2
      go_roundw
      case rel => exact ⟨1, by omega, by go_num, by simpa [arpAcc] using HF.out.1, HF.out.2⟩
      case measure => simp [intOf]
    · go_wp2
      have hB2 := below_alloc HB.out (.cells #[.int .u64 dm, .int .u32 di] 56)
      have hR2 := Kd.R_alloc (Kd.R_mono (Kd.R_bound HR.out) (ok' := fun k => k ≠ wr.heap.size) (fun k hk => Nat.ne_of_lt hk.2.2.1)) (.cells #[.int .u64 dm, .int .u32 di] 56)
      have hbl := World.alloc_heap_new wr (.cells #[.int .u64 dm, .int .u32 di] 56)
      have hzl : (wr.alloc (.cells #[.int .u64 dm, .int .u32 di] 56)).heap.size = wr.heap.size + 1 := by simp
      generalize wr.alloc (.cells #[.int .u64 dm, .int .u32 di] 56) = wa at hB2 hR2 hbl hzl ⊢
      obtain ⟨c0, c1⟩ := cells2 hbl
      have HA := Aside0.mk (And.intro hB2 (And.intro hR2 (And.intro hbl hzl)))
      clear hB2 hR2 hbl hzl
      refine start_ (n := 9) (S := fun w' => w'.cell? ⟨wr.heap.size, 0, none⟩ = some (.int .u64 dm) ∧ w'.cell? ⟨wr.heap.size, 1, none⟩ = some (.int .u32 di)) (ds := []) (bs 9 0) (by kernel_rfl) rfl rfl ⟨c0, c1⟩ (fun hHeld => ?_)
      have hbd : Below w.heap.size w wa.drew := below_drew1 HA.out.1
      have hRd : Kd.R (Kd.int .u8) 5 wa.drew w.heap.size (fun k => k ≠ wr.heap.size) u4 (arpAcc op sm si dm di 1) := Kd.R_drew HA.out.2.1
      have hbk : wa.drew.heap[wr.heap.size]? = some (.cells #[.int .u64 dm, .int .u32 di] 56) := HA.out.2.2.1
      have hzd : wa.drew.heap.size = wr.heap.size + 1 := HA.out.2.2.2
      generalize wa.drew = wd at hHeld hbd hRd hbk hzd ⊢
      refine pure_ (i := 0) (N := some 42) (v := ?_) (a' := ?_) (bs 9 1) rfl rfl (by kernel_rfl) (fun _ _ _ h => h) (Or.inl ⟨by rfl, ?_⟩) ?_ ?_; rotate_left; (intro w'; go_simp; with_reducible rfl); rotate_left; (simp only [Act.put, q1_, q2_, q3_, i64_w, i32_w]; rfl)
      refine pure_ (i := 1) (N := some 43) (v := ?_) (a' := ?_) (bs 9 3) rfl rfl (by kernel_rfl) (fun _ _ _ h => h) (Or.inl ⟨by rfl, ?_⟩) ?_ ?_; rotate_left; (intro w'; go_simp; with_reducible rfl); rotate_left; (simp only [Act.put, q1_, q2_, q3_, i64_w, i32_w]; rfl)
      refine take_ (i := 2) (N := some 44) (v := ?_) (a' := ?_) (bs 9 7) rfl rfl (by kernel_rfl) (fun _ _ _ h => h) (Or.inl ⟨by rfl, ?_⟩) hHeld ?_ ?_; rotate_left; (rintro w' ⟨s0, s1⟩; go_simp; with_reducible rfl); rotate_left; (simp only [Act.put, q1_, q2_, q3_, i64_w, i32_w]; rfl)
      refine pure_ (i := 4) (N := some 46) (v := ?_) (a' := ?_) (bs 9 23) rfl rfl (by kernel_rfl) (fun _ _ _ h => h) (Or.inl ⟨by rfl, ?_⟩) ?_ ?_; rotate_left; (intro w'; go_simp; with_reducible rfl); rotate_left; (simp only [Act.put, q1_, q2_, q3_, i64_w, i32_w]; rfl)
      refine take_ (i := 5) (N := some 47) (v := ?_) (a' := ?_) (bs 9 55) rfl rfl (by kernel_rfl) (fun _ _ _ h => h) (Or.inl ⟨by rfl, ?_⟩) hHeld ?_ ?_; rotate_left; (rintro w' ⟨s0, s1⟩; go_simp; with_reducible rfl); rotate_left; (simp only [Act.put, q1_, q2_, q3_, i64_w, i32_w]; rfl)
      refine pure_ (i := 6) (N := some 48) (v := ?_) (a' := ?_) (bs 9 119) rfl rfl (by kernel_rfl) (fun _ _ _ h => h) (Or.inl ⟨by rfl, ?_⟩) ?_ ?_; rotate_left; (intro w'; go_simp; with_reducible rfl); rotate_left; (simp only [Act.put, q1_, q2_, q3_, i64_w, i32_w]; rfl)
      refine one_ (i := 3) (N := some 45) (bs 9 127) rfl rfl (by kernel_rfl) (by decide) (fun K hK => ?_)
      refine goes_ Try.func20 (by kernel_rfl) rfl #[u4, .int .u64 dm, .int .i64 6] (by rfl) rfl rfl (by (try simp only [List.map_toArray, List.map_cons, List.map_nil]); first | done | rfl) ?_
      refine (ether_put.calls (fun k => k ≠ wr.heap.size) u4 (arpAcc op sm si dm di 1) dm 6 _ w wd hbd hRd (put_f _ dm 6 (by omega) (by omega) (by decide) (by decide) (by simp [arpAcc, kind7, hi_len]))).mono ?_
      rintro e w2 ⟨v2, rfl, hR3, hB3, hK3⟩
      refine ⟨v2, rfl, ?_⟩
      have hbk2 : w2.heap[wr.heap.size]? = some (.cells #[.int .u64 dm, .int .u32 di] 56) := (hK3.2 _ (by omega) (fun h => h rfl)).trans hbk
      have hz2 : wr.heap.size < w2.heap.size := blk_lt hbk2
      have hR4 := Kd.R_mono hR3 (ok' := fun k => k ≠ wr.heap.size) (fun k hk => hk.elim id (fun h e => by omega))
      refine hK.out _ _ (cells2 hbk2) (fun hHeld => ?_); clear hK K
      refine norm_ (a' := ?_) ?_ ?_; rotate_left; (show Act.put _ (some 45) _ = _; simp only [Act.put, q1_, q2_, q3_, i64_w, i32_w]; rfl)
      clear hR3 hK3 hbd hRd
      refine one_ (i := 7) (N := some 49) (bs 9 255) rfl rfl (by kernel_rfl) (by decide) (fun K hK => ?_)
      refine goes_ Try.func20 (by kernel_rfl) rfl #[v2, .int .u64 (IntKind.u64.wrap di), .int .i64 4] (by rfl) rfl rfl (by (try simp only [List.map_toArray, List.map_cons, List.map_nil]); first | done | rfl) ?_
      rw [HW1.out]
      refine (ether_put.calls (fun k => k ≠ wr.heap.size) v2 _ di 4 _ w w2 hB3 hR4 (put_f _ di 4 (by omega) (by omega) (by decide) (by decide) (by simp [arpAcc, kind7, hi_len]))).mono ?_
      rintro e w3 ⟨v3, rfl, hR5, hB5, hK5⟩
      refine ⟨v3, rfl, ?_⟩
      have hbk3 : w3.heap[wr.heap.size]? = some (.cells #[.int .u64 dm, .int .u32 di] 56) := (hK5.2 _ hz2 (fun h => h rfl)).trans hbk2
      refine hK.out _ _ (cells2 hbk3) (fun hHeld => ?_); clear hK K
      refine norm_ (a' := ?_) ?_ ?_; rotate_left; (show Act.put _ (some 49) _ = _; simp only [Act.put, q1_, q2_, q3_, i64_w, i32_w]; rfl)
      refine pure_ (i := 8) (N := some 4) (v := ?_) (a' := ?_) (bs 9 511) rfl rfl (by kernel_rfl) (fun _ _ _ h => h) (Or.inl ⟨by rfl, ?_⟩) ?_ ?_; rotate_left; (intro w'; go_simp; with_reducible rfl); rotate_left; (simp only [Act.put, q1_, q2_, q3_, i64_w, i32_w]; rfl)
      refine done_ (by kernel_rfl) ?_
      have HF := Aside0.mk (And.intro (Kd.R_mono hR5 (ok' := fun _ => True) (fun _ _ => trivial)) hB5)
      clear hR5 hB5 hK5 hR4 hB3 hHeld hbk3 hbk2 hbk hzd
      go_wp2
      go_roundw
      case rel => exact ⟨2, by omega, by go_num, by simpa [arpAcc] using HF.out.1, HF.out.2⟩
      case measure => simp [intOf]
    · go_wp2
      go_ret2
      exact ⟨u4, rfl, HR.out, HB.out⟩
def buildArpF (op sm si dm di : Int) : Option (List Int × Int) :=
  if 0 ≤ sm ∧ 0 ≤ dm ∧ (0 ≤ si ∧ si < 4294967296) ∧ (0 ≤ di ∧ di < 4294967296) then
    if op < 1 ∨ 2 < op then some ([], 31)
    else if 281474976710655 < mx sm dm then some ([], 4)
    else some (arpAcc op sm si dm di 2, 0)
  else none
theorem buildArp_calls (op sm si dm di : Int) (r1 : List Int) (r2 : Int) (w : World) (h : buildArpF op sm si dm di = some (r1, r2)) :
    Calls Try.prog 14 #[.agg #[.int .i64 op, .int .u64 sm, .int .u32 si, .int .u64 dm, .int .u32 di]] w fun e w' => ∃ v0_ : Value, e = .returned (.tuple #[v0_, .int .i64 r2]) ∧ Kd.R (Kd.int .u8) 5 w' w.heap.size (fun _ => True) v0_ r1 ∧ Below w.heap.size w w' := by
  unfold buildArpF at h
  by_cases hg : 0 ≤ sm ∧ 0 ≤ dm ∧ (0 ≤ si ∧ si < 4294967296) ∧ (0 ≤ di ∧ di < 4294967296)
  · rw [if_pos hg] at h
    obtain ⟨g1, g2, ⟨g3, g4⟩, g5, g6⟩ := hg
    by_cases h1 : op < 1 ∨ 2 < op
    · rw [if_pos h1] at h
      simp only [Option.some.injEq, Prod.mk.injEq] at h
      obtain ⟨rfl, rfl⟩ := h
      refine (buildArp_bad op sm si dm di 31 w (by omega)).mono ?_
      rintro e w' ⟨rfl, hB⟩
      exact ⟨_, rfl, Kd.R_nil _ _ _ _ _, hB⟩
    · rw [if_neg h1] at h
      by_cases h2 : 281474976710655 < mx sm dm
      · rw [if_pos h2] at h
        simp only [Option.some.injEq, Prod.mk.injEq] at h
        obtain ⟨rfl, rfl⟩ := h
        refine (buildArp_bad op sm si dm di 4 w (by omega)).mono ?_
        rintro e w' ⟨rfl, hB⟩
        exact ⟨_, rfl, Kd.R_nil _ _ _ _ _, hB⟩
      · rw [if_neg h2] at h
        simp only [Option.some.injEq, Prod.mk.injEq] at h
        obtain ⟨rfl, rfl⟩ := h
        have h3 : sm ≤ mx sm dm ∧ dm ≤ mx sm dm := by unfold mx; split <;> omega
        exact buildArp_ok op sm si dm di w (by omega) (by omega) g1 (by omega) g2 (by omega) g3 g4 g5 g6
  · rw [if_neg hg] at h
    exact absurd h (by simp)
end Go.Proofs.Ythfhljdegbcpmaa.Hand
