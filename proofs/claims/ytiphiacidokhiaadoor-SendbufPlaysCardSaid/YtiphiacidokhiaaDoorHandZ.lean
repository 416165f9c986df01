/- Chapter 15: Write of any buffer. -/
import Derived.Test.YtiphiacidokhiaaDoorHandY
namespace Go.Proofs.YtiphiacidokhiaaDoor.Hand
open Go.RowKit Go.Proofs.YtiphiacidokhiaaDoorW.PrintWords Go.Proofs.YtiphiacidokhiaaDoorW.PrintLast Go.Proofs.YtiphiacidokhiaaDoorW.PrintMore
set_option linter.unusedVariables false
set_option linter.unusedSimpArgs false
attribute [local go_sem] Oper.semAt_some min_two
/-- A row with 'xs' laid over it from 'p' on. -/
def lay (C : Array Value) (p : Nat) (xs : List Int) : Array Value := (C.toList.take p ++ nums .u8 xs ++ C.toList.drop (p + xs.length)).toArray
theorem hw0_ (fr n sz : Nat) (h: sz ≤ 1048576) (hf: fr < sz) (hn: n ≤ sz) : wrap64 ((fr:Int)+(n:Int)) = (fr:Int)+(n:Int) := by unfold wrap64; omega
theorem size_lay (C : Array Value) (p : Nat) (xs : List Int) (h : p + xs.length ≤ C.size) : (lay C p xs).size = C.size := by
  unfold lay nums; simp; try omega
theorem lay_nil (C : Array Value) (p : Nat) : lay C p [] = C := by
  unfold lay nums; simp
theorem copy_into (w : World) (R p : Nat) (C : Array Value) (hr : w.heap[R]? = some (.cells C 5 (0, 0))) (A : Option Addr) (k c : Nat) (D : List Int) (hd : ReadsInt w .u8 A k D) (dl dc : Nat) (hp : p + min k dl ≤ C.size) :
    ∃ w1, (∀ ty, (Builtin.copy_ #[31, 31] ty #[.slice (some ⟨R, p, none⟩) dl dc, .slice A k c]).run Tryd.prog w = .ok (.int .i64 ((min k dl : Nat) : Int)) w1) ∧ w1.heap[R]? = some (.cells (lay C p (D.take (min k dl))) 5 (0, 0)) ∧ (∀ b, b ≠ R → w1.heap[b]? = w.heap[b]?) ∧ ∀ n₀, n₀ ≤ R → Below n₀ w w1 := by
  have hi5 : (Tryd.prog.info? 5).map (·.size) = some 1 := by kernel_rfl
  by_cases h0 : min k dl = 0
  · refine ⟨w, fun ty => ?_, ?_, fun _ _ => rfl, fun n₀ _ => .refl _ _⟩
    · rw [h0]; exact run_copy_none (P := Tryd.prog) w 31 31 ty 5 _ _ dl dc k c Tryd.underlying31 hi5 h0
    · rw [h0]; simpa [lay_nil] using hr
  · obtain ⟨ad, rfl, hc⟩ := hd.2.2 (by omega)
    have hl : (nums .u8 (D.take (min k dl))).length = min k dl := by simp [nums, hd.1]
    have h := fun ty => run_copy_row (P := Tryd.prog) w 31 31 ty 5 R p dl dc ad k c C 5 (nums .u8 (D.take (min k dl))) Tryd.underlying31 hi5 hr hl (fun j v hv => by
      simp only [nums, List.getElem?_map, Option.map_eq_some_iff] at hv
      obtain ⟨x, hx, rfl⟩ := hv
      have hj : j < k := by
        have := (List.getElem?_eq_some_iff.1 hx).1; simp at this; omega
      rw [hc j hj]
      rw [List.getElem?_take] at hx
      split at hx
      · rw [List.getD_eq_getElem?_getD, hx]; rfl
      · cases hx) (by rw [hl]; exact hp) (fun v hv => by
      simp only [nums, List.mem_map] at hv; obtain ⟨x, _, rfl⟩ := hv; simp [Value.oneCell'])
    refine ⟨_, fun ty => (h ty).trans (by rw [hl]; rfl), ?_, fun b hb => setRow_other w R b _ hb, fun n₀ hn => below_setRow (.refl _ _) hn _⟩
    refine (setRow_heap w R _ _ 5 (0, 0) hr).trans ?_
    have e : (D.take (min k dl)).length = min k dl := by simp [hd.1]
    unfold lay; rw [e]
theorem reads_other {w w1 : World} {R : Nat} {A : Option Addr} {k : Nat} {D : List Int} (h : ReadsInt w .u8 A k D) (ho : ∀ b, b ≠ R → w1.heap[b]? = w.heap[b]?) (hA : ∀ ad, A = some ad → 0 < k → ad.block ≠ R) : ReadsInt w1 .u8 A k D := by
  refine ⟨h.1, h.2.1, fun hk => ?_⟩
  obtain ⟨ad, e, hc⟩ := h.2.2 hk
  refine ⟨ad, e, fun j hj => (World.cell?_of_block ?_).trans (hc j hj)⟩
  have hb : (ad.add j).block = ad.block := by unfold Addr.add; split <;> rfl
  rw [hb]; exact ho _ (hA ad e hk)
theorem reads_heap {w w1 : World} {A : Option Addr} {k : Nat} {D : List Int} (h : ReadsInt w .u8 A k D) (hh : w1.heap = w.heap) : ReadsInt w1 .u8 A k D := by
  refine ⟨h.1, h.2.1, fun hk => ?_⟩
  obtain ⟨ad, e, hc⟩ := h.2.2 hk
  exact ⟨ad, e, fun j hj => (World.cell?_of_block (by rw [hh])).trans (hc j hj)⟩
set_option maxHeartbeats 2000000 in
set_option maxRecDepth 100000 in
theorem write_full (g R sz : Nat) (fr n una : Int) (A : Option Addr) (m c : Nat) (hm : 0 < m) (hm2 : m ≤ 9223372036854775807) (hn : n = sz) (w : World) (hb : w.heap[g]? = some (.cells (c4 R sz fr n una) 59 (0, 0))) :
    Calls Tryd.prog 10 #[.pointer (some ⟨g, 0, none⟩), .slice A m c] w fun e w' => e = .returned (.tuple #[.int .i64 0, .int .i64 251]) ∧ Drawn0 w w' := by
  subst hn
  have h0 := (blk_cell hb 0).trans rfl
  have h2 := (blk_cell hb 2).trans rfl
  have HB := Aside0.mk hb
  clear hb
  go_enter Tryd.func10, Tryd.ntmps10
  go_wp2_with (go_at_call 31; refine (none_calls g R sz fr sz una w HB.out).mono ?_; rintro x w1 ⟨rfl, rfl⟩)
  go_quiet (fail)
  go_wp2
  go_ret2
  exact ⟨rfl, ⟨_, rfl⟩⟩
set_option maxHeartbeats 4000000 in
set_option maxRecDepth 100000 in
theorem write_calls' (g R sz fr n : Nat) (una : Int) (C : Array Value) (A : Option Addr) (m c : Nat) (D : List Int) (hs : 1 ≤ sz ∧ sz ≤ 1048576) (hf : fr < sz) (hn : n ≤ sz) (hmc : m ≤ c) (hm : m ≤ 9223372036854775807) (hok : m = 0 ∨ 0 < m ∧ n ≠ sz) (hC : C.size = sz) (hgR : g ≠ R) (hA : ∀ ad, A = some ad → 0 < m → ad.block ≠ R) (w : World)
    (hb : w.heap[g]? = some (.cells (c4 R sz fr n una) 59 (0, 0))) (hr : w.heap[R]? = some (.cells C 5 (0, 0))) (hd : ReadsInt w .u8 A m D) :
    Calls Tryd.prog 10 #[.pointer (some ⟨g, 0, none⟩), .slice A m c] w fun e w' => e = .returned (.tuple #[.int .i64 ((min m (sz - n) : Nat) : Int), .int .i64 0]) ∧ w'.heap[g]? = some (.cells (c4 R sz fr ((n + min m (sz - n) : Nat) : Int) una) 59 (0, 0)) ∧
      w'.heap[R]? = some (.cells (lay (lay C ((fr + n) % sz) ((D.take (min m (sz - n))).take (min (min m (sz - n)) (sz - (fr + n) % sz)))) 0 ((D.take (min m (sz - n))).drop (min (min m (sz - n)) (sz - (fr + n) % sz)))) 5 (0, 0)) ∧ (∀ n₀, n₀ ≤ g → n₀ ≤ R → Below n₀ w w') ∧ ∀ b, b ≠ g → b ≠ R → w'.heap[b]? = w.heap[b]? := by
  have h0 := (blk_cell hb 0).trans rfl
  have h1 := (blk_cell hb 1).trans rfl
  have h2 := (blk_cell hb 2).trans rfl
  have HB := Aside0.mk hb
  have HR := Aside0.mk hr
  have HD := Aside0.mk hd
  have HA := Aside0.mk hA
  have HS := Aside0.mk hs
  have HC := Aside0.mk hC
  obtain ⟨k, hk⟩ : ∃ k : Nat, k = min m (sz - n) := ⟨_, rfl⟩
  have hkm : k ≤ m := by omega
  obtain ⟨p, hp⟩ : ∃ p : Nat, p = (fr + n) % sz := ⟨_, rfl⟩
  have hps : p < sz := by rw [hp]; exact Nat.mod_lt _ (by omega)
  obtain ⟨k1, hk1⟩ : ∃ k1 : Nat, k1 = min k (sz - p) := ⟨_, rfl⟩
  rw [← hk, ← hp, ← hk1]
  have hmn : Builtin.min2 (.int .i64 (m : Int)) (.int .i64 ((sz : Int) - (n : Int))) = pure (.int .i64 (k : Int)) := by
    rw [min2_int]
    congr 2
    split <;> omega
  have hmod : Int.tmod ((fr : Int) + (n : Int)) (sz : Int) = (p : Int) := by
    rw [hp, Int.tmod_eq_emod_of_nonneg (by omega)]; simp
  have HW : Aside0 (wrap64 ((fr : Int) + (n : Int)) = (fr : Int) + (n : Int)) := ⟨hw0_ fr n sz hs.2 hf hn⟩
  have hz0 : ¬ sz = 0 := by omega
  have hpl : p ≤ sz := by omega
  have hpn : ¬ sz = p := by omega
  have HP := Aside0.mk (And.intro hk (And.intro hp hk1))
  have hz1 : (1 : Int) ≤ sz := by omega
  have hz2 : (sz : Int) ≤ 1048576 := by omega
  have hs2 : k ≤ sz - n := by omega
  have hnk : (n : Int) + (k : Int) ≤ sz := by omega
  have hm' : (m : Int) ≤ 9223372036854775807 := by omega
  have hn' : (n : Int) ≤ sz := by omega
  have hf' : (fr : Int) < sz := by omega
  clear hb hr hd hA hs hC hk hp hk1
  rcases hok with rfl | ⟨hok, hok2⟩
  · go_enter Tryd.func10, Tryd.ntmps10
    go_wp2_with (go_at_call 31; refine (none_calls g R sz fr n una w HB.out).mono ?_; rintro x w1 ⟨rfl, rfl⟩)
    go_quiet (fail)
    go_wp2
    obtain rfl : k = 0 := by omega
    obtain rfl : k1 = 0 := by have := HP.out.2.2; omega
    have hmn0 : Builtin.min2 (.int .i64 0) (.int .i64 ((sz : Int) - (n : Int))) = pure (.int .i64 0) := hmn
    clear hmn hm'
    go_quiet (fail)
    go_wp2
    refine start_ (n := 23) (S := fun w' => w'.cell? ⟨g, 0, none⟩ = some (.slice (some ⟨R, 0, none⟩) sz sz) ∧ w'.cell? ⟨g, 1, none⟩ = some (.int .i64 fr) ∧ w'.cell? ⟨g, 2, none⟩ = some (.int .i64 n)) (ds := [21]) (bs 23 0) (by kernel_rfl) rfl rfl ⟨(blk_cell HB.out 0).trans rfl, (blk_cell HB.out 1).trans rfl, (blk_cell HB.out 2).trans rfl⟩ (fun hHeld => ?_)
    generalize hwd : World.drew _ = wd at hHeld ⊢
    have hh : wd.heap = w.heap := by rw [← hwd]; rfl
    have BW : Aside0 (∀ n₀, Below n₀ w wd) := ⟨fun n₀ => by rw [← hwd]; exact ⟨rfl, rfl, rfl, Nat.le_refl _, fun _ _ => rfl⟩⟩
    clear hwd h0 h1 h2
    have hbd : wd.heap[g]? = some (.cells (c4 R sz fr n una) 59 (0, 0)) := by rw [hh]; exact HB.out
    have hrd : wd.heap[R]? = some (.cells C 5 (0, 0)) := by rw [hh]; exact HR.out
    have hdd : ReadsInt wd .u8 A 0 (D.take 0) := (reads_heap HD.out hh).take_ 0 (by omega)
    obtain ⟨w1, hcp, hr1, ho1, hB1⟩ := copy_into wd R p C hrd A 0 c (D.take 0) hdd (sz - p) (sz - p) (by rw [HC.out]; omega)
    have BW1 : Aside0 (∀ n₀, n₀ ≤ R → Below n₀ w w1) := ⟨fun n₀ h => (BW.out n₀).trans (hB1 n₀ h)⟩
    have HB1 := Aside0.mk ((ho1 g hgR).trans hbd)
    have HR1 := Aside0.mk hr1
    have HD1 := Aside0.mk (reads_other hdd ho1 (fun ad e h => HA.out ad e (by omega)))
    have HO1 : Aside0 (∀ b, b ≠ R → w1.heap[b]? = w.heap[b]?) := ⟨fun b hb => (ho1 b hb).trans (by rw [hh])⟩
    clear hbd hrd hdd hr1 ho1 hB1
    rw [← HP.out.2.2] at hcp HR1
    have hw0 := HW.out
    refine pure_ (i := 0) (N := some 39) (v := ?_) (a' := ?_) (bs 23 1) rfl rfl (by kernel_rfl) (fun _ _ _ h => h) (Or.inl ⟨by rfl, ?_⟩) ?_ ?_; rotate_left; (intro w'; go_simp; with_reducible rfl); rotate_left; (simp only [Act.put, q1_, q2_, q3_, i64_w, i32_w]; rfl)
    refine pure_ (i := 1) (N := some 40) (v := ?_) (a' := ?_) (bs 23 3) rfl rfl (by kernel_rfl) (fun _ _ _ h => h) (Or.inl ⟨by rfl, ?_⟩) ?_ ?_; rotate_left; (intro w'; go_simp; with_reducible rfl); rotate_left; (simp only [Act.put, q1_, q2_, q3_, i64_w, i32_w]; rfl)
    refine pure_ (i := 2) (N := some 41) (v := ?_) (a' := ?_) (bs 23 7) rfl rfl (by kernel_rfl) (fun _ _ _ h => h) (Or.inl ⟨by rfl, ?_⟩) ?_ ?_; rotate_left; (intro w'; go_simp; with_reducible rfl); rotate_left; (simp only [Act.put, q1_, q2_, q3_, i64_w, i32_w]; rfl)
    refine pure_ (i := 4) (N := some 43) (v := ?_) (a' := ?_) (bs 23 23) rfl rfl (by kernel_rfl) (fun _ _ _ h => h) (Or.inl ⟨by rfl, ?_⟩) ?_ ?_; rotate_left; (intro w'; go_simp; with_reducible rfl); rotate_left; (simp only [Act.put, q1_, q2_, q3_, i64_w, i32_w]; rfl)
    refine pure_ (i := 5) (N := some 44) (v := ?_) (a' := ?_) (bs 23 55) rfl rfl (by kernel_rfl) (fun _ _ _ h => h) (Or.inl ⟨by rfl, ?_⟩) ?_ ?_; rotate_left; (intro w'; go_simp; with_reducible rfl); rotate_left; (simp only [Act.put, q1_, q2_, q3_, i64_w, i32_w]; rfl)
    refine pure_ (i := 6) (N := some 45) (v := ?_) (a' := ?_) (bs 23 119) rfl rfl (by kernel_rfl) (fun _ _ _ h => h) (Or.inl ⟨by rfl, ?_⟩) ?_ ?_; rotate_left; (intro w'; go_simp; with_reducible rfl); rotate_left; (simp only [Act.put, q1_, q2_, q3_, i64_w, i32_w]; rfl)
    refine pure_ (i := 8) (N := some 47) (v := ?_) (a' := ?_) (bs 23 375) rfl rfl (by kernel_rfl) (fun _ _ _ h => h) (Or.inl ⟨by rfl, ?_⟩) ?_ ?_; rotate_left; (intro w'; go_simp; with_reducible rfl); rotate_left; (simp only [Act.put, q1_, q2_, q3_, i64_w, i32_w]; rfl)
    refine pure_ (i := 9) (N := some 48) (v := ?_) (a' := ?_) (bs 23 887) rfl rfl (by kernel_rfl) (fun _ _ _ h => h) (Or.inl ⟨by rfl, ?_⟩) ?_ ?_; rotate_left; (intro w'; go_simp; with_reducible rfl); rotate_left; (simp only [Act.put, q1_, q2_, q3_, i64_w, i32_w]; rfl)
    refine pure_ (i := 10) (N := some 49) (v := ?_) (a' := ?_) (bs 23 1911) rfl rfl (by kernel_rfl) (fun _ _ _ h => h) (Or.inl ⟨by rfl, ?_⟩) ?_ ?_; rotate_left; (intro w'; go_simp; with_reducible rfl); rotate_left; (simp only [Act.put, q1_, q2_, q3_, i64_w, i32_w]; rfl)
    refine pure_ (i := 13) (N := some 52) (v := ?_) (a' := ?_) (bs 23 10103) rfl rfl (by kernel_rfl) (fun _ _ _ h => h) (Or.inl ⟨by rfl, ?_⟩) ?_ ?_; rotate_left; (intro w'; go_simp; with_reducible rfl); rotate_left; (simp only [Act.put, q1_, q2_, q3_, i64_w, i32_w]; rfl)
    refine pure_ (i := 14) (N := some 53) (v := ?_) (a' := ?_) (bs 23 26487) rfl rfl (by kernel_rfl) (fun _ _ _ h => h) (Or.inl ⟨by rfl, ?_⟩) ?_ ?_; rotate_left; (intro w'; go_simp; with_reducible rfl); rotate_left; (simp only [Act.put, q1_, q2_, q3_, i64_w, i32_w]; rfl)
    refine pure_ (i := 15) (N := some 54) (v := ?_) (a' := ?_) (bs 23 59255) rfl rfl (by kernel_rfl) (fun _ _ _ h => h) (Or.inl ⟨by rfl, ?_⟩) ?_ ?_; rotate_left; (intro w'; go_simp; with_reducible rfl); rotate_left; (simp only [Act.put, q1_, q2_, q3_, i64_w, i32_w]; rfl)
    refine pure_ (i := 20) (N := some 59) (v := ?_) (a' := ?_) (bs 23 1107831) rfl rfl (by kernel_rfl) (fun _ _ _ h => h) (Or.inl ⟨by rfl, ?_⟩) ?_ ?_; rotate_left; (intro w'; go_simp; with_reducible rfl); rotate_left; (simp only [Act.put, q1_, q2_, q3_, i64_w, i32_w]; rfl)
    refine take_ (i := 3) (N := some 42) (v := ?_) (a' := ?_) (bs 23 1107839) rfl rfl (by kernel_rfl) (fun _ _ _ h => h) (Or.inl ⟨by rfl, ?_⟩) hHeld ?_ ?_; rotate_left; (rintro w' ⟨s0, s1, s2⟩; go_simp; with_reducible rfl); rotate_left; (simp only [Act.put, q1_, q2_, q3_, i64_w, i32_w]; rfl)
    refine take_ (i := 7) (N := some 46) (v := ?_) (a' := ?_) (bs 23 1107967) rfl rfl (by kernel_rfl) (fun _ _ _ h => h) (Or.inl ⟨by rfl, ?_⟩) hHeld ?_ ?_; rotate_left; (rintro w' ⟨s0, s1, s2⟩; go_simp; with_reducible rfl); rotate_left; (simp only [Act.put, q1_, q2_, q3_, i64_w, i32_w]; rfl)
    refine take_ (i := 11) (N := some 50) (v := ?_) (a' := ?_) (bs 23 1110015) rfl rfl (by kernel_rfl) (fun _ _ _ h => h) (Or.inl ⟨by rfl, ?_⟩) hHeld ?_ ?_; rotate_left; (rintro w' ⟨s0, s1, s2⟩; go_simp; with_reducible rfl); rotate_left; (simp only [Act.put, q1_, q2_, q3_, i64_w, i32_w]; rfl)
    refine pure_ (i := 12) (N := some 51) (v := ?_) (a' := ?_) (bs 23 1114111) rfl rfl (by kernel_rfl) (fun _ _ _ h => h) (Or.inl ⟨by rfl, ?_⟩) ?_ ?_; rotate_left; (intro w'; go_simp; with_reducible rfl); rotate_left; (simp only [Act.put, q1_, q2_, q3_, i64_w, i32_w]; rfl)
    refine take_ (i := 16) (N := some 55) (v := ?_) (a' := ?_) (bs 23 1179647) rfl rfl (by kernel_rfl) (fun _ _ _ h => h) (Or.inl ⟨by rfl, ?_⟩) hHeld ?_ ?_; rotate_left; (rintro w' ⟨s0, s1, s2⟩; go_simp; with_reducible rfl); rotate_left; (simp only [Act.put, q1_, q2_, q3_, i64_w, i32_w]; rfl)
    refine pure_ (i := 17) (N := some 56) (v := ?_) (a' := ?_) (bs 23 1310719) rfl rfl (by kernel_rfl) (fun _ _ _ h => h) (Or.inl ⟨by rfl, ?_⟩) ?_ ?_; rotate_left; (intro w'; go_simp; with_reducible rfl); rotate_left; (simp only [Act.put, q1_, q2_, q3_, i64_w, i32_w]; rfl)
    refine pure_ (i := 18) (N := some 57) (v := ?_) (a' := ?_) (bs 23 1572863) rfl rfl (by kernel_rfl) (fun _ _ _ h => h) (Or.inl ⟨by rfl, ?_⟩) ?_ ?_; rotate_left; (intro w'; go_simp; with_reducible rfl); rotate_left; (simp only [Act.put, q1_, q2_, q3_, i64_w, i32_w]; rfl)
    refine pure_ (i := 19) (N := some 58) (v := ?_) (a' := ?_) (bs 23 2097151) rfl rfl (by kernel_rfl) (fun _ _ _ h => h) (Or.inl ⟨by rfl, ?_⟩) ?_ ?_; rotate_left; (intro w'; go_simp; with_reducible rfl); rotate_left; (simp only [Act.put, q1_, q2_, q3_, i64_w, i32_w]; rfl)
    refine last_ (i := 21) (N := some 60) (bs 23 4194303) rfl rfl (by kernel_rfl) (by decide) (fun K hK => ?_)
    refine value_ (w1 := ?_) (v := ?_) (by rfl) rfl ?_ ?_; rotate_left 2; (go_simp; constructor; rfl; rfl); refine hK.out _ _ ?_; clear hK K
    refine norm_ (a' := ?_) ?_ ?_; rotate_left; (show Act.put _ (some 60) _ = _; simp only [Act.put, q1_, q2_, q3_, i64_w, i32_w]; rfl)
    refine pure_ (i := 22) (N := some 6) (v := ?_) (a' := ?_) (bs 23 8388607) rfl rfl (by kernel_rfl) (fun _ _ _ h => h) (Or.inl ⟨by rfl, ?_⟩) ?_ ?_; rotate_left; (intro w'; go_simp; with_reducible rfl); rotate_left; (simp only [Act.put, q1_, q2_, q3_, i64_w, i32_w]; rfl)
    refine done_ (by kernel_rfl) ?_
    clear hcp hHeld hw0
    have h0k : 0 ≤ 0 := by have := HP.out.2.2; omega
    have hd2 := ReadsInt.drop_ HD1.out 0 h0k (by omega : 0 ≤ c)
    generalize hA2 : (if c = 0 then A else A.map (·.add 0)) = A2 at hd2 ⊢
    go_wp2
    refine start_ (n := 8) (S := fun w' => w'.cell? ⟨g, 0, none⟩ = some (.slice (some ⟨R, 0, none⟩) sz sz) ∧ w'.cell? ⟨g, 1, none⟩ = some (.int .i64 fr) ∧ w'.cell? ⟨g, 2, none⟩ = some (.int .i64 n)) (ds := [7]) (bs 8 0) (by kernel_rfl) rfl rfl ⟨(blk_cell HB1.out 0).trans rfl, (blk_cell HB1.out 1).trans rfl, (blk_cell HB1.out 2).trans rfl⟩ (fun hHeld => ?_)
    generalize hwd : World.drew _ = we at hHeld ⊢
    have hh2 : we.heap = w1.heap := by rw [← hwd]; rfl
    have BW8 : Aside0 (∀ n₀, n₀ ≤ R → Below n₀ w we) := ⟨fun n₀ h => by rw [← hwd]; exact below_drew1 (BW1.out n₀ h)⟩
    clear hwd BW1 BW hh
    have hb8 : we.heap[g]? = some (.cells (c4 R sz fr n una) 59 (0, 0)) := by rw [hh2]; exact HB1.out
    have hr8 := (congrArg (fun H => H[R]?) hh2).trans HR1.out
    have hd8 := reads_other (R := R) hd2 (fun b _ => congrArg (fun H => H[b]?) hh2) (by rw [← hA2]; intro ad e h; split at e; exact HA.out ad e (by omega); simp only [Option.map_eq_some_iff] at e; obtain ⟨a1, e1, rfl⟩ := e; have := HA.out a1 e1 (by omega); intro hb; apply this; rw [← hb]; unfold Addr.add; split <;> rfl)
    obtain ⟨w2, hcp, hr2, ho2, hB2⟩ := copy_into we R 0 _ hr8 A2 (0 - 0) (c - 0) _ hd8 sz sz (by rw [size_lay _ _ _ (by have := HC.out; have := HP.out.2.2; simp; omega), HC.out]; omega)
    subst hA2
    rw [show min (0 - 0) sz = 0 - 0 from by have := hs2; omega] at hcp hr2
    have e0 : (if c = 0 then A else A.map (·.add 0)) = A := by
      split
      · rfl
      · cases A with
        | none => rfl
        | some x => show some (x.add 0) = some x; rw [show x.add 0 = x by simp [Addr.add]]
    rw [e0] at hcp
    simp only [Nat.sub_zero] at hcp
    have HB9 := Aside0.mk ((ho2 g hgR).trans hb8)
    have HR9 := Aside0.mk hr2
    have HO9 : Aside0 (∀ b, b ≠ R → w2.heap[b]? = w.heap[b]?) := ⟨fun b hb => (ho2 b hb).trans ((congrArg (fun H => H[b]?) hh2).trans (HO1.out b hb))⟩
    have BW9 : Aside0 (∀ n₀, n₀ ≤ R → Below n₀ w w2) := ⟨fun n₀ h => (BW8.out n₀ h).trans (hB2 n₀ h)⟩
    clear hb8 hr8 hd8 hr2 ho2 hB2 hd2 BW8 hh2 HB1 HR1 HO1 HD1
    refine pure_ (i := 0) (N := some 61) (v := ?_) (a' := ?_) (bs 8 1) rfl rfl (by kernel_rfl) (fun _ _ _ h => h) (Or.inl ⟨by rfl, ?_⟩) ?_ ?_; rotate_left; (intro w'; go_simp; with_reducible rfl); rotate_left; (simp only [Act.put, q1_, q2_, q3_, i64_w, i32_w]; rfl)
    refine pure_ (i := 1) (N := some 62) (v := ?_) (a' := ?_) (bs 8 3) rfl rfl (by kernel_rfl) (fun _ _ _ h => h) (Or.inl ⟨by rfl, ?_⟩) ?_ ?_; rotate_left; (intro w'; go_simp; with_reducible rfl); rotate_left; (simp only [Act.put, q1_, q2_, q3_, i64_w, i32_w]; rfl)
    refine pure_ (i := 2) (N := some 63) (v := ?_) (a' := ?_) (bs 8 7) rfl rfl (by kernel_rfl) (fun _ _ _ h => h) (Or.inl ⟨by rfl, ?_⟩) ?_ ?_; rotate_left; (intro w'; go_simp; with_reducible rfl); rotate_left; (simp only [Act.put, q1_, q2_, q3_, i64_w, i32_w]; rfl)
    refine pure_ (i := 4) (N := some 65) (v := ?_) (a' := ?_) (bs 8 23) rfl rfl (by kernel_rfl) (fun _ _ _ h => h) (Or.inl ⟨by rfl, ?_⟩) ?_ ?_; rotate_left; (intro w'; go_simp; with_reducible rfl); rotate_left; (simp only [Act.put, q1_, q2_, q3_, i64_w, i32_w]; rfl)
    refine pure_ (i := 5) (N := some 66) (v := ?_) (a' := ?_) (bs 8 55) rfl rfl (by kernel_rfl) (fun _ _ _ h => h) (Or.inl ⟨by rfl, ?_⟩) ?_ ?_; rotate_left; (intro w'; go_simp; with_reducible rfl); rotate_left; (simp only [Act.put, q1_, q2_, q3_, i64_w, i32_w]; rfl)
    refine pure_ (i := 6) (N := some 67) (v := ?_) (a' := ?_) (bs 8 119) rfl rfl (by kernel_rfl) (fun _ _ _ h => h) (Or.inl ⟨by rfl, ?_⟩) ?_ ?_; rotate_left; (intro w'; go_simp; with_reducible rfl); rotate_left; (simp only [Act.put, q1_, q2_, q3_, i64_w, i32_w]; rfl)
    refine take_ (i := 3) (N := some 64) (v := ?_) (a' := ?_) (bs 8 127) rfl rfl (by kernel_rfl) (fun _ _ _ h => h) (Or.inl ⟨by rfl, ?_⟩) hHeld ?_ ?_; rotate_left; (rintro w' ⟨s0, s1, s2⟩; go_simp; with_reducible rfl); rotate_left; (simp only [Act.put, q1_, q2_, q3_, i64_w, i32_w]; rfl)
    refine last_ (i := 7) (N := some 68) (bs 8 255) rfl rfl (by kernel_rfl) (by decide) (fun K hK => ?_)
    refine value_ (w1 := ?_) (v := ?_) (by rfl) rfl ?_ ?_; rotate_left 2; (go_simp; constructor; rfl; rfl); refine hK.out _ _ ?_; clear hK K
    refine norm_ (a' := ?_) ?_ ?_; rotate_left; (show Act.put _ (some 68) _ = _; simp only [Act.put, q1_, q2_, q3_, i64_w, i32_w]; rfl)
    refine done_ (by kernel_rfl) ?_
    clear hcp hHeld
    have c2' := (blk_cell HB9.out 2).trans rfl
    have f2' := blk_frozen HB9.out 2
    go_wp2
    all_goals
      go_ret2
      refine ⟨rfl, blk_put HB9.out 2 (.int .i64 _) rfl, ?_, fun n₀ h1 h2 => (BW9.out n₀ h2).setCell (p := ⟨g, 2, none⟩) h1 _, fun b h1 h2 => (Below.heap_setCell w2 ⟨g, 2, none⟩ _ b (fun e => h1 e)).trans (HO9.out b h2)⟩
      refine (blk_far HR9.out (p := ⟨g, 2, none⟩) (fun e => hgR e.symm) _).trans ?_
      rw [List.take_of_length_le (l := (D.take 0).drop 0) (by simp; try omega)]
  · go_enter Tryd.func10, Tryd.ntmps10
    go_wp2_with (go_at_call 31; refine (none_calls g R sz fr n una w HB.out).mono ?_; rintro x w1 ⟨rfl, rfl⟩)
    go_quiet (fail)
    go_wp2
    go_quiet (fail)
    go_wp2
    refine start_ (n := 23) (S := fun w' => w'.cell? ⟨g, 0, none⟩ = some (.slice (some ⟨R, 0, none⟩) sz sz) ∧ w'.cell? ⟨g, 1, none⟩ = some (.int .i64 fr) ∧ w'.cell? ⟨g, 2, none⟩ = some (.int .i64 n)) (ds := [21]) (bs 23 0) (by kernel_rfl) rfl rfl ⟨(blk_cell HB.out 0).trans rfl, (blk_cell HB.out 1).trans rfl, (blk_cell HB.out 2).trans rfl⟩ (fun hHeld => ?_)
    generalize hwd : World.drew _ = wd at hHeld ⊢
    have hh : wd.heap = w.heap := by rw [← hwd]; rfl
    have BW : Aside0 (∀ n₀, Below n₀ w wd) := ⟨fun n₀ => by rw [← hwd]; exact ⟨rfl, rfl, rfl, Nat.le_refl _, fun _ _ => rfl⟩⟩
    clear hwd h0 h1 h2
    have hbd : wd.heap[g]? = some (.cells (c4 R sz fr n una) 59 (0, 0)) := by rw [hh]; exact HB.out
    have hrd : wd.heap[R]? = some (.cells C 5 (0, 0)) := by rw [hh]; exact HR.out
    have hdd : ReadsInt wd .u8 A k (D.take k) := (reads_heap HD.out hh).take_ k (by omega)
    obtain ⟨w1, hcp, hr1, ho1, hB1⟩ := copy_into wd R p C hrd A k c (D.take k) hdd (sz - p) (sz - p) (by rw [HC.out]; omega)
    have BW1 : Aside0 (∀ n₀, n₀ ≤ R → Below n₀ w w1) := ⟨fun n₀ h => (BW.out n₀).trans (hB1 n₀ h)⟩
    have HB1 := Aside0.mk ((ho1 g hgR).trans hbd)
    have HR1 := Aside0.mk hr1
    have HD1 := Aside0.mk (reads_other hdd ho1 (fun ad e h => HA.out ad e (by omega)))
    have HO1 : Aside0 (∀ b, b ≠ R → w1.heap[b]? = w.heap[b]?) := ⟨fun b hb => (ho1 b hb).trans (by rw [hh])⟩
    clear hbd hrd hdd hr1 ho1 hB1
    rw [← HP.out.2.2] at hcp HR1
    have hw0 := HW.out
    refine pure_ (i := 0) (N := some 39) (v := ?_) (a' := ?_) (bs 23 1) rfl rfl (by kernel_rfl) (fun _ _ _ h => h) (Or.inl ⟨by rfl, ?_⟩) ?_ ?_; rotate_left; (intro w'; go_simp; with_reducible rfl); rotate_left; (simp only [Act.put, q1_, q2_, q3_, i64_w, i32_w]; rfl)
    refine pure_ (i := 1) (N := some 40) (v := ?_) (a' := ?_) (bs 23 3) rfl rfl (by kernel_rfl) (fun _ _ _ h => h) (Or.inl ⟨by rfl, ?_⟩) ?_ ?_; rotate_left; (intro w'; go_simp; with_reducible rfl); rotate_left; (simp only [Act.put, q1_, q2_, q3_, i64_w, i32_w]; rfl)
    refine pure_ (i := 2) (N := some 41) (v := ?_) (a' := ?_) (bs 23 7) rfl rfl (by kernel_rfl) (fun _ _ _ h => h) (Or.inl ⟨by rfl, ?_⟩) ?_ ?_; rotate_left; (intro w'; go_simp; with_reducible rfl); rotate_left; (simp only [Act.put, q1_, q2_, q3_, i64_w, i32_w]; rfl)
    refine pure_ (i := 4) (N := some 43) (v := ?_) (a' := ?_) (bs 23 23) rfl rfl (by kernel_rfl) (fun _ _ _ h => h) (Or.inl ⟨by rfl, ?_⟩) ?_ ?_; rotate_left; (intro w'; go_simp; with_reducible rfl); rotate_left; (simp only [Act.put, q1_, q2_, q3_, i64_w, i32_w]; rfl)
    refine pure_ (i := 5) (N := some 44) (v := ?_) (a' := ?_) (bs 23 55) rfl rfl (by kernel_rfl) (fun _ _ _ h => h) (Or.inl ⟨by rfl, ?_⟩) ?_ ?_; rotate_left; (intro w'; go_simp; with_reducible rfl); rotate_left; (simp only [Act.put, q1_, q2_, q3_, i64_w, i32_w]; rfl)
    refine pure_ (i := 6) (N := some 45) (v := ?_) (a' := ?_) (bs 23 119) rfl rfl (by kernel_rfl) (fun _ _ _ h => h) (Or.inl ⟨by rfl, ?_⟩) ?_ ?_; rotate_left; (intro w'; go_simp; with_reducible rfl); rotate_left; (simp only [Act.put, q1_, q2_, q3_, i64_w, i32_w]; rfl)
    refine pure_ (i := 8) (N := some 47) (v := ?_) (a' := ?_) (bs 23 375) rfl rfl (by kernel_rfl) (fun _ _ _ h => h) (Or.inl ⟨by rfl, ?_⟩) ?_ ?_; rotate_left; (intro w'; go_simp; with_reducible rfl); rotate_left; (simp only [Act.put, q1_, q2_, q3_, i64_w, i32_w]; rfl)
    refine pure_ (i := 9) (N := some 48) (v := ?_) (a' := ?_) (bs 23 887) rfl rfl (by kernel_rfl) (fun _ _ _ h => h) (Or.inl ⟨by rfl, ?_⟩) ?_ ?_; rotate_left; (intro w'; go_simp; with_reducible rfl); rotate_left; (simp only [Act.put, q1_, q2_, q3_, i64_w, i32_w]; rfl)
    refine pure_ (i := 10) (N := some 49) (v := ?_) (a' := ?_) (bs 23 1911) rfl rfl (by kernel_rfl) (fun _ _ _ h => h) (Or.inl ⟨by rfl, ?_⟩) ?_ ?_; rotate_left; (intro w'; go_simp; with_reducible rfl); rotate_left; (simp only [Act.put, q1_, q2_, q3_, i64_w, i32_w]; rfl)
    refine pure_ (i := 13) (N := some 52) (v := ?_) (a' := ?_) (bs 23 10103) rfl rfl (by kernel_rfl) (fun _ _ _ h => h) (Or.inl ⟨by rfl, ?_⟩) ?_ ?_; rotate_left; (intro w'; go_simp; with_reducible rfl); rotate_left; (simp only [Act.put, q1_, q2_, q3_, i64_w, i32_w]; rfl)
    refine pure_ (i := 14) (N := some 53) (v := ?_) (a' := ?_) (bs 23 26487) rfl rfl (by kernel_rfl) (fun _ _ _ h => h) (Or.inl ⟨by rfl, ?_⟩) ?_ ?_; rotate_left; (intro w'; go_simp; with_reducible rfl); rotate_left; (simp only [Act.put, q1_, q2_, q3_, i64_w, i32_w]; rfl)
    refine pure_ (i := 15) (N := some 54) (v := ?_) (a' := ?_) (bs 23 59255) rfl rfl (by kernel_rfl) (fun _ _ _ h => h) (Or.inl ⟨by rfl, ?_⟩) ?_ ?_; rotate_left; (intro w'; go_simp; with_reducible rfl); rotate_left; (simp only [Act.put, q1_, q2_, q3_, i64_w, i32_w]; rfl)
    refine pure_ (i := 20) (N := some 59) (v := ?_) (a' := ?_) (bs 23 1107831) rfl rfl (by kernel_rfl) (fun _ _ _ h => h) (Or.inl ⟨by rfl, ?_⟩) ?_ ?_; rotate_left; (intro w'; go_simp; with_reducible rfl); rotate_left; (simp only [Act.put, q1_, q2_, q3_, i64_w, i32_w]; rfl)
    refine take_ (i := 3) (N := some 42) (v := ?_) (a' := ?_) (bs 23 1107839) rfl rfl (by kernel_rfl) (fun _ _ _ h => h) (Or.inl ⟨by rfl, ?_⟩) hHeld ?_ ?_; rotate_left; (rintro w' ⟨s0, s1, s2⟩; go_simp; with_reducible rfl); rotate_left; (simp only [Act.put, q1_, q2_, q3_, i64_w, i32_w]; rfl)
    refine take_ (i := 7) (N := some 46) (v := ?_) (a' := ?_) (bs 23 1107967) rfl rfl (by kernel_rfl) (fun _ _ _ h => h) (Or.inl ⟨by rfl, ?_⟩) hHeld ?_ ?_; rotate_left; (rintro w' ⟨s0, s1, s2⟩; go_simp; with_reducible rfl); rotate_left; (simp only [Act.put, q1_, q2_, q3_, i64_w, i32_w]; rfl)
    refine take_ (i := 11) (N := some 50) (v := ?_) (a' := ?_) (bs 23 1110015) rfl rfl (by kernel_rfl) (fun _ _ _ h => h) (Or.inl ⟨by rfl, ?_⟩) hHeld ?_ ?_; rotate_left; (rintro w' ⟨s0, s1, s2⟩; go_simp; with_reducible rfl); rotate_left; (simp only [Act.put, q1_, q2_, q3_, i64_w, i32_w]; rfl)
    refine pure_ (i := 12) (N := some 51) (v := ?_) (a' := ?_) (bs 23 1114111) rfl rfl (by kernel_rfl) (fun _ _ _ h => h) (Or.inl ⟨by rfl, ?_⟩) ?_ ?_; rotate_left; (intro w'; go_simp; with_reducible rfl); rotate_left; (simp only [Act.put, q1_, q2_, q3_, i64_w, i32_w]; rfl)
    refine take_ (i := 16) (N := some 55) (v := ?_) (a' := ?_) (bs 23 1179647) rfl rfl (by kernel_rfl) (fun _ _ _ h => h) (Or.inl ⟨by rfl, ?_⟩) hHeld ?_ ?_; rotate_left; (rintro w' ⟨s0, s1, s2⟩; go_simp; with_reducible rfl); rotate_left; (simp only [Act.put, q1_, q2_, q3_, i64_w, i32_w]; rfl)
    refine pure_ (i := 17) (N := some 56) (v := ?_) (a' := ?_) (bs 23 1310719) rfl rfl (by kernel_rfl) (fun _ _ _ h => h) (Or.inl ⟨by rfl, ?_⟩) ?_ ?_; rotate_left; (intro w'; go_simp; with_reducible rfl); rotate_left; (simp only [Act.put, q1_, q2_, q3_, i64_w, i32_w]; rfl)
    refine pure_ (i := 18) (N := some 57) (v := ?_) (a' := ?_) (bs 23 1572863) rfl rfl (by kernel_rfl) (fun _ _ _ h => h) (Or.inl ⟨by rfl, ?_⟩) ?_ ?_; rotate_left; (intro w'; go_simp; with_reducible rfl); rotate_left; (simp only [Act.put, q1_, q2_, q3_, i64_w, i32_w]; rfl)
    refine pure_ (i := 19) (N := some 58) (v := ?_) (a' := ?_) (bs 23 2097151) rfl rfl (by kernel_rfl) (fun _ _ _ h => h) (Or.inl ⟨by rfl, ?_⟩) ?_ ?_; rotate_left; (intro w'; go_simp; with_reducible rfl); rotate_left; (simp only [Act.put, q1_, q2_, q3_, i64_w, i32_w]; rfl)
    refine last_ (i := 21) (N := some 60) (bs 23 4194303) rfl rfl (by kernel_rfl) (by decide) (fun K hK => ?_)
    refine value_ (w1 := ?_) (v := ?_) (by rfl) rfl ?_ ?_; rotate_left 2; (go_simp; constructor; rfl; rfl); refine hK.out _ _ ?_; clear hK K
    refine norm_ (a' := ?_) ?_ ?_; rotate_left; (show Act.put _ (some 60) _ = _; simp only [Act.put, q1_, q2_, q3_, i64_w, i32_w]; rfl)
    refine pure_ (i := 22) (N := some 6) (v := ?_) (a' := ?_) (bs 23 8388607) rfl rfl (by kernel_rfl) (fun _ _ _ h => h) (Or.inl ⟨by rfl, ?_⟩) ?_ ?_; rotate_left; (intro w'; go_simp; with_reducible rfl); rotate_left; (simp only [Act.put, q1_, q2_, q3_, i64_w, i32_w]; rfl)
    refine done_ (by kernel_rfl) ?_
    clear hcp hHeld hw0
    have hk1k : k1 ≤ k := by have := HP.out.2.2; omega
    have hd2 := ReadsInt.drop_ HD1.out k1 hk1k (by omega : k ≤ c)
    generalize hA2 : (if c = k1 then A else A.map (·.add k1)) = A2 at hd2 ⊢
    go_wp2
    refine start_ (n := 8) (S := fun w' => w'.cell? ⟨g, 0, none⟩ = some (.slice (some ⟨R, 0, none⟩) sz sz) ∧ w'.cell? ⟨g, 1, none⟩ = some (.int .i64 fr) ∧ w'.cell? ⟨g, 2, none⟩ = some (.int .i64 n)) (ds := [7]) (bs 8 0) (by kernel_rfl) rfl rfl ⟨(blk_cell HB1.out 0).trans rfl, (blk_cell HB1.out 1).trans rfl, (blk_cell HB1.out 2).trans rfl⟩ (fun hHeld => ?_)
    generalize hwd : World.drew _ = we at hHeld ⊢
    have hh2 : we.heap = w1.heap := by rw [← hwd]; rfl
    have BW8 : Aside0 (∀ n₀, n₀ ≤ R → Below n₀ w we) := ⟨fun n₀ h => by rw [← hwd]; exact below_drew1 (BW1.out n₀ h)⟩
    clear hwd BW1 BW hh
    have hb8 : we.heap[g]? = some (.cells (c4 R sz fr n una) 59 (0, 0)) := by rw [hh2]; exact HB1.out
    have hr8 := (congrArg (fun H => H[R]?) hh2).trans HR1.out
    have hd8 := reads_other (R := R) hd2 (fun b _ => congrArg (fun H => H[b]?) hh2) (by rw [← hA2]; intro ad e h; split at e; exact HA.out ad e (by omega); simp only [Option.map_eq_some_iff] at e; obtain ⟨a1, e1, rfl⟩ := e; have := HA.out a1 e1 (by omega); intro hb; apply this; rw [← hb]; unfold Addr.add; split <;> rfl)
    obtain ⟨w2, hcp, hr2, ho2, hB2⟩ := copy_into we R 0 _ hr8 A2 (k - k1) (c - k1) _ hd8 sz sz (by rw [size_lay _ _ _ (by have := HC.out; have := HP.out.2.2; simp; omega), HC.out]; omega)
    subst hA2
    rw [show min (k - k1) sz = k - k1 from by have := hs2; omega] at hcp hr2
    have HB9 := Aside0.mk ((ho2 g hgR).trans hb8)
    have HR9 := Aside0.mk hr2
    have HO9 : Aside0 (∀ b, b ≠ R → w2.heap[b]? = w.heap[b]?) := ⟨fun b hb => (ho2 b hb).trans ((congrArg (fun H => H[b]?) hh2).trans (HO1.out b hb))⟩
    have BW9 : Aside0 (∀ n₀, n₀ ≤ R → Below n₀ w w2) := ⟨fun n₀ h => (BW8.out n₀ h).trans (hB2 n₀ h)⟩
    clear hb8 hr8 hd8 hr2 ho2 hB2 hd2 BW8 hh2 HB1 HR1 HO1 HD1
    refine pure_ (i := 0) (N := some 61) (v := ?_) (a' := ?_) (bs 8 1) rfl rfl (by kernel_rfl) (fun _ _ _ h => h) (Or.inl ⟨by rfl, ?_⟩) ?_ ?_; rotate_left; (intro w'; go_simp; with_reducible rfl); rotate_left; (simp only [Act.put, q1_, q2_, q3_, i64_w, i32_w]; rfl)
    refine pure_ (i := 1) (N := some 62) (v := ?_) (a' := ?_) (bs 8 3) rfl rfl (by kernel_rfl) (fun _ _ _ h => h) (Or.inl ⟨by rfl, ?_⟩) ?_ ?_; rotate_left; (intro w'; go_simp; with_reducible rfl); rotate_left; (simp only [Act.put, q1_, q2_, q3_, i64_w, i32_w]; rfl)
    refine pure_ (i := 2) (N := some 63) (v := ?_) (a' := ?_) (bs 8 7) rfl rfl (by kernel_rfl) (fun _ _ _ h => h) (Or.inl ⟨by rfl, ?_⟩) ?_ ?_; rotate_left; (intro w'; go_simp; with_reducible rfl); rotate_left; (simp only [Act.put, q1_, q2_, q3_, i64_w, i32_w]; rfl)
    refine pure_ (i := 4) (N := some 65) (v := ?_) (a' := ?_) (bs 8 23) rfl rfl (by kernel_rfl) (fun _ _ _ h => h) (Or.inl ⟨by rfl, ?_⟩) ?_ ?_; rotate_left; (intro w'; go_simp; with_reducible rfl); rotate_left; (simp only [Act.put, q1_, q2_, q3_, i64_w, i32_w]; rfl)
    refine pure_ (i := 5) (N := some 66) (v := ?_) (a' := ?_) (bs 8 55) rfl rfl (by kernel_rfl) (fun _ _ _ h => h) (Or.inl ⟨by rfl, ?_⟩) ?_ ?_; rotate_left; (intro w'; go_simp; with_reducible rfl); rotate_left; (simp only [Act.put, q1_, q2_, q3_, i64_w, i32_w]; rfl)
    refine pure_ (i := 6) (N := some 67) (v := ?_) (a' := ?_) (bs 8 119) rfl rfl (by kernel_rfl) (fun _ _ _ h => h) (Or.inl ⟨by rfl, ?_⟩) ?_ ?_; rotate_left; (intro w'; go_simp; with_reducible rfl); rotate_left; (simp only [Act.put, q1_, q2_, q3_, i64_w, i32_w]; rfl)
    refine take_ (i := 3) (N := some 64) (v := ?_) (a' := ?_) (bs 8 127) rfl rfl (by kernel_rfl) (fun _ _ _ h => h) (Or.inl ⟨by rfl, ?_⟩) hHeld ?_ ?_; rotate_left; (rintro w' ⟨s0, s1, s2⟩; go_simp; with_reducible rfl); rotate_left; (simp only [Act.put, q1_, q2_, q3_, i64_w, i32_w]; rfl)
    refine last_ (i := 7) (N := some 68) (bs 8 255) rfl rfl (by kernel_rfl) (by decide) (fun K hK => ?_)
    refine value_ (w1 := ?_) (v := ?_) (by rfl) rfl ?_ ?_; rotate_left 2; (go_simp; constructor; rfl; rfl); refine hK.out _ _ ?_; clear hK K
    refine norm_ (a' := ?_) ?_ ?_; rotate_left; (show Act.put _ (some 68) _ = _; simp only [Act.put, q1_, q2_, q3_, i64_w, i32_w]; rfl)
    refine done_ (by kernel_rfl) ?_
    clear hcp hHeld
    have c2' := (blk_cell HB9.out 2).trans rfl
    have f2' := blk_frozen HB9.out 2
    go_wp2
    all_goals
      go_ret2
      refine ⟨rfl, blk_put HB9.out 2 (.int .i64 _) rfl, ?_, fun n₀ h1 h2 => (BW9.out n₀ h2).setCell (p := ⟨g, 2, none⟩) h1 _, fun b h1 h2 => (Below.heap_setCell w2 ⟨g, 2, none⟩ _ b (fun e => h1 e)).trans (HO9.out b h2)⟩
      refine (blk_far HR9.out (p := ⟨g, 2, none⟩) (fun e => hgR e.symm) _).trans ?_
      rw [List.take_of_length_le (l := (D.take k).drop k1) (by simp; try omega)]
end Go.Proofs.YtiphiacidokhiaaDoor.Hand
