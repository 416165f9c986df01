/- Chapter 8: Steer and Receive of a short frame. -/
import Derived.Test.YtigmlklcbhlmpaaHandO
namespace Go.Proofs.Ytigmlklcbhlmpaa.Hand
open Go.RowKit Go.Proofs.Ytigmlklcbhlmpaa Go.Proofs.Ytigmlklcbhlmpaa.Util Go.Proofs.YtigmlklcbhlmpaaW.PrintWords Go.Proofs.YtigmlklcbhlmpaaW.PrintLast Go.Proofs.YtigmlklcbhlmpaaW.PrintMore
set_option linter.unusedVariables false
set_option linter.unusedSimpArgs false
attribute [local go_sem] Oper.semAt_some
theorem parse_short (A : Option Addr) (n c : Nat) (h : n < 14) (w : World) :
    Calls Try.prog 39 #[.slice A n c] w fun e w' => e = .returned (.tuple #[.agg #[.int .u64 0, .int .u64 0, .int .i64 0, .slice none 0 0], .int .i64 8]) ∧ Below w.heap.size w w' := by
  go_enter Try.func39, Try.ntmps39
  go_wp2
  refine bodyPost_ret (v := .tuple #[.agg #[.int .u64 0, .int .u64 0, .int .i64 0, .slice none 0 0], .int .i64 8]) (w := w.alloc (.cells #[.int .u64 0, .int .u64 0, .int .i64 0, .slice none 0 0] 69)) ?_ rfl ⟨rfl, below_alloc (Below.refl _ _) _⟩
  simp [results, Try.results39, go_sem]
theorem tuple_short (A : Option Addr) (n c : Nat) (h : n < 14) (w : World) :
    Calls Try.prog 24 #[.slice A n c] w fun e w' => e = .returned (.slice none 0 0) ∧ Below w.heap.size w w' := by
  go_enter Try.func24, Try.ntmps24
  go_wp2_with (go_at_call 39; refine (parse_short A n c h w).mono ?_; rintro x w1 ⟨rfl, hB⟩; have HB := Aside0.mk hB; clear hB)
  go_ret
  exact ⟨rfl, HB.out.alloc HB.out.size _⟩
set_option maxHeartbeats 1000000 in
theorem steer_short (KA : Option Addr) (nk ck : Nat) (A : Option Addr) (c : Nat) (T : List Int) (sz ev : Int) (F : Option Addr) (n cF : Nat) (h : n < 14) (w : World) (hT : ReadsInt w .i64 A T.length T) (hc : T.length ≤ c) (hok : cf nk T sz ev = 0) :
    Calls Try.prog 7 #[.agg #[.slice KA nk ck, .slice A T.length c, .int .i64 sz, .int .i64 ev], .slice F n cF] w fun e w' => e = .returned (.tuple #[.int .i64 0, .int .i64 0]) ∧ Below w.heap.size w w' := by
  have HCF : Aside0 (∀ w1, Below w.heap.size w w1 → Calls Try.prog 23 #[.agg #[.slice KA nk ck, .slice A T.length c, .int .i64 sz, .int .i64 ev]] w1 fun e w' => e = .returned (.int .i64 0) ∧ Below w1.heap.size w1 w') := ⟨fun w1 hb => by have := cf_calls KA nk ck A c T sz ev w1 (hT.below hb) hc; rwa [hok] at this⟩
  clear hT hc hok
  have HA := Aside0.mk (below_alloc (Below.refl w.heap.size w) (.cells #[.slice KA nk ck, .slice A T.length c, .int .i64 sz, .int .i64 ev] 29))
  have heq := fun (w : World) => Lib.run_eql_slice_nil (P := Try.prog) w 22 5 none 0 0 0 0 Try.underlying22
  go_enter Try.func7, Try.ntmps7
  go_wp2_with (first
    | (go_at_call 23; refine (HCF.out _ HA.out).mono ?_; rintro x w0 ⟨rfl, hB⟩; have HW := Aside0.mk (HA.out.trans (hB.mono (by rw [World.size_alloc]; omega))); clear hB)
    | (go_at_call 24; refine (tuple_short F n cF h _).mono ?_; rintro x w5 ⟨rfl, hB⟩; have HV := Aside0.mk (HW.out.trans (hB.mono HW.out.size)); clear hB))
  go_ret2
  exact ⟨rfl, HV.out⟩
set_option maxHeartbeats 1000000 in
set_option maxRecDepth 100000 in
theorem rcv_one (base p : Nat) (KA : Option Addr) (nk ck : Nat) (A : Option Addr) (c : Nat) (T : List Int) (Ai : Option Addr) (ni ci : Nat) (out : Value) (sz : Nat) (ev now free : Int) (F : Option Addr) (cF : Nat) (D : List Int) (hbp0 : base ≤ p) (hD : D.length < 14) (hs : 1 ≤ sz ∧ sz ≤ 4096) (hni : ni = 0) (hAi : Ai = none ∧ ci = 0) (w : World) (hbw : base ≤ w.heap.size) (hb : w.heap[p]? = some (.cells (card (.slice KA nk ck) (.slice A T.length c) (.slice Ai ni ci) out sz ev now free) 57 (0, 0)))
    (hT : ReadsInt w .i64 A T.length T) (hc : T.length ≤ c) (hok : cf nk T sz ev = 0) (hd : ReadsInt w .u8 F D.length D) (hdc : D.length ≤ cF) :
    Calls Try.prog 16 #[.pointer (some ⟨p, 0, none⟩), .slice F D.length cF] w fun e w' => e = .returned (.tuple #[.int .i64 0, .int .i64 0]) ∧ (∃ A' c', w'.heap[p]? = some (.cells (card (.slice KA nk ck) (.slice A T.length c) (.slice A' 1 c') out sz ev now free) 57 (0, 0))) ∧ Below base w w' ∧ ∀ j, j < w.heap.size → j ≠ p → w'.heap[j]? = w.heap[j]? := by
  have HN := Aside0.mk (none_calls p _ _ _ _ sz ev now free hs.1 w hb)
  have HS := Aside0.mk (steer_short KA nk ck A c T sz ev F D.length cF hD w hT hc hok)
  have HB := Aside0.mk hb
  have HD0 := Aside0.mk (And.intro hd hdc)
  have e0 := (blk_cell hb 0).trans rfl
  have e1 := (blk_cell hb 1).trans rfl
  have e2 := (blk_cell hb 2).trans rfl
  have e3 := (blk_cell hb 3).trans rfl
  clear hb hT hc hok hd hdc
  go_enter Try.func16, Try.ntmps16
  go_wp2_with (first
    | (go_at_call 35; refine HN.out.mono ?_; rintro x w1 ⟨rfl, rfl⟩)
    | (go_at_call 7; refine HS.out.mono ?_; rintro x w0 ⟨rfl, hB⟩; have HW := Aside0.mk hB; clear hB))
  refine start_ (n := 9) (S := fun _ => True) (ds := [7]) (bs 9 0) (by kernel_rfl) rfl rfl trivial (fun hHeld => ?_)
  generalize hwd : World.drew _ = wd at hHeld ⊢
  have HE : Aside0 (Below w.heap.size w wd) := ⟨by rw [← hwd]; exact below_drew1 HW.out⟩
  clear hwd
  have HP := Aside0.mk ((HE.out.block p (blk_lt HB.out)).trans HB.out)
  have HD : Aside0 (ReadsInt wd .u8 F D.length D ∧ D.length ≤ cF ∧ D.length * 1 ≤ 140737488351232) := ⟨HD0.out.1.below HE.out, HD0.out.2, by omega⟩
  refine pure_ (i := 0) (N := some 22) (v := ?_) (a' := ?_) (bs 9 1) rfl rfl (by kernel_rfl) (fun _ _ _ h => h) (Or.inl ⟨by rfl, ?_⟩) ?_ ?_; rotate_left; (intro w'; go_simp; with_reducible rfl); rotate_left; (simp only [Act.put, q1_, q2_, q3_, i64_w, i32_w]; rfl)
  refine pure_ (i := 1) (N := some 23) (v := ?_) (a' := ?_) (bs 9 3) rfl rfl (by kernel_rfl) (fun _ _ _ h => h) (Or.inl ⟨by rfl, ?_⟩) ?_ ?_; rotate_left; (intro w'; go_simp; with_reducible rfl); rotate_left; (simp only [Act.put, q1_, q2_, q3_, i64_w, i32_w]; rfl)
  refine pure_ (i := 2) (N := some 24) (v := ?_) (a' := ?_) (bs 9 7) rfl rfl (by kernel_rfl) (fun _ _ _ h => h) (Or.inl ⟨by rfl, ?_⟩) ?_ ?_; rotate_left; (intro w'; go_simp; with_reducible rfl); rotate_left; (simp only [Act.put, q1_, q2_, q3_, i64_w, i32_w]; rfl)
  refine pure_ (i := 3) (N := some 25) (v := ?_) (a' := ?_) (bs 9 15) rfl rfl (by kernel_rfl) (fun _ _ _ h => h) (Or.inl ⟨by rfl, ?_⟩) ?_ ?_; rotate_left; (intro w'; go_simp; with_reducible rfl); rotate_left; (simp only [Act.put, q1_, q2_, q3_, i64_w, i32_w]; rfl)
  refine pure_ (i := 4) (N := some 26) (v := ?_) (a' := ?_) (bs 9 31) rfl rfl (by kernel_rfl) (fun _ _ _ h => h) (Or.inl ⟨by rfl, ?_⟩) ?_ ?_; rotate_left; (intro w'; go_simp; with_reducible rfl); rotate_left; (simp only [Act.put, q1_, q2_, q3_, i64_w, i32_w]; rfl)
  refine pure_ (i := 5) (N := some 27) (v := ?_) (a' := ?_) (bs 9 63) rfl rfl (by kernel_rfl) (fun _ _ _ h => h) (Or.inl ⟨by rfl, ?_⟩) ?_ ?_; rotate_left; (intro w'; go_simp; with_reducible rfl); rotate_left; (simp only [Act.put, q1_, q2_, q3_, i64_w, i32_w]; rfl)
  refine one_ (i := 6) (N := some 28) (bs 9 127) rfl rfl (by kernel_rfl) (by decide) (fun K hK => ?_)
  refine goes_ Try.func33 (by kernel_rfl) rfl #[.slice F D.length cF] (by rfl) rfl rfl (by (try simp only [List.map_toArray, List.map_cons, List.map_nil]); first | done | rfl) ?_
  refine (bclone F cF D wd HD.out.1 HD.out.2.1 HD.out.2.2).mono ?_
  rintro x1 w1 ⟨v1, rfl, hown, hB1⟩
  obtain ⟨A3, c3, rfl⟩ := own_slice hown
  have hbp := (hB1.block p (by have := blk_lt HP.out; omega)).trans HP.out
  have hsz := hB1.size
  refine ⟨_, rfl, ?_⟩
  refine hK.out _ _ trivial (fun hHeld => ?_); clear hK K
  refine norm_ (a' := ?_) ?_ ?_; rotate_left; (show Act.put _ (some 28) _ = _; simp only [Act.put, q1_, q2_, q3_, i64_w, i32_w]; rfl)
  refine last_ (i := 7) (N := some 29) (bs 9 255) rfl rfl (by kernel_rfl) (by decide) (fun K hK => ?_)
  refine goes_ Try.func36 (by kernel_rfl) rfl #[.pointer (some ⟨p, 4, none⟩), .slice A3 D.length c3] (by rfl) rfl rfl (by (try simp only [List.map_toArray, List.map_cons, List.map_nil]); first | done | rfl) ?_
  refine (put_ok p 4 (sz : Int) _ 57 (.slice Ai ni ci) [] A3 D.length c3 base (by simp only [List.length_nil]; omega) (by omega) (by decide) hbp0 w1 (by have := HE.out.size; omega) hbp rfl rfl ⟨rfl, .inl ⟨rfl, none, by rw [hni, hAi.1, hAi.2], by simp⟩⟩).mono ?_
  rintro x5 w2 ⟨rfl, ⟨i0', hblk, hq, hat⟩, hB2, hF2⟩
  refine ⟨_, rfl, ?_⟩
  refine hK.out _ _ ?_; clear hK K
  refine norm_ (a' := ?_) ?_ ?_; rotate_left; (show Act.put _ (some 29) _ = _; simp only [Act.put, q1_, q2_, q3_, i64_w, i32_w]; rfl)
  refine pure_ (i := 8) (N := some 30) (v := ?_) (a' := ?_) (bs 9 511) rfl rfl (by kernel_rfl) (fun _ _ _ h => h) (Or.inl ⟨by rfl, ?_⟩) ?_ ?_; rotate_left; (intro w'; go_simp; with_reducible rfl); rotate_left; (simp only [Act.put, q1_, q2_, q3_, i64_w, i32_w]; rfl)
  refine done_ (by kernel_rfl) ?_
  obtain ⟨Ai', ci', rfl, _⟩ := q_slice hq
  have hs1 := HE.out.size
  have HZ : Aside0 ((∃ A' c', w2.heap[p]? = some (.cells (card (.slice KA nk ck) (.slice A T.length c) (.slice A' 1 c') out sz ev now free) 57 (0, 0))) ∧ Below base w w2 ∧ ∀ j, j < w.heap.size → j ≠ p → w2.heap[j]? = w.heap[j]?) := by
    refine ⟨⟨⟨Ai', ci', hblk⟩, ((HE.out.mono hbw).trans (hB1.mono (by omega))).trans hB2, fun j hj1 hj2 => ?_⟩⟩
    rw [hF2 j (by omega) hj2 (by rw [hAi.1]; simp [Value.ownBlock]), hB1.block j (by omega), HE.out.block j hj1]
  clear hblk hq hat hB2 hF2 hown hbp hB1 hHeld HP
  go_wp2
  go_ret2
  exact ⟨rfl, HZ.out⟩
set_option maxHeartbeats 1000000 in
set_option maxRecDepth 100000 in
theorem rcv_full (base p : Nat) (KA : Option Addr) (nk ck : Nat) (A : Option Addr) (c : Nat) (T : List Int) (Ai : Option Addr) (ni ci : Nat) (out : Value) (sz : Nat) (ev now free : Int) (F : Option Addr) (cF : Nat) (D : List Int) (hbp0 : base ≤ p) (hD : D.length < 14) (hs : 1 ≤ sz ∧ sz ≤ 4096) (hni : sz ≤ ni) (w : World) (hbw : base ≤ w.heap.size) (hb : w.heap[p]? = some (.cells (card (.slice KA nk ck) (.slice A T.length c) (.slice Ai ni ci) out sz ev now free) 57 (0, 0)))
    (hT : ReadsInt w .i64 A T.length T) (hc : T.length ≤ c) (hok : cf nk T sz ev = 0) (hd : ReadsInt w .u8 F D.length D) (hdc : D.length ≤ cF) :
    Calls Try.prog 16 #[.pointer (some ⟨p, 0, none⟩), .slice F D.length cF] w fun e w' => e = .returned (.tuple #[.int .i64 0, .int .i64 81]) ∧ Below w.heap.size w w' := by
  have HN := Aside0.mk (none_calls p _ _ _ _ sz ev now free hs.1 w hb)
  have HS := Aside0.mk (steer_short KA nk ck A c T sz ev F D.length cF hD w hT hc hok)
  have HB := Aside0.mk hb
  have HD0 := Aside0.mk (And.intro hd hdc)
  have e0 := (blk_cell hb 0).trans rfl
  have e1 := (blk_cell hb 1).trans rfl
  have e2 := (blk_cell hb 2).trans rfl
  have e3 := (blk_cell hb 3).trans rfl
  clear hb hT hc hok hd hdc
  go_enter Try.func16, Try.ntmps16
  go_wp2_with (first
    | (go_at_call 35; refine HN.out.mono ?_; rintro x w1 ⟨rfl, rfl⟩)
    | (go_at_call 7; refine HS.out.mono ?_; rintro x w0 ⟨rfl, hB⟩; have HW := Aside0.mk hB; clear hB))
  refine start_ (n := 9) (S := fun _ => True) (ds := [7]) (bs 9 0) (by kernel_rfl) rfl rfl trivial (fun hHeld => ?_)
  generalize hwd : World.drew _ = wd at hHeld ⊢
  have HE : Aside0 (Below w.heap.size w wd) := ⟨by rw [← hwd]; exact below_drew1 HW.out⟩
  clear hwd
  have HP := Aside0.mk ((HE.out.block p (blk_lt HB.out)).trans HB.out)
  have HD : Aside0 (ReadsInt wd .u8 F D.length D ∧ D.length ≤ cF ∧ D.length * 1 ≤ 140737488351232) := ⟨HD0.out.1.below HE.out, HD0.out.2, by omega⟩
  refine pure_ (i := 0) (N := some 22) (v := ?_) (a' := ?_) (bs 9 1) rfl rfl (by kernel_rfl) (fun _ _ _ h => h) (Or.inl ⟨by rfl, ?_⟩) ?_ ?_; rotate_left; (intro w'; go_simp; with_reducible rfl); rotate_left; (simp only [Act.put, q1_, q2_, q3_, i64_w, i32_w]; rfl)
  refine pure_ (i := 1) (N := some 23) (v := ?_) (a' := ?_) (bs 9 3) rfl rfl (by kernel_rfl) (fun _ _ _ h => h) (Or.inl ⟨by rfl, ?_⟩) ?_ ?_; rotate_left; (intro w'; go_simp; with_reducible rfl); rotate_left; (simp only [Act.put, q1_, q2_, q3_, i64_w, i32_w]; rfl)
  refine pure_ (i := 2) (N := some 24) (v := ?_) (a' := ?_) (bs 9 7) rfl rfl (by kernel_rfl) (fun _ _ _ h => h) (Or.inl ⟨by rfl, ?_⟩) ?_ ?_; rotate_left; (intro w'; go_simp; with_reducible rfl); rotate_left; (simp only [Act.put, q1_, q2_, q3_, i64_w, i32_w]; rfl)
  refine pure_ (i := 3) (N := some 25) (v := ?_) (a' := ?_) (bs 9 15) rfl rfl (by kernel_rfl) (fun _ _ _ h => h) (Or.inl ⟨by rfl, ?_⟩) ?_ ?_; rotate_left; (intro w'; go_simp; with_reducible rfl); rotate_left; (simp only [Act.put, q1_, q2_, q3_, i64_w, i32_w]; rfl)
  refine pure_ (i := 4) (N := some 26) (v := ?_) (a' := ?_) (bs 9 31) rfl rfl (by kernel_rfl) (fun _ _ _ h => h) (Or.inl ⟨by rfl, ?_⟩) ?_ ?_; rotate_left; (intro w'; go_simp; with_reducible rfl); rotate_left; (simp only [Act.put, q1_, q2_, q3_, i64_w, i32_w]; rfl)
  refine pure_ (i := 5) (N := some 27) (v := ?_) (a' := ?_) (bs 9 63) rfl rfl (by kernel_rfl) (fun _ _ _ h => h) (Or.inl ⟨by rfl, ?_⟩) ?_ ?_; rotate_left; (intro w'; go_simp; with_reducible rfl); rotate_left; (simp only [Act.put, q1_, q2_, q3_, i64_w, i32_w]; rfl)
  refine one_ (i := 6) (N := some 28) (bs 9 127) rfl rfl (by kernel_rfl) (by decide) (fun K hK => ?_)
  refine goes_ Try.func33 (by kernel_rfl) rfl #[.slice F D.length cF] (by rfl) rfl rfl (by (try simp only [List.map_toArray, List.map_cons, List.map_nil]); first | done | rfl) ?_
  refine (bclone F cF D wd HD.out.1 HD.out.2.1 HD.out.2.2).mono ?_
  rintro x1 w1 ⟨v1, rfl, hown, hB1⟩
  obtain ⟨A3, c3, rfl⟩ := own_slice hown
  have hbp := (hB1.block p (by have := blk_lt HP.out; omega)).trans HP.out
  have hsz := hB1.size
  refine ⟨_, rfl, ?_⟩
  refine hK.out _ _ trivial (fun hHeld => ?_); clear hK K
  refine norm_ (a' := ?_) ?_ ?_; rotate_left; (show Act.put _ (some 28) _ = _; simp only [Act.put, q1_, q2_, q3_, i64_w, i32_w]; rfl)
  refine last_ (i := 7) (N := some 29) (bs 9 255) rfl rfl (by kernel_rfl) (by decide) (fun K hK => ?_)
  refine goes_ Try.func36 (by kernel_rfl) rfl #[.pointer (some ⟨p, 4, none⟩), .slice A3 D.length c3] (by rfl) rfl rfl (by (try simp only [List.map_toArray, List.map_cons, List.map_nil]); first | done | rfl) ?_
  refine (put_full p 4 (sz : Int) _ 57 Ai ni ci _ (by omega) w1 hbp rfl rfl).mono ?_
  rintro x5 w2 ⟨rfl, m2, hm2⟩
  refine ⟨_, rfl, ?_⟩
  refine hK.out _ _ ?_; clear hK K
  refine norm_ (a' := ?_) ?_ ?_; rotate_left; (show Act.put _ (some 29) _ = _; simp only [Act.put, q1_, q2_, q3_, i64_w, i32_w]; rfl)
  refine pure_ (i := 8) (N := some 30) (v := ?_) (a' := ?_) (bs 9 511) rfl rfl (by kernel_rfl) (fun _ _ _ h => h) (Or.inl ⟨by rfl, ?_⟩) ?_ ?_; rotate_left; (intro w'; go_simp; with_reducible rfl); rotate_left; (simp only [Act.put, q1_, q2_, q3_, i64_w, i32_w]; rfl)
  refine done_ (by kernel_rfl) ?_
  have hs1 := HE.out.size
  have HZ : Aside0 (Below w.heap.size w w2) := ⟨by rw [hm2]; exact pw_below_drewN (HE.out.trans (hB1.mono HE.out.size)) _⟩
  clear hm2 hown hbp hB1 hHeld HP
  go_wp2
  go_ret2
  exact ⟨rfl, HZ.out⟩
end Go.Proofs.Ytigmlklcbhlmpaa.Hand
