/- Chapter 8: New refused, of, Steer and Receive of a short frame. -/
import Derived.Test.YtigmlklcbhlmpaaHandN
namespace Go.Proofs.Ytigmlklcbhlmpaa.Hand
open Go.RowKit Go.Proofs.Ytigmlklcbhlmpaa Go.Proofs.Ytigmlklcbhlmpaa.Util Go.Proofs.YtigmlklcbhlmpaaW.PrintWords Go.Proofs.YtigmlklcbhlmpaaW.PrintLast Go.Proofs.YtigmlklcbhlmpaaW.PrintMore
set_option linter.unusedVariables false
set_option linter.unusedSimpArgs false
attribute [local go_sem] Oper.semAt_some
set_option maxHeartbeats 1000000 in
theorem new_no (KA : Option Addr) (nk ck : Nat) (A : Option Addr) (c : Nat) (T : List Int) (sz ev : Int) (w : World) (hT : ReadsInt w .i64 A T.length T) (hc : T.length ≤ c) (hno : cf nk T sz ev ≠ 0) :
    Calls Try.prog 12 #[.agg #[.slice KA nk ck, .slice A T.length c, .int .i64 sz, .int .i64 ev]] w fun e w' => e = .returned (.tuple #[.pointer none, .int .i64 (cf nk T sz ev)]) ∧ Below w.heap.size w w' := by
  have HCF : Aside0 (∀ w1, Below w.heap.size w w1 → Calls Try.prog 23 #[.agg #[.slice KA nk ck, .slice A T.length c, .int .i64 sz, .int .i64 ev]] w1 fun e w' => e = .returned (.int .i64 (cf nk T sz ev)) ∧ Below w1.heap.size w1 w') := ⟨fun w1 hb => cf_calls KA nk ck A c T sz ev w1 (hT.below hb) hc⟩
  generalize cf nk T sz ev = r at HCF hno ⊢
  clear hT hc
  have HA := Aside0.mk (below_alloc (Below.refl w.heap.size w) (.cells #[.slice KA nk ck, .slice A T.length c, .int .i64 sz, .int .i64 ev] 29))
  go_enter Try.func12, Try.ntmps12
  go_wp2_with (go_at_call 23; refine (HCF.out _ HA.out).mono ?_; rintro x w0 ⟨rfl, hB⟩; have HW := Aside0.mk hB; clear hB)
  go_ret2
  exact ⟨rfl, HA.out.trans (HW.out.mono (by rw [World.size_alloc]; omega))⟩
set_option maxHeartbeats 1000000 in
set_option maxRecDepth 100000 in
theorem of_calls (KA : Option Addr) (ks : List Int) (ck : Nat) (A : Option Addr) (c : Nat) (T : List Int) (sz ev : Int) (w : World) (hK : ReadsInt w .u8 KA ks.length ks) (hkc : ks.length ≤ ck) (hkl : ks.length * 1 ≤ 140737488351232) (hT : ReadsInt w .i64 A T.length T) (hc : T.length ≤ c) (htl : T.length * 8 ≤ 140737488351232) :
    Calls Try.prog 8 #[.agg #[.slice KA ks.length ck, .slice A T.length c, .int .i64 sz, .int .i64 ev]] w fun e w' => ∃ k1 t1 c1 c2, e = .returned (.agg #[.slice k1 ks.length c1, .slice t1 T.length c2, .int .i64 sz, .int .i64 ev]) ∧
      (ReadsInt w' .u8 k1 ks.length ks ∧ ks.length ≤ c1 ∧ ReadsInt w' .i64 t1 T.length T ∧ T.length ≤ c2) ∧ Below w.heap.size w w' := by
  obtain ⟨nk, hnk⟩ : ∃ nk, ks.length = nk := ⟨_, rfl⟩
  obtain ⟨nt, hnt⟩ : ∃ nt, T.length = nt := ⟨_, rfl⟩
  have HBC : Aside0 (∀ w1, Below w.heap.size w w1 → Calls Try.prog 22 #[.slice KA nk ck] w1 fun e w' => ∃ v, e = .returned v ∧ w'.ownsRow w1.heap.size 5 1 v nk (nums .u8 ks) ∧ Below w1.heap.size w1 w') := ⟨fun w1 hb => by have := bcopy KA ck ks w1 (hK.below hb) hkc hkl; rwa [hnk] at this⟩
  have HIC : Aside0 (∀ w1, Below w.heap.size w w1 → Calls Try.prog 27 #[.slice A nt c] w1 fun e w' => ∃ v, e = .returned v ∧ w'.ownsRow w1.heap.size 3 1 v nt (nums .i64 T) ∧ Below w1.heap.size w1 w') := ⟨fun w1 hb => by have := icopy A c T w1 (hT.below hb) hc htl; rwa [hnt] at this⟩
  rw [hnk, hnt]
  clear hK hT hkc hc htl hkl
  have hB0 := below_alloc (below_alloc (Below.refl w.heap.size w) (.cells #[.slice KA nk ck, .slice A nt c, .int .i64 sz, .int .i64 ev] 29)) (.cells #[.slice none 0 0, .slice none 0 0, .int .i64 0, .int .i64 0] 29)
  go_enter Try.func8, Try.ntmps8
  go_upto_region 1 with (fail)
  have hb0' : ((w.alloc (.cells #[.slice KA nk ck, .slice A nt c, .int .i64 sz, .int .i64 ev] 25)).alloc (.cells #[.slice none 0 0, .slice none 0 0, .int .i64 0, .int .i64 0] 29)).heap[w.heap.size]? = some (.cells #[.slice KA nk ck, .slice A nt c, .int .i64 sz, .int .i64 ev] 25 (0, 0)) := (Below.heap_alloc _ _ _ (by simp)).trans (blk_new w _)
  have hr0' : ((w.alloc (.cells #[.slice KA nk ck, .slice A nt c, .int .i64 sz, .int .i64 ev] 25)).alloc (.cells #[.slice none 0 0, .slice none 0 0, .int .i64 0, .int .i64 0] 29)).heap[w.heap.size + 1]? = some (.cells #[.slice none 0 0, .slice none 0 0, .int .i64 0, .int .i64 0] 29 (0, 0)) := by
    have := blk_new (w.alloc (.cells #[.slice KA nk ck, .slice A nt c, .int .i64 sz, .int .i64 ev] 25)) (.cells #[.slice none 0 0, .slice none 0 0, .int .i64 0, .int .i64 0] 29)
    rwa [World.size_alloc] at this
  have hB0 : Below w.heap.size w ((w.alloc (.cells #[.slice KA nk ck, .slice A nt c, .int .i64 sz, .int .i64 ev] 25)).alloc (.cells #[.slice none 0 0, .slice none 0 0, .int .i64 0, .int .i64 0] 29)) := below_alloc (below_alloc (Below.refl w.heap.size w) _) _
  generalize (w.alloc (.cells #[.slice KA nk ck, .slice A nt c, .int .i64 sz, .int .i64 ev] 25)).alloc (.cells #[.slice none 0 0, .slice none 0 0, .int .i64 0, .int .i64 0] 29) = wx at hb0' hr0' hB0 ⊢
  obtain ⟨b, hb⟩ : ∃ b, b = w.heap.size := ⟨_, rfl⟩
  rw [← hb] at hb0' hr0' ⊢
  refine start_ (n := 12) (S := fun w' => w'.cell? ⟨b, 0, none⟩ = some (.slice KA nk ck) ∧ w'.cell? ⟨b, 1, none⟩ = some (.slice A nt c) ∧ w'.cell? ⟨b, 2, none⟩ = some (.int .i64 sz) ∧ w'.cell? ⟨b, 3, none⟩ = some (.int .i64 ev)) (ds := [11]) (bs 12 0) (by kernel_rfl) rfl rfl ⟨(blk_cell hb0' 0).trans rfl, (blk_cell hb0' 1).trans rfl, (blk_cell hb0' 2).trans rfl, (blk_cell hb0' 3).trans rfl⟩ (fun hHeld => ?_)
  generalize hwd : World.drew _ = wd at hHeld ⊢
  have hhd : wd.heap = wx.heap := by rw [← hwd]; rfl
  have HB : Aside0 (Below w.heap.size w wd) := ⟨by rw [← hwd]; exact below_drew1 hB0⟩
  clear hwd
  have hr0 : wd.heap[b + 1]? = some (.cells #[.slice none 0 0, .slice none 0 0, .int .i64 0, .int .i64 0] 29 (0, 0)) := by rw [hhd]; exact hr0'
  have hwb : w.heap.size ≤ b := by omega
  clear hb hb0' hr0' hhd hB0
  refine pure_ (i := 0) (N := some 3) (v := ?_) (a' := ?_) (bs 12 1) rfl rfl (by kernel_rfl) (fun _ _ _ h => h) (Or.inl ⟨by rfl, ?_⟩) ?_ ?_; rotate_left; (intro w'; go_simp; with_reducible rfl); rotate_left; (simp only [Act.put, q1_, q2_, q3_, i64_w, i32_w]; rfl)
  refine pure_ (i := 3) (N := some 6) (v := ?_) (a' := ?_) (bs 12 9) rfl rfl (by kernel_rfl) (fun _ _ _ h => h) (Or.inl ⟨by rfl, ?_⟩) ?_ ?_; rotate_left; (intro w'; go_simp; with_reducible rfl); rotate_left; (simp only [Act.put, q1_, q2_, q3_, i64_w, i32_w]; rfl)
  refine pure_ (i := 6) (N := some 9) (v := ?_) (a' := ?_) (bs 12 73) rfl rfl (by kernel_rfl) (fun _ _ _ h => h) (Or.inl ⟨by rfl, ?_⟩) ?_ ?_; rotate_left; (intro w'; go_simp; with_reducible rfl); rotate_left; (simp only [Act.put, q1_, q2_, q3_, i64_w, i32_w]; rfl)
  refine pure_ (i := 8) (N := some 11) (v := ?_) (a' := ?_) (bs 12 329) rfl rfl (by kernel_rfl) (fun _ _ _ h => h) (Or.inl ⟨by rfl, ?_⟩) ?_ ?_; rotate_left; (intro w'; go_simp; with_reducible rfl); rotate_left; (simp only [Act.put, q1_, q2_, q3_, i64_w, i32_w]; rfl)
  refine take_ (i := 1) (N := some 4) (v := ?_) (a' := ?_) (bs 12 331) rfl rfl (by kernel_rfl) (fun _ _ _ h => h) (Or.inl ⟨by rfl, ?_⟩) hHeld ?_ ?_; rotate_left; (rintro w' ⟨s0, s1, s2, s3⟩; go_simp; with_reducible rfl); rotate_left; (simp only [Act.put, q1_, q2_, q3_, i64_w, i32_w]; rfl)
  refine take_ (i := 4) (N := some 7) (v := ?_) (a' := ?_) (bs 12 347) rfl rfl (by kernel_rfl) (fun _ _ _ h => h) (Or.inl ⟨by rfl, ?_⟩) hHeld ?_ ?_; rotate_left; (rintro w' ⟨s0, s1, s2, s3⟩; go_simp; with_reducible rfl); rotate_left; (simp only [Act.put, q1_, q2_, q3_, i64_w, i32_w]; rfl)
  refine take_ (i := 7) (N := some 10) (v := ?_) (a' := ?_) (bs 12 475) rfl rfl (by kernel_rfl) (fun _ _ _ h => h) (Or.inl ⟨by rfl, ?_⟩) hHeld ?_ ?_; rotate_left; (rintro w' ⟨s0, s1, s2, s3⟩; go_simp; with_reducible rfl); rotate_left; (simp only [Act.put, q1_, q2_, q3_, i64_w, i32_w]; rfl)
  refine take_ (i := 9) (N := some 12) (v := ?_) (a' := ?_) (bs 12 987) rfl rfl (by kernel_rfl) (fun _ _ _ h => h) (Or.inl ⟨by rfl, ?_⟩) hHeld ?_ ?_; rotate_left; (rintro w' ⟨s0, s1, s2, s3⟩; go_simp; with_reducible rfl); rotate_left; (simp only [Act.put, q1_, q2_, q3_, i64_w, i32_w]; rfl)
  refine one_ (i := 2) (N := some 5) (bs 12 991) rfl rfl (by kernel_rfl) (by decide) (fun K hK => ?_)
  refine goes_ Try.func22 (by kernel_rfl) rfl #[.slice KA nk ck] (by rfl) rfl rfl (by (try simp only [List.map_toArray, List.map_cons, List.map_nil]); first | done | rfl) ?_
  refine (HBC.out wd HB.out).mono ?_
  rintro x1 w1 ⟨v1, rfl, hown1, hB1⟩
  obtain ⟨A1, c1, rfl⟩ := own_slice hown1
  refine ⟨_, rfl, ?_⟩
  refine hK.out _ _ ⟨(hB1.cell (World.block_lt_of_cell? _ _ hHeld.1)).trans hHeld.1, (hB1.cell (World.block_lt_of_cell? _ _ hHeld.2.1)).trans hHeld.2.1, (hB1.cell (World.block_lt_of_cell? _ _ hHeld.2.2.1)).trans hHeld.2.2.1, (hB1.cell (World.block_lt_of_cell? _ _ hHeld.2.2.2)).trans hHeld.2.2.2⟩ (fun hHeld => ?_); clear hK K
  refine norm_ (a' := ?_) ?_ ?_; rotate_left; (show Act.put _ (some 5) _ = _; simp only [Act.put, q1_, q2_, q3_, i64_w, i32_w]; rfl)
  refine one_ (i := 5) (N := some 8) (bs 12 1023) rfl rfl (by kernel_rfl) (by decide) (fun K hK => ?_)
  refine goes_ Try.func27 (by kernel_rfl) rfl #[.slice A nt c] (by rfl) rfl rfl (by (try simp only [List.map_toArray, List.map_cons, List.map_nil]); first | done | rfl) ?_
  refine (HIC.out w1 (HB.out.trans (hB1.mono HB.out.size))).mono ?_
  rintro x2 w2 ⟨v2, rfl, hown2, hB2⟩
  obtain ⟨A2, c2, rfl⟩ := own_slice hown2
  refine ⟨_, rfl, ?_⟩
  refine hK.out _ _ ⟨(hB2.cell (World.block_lt_of_cell? _ _ hHeld.1)).trans hHeld.1, (hB2.cell (World.block_lt_of_cell? _ _ hHeld.2.1)).trans hHeld.2.1, (hB2.cell (World.block_lt_of_cell? _ _ hHeld.2.2.1)).trans hHeld.2.2.1, (hB2.cell (World.block_lt_of_cell? _ _ hHeld.2.2.2)).trans hHeld.2.2.2⟩ (fun hHeld => ?_); clear hK K
  refine norm_ (a' := ?_) ?_ ?_; rotate_left; (show Act.put _ (some 8) _ = _; simp only [Act.put, q1_, q2_, q3_, i64_w, i32_w]; rfl)
  refine pure_ (i := 10) (N := some 13) (v := ?_) (a' := ?_) (bs 12 2047) rfl rfl (by kernel_rfl) (fun _ _ _ h => h) (Or.inl ⟨by rfl, ?_⟩) ?_ ?_; rotate_left; (intro w'; go_simp; with_reducible rfl); rotate_left; (simp only [Act.put, q1_, q2_, q3_, i64_w, i32_w]; rfl)
  refine last_ (i := 11) (N := none) (bs 12 4095) rfl rfl (by kernel_rfl) (by decide) (fun K hK => ?_)
  have hb2 : w2.heap[b + 1]? = some (.cells #[.slice none 0 0, .slice none 0 0, .int .i64 0, .int .i64 0] 29 (0, 0)) := (hB2.block (b + 1) (by have := blk_lt hr0; have := hB1.size; omega)).trans ((hB1.block (b + 1) (blk_lt hr0)).trans hr0)
  have j0 := (blk_cell hb2 0).trans rfl
  have j1 := (blk_cell hb2 1).trans rfl
  have j2 := (blk_cell hb2 2).trans rfl
  have j3 := (blk_cell hb2 3).trans rfl
  have g0 := blk_frozen hb2 0
  have g1 := blk_frozen hb2 1
  have g2 := blk_frozen hb2 2
  have g3 := blk_frozen hb2 3
  refine skip_ (w1 := (((w2.setCell ⟨b + 1, 0, none⟩ (.slice A1 nk c1)).setCell ⟨b + 1, 1, none⟩ (.slice A2 nt c2)).setCell ⟨b + 1, 2, none⟩ (.int .i64 sz)).setCell ⟨b + 1, 3, none⟩ (.int .i64 ev)) (by rfl) rfl (by go_simp) ?_
  refine hK.out _ _ ?_; clear hK K
  refine done_ (by kernel_rfl) ?_
  have hlc1 := own_le hown1
  have hlc2 := own_le hown2
  have hb4 := blk_put (blk_put (blk_put (blk_put hb2 0 (.slice A1 nk c1) rfl) 1 (.slice A2 nt c2) rfl) 2 (.int .i64 sz) rfl) 3 (.int .i64 ev) rfl
  have hk4 : ∀ k, k ≠ b + 1 → ((((w2.setCell ⟨b + 1, 0, none⟩ (.slice A1 nk c1)).setCell ⟨b + 1, 1, none⟩ (.slice A2 nt c2)).setCell ⟨b + 1, 2, none⟩ (.int .i64 sz)).setCell ⟨b + 1, 3, none⟩ (.int .i64 ev)).heap[k]? = w2.heap[k]? := fun k hk => (Below.heap_setCell _ _ _ k hk).trans ((Below.heap_setCell _ _ _ k hk).trans ((Below.heap_setCell _ _ _ k hk).trans (Below.heap_setCell _ _ _ k hk)))
  have hB4 : Below w.heap.size w ((((w2.setCell ⟨b + 1, 0, none⟩ (.slice A1 nk c1)).setCell ⟨b + 1, 1, none⟩ (.slice A2 nt c2)).setCell ⟨b + 1, 2, none⟩ (.int .i64 sz)).setCell ⟨b + 1, 3, none⟩ (.int .i64 ev)) := (((((HB.out.trans (hB1.mono HB.out.size)).trans (hB2.mono (Nat.le_trans HB.out.size hB1.size))).setCell (p := ⟨b + 1, 0, none⟩) (Nat.le_succ_of_le hwb) _).setCell (p := ⟨b + 1, 1, none⟩) (Nat.le_succ_of_le hwb) _).setCell (p := ⟨b + 1, 2, none⟩) (Nat.le_succ_of_le hwb) _).setCell (p := ⟨b + 1, 3, none⟩) (Nat.le_succ_of_le hwb) _
  generalize (((w2.setCell ⟨b + 1, 0, none⟩ (.slice A1 nk c1)).setCell ⟨b + 1, 1, none⟩ (.slice A2 nt c2)).setCell ⟨b + 1, 2, none⟩ (.int .i64 sz)).setCell ⟨b + 1, 3, none⟩ (.int .i64 ev) = wf at hb4 hk4 hB4 ⊢
  have hr1 : ReadsInt wf .u8 A1 nk ks := by
    have ho := own_move (w1 := w2) hown1 (fun k hk => hB2.block k (own_lt hown1 k hk))
    have ho := own_move (w1 := wf) ho (fun k hk => hk4 k (by have := own_base hown1 k hk; have := blk_lt hr0; omega))
    obtain ⟨A', c', e, hr⟩ := own_reads ho
    injection e with e1 e2 e3
    rw [e1]; exact hr
  have hr2 : ReadsInt wf .i64 A2 nt T := by
    have ho := own_move (w1 := wf) hown2 (fun k hk => hk4 k (by have := own_base hown2 k hk; have := hB1.size; have := blk_lt hr0; omega))
    obtain ⟨A', c', e, hr⟩ := own_reads ho
    injection e with e1 e2 e3
    rw [e1]; exact hr
  have HZ := Aside0.mk (And.intro (And.intro hr1 (And.intro hlc1 (And.intro hr2 hlc2))) hB4)
  have q0 := (blk_cell hb4 0).trans rfl
  have q1 := (blk_cell hb4 1).trans rfl
  have q2 := (blk_cell hb4 2).trans rfl
  have q3 := (blk_cell hb4 3).trans rfl
  clear hb2 j0 j1 j2 j3 g0 g1 g2 g3 hk4 hB4 hr1 hr2 hown1 hown2 hB1 hB2 hHeld hr0
  go_wp2
  refine bodyPost_ret (v := .agg #[.slice A1 nk c1, .slice A2 nt c2, .int .i64 sz, .int .i64 ev]) ?_ rfl ⟨A1, A2, c1, c2, rfl, HZ.out.1, HZ.out.2⟩
  simp [results, Try.results8, go_sem, *]
end Go.Proofs.Ytigmlklcbhlmpaa.Hand
