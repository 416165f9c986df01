/- The contract of bbr.Ack where it is answered: the first part of its walk, by hand. -/
import Derived.Test.YtodlibmnmjopbaaHandK2
namespace Go.Proofs.Ytodlibmnmjopbaa.Hand
open Go.RowKit Go.Proofs.YtodlibmnmjopbaaW.PrintWords Go.Proofs.YtodlibmnmjopbaaW.PrintLast Go.Proofs.YtodlibmnmjopbaaW.PrintMore Go.Proofs.Ytodlibmnmjopbaa.PA Go.Proofs.Ytodlibmnmjopbaa.Util
set_option linter.unusedVariables false
set_option linter.unusedSimpArgs false
attribute [local go_sem] Oper.semAt_some max2_int max_two min2_int min_two

set_option maxHeartbeats 4000000 in
set_option maxRecDepth 100000 in
theorem ack_walk (A : Option Addr) (c : Nat) (s : B) (e : Ev1) (mss : Int) (w : World) (hC : Kd.C k36 w A s.l.length s.l) (hc : s.l.length ≤ c) (ok : okS s.l s.ph s.rt s.ra s.fr s.fn s.cy s.ca s.un s.rd) (oe : okE s e mss) (s6 : B)
    (h6 : st6 (st5 (st4 (st3 (st2 (st1 s e) e) e) e) e) e (oldS (st2 (st1 s e) e) e) = s6) :
    Calls Try.prog 15 #[.agg (cb (.slice A s.l.length c) s), .int .i64 mss, .agg (ce e)] w fun x w' => ∃ v, x = .returned (.tuple #[.agg (cb v s6), .int .i64 0]) ∧ Kd.R k36 36 w' w.heap.size (fun _ => True) v s6.l ∧ Below w.heap.size w w' := by
  have HOK := Aside0.mk ok
  have HOE := Aside0.mk oe
  have H6 := Aside0.mk h6
  have HC := Aside0.mk hC
  clear ok oe h6 hC
  obtain ⟨K, hK⟩ := check_ok _ s.ph s.hr s.rt s.ra s.fu s.fr s.fn s.cy s.ca s.un s.rd HOK.out
  have HK := Aside0.mk (hK K (Nat.le_refl _))
  clear hK
  go_enter Try.func15, Try.ntmps15
  go_upto_region 4 with (go_at_call 18; refine (bbr_Check.calls K s.ph A c s.l s.hr s.rt s.ra s.fu s.fr s.fn s.cy s.ca s.un s.rd 0 _ ?sd1 hc HK.out).mono ?_; (case sd1 => exact Kd.C_below HC.out (below_alloc (below_alloc (below_alloc (Below.refl _ _) _) _) _)); rintro x w1 ⟨rfl, hb1⟩)
  have hS := blk_below (g := w.heap.size) (o := .cells (cb (.slice A s.l.length c) s) 40 (0, 0)) (blk_alloc (blk_alloc (blk_new w _) _) _) hb1
  have hE := blk_below (g := w.heap.size + 1) (o := .cells (ce e) 46 (0, 0)) (blk_alloc (by have := blk_new (w.alloc (.cells (cb (.slice A s.l.length c) s) 40)) (.cells (ce e) 46); rwa [World.size_alloc] at this) _) hb1
  have hZ := blk_below (g := w.heap.size + 2) (o := .cells cz 40 (0, 0)) (by have := blk_new ((w.alloc (.cells (cb (.slice A s.l.length c) s) 40)).alloc (.cells (ce e) 46)) (.cells cz 40); rwa [World.size_alloc, World.size_alloc] at this) hb1
  have HBw := Aside0.mk ((below_alloc (below_alloc (below_alloc (Below.refl w.heap.size w) _) _) _).trans (hb1.mono (by simp; omega)))
  obtain ⟨o1, o2, o3, o4, o5, o6, o7, o8⟩ := HOE.out
  obtain ⟨p1, p2, p3, p4, p5, p6, p7, p8, p9, p10⟩ := HOK.out
  have hl10 : s.l.length ≤ 10 := by
    unfold mayV at p3
    simp at p3
    omega
  have HI1 := Aside0.mk (inside_ok 1099511627776 [e.now, e.rnd] (by simp; omega) (by simp) 10 (by simp))
  have HI2 := Aside0.mk (inside_ok 1073741824 [e.rate, e.rtt, e.fl] (by simp; omega) (by simp) 10 (by simp))
  have HLA := Aside0.mk (last_eq s.l (by omega))
  have HSB := Aside0.mk (And.intro hS (And.intro hE hZ))
  have he0 := (blk_cell hE 0).trans rfl
  have he1 := (blk_cell hE 1).trans rfl
  have he2 := (blk_cell hE 2).trans rfl
  have he3 := (blk_cell hE 3).trans rfl
  have he4 := (blk_cell hE 4).trans rfl
  have hs1 := (blk_cell hS 1).trans rfl
  have hs11 := (blk_cell hS 11).trans rfl
  have g1 : decide (mss < 1) = false := decide_eq_false (by omega)
  have g2 : decide (65535 < mss) = false := decide_eq_false (by omega)
  obtain ⟨mx, hmx⟩ : ∃ m, (if s.rd < lastR s.l then lastR s.l else s.rd) = m := ⟨_, rfl⟩
  have g3 : decide (e.rnd < mx) = false := decide_eq_false (by rw [← hmx]; split <;> omega)
  clear hS hE hZ hb1 p1 p2 p3 p4 p5 p6 p7 p8 p9 p10
  refine start_ (n := 37) (S := fun w' => w'.cell? ⟨w.heap.size + 1, 0, none⟩ = some (.int .i64 e.now) ∧ w'.cell? ⟨w.heap.size + 1, 1, none⟩ = some (.int .i64 e.rnd) ∧ w'.cell? ⟨w.heap.size + 1, 2, none⟩ = some (.int .i64 e.rate) ∧ w'.cell? ⟨w.heap.size + 1, 3, none⟩ = some (.int .i64 e.rtt) ∧ w'.cell? ⟨w.heap.size + 1, 4, none⟩ = some (.int .i64 e.fl) ∧ w'.cell? ⟨w.heap.size, 1, none⟩ = some (.slice A s.l.length c) ∧ w'.cell? ⟨w.heap.size, 11, none⟩ = some (.int .i64 s.rd)) (ds := []) (bs 37 0) (by kernel_rfl) rfl rfl ⟨he0, he1, he2, he3, he4, hs1, hs11⟩ (fun hHeld => ?_)
  clear he0 he1 he2 he3 he4 hs1 hs11
  obtain ⟨wd, hwx⟩ : ∃ z, w1.drew = z := ⟨_, rfl⟩
  have HBd : Aside0 (Below w1.heap.size w1 wd) := ⟨by rw [← hwx]; exact below_drew1 (Below.refl _ _)⟩
  rw [hwx] at hHeld ⊢
  clear hwx
  refine pure_ (i := 0) (N := some 17) (v := ?_) (a' := ?_) (bs 37 1) rfl rfl (by kernel_rfl) (fun _ _ _ h => h) (Or.inl ⟨by rfl, ?_⟩) ?_ ?_; rotate_left; (intro w'; go_simp; with_reducible rfl); rotate_left; (simp only [Act.put, q1_, q2_, q3_, i64_w, i32_w]; rfl)
  refine pure_ (i := 1) (N := some 18) (v := ?_) (a' := ?_) (bs 37 3) rfl rfl (by kernel_rfl) (fun _ _ _ h => h) (Or.inl ⟨by rfl, ?_⟩) ?_ ?_; rotate_left; (intro w'; go_simp; with_reducible rfl); rotate_left; (simp only [Act.put, q1_, q2_, q3_, i64_w, i32_w]; rfl)
  refine pure_ (i := 2) (N := some 19) (v := ?_) (a' := ?_) (bs 37 7) rfl rfl (by kernel_rfl) (fun _ _ _ h => h) (Or.inl ⟨by rfl, ?_⟩) ?_ ?_; rotate_left; (intro w'; go_simp; with_reducible rfl); rotate_left; (simp only [Act.put, q1_, q2_, q3_, i64_w, i32_w]; rfl)
  refine pure_ (i := 3) (N := some 20) (v := ?_) (a' := ?_) (bs 37 15) rfl rfl (by kernel_rfl) (fun _ _ _ h => h) (Or.inl ⟨by rfl, ?_⟩) ?_ ?_; rotate_left; (intro w'; go_simp; with_reducible rfl); rotate_left; (simp only [Act.put, q1_, q2_, q3_, i64_w, i32_w]; rfl)
  refine pure_ (i := 4) (N := some 21) (v := ?_) (a' := ?_) (bs 37 31) rfl rfl (by kernel_rfl) (fun _ _ _ h => h) (Or.inl ⟨by rfl, ?_⟩) ?_ ?_; rotate_left; (intro w'; go_simp; with_reducible rfl); rotate_left; (simp only [Act.put, q1_, q2_, q3_, i64_w, i32_w]; rfl)
  refine pure_ (i := 5) (N := some 22) (v := ?_) (a' := ?_) (bs 37 63) rfl rfl (by kernel_rfl) (fun _ _ _ h => h) (Or.inl ⟨by rfl, ?_⟩) ?_ ?_; rotate_left; (intro w'; go_simp; with_reducible rfl); rotate_left; (simp only [Act.put, q1_, q2_, q3_, i64_w, i32_w]; rfl)
  refine pure_ (i := 6) (N := some 23) (v := ?_) (a' := ?_) (bs 37 127) rfl rfl (by kernel_rfl) (fun _ _ _ h => h) (Or.inl ⟨by rfl, ?_⟩) ?_ ?_; rotate_left; (intro w'; go_simp; with_reducible rfl); rotate_left; (simp only [Act.put, q1_, q2_, q3_, i64_w, i32_w]; rfl)
  refine pure_ (i := 7) (N := some 24) (v := ?_) (a' := ?_) (bs 37 255) rfl rfl (by kernel_rfl) (fun _ _ _ h => h) (Or.inl ⟨by rfl, ?_⟩) ?_ ?_; rotate_left; (intro w'; go_simp; with_reducible rfl); rotate_left; (simp only [Act.put, q1_, q2_, q3_, i64_w, i32_w]; rfl)
  refine take_ (i := 8) (N := some 25) (v := ?_) (a' := ?_) (bs 37 511) rfl rfl (by kernel_rfl) (fun _ _ _ h => h) (Or.inl ⟨by rfl, ?_⟩) hHeld ?_ ?_; rotate_left; (rintro w' ⟨s0, s1, s2, s3, s4, s5, s6⟩; go_simp; with_reducible rfl); rotate_left; (simp only [Act.put, q1_, q2_, q3_, i64_w, i32_w]; rfl)
  refine pure_ (i := 9) (N := some 26) (v := ?_) (a' := ?_) (bs 37 1023) rfl rfl (by kernel_rfl) (fun _ _ _ h => h) (Or.inl ⟨by rfl, ?_⟩) ?_ ?_; rotate_left; (intro w'; go_simp; with_reducible rfl); rotate_left; (simp only [Act.put, q1_, q2_, q3_, i64_w, i32_w]; rfl)
  refine take_ (i := 10) (N := some 27) (v := ?_) (a' := ?_) (bs 37 2047) rfl rfl (by kernel_rfl) (fun _ _ _ h => h) (Or.inl ⟨by rfl, ?_⟩) hHeld ?_ ?_; rotate_left; (rintro w' ⟨s0, s1, s2, s3, s4, s5, s6⟩; go_simp; with_reducible rfl); rotate_left; (simp only [Act.put, q1_, q2_, q3_, i64_w, i32_w]; rfl)
  refine one_ (i := 11) (N := some 28) (bs 37 4095) rfl rfl (by kernel_rfl) (by decide) (fun K hK => ?_)
  refine value_ (w1 := ?_) (v := ?_) (by rfl) rfl ?_ ?_; rotate_left 2; (go_simp; constructor; rfl; rfl); refine hK.out _ _ ⟨(World.cell?_alloc_lt _ _ _ (World.block_lt_of_cell? _ _ hHeld.1)).trans hHeld.1, (World.cell?_alloc_lt _ _ _ (World.block_lt_of_cell? _ _ hHeld.2.1)).trans hHeld.2.1, (World.cell?_alloc_lt _ _ _ (World.block_lt_of_cell? _ _ hHeld.2.2.1)).trans hHeld.2.2.1, (World.cell?_alloc_lt _ _ _ (World.block_lt_of_cell? _ _ hHeld.2.2.2.1)).trans hHeld.2.2.2.1, (World.cell?_alloc_lt _ _ _ (World.block_lt_of_cell? _ _ hHeld.2.2.2.2.1)).trans hHeld.2.2.2.2.1, (World.cell?_alloc_lt _ _ _ (World.block_lt_of_cell? _ _ hHeld.2.2.2.2.2.1)).trans hHeld.2.2.2.2.2.1, (World.cell?_alloc_lt _ _ _ (World.block_lt_of_cell? _ _ hHeld.2.2.2.2.2.2)).trans hHeld.2.2.2.2.2.2⟩ (fun hHeld => ?_); clear hK K
  refine norm_ (a' := ?_) ?_ ?_; rotate_left; (show Act.put _ (some 28) _ = _; simp only [Act.put, q1_, q2_, q3_, i64_w, i32_w]; rfl)
  refine one_ (i := 12) (N := some 29) (bs 37 8191) rfl rfl (by kernel_rfl) (by decide) (fun K hK => ?_)
  refine goes_ Try.func21 (by kernel_rfl) rfl #[.int .i64 1099511627776, .slice (some ⟨wd.heap.size, 0, none⟩) 2 2] (by rfl) rfl rfl (by (try simp only [List.map_toArray, List.map_cons, List.map_nil]); first | done | rfl) ?_
  refine (bbr_inside.calls 10 1099511627776 _ 2 [e.now, e.rnd] true _ (c_new .i64 wd [e.now, e.rnd] 3 2 rfl (by simp)) (by simp) HI1.out).mono ?_
  rintro x w' ⟨rfl, ⟨nd12, rfl⟩⟩
  refine ⟨_, rfl, ?_⟩
  refine hK.out _ _ hHeld (fun hHeld => ?_); clear hK K
  refine norm_ (a' := ?_) ?_ ?_; rotate_left; (show Act.put _ (some 29) _ = _; simp only [Act.put, q1_, q2_, q3_, i64_w, i32_w]; rfl)
  obtain ⟨wd2, hwx⟩ : ∃ z, (wd.alloc (.cells (encs (Value.int .i64) [e.now, e.rnd]).toArray 3)).drewN nd12 = z := ⟨_, rfl⟩
  have HB2 : Aside0 (Below w1.heap.size w1 wd2) := ⟨by rw [← hwx]; exact pw_below_drewN (below_alloc HBd.out _) nd12⟩
  rw [hwx] at hHeld ⊢
  clear hwx
  refine pure_ (i := 13) (N := some 30) (v := ?_) (a' := ?_) (bs 37 16383) rfl rfl (by kernel_rfl) (fun _ _ _ h => h) (Or.inl ⟨by rfl, ?_⟩) ?_ ?_; rotate_left; (intro w'; go_simp; with_reducible rfl); rotate_left; (simp only [Act.put, q1_, q2_, q3_, i64_w, i32_w]; rfl)
  refine pure_ (i := 14) (N := some 31) (v := ?_) (a' := ?_) (bs 37 32767) rfl rfl (by kernel_rfl) (fun _ _ _ h => h) (Or.inl ⟨by rfl, ?_⟩) ?_ ?_; rotate_left; (intro w'; go_simp; with_reducible rfl); rotate_left; (simp only [Act.put, q1_, q2_, q3_, i64_w, i32_w]; rfl)
  refine pure_ (i := 15) (N := some 32) (v := ?_) (a' := ?_) (bs 37 65535) rfl rfl (by kernel_rfl) (fun _ _ _ h => h) (Or.inl ⟨by rfl, ?_⟩) ?_ ?_; rotate_left; (intro w'; go_simp; with_reducible rfl); rotate_left; (simp only [Act.put, q1_, q2_, q3_, i64_w, i32_w]; rfl)
  refine pure_ (i := 16) (N := some 33) (v := ?_) (a' := ?_) (bs 37 131071) rfl rfl (by kernel_rfl) (fun _ _ _ h => h) (Or.inl ⟨by rfl, ?_⟩) ?_ ?_; rotate_left; (intro w'; go_simp; with_reducible rfl); rotate_left; (simp only [Act.put, q1_, q2_, q3_, i64_w, i32_w]; rfl)
  refine take_ (i := 17) (N := some 34) (v := ?_) (a' := ?_) (bs 37 262143) rfl rfl (by kernel_rfl) (fun _ _ _ h => h) (Or.inl ⟨by rfl, ?_⟩) hHeld ?_ ?_; rotate_left; (rintro w' ⟨s0, s1, s2, s3, s4, s5, s6⟩; go_simp; with_reducible rfl); rotate_left; (simp only [Act.put, q1_, q2_, q3_, i64_w, i32_w]; rfl)
  refine pure_ (i := 18) (N := some 35) (v := ?_) (a' := ?_) (bs 37 524287) rfl rfl (by kernel_rfl) (fun _ _ _ h => h) (Or.inl ⟨by rfl, ?_⟩) ?_ ?_; rotate_left; (intro w'; go_simp; with_reducible rfl); rotate_left; (simp only [Act.put, q1_, q2_, q3_, i64_w, i32_w]; rfl)
  refine take_ (i := 19) (N := some 36) (v := ?_) (a' := ?_) (bs 37 1048575) rfl rfl (by kernel_rfl) (fun _ _ _ h => h) (Or.inl ⟨by rfl, ?_⟩) hHeld ?_ ?_; rotate_left; (rintro w' ⟨s0, s1, s2, s3, s4, s5, s6⟩; go_simp; with_reducible rfl); rotate_left; (simp only [Act.put, q1_, q2_, q3_, i64_w, i32_w]; rfl)
  refine pure_ (i := 20) (N := some 37) (v := ?_) (a' := ?_) (bs 37 2097151) rfl rfl (by kernel_rfl) (fun _ _ _ h => h) (Or.inl ⟨by rfl, ?_⟩) ?_ ?_; rotate_left; (intro w'; go_simp; with_reducible rfl); rotate_left; (simp only [Act.put, q1_, q2_, q3_, i64_w, i32_w]; rfl)
  refine take_ (i := 21) (N := some 38) (v := ?_) (a' := ?_) (bs 37 4194303) rfl rfl (by kernel_rfl) (fun _ _ _ h => h) (Or.inl ⟨by rfl, ?_⟩) hHeld ?_ ?_; rotate_left; (rintro w' ⟨s0, s1, s2, s3, s4, s5, s6⟩; go_simp; with_reducible rfl); rotate_left; (simp only [Act.put, q1_, q2_, q3_, i64_w, i32_w]; rfl)
  refine one_ (i := 22) (N := some 39) (bs 37 8388607) rfl rfl (by kernel_rfl) (by decide) (fun K hK => ?_)
  refine value_ (w1 := ?_) (v := ?_) (by rfl) rfl ?_ ?_; rotate_left 2; (go_simp; constructor; rfl; rfl); refine hK.out _ _ ⟨(World.cell?_alloc_lt _ _ _ (World.block_lt_of_cell? _ _ hHeld.1)).trans hHeld.1, (World.cell?_alloc_lt _ _ _ (World.block_lt_of_cell? _ _ hHeld.2.1)).trans hHeld.2.1, (World.cell?_alloc_lt _ _ _ (World.block_lt_of_cell? _ _ hHeld.2.2.1)).trans hHeld.2.2.1, (World.cell?_alloc_lt _ _ _ (World.block_lt_of_cell? _ _ hHeld.2.2.2.1)).trans hHeld.2.2.2.1, (World.cell?_alloc_lt _ _ _ (World.block_lt_of_cell? _ _ hHeld.2.2.2.2.1)).trans hHeld.2.2.2.2.1, (World.cell?_alloc_lt _ _ _ (World.block_lt_of_cell? _ _ hHeld.2.2.2.2.2.1)).trans hHeld.2.2.2.2.2.1, (World.cell?_alloc_lt _ _ _ (World.block_lt_of_cell? _ _ hHeld.2.2.2.2.2.2)).trans hHeld.2.2.2.2.2.2⟩ (fun hHeld => ?_); clear hK K
  refine norm_ (a' := ?_) ?_ ?_; rotate_left; (show Act.put _ (some 39) _ = _; simp only [Act.put, q1_, q2_, q3_, i64_w, i32_w]; rfl)
  refine one_ (i := 23) (N := some 40) (bs 37 16777215) rfl rfl (by kernel_rfl) (by decide) (fun K hK => ?_)
  refine goes_ Try.func21 (by kernel_rfl) rfl #[.int .i64 1073741824, .slice (some ⟨wd2.heap.size, 0, none⟩) 3 3] (by rfl) rfl rfl (by (try simp only [List.map_toArray, List.map_cons, List.map_nil]); first | done | rfl) ?_
  refine (bbr_inside.calls 10 1073741824 _ 3 [e.rate, e.rtt, e.fl] true _ (c_new .i64 wd2 [e.rate, e.rtt, e.fl] 3 3 rfl (by simp)) (by simp) HI2.out).mono ?_
  rintro x w' ⟨rfl, ⟨nd23, rfl⟩⟩
  refine ⟨_, rfl, ?_⟩
  refine hK.out _ _ hHeld (fun hHeld => ?_); clear hK K
  refine norm_ (a' := ?_) ?_ ?_; rotate_left; (show Act.put _ (some 40) _ = _; simp only [Act.put, q1_, q2_, q3_, i64_w, i32_w]; rfl)
  obtain ⟨wd3, hwx⟩ : ∃ z, (wd2.alloc (.cells (encs (Value.int .i64) [e.rate, e.rtt, e.fl]).toArray 3)).drewN nd23 = z := ⟨_, rfl⟩
  have HB3 : Aside0 (Below w1.heap.size w1 wd3) := ⟨by rw [← hwx]; exact pw_below_drewN (below_alloc HB2.out _) nd23⟩
  rw [hwx] at hHeld ⊢
  clear hwx
  refine pure_ (i := 24) (N := some 41) (v := ?_) (a' := ?_) (bs 37 33554431) rfl rfl (by kernel_rfl) (fun _ _ _ h => h) (Or.inl ⟨by rfl, ?_⟩) ?_ ?_; rotate_left; (intro w'; go_simp; with_reducible rfl); rotate_left; (simp only [Act.put, q1_, q2_, q3_, i64_w, i32_w]; rfl)
  refine pure_ (i := 25) (N := some 42) (v := ?_) (a' := ?_) (bs 37 67108863) rfl rfl (by kernel_rfl) (fun _ _ _ h => h) (Or.inl ⟨by rfl, ?_⟩) ?_ ?_; rotate_left; (intro w'; go_simp; with_reducible rfl); rotate_left; (simp only [Act.put, q1_, q2_, q3_, i64_w, i32_w]; rfl)
  refine pure_ (i := 26) (N := some 43) (v := ?_) (a' := ?_) (bs 37 134217727) rfl rfl (by kernel_rfl) (fun _ _ _ h => h) (Or.inl ⟨by rfl, ?_⟩) ?_ ?_; rotate_left; (intro w'; go_simp; with_reducible rfl); rotate_left; (simp only [Act.put, q1_, q2_, q3_, i64_w, i32_w]; rfl)
  refine pure_ (i := 27) (N := some 44) (v := ?_) (a' := ?_) (bs 37 268435455) rfl rfl (by kernel_rfl) (fun _ _ _ h => h) (Or.inl ⟨by rfl, ?_⟩) ?_ ?_; rotate_left; (intro w'; go_simp; with_reducible rfl); rotate_left; (simp only [Act.put, q1_, q2_, q3_, i64_w, i32_w]; rfl)
  refine take_ (i := 28) (N := some 45) (v := ?_) (a' := ?_) (bs 37 536870911) rfl rfl (by kernel_rfl) (fun _ _ _ h => h) (Or.inl ⟨by rfl, ?_⟩) hHeld ?_ ?_; rotate_left; (rintro w' ⟨s0, s1, s2, s3, s4, s5, s6⟩; go_simp; with_reducible rfl); rotate_left; (simp only [Act.put, q1_, q2_, q3_, i64_w, i32_w]; rfl)
  refine pure_ (i := 29) (N := some 46) (v := ?_) (a' := ?_) (bs 37 1073741823) rfl rfl (by kernel_rfl) (fun _ _ _ h => h) (Or.inl ⟨by rfl, ?_⟩) ?_ ?_; rotate_left; (intro w'; go_simp; with_reducible rfl); rotate_left; (simp only [Act.put, q1_, q2_, q3_, i64_w, i32_w]; rfl)
  refine take_ (i := 30) (N := some 47) (v := ?_) (a' := ?_) (bs 37 2147483647) rfl rfl (by kernel_rfl) (fun _ _ _ h => h) (Or.inl ⟨by rfl, ?_⟩) hHeld ?_ ?_; rotate_left; (rintro w' ⟨s0, s1, s2, s3, s4, s5, s6⟩; go_simp; with_reducible rfl); rotate_left; (simp only [Act.put, q1_, q2_, q3_, i64_w, i32_w]; rfl)
  refine pure_ (i := 31) (N := some 48) (v := ?_) (a' := ?_) (bs 37 4294967295) rfl rfl (by kernel_rfl) (fun _ _ _ h => h) (Or.inl ⟨by rfl, ?_⟩) ?_ ?_; rotate_left; (intro w'; go_simp; with_reducible rfl); rotate_left; (simp only [Act.put, q1_, q2_, q3_, i64_w, i32_w]; rfl)
  refine take_ (i := 32) (N := some 49) (v := ?_) (a' := ?_) (bs 37 8589934591) rfl rfl (by kernel_rfl) (fun _ _ _ h => h) (Or.inl ⟨by rfl, ?_⟩) hHeld ?_ ?_; rotate_left; (rintro w' ⟨s0, s1, s2, s3, s4, s5, s6⟩; go_simp; with_reducible rfl); rotate_left; (simp only [Act.put, q1_, q2_, q3_, i64_w, i32_w]; rfl)
  refine one_ (i := 33) (N := some 50) (bs 37 17179869183) rfl rfl (by kernel_rfl) (by decide) (fun K hK => ?_)
  refine goes_ Try.func22 (by kernel_rfl) rfl #[.slice A s.l.length c] (by rfl) rfl rfl (by (try simp only [List.map_toArray, List.map_cons, List.map_nil]); first | done | rfl) ?_
  refine (bbr_last.calls A c s.l (lastR s.l) _ (Kd.C_below (Kd.C_below HC.out HBw.out) HB3.out) hc HLA.out).mono ?_
  rintro x w' ⟨rfl, ⟨nd33, rfl⟩⟩
  refine ⟨_, rfl, ?_⟩
  refine hK.out _ _ hHeld (fun hHeld => ?_); clear hK K
  refine norm_ (a' := ?_) ?_ ?_; rotate_left; (show Act.put _ (some 50) _ = _; simp only [Act.put, q1_, q2_, q3_, i64_w, i32_w]; rfl)
  refine pure_ (i := 34) (N := some 51) (v := ?_) (a' := ?_) (bs 37 34359738367) rfl rfl (by kernel_rfl) (fun _ _ _ h => h) (Or.inl ⟨by rfl, ?_⟩) ?_ ?_; rotate_left; (intro w'; go_simp; with_reducible rfl); rotate_left; (simp only [Act.put, q1_, q2_, q3_, i64_w, i32_w]; rfl)
  refine pure_ (i := 35) (N := some 52) (v := ?_) (a' := ?_) (bs 37 68719476735) rfl rfl (by kernel_rfl) (fun _ _ _ h => h) (Or.inl ⟨by rfl, ?_⟩) ?_ ?_; rotate_left; (intro w'; go_simp; with_reducible rfl); rotate_left; (simp only [Act.put, q1_, q2_, q3_, i64_w, i32_w]; rfl)
  refine pure_ (i := 36) (N := some 53) (v := ?_) (a' := ?_) (bs 37 137438953471) rfl rfl (by kernel_rfl) (fun _ _ _ h => h) (Or.inl ⟨by rfl, ?_⟩) ?_ ?_; rotate_left; (intro w'; go_simp; with_reducible rfl); rotate_left; (simp only [Act.put, q1_, q2_, q3_, i64_w, i32_w]; rfl)
  refine done_ (by kernel_rfl) ?_
  obtain ⟨w4, hwx⟩ : ∃ z, wd3.drewN nd33 = z := ⟨_, rfl⟩
  have HB4 : Aside0 (Below w1.heap.size w1 w4) := ⟨by rw [← hwx]; exact pw_below_drewN HB3.out nd33⟩
  rw [hwx]
  clear hwx hHeld HB3 HB2 HBd HI1 HI2 HLA
  have hS := blk_below HSB.out.1 HB4.out
  have hE := blk_below HSB.out.2.1 HB4.out
  have hZ := blk_below HSB.out.2.2 HB4.out
  have hs1 := (blk_cell hS 1).trans rfl
  have hf1 := blk_frozen hS 1
  have HC4 := Aside0.mk (Kd.C_below (Kd.C_below HC.out HBw.out) HB4.out)
  have HBw4 := Aside0.mk (below_step HBw.out HB4.out)
  have HSB4 := Aside0.mk (And.intro hS (And.intro hE hZ))
  clear hS hE hZ HSB HC HK
  clear HB4 HBw
  have hlt4 : w.heap.size + 2 < w4.heap.size := blk_lt HSB4.out.2.2
  go_upto_region 7 with (go_at_call 27; refine (clone_calls A c s.l w4 HC4.out hc (by omega)).mono ?_; rintro x w5 ⟨v, rfl, hR5, hb5⟩; obtain ⟨A1, c1, rfl, hlc1, hC5⟩ := Kd.R_reads hR5; have hf5 := blk_frozen (blk_below HSB4.out.1 hb5) 1; have hc5 := (blk_cell (blk_below HSB4.out.1 hb5) 1).trans rfl; clear hs1 hf1)
  have I1 : Inv w (w5.setCell ⟨w.heap.size, 1, none⟩ (.slice A1 s.l.length c1)) (.slice A1 s.l.length c1) s e :=
    ⟨blk_put (blk_below HSB4.out.1 hb5) 1 _ rfl, blk_far (blk_below HSB4.out.2.1 hb5) (p := ⟨w.heap.size, 1, none⟩) (by simp) _, blk_far (blk_below HSB4.out.2.2 hb5) (p := ⟨w.heap.size, 1, none⟩) (by simp) _,
      Kd.R_set (Kd.R_lower hR5 (by omega)) (blk_below HSB4.out.1 hb5) (by decide) 1 _, (below_step HBw4.out hb5).setCell (p := ⟨w.heap.size, 1, none⟩) (Nat.le_refl _) _⟩
  generalize w5.setCell ⟨w.heap.size, 1, none⟩ (.slice A1 s.l.length c1) = wa at I1 ⊢
  clear hR5 hb5 hf5 hc5 hC5 HSB4 HC4 HBw4 hlt4 g1 g2 g3 hmx
  have HI := Aside0.mk I1
  have cs1 := (blk_cell I1.hs 1).trans rfl
  have cf1 := blk_frozen I1.hs 1
  have ce1 := (blk_cell I1.he 1).trans rfl
  have ce2 := (blk_cell I1.he 2).trans rfl
  have ce5 := (blk_cell I1.he 5).trans rfl
  clear I1
  go_upto_if 60 with (fail)
  go_cut [] (fun wc => ∃ A2 c2, (st1 s e).l.length ≤ c2 ∧ Inv w wc (.slice A2 (st1 s e).l.length c2) (st1 s e) e)
  case first =>
    cases hR : e.hasRate
    · go_wp2
      go_meet
      case rel =>
        have e1 : st1 s e = s := by unfold st1; rw [if_neg (by simp [hR])]
        rw [e1]
        exact ⟨A1, c1, hlc1, HI.out⟩
    · have e1 : st1 s e = { s with l := putL s.l e.rnd e.rate } := by unfold st1; rw [if_pos hR]
      have HP := Aside0.mk (show putF s.l e.rnd e.rate = some (putL s.l e.rnd e.rate) from by unfold putF putL; rw [if_pos (by omega)])
      go_wp2_with (go_at_call 23; refine (put_calls A1 c1 s.l e.rnd e.rate _ wa ?sd1 hlc1 HP.out).mono ?_; (case sd1 => obtain ⟨A9, c9, e9, _, h9⟩ := Kd.R_reads HI.out.hR; cases e9; exact h9); rintro x w6 ⟨v, rfl, hR6, hb6⟩; obtain ⟨A2, c2, rfl, hlc2, hC6⟩ := Kd.R_reads hR6; have hf6 := blk_frozen (blk_below HI.out.hs hb6) 1; have hc6 := (blk_cell (blk_below HI.out.hs hb6) 1).trans rfl)
      go_meet
      case rel =>
        rw [e1]
        have J := HI.out.below hb6
        exact ⟨A2, c2, hlc2, blk_put J.hs 1 _ rfl, blk_far J.he (p := ⟨w.heap.size, 1, none⟩) (by simp) _, blk_far J.hz (p := ⟨w.heap.size, 1, none⟩) (by simp) _, Kd.R_set (Kd.R_lower hR6 (by have := blk_lt HI.out.hs; omega)) J.hs (by decide) 1 _, J.hB.setCell (p := ⟨w.heap.size, 1, none⟩) (Nat.le_refl _) _⟩
  case rest =>
    have HOB := Aside0.mk (okB.mk (may_allB _ HOK.out.2.2.1) HOK.out.2.2.2.1 HOK.out.2.2.2.2.1 HOK.out.2.2.2.2.2.1 HOK.out.2.2.2.2.2.2.1 HOK.out.2.2.2.2.2.2.2.1 HOK.out.2.1)
    obtain ⟨A2, c2, hlc2, I2⟩ := hcut
    refine ‹∀ (a : Act) (w : World), Code.wp Try.prog _ _ a w → _› _ _ ?_
    exact ack_part2 A2 c2 (st1 s e) s e mss w wc hlc2 I2 (ok1 HOB.out HOE.out) HOE.out s6 H6.out _ _ _ _ _ _ _ _ _ _ _ _ _ _ _ _ _ _ _ _ _ _ _ _ _ _ _ _ _ _ _ _ _ _ _ _ _ _ _ _ _ _ _ _ _ _ _ _ _ _ _ _ _ _ _ _ _ _ _ _ _ _ _ _ _ _ _ _ _ _ _ _ _ _ _ _ _ _ _ _ _ _ _ _ _ _ _ _ _ _ _ _ _ _ _ _ _ _ _ _ _ _ _ _ _ _ _ _ _ _ _ _ _ _ _ _ _ _ _ _ _ _ _ _ _ _ _ _ _ _ _ _ _ _ _ _ _ _ _ _ _ _ _ _ _ _ _ _ _ _ _ _ _ _ _ _ _ _

instance (s : B) (e : Ev1) (mss : Int) : Decidable (okE s e mss) := by unfold okE; infer_instance
/-- What follows of an event, where it is answered. -/
def ackB (s : B) (e : Ev1) : B := st6 (st5 (st4 (st3 (st2 (st1 s e) e) e) e) e) e (oldS (st2 (st1 s e) e) e)
def ackF (a0_0 : Int) (l0_1 : List (S36)) (a0_2 : Bool) (a0_3 : Int) (a0_4 : Int) (a0_5 : Bool) (a0_6 : Int) (a0_7 : Int) (a0_8 : Int) (a0_9 : Int) (a0_10 : Int) (a0_11 : Int) (a1 : Int) (a2_0 : Int) (a2_1 : Int) (a2_2 : Int) (a2_3 : Int) (a2_4 : Int) (a2_5 : Bool) (a2_6 : Bool) : Option (Int × (List (S36)) × Bool × Int × Int × Bool × Int × Int × Int × Int × Int × Int × Int) :=
  if okS l0_1 a0_0 a0_3 a0_4 a0_6 a0_7 a0_8 a0_9 a0_10 a0_11 ∧ okE ⟨a0_0, l0_1, a0_2, a0_3, a0_4, a0_5, a0_6, a0_7, a0_8, a0_9, a0_10, a0_11⟩ ⟨a2_0, a2_1, a2_2, a2_3, a2_4, a2_5, a2_6⟩ a1 then
    let s6 := ackB ⟨a0_0, l0_1, a0_2, a0_3, a0_4, a0_5, a0_6, a0_7, a0_8, a0_9, a0_10, a0_11⟩ ⟨a2_0, a2_1, a2_2, a2_3, a2_4, a2_5, a2_6⟩
    some (s6.ph, s6.l, s6.hr, s6.rt, s6.ra, s6.fu, s6.fr, s6.fn, s6.cy, s6.ca, s6.un, s6.rd, 0)
  else none
theorem ack_calls (a0_0 : Int) (A0_1 : Option Addr) (c0_1 : Nat) (l0_1 : List (S36)) (a0_2 : Bool) (a0_3 : Int) (a0_4 : Int) (a0_5 : Bool) (a0_6 : Int) (a0_7 : Int) (a0_8 : Int) (a0_9 : Int) (a0_10 : Int) (a0_11 : Int) (a1 : Int) (a2_0 : Int) (a2_1 : Int) (a2_2 : Int) (a2_3 : Int) (a2_4 : Int) (a2_5 : Bool) (a2_6 : Bool) (r1 : Int) (r2 : List (S36)) (r3 : Bool) (r4 : Int) (r5 : Int) (r6 : Bool) (r7 : Int) (r8 : Int) (r9 : Int) (r10 : Int) (r11 : Int) (r12 : Int) (r13 : Int) (w : World) (hr0_1 : Kd.C k36 w A0_1 l0_1.length l0_1) (hc0_1 : l0_1.length ≤ c0_1) (h : ackF a0_0 l0_1 a0_2 a0_3 a0_4 a0_5 a0_6 a0_7 a0_8 a0_9 a0_10 a0_11 a1 a2_0 a2_1 a2_2 a2_3 a2_4 a2_5 a2_6 = some (r1, r2, r3, r4, r5, r6, r7, r8, r9, r10, r11, r12, r13)) :
    Calls Try.prog 15 #[.agg #[.int .i64 a0_0, .slice A0_1 l0_1.length c0_1, .bool a0_2, .int .i64 a0_3, .int .i64 a0_4, .bool a0_5, .int .i64 a0_6, .int .i64 a0_7, .int .i64 a0_8, .int .i64 a0_9, .int .i64 a0_10, .int .i64 a0_11], .int .i64 a1, .agg #[.int .i64 a2_0, .int .i64 a2_1, .int .i64 a2_2, .int .i64 a2_3, .int .i64 a2_4, .bool a2_5, .bool a2_6]] w fun e w' => ∃ v1_ : Value, e = .returned (.tuple #[.agg #[.int .i64 r1, v1_, .bool r3, .int .i64 r4, .int .i64 r5, .bool r6, .int .i64 r7, .int .i64 r8, .int .i64 r9, .int .i64 r10, .int .i64 r11, .int .i64 r12], .int .i64 r13]) ∧ Kd.R k36 36 w' w.heap.size (fun _ => True) v1_ r2 ∧ Below w.heap.size w w' := by
  unfold ackF at h
  by_cases hc : okS l0_1 a0_0 a0_3 a0_4 a0_6 a0_7 a0_8 a0_9 a0_10 a0_11 ∧ okE ⟨a0_0, l0_1, a0_2, a0_3, a0_4, a0_5, a0_6, a0_7, a0_8, a0_9, a0_10, a0_11⟩ ⟨a2_0, a2_1, a2_2, a2_3, a2_4, a2_5, a2_6⟩ a1
  · rw [if_pos hc] at h
    simp only [Option.some.injEq, Prod.mk.injEq] at h
    obtain ⟨rfl, rfl, rfl, rfl, rfl, rfl, rfl, rfl, rfl, rfl, rfl, rfl, rfl⟩ := h
    exact ack_walk A0_1 c0_1 ⟨a0_0, l0_1, a0_2, a0_3, a0_4, a0_5, a0_6, a0_7, a0_8, a0_9, a0_10, a0_11⟩ ⟨a2_0, a2_1, a2_2, a2_3, a2_4, a2_5, a2_6⟩ a1 w hr0_1 hc0_1 hc.1 hc.2 _ rfl
  · rw [if_neg hc] at h
    exact absurd h (by simp)
end Go.Proofs.Ytodlibmnmjopbaa.Hand
