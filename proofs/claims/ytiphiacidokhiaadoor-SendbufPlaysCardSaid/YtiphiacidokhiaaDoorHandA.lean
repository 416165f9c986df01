/- Chapter 15: Ack of any buffer. -/
import Derived.Test.YtiphiacidokhiaaDoorHandZ
namespace Go.Proofs.YtiphiacidokhiaaDoor.Hand
open Go.RowKit Go.Proofs.YtiphiacidokhiaaDoorW.PrintWords Go.Proofs.YtiphiacidokhiaaDoorW.PrintLast Go.Proofs.YtiphiacidokhiaaDoorW.PrintMore
set_option linter.unusedVariables false
set_option linter.unusedSimpArgs false
attribute [local go_sem] Oper.semAt_some
set_option maxHeartbeats 4000000 in
set_option maxRecDepth 100000 in
theorem ack_gen (g R sz fr n o : Nat) (una q : Int) (hs : 1 ≤ sz ∧ sz ≤ 1048576) (hf : fr < sz) (hn : n ≤ sz) (ho : (q - una) % 4294967296 = (o : Int)) (hon : o ≤ n) (w : World) (hb : w.heap[g]? = some (.cells (c4 R sz fr n una) 59 (0, 0))) :
    Calls Tryd.prog 11 #[.pointer (some ⟨g, 0, none⟩), .int .u32 q] w fun e w' => e = .returned (.tuple #[.int .i64 o, .int .i64 0]) ∧ w'.heap[g]? = some (.cells (c4 R sz (((fr + o) % sz : Nat) : Int) ((n - o : Nat) : Int) q) 59 (0, 0)) ∧ w.grownBy w' (some g) := by
  have h0 := (blk_cell hb 0).trans rfl
  have h1 := (blk_cell hb 1).trans rfl
  have h2 := (blk_cell hb 2).trans rfl
  have h3 := (blk_cell hb 3).trans rfl
  have HB := Aside0.mk hb
  obtain ⟨p, hp⟩ : ∃ p : Nat, p = (fr + o) % sz := ⟨_, rfl⟩
  have hmod : Int.tmod ((fr : Int) + (o : Int)) (sz : Int) = (p : Int) := by
    rw [hp, Int.tmod_eq_emod_of_nonneg (by omega)]; simp
  have HW : Aside0 (wrap64 ((fr : Int) + (o : Int)) = (fr : Int) + (o : Int)) := ⟨hw0_ fr o sz hs.2 hf (Nat.le_trans hon hn)⟩
  have HP := Aside0.mk hp
  have hz0 : ¬ sz = 0 := by omega
  have hno : ((n - o : Nat) : Int) = (n : Int) - (o : Int) := by omega
  have ho' : (o : Int) ≤ (n : Int) := by omega
  have hn2 : (n : Int) ≤ 1048576 := by omega
  rw [← hp, hno]
  clear hb hp hno
  go_enter Tryd.func11, Tryd.ntmps11
  go_wp2_with (go_at_call 31; refine (none_calls g R sz fr n una w HB.out).mono ?_; rintro x w1 ⟨rfl, rfl⟩)
  refine start_ (n := 16) (S := fun w' => w'.cell? ⟨g, 0, none⟩ = some (.slice (some ⟨R, 0, none⟩) sz sz) ∧ w'.cell? ⟨g, 1, none⟩ = some (.int .i64 fr)) (ds := [15]) (bs 16 0) (by kernel_rfl) rfl rfl ⟨(blk_cell HB.out 0).trans rfl, (blk_cell HB.out 1).trans rfl⟩ (fun hHeld => ?_)
  generalize hwd : World.drew _ = wd at hHeld ⊢
  have hh : wd.heap = w.heap := by rw [← hwd]; rfl
  have BW : Aside0 (∀ n₀, Below n₀ w wd) := ⟨fun n₀ => by rw [← hwd]; exact ⟨rfl, rfl, rfl, Nat.le_refl _, fun _ _ => rfl⟩⟩
  clear hwd h0 h1 h2 h3
  have hbd : wd.heap[g]? = some (.cells (c4 R sz fr n una) 59 (0, 0)) := by rw [hh]; exact HB.out
  have f1 := blk_frozen hbd 1
  have c1 : wd.cell? ⟨g, 1, none⟩ = some (.int .i64 fr) := (blk_cell hbd 1).trans rfl
  have hw0 := HW.out
  refine pure_ (i := 0) (N := some 22) (v := ?_) (a' := ?_) (bs 16 1) rfl rfl (by kernel_rfl) (fun _ _ _ h => h) (Or.inl ⟨by rfl, ?_⟩) ?_ ?_; rotate_left; (intro w'; go_simp; with_reducible rfl); rotate_left; (simp only [Act.put, q1_, q2_, q3_, i64_w, i32_w]; rfl)
  refine pure_ (i := 1) (N := some 23) (v := ?_) (a' := ?_) (bs 16 3) rfl rfl (by kernel_rfl) (fun _ _ _ h => h) (Or.inl ⟨by rfl, ?_⟩) ?_ ?_; rotate_left; (intro w'; go_simp; with_reducible rfl); rotate_left; (simp only [Act.put, q1_, q2_, q3_, i64_w, i32_w]; rfl)
  refine pure_ (i := 2) (N := some 24) (v := ?_) (a' := ?_) (bs 16 7) rfl rfl (by kernel_rfl) (fun _ _ _ h => h) (Or.inl ⟨by rfl, ?_⟩) ?_ ?_; rotate_left; (intro w'; go_simp; with_reducible rfl); rotate_left; (simp only [Act.put, q1_, q2_, q3_, i64_w, i32_w]; rfl)
  refine pure_ (i := 3) (N := some 25) (v := ?_) (a' := ?_) (bs 16 15) rfl rfl (by kernel_rfl) (fun _ _ _ h => h) (Or.inl ⟨by rfl, ?_⟩) ?_ ?_; rotate_left; (intro w'; go_simp; with_reducible rfl); rotate_left; (simp only [Act.put, q1_, q2_, q3_, i64_w, i32_w]; rfl)
  refine pure_ (i := 5) (N := some 27) (v := ?_) (a' := ?_) (bs 16 47) rfl rfl (by kernel_rfl) (fun _ _ _ h => h) (Or.inl ⟨by rfl, ?_⟩) ?_ ?_; rotate_left; (intro w'; go_simp; with_reducible rfl); rotate_left; (simp only [Act.put, q1_, q2_, q3_, i64_w, i32_w]; rfl)
  refine pure_ (i := 7) (N := some 29) (v := ?_) (a' := ?_) (bs 16 175) rfl rfl (by kernel_rfl) (fun _ _ _ h => h) (Or.inl ⟨by rfl, ?_⟩) ?_ ?_; rotate_left; (intro w'; go_simp; with_reducible rfl); rotate_left; (simp only [Act.put, q1_, q2_, q3_, i64_w, i32_w]; rfl)
  refine pure_ (i := 8) (N := some 30) (v := ?_) (a' := ?_) (bs 16 431) rfl rfl (by kernel_rfl) (fun _ _ _ h => h) (Or.inl ⟨by rfl, ?_⟩) ?_ ?_; rotate_left; (intro w'; go_simp; with_reducible rfl); rotate_left; (simp only [Act.put, q1_, q2_, q3_, i64_w, i32_w]; rfl)
  refine pure_ (i := 9) (N := some 31) (v := ?_) (a' := ?_) (bs 16 943) rfl rfl (by kernel_rfl) (fun _ _ _ h => h) (Or.inl ⟨by rfl, ?_⟩) ?_ ?_; rotate_left; (intro w'; go_simp; with_reducible rfl); rotate_left; (simp only [Act.put, q1_, q2_, q3_, i64_w, i32_w]; rfl)
  refine take_ (i := 4) (N := some 26) (v := ?_) (a' := ?_) (bs 16 959) rfl rfl (by kernel_rfl) (fun _ _ _ h => h) (Or.inl ⟨by rfl, ?_⟩) hHeld ?_ ?_; rotate_left; (rintro w' ⟨s0, s1⟩; go_simp; with_reducible rfl); rotate_left; (simp only [Act.put, q1_, q2_, q3_, i64_w, i32_w]; rfl)
  refine pure_ (i := 6) (N := some 28) (v := ?_) (a' := ?_) (bs 16 1023) rfl rfl (by kernel_rfl) (fun _ _ _ h => h) (Or.inl ⟨by rfl, ?_⟩) ?_ ?_; rotate_left; (intro w'; go_simp; with_reducible rfl); rotate_left; (simp only [Act.put, q1_, q2_, q3_, i64_w, i32_w]; rfl)
  refine take_ (i := 10) (N := some 32) (v := ?_) (a' := ?_) (bs 16 2047) rfl rfl (by kernel_rfl) (fun _ _ _ h => h) (Or.inl ⟨by rfl, ?_⟩) hHeld ?_ ?_; rotate_left; (rintro w' ⟨s0, s1⟩; go_simp; with_reducible rfl); rotate_left; (simp only [Act.put, q1_, q2_, q3_, i64_w, i32_w]; rfl)
  refine pure_ (i := 11) (N := some 33) (v := ?_) (a' := ?_) (bs 16 4095) rfl rfl (by kernel_rfl) (fun _ _ _ h => h) (Or.inl ⟨by rfl, ?_⟩) ?_ ?_; rotate_left; (intro w'; go_simp; with_reducible rfl); rotate_left; (simp only [Act.put, q1_, q2_, q3_, i64_w, i32_w]; rfl)
  refine pure_ (i := 12) (N := some 34) (v := ?_) (a' := ?_) (bs 16 8191) rfl rfl (by kernel_rfl) (fun _ _ _ h => h) (Or.inl ⟨by rfl, ?_⟩) ?_ ?_; rotate_left; (intro w'; go_simp; with_reducible rfl); rotate_left; (simp only [Act.put, q1_, q2_, q3_, i64_w, i32_w]; rfl)
  refine pure_ (i := 13) (N := some 35) (v := ?_) (a' := ?_) (bs 16 16383) rfl rfl (by kernel_rfl) (fun _ _ _ h => h) (Or.inl ⟨by rfl, ?_⟩) ?_ ?_; rotate_left; (intro w'; go_simp; with_reducible rfl); rotate_left; (simp only [Act.put, q1_, q2_, q3_, i64_w, i32_w]; rfl)
  refine pure_ (i := 14) (N := some 36) (v := ?_) (a' := ?_) (bs 16 32767) rfl rfl (by kernel_rfl) (fun _ _ _ h => h) (Or.inl ⟨by rfl, ?_⟩) ?_ ?_; rotate_left; (intro w'; go_simp; with_reducible rfl); rotate_left; (simp only [Act.put, q1_, q2_, q3_, i64_w, i32_w]; rfl)
  refine last_ (i := 15) (N := none) (bs 16 65535) rfl rfl (by kernel_rfl) (by decide) (fun K hK => ?_)
  refine skip_ (w1 := wd.setCell ⟨g, 1, none⟩ (.int .i64 p)) (by rfl) rfl (by go_simp) ?_
  refine hK.out _ _ ?_; clear hK K
  refine done_ (by kernel_rfl) ?_
  have hb9 : (wd.setCell ⟨g, 1, none⟩ (.int .i64 p)).heap[g]? = some (.cells (c4 R sz p n una) 59 (0, 0)) := blk_put hbd 1 (.int .i64 p) rfl
  have hgr : w.grownBy (wd.setCell ⟨g, 1, none⟩ (.int .i64 p)) (some g) := gb_set (gb_below (BW.out _)) 1 _
  generalize wd.setCell ⟨g, 1, none⟩ (.int .i64 p) = wf at hb9 hgr ⊢
  have HB9 := Aside0.mk hb9
  have HGR := Aside0.mk hgr
  have c2 := (blk_cell hb9 2).trans rfl
  have f2 := blk_frozen hb9 2
  have c3 := (blk_cell hb9 3).trans rfl
  have f3 := blk_frozen hb9 3
  clear hHeld hh BW hbd f1 c1 hw0 hmod hb9 hgr HB
  go_wp2
  go_ret2
  exact ⟨rfl, blk_put (blk_put HB9.out 2 (.int .i64 _) rfl) 3 (.int .u32 q) rfl, gb_set (gb_set HGR.out _ _) _ _⟩
end Go.Proofs.YtiphiacidokhiaaDoor.Hand
