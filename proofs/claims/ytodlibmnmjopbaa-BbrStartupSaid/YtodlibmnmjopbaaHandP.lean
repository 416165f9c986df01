/- The contract of bbr's put: what it computes, by hand. -/
import Derived.Test.YtodlibmnmjopbaaHandD
import Derived.Deep.QuietTactic
import Derived.BigQuiet
import Derived.Test.YtodlibmnmjopbaaUtil
namespace Go.Proofs.Ytodlibmnmjopbaa.Hand
open Go.RowKit Go.Proofs.YtodlibmnmjopbaaW.PrintWords Go.Proofs.YtodlibmnmjopbaaW.PrintLast Go.Proofs.YtodlibmnmjopbaaW.PrintMore Go.Proofs.Ytodlibmnmjopbaa.PA
set_option linter.unusedVariables false
set_option linter.unusedSimpArgs false
attribute [local go_sem] Oper.semAt_some max2_int max_two

/-- The rate that is put: the greater one, if the last pair is of the same round. -/
def bump (l : List S36) (pr pt : Int) : Int := if 0 < l.length ∧ (rd_T36 l ((l.length : Int) - 1)).f0 = pr then mx pt (rd_T36 l ((l.length : Int) - 1)).f1 else pt
def putF (l : List S36) (pr pt : Int) : Option (List S36) := if l.length ≤ 1000000 then some (l.filter (keep pr (bump l pr pt)) ++ [⟨pr, bump l pr pt⟩]) else none
theorem delete_calls (g b c : Nat) (pr pt : Int) (l : List S36) (n : Nat) (hn : l.length = n) (hn0 : 0 < n) (hs : n ≤ 1000000) (hcm : c ≤ maxLen) (hne : b ≠ g) (w : World) (h : RowP w g c l) (hb : w.heap[b]? = some (.cells #[.int .i64 pr, .int .i64 pt] 36)) :
    Calls Try.prog 39 #[.slice (some ⟨g, 0, none⟩) n c, .func (.func 40) #[] #[.pointer (some ⟨b, 0, none⟩)]] w fun e w' => e = .returned (.slice (some ⟨g, 0, none⟩) (l.filter (keep pr pt)).length c) ∧ RowP w' g c (l.filter (keep pr pt)) ∧ w.grownBy w' (some g) := by
  have hlc : n ≤ c := by obtain ⟨_, _, _, h3, _⟩ := h; omega
  rcases first_cases pr pt l with ⟨g1, g2⟩ | ⟨k0, hk0, g1, _, g2⟩
  · refine (delete_none (some ⟨g, 0, none⟩) g b c pr pt l n hn hs hlc (fun _ => rfl) w h.pairs (fun _ => h.lt) hb g1).mono ?_
    rintro e w' ⟨rfl, hB⟩
    rw [g2, hn]
    exact ⟨rfl, h.at (hB.block _ h.lt), below_grown hB⟩
  · exact delete_some g b c pr pt l n hn hs hcm hne w h hb k0 (by omega) g1 g2
set_option maxHeartbeats 8000000 in
set_option maxRecDepth 100000 in
theorem put_ne (A : Option Addr) (c : Nat) (l : List S36) (pr pt : Int) (w : World) (hr : Kd.C k36 w A l.length l) (hc : l.length ≤ c) (hs : l.length ≤ 1000000) (P0 : Int) (hP : pt = P0) (q : S36) (hq : l[l.length - 1]? = some q) (hne : q.f0 ≠ pr) :
    Calls Try.prog 23 #[.slice A l.length c, .agg #[.int .i64 pr, .int .i64 pt]] w fun e w' => ∃ v0_ : Value, e = .returned (v0_) ∧ Kd.R k36 36 w' w.heap.size (fun _ => True) v0_ (l.filter (keep pr P0) ++ [⟨pr, P0⟩]) ∧ Below w.heap.size w w' := by
  have hcl := clone_calls A c l (w.alloc (.cells #[.int .i64 pr, .int .i64 pt] 36)) (Kd.C_below hr (below_alloc (Below.refl _ _) _)) hc hs
  rw [World.size_alloc] at hcl
  have HC := Aside0.mk hcl
  obtain ⟨n, hn⟩ : ∃ n, l.length = n := ⟨_, rfl⟩
  have HN := Aside0.mk hn
  clear hr hcl
  rw [hn] at hc hs ⊢
  rw [hn] at hq
  subst hP
  have hn0 : 0 < n := by have h := (List.getElem?_eq_some_iff.1 hq).1; omega
  clear hn
  obtain ⟨F, hF⟩ : ∃ F, l.filter (keep pr pt) = F := ⟨_, rfl⟩
  rw [hF]
  have HF := Aside0.mk hF
  have hfl : F.length ≤ n := by rw [← hF, ← HN.out]; exact List.length_filter_le _ _
  clear hF
  go_enter Try.func23, Try.ntmps23
  go_upto_region 2 with (go_at_call 27; have HC2 := HC.out; rw [HN.out] at HC2; refine HC2.mono ?_; rintro e w1 ⟨v, rfl, hR1, hB1⟩)
  have hbx : w1.heap[w.heap.size]? = some (.cells #[.int .i64 pr, .int .i64 pt] 36) := (hB1.block _ (Nat.lt_succ_self _)).trans (World.alloc_heap_new w _)
  have hBW : Below w.heap.size w w1 := (below_alloc (Below.refl _ _) _).trans (hB1.mono (Nat.le_succ _))
  obtain ⟨g, c1, rfl, hgb, hc1, hrow⟩ := RowP.ofR hR1 (by have := HN.out; omega)
  rw [HN.out]
  obtain ⟨c0, c1x⟩ := blk2 hbx
  have hl1 : n - 1 < l.length := by have := HN.out; omega
  obtain ⟨y0, y1⟩ := hrow.pairs (n - 1) hl1
  rw [(List.getElem?_eq_some_iff.1 hq).2] at y0 y1
  have hqb : (q.f0 == pr) = false := beq_eq_false_iff_ne.2 hne
  have HQ := Aside0.mk hq
  have H1 := Aside0.mk (And.intro hbx (And.intro hBW (And.intro hrow hgb)))
  clear hbx hBW hrow hR1 hB1 hgb hq
  go_wp2
  go_quiet (fail)
  have HM : Aside0 ((w1.drewN nq).heap[w.heap.size]? = some (.cells #[.int .i64 pr, .int .i64 pt] 36) ∧ Below w.heap.size w (w1.drewN nq) ∧ RowP (w1.drewN nq) g c1 l ∧ w.heap.size + 1 ≤ g) := ⟨H1.out.1, pw_below_drewN H1.out.2.1 _, H1.out.2.2.1, H1.out.2.2.2⟩
  generalize w1.drewN nq = wm at *
  go_wp2_with (first
    | (go_at_call 39; refine (delete_calls g w.heap.size c1 pr pt l n HN.out hn0 hs hc1 (by have := HM.out.2.2.2; omega) _ HM.out.2.2.1 HM.out.1).mono ?_; rintro e w5 ⟨rfl, hr5, hg5⟩; rw [HF.out] at hr5 ⊢; have hb5 := (hg5.block w.heap.size (blk_lt HM.out.1) (fun e => by have h1 := Option.some.inj e; have h2 := HM.out.2.2.2; omega)).trans HM.out.1; obtain ⟨z0, z1⟩ := blk2 hb5; have H5 := Aside0.mk (And.intro (hr5.toR (base := w.heap.size) (by have := HM.out.2.2.2; omega) hc1) (HM.out.2.1.grown hg5 HM.out.2.1.size (fun k e => by have h1 := Option.some.inj e; have h2 := HM.out.2.2.2; omega))); clear hr5 hg5 hb5)
    | (at_builtin; go_loud (refine Kd.R_append k36 (w0 := w) w.heap.size rfl _ _ 23 36 (.agg #[(.int .i64 0), (.int .i64 0)]) 16 rfl Try.underlying23 info36 rfl (by decide) (by decide) (.slice (some ⟨g, 0, none⟩) F.length c1) F ⟨pr, pt⟩ [.int .i64 pr, .int .i64 pt] (fun _ => True) (fun _ => False) rfl rfl (k36_mkM _ _ _ _) (fun _ h => h.elim) (fun _ _ => trivial) H5.out.1 H5.out.2 H5.out.2.size (by omega) ?_); intro v' w6 ho hb _ _))
  go_ret
  exact ⟨_, rfl, ho, hb⟩
set_option maxHeartbeats 8000000 in
set_option maxRecDepth 100000 in
theorem put_eq (A : Option Addr) (c : Nat) (l : List S36) (pr pt : Int) (w : World) (hr : Kd.C k36 w A l.length l) (hc : l.length ≤ c) (hs : l.length ≤ 1000000) (P0 : Int) (q : S36) (hP : (if pt < q.f1 then q.f1 else pt) = P0) (hq : l[l.length - 1]? = some q) (heq : q.f0 = pr) :
    Calls Try.prog 23 #[.slice A l.length c, .agg #[.int .i64 pr, .int .i64 pt]] w fun e w' => ∃ v0_ : Value, e = .returned (v0_) ∧ Kd.R k36 36 w' w.heap.size (fun _ => True) v0_ (l.filter (keep pr P0) ++ [⟨pr, P0⟩]) ∧ Below w.heap.size w w' := by
  have hcl := clone_calls A c l (w.alloc (.cells #[.int .i64 pr, .int .i64 pt] 36)) (Kd.C_below hr (below_alloc (Below.refl _ _) _)) hc hs
  rw [World.size_alloc] at hcl
  have HC := Aside0.mk hcl
  obtain ⟨n, hn⟩ : ∃ n, l.length = n := ⟨_, rfl⟩
  have HN := Aside0.mk hn
  clear hr hcl
  rw [hn] at hc hs ⊢
  rw [hn] at hq
  have hn0 : 0 < n := by have h := (List.getElem?_eq_some_iff.1 hq).1; omega
  clear hn
  obtain ⟨F, hF⟩ : ∃ F, l.filter (keep pr P0) = F := ⟨_, rfl⟩
  rw [hF]
  have HF := Aside0.mk hF
  have hfl : F.length ≤ n := by rw [← hF, ← HN.out]; exact List.length_filter_le _ _
  clear hF
  go_enter Try.func23, Try.ntmps23
  go_upto_region 2 with (go_at_call 27; have HC2 := HC.out; rw [HN.out] at HC2; refine HC2.mono ?_; rintro e w1 ⟨v, rfl, hR1, hB1⟩)
  have hbx : w1.heap[w.heap.size]? = some (.cells #[.int .i64 pr, .int .i64 pt] 36) := (hB1.block _ (Nat.lt_succ_self _)).trans (World.alloc_heap_new w _)
  have hBW : Below w.heap.size w w1 := (below_alloc (Below.refl _ _) _).trans (hB1.mono (Nat.le_succ _))
  obtain ⟨g, c1, rfl, hgb, hc1, hrow⟩ := RowP.ofR hR1 (by have := HN.out; omega)
  rw [HN.out]
  obtain ⟨c0, c1x⟩ := blk2 hbx
  have hl1 : n - 1 < l.length := by have := HN.out; omega
  obtain ⟨y0, y1⟩ := hrow.pairs (n - 1) hl1
  rw [(List.getElem?_eq_some_iff.1 hq).2] at y0 y1
  have hqb : (q.f0 == pr) = true := beq_iff_eq.2 heq
  have HQ := Aside0.mk hq
  have H1 := Aside0.mk (And.intro hbx (And.intro hBW (And.intro hrow hgb)))
  clear hbx hBW hrow hR1 hB1 hgb hq
  go_wp2
  go_quiet (fail)
  have HW : Aside0 ((w1.drewN nq).heap[w.heap.size]? = some (.cells #[.int .i64 pr, .int .i64 pt] 36) ∧ Below w.heap.size w (w1.drewN nq) ∧ RowP (w1.drewN nq) g c1 l ∧ w.heap.size + 1 ≤ g) := ⟨H1.out.1, pw_below_drewN H1.out.2.1 _, H1.out.2.2.1, H1.out.2.2.2⟩
  have v1 : (w1.drewN nq).cell? ⟨w.heap.size, 1, none⟩ = some (.int .i64 pt) := c1x
  have v2 : (w1.drewN nq).cell? ⟨g, (n - 1) * 2 + 1, none⟩ = some (.int .i64 q.f1) := y1
  clear H1 c0 c1x y0 y1
  generalize w1.drewN nq = wq at *
  have hn63 : ((n : Int) - 1).toNat = n - 1 := by omega
  have hw1 : wrap64 ((n : Int) - 1) = (n : Int) - 1 := Go.Proofs.Ytodlibmnmjopbaa.Util.wrap_id (by omega) (by omega)
  go_wp2
  refine start_ (n := 11) (S := fun w' => w'.cell? ⟨w.heap.size, 1, none⟩ = some (.int .i64 pt) ∧ w'.cell? ⟨g, (n - 1) * 2 + 1, none⟩ = some (.int .i64 q.f1)) (ds := [10]) (bs 11 0) (by kernel_rfl) rfl rfl ⟨v1, v2⟩ (fun hHeld => ?_)
  have HX : Aside0 (wq.drew.heap[w.heap.size]? = some (.cells #[.int .i64 pr, .int .i64 pt] 36) ∧ Below w.heap.size w wq.drew ∧ RowP wq.drew g c1 l ∧ w.heap.size + 1 ≤ g) := ⟨HW.out.1, below_drew1 HW.out.2.1, HW.out.2.2.1, HW.out.2.2.2⟩
  clear HW v1 v2
  generalize wq.drew = wd at *
  refine pure_ (i := 0) (N := some 23) (v := ?_) (a' := ?_) (bs 11 1) rfl rfl (by kernel_rfl) (fun _ _ _ h => h) (Or.inl ⟨by rfl, ?_⟩) ?_ ?_; rotate_left; (intro w'; go_simp; with_reducible rfl); rotate_left; (simp only [Act.put, q1_, q2_, q3_, i64_w, i32_w]; rfl)
  refine take_ (i := 1) (N := some 24) (v := ?_) (a' := ?_) (bs 11 3) rfl rfl (by kernel_rfl) (fun _ _ _ h => h) (Or.inl ⟨by rfl, ?_⟩) hHeld ?_ ?_; rotate_left; (rintro w' ⟨s0, s1⟩; go_simp; with_reducible rfl); rotate_left; (simp only [Act.put, q1_, q2_, q3_, i64_w, i32_w]; rfl)
  refine pure_ (i := 2) (N := some 25) (v := ?_) (a' := ?_) (bs 11 7) rfl rfl (by kernel_rfl) (fun _ _ _ h => h) (Or.inl ⟨by rfl, ?_⟩) ?_ ?_; rotate_left; (intro w'; go_simp; with_reducible rfl); rotate_left; (simp only [Act.put, q1_, q2_, q3_, i64_w, i32_w]; rfl)
  refine pure_ (i := 3) (N := some 26) (v := ?_) (a' := ?_) (bs 11 15) rfl rfl (by kernel_rfl) (fun _ _ _ h => h) (Or.inl ⟨by rfl, ?_⟩) ?_ ?_; rotate_left; (intro w'; go_simp; with_reducible rfl); rotate_left; (simp only [Act.put, q1_, q2_, q3_, i64_w, i32_w]; rfl)
  refine pure_ (i := 4) (N := some 27) (v := ?_) (a' := ?_) (bs 11 31) rfl rfl (by kernel_rfl) (fun _ _ _ h => h) (Or.inl ⟨by rfl, ?_⟩) ?_ ?_; rotate_left; (intro w'; go_simp; with_reducible rfl); rotate_left; (simp only [Act.put, q1_, q2_, q3_, i64_w, i32_w]; rfl)
  refine pure_ (i := 5) (N := some 28) (v := ?_) (a' := ?_) (bs 11 63) rfl rfl (by kernel_rfl) (fun _ _ _ h => h) (Or.inl ⟨by rfl, ?_⟩) ?_ ?_; rotate_left; (intro w'; go_simp; rw [if_pos (by omega)]); rotate_left; (simp only [Act.put, q1_, q2_, q3_, i64_w, i32_w]; rfl)
  refine pure_ (i := 6) (N := some 29) (v := ?_) (a' := ?_) (bs 11 127) rfl rfl (by kernel_rfl) (fun _ _ _ h => h) (Or.inl ⟨by rfl, ?_⟩) ?_ ?_; rotate_left; (intro w'; go_simp; with_reducible rfl); rotate_left; (simp only [Act.put, q1_, q2_, q3_, i64_w, i32_w]; rfl)
  refine take_ (i := 7) (N := some 30) (v := ?_) (a' := ?_) (bs 11 255) rfl rfl (by kernel_rfl) (fun _ _ _ h => h) (Or.inl ⟨by rfl, ?_⟩) hHeld ?_ ?_; rotate_left; (rintro w' ⟨s0, s1⟩; go_simp; with_reducible rfl); rotate_left; (simp only [Act.put, q1_, q2_, q3_, i64_w, i32_w]; rfl)
  refine pure_ (i := 8) (N := some 31) (v := ?_) (a' := ?_) (bs 11 511) rfl rfl (by kernel_rfl) (fun _ _ _ h => h) (Or.inl ⟨by rfl, ?_⟩) ?_ ?_; rotate_left; (intro w'; go_simp; with_reducible rfl); rotate_left; (simp only [Act.put, q1_, q2_, q3_, i64_w, i32_w]; rfl)
  refine pure_ (i := 9) (N := some 32) (v := ?_) (a' := ?_) (bs 11 1023) rfl rfl (by kernel_rfl) (fun _ _ _ h => h) (Or.inl ⟨by rfl, ?_⟩) ?_ ?_; rotate_left; (intro w'; go_simp; with_reducible rfl); rotate_left; (simp only [Act.put, q1_, q2_, q3_, i64_w, i32_w]; rfl)
  refine last_ (i := 10) (N := none) (bs 11 2047) rfl rfl (by kernel_rfl) (by decide) (fun K hK => ?_)
  refine skip_ (w1 := wd.setCell ⟨w.heap.size, 1, none⟩ (.int .i64 P0)) (by rfl) rfl ?_ ?_
  · have hfz := Joins.unfrozen_of_block HX.out.1 1
    have hce := hHeld.1
    go_simp
  refine hK.out _ _ ?_; clear hK K
  refine done_ (by kernel_rfl) ?_
  have HM : Aside0 ((wd.setCell ⟨w.heap.size, 1, none⟩ (.int .i64 P0)).heap[w.heap.size]? = some (.cells #[.int .i64 pr, .int .i64 P0] 36) ∧ Below w.heap.size w (wd.setCell ⟨w.heap.size, 1, none⟩ (.int .i64 P0)) ∧ RowP (wd.setCell ⟨w.heap.size, 1, none⟩ (.int .i64 P0)) g c1 l ∧ w.heap.size + 1 ≤ g) :=
    ⟨Joins.block_setCell HX.out.1 _, HX.out.2.1.setCell (Nat.le_refl _) _, HX.out.2.2.1.at (Below.heap_setCell _ _ _ _ (by have := HX.out.2.2.2; show g ≠ w.heap.size; omega)), HX.out.2.2.2⟩
  generalize wd.setCell ⟨w.heap.size, 1, none⟩ (.int .i64 P0) = wm at *
  go_wp2_with (first
    | (go_at_call 39; refine (delete_calls g w.heap.size c1 pr P0 l n HN.out hn0 hs hc1 (by have := HM.out.2.2.2; omega) _ HM.out.2.2.1 HM.out.1).mono ?_; rintro e w5 ⟨rfl, hr5, hg5⟩; rw [HF.out] at hr5 ⊢; have hb5 := (hg5.block w.heap.size (blk_lt HM.out.1) (fun e => by have h1 := Option.some.inj e; have h2 := HM.out.2.2.2; omega)).trans HM.out.1; obtain ⟨z0, z1⟩ := blk2 hb5; have H5 := Aside0.mk (And.intro (hr5.toR (base := w.heap.size) (by have := HM.out.2.2.2; omega) hc1) (HM.out.2.1.grown hg5 HM.out.2.1.size (fun k e => by have h1 := Option.some.inj e; have h2 := HM.out.2.2.2; omega))); clear hr5 hg5 hb5)
    | (at_builtin; go_loud (refine Kd.R_append k36 (w0 := w) w.heap.size rfl _ _ 23 36 (.agg #[(.int .i64 0), (.int .i64 0)]) 16 rfl Try.underlying23 info36 rfl (by decide) (by decide) (.slice (some ⟨g, 0, none⟩) F.length c1) F ⟨pr, P0⟩ [.int .i64 pr, .int .i64 P0] (fun _ => True) (fun _ => False) rfl rfl (k36_mkM _ _ _ _) (fun _ h => h.elim) (fun _ _ => trivial) H5.out.1 H5.out.2 H5.out.2.size (by omega) ?_); intro v' w6 ho hb _ _))
  go_ret
  exact ⟨_, rfl, ho, hb⟩
set_option maxHeartbeats 8000000 in
set_option maxRecDepth 100000 in
theorem put_nil (A : Option Addr) (c : Nat) (l : List S36) (pr pt : Int) (w : World) (hr : Kd.C k36 w A l.length l) (hc : l.length ≤ c) (hs : l.length ≤ 1000000) (P0 : Int) (hP : pt = P0) (hn0 : l.length = 0) :
    Calls Try.prog 23 #[.slice A l.length c, .agg #[.int .i64 pr, .int .i64 pt]] w fun e w' => ∃ v0_ : Value, e = .returned (v0_) ∧ Kd.R k36 36 w' w.heap.size (fun _ => True) v0_ (l.filter (keep pr P0) ++ [⟨pr, P0⟩]) ∧ Below w.heap.size w w' := by
  have hcl := clone_calls A c l (w.alloc (.cells #[.int .i64 pr, .int .i64 pt] 36)) (Kd.C_below hr (below_alloc (Below.refl _ _) _)) hc hs
  rw [World.size_alloc] at hcl
  have HC := Aside0.mk hcl
  obtain ⟨n, hn⟩ : ∃ n, l.length = n := ⟨_, rfl⟩
  have HN := Aside0.mk hn
  clear hr hcl
  rw [hn] at hc hs ⊢
  rw [hn] at hn0
  subst hn0
  subst hP
  clear hn
  go_enter Try.func23, Try.ntmps23
  go_upto_region 2 with (go_at_call 27; have HC2 := HC.out; rw [HN.out] at HC2; refine HC2.mono ?_; rintro e w1 ⟨v, rfl, hR1, hB1⟩)
  have hbx : w1.heap[w.heap.size]? = some (.cells #[.int .i64 pr, .int .i64 pt] 36) := (hB1.block _ (Nat.lt_succ_self _)).trans (World.alloc_heap_new w _)
  have hBW : Below w.heap.size w w1 := (below_alloc (Below.refl _ _) _).trans (hB1.mono (Nat.le_succ _))
  obtain rfl : l = [] := List.eq_nil_of_length_eq_zero HN.out
  obtain ⟨A1, c1, rfl, hlc, hC1⟩ := Kd.R_reads hR1
  have H1 := Aside0.mk (And.intro hbx (And.intro hBW hR1))
  clear hbx hBW hR1 hB1
  go_wp2
  go_quiet (fail)
  have hbm : (w1.drewN nq).heap[w.heap.size]? = some (.cells #[.int .i64 pr, .int .i64 pt] 36) := H1.out.1
  have HR := Aside0.mk (Kd.R_drewN H1.out.2.2 nq)
  have HB := Aside0.mk (pw_below_drewN H1.out.2.1 nq)
  clear H1 hC1
  generalize w1.drewN nq = wm at *
  have HBM := Aside0.mk hbm
  clear hbm
  go_wp2_with (first
    | (go_at_call 39; refine (delete_none A1 0 w.heap.size c1 pr pt [] 0 rfl (by decide) hlc (fun h => absurd h (by decide)) wm (fun j hj => absurd hj (by simp)) (fun h => absurd h (by decide)) HBM.out rfl).mono ?_; rintro e w5 ⟨rfl, hb5⟩; have hx5 := (hb5.block w.heap.size (blk_lt HBM.out)).trans HBM.out; obtain ⟨z0, z1⟩ := blk2 hx5; have H5 := Aside0.mk (And.intro (Kd.R_lower (Kd.R_below HR.out hb5) (Nat.le_succ _)) (HB.out.trans (hb5.mono HB.out.size))); clear hb5 hx5)
    | (at_builtin; go_loud (refine Kd.R_append k36 (w0 := w) w.heap.size rfl _ _ 23 36 (.agg #[(.int .i64 0), (.int .i64 0)]) 16 rfl Try.underlying23 info36 rfl (by decide) (by decide) (.slice A1 0 c1) [] ⟨pr, pt⟩ [.int .i64 pr, .int .i64 pt] (fun _ => True) (fun _ => False) rfl rfl (k36_mkM _ _ _ _) (fun _ h => h.elim) (fun _ _ => trivial) H5.out.1 H5.out.2 H5.out.2.size (by decide) ?_); intro v' w6 ho hb _ _))
  go_ret
  exact ⟨_, rfl, ho, hb⟩
theorem rd_last (l : List S36) (h : 0 < l.length) : l[l.length - 1]? = some (rd_T36 l ((l.length : Int) - 1)) := by
  have e : ((l.length : Int) - 1).toNat = l.length - 1 := by omega
  have h1 : l.length - 1 < l.length := by omega
  unfold rd_T36
  rw [e, List.getD_eq_getElem?_getD, List.getElem?_eq_getElem h1]
  rfl
theorem put_calls (A : Option Addr) (c : Nat) (l : List S36) (pr pt : Int) (r : List S36) (w : World) (hr : Kd.C k36 w A l.length l) (hc : l.length ≤ c) (h : putF l pr pt = some r) :
    Calls Try.prog 23 #[.slice A l.length c, .agg #[.int .i64 pr, .int .i64 pt]] w fun e w' => ∃ v0_ : Value, e = .returned (v0_) ∧ Kd.R k36 36 w' w.heap.size (fun _ => True) v0_ r ∧ Below w.heap.size w w' := by
  unfold putF at h
  by_cases hs : l.length ≤ 1000000
  · rw [if_pos hs] at h
    obtain rfl := Option.some.inj h
    rcases Nat.eq_zero_or_pos l.length with h0 | h0
    · have hb : bump l pr pt = pt := by unfold bump; rw [if_neg (by omega)]
      rw [hb]
      exact put_nil A c l pr pt w hr hc hs pt rfl h0
    · have hl := rd_last l h0
      by_cases he : (rd_T36 l ((l.length : Int) - 1)).f0 = pr
      · have hb : bump l pr pt = (if pt < (rd_T36 l ((l.length : Int) - 1)).f1 then (rd_T36 l ((l.length : Int) - 1)).f1 else pt) := by unfold bump mx; rw [if_pos ⟨h0, he⟩]
        rw [hb]
        exact put_eq A c l pr pt w hr hc hs _ _ rfl hl he
      · have hb : bump l pr pt = pt := by unfold bump; rw [if_neg (fun h => he h.2)]
        rw [hb]
        exact put_ne A c l pr pt w hr hc hs pt rfl _ hl he
  · rw [if_neg hs] at h
    exact absurd h (by simp)
end Go.Proofs.Ytodlibmnmjopbaa.Hand
