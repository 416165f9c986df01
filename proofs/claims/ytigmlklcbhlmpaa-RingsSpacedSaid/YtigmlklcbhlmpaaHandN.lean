/- Chapter 8: New, of. -/
import Derived.Test.YtigmlklcbhlmpaaHandS
namespace Go.Proofs.Ytigmlklcbhlmpaa.Hand
open Go.RowKit Go.Proofs.Ytigmlklcbhlmpaa Go.Proofs.Ytigmlklcbhlmpaa.Util Go.Proofs.YtigmlklcbhlmpaaW.PrintWords Go.Proofs.YtigmlklcbhlmpaaW.PrintLast Go.Proofs.YtigmlklcbhlmpaaW.PrintMore
set_option linter.unusedVariables false
set_option linter.unusedSimpArgs false
attribute [local go_sem] Oper.semAt_some
abbrev cinit (kv tv : Value) (sz ev : Int) : Array Value := #[kv, tv, .int .i64 sz, .int .i64 ev, .slice none 0 0, .int .i64 0, .slice none 0 0, .int .i64 0, .slice none 0 0, .int .i64 0, .slice none 0 0, .int .i64 0, .slice none 0 0, .int .i64 0, .slice none 0 0, .int .i64 0, .slice none 0 0, .int .i64 0, .slice none 0 0, .int .i64 0, .slice none 0 0, .int .i64 0, .slice none 0 0, .int .i64 0, .slice none 0 0, .int .i64 0, .slice none 0 0, .int .i64 0, .slice none 0 0, .int .i64 0, .slice none 0 0, .int .i64 0, .slice none 0 0, .int .i64 0, .slice none 0 0, .int .i64 0, .slice none 0 0, .int .i64 0, .int .i64 0, .int .i64 0]
/-- The card while its rings are made. -/
def mk (c0 : Array Value) (x : Value) : Nat → Array Value
  | 0 => c0
  | i + 1 => (mk c0 x i).setIfInBounds (4 + i * 2 + 1) x
theorem mk_size (c0 : Array Value) (x : Value) : ∀ i, (mk c0 x i).size = c0.size
  | 0 => rfl
  | i + 1 => by simp [mk, mk_size c0 x i]
theorem mk_low (c0 : Array Value) (x : Value) (j : Nat) (hj : ∀ m, j ≠ 4 + m * 2 + 1) : ∀ i, (mk c0 x i)[j]? = c0[j]?
  | 0 => rfl
  | i + 1 => by simp only [mk]; rw [Array.getElem?_setIfInBounds_ne (fun e => hj i e.symm)]; exact mk_low c0 x j hj i
theorem mk_card (kv tv : Value) (sz ev : Int) : mk ((cinit kv tv sz ev).setIfInBounds 37 (.int .i64 sz)) (.int .i64 sz) 16 = card kv tv (.slice none 0 0) (.slice none 0 0) sz ev 0 0 := by kernel_rfl
theorem add_block (ad : Addr) (i : Nat) : (ad.add i).block = ad.block := by unfold Addr.add; split <;> rfl
theorem reads_kept {w w1 : World} {kd : IntKind} {A : Option Addr} {k : Nat} {D : List Int} (h : ReadsInt w kd A k D) (ho : ∀ ad, A = some ad → 0 < k → w1.heap[ad.block]? = w.heap[ad.block]?) : ReadsInt w1 kd A k D :=
  ⟨h.1, h.2.1, fun hk => by
    obtain ⟨ad, e, hc⟩ := h.2.2 hk
    exact ⟨ad, e, fun j hj => (World.cell?_of_block (by rw [add_block]; exact ho ad e hk)).trans (hc j hj)⟩⟩
theorem reads_blk {w : World} {kd : IntKind} {A : Option Addr} {k : Nat} {D : List Int} (h : ReadsInt w kd A k D) (ad : Addr) (e : A = some ad) (hk : 0 < k) : ad.block < w.heap.size := by
  obtain ⟨ad', e', hc⟩ := h.2.2 hk
  obtain rfl : ad' = ad := Option.some.inj (e'.symm.trans e)
  have := World.block_lt_of_cell? w _ (hc 0 hk)
  rwa [add_block] at this
set_option maxHeartbeats 1000000 in
set_option maxRecDepth 100000 in
theorem new_ok (KA : Option Addr) (ks : List Int) (ck : Nat) (A : Option Addr) (c : Nat) (T : List Int) (sz : Nat) (ev : Int) (w : World) (hK : ReadsInt w .u8 KA ks.length ks) (hkc : ks.length ≤ ck) (hkl : ks.length ≤ 140737488351232) (hT : ReadsInt w .i64 A T.length T) (hc : T.length ≤ c) (htl : T.length * 8 ≤ 140737488351232)
    (hok : cf ks.length T sz ev = 0) :
    Calls Try.prog 12 #[.agg #[.slice KA ks.length ck, .slice A T.length c, .int .i64 sz, .int .i64 ev]] w fun e w' => ∃ p k1 t1 c1 c2, e = .returned (.tuple #[.pointer (some ⟨p, 0, none⟩), .int .i64 0]) ∧
      CS w' w.heap.size p (.slice k1 ks.length c1) (.slice t1 T.length c2) (.slice none 0 0) (.slice none 0 0) [] [] sz ev 0 0 ∧ T.length ≤ c2 ∧ ReadsInt w' .i64 t1 T.length T ∧ (∀ ad, t1 = some ad → 0 < T.length → ad.block < p) ∧ Below w.heap.size w w' := by
  obtain ⟨nk, hnk⟩ : ∃ nk, ks.length = nk := ⟨_, rfl⟩
  obtain ⟨nt, hnt⟩ : ∃ nt, T.length = nt := ⟨_, rfl⟩
  have HBC : Aside0 (∀ w1, Below w.heap.size w w1 → Calls Try.prog 33 #[.slice KA nk ck] w1 fun e w' => ∃ v, e = .returned v ∧ w'.ownsRow w1.heap.size 5 1 v nk (nums .u8 ks) ∧ Below w1.heap.size w1 w') := ⟨fun w1 hb => by have := bclone KA ck ks w1 (hK.below hb) hkc (by omega); rwa [hnk] at this⟩
  have HIC : Aside0 (∀ w1, Below w.heap.size w w1 → Calls Try.prog 34 #[.slice A nt c] w1 fun e w' => ∃ v, e = .returned v ∧ w'.ownsRow w1.heap.size 3 1 v nt (nums .i64 T) ∧ Below w1.heap.size w1 w') := ⟨fun w1 hb => by have := iclone A c T w1 (hT.below hb) hc htl; rwa [hnt] at this⟩
  have HCF : Aside0 (∀ w1, Below w.heap.size w w1 → Calls Try.prog 23 #[.agg #[.slice KA nk ck, .slice A nt c, .int .i64 sz, .int .i64 ev]] w1 fun e w' => e = .returned (.int .i64 0) ∧ Below w1.heap.size w1 w') := ⟨fun w1 hb => by have := cf_calls KA ks.length ck A c T sz ev w1 (hT.below hb) hc; rwa [hok, hnk, hnt] at this⟩
  rw [hnk, hnt]
  clear hK hT hok hkc hc htl hkl
  have hB0 := below_alloc (Below.refl w.heap.size w) (.cells #[.slice KA nk ck, .slice A nt c, .int .i64 sz, .int .i64 ev] 29)
  have hbn := blk_new w (.cells #[.slice KA nk ck, .slice A nt c, .int .i64 sz, .int .i64 ev] 29)
  obtain ⟨b, hb⟩ : ∃ b, b = w.heap.size := ⟨_, rfl⟩
  have HA := Aside0.mk (And.intro hB0 (And.intro hbn hb))
  clear hB0 hbn
  go_enter Try.func12, Try.ntmps12
  go_wp2_with (go_at_call 23; refine (HCF.out _ HA.out.1).mono ?_; rintro x w0 ⟨rfl, hB⟩; have HW := Aside0.mk hB; clear hB)
  rw [← hb]
  have hsz0 := HW.out.size
  rw [World.size_alloc, ← hb] at hsz0
  have hbw0 : w0.heap[b]? = some (.cells #[.slice KA nk ck, .slice A nt c, .int .i64 sz, .int .i64 ev] 29 (0, 0)) := (HW.out.block b (Nat.lt_of_lt_of_eq (by omega : b < w.heap.size + 1) (World.size_alloc _ _).symm)).trans (by rw [hb]; exact HA.out.2.1)
  refine start_ (n := 10) (S := fun w' => w'.cell? ⟨b, 0, none⟩ = some (.slice KA nk ck) ∧ w'.cell? ⟨b, 1, none⟩ = some (.slice A nt c)) (ds := [7, 9]) (bs 10 0) (by kernel_rfl) rfl rfl ⟨(blk_cell hbw0 0).trans rfl, (blk_cell hbw0 1).trans rfl⟩ (fun hHeld => ?_)
  generalize hwd : World.drew _ = wd at hHeld ⊢
  have hhd : wd.heap = w0.heap := by rw [← hwd]; rfl
  have HB : Aside0 (Below w.heap.size w wd) := ⟨by rw [← hwd]; exact below_drew1 (HA.out.1.trans (HW.out.mono (by rw [World.size_alloc]; omega)))⟩
  clear hwd
  have hwb : w.heap.size ≤ b := by omega
  clear hb
  have hb0 : wd.heap[b]? = some (.cells #[.slice KA nk ck, .slice A nt c, .int .i64 sz, .int .i64 ev] 29 (0, 0)) := by rw [hhd]; exact hbw0
  clear hbw0 hhd
  refine pure_ (i := 0) (N := some 12) (v := ?_) (a' := ?_) (bs 10 1) rfl rfl (by kernel_rfl) (fun _ _ _ h => h) (Or.inl ⟨by rfl, ?_⟩) ?_ ?_; rotate_left; (intro w'; go_simp; with_reducible rfl); rotate_left; (simp only [Act.put, q1_, q2_, q3_, i64_w, i32_w]; rfl)
  refine pure_ (i := 3) (N := some 15) (v := ?_) (a' := ?_) (bs 10 9) rfl rfl (by kernel_rfl) (fun _ _ _ h => h) (Or.inl ⟨by rfl, ?_⟩) ?_ ?_; rotate_left; (intro w'; go_simp; with_reducible rfl); rotate_left; (simp only [Act.put, q1_, q2_, q3_, i64_w, i32_w]; rfl)
  refine take_ (i := 1) (N := some 13) (v := ?_) (a' := ?_) (bs 10 11) rfl rfl (by kernel_rfl) (fun _ _ _ h => h) (Or.inl ⟨by rfl, ?_⟩) hHeld ?_ ?_; rotate_left; (rintro w' ⟨s0, s1⟩; go_simp; with_reducible rfl); rotate_left; (simp only [Act.put, q1_, q2_, q3_, i64_w, i32_w]; rfl)
  refine take_ (i := 4) (N := some 16) (v := ?_) (a' := ?_) (bs 10 27) rfl rfl (by kernel_rfl) (fun _ _ _ h => h) (Or.inl ⟨by rfl, ?_⟩) hHeld ?_ ?_; rotate_left; (rintro w' ⟨s0, s1⟩; go_simp; with_reducible rfl); rotate_left; (simp only [Act.put, q1_, q2_, q3_, i64_w, i32_w]; rfl)
  refine one_ (i := 2) (N := some 14) (bs 10 31) rfl rfl (by kernel_rfl) (by decide) (fun K hK => ?_)
  refine goes_ Try.func33 (by kernel_rfl) rfl #[.slice KA nk ck] (by rfl) rfl rfl (by (try simp only [List.map_toArray, List.map_cons, List.map_nil]); first | done | rfl) ?_
  refine (HBC.out wd HB.out).mono ?_
  rintro x1 w1 ⟨v1, rfl, hown1, hB1⟩
  obtain ⟨A1, c1, rfl⟩ := own_slice hown1
  refine ⟨_, rfl, ?_⟩
  refine hK.out _ _ ⟨(hB1.cell (World.block_lt_of_cell? _ _ hHeld.1)).trans hHeld.1, (hB1.cell (World.block_lt_of_cell? _ _ hHeld.2)).trans hHeld.2⟩ (fun hHeld => ?_); clear hK K
  refine norm_ (a' := ?_) ?_ ?_; rotate_left; (show Act.put _ (some 14) _ = _; simp only [Act.put, q1_, q2_, q3_, i64_w, i32_w]; rfl)
  refine pure_ (i := 6) (N := some 18) (v := ?_) (a' := ?_) (bs 10 95) rfl rfl (by kernel_rfl) (fun _ _ _ h => h) (Or.inl ⟨by rfl, ?_⟩) ?_ ?_; rotate_left; (intro w'; go_simp; with_reducible rfl); rotate_left; (simp only [Act.put, q1_, q2_, q3_, i64_w, i32_w]; rfl)
  refine one_ (i := 5) (N := some 17) (bs 10 127) rfl rfl (by kernel_rfl) (by decide) (fun K hK => ?_)
  refine goes_ Try.func34 (by kernel_rfl) rfl #[.slice A nt c] (by rfl) rfl rfl (by (try simp only [List.map_toArray, List.map_cons, List.map_nil]); first | done | rfl) ?_
  refine (HIC.out w1 (HB.out.trans (hB1.mono HB.out.size))).mono ?_
  rintro x2 w2 ⟨v2, rfl, hown2, hB2⟩
  obtain ⟨A2, c2, rfl⟩ := own_slice hown2
  refine ⟨_, rfl, ?_⟩
  refine hK.out _ _ ⟨(hB2.cell (World.block_lt_of_cell? _ _ hHeld.1)).trans hHeld.1, (hB2.cell (World.block_lt_of_cell? _ _ hHeld.2)).trans hHeld.2⟩ (fun hHeld => ?_); clear hK K
  refine norm_ (a' := ?_) ?_ ?_; rotate_left; (show Act.put _ (some 17) _ = _; simp only [Act.put, q1_, q2_, q3_, i64_w, i32_w]; rfl)
  refine last_ (i := 7) (N := none) (bs 10 255) rfl rfl (by kernel_rfl) (by decide) (fun K hK => ?_)
  have hb2 := (hB2.block b (by have := blk_lt hb0; have := hB1.size; omega)).trans ((hB1.block b (blk_lt hb0)).trans hb0)
  have j0 := (blk_cell hb2 0).trans rfl
  have g0 := blk_frozen hb2 0
  refine skip_ (w1 := w2.setCell ⟨b, 0, none⟩ (.slice A1 nk c1)) (by rfl) rfl (by go_simp) ?_
  refine hK.out _ _ ?_; clear hK K
  refine pure_ (i := 8) (N := some 19) (v := ?_) (a' := ?_) (bs 10 511) rfl rfl (by kernel_rfl) (fun _ _ _ h => h) (Or.inl ⟨by rfl, ?_⟩) ?_ ?_; rotate_left; (intro w'; go_simp; with_reducible rfl); rotate_left; (simp only [Act.put, q1_, q2_, q3_, i64_w, i32_w]; rfl)
  refine last_ (i := 9) (N := none) (bs 10 1023) rfl rfl (by kernel_rfl) (by decide) (fun K hK => ?_)
  have hb3 := blk_put hb2 0 (.slice A1 nk c1) rfl
  have j1 := (blk_cell hb3 1).trans rfl
  have g1 := blk_frozen hb3 1
  refine skip_ (w1 := (w2.setCell ⟨b, 0, none⟩ (.slice A1 nk c1)).setCell ⟨b, 1, none⟩ (.slice A2 nt c2)) (by rfl) rfl (by go_simp) ?_
  refine hK.out _ _ ?_; clear hK K
  refine done_ (by kernel_rfl) ?_
  have hb4 : ((w2.setCell ⟨b, 0, none⟩ (.slice A1 nk c1)).setCell ⟨b, 1, none⟩ (.slice A2 nt c2)).heap[b]? = some (.cells #[.slice A1 nk c1, .slice A2 nt c2, .int .i64 sz, .int .i64 ev] 29 (0, 0)) := blk_put hb3 1 (.slice A2 nt c2) rfl
  have hk4 : ∀ k, k ≠ b → ((w2.setCell ⟨b, 0, none⟩ (.slice A1 nk c1)).setCell ⟨b, 1, none⟩ (.slice A2 nt c2)).heap[k]? = w2.heap[k]? := fun k hk => (Below.heap_setCell _ _ _ k hk).trans (Below.heap_setCell _ _ _ k hk)
  have hB4 : Below w.heap.size w ((w2.setCell ⟨b, 0, none⟩ (.slice A1 nk c1)).setCell ⟨b, 1, none⟩ (.slice A2 nt c2)) := (((HB.out.trans (hB1.mono HB.out.size)).trans (hB2.mono (Nat.le_trans HB.out.size hB1.size))).setCell (p := ⟨b, 0, none⟩) hwb _).setCell (p := ⟨b, 1, none⟩) hwb _
  generalize (w2.setCell ⟨b, 0, none⟩ (.slice A1 nk c1)).setCell ⟨b, 1, none⟩ (.slice A2 nt c2) = w3 at hb4 hk4 hB4 ⊢
  have hrd : ReadsInt w3 .i64 A2 nt T := by
    have ho := own_move (w1 := w3) hown2 (fun k hk => hk4 k (by have := own_base hown2 k hk; have := hB1.size; have := blk_lt hb0; omega))
    obtain ⟨A', c', e, hr⟩ := own_reads ho
    injection e with e1 e2 e3
    rw [e1]; exact hr
  have hlc2 := own_le hown2
  have HE := Aside0.mk (And.intro hb4 (And.intro hB4 hrd))
  have k0 := (blk_cell hb4 0).trans rfl
  have k1 := (blk_cell hb4 1).trans rfl
  have k2 := (blk_cell hb4 2).trans rfl
  have k3 := (blk_cell hb4 3).trans rfl
  clear hb4 hk4 hB4 hrd hb3 hb2 j0 j1 g0 g1 hHeld hB1 hB2 hown1 hown2 hb0
  go_upto_region 6 with (fail)
  generalize hwx : w3.alloc _ = wx
  have hbp : wx.heap[w3.heap.size]? = some (.cells (cinit (.slice A1 nk c1) (.slice A2 nt c2) sz ev) 57 (0, 0)) := by rw [← hwx]; exact blk_new w3 _
  have hBx : Below w3.heap.size w3 wx := by rw [← hwx]; exact below_alloc (Below.refl _ _) _
  clear hwx
  have hp3 : w.heap.size ≤ w3.heap.size := HE.out.2.1.size
  have hb3 : b < w3.heap.size := blk_lt HE.out.1
  obtain ⟨p, hp⟩ : ∃ p, p = w3.heap.size := ⟨_, rfl⟩
  rw [← hp] at hbp hBx hp3 hb3 ⊢
  have hbx := (hBx.block b hb3).trans HE.out.1
  have hAb : ∀ ad, A2 = some ad → 0 < nt → ad.block < p := by rw [hp]; exact fun ad e h0 => reads_blk HE.out.2.2 ad e h0
  have HG := Aside0.mk (And.intro hbx (And.intro (HE.out.2.1.trans (hBx.mono hp3)) (And.intro (HE.out.2.2.below (hp ▸ hBx)) (And.intro hAb (blk_lt hbp)))))
  have k2 := (blk_cell hbx 2).trans rfl
  have k37 := (blk_cell hbp 37).trans rfl
  have g37 := blk_frozen hbp 37
  have hbp2 := blk_put hbp 37 (.int .i64 sz) rfl
  have HP2 := Aside0.mk hbp2
  clear hbx hbp hBx hbp2 HE hp k0 k1 k3 hAb
  go_wp2
  obtain ⟨x0, hx0⟩ : ∃ x0 : Array Value, x0 = (cinit (.slice A1 nk c1) (.slice A2 nt c2) sz ev).setIfInBounds 37 (.int .i64 sz) := ⟨_, rfl⟩
  go_loopw [29] (fun a wr => ∃ i : Nat, a = .int .i64 (i : Int) ∧ i ≤ 16 ∧ wr.heap[p]? = some (.cells (mk x0 (.int .i64 sz) i) 57 (0, 0)) ∧ wx.grownBy wr (some p)) (fun a _ => 17 - (intOf a).toNat)
  case atStart => exact ⟨0, rfl, by omega, by rw [hx0]; exact HP2.out, ⟨rfl, rfl, rfl, by simp [World.setCell], fun k _ hk => Below.heap_setCell _ _ _ k (fun e => hk (by rw [e]))⟩⟩
  case round =>
    obtain ⟨i, rfl, hi, hbi, hG⟩ := hrel
    have HR := Aside0.mk (And.intro hbi hG)
    have hbb := (hG.block b (blk_lt HG.out.1) (fun e => by have := Option.some.inj e; omega)).trans HG.out.1
    clear hbi hG
    by_cases h16 : i < 16
    · go_wp2
      refine start_ (n := 9) (S := fun w' => w'.cell? ⟨b, 2, none⟩ = some (.int .i64 sz)) (ds := [8]) (bs 9 0) (by kernel_rfl) rfl rfl ((blk_cell hbb 2).trans rfl) (fun hHeld => ?_)
      generalize hwd : World.drew _ = we at hHeld ⊢
      have hhe : we.heap = wr.heap := by rw [← hwd]; rfl
      have hGe : wr.grownBy we (some p) := by rw [← hwd]; exact ⟨rfl, rfl, rfl, Nat.le_refl _, fun _ _ _ => rfl⟩
      clear hwd
      have hbe : we.heap[p]? = some (.cells (mk x0 (.int .i64 sz) i) 57 (0, 0)) := by rw [hhe]; exact HR.out.1
      have hse : (mk x0 (.int .i64 sz) i).size = 40 := by rw [mk_size, hx0]; rfl
      obtain ⟨u0, hu0⟩ : ∃ u0, (mk x0 (.int .i64 sz) i)[4 + i * 2 + 1]? = some u0 := ⟨_, Array.getElem?_eq_getElem (by rw [hse]; omega)⟩
      have q0 : we.cell? ⟨p, 4 + i * 2 + 1, none⟩ = some u0 := (blk_cell hbe _).trans hu0
      have qf := blk_frozen hbe (4 + i * 2 + 1)
      have HV := Aside0.mk (And.intro (blk_put hbe (4 + i * 2 + 1) (.int .i64 sz) rfl) hGe)
      clear hbe hse hu0 hhe hGe hbb
      refine pure_ (i := 0) (N := some 32) (v := ?_) (a' := ?_) (bs 9 1) rfl rfl (by kernel_rfl) (fun _ _ _ h => h) (Or.inl ⟨by rfl, ?_⟩) ?_ ?_; rotate_left; (intro w'; go_simp; with_reducible rfl); rotate_left; (simp only [Act.put, q1_, q2_, q3_, i64_w, i32_w]; rfl)
      refine pure_ (i := 1) (N := some 33) (v := ?_) (a' := ?_) (bs 9 3) rfl rfl (by kernel_rfl) (fun _ _ _ h => h) (Or.inl ⟨by rfl, ?_⟩) ?_ ?_; rotate_left; (intro w'; go_simp; with_reducible rfl); rotate_left; (simp only [Act.put, q1_, q2_, q3_, i64_w, i32_w]; rfl)
      refine pure_ (i := 2) (N := some 34) (v := ?_) (a' := ?_) (bs 9 7) rfl rfl (by kernel_rfl) (fun _ _ _ h => h) (Or.inl ⟨by rfl, ?_⟩) ?_ ?_; rotate_left; (intro w'; go_simp; with_reducible rfl); rotate_left; (simp only [Act.put, q1_, q2_, q3_, i64_w, i32_w]; rfl)
      refine pure_ (i := 4) (N := some 36) (v := ?_) (a' := ?_) (bs 9 23) rfl rfl (by kernel_rfl) (fun _ _ _ h => h) (Or.inl ⟨by rfl, ?_⟩) ?_ ?_; rotate_left; (intro w'; go_simp; with_reducible rfl); rotate_left; (simp only [Act.put, q1_, q2_, q3_, i64_w, i32_w]; rfl)
      refine pure_ (i := 5) (N := some 37) (v := ?_) (a' := ?_) (bs 9 55) rfl rfl (by kernel_rfl) (fun _ _ _ h => h) (Or.inl ⟨by rfl, ?_⟩) ?_ ?_; rotate_left; (intro w'; go_simp; with_reducible rfl); rotate_left; (simp only [Act.put, q1_, q2_, q3_, i64_w, i32_w]; rfl)
      refine take_ (i := 3) (N := some 35) (v := ?_) (a' := ?_) (bs 9 63) rfl rfl (by kernel_rfl) (fun _ _ _ h => h) (Or.inl ⟨by rfl, ?_⟩) hHeld ?_ ?_; rotate_left; (rintro w' s0; go_simp; with_reducible rfl); rotate_left; (simp only [Act.put, q1_, q2_, q3_, i64_w, i32_w]; rfl)
      refine pure_ (i := 6) (N := some 38) (v := ?_) (a' := ?_) (bs 9 127) rfl rfl (by kernel_rfl) (fun _ _ _ h => h) (Or.inl ⟨by rfl, ?_⟩) ?_ ?_; rotate_left; (intro w'; go_simp; with_reducible rfl); rotate_left; (simp only [Act.put, q1_, q2_, q3_, i64_w, i32_w]; rfl)
      refine pure_ (i := 7) (N := some 39) (v := ?_) (a' := ?_) (bs 9 255) rfl rfl (by kernel_rfl) (fun _ _ _ h => h) (Or.inl ⟨by rfl, ?_⟩) ?_ ?_; rotate_left; (intro w'; go_simp; with_reducible rfl); rotate_left; (simp only [Act.put, q1_, q2_, q3_, i64_w, i32_w]; rfl)
      refine last_ (i := 8) (N := none) (bs 9 511) rfl rfl (by kernel_rfl) (by decide) (fun K hK => ?_)
      refine skip_ (w1 := we.setCell ⟨p, 4 + i * 2 + 1, none⟩ (.int .i64 sz)) (by rfl) rfl (by go_simp) ?_
      refine hK.out _ _ ?_; clear hK K
      refine done_ (by kernel_rfl) ?_
      generalize hwf : we.setCell ⟨p, 4 + i * 2 + 1, none⟩ (.int .i64 sz) = wf
      have HF : Aside0 (wf.heap[p]? = some (.cells (mk x0 (.int .i64 sz) (i + 1)) 57 (0, 0)) ∧ wx.grownBy wf (some p)) := by
        refine ⟨⟨by rw [← hwf]; exact HV.out.1, ?_⟩⟩
        have h1 := HR.out.2
        have h2 := HV.out.2
        rw [← hwf]
        exact ⟨h2.os.trans h1.os, h2.tape.trans h1.tape, h2.output.trans h1.output, by simpa [World.setCell] using Nat.le_trans h1.size h2.size, fun k hk1 hk2 => (Below.heap_setCell _ _ _ k (fun e => hk2 (by rw [e]))).trans ((h2.block k (by have := h1.size; omega) hk2).trans (h1.block k hk1 hk2))⟩
      clear hwf hHeld q0 qf HV
      go_wp2
      go_roundw
      case rel => exact ⟨i + 1, by go_num, by omega, HF.out.1, HF.out.2⟩
      case measure => simp [intOf]; omega
    · obtain rfl : i = 16 := by omega
      go_wp2
      go_ret2
      have h2 := HR.out.2
      have hbl := HR.out.1
      rw [hx0, mk_card] at hbl
      refine ⟨p, A1, A2, c1, c2, rfl, ⟨hbl, ⟨rfl, .inl ⟨rfl, none, rfl, by simp⟩⟩, trivial, by omega⟩, by omega, ?_, HG.out.2.2.2.1, HG.out.2.1.grown h2 HG.out.2.1.size (fun k hk => by have := Option.some.inj hk; omega)⟩
      exact reads_kept HG.out.2.2.1 (fun ad e h0 => h2.block _ (by have := HG.out.2.2.2.1 ad e h0; have := HG.out.2.2.2.2; omega) (fun e2 => by have := HG.out.2.2.2.1 ad e h0; have := Option.some.inj e2; omega))
end Go.Proofs.Ytigmlklcbhlmpaa.Hand
