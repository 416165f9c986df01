/- Chapter 15: SendbufPlays, walked by hand. -/
import Derived.Test.YtiphiacidokhiaaDoorHandJ
import Derived.Test.YtiphiacidokhiaaDoorHandK
namespace Go.Proofs.YtiphiacidokhiaaDoor.Hand
open Go.RowKit Go.Proofs.YtiphiacidokhiaaDoor Go.Proofs.YtiphiacidokhiaaDoor.Util Go.Proofs.YtiphiacidokhiaaDoorW.PrintWords Go.Proofs.YtiphiacidokhiaaDoorW.PrintLast Go.Proofs.YtiphiacidokhiaaDoorW.PrintMore
set_option linter.unusedVariables false
set_option linter.unusedSimpArgs false
attribute [local go_sem] Oper.semAt_some
/-- What holds at the head of a round. -/
structure Pl (w : World) (b0 g R h sz : Nat) (una : Int) (v : Value) (xs : List Int) (wr : World) : Prop where
  ring : Ring wr g R sz una xs
  rb : RB wr h sz b0 una v xs
  below : Below w.heap.size w wr
theorem below_none {w w' : World} (h : w.grownBy w' (Value.slice none 0 0).ownBlock) : Below w.heap.size w w' := ⟨h.os, h.tape, h.output, h.size, fun k hk => h.block k hk (by simp [Value.ownBlock])⟩
theorem own_ne2 {w : World} {base g : Nat} {e : TypeId} {size n : Nat} {v : Value} {xs : List Value} (h : w.ownsRow base e size v n xs) (hg : g < base) : v.ownBlock ≠ some g := by
  intro e
  have := own_base h g e
  omega
theorem reads_nil {w : World} : ReadsInt w .u8 none 0 [] := ⟨rfl, by omega, by omega⟩
theorem pl_below {w wr w' : World} {b0 g R h sz : Nat} {una : Int} {v : Value} {xs : List Int} (H : Pl w b0 g R h sz una v xs wr) (hb : Below wr.heap.size wr w') : Pl w b0 g R h sz una v xs w' :=
  ⟨ring_below H.ring hb (ring_lt H.ring).1 (ring_lt H.ring).2, rb_heap H.rb (hb.block h (rb_lt H.rb).1) (fun k hk => hb.block k ((rb_lt H.rb).2 k hk).2), H.below.trans (hb.mono H.below.size)⟩
theorem pl_drew {w wr : World} {n b0 g R h sz : Nat} {una : Int} {v : Value} {xs : List Int} (H : Pl w b0 g R h sz una v xs wr) : Pl w b0 g R h sz una v xs (wr.drewN n) := ⟨ring_drew H.ring, rb_drew H.rb, pw_below_drewN H.below _⟩
set_option maxHeartbeats 4000000 in
set_option maxRecDepth 100000 in
theorem plays_calls (a0 a1 : Int) (A2 : Option Addr) (c2 : Nat) (l2 : List Step) (w : World) (h2 : Kd.C k44 w A2 l2.length l2) (hc2 : l2.length ≤ c2) (hl2 : l2.length ≤ 9223372036854775807) (hok : ∀ y ∈ l2, okStep y) :
    Calls Tryd.prog 4 #[.int .i64 a0, .int .u32 a1, .slice A2 l2.length c2] w fun e w' => e = .returned (.bool true) ∧ Below w.heap.size w w' := by
  have H2 := Aside0.mk h2
  have HO := Aside0.mk hok
  clear h2 hok
  by_cases hz : 1 ≤ a0 ∧ a0 ≤ 1048576
  · obtain ⟨sz, rfl⟩ : ∃ sz : Nat, a0 = (sz : Int) := ⟨a0.toNat, by omega⟩
    have hs : 1 ≤ sz ∧ sz ≤ 1048576 := by omega
    go_enter Tryd.func4, Tryd.ntmps4
    go_wp2_with (first
      | (go_at_call 9; refine (num_calls _ _).mono ?_; rintro x w9 ⟨rfl, rfl⟩)
      | (go_at_call 8; refine (new_gen sz a1 (by omega) (by omega) w).mono ?_; rintro x w1 ⟨g, R, rfl, hb, hr, hgR, hg, hR, hg', hR', hB⟩; have HX := Aside0.mk (And.intro hb (And.intro hr hB)); clear hb hr hB)
      | (go_at_call 14; refine (rnew_ok sz a1 (by omega) (by omega) w1).mono ?_; rintro x w2 ⟨h, rfl, hrb, hh, hB⟩; have HY := Aside0.mk (And.intro hrb hB); clear hrb hB))
    go_loopw [11] (fun a wr => ∃ (i : Nat) (una : Int) (v : Value) (xs : List Int), a = .int .i64 (i : Int) ∧ i ≤ l2.length ∧ Pl w w1.heap.size g R h sz una v xs wr) (fun a _ => l2.length + 1 - (intOf a).toNat)
    case atStart =>
      refine ⟨0, a1, _, [], rfl, by omega, ⟨?_, HY.out.1, HX.out.2.2.trans (HY.out.2.mono HX.out.2.2.size)⟩⟩
      exact ring_below (ring_new (by omega) HX.out.1 HX.out.2.1 hgR) HY.out.2 hg' hR'
    case round =>
      obtain ⟨i, una, v, xs, rfl, hi, hPl⟩ := hrel
      have HP := Aside0.mk hPl
      clear hPl
      by_cases hil : i < l2.length
      · obtain ⟨ad, B, c, rfl, e0, e1, e2, e3, hlc, hrd⟩ := step_at H2.out i hil
        have hok := HO.out (l2.getD i z44) (by rw [List.getD_eq_getElem?_getD, List.getElem?_eq_getElem hil]; exact List.getElem_mem hil)
        generalize l2.getD i z44 = st at e0 e1 e2 e3 hlc hrd hok
        obtain ⟨what, q, m, D⟩ := st
        simp only at e0 e1 e2 e3 hlc hrd
        have hadw := World.block_lt_of_cell? w _ e0
        have d0 := (HP.out.below.cell hadw).trans e0
        have d1 := (HP.out.below.cell (p := ⟨(ad.add (i * 4)).block, (ad.add (i * 4)).off + 1, none⟩) hadw).trans e1
        have d2 := (HP.out.below.cell (p := ⟨(ad.add (i * 4)).block, (ad.add (i * 4)).off + 2, none⟩) hadw).trans e2
        have d3 := (HP.out.below.cell (p := ⟨(ad.add (i * 4)).block, (ad.add (i * 4)).off + 3, none⟩) hadw).trans e3
        have HD := Aside0.mk (And.intro hrd hok)
        obtain ⟨Av, cv, rfl, hcv⟩ := q_slice HP.out.rb.row
        have hxl := HP.out.rb.le
        have hvb := (rb_lt HP.out.rb).2
        have hbb : h < wr.heap.size ∧ g < wr.heap.size ∧ R < wr.heap.size := ⟨(rb_lt HP.out.rb).1, ring_lt HP.out.ring⟩
        clear hrd hok e0 e1 e2 e3
        go_upto_region 9 with (fail)
        generalize hwx : wr.alloc _ = wx
        have hBx : Below wr.heap.size wr wx := by rw [← hwx]; exact below_alloc (Below.refl _ _) _
        have hsx : wx.heap.size = wr.heap.size + 1 := by rw [← hwx]; simp
        have hbx : wx.heap[wr.heap.size]? = some (.cells #[.int .i64 what, .int .u32 q, .int .i64 m, .slice B D.length c] 44 (0, 0)) := by rw [← hwx]; exact Array.getElem?_push_size
        have HX := Aside0.mk (And.intro (pl_below HP.out hBx) hbx)
        clear hwx hBx hbx d0 d1 d2 d3 HP
        generalize wr.heap.size = bx at *
        have x0 := (blk_cell HX.out.2 0).trans rfl
        have x1 := (blk_cell HX.out.2 1).trans rfl
        have x2 := (blk_cell HX.out.2 2).trans rfl
        have x3 := (blk_cell HX.out.2 3).trans rfl
        rcases (by omega : what = 0 ∨ what = 1 ∨ what = 2 ∨ (¬ what = 0 ∧ ¬ what = 1 ∧ ¬ what = 2)) with rfl | rfl | rfl | ⟨n0, n1, n2⟩
        · obtain ⟨k, hk⟩ : ∃ k, k = min D.length (sz - xs.length) := ⟨_, rfl⟩
          obtain ⟨code, hcode⟩ : ∃ code : Int, code = if 0 < D.length ∧ xs.length = sz then 251 else 0 := ⟨_, rfl⟩
          obtain ⟨X1, hX1⟩ : ∃ X1, X1 = xs ++ D.take k := ⟨_, rfl⟩
          have HK := Aside0.mk (And.intro hk (And.intro hcode hX1))
          clear hk hcode hX1
          go_wp2_with (first
            | (go_at_call 15; refine (copy_calls B c D wx (HD.out.1.below HX.out.1.below) hlc (by have := HD.out.2.2.2.2.1; simpa using this)).mono ?_
               rintro x wa ⟨v15, rfl, hown, hB⟩
               obtain ⟨A5, c5, rfl, hlc5, hrd5⟩ := own_reads_c hown
               have HA := Aside0.mk (And.intro (pl_below HX.out.1 hB) (And.intro hown (And.intro hrd5 (And.intro ((hB.block bx (by omega)).trans HX.out.2) hB.size))))
               clear hown hrd5 hB)
            | (go_at_call 10; refine (write_code g R sz una xs A5 c5 D k code HK.out.1 HK.out.2.1 hs hlc5 wa HA.out.1.ring HA.out.2.2.1 (by intro a' e h0; have hb := own_base HA.out.2.1 a'.block (by rw [e]; rfl); omega)).mono ?_
               rintro x wb ⟨rfl, hRing, hB4, hsz4, ho4⟩
               rw [← HK.out.2.2] at hRing
               have hbxb := (ho4 bx (by omega) (by omega)).trans HA.out.2.2.2.1
               have z3 : wb.cell? ⟨bx, 3, none⟩ = some (.slice B D.length c) := (blk_cell hbxb 3).trans rfl
               have hsb : w1.heap.size ≤ wb.heap.size := by have := HA.out.2.2.2.2; omega
               have HB := Aside0.mk (And.intro hRing (And.intro (rb_heap HA.out.1.rb (ho4 h (by omega) (by omega)) (fun j hj => ho4 j (by have := hvb j hj; omega) (by have := hvb j hj; omega))) (And.intro (own_heap HA.out.2.1 (fun b hb => ho4 b (by omega) (by omega))) (HA.out.1.below.trans (hB4 w.heap.size hg hR)))))
               clear hRing hB4 hsz4 ho4 hbxb HA)
            | (go_at_call 16; refine (rwrite h sz w1.heap.size k una code _ xs D B c HK.out.1 HK.out.2.1 hs hlc hh wb hsb HB.out.2.1 (HD.out.1.below HB.out.2.2.2)).mono ?_
               rintro x wc ⟨rfl, ⟨v', hrb, hv'⟩, hB6, hF6⟩
               rw [← HK.out.2.2] at hrb
               obtain ⟨A9, c9, rfl, _⟩ := q_slice hrb.row
               have hown6 := own_move (w1 := wc) HB.out.2.2.1 (fun j hj => hF6 j (own_lt HB.out.2.2.1 j hj) (fun e => by have := own_base HB.out.2.2.1 j hj; omega) (fun e => by have h1 := own_base HB.out.2.2.1 j hj; have h2 := hvb j e; omega))
               have HC := Aside0.mk (And.intro (ring_below HB.out.1 hB6 hg' hR') (And.intro hrb (And.intro hown6 (And.intro (HB.out.2.2.2.trans (hB6.mono (by omega))) (And.intro hv' (own_lt HB.out.2.2.1))))))
               clear hrb hv' hB6 hF6 hown6 HB)
            | (go_at_call 17; refine (spoil_calls _ wx.heap.size D wc HC.out.2.2.1 (by have := HD.out.2.2.2.2.1; simp only at this; omega)).mono ?_
               rintro x wd ⟨rfl, hG⟩
               have HF : Aside0 (Pl w w1.heap.size g R h sz una (.slice A9 X1.length c9) X1 wd) := ⟨⟨ring_grown HC.out.1 hG (own_ne2 HC.out.2.2.1 (by omega)) (own_ne2 HC.out.2.2.1 (by omega)), rb_heap HC.out.2.1 (hG.block h (rb_lt HC.out.2.1).1 (fun e => own_ne2 HC.out.2.2.1 (g := h) (by omega) e.symm)) (fun j hj => hG.block j ((rb_lt HC.out.2.1).2 j hj).2 (fun e => by
                 have h1 := own_base HC.out.2.2.1 j e.symm
                 have h2 := HC.out.2.2.2.2.2 j e.symm
                 rcases HC.out.2.2.2.2.1 with h3 | ⟨b, h3, h4⟩
                 · have h5 := hvb j (by rw [← h3]; exact hj); omega
                 · rw [h3] at hj; have := Option.some.inj hj; omega)), HC.out.2.2.2.1.grown hG HC.out.2.2.2.1.size (fun j hj => by have h1 := own_base HC.out.2.2.1 j hj; omega)⟩⟩
               clear hG HC)
            | (go_at_call 9; refine (num_calls _ _).mono ?_; rintro x w9 ⟨rfl, rfl⟩))
          have y0 := (blk_cell HF.out.rb.blk 0).trans rfl
          have y1 := (blk_cell HF.out.rb.blk 1).trans rfl
          have y2 := (blk_cell HF.out.rb.blk 2).trans rfl
          have hXle : X1.length ≤ sz := HF.out.rb.le
          go_quiet (first
            | (exact Calls.quiet_of (una_ring g R sz una X1 _ (ring_drew HF.out.ring)))
            | (exact Calls.quiet_of (end_ring g R sz una X1 _ (ring_drew HF.out.ring)))
            | (exact Calls.quiet_of (room_ring g R sz una X1 hs.2 _ (ring_drew HF.out.ring)))
            | (exact Calls.quiet_of (rend h sz _ una _ X1 _ (rb_drew HF.out.rb))))
          go_wp2
          go_roundw
          case rel => exact ⟨i + 1, una, _, X1, by go_num, by omega, pl_drew HF.out⟩
          case measure => simp [intOf]; omega
        · by_cases hno : m < 0 ∨ 0 ≤ m ∧ (xs.length : Int) < (q - una) % 4294967296
          · obtain ⟨ce, hce⟩ : ∃ ce : Int, ce = if m < 0 then 4 else 151 := ⟨_, rfl⟩
            have hn1 := fun w' h' => slice_ring_no g R sz una q m xs hno w' h'
            have hn2 := fun w' h' => rslice_no h sz w1.heap.size una q m (.slice Av xs.length cv) xs hno w' h'
            rw [← hce] at hn1 hn2
            have HN := Aside0.mk (And.intro hn1 hn2)
            clear hn1 hn2 hce hno
            go_wp2_with (first
              | (go_at_call 12; refine (HN.out.1 wx HX.out.1.ring).mono ?_
                 rintro x wy ⟨rfl, rfl⟩)
              | (go_at_call 18; refine (HN.out.2 wx HX.out.1.rb).mono ?_
                 rintro x wy ⟨rfl, rfl⟩)
              | (go_at_call 13; refine (same_cut none none 0 0 [] 0 rfl (by omega) wx reads_nil (by omega) reads_nil (by omega)).mono ?_
                 rintro x wy ⟨rfl, hD7⟩
                 have HY7 := Aside0.mk (pl_below HX.out.1 hD7.below)
                 clear hD7)
              | (go_at_call 17; refine (spoil_calls (.slice none 0 0) 0 [] wy (own_nil _ _ _ _) (by simp)).mono ?_
                 rintro x wd ⟨rfl, hG⟩
                 have HF := Aside0.mk (pl_below HY7.out (below_none hG))
                 clear hG HY7)
              | (go_at_call 9; refine (num_calls _ _).mono ?_; rintro x w9 ⟨rfl, rfl⟩))
            have y0 := (blk_cell HF.out.rb.blk 0).trans rfl
            have y1 := (blk_cell HF.out.rb.blk 1).trans rfl
            have y2 := (blk_cell HF.out.rb.blk 2).trans rfl
            have hXle : xs.length ≤ sz := HF.out.rb.le
            go_quiet (first
              | (exact Calls.quiet_of (una_ring g R sz una xs _ (ring_drew HF.out.ring)))
              | (exact Calls.quiet_of (end_ring g R sz una xs _ (ring_drew HF.out.ring)))
              | (exact Calls.quiet_of (room_ring g R sz una xs hs.2 _ (ring_drew HF.out.ring)))
              | (exact Calls.quiet_of (rend h sz _ una _ xs _ (rb_drew HF.out.rb))))
            go_wp2
            go_roundw
            case rel => exact ⟨i + 1, una, _, xs, by go_num, by omega, pl_drew HF.out⟩
            case measure => simp [intOf]; omega
          · obtain ⟨M, rfl⟩ : ∃ M : Nat, m = (M : Int) := ⟨m.toNat, by omega⟩
            obtain ⟨off, hoff⟩ : ∃ off : Nat, (q - una) % 4294967296 = (off : Int) := ⟨((q - una) % 4294967296).toNat, by omega⟩
            have hol : off ≤ xs.length := by rw [hoff] at hno; omega
            have hM : (M : Int) ≤ 9223372036854775807 := (wf64 HD.out.2.2.2.1).2
            obtain ⟨k, hk⟩ : ∃ k, k = min M (xs.length - off) := ⟨_, rfl⟩
            have HQ := Aside0.mk (And.intro hoff (And.intro hol (And.intro hM (And.intro hk (And.intro (show k = min ((M : Int)).toNat (xs.length - off) by rw [Int.toNat_natCast]; exact hk) (And.intro (show ((xs.drop off).take k).length = k by rw [List.length_take, List.length_drop]; omega) (show k ≤ 1048576 by omega)))))))
            clear hoff hol hk hno
            go_wp2_with (first
              | (go_at_call 12; refine (slice_ring g R sz off M una q xs hs HQ.out.1 HQ.out.2.1 HQ.out.2.2.1 wx HX.out.1.ring).mono ?_
                 rintro x wa ⟨v7, rfl, hown7, hB7⟩
                 rw [← HQ.out.2.2.2.1] at hown7
                 obtain ⟨A7, c7, rfl, hlc7, hrd7⟩ := own_reads_c hown7
                 have hbxb := (hB7.block bx (by omega)).trans HX.out.2
                 have z1 : wa.cell? ⟨bx, 1, none⟩ = some (.int .u32 q) := (blk_cell hbxb 1).trans rfl
                 have z2 : wa.cell? ⟨bx, 2, none⟩ = some (.int .i64 (M : Int)) := (blk_cell hbxb 2).trans rfl
                 have HA := Aside0.mk (And.intro (pl_below HX.out.1 hB7) (And.intro hown7 hrd7))
                 clear hown7 hB7 hrd7 hbxb)
              | (go_at_call 18; refine (rslice_ok h sz _ off k una q (M : Int) _ xs (by omega) hs.2 HQ.out.1 HQ.out.2.1 HQ.out.2.2.2.2.1 wa HA.out.1.rb).mono ?_
                 rintro x wb ⟨A8, c8, rfl, hlc8, hrd8, n8, hn8⟩
                 have hh8 : wb.heap = wa.heap := by rw [hn8]; simp
                 have HB := Aside0.mk (And.intro (show Pl w w1.heap.size g R h sz una _ xs wb by rw [hn8]; exact pl_drew HA.out.1) (And.intro (own_heap HA.out.2.1 (fun b _ => by rw [hh8])) (And.intro (reads_heap HA.out.2.2 hh8) (reads_heap hrd8 hh8))))
                 clear hrd8 hn8 hh8 HA z1 z2)
              | (go_at_call 13; refine (same_cut A7 A8 c7 c8 ((xs.drop off).take k) k HQ.out.2.2.2.2.2.1 (by have := HQ.out.2.2.2.2.2.2; omega) wb HB.out.2.2.1 hlc7 HB.out.2.2.2 hlc8).mono ?_
                 rintro x wc ⟨rfl, hD7⟩
                 have HC := Aside0.mk (And.intro (pl_below HB.out.1 hD7.below) (HB.out.2.1.kept (gb_below (g := wx.heap.size - 1) hD7.below) (Or.inr (own_ne2 HB.out.2.1 (by omega)))))
                 clear hD7 HB)
              | (go_at_call 17; refine (spoil_calls _ wx.heap.size ((xs.drop off).take k) wc (by rw [HQ.out.2.2.2.2.2.1]; exact HC.out.2) (by rw [HQ.out.2.2.2.2.2.1]; have := HQ.out.2.2.2.2.2.2; omega)).mono ?_
                 rintro x wd ⟨rfl, hG⟩
                 have HF : Aside0 (Pl w w1.heap.size g R h sz una _ xs wd) := ⟨⟨ring_grown HC.out.1.ring hG (own_ne2 HC.out.2 (by omega)) (own_ne2 HC.out.2 (by omega)), rb_heap HC.out.1.rb (hG.block h (rb_lt HC.out.1.rb).1 (fun e => own_ne2 HC.out.2 (g := h) (by omega) e.symm)) (fun j hj => hG.block j ((rb_lt HC.out.1.rb).2 j hj).2 (fun e => by have h1 := own_base HC.out.2 j e.symm; have h2 := hvb j hj; omega)), HC.out.1.below.grown hG HC.out.1.below.size (fun j hj => by have h1 := own_base HC.out.2 j hj; omega)⟩⟩
                 clear hG HC)
              | (go_at_call 9; refine (num_calls _ _).mono ?_; rintro x w9 ⟨rfl, rfl⟩))
            have y0 := (blk_cell HF.out.rb.blk 0).trans rfl
            have y1 := (blk_cell HF.out.rb.blk 1).trans rfl
            have y2 := (blk_cell HF.out.rb.blk 2).trans rfl
            have hXle : xs.length ≤ sz := HF.out.rb.le
            go_quiet (first
              | (exact Calls.quiet_of (una_ring g R sz una xs _ (ring_drew HF.out.ring)))
              | (exact Calls.quiet_of (end_ring g R sz una xs _ (ring_drew HF.out.ring)))
              | (exact Calls.quiet_of (room_ring g R sz una xs hs.2 _ (ring_drew HF.out.ring)))
              | (exact Calls.quiet_of (rend h sz _ una _ xs _ (rb_drew HF.out.rb))))
            go_wp2
            go_roundw
            case rel => exact ⟨i + 1, una, _, xs, by go_num, by omega, pl_drew HF.out⟩
            case measure => simp [intOf]; omega
        · by_cases hno : (xs.length : Int) < (q - una) % 4294967296
          · have HQ := Aside0.mk hno
            clear hno
            go_wp2_with (first
              | (go_at_call 11; refine (ack_ring_no g R sz una q xs HQ.out wx HX.out.1.ring).mono ?_
                 rintro x wy ⟨rfl, rfl⟩)
              | (go_at_call 19; refine (rack_no h sz _ una q _ xs HQ.out wx HX.out.1.rb).mono ?_
                 rintro x wy ⟨rfl, rfl⟩)
              | (go_at_call 9; refine (num_calls _ _).mono ?_; rintro x w9 ⟨rfl, rfl⟩))
            have HF := Aside0.mk HX.out.1
            have y0 := (blk_cell HF.out.rb.blk 0).trans rfl
            have y1 := (blk_cell HF.out.rb.blk 1).trans rfl
            have y2 := (blk_cell HF.out.rb.blk 2).trans rfl
            have hXle : xs.length ≤ sz := HF.out.rb.le
            go_quiet (first
              | (exact Calls.quiet_of (una_ring g R sz una xs _ (ring_drew HF.out.ring)))
              | (exact Calls.quiet_of (end_ring g R sz una xs _ (ring_drew HF.out.ring)))
              | (exact Calls.quiet_of (room_ring g R sz una xs hs.2 _ (ring_drew HF.out.ring)))
              | (exact Calls.quiet_of (rend h sz _ una _ xs _ (rb_drew HF.out.rb))))
            go_wp2
            go_roundw
            case rel => exact ⟨i + 1, una, _, xs, by go_num, by omega, pl_drew HF.out⟩
            case measure => simp [intOf]; omega
          · obtain ⟨off, hoff⟩ : ∃ off : Nat, (q - una) % 4294967296 = (off : Int) := ⟨((q - una) % 4294967296).toNat, by omega⟩
            have hol : off ≤ xs.length := by rw [hoff] at hno; omega
            obtain ⟨X1, hX1⟩ : ∃ X1, X1 = xs.drop off := ⟨_, rfl⟩
            have HQ := Aside0.mk (And.intro hoff (And.intro hol hX1))
            clear hoff hol hno hX1
            go_wp2_with (first
              | (go_at_call 11; refine (ack_ring g R sz off una q xs hs HQ.out.1 HQ.out.2.1 wx HX.out.1.ring).mono ?_
                 rintro x wa ⟨rfl, hRing, hG⟩
                 rw [← HQ.out.2.2] at hRing
                 have hbxb := (hG.block bx (by omega) (fun e => by have := Option.some.inj e; omega)).trans HX.out.2
                 have z1 : wa.cell? ⟨bx, 1, none⟩ = some (.int .u32 q) := (blk_cell hbxb 1).trans rfl
                 have HA := Aside0.mk (And.intro hRing (And.intro (rb_heap (w' := wa) HX.out.1.rb (hG.block h (by omega) (fun e => by have := Option.some.inj e; omega)) (fun j hj => hG.block j (by have := hvb j hj; omega) (fun e => by have := Option.some.inj e; have := hvb j hj; omega))) (HX.out.1.below.grown hG HX.out.1.below.size (fun j hj => by have := Option.some.inj hj; omega))))
                 clear hRing hG hbxb)
              | (go_at_call 19; refine (rack_ok h sz _ off una q _ xs hs.2 HQ.out.1 HQ.out.2.1 wa HA.out.2.1).mono ?_
                 rintro x wd ⟨rfl, ⟨v', hrb, hv'⟩, hG⟩
                 rw [← HQ.out.2.2] at hrb
                 obtain ⟨A9, c9, rfl, _⟩ := q_slice hrb.row
                 have HF : Aside0 (Pl w w1.heap.size g R h sz q (.slice A9 X1.length c9) X1 wd) := ⟨⟨ring_grown HA.out.1 hG (fun e => by have := Option.some.inj e; omega) (fun e => by have := Option.some.inj e; omega), hrb, HA.out.2.2.grown hG HA.out.2.2.size (fun j hj => by have := Option.some.inj hj; omega)⟩⟩
                 clear hrb hv' hG HA z1)
              | (go_at_call 9; refine (num_calls _ _).mono ?_; rintro x w9 ⟨rfl, rfl⟩))
            have y0 := (blk_cell HF.out.rb.blk 0).trans rfl
            have y1 := (blk_cell HF.out.rb.blk 1).trans rfl
            have y2 := (blk_cell HF.out.rb.blk 2).trans rfl
            have hXle : X1.length ≤ sz := HF.out.rb.le
            go_quiet (first
              | (exact Calls.quiet_of (una_ring g R sz q X1 _ (ring_drew HF.out.ring)))
              | (exact Calls.quiet_of (end_ring g R sz q X1 _ (ring_drew HF.out.ring)))
              | (exact Calls.quiet_of (room_ring g R sz q X1 hs.2 _ (ring_drew HF.out.ring)))
              | (exact Calls.quiet_of (rend h sz _ q _ X1 _ (rb_drew HF.out.rb))))
            go_wp2
            go_roundw
            case rel => exact ⟨i + 1, q, _, X1, by go_num, by omega, pl_drew HF.out⟩
            case measure => simp [intOf]; omega
        · go_wp2
          have HF := Aside0.mk HX.out.1
          have y0 := (blk_cell HF.out.rb.blk 0).trans rfl
          have y1 := (blk_cell HF.out.rb.blk 1).trans rfl
          have y2 := (blk_cell HF.out.rb.blk 2).trans rfl
          have hXle : xs.length ≤ sz := HF.out.rb.le
          go_quiet (first
            | (exact Calls.quiet_of (una_ring g R sz una xs _ (ring_drew HF.out.ring)))
            | (exact Calls.quiet_of (end_ring g R sz una xs _ (ring_drew HF.out.ring)))
            | (exact Calls.quiet_of (room_ring g R sz una xs hs.2 _ (ring_drew HF.out.ring)))
            | (exact Calls.quiet_of (rend h sz _ una _ xs _ (rb_drew HF.out.rb))))
          go_wp2
          go_roundw
          case rel => exact ⟨i + 1, una, _, xs, by go_num, by omega, pl_drew HF.out⟩
          case measure => simp [intOf]; omega
      · go_wp2_with (go_at_call 7; refine (alive_calls _).mono ?_; rintro x w8 ⟨rfl, hB⟩; have HB8 := Aside0.mk hB; clear hB)
        go_ret
        exact ⟨rfl, HP.out.below.trans (HB8.out.mono HP.out.below.size)⟩
  · go_enter Tryd.func4, Tryd.ntmps4
    go_wp2_with (first
      | (go_at_call 9; refine (num_calls _ _).mono ?_; rintro x w9 ⟨rfl, rfl⟩)
      | (go_at_call 8; refine (new_no a0 a1 (by omega) w).mono ?_; rintro x w1 ⟨rfl, rfl⟩)
      | (go_at_call 14; refine (rnew_no a0 a1 (by omega) w).mono ?_; rintro x w2 ⟨rfl, rfl⟩))
    go_loopw [11] (fun a wr => a = .int .i64 0 ∧ wr = w) (fun a _ => 1)
    case atStart => exact ⟨rfl, rfl⟩
    case round =>
      obtain ⟨rfl, rfl⟩ := hrel
      go_wp2_with (go_at_call 7; refine (alive_calls _).mono ?_; rintro x w8 ⟨rfl, hB⟩; have HB8 := Aside0.mk hB; clear hB)
      go_ret
      exact ⟨rfl, HB8.out⟩
end Go.Proofs.YtiphiacidokhiaaDoor.Hand
