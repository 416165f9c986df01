/- Chapter 15: SendbufKeeps, walked by hand. -/
import Derived.Test.YtiphiacidokhiaaDoorHandU
import Derived.Test.YtiphiacidokhiaaDoorUtil
namespace Go.Proofs.YtiphiacidokhiaaDoor.Hand
open Go.RowKit Go.Proofs.YtiphiacidokhiaaDoor Go.Proofs.YtiphiacidokhiaaDoor.Util Go.Proofs.YtiphiacidokhiaaDoorW.PrintWords Go.Proofs.YtiphiacidokhiaaDoorW.PrintLast Go.Proofs.YtiphiacidokhiaaDoorW.PrintMore
set_option linter.unusedVariables false
set_option linter.unusedSimpArgs false
attribute [local go_sem] Oper.semAt_some
/-- What holds at the head of a round. -/
structure At (w w0 : World) (g R sz : Nat) (a1 : Int) (S : Nat) (v : Value) (u : Nat) (wr : World) (L : List Int) : Prop where
  own : wr.ownsRow w0.heap.size 5 1 v L.length (nums .u8 L)
  hu : u ≤ L.length
  ring : Ring wr g R sz ((a1 + u) % 4294967296) (L.drop u)
  below : Below w.heap.size w wr
  size : w0.heap.size ≤ wr.heap.size
  sum : L.length ≤ S
theorem reads_tak {w : World} {A : Option Addr} {D : List Int} (h : ReadsInt w .u8 A D.length D) (k : Nat) (hk : k ≤ D.length) : ReadsInt w .u8 A (D.take k).length (D.take k) := by
  refine ⟨rfl, ?_, fun h0 => ?_⟩
  · have := h.2.1; rw [List.length_take]; omega
  · rw [List.length_take] at h0
    obtain ⟨ad, e, hc⟩ := h.2.2 (by omega)
    refine ⟨ad, e, fun j hj => ?_⟩
    rw [List.length_take] at hj
    rw [hc j (by omega)]
    simp only [List.getD_eq_getElem?_getD, List.getElem?_take]
    rw [if_pos (by omega)]
theorem write_code (g R sz : Nat) (una : Int) (xs : List Int) (A : Option Addr) (c : Nat) (D : List Int) (k : Nat) (code : Int) (hk : k = min D.length (sz - xs.length)) (hcode : code = if 0 < D.length ∧ xs.length = sz then 251 else 0) (hs : 1 ≤ sz ∧ sz ≤ 1048576) (hc : D.length ≤ c) (w : World) (h : Ring w g R sz una xs) (hd : ReadsInt w .u8 A D.length D) (hA : ∀ ad, A = some ad → 0 < D.length → ad.block ≠ R) :
    Calls Tryd.prog 10 #[.pointer (some ⟨g, 0, none⟩), .slice A D.length c] w fun e w' => e = .returned (.tuple #[.int .i64 (k : Int), .int .i64 code]) ∧
      Ring w' g R sz una (xs ++ D.take k) ∧ (∀ n₀, n₀ ≤ g → n₀ ≤ R → Below n₀ w w') ∧ w.heap.size ≤ w'.heap.size ∧ ∀ b, b ≠ g → b ≠ R → w'.heap[b]? = w.heap[b]? := by
  refine (write_ring g R sz una xs A c D hs hc w h hd hA).mono ?_
  rintro e w' ⟨k1, c1, rfl, rfl, rfl, h1⟩
  subst hk hcode
  refine ⟨?_, h1⟩
  split <;> rfl
theorem next_una (u n : Nat) (q : Int) (hu : u ≤ n) (hn : n ≤ 1048576) (hq : -9223372036854775808 ≤ q ∧ q ≤ 9223372036854775807) : ∃ u1 : Nat, u ≤ u1 ∧ u1 ≤ n ∧
    wrap64 (↑u + (wrap64 (wrap64 (wrap64 (q.tmod (↑n - ↑u + 1) + ↑n) - ↑u) + 1)).tmod (↑n - ↑u + 1)) = (u1 : Int) := by
  have h1 := Int.tmod_lt_of_pos q (b := (n : Int) - u + 1) (by omega)
  have h2 := Int.lt_tmod_of_pos q (b := (n : Int) - u + 1) (by omega)
  generalize q.tmod (↑n - ↑u + 1) = t at h1 h2
  rw [wrap_id (x := t + n) (by omega) (by omega), wrap_id (x := t + n - u) (by omega) (by omega), wrap_id (x := t + n - u + 1) (by omega) (by omega), Int.tmod_eq_emod_of_nonneg (by omega)]
  have h3 := Int.emod_nonneg (t + n - u + 1) (b := (n : Int) - u + 1) (by omega)
  have h4 := Int.emod_lt_of_pos (t + n - u + 1) (b := (n : Int) - u + 1) (by omega)
  generalize (t + n - u + 1) % ((n : Int) - u + 1) = m at h3 h4
  refine ⟨u + m.toNat, by omega, by omega, ?_⟩
  rw [wrap_id (by omega) (by omega)]
  omega
theorem own_reads_c {w : World} {base n : Nat} {e : TypeId} {v : Value} {xs : List Int} (h : w.ownsRow base e 1 v n (nums .u8 xs)) : ∃ A c, v = .slice A n c ∧ n ≤ c ∧ ReadsInt w .u8 A n xs := by
  obtain ⟨A, c, rfl, hr⟩ := own_reads h
  exact ⟨A, c, rfl, own_le h, hr⟩
theorem own_reads_at {w : World} {base n c : Nat} {e : TypeId} {A : Option Addr} {xs : List Int} (h : w.ownsRow base e 1 (.slice A n c) n (nums .u8 xs)) : ReadsInt w .u8 A n xs := by
  obtain ⟨A1, c1, e1, hr⟩ := own_reads h
  injection e1 with e1 e2 e3
  rw [e1]; exact hr
theorem ring_len {w : World} {g R sz : Nat} {una : Int} {xs : List Int} (h : Ring w g R sz una xs) : xs.length ≤ sz := by
  obtain ⟨_, _, _, _, _, _, hn, _⟩ := h
  exact hn
theorem at_step {w w0 wr w' : World} {g R sz : Nat} {a1 : Int} {S : Nat} {v : Value} {u : Nat} {L : List Int} (h : At w w0 g R sz a1 S v u wr L) (hg : g < w0.heap.size) (hb : Below wr.heap.size wr w') : At w w0 g R sz a1 S v u w' L :=
  ⟨h.own.kept (gb_below hb) (own_ne h.own hg), h.hu, ring_below h.ring hb (ring_lt h.ring).1 (ring_lt h.ring).2, h.below.trans (hb.mono h.below.size), Nat.le_trans h.size hb.size, h.sum⟩
theorem same_cut (A B : Option Addr) (c d : Nat) (l : List Int) (n : Nat) (hn : l.length = n) (hs : n ≤ 140737488351232) (w : World) (hA : ReadsInt w .u8 A n l) (hc : n ≤ c) (hB : ReadsInt w .u8 B n l) (hd : n ≤ d) :
    Calls Tryd.prog 13 #[.slice A n c, .slice B n d] w fun e w' => e = .returned (.bool true) ∧ Drawn0 w w' := by
  subst hn
  exact same_calls A B c d l hs w hA hc hB hd
theorem add_block (ad : Addr) (i : Nat) : (ad.add i).block = ad.block := by unfold Addr.add; split <;> rfl
theorem own_heap {w w' : World} {base : Nat} {e : TypeId} {size n : Nat} {v : Value} {xs : List Value} (h : w.ownsRow base e size v n xs) (hh : ∀ b, base ≤ b → w'.heap[b]? = w.heap[b]?) : w'.ownsRow base e size v n xs := by
  refine ⟨h.1, ?_⟩
  rcases h.2 with hn | ⟨g, cap, cur, rfl, hb, hgg, rest⟩
  · exact .inl hn
  · exact .inr ⟨g, cap, cur, rfl, hb, (hh g hb).trans hgg, rest⟩
set_option maxHeartbeats 4000000 in
set_option maxRecDepth 100000 in
theorem keeps_calls (a0 a1 : Int) (A2 : Option Addr) (c2 : Nat) (l2 : List (List Int)) (A3 : Option Addr) (c3 : Nat) (l3 : List Int) (w : World) (h2 : Kd.C (Kd.slice 5 (Kd.int .u8)) w A2 l2.length l2) (hc2 : l2.length ≤ c2) (h3 : ReadsInt w .i64 A3 l3.length l3) (hc3 : l3.length ≤ c3)
    (hsum : (l2.map List.length).sum ≤ 1048576) (ha1 : 0 ≤ a1 ∧ a1 < 4294967296) (hl2 : l2.length ≤ 9223372036854775807) (hl3 : ∀ i, i < l3.length → -9223372036854775808 ≤ l3.getD i 0 ∧ l3.getD i 0 ≤ 9223372036854775807) :
    Calls Tryd.prog 3 #[.int .i64 a0, .int .u32 a1, .slice A2 l2.length c2, .slice A3 l3.length c3] w fun e w' => e = .returned (.bool true) ∧ Below w.heap.size w w' := by
  have H2 := Aside0.mk h2
  have H3 := Aside0.mk h3
  have HL3 := Aside0.mk hl3
  have HS := Aside0.mk hsum
  clear h2 h3 hsum hl3
  by_cases hz : 1 ≤ a0 ∧ a0 ≤ 1048576
  · obtain ⟨sz, rfl⟩ : ∃ sz : Nat, a0 = (sz : Int) := ⟨a0.toNat, by omega⟩
    have hs : 1 ≤ sz ∧ sz ≤ 1048576 := by omega
    go_enter Tryd.func3, Tryd.ntmps3
    go_wp2_with (first
      | (go_at_call 7; refine (alive_calls _).mono ?_; rintro x w1 ⟨rfl, hB⟩; have HB1 := Aside0.mk hB; clear hB)
      | (go_at_call 9; refine (num_calls _ _).mono ?_; rintro x w9 ⟨rfl, rfl⟩)
      | (go_at_call 8; refine (new_gen sz a1 (by omega) (by omega) w1).mono ?_; rintro x w3 ⟨g, R, rfl, hb, hr, hgR, hg, hR, hg', hR', hB⟩; have HX := Aside0.mk (And.intro hb (And.intro hr hB)); clear hb hr hB))
    obtain ⟨w0, hw0⟩ : ∃ w0 : World, w0 = w3 := ⟨w3, rfl⟩
    have hg0 : w.heap.size ≤ g ∧ w.heap.size ≤ R ∧ g < w0.heap.size ∧ R < w0.heap.size := by rw [hw0]; exact ⟨Nat.le_trans HB1.out.size hg, Nat.le_trans HB1.out.size hR, hg', hR'⟩
    go_loopw [11, 12, 13] (fun a b c wr => ∃ (i u : Nat) (L : List Int), b = .int .i64 (u : Int) ∧ c = .int .i64 (i : Int) ∧ i ≤ l2.length ∧ At w w0 g R sz a1 ((l2.take i).map List.length).sum a u wr L) (fun a b c _ => l2.length + 1 - (intOf c).toNat)
    case atStart =>
      refine ⟨0, 0, [], rfl, rfl, by omega, ⟨own_nil _ _ _ _, by simp, ?_, HB1.out.trans (HX.out.2.2.mono HB1.out.size), by rw [hw0]; exact Nat.le_refl _, by simp⟩⟩
      refine ring_new (by omega) ?_ HX.out.2.1 hgR
      have := HX.out.1
      simpa [Int.emod_eq_of_lt ha1.1 ha1.2] using this
    case round =>
      obtain ⟨i, u, L, rfl, rfl, hi, hAt⟩ := hrel
      have HA := Aside0.mk hAt
      clear hAt
      by_cases hil : i < l2.length
      · obtain ⟨ad, B, c, rfl, hcell, hlc, hrd⟩ := text_at H2.out i hil
        obtain ⟨D, hD⟩ : ∃ D, D = l2.getD i [] := ⟨_, rfl⟩
        rw [← hD] at hcell hlc hrd
        obtain ⟨k, hk⟩ : ∃ k, k = min D.length (sz - (L.drop u).length) := ⟨_, rfl⟩
        obtain ⟨code, hcode⟩ : ∃ code : Int, code = if 0 < D.length ∧ (L.drop u).length = sz then 251 else 0 := ⟨_, rfl⟩
        have hcd : code = 0 ∨ code = 251 := by rw [hcode]; split <;> simp
        have hadw : ad.block < w.heap.size := by have := World.block_lt_of_cell? w _ hcell; rwa [add_block] at this
        have hcellr : wr.cell? (ad.add i) = some (.slice B D.length c) := (HA.out.below.cell (by rw [add_block]; exact hadw)).trans hcell
        have hBw : ∀ a', B = some a' → 0 < D.length → a'.block < w.heap.size := fun a' e h0 => reads_block hrd a' e h0
        have hkD : k ≤ D.length := by omega
        have hDS : ((l2.take (i + 1)).map List.length).sum = ((l2.take i).map List.length).sum + D.length := by
          rw [List.take_add_one, hD, List.getElem?_eq_getElem hil, List.getD_eq_getElem?_getD, List.getElem?_eq_getElem hil, List.map_append, List.sum_append]; simp
        have hS : ((l2.take (i + 1)).map List.length).sum ≤ 1048576 := by
          have h1 : (l2.map List.length).sum = ((l2.take (i + 1)).map List.length).sum + ((l2.drop (i + 1)).map List.length).sum := by
            rw [← List.sum_append, ← List.map_append, List.take_append_drop]
          have := HS.out
          omega
        have hLS := HA.out.sum
        have hkl : (D.take k).length = k := by rw [List.length_take]; omega
        have hLk : L.length + k ≤ 1048576 := by omega
        have hu := HA.out.hu
        obtain ⟨L1, hL1⟩ : ∃ L1, L1 = L ++ D.take k := ⟨_, rfl⟩
        have hl1 : L1.length = L.length + k := by rw [hL1, List.length_append, hkl]
        have hLm : L1.length ≤ 1048576 := by omega
        have hu1 : u ≤ L1.length := by omega
        have hdr : L.drop u ++ D.take k = L1.drop u := by rw [hL1, List.drop_append_of_le_length hu]
        have HD := Aside0.mk (And.intro hrd (And.intro hDS (And.intro hcell (And.intro hk (And.intro hcode (And.intro hL1 (And.intro hl1 (And.intro hkl hdr))))))))
        have HBw := Aside0.mk hBw
        clear hrd hDS hk hcode hBw hcell hD hLS hS hkl hL1 hl1 hdr
        rcases hcd with hc0 | hc0 <;> subst hc0
        · by_cases hi3 : i < l3.length
          · obtain ⟨ad3, rfl, h3w⟩ := H3.out.2.2 (by omega)
            have h3i := h3w i hi3
            have hq := HL3.out i hi3
            clear h3w
            generalize l3.getD i 0 = q at h3i hq
            have h3b : ad3.block < w.heap.size := by have := World.block_lt_of_cell? w _ h3i; rwa [add_block] at this
            have HQ := Aside0.mk (And.intro h3i hq)
            clear h3i hq
            by_cases huL : u < L1.length
            · skip
              go_wp2_with (first
                | (go_at_call 10; refine (write_code g R sz _ (L.drop u) B c D k _ HD.out.2.2.2.1 HD.out.2.2.2.2.1 hs hlc wr HA.out.ring (HD.out.1.below HA.out.below) (fun a' e h0 => by have := HBw.out a' e h0; omega)).mono ?_
                   rintro x w4 ⟨rfl, hRing, hB4, hsz4, ho4⟩
                   rw [HD.out.2.2.2.2.2.2.2.2] at hRing
                   have hcell4 : w4.cell? (ad.add i) = some (.slice B D.length c) := by rw [← hcellr]; exact World.cell?_of_block (ho4 _ (by rw [add_block]; omega) (by rw [add_block]; omega))
                   have hB04 := HA.out.below.trans (hB4 w.heap.size hg0.1 hg0.2.1)
                   have HY := Aside0.mk (And.intro hRing (And.intro (own_heap HA.out.own fun b hb => ho4 b (by omega) (by omega)) (And.intro hB04 (Nat.le_trans HA.out.size hsz4))))
                   clear hRing hB4 hsz4 ho4 hB04)
                | (go_at_call 9; refine (num_calls _ _).mono ?_; rintro x w9 ⟨rfl, rfl⟩)
                | (at_builtin; go_loud (refine print_append_row (w0 := w4) w0.heap.size rfl _ _ 31 5 .u8 1 rfl Tryd.underlying31 PZ.info5 (by decide) u11 L (D.take k) B k c rfl rfl HY.out.2.1 (by have h := reads_take (HD.out.1.below HY.out.2.2.1) k hkD; rwa [HD.out.2.2.2.2.2.2.2.1] at h) (Below.refl _ _) HY.out.2.2.2 (by omega) ?_)
                   intro v1 w5 hown hB5 hG5 _
                   rw [← HD.out.2.2.2.2.2.1] at hown
                   obtain ⟨A1, c1, rfl⟩ := own_slice hown
                   have hlc1 := own_le hown
                   have HZ := Aside0.mk (And.intro (ring_below HY.out.1 hB5 hg0.2.2.1 hg0.2.2.2) (And.intro hown (And.intro (HY.out.2.2.1.trans (hB5.mono (by omega))) (Nat.le_trans HY.out.2.2.2 hG5.size))))
                   have hcell5 : w5.cell? (ad3.add i) = some (.int .i64 q) := (HZ.out.2.2.1.cell (by rw [add_block]; exact h3b)).trans HQ.out.1
                   clear hown hB5 hG5 HY)
                | (go_at_call 11
                   obtain ⟨u1, hu2, hu3, hu4⟩ := next_una u L1.length q hu1 hLm HQ.out.2
                   rw [hu4]
                   clear hu4
                   refine (ack_ring g R sz (u1 - u) _ _ (L1.drop u) hs (by omega) (by rw [List.length_drop]; omega) w5 HZ.out.1).mono ?_
                   rintro x w6 ⟨rfl, hRing, hG6⟩
                   rw [List.drop_drop, show u + (u1 - u) = u1 by omega] at hRing
                   have HW := Aside0.mk (And.intro hRing (And.intro (HZ.out.2.1.kept hG6 (own_ne HZ.out.2.1 hg0.2.2.1)) (And.intro (HZ.out.2.2.1.grown hG6 HZ.out.2.2.1.size (by intro k' hk'; have := Option.some.inj hk'; omega)) (Nat.le_trans HZ.out.2.2.2 hG6.size))))
                   clear hRing hG6 HZ)
                | (go_at_call 12
                   refine (slice_ring g R sz 0 L1.length _ _ (L1.drop u1) hs (by simp) (Nat.zero_le _) (by omega) w6 HW.out.1).mono ?_
                   rintro x w7 ⟨v7, rfl, hown7, hB7⟩
                   rw [List.drop_zero, Nat.sub_zero, Nat.min_eq_right (by rw [List.length_drop]; omega), List.take_length] at hown7
                   obtain ⟨A7, c7, rfl, hlc7, hrd7⟩ := own_reads_c hown7
                   rw [List.length_drop] at hlc7
                   obtain ⟨i0, hi0, hz0⟩ := Option.map_eq_some_iff.1 PZ.info5
                   obtain ⟨A8, hcut, hA8⟩ := print_cut (P := Tryd.prog) 31 5 .i64 Tryd.underlying31 hi0 (by simp only [Prod.mk.injEq] at hz0; exact hz0.2.1) A1 L1.length c1 u1 (by omega)
                   have hat6 : At w w0 g R sz a1 ((l2.take (i + 1)).map List.length).sum (.slice A1 L1.length c1) u1 w6 L1 := ⟨HW.out.2.1, by omega, HW.out.1, HW.out.2.2.1, HW.out.2.2.2, by have h1 := HD.out.2.1; have h2 := HD.out.2.2.2.2.2.2.1; have h3 := HA.out.sum; rw [h1, h2]; omega⟩
                   have hrs : L1.length - u1 ≤ sz := by have := ring_len HW.out.1; rwa [List.length_drop] at this
                   have hat7 := at_step hat6 hg0.2.2.1 hB7
                   rw [List.length_drop] at hrd7
                   have HV := Aside0.mk (And.intro hrd7 (And.intro (hA8 w7 .u8 L1 hlc1 (own_reads_at hat7.own)) hat7))
                   clear hi0 hz0 hB7 hat6 hat7 hrd7 hA8 hown7 HW)
                | (go_at_call 13; refine (same_cut A7 A8 c7 (c1 - u1) (L1.drop u1) (L1.length - u1) (by rw [List.length_drop]) (by omega) w7 HV.out.1 hlc7 HV.out.2.1 (by omega)).mono ?_
                   rintro x w8 ⟨rfl, hD8⟩
                   have HF := Aside0.mk (at_step HV.out.2.2 hg0.2.2.1 hD8.below)
                   clear hD8 HV))
              go_roundw
              case rel => exact ⟨i + 1, u1, L1, rfl, by go_num, by omega, HF.out⟩
              case measure => simp [intOf]; omega
            · skip
              go_wp2_with (first
                | (go_at_call 10; refine (write_code g R sz _ (L.drop u) B c D k _ HD.out.2.2.2.1 HD.out.2.2.2.2.1 hs hlc wr HA.out.ring (HD.out.1.below HA.out.below) (fun a' e h0 => by have := HBw.out a' e h0; omega)).mono ?_
                   rintro x w4 ⟨rfl, hRing, hB4, hsz4, ho4⟩
                   rw [HD.out.2.2.2.2.2.2.2.2] at hRing
                   have hcell4 : w4.cell? (ad.add i) = some (.slice B D.length c) := by rw [← hcellr]; exact World.cell?_of_block (ho4 _ (by rw [add_block]; omega) (by rw [add_block]; omega))
                   have hB04 := HA.out.below.trans (hB4 w.heap.size hg0.1 hg0.2.1)
                   have HY := Aside0.mk (And.intro hRing (And.intro (own_heap HA.out.own fun b hb => ho4 b (by omega) (by omega)) (And.intro hB04 (Nat.le_trans HA.out.size hsz4))))
                   clear hRing hB4 hsz4 ho4 hB04)
                | (go_at_call 9; refine (num_calls _ _).mono ?_; rintro x w9 ⟨rfl, rfl⟩)
                | (at_builtin; go_loud (refine print_append_row (w0 := w4) w0.heap.size rfl _ _ 31 5 .u8 1 rfl Tryd.underlying31 PZ.info5 (by decide) u11 L (D.take k) B k c rfl rfl HY.out.2.1 (by have h := reads_take (HD.out.1.below HY.out.2.2.1) k hkD; rwa [HD.out.2.2.2.2.2.2.2.1] at h) (Below.refl _ _) HY.out.2.2.2 (by omega) ?_)
                   intro v1 w5 hown hB5 hG5 _
                   rw [← HD.out.2.2.2.2.2.1] at hown
                   obtain ⟨A1, c1, rfl⟩ := own_slice hown
                   have hlc1 := own_le hown
                   have HZ := Aside0.mk (And.intro (ring_below HY.out.1 hB5 hg0.2.2.1 hg0.2.2.2) (And.intro hown (And.intro (HY.out.2.2.1.trans (hB5.mono (by omega))) (Nat.le_trans HY.out.2.2.2 hG5.size))))
                   have hcell5 : w5.cell? (ad3.add i) = some (.int .i64 q) := (HZ.out.2.2.1.cell (by rw [add_block]; exact h3b)).trans HQ.out.1
                   clear hown hB5 hG5 HY)
                | (go_at_call 12
                   refine (slice_ring g R sz 0 L1.length _ _ (L1.drop u) hs (by simp) (Nat.zero_le _) (by omega) w5 HZ.out.1).mono ?_
                   rintro x w7 ⟨v7, rfl, hown7, hB7⟩
                   rw [List.drop_zero, Nat.sub_zero, Nat.min_eq_right (by rw [List.length_drop]; omega), List.take_length] at hown7
                   obtain ⟨A7, c7, rfl, hlc7, hrd7⟩ := own_reads_c hown7
                   rw [List.length_drop] at hlc7
                   obtain ⟨i0, hi0, hz0⟩ := Option.map_eq_some_iff.1 PZ.info5
                   obtain ⟨A8, hcut, hA8⟩ := print_cut (P := Tryd.prog) 31 5 .i64 Tryd.underlying31 hi0 (by simp only [Prod.mk.injEq] at hz0; exact hz0.2.1) A1 L1.length c1 u (by omega)
                   have hat6 : At w w0 g R sz a1 ((l2.take (i + 1)).map List.length).sum (.slice A1 L1.length c1) u w5 L1 := ⟨HZ.out.2.1, by omega, HZ.out.1, HZ.out.2.2.1, HZ.out.2.2.2, by have h1 := HD.out.2.1; have h2 := HD.out.2.2.2.2.2.2.1; have h3 := HA.out.sum; rw [h1, h2]; omega⟩
                   have hrs : L1.length - u ≤ sz := by have := ring_len HZ.out.1; rwa [List.length_drop] at this
                   have hat7 := at_step hat6 hg0.2.2.1 hB7
                   rw [List.length_drop] at hrd7
                   have HV := Aside0.mk (And.intro hrd7 (And.intro (hA8 w7 .u8 L1 hlc1 (own_reads_at hat7.own)) hat7))
                   clear hi0 hz0 hB7 hat6 hat7 hrd7 hA8 hown7 HZ)
                | (go_at_call 13; refine (same_cut A7 A8 c7 (c1 - u) (L1.drop u) (L1.length - u) (by rw [List.length_drop]) (by omega) w7 HV.out.1 hlc7 HV.out.2.1 (by omega)).mono ?_
                   rintro x w8 ⟨rfl, hD8⟩
                   have HF := Aside0.mk (at_step HV.out.2.2 hg0.2.2.1 hD8.below)
                   clear hD8 HV))
              go_roundw
              case rel => exact ⟨i + 1, u, L1, rfl, by go_num, by omega, HF.out⟩
              case measure => simp [intOf]; omega
          · skip
            go_wp2_with (first
              | (go_at_call 10; refine (write_code g R sz _ (L.drop u) B c D k _ HD.out.2.2.2.1 HD.out.2.2.2.2.1 hs hlc wr HA.out.ring (HD.out.1.below HA.out.below) (fun a' e h0 => by have := HBw.out a' e h0; omega)).mono ?_
                 rintro x w4 ⟨rfl, hRing, hB4, hsz4, ho4⟩
                 rw [HD.out.2.2.2.2.2.2.2.2] at hRing
                 have hcell4 : w4.cell? (ad.add i) = some (.slice B D.length c) := by rw [← hcellr]; exact World.cell?_of_block (ho4 _ (by rw [add_block]; omega) (by rw [add_block]; omega))
                 have hB04 := HA.out.below.trans (hB4 w.heap.size hg0.1 hg0.2.1)
                 have HY := Aside0.mk (And.intro hRing (And.intro (own_heap HA.out.own fun b hb => ho4 b (by omega) (by omega)) (And.intro hB04 (Nat.le_trans HA.out.size hsz4))))
                 clear hRing hB4 hsz4 ho4 hB04)
              | (go_at_call 9; refine (num_calls _ _).mono ?_; rintro x w9 ⟨rfl, rfl⟩)
              | (at_builtin; go_loud (refine print_append_row (w0 := w4) w0.heap.size rfl _ _ 31 5 .u8 1 rfl Tryd.underlying31 PZ.info5 (by decide) u11 L (D.take k) B k c rfl rfl HY.out.2.1 (by have h := reads_take (HD.out.1.below HY.out.2.2.1) k hkD; rwa [HD.out.2.2.2.2.2.2.2.1] at h) (Below.refl _ _) HY.out.2.2.2 (by omega) ?_)
                 intro v1 w5 hown hB5 hG5 _
                 rw [← HD.out.2.2.2.2.2.1] at hown
                 obtain ⟨A1, c1, rfl⟩ := own_slice hown
                 have hlc1 := own_le hown
                 have HZ := Aside0.mk (And.intro (ring_below HY.out.1 hB5 hg0.2.2.1 hg0.2.2.2) (And.intro hown (And.intro (HY.out.2.2.1.trans (hB5.mono (by omega))) (Nat.le_trans HY.out.2.2.2 hG5.size))))
                 clear hown hB5 hG5 HY)
              | (go_at_call 12
                 refine (slice_ring g R sz 0 L1.length _ _ (L1.drop u) hs (by simp) (Nat.zero_le _) (by omega) w5 HZ.out.1).mono ?_
                 rintro x w7 ⟨v7, rfl, hown7, hB7⟩
                 rw [List.drop_zero, Nat.sub_zero, Nat.min_eq_right (by rw [List.length_drop]; omega), List.take_length] at hown7
                 obtain ⟨A7, c7, rfl, hlc7, hrd7⟩ := own_reads_c hown7
                 rw [List.length_drop] at hlc7
                 obtain ⟨i0, hi0, hz0⟩ := Option.map_eq_some_iff.1 PZ.info5
                 obtain ⟨A8, hcut, hA8⟩ := print_cut (P := Tryd.prog) 31 5 .i64 Tryd.underlying31 hi0 (by simp only [Prod.mk.injEq] at hz0; exact hz0.2.1) A1 L1.length c1 u (by omega)
                 have hat6 : At w w0 g R sz a1 ((l2.take (i + 1)).map List.length).sum (.slice A1 L1.length c1) u w5 L1 := ⟨HZ.out.2.1, by omega, HZ.out.1, HZ.out.2.2.1, HZ.out.2.2.2, by have h1 := HD.out.2.1; have h2 := HD.out.2.2.2.2.2.2.1; have h3 := HA.out.sum; rw [h1, h2]; omega⟩
                 have hrs : L1.length - u ≤ sz := by have := ring_len HZ.out.1; rwa [List.length_drop] at this
                 have hat7 := at_step hat6 hg0.2.2.1 hB7
                 rw [List.length_drop] at hrd7
                 have HV := Aside0.mk (And.intro hrd7 (And.intro (hA8 w7 .u8 L1 hlc1 (own_reads_at hat7.own)) hat7))
                 clear hi0 hz0 hB7 hat6 hat7 hrd7 hA8 hown7 HZ)
              | (go_at_call 13; refine (same_cut A7 A8 c7 (c1 - u) (L1.drop u) (L1.length - u) (by rw [List.length_drop]) (by omega) w7 HV.out.1 hlc7 HV.out.2.1 (by omega)).mono ?_
                 rintro x w8 ⟨rfl, hD8⟩
                 have HF := Aside0.mk (at_step HV.out.2.2 hg0.2.2.1 hD8.below)
                 clear hD8 HV))
            go_roundw
            case rel => exact ⟨i + 1, u, L1, rfl, by go_num, by omega, HF.out⟩
            case measure => simp [intOf]; omega
        · by_cases hi3 : i < l3.length
          · obtain ⟨ad3, rfl, h3w⟩ := H3.out.2.2 (by omega)
            have h3i := h3w i hi3
            have hq := HL3.out i hi3
            clear h3w
            generalize l3.getD i 0 = q at h3i hq
            have h3b : ad3.block < w.heap.size := by have := World.block_lt_of_cell? w _ h3i; rwa [add_block] at this
            have HQ := Aside0.mk (And.intro h3i hq)
            clear h3i hq
            by_cases huL : u < L1.length
            · skip
              go_wp2_with (first
                | (go_at_call 10; refine (write_code g R sz _ (L.drop u) B c D k _ HD.out.2.2.2.1 HD.out.2.2.2.2.1 hs hlc wr HA.out.ring (HD.out.1.below HA.out.below) (fun a' e h0 => by have := HBw.out a' e h0; omega)).mono ?_
                   rintro x w4 ⟨rfl, hRing, hB4, hsz4, ho4⟩
                   rw [HD.out.2.2.2.2.2.2.2.2] at hRing
                   have hcell4 : w4.cell? (ad.add i) = some (.slice B D.length c) := by rw [← hcellr]; exact World.cell?_of_block (ho4 _ (by rw [add_block]; omega) (by rw [add_block]; omega))
                   have hB04 := HA.out.below.trans (hB4 w.heap.size hg0.1 hg0.2.1)
                   have HY := Aside0.mk (And.intro hRing (And.intro (own_heap HA.out.own fun b hb => ho4 b (by omega) (by omega)) (And.intro hB04 (Nat.le_trans HA.out.size hsz4))))
                   clear hRing hB4 hsz4 ho4 hB04)
                | (go_at_call 9; refine (num_calls _ _).mono ?_; rintro x w9 ⟨rfl, rfl⟩)
                | (at_builtin; go_loud (refine print_append_row (w0 := w4) w0.heap.size rfl _ _ 31 5 .u8 1 rfl Tryd.underlying31 PZ.info5 (by decide) u11 L (D.take k) B k c rfl rfl HY.out.2.1 (by have h := reads_take (HD.out.1.below HY.out.2.2.1) k hkD; rwa [HD.out.2.2.2.2.2.2.2.1] at h) (Below.refl _ _) HY.out.2.2.2 (by omega) ?_)
                   intro v1 w5 hown hB5 hG5 _
                   rw [← HD.out.2.2.2.2.2.1] at hown
                   obtain ⟨A1, c1, rfl⟩ := own_slice hown
                   have hlc1 := own_le hown
                   have HZ := Aside0.mk (And.intro (ring_below HY.out.1 hB5 hg0.2.2.1 hg0.2.2.2) (And.intro hown (And.intro (HY.out.2.2.1.trans (hB5.mono (by omega))) (Nat.le_trans HY.out.2.2.2 hG5.size))))
                   have hcell5 : w5.cell? (ad3.add i) = some (.int .i64 q) := (HZ.out.2.2.1.cell (by rw [add_block]; exact h3b)).trans HQ.out.1
                   clear hown hB5 hG5 HY)
                | (go_at_call 11
                   obtain ⟨u1, hu2, hu3, hu4⟩ := next_una u L1.length q hu1 hLm HQ.out.2
                   rw [hu4]
                   clear hu4
                   refine (ack_ring g R sz (u1 - u) _ _ (L1.drop u) hs (by omega) (by rw [List.length_drop]; omega) w5 HZ.out.1).mono ?_
                   rintro x w6 ⟨rfl, hRing, hG6⟩
                   rw [List.drop_drop, show u + (u1 - u) = u1 by omega] at hRing
                   have HW := Aside0.mk (And.intro hRing (And.intro (HZ.out.2.1.kept hG6 (own_ne HZ.out.2.1 hg0.2.2.1)) (And.intro (HZ.out.2.2.1.grown hG6 HZ.out.2.2.1.size (by intro k' hk'; have := Option.some.inj hk'; omega)) (Nat.le_trans HZ.out.2.2.2 hG6.size))))
                   clear hRing hG6 HZ)
                | (go_at_call 12
                   refine (slice_ring g R sz 0 L1.length _ _ (L1.drop u1) hs (by simp) (Nat.zero_le _) (by omega) w6 HW.out.1).mono ?_
                   rintro x w7 ⟨v7, rfl, hown7, hB7⟩
                   rw [List.drop_zero, Nat.sub_zero, Nat.min_eq_right (by rw [List.length_drop]; omega), List.take_length] at hown7
                   obtain ⟨A7, c7, rfl, hlc7, hrd7⟩ := own_reads_c hown7
                   rw [List.length_drop] at hlc7
                   obtain ⟨i0, hi0, hz0⟩ := Option.map_eq_some_iff.1 PZ.info5
                   obtain ⟨A8, hcut, hA8⟩ := print_cut (P := Tryd.prog) 31 5 .i64 Tryd.underlying31 hi0 (by simp only [Prod.mk.injEq] at hz0; exact hz0.2.1) A1 L1.length c1 u1 (by omega)
                   have hat6 : At w w0 g R sz a1 ((l2.take (i + 1)).map List.length).sum (.slice A1 L1.length c1) u1 w6 L1 := ⟨HW.out.2.1, by omega, HW.out.1, HW.out.2.2.1, HW.out.2.2.2, by have h1 := HD.out.2.1; have h2 := HD.out.2.2.2.2.2.2.1; have h3 := HA.out.sum; rw [h1, h2]; omega⟩
                   have hrs : L1.length - u1 ≤ sz := by have := ring_len HW.out.1; rwa [List.length_drop] at this
                   have hat7 := at_step hat6 hg0.2.2.1 hB7
                   rw [List.length_drop] at hrd7
                   have HV := Aside0.mk (And.intro hrd7 (And.intro (hA8 w7 .u8 L1 hlc1 (own_reads_at hat7.own)) hat7))
                   clear hi0 hz0 hB7 hat6 hat7 hrd7 hA8 hown7 HW)
                | (go_at_call 13; refine (same_cut A7 A8 c7 (c1 - u1) (L1.drop u1) (L1.length - u1) (by rw [List.length_drop]) (by omega) w7 HV.out.1 hlc7 HV.out.2.1 (by omega)).mono ?_
                   rintro x w8 ⟨rfl, hD8⟩
                   have HF := Aside0.mk (at_step HV.out.2.2 hg0.2.2.1 hD8.below)
                   clear hD8 HV))
              go_roundw
              case rel => exact ⟨i + 1, u1, L1, rfl, by go_num, by omega, HF.out⟩
              case measure => simp [intOf]; omega
            · skip
              go_wp2_with (first
                | (go_at_call 10; refine (write_code g R sz _ (L.drop u) B c D k _ HD.out.2.2.2.1 HD.out.2.2.2.2.1 hs hlc wr HA.out.ring (HD.out.1.below HA.out.below) (fun a' e h0 => by have := HBw.out a' e h0; omega)).mono ?_
                   rintro x w4 ⟨rfl, hRing, hB4, hsz4, ho4⟩
                   rw [HD.out.2.2.2.2.2.2.2.2] at hRing
                   have hcell4 : w4.cell? (ad.add i) = some (.slice B D.length c) := by rw [← hcellr]; exact World.cell?_of_block (ho4 _ (by rw [add_block]; omega) (by rw [add_block]; omega))
                   have hB04 := HA.out.below.trans (hB4 w.heap.size hg0.1 hg0.2.1)
                   have HY := Aside0.mk (And.intro hRing (And.intro (own_heap HA.out.own fun b hb => ho4 b (by omega) (by omega)) (And.intro hB04 (Nat.le_trans HA.out.size hsz4))))
                   clear hRing hB4 hsz4 ho4 hB04)
                | (go_at_call 9; refine (num_calls _ _).mono ?_; rintro x w9 ⟨rfl, rfl⟩)
                | (at_builtin; go_loud (refine print_append_row (w0 := w4) w0.heap.size rfl _ _ 31 5 .u8 1 rfl Tryd.underlying31 PZ.info5 (by decide) u11 L (D.take k) B k c rfl rfl HY.out.2.1 (by have h := reads_take (HD.out.1.below HY.out.2.2.1) k hkD; rwa [HD.out.2.2.2.2.2.2.2.1] at h) (Below.refl _ _) HY.out.2.2.2 (by omega) ?_)
                   intro v1 w5 hown hB5 hG5 _
                   rw [← HD.out.2.2.2.2.2.1] at hown
                   obtain ⟨A1, c1, rfl⟩ := own_slice hown
                   have hlc1 := own_le hown
                   have HZ := Aside0.mk (And.intro (ring_below HY.out.1 hB5 hg0.2.2.1 hg0.2.2.2) (And.intro hown (And.intro (HY.out.2.2.1.trans (hB5.mono (by omega))) (Nat.le_trans HY.out.2.2.2 hG5.size))))
                   have hcell5 : w5.cell? (ad3.add i) = some (.int .i64 q) := (HZ.out.2.2.1.cell (by rw [add_block]; exact h3b)).trans HQ.out.1
                   clear hown hB5 hG5 HY)
                | (go_at_call 12
                   refine (slice_ring g R sz 0 L1.length _ _ (L1.drop u) hs (by simp) (Nat.zero_le _) (by omega) w5 HZ.out.1).mono ?_
                   rintro x w7 ⟨v7, rfl, hown7, hB7⟩
                   rw [List.drop_zero, Nat.sub_zero, Nat.min_eq_right (by rw [List.length_drop]; omega), List.take_length] at hown7
                   obtain ⟨A7, c7, rfl, hlc7, hrd7⟩ := own_reads_c hown7
                   rw [List.length_drop] at hlc7
                   obtain ⟨i0, hi0, hz0⟩ := Option.map_eq_some_iff.1 PZ.info5
                   obtain ⟨A8, hcut, hA8⟩ := print_cut (P := Tryd.prog) 31 5 .i64 Tryd.underlying31 hi0 (by simp only [Prod.mk.injEq] at hz0; exact hz0.2.1) A1 L1.length c1 u (by omega)
                   have hat6 : At w w0 g R sz a1 ((l2.take (i + 1)).map List.length).sum (.slice A1 L1.length c1) u w5 L1 := ⟨HZ.out.2.1, by omega, HZ.out.1, HZ.out.2.2.1, HZ.out.2.2.2, by have h1 := HD.out.2.1; have h2 := HD.out.2.2.2.2.2.2.1; have h3 := HA.out.sum; rw [h1, h2]; omega⟩
                   have hrs : L1.length - u ≤ sz := by have := ring_len HZ.out.1; rwa [List.length_drop] at this
                   have hat7 := at_step hat6 hg0.2.2.1 hB7
                   rw [List.length_drop] at hrd7
                   have HV := Aside0.mk (And.intro hrd7 (And.intro (hA8 w7 .u8 L1 hlc1 (own_reads_at hat7.own)) hat7))
                   clear hi0 hz0 hB7 hat6 hat7 hrd7 hA8 hown7 HZ)
                | (go_at_call 13; refine (same_cut A7 A8 c7 (c1 - u) (L1.drop u) (L1.length - u) (by rw [List.length_drop]) (by omega) w7 HV.out.1 hlc7 HV.out.2.1 (by omega)).mono ?_
                   rintro x w8 ⟨rfl, hD8⟩
                   have HF := Aside0.mk (at_step HV.out.2.2 hg0.2.2.1 hD8.below)
                   clear hD8 HV))
              go_roundw
              case rel => exact ⟨i + 1, u, L1, rfl, by go_num, by omega, HF.out⟩
              case measure => simp [intOf]; omega
          · skip
            go_wp2_with (first
              | (go_at_call 10; refine (write_code g R sz _ (L.drop u) B c D k _ HD.out.2.2.2.1 HD.out.2.2.2.2.1 hs hlc wr HA.out.ring (HD.out.1.below HA.out.below) (fun a' e h0 => by have := HBw.out a' e h0; omega)).mono ?_
                 rintro x w4 ⟨rfl, hRing, hB4, hsz4, ho4⟩
                 rw [HD.out.2.2.2.2.2.2.2.2] at hRing
                 have hcell4 : w4.cell? (ad.add i) = some (.slice B D.length c) := by rw [← hcellr]; exact World.cell?_of_block (ho4 _ (by rw [add_block]; omega) (by rw [add_block]; omega))
                 have hB04 := HA.out.below.trans (hB4 w.heap.size hg0.1 hg0.2.1)
                 have HY := Aside0.mk (And.intro hRing (And.intro (own_heap HA.out.own fun b hb => ho4 b (by omega) (by omega)) (And.intro hB04 (Nat.le_trans HA.out.size hsz4))))
                 clear hRing hB4 hsz4 ho4 hB04)
              | (go_at_call 9; refine (num_calls _ _).mono ?_; rintro x w9 ⟨rfl, rfl⟩)
              | (at_builtin; go_loud (refine print_append_row (w0 := w4) w0.heap.size rfl _ _ 31 5 .u8 1 rfl Tryd.underlying31 PZ.info5 (by decide) u11 L (D.take k) B k c rfl rfl HY.out.2.1 (by have h := reads_take (HD.out.1.below HY.out.2.2.1) k hkD; rwa [HD.out.2.2.2.2.2.2.2.1] at h) (Below.refl _ _) HY.out.2.2.2 (by omega) ?_)
                 intro v1 w5 hown hB5 hG5 _
                 rw [← HD.out.2.2.2.2.2.1] at hown
                 obtain ⟨A1, c1, rfl⟩ := own_slice hown
                 have hlc1 := own_le hown
                 have HZ := Aside0.mk (And.intro (ring_below HY.out.1 hB5 hg0.2.2.1 hg0.2.2.2) (And.intro hown (And.intro (HY.out.2.2.1.trans (hB5.mono (by omega))) (Nat.le_trans HY.out.2.2.2 hG5.size))))
                 clear hown hB5 hG5 HY)
              | (go_at_call 12
                 refine (slice_ring g R sz 0 L1.length _ _ (L1.drop u) hs (by simp) (Nat.zero_le _) (by omega) w5 HZ.out.1).mono ?_
                 rintro x w7 ⟨v7, rfl, hown7, hB7⟩
                 rw [List.drop_zero, Nat.sub_zero, Nat.min_eq_right (by rw [List.length_drop]; omega), List.take_length] at hown7
                 obtain ⟨A7, c7, rfl, hlc7, hrd7⟩ := own_reads_c hown7
                 rw [List.length_drop] at hlc7
                 obtain ⟨i0, hi0, hz0⟩ := Option.map_eq_some_iff.1 PZ.info5
                 obtain ⟨A8, hcut, hA8⟩ := print_cut (P := Tryd.prog) 31 5 .i64 Tryd.underlying31 hi0 (by simp only [Prod.mk.injEq] at hz0; exact hz0.2.1) A1 L1.length c1 u (by omega)
                 have hat6 : At w w0 g R sz a1 ((l2.take (i + 1)).map List.length).sum (.slice A1 L1.length c1) u w5 L1 := ⟨HZ.out.2.1, by omega, HZ.out.1, HZ.out.2.2.1, HZ.out.2.2.2, by have h1 := HD.out.2.1; have h2 := HD.out.2.2.2.2.2.2.1; have h3 := HA.out.sum; rw [h1, h2]; omega⟩
                 have hrs : L1.length - u ≤ sz := by have := ring_len HZ.out.1; rwa [List.length_drop] at this
                 have hat7 := at_step hat6 hg0.2.2.1 hB7
                 rw [List.length_drop] at hrd7
                 have HV := Aside0.mk (And.intro hrd7 (And.intro (hA8 w7 .u8 L1 hlc1 (own_reads_at hat7.own)) hat7))
                 clear hi0 hz0 hB7 hat6 hat7 hrd7 hA8 hown7 HZ)
              | (go_at_call 13; refine (same_cut A7 A8 c7 (c1 - u) (L1.drop u) (L1.length - u) (by rw [List.length_drop]) (by omega) w7 HV.out.1 hlc7 HV.out.2.1 (by omega)).mono ?_
                 rintro x w8 ⟨rfl, hD8⟩
                 have HF := Aside0.mk (at_step HV.out.2.2 hg0.2.2.1 hD8.below)
                 clear hD8 HV))
            go_roundw
            case rel => exact ⟨i + 1, u, L1, rfl, by go_num, by omega, HF.out⟩
            case measure => simp [intOf]; omega
      · go_wp2
        go_ret
        exact ⟨rfl, HA.out.below⟩
  · go_enter Tryd.func3, Tryd.ntmps3
    go_wp2_with (first
      | (go_at_call 7; refine (alive_calls _).mono ?_; rintro x w1 ⟨rfl, hB⟩; have HB1 := Aside0.mk hB; clear hB)
      | (go_at_call 9; refine (num_calls _ _).mono ?_; rintro x w9 ⟨rfl, rfl⟩)
      | (go_at_call 8; refine (new_no a0 a1 (by omega) w1).mono ?_; rintro x w3 ⟨rfl, rfl⟩))
    go_ret
    exact ⟨rfl, HB1.out⟩
end Go.Proofs.YtiphiacidokhiaaDoor.Hand
