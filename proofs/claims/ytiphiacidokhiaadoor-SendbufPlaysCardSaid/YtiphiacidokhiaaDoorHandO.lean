/- Chapter 15: SendbufOwn, walked by hand. -/
import Derived.Test.YtiphiacidokhiaaDoorHandZ
namespace Go.Proofs.YtiphiacidokhiaaDoor.Hand
open Go.RowKit Go.Proofs.YtiphiacidokhiaaDoorW.PrintWords Go.Proofs.YtiphiacidokhiaaDoorW.PrintLast Go.Proofs.YtiphiacidokhiaaDoorW.PrintMore
set_option linter.unusedVariables false
set_option linter.unusedSimpArgs false
attribute [local go_sem] Oper.semAt_some
theorem reads_below {w w1 : World} {A : Option Addr} {k : Nat} {D : List Int} (h : ReadsInt w .u8 A k D) (hb : Below w.heap.size w w1) : ReadsInt w1 .u8 A k D := h.below hb
theorem reads_block {w : World} {A : Option Addr} {k : Nat} {D : List Int} (h : ReadsInt w .u8 A k D) (ad : Addr) (e : A = some ad) (hk : 0 < k) : ad.block < w.heap.size := by
  obtain ⟨ad', e', hc⟩ := h.2.2 hk
  obtain rfl : ad' = ad := Option.some.inj (e'.symm.trans e)
  have := hc 0 hk
  have hb : (ad'.add 0).block = ad'.block := by unfold Addr.add; split <;> rfl
  rw [← hb]
  refine Decidable.byContradiction fun hn => ?_
  have h0 : w.heap[(ad'.add 0).block]? = none := by simp; omega
  unfold World.cell? at this
  rw [h0] at this
  cases this
theorem none_ptr (q : Option Addr) (w : World) (h : ∀ a, q = some a → a = ⟨a.block, 0, none⟩ ∧ w.heap[a.block]? = some (.cells #[.slice none 0 0, .int .i64 0, .int .i64 0, .int .u32 0] 59 (0, 0))) : None (.pointer q) w := by
  cases q with
  | none => exact none_nil w
  | some a =>
    obtain ⟨e, hb⟩ := h a rfl
    rw [e]; exact none_zero a.block w hb
theorem slice_ref (g R sz : Nat) (fr n una q m : Int) (w : World) (hb : w.heap[g]? = some (.cells (c4 R sz fr n una) 59 (0, 0))) (h : m < 0 ∨ 0 ≤ m ∧ n < (q - una) % 4294967296) :
    Calls Tryd.prog 12 #[.pointer (some ⟨g, 0, none⟩), .int .u32 q, .int .i64 m] w fun e w' => e = .returned (.tuple #[.slice none 0 0, .int .i64 (if m < 0 then 4 else 151)]) ∧ w = w' := by
  rcases h with h | ⟨h, h2⟩
  · rw [if_pos h]; exact slice_neg g R sz fr n una q m h w hb
  · rw [if_neg (by omega)]; exact slice_no g R sz fr n una q _ m h rfl (by omega) h2 w hb
set_option maxHeartbeats 4000000 in
set_option maxRecDepth 100000 in
theorem own_calls (a0 : Int) (A : Option Addr) (c : Nat) (D : List Int) (w : World) (hd : ReadsInt w .u8 A D.length D) (hc : D.length ≤ c) :
    Calls Tryd.prog 5 #[.int .u32 a0, .slice A D.length c] w fun e w' => e = .returned (.bool true) ∧ Below w.heap.size w w' := by
  have HD := Aside0.mk hd
  obtain ⟨k, hk⟩ : ∃ k : Nat, k = min D.length (100 - 0) := ⟨_, rfl⟩
  have HK := Aside0.mk hk
  have hk1 : k ≤ 100 := by omega
  have hu1 : (a0 - a0) % 4294967296 = 0 := by simp
  have hu2 : ((a0 + (k : Int) + 1) % 4294967296 - a0) % 4294967296 = (k : Int) + 1 := by omega
  have hu3 : ((a0 - 1) % 4294967296 - a0) % 4294967296 = 4294967295 := by omega
  clear hd hk
  go_enter Tryd.func5, Tryd.ntmps5
  go_wp2_with (first
    | (go_at_call 7; refine (alive_calls _).mono ?_; rintro x w1 ⟨rfl, hB⟩; have HB1 := Aside0.mk hB; clear hB)
    | (go_at_call 9; refine (num_calls _ _).mono ?_; rintro x w9 ⟨rfl, rfl⟩)
    | (go_at_call 24; refine (nothing_calls _ _ (none_ptr _ _ (by intro a e; cases e <;> exact ⟨rfl, Array.getElem?_push_size⟩))).mono ?_; rintro x w2 ⟨rfl, hw2⟩
       have HB2 : Aside0 (Below w.heap.size w w2) := ⟨by rw [← hw2]; first | exact HB1.out | exact below_alloc HB2.out _⟩
       clear hw2
       try clear HB1)
    | (go_at_call 8; refine (new_gen 100 a0 (by omega) (by omega) w2).mono ?_; rintro x w3 ⟨g, R, rfl, hb, hr, hgR, hg, hR, hg', hR', hB⟩; have HX := Aside0.mk (And.intro hb (And.intro hr hB)); have hz := HB2.out.size; clear hb hr hB)
    | (go_at_call 10; refine (write_calls' g R 100 0 0 a0 _ A D.length c D (by omega) (by omega) (by omega) hc HD.out.2.1 (by omega) (by simp) hgR (fun ad e h => by have := reads_block HD.out ad e h; omega) w3 HX.out.1 HX.out.2.1 (HD.out.below (HB2.out.trans (HX.out.2.2.mono hz)))).mono ?_
       rintro x w4 ⟨rfl, hb, _, hB, _⟩
       rw [← HK.out] at hb ⊢
       have HY := Aside0.mk (And.intro hb ((HB2.out.trans (HX.out.2.2.mono hz)).trans (hB _ (by omega) (by omega)))); clear hb hB HX HB2)
    | (go_at_call 11; refine (ack_no g R 100 _ _ a0 _ _ hu2 (by omega) (by omega) w4 HY.out.1).mono ?_; rintro x w5 ⟨rfl, rfl⟩)
    | (go_at_call 12; refine (slice_ref g R 100 _ _ a0 _ _ w4 HY.out.1 (by omega)).mono ?_; rintro x w5 ⟨rfl, rfl⟩)
    | (go_at_call 20; refine (una_calls g R 100 _ _ a0 w4 HY.out.1).mono ?_; rintro x w5 ⟨rfl, rfl⟩)
    | (go_at_call 21; refine (end_calls g R 100 _ _ a0 w4 HY.out.1).mono ?_; rintro x w6 ⟨rfl, hD⟩))
  go_ret
  exact ⟨rfl, HY.out.2.trans (hD.below.mono HY.out.2.size)⟩
end Go.Proofs.YtiphiacidokhiaaDoor.Hand
