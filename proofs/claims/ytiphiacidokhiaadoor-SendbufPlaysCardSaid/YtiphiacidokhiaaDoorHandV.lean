/- alive of chapter 15: the page's example, walked by hand: the whole. -/
import Derived.Test.YtiphiacidokhiaaDoorHandW
import Derived.Lib.SmallJoins
import Derived.Lib.SlBytesConst
namespace Go.Proofs.YtiphiacidokhiaaDoor.Hand
open Go.RowKit Go.Proofs.YtiphiacidokhiaaDoorW.PrintWords Go.Proofs.YtiphiacidokhiaaDoorW.PrintLast Go.Proofs.YtiphiacidokhiaaDoorW.PrintMore
set_option linter.unusedVariables false
set_option linter.unusedSimpArgs false
attribute [local go_sem] Oper.semAt_some
theorem num_calls (w : World) (a : Int) : Calls Tryd.prog 9 #[.int .i64 a] w fun e w' => e = .returned (.int .i64 a) ∧ w = w' := by
  go_enter Tryd.func9, Tryd.ntmps9
  go_wp2
  go_ret
  exact ⟨rfl, rfl⟩
theorem new_calls2 (w : World) : Calls Tryd.prog 8 #[.int .i64 4, .int .u32 4294967295] w fun e w' => ∃ g R, e = .returned (.tuple #[.pointer (some ⟨g, 0, none⟩), .int .i64 0]) ∧ w'.heap[g]? = some (.cells (c4 R 4 0 0 4294967295) 59 (0, 0)) ∧ w'.heap[R]? = some (.cells #[.int .u8 0, .int .u8 0, .int .u8 0, .int .u8 0] 5 (0, 0)) ∧ g ≠ R ∧ w.heap.size ≤ g ∧ w.heap.size ≤ R ∧ g < w'.heap.size ∧ R < w'.heap.size ∧ Below w.heap.size w w' := by
  refine (new_calls w).mono ?_
  rintro e w' ⟨rfl, rfl⟩
  refine ⟨w.heap.size + 1, w.heap.size, rfl, ?_, ?_, by omega, by omega, by omega, ?_, ?_, below_alloc (below_alloc (.refl _ _) _) _⟩
  · have e : ((w.heap.push (.cells #[.int .u8 0, .int .u8 0, .int .u8 0, .int .u8 0] 5)).push (.cells (c4 w.heap.size 4 0 0 4294967295) 59))[w.heap.size + 1]? = some (.cells (c4 w.heap.size 4 0 0 4294967295) 59) := by
      have := Array.getElem?_push_size (xs := w.heap.push (.cells #[.int .u8 0, .int .u8 0, .int .u8 0, .int .u8 0] 5)) (x := .cells (c4 w.heap.size 4 0 0 4294967295) 59)
      rwa [Array.size_push] at this
    exact e
  · show ((w.heap.push _).push _)[w.heap.size]? = _
    simp [Array.getElem?_push]
  · show _ < ((w.heap.push _).push _).size
    simp only [Array.size_push]; omega
  · show _ < ((w.heap.push _).push _).size
    simp only [Array.size_push]; omega
theorem write2_calls (g R : Nat) (w : World) (hb : w.heap[g]? = some (.cells (c4 R 4 0 0 4294967295) 59 (0, 0))) (hr : w.heap[R]? = some (.cells #[.int .u8 0, .int .u8 0, .int .u8 0, .int .u8 0] 5 (0, 0))) (hgR : g ≠ R) (hg : g < w.heap.size) (hR : R < w.heap.size) :
    Calls Tryd.prog 10 #[.pointer (some ⟨g, 0, none⟩), .slice (some ⟨w.heap.size, 0, none⟩) 5 5] (w.alloc (.cells #[.int .u8 97, .int .u8 98, .int .u8 99, .int .u8 100, .int .u8 101] 5 (5, 6))) fun e w' => e = .returned (.tuple #[.int .i64 4, .int .i64 0]) ∧ w'.heap[g]? = some (.cells (c4 R 4 0 4 4294967295) 59 (0, 0)) ∧ w'.heap[R]? = some (.cells #[.int .u8 97, .int .u8 98, .int .u8 99, .int .u8 100] 5 (0, 0)) ∧ ∀ n₀, n₀ ≤ g → n₀ ≤ R → Below n₀ w w' := by
  have e1 : (w.alloc (.cells #[.int .u8 97, .int .u8 98, .int .u8 99, .int .u8 100, .int .u8 101] 5 (5, 6))).heap[g]? = w.heap[g]? := (below_alloc (.refl _ _) _).block g hg
  have e2 : (w.alloc (.cells #[.int .u8 97, .int .u8 98, .int .u8 99, .int .u8 100, .int .u8 101] 5 (5, 6))).heap[R]? = w.heap[R]? := (below_alloc (.refl _ _) _).block R hR
  refine (write_calls g R w.heap.size 4294967295 _ (e1.trans hb) (e2.trans hr) hgR (fun j hj => ?_)).mono ?_
  · rw [World.cell?_alloc_mark]
    match j, hj with
    | 0, _ => rfl
    | 1, _ => rfl
    | 2, _ => rfl
    | 3, _ => rfl
    | 4, _ => rfl
  · rintro e w' ⟨rfl, hb', hr', hB⟩
    refine ⟨rfl, hb', hr', fun n₀ h h' => ((Below.refl _ _).alloc (by omega) _).trans (hB n₀ h h')⟩
theorem own_ne {w : World} {base g : Nat} {e : TypeId} {size n : Nat} {v : Value} {xs : List Value} (h : w.ownsRow base e size v n xs) (hg : g < base) : v.ownBlock = none ∨ v.ownBlock ≠ some g := by
  rcases own_base' h with h | ⟨b, h, hb⟩
  · exact .inl h
  · exact .inr (by rw [h]; intro he; have := Option.some.inj he; omega)
set_option maxHeartbeats 4000000 in
set_option maxRecDepth 100000 in
theorem alive_calls (w : World) : Calls Tryd.prog 7 #[] w fun e w' => e = .returned (.bool true) ∧ Below w.heap.size w w' := by
  have hcv := fun u : World => _root_.Go.Lib.run_convert_bytes_const (P := Tryd.prog) u 31 5 #[.int .u8 97, .int .u8 98, .int .u8 99, .int .u8 100, .int .u8 101] 5 5 Tryd.underlying31 Tryd.underlying5
  simp at hcv
  go_enter Tryd.func7, Tryd.ntmps7
  go_wp2_with (first
    | (go_at_call 8; refine (new_calls2 _).mono ?_; rintro x w1 ⟨g, R, rfl, hb, hr, hgR, hg, hR, hg', hR', hB⟩; have HX := Aside0.mk (And.intro hb (And.intro hr hB)); clear hb hr hB)
    | (go_at_call 9; refine (num_calls _ _).mono ?_; rintro x w9 ⟨rfl, rfl⟩)
    | (go_at_call 10; refine (write2_calls g R w1 HX.out.1 HX.out.2.1 hgR hg' hR').mono ?_; rintro x w2 ⟨rfl, hb, hr, hB⟩; have HY := Aside0.mk (And.intro hb (And.intro hr (HX.out.2.2.trans (hB w.heap.size hg hR)))); have hz2 := (hB w.heap.size hg hR).size; clear hb hr hB hcv HX)
    | (go_at_call 12; refine (slice_calls g R w2 HY.out.1 HY.out.2.1).mono ?_; rintro x w3 ⟨v, rfl, hv, hB⟩; have HZ := Aside0.mk (And.intro ((hB.block g (Nat.lt_of_lt_of_le hg' hz2)).trans HY.out.1) (And.intro hv (HY.out.2.2.trans (hB.mono (Nat.le_trans hg (Nat.le_of_lt (Nat.lt_of_lt_of_le hg' hz2))))))); clear hv hB)
    | (go_at_call 11; refine (ack_calls g R w3 HZ.out.1).mono ?_; rintro x w4 ⟨rfl, hb, hG⟩
       have HQ := Aside0.mk (And.intro hb (And.intro (HZ.out.2.1.kept hG (own_ne HZ.out.2.1 (Nat.lt_of_lt_of_le hg' hz2))) (HZ.out.2.2.grown hG HZ.out.2.2.size (by intro k hk; have := Option.some.inj hk; omega))))
       clear hb hG HZ HY
       have hstr : (convert 31 9 v).run Tryd.prog w4 = .ok (.string ⟨#[98, 99]⟩) w4 := (own_string (P := Tryd.prog) (xs := [98, 99]) Tryd.underlying31 Tryd.underlying5 Tryd.underlying9 HQ.out.2.1).trans (by kernel_rfl))
    | (go_at_call 20; refine (una_calls g R 4 2 2 1 w4 HQ.out.1).mono ?_; rintro x w5 ⟨rfl, rfl⟩)
    | (go_at_call 23; refine (room_calls g R 4 2 2 1 (by omega) (by omega) w4 HQ.out.1).mono ?_; rintro x w6 ⟨rfl, hD⟩))
  go_ret
  exact ⟨rfl, HQ.out.2.2.trans (hD.below.mono HQ.out.2.2.size)⟩
end Go.Proofs.YtiphiacidokhiaaDoor.Hand
