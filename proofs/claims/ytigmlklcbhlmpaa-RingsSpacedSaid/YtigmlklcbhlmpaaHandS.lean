/- Chapter 8: a card's Waiting, Send and Emit. -/
import Derived.Test.YtigmlklcbhlmpaaHandR
namespace Go.Proofs.Ytigmlklcbhlmpaa.Hand
open Go.RowKit Go.Proofs.Ytigmlklcbhlmpaa Go.Proofs.Ytigmlklcbhlmpaa.Util Go.Proofs.YtigmlklcbhlmpaaW.PrintWords Go.Proofs.YtigmlklcbhlmpaaW.PrintLast Go.Proofs.YtigmlklcbhlmpaaW.PrintMore
set_option linter.unusedVariables false
set_option linter.unusedSimpArgs false
attribute [local go_sem] Oper.semAt_some
/-- Frames: each value is a row of one's own that holds its octets. -/
def Fr (w : World) (base : Nat) : List Value → List (List Int) → Prop
  | [], [] => True
  | x :: vs, d :: ds => (∃ A c, x = .slice A d.length c ∧ w.ownsRow base 5 1 x d.length (nums .u8 d)) ∧ Fr w base vs ds
  | _, _ => False
theorem fr_len {w : World} {base : Nat} : ∀ {vs : List Value} {ds : List (List Int)}, Fr w base vs ds → vs.length = ds.length
  | [], [], _ => rfl
  | x :: vs, d :: ds, h => by simp [fr_len h.2]
  | [], _ :: _, h => h.elim
  | _ :: _, [], h => h.elim
theorem fr_move {w w' : World} {base : Nat} (hk : ∀ k cells, base ≤ k → w.heap[k]? = some (.cells cells 5 (0, 0)) → w'.heap[k]? = w.heap[k]?) : ∀ {vs : List Value} {ds : List (List Int)}, Fr w base vs ds → Fr w' base vs ds
  | [], [], _ => trivial
  | x :: vs, d :: ds, ⟨⟨A, c, e, ho⟩, h⟩ => ⟨⟨A, c, e, own_move ho (fun k hk' => by obtain ⟨cells, hc⟩ := own_typed ho k hk'; exact hk k cells (own_base ho k hk') hc)⟩, fr_move hk h⟩
  | [], _ :: _, h => h.elim
  | _ :: _, [], h => h.elim
theorem fr_snoc {w : World} {base : Nat} {x : Value} {d : List Int} (hx : ∃ A c, x = .slice A d.length c ∧ w.ownsRow base 5 1 x d.length (nums .u8 d)) : ∀ {vs : List Value} {ds : List (List Int)}, Fr w base vs ds → Fr w base (vs ++ [x]) (ds ++ [d])
  | [], [], _ => ⟨hx, trivial⟩
  | _ :: vs, _ :: ds, h => ⟨h.1, fr_snoc hx h.2⟩
  | [], _ :: _, h => h.elim
  | _ :: _, [], h => h.elim
/-- Rows of octets stay. -/
def Keep5 (w w' : World) : Prop := ∀ (k : Nat) (cells : Array Value), w.heap[k]? = some (Obj.cells cells 5 (0, 0)) → w'.heap[k]? = w.heap[k]?
theorem keep5_ne {w : World} {p k : Nat} {cs cells : Array Value} {t : TypeId} (hp : w.heap[p]? = some (.cells cs t (0, 0))) (ht : t ≠ 5) (hk : w.heap[k]? = some (.cells cells 5 (0, 0))) : k ≠ p := by
  intro e; subst e; rw [hp] at hk; injection hk with hk; injection hk with _ h2; exact ht h2
/-- A card at p. -/
structure CS (w : World) (base p : Nat) (kv tv i0 out : Value) (os : List Value) (ods : List (List Int)) (sz : Nat) (ev now free : Int) : Prop where
  blk : w.heap[p]? = some (.cells (card kv tv i0 out sz ev now free) 57 (0, 0))
  ro : QRow w base 22 1 out os.length os
  fo : Fr w base os ods
  hb : base ≤ p
theorem cs_move {w w' : World} {base p : Nat} {kv tv i0 out : Value} {os : List Value} {ods : List (List Int)} {sz : Nat} {ev now free : Int} (H : CS w base p kv tv i0 out os ods sz ev now free) (hb : Below w.heap.size w w') : CS w' base p kv tv i0 out os ods sz ev now free :=
  ⟨(hb.block p (blk_lt H.blk)).trans H.blk, q_move H.ro fun k hk => hb.block k (q_lt H.ro k hk), fr_move (fun k cells _ hc => hb.block k (blk_lt hc)) H.fo, H.hb⟩
theorem cs_blk {w : World} {base p i : Nat} {kv tv i0 out : Value} {os : List Value} {ods : List (List Int)} {sz : Nat} {ev now free now' free' : Int} {x : Value} {cs : Array Value} (H : CS w base p kv tv i0 out os ods sz ev now free) (hb : (w.setCell ⟨p, i, none⟩ x).heap[p]? = some (.cells cs 57 (0, 0))) (i0' : Value) (hcs : cs = card kv tv i0' out sz ev now' free') : CS (w.setCell ⟨p, i, none⟩ x) base p kv tv i0' out os ods sz ev now' free' :=
  ⟨by rw [← hcs]; exact hb, q_move H.ro fun k hk => Below.heap_setCell _ _ _ k (fun e => q_ne H.ro H.blk (by decide) (by rw [hk]; exact congrArg some e)),
    fr_move (fun k cells _ hc => Below.heap_setCell _ _ _ k (fun e => by
      have e' : k = p := e
      subst e'; rw [H.blk] at hc; injection hc with hc; injection hc with _ h2; cases h2)) H.fo, H.hb⟩
theorem set_below {w : World} {base p i : Nat} {x : Value} (hb : base ≤ p) : Below base w (w.setCell ⟨p, i, none⟩ x) := (Below.refl base w).setCell (p := ⟨p, i, none⟩) hb x
theorem none_calls (p : Nat) (kv tv i0 out : Value) (sz : Nat) (ev now free : Int) (hs : 1 ≤ sz) (w : World) (hb : w.heap[p]? = some (.cells (card kv tv i0 out sz ev now free) 57 (0, 0))) :
    Calls Try.prog 35 #[.pointer (some ⟨p, 0, none⟩)] w fun e w' => e = .returned (.bool false) ∧ w = w' := by
  have e2 := (blk_cell hb 2).trans rfl
  have hz : ((sz : Int) == 0) = false := by simp; omega
  clear hb
  go_enter Try.func35, Try.ntmps35
  go_wp2
  go_ret
  exact ⟨rfl, rfl⟩
theorem wait_calls (p : Nat) (kv tv i0 : Value) (A : Option Addr) (n c : Nat) (sz : Nat) (ev now free : Int) (hs : 1 ≤ sz) (w : World) (hb : w.heap[p]? = some (.cells (card kv tv i0 (.slice A n c) sz ev now free) 57 (0, 0))) :
    Calls Try.prog 15 #[.pointer (some ⟨p, 0, none⟩)] w fun e w' => e = .returned (.int .i64 (n : Int)) ∧ w = w' := by
  have e36 := (blk_cell hb 36).trans rfl
  have HN := Aside0.mk (none_calls p kv tv i0 (.slice A n c) sz ev now free hs w hb)
  clear hb
  go_enter Try.func15, Try.ntmps15
  go_wp2_with (go_at_call 35; refine HN.out.mono ?_; rintro x w1 ⟨rfl, rfl⟩)
  go_ret
  exact ⟨rfl, rfl⟩
set_option maxHeartbeats 1000000 in
set_option maxRecDepth 100000 in
theorem send_ok (base p : Nat) (kv tv i0 out : Value) (os : List Value) (ods : List (List Int)) (sz : Nat) (ev now free : Int) (A : Option Addr) (c : Nat) (D : List Int) (hs : 1 ≤ sz ∧ sz ≤ 4096) (hlt : ods.length < sz) (hDl : D.length ≤ 65535) (w : World) (hbw : base ≤ w.heap.size)
    (H : CS w base p kv tv i0 out os ods sz ev now free) (hd : ReadsInt w .u8 A D.length D) (hc : D.length ≤ c) :
    Calls Try.prog 13 #[.pointer (some ⟨p, 0, none⟩), .slice A D.length c] w fun e w' => e = .returned (.int .i64 0) ∧ (∃ out' os', CS w' base p kv tv i0 out' os' (ods ++ [D]) sz ev now free) ∧ Below base w w' ∧ Keep5 w w' := by
  have HX := Aside0.mk H
  have HN := Aside0.mk (none_calls p kv tv i0 out sz ev now free hs.1 w H.blk)
  have HD0 := Aside0.mk (And.intro hd hc)
  clear H hd hc
  go_enter Try.func13, Try.ntmps13
  go_wp2_with (go_at_call 35; refine HN.out.mono ?_; rintro x w1 ⟨rfl, rfl⟩)
  refine start_ (n := 8) (S := fun _ => True) (ds := [5]) (bs 8 0) (by kernel_rfl) rfl rfl trivial (fun hHeld => ?_)
  generalize hwd : World.drew _ = wd at hHeld ⊢
  have hBd : Below w.heap.size w wd := by rw [← hwd]; exact below_drew1 (Below.refl _ _)
  have hh : wd.heap = w.heap := by rw [← hwd]; rfl
  clear hwd
  have HD : Aside0 (ReadsInt wd .u8 A D.length D ∧ D.length ≤ c ∧ D.length * 1 ≤ 140737488351232) := ⟨HD0.out.1.below hBd, HD0.out.2, by omega⟩
  refine pure_ (i := 0) (N := some 13) (v := ?_) (a' := ?_) (bs 8 1) rfl rfl (by kernel_rfl) (fun _ _ _ h => h) (Or.inl ⟨by rfl, ?_⟩) ?_ ?_; rotate_left; (intro w'; go_simp; with_reducible rfl); rotate_left; (simp only [Act.put, q1_, q2_, q3_, i64_w, i32_w]; rfl)
  refine pure_ (i := 1) (N := some 14) (v := ?_) (a' := ?_) (bs 8 3) rfl rfl (by kernel_rfl) (fun _ _ _ h => h) (Or.inl ⟨by rfl, ?_⟩) ?_ ?_; rotate_left; (intro w'; go_simp; with_reducible rfl); rotate_left; (simp only [Act.put, q1_, q2_, q3_, i64_w, i32_w]; rfl)
  refine pure_ (i := 2) (N := some 15) (v := ?_) (a' := ?_) (bs 8 7) rfl rfl (by kernel_rfl) (fun _ _ _ h => h) (Or.inl ⟨by rfl, ?_⟩) ?_ ?_; rotate_left; (intro w'; go_simp; with_reducible rfl); rotate_left; (simp only [Act.put, q1_, q2_, q3_, i64_w, i32_w]; rfl)
  refine pure_ (i := 3) (N := some 16) (v := ?_) (a' := ?_) (bs 8 15) rfl rfl (by kernel_rfl) (fun _ _ _ h => h) (Or.inl ⟨by rfl, ?_⟩) ?_ ?_; rotate_left; (intro w'; go_simp; with_reducible rfl); rotate_left; (simp only [Act.put, q1_, q2_, q3_, i64_w, i32_w]; rfl)
  refine one_ (i := 4) (N := some 17) (bs 8 31) rfl rfl (by kernel_rfl) (by decide) (fun K hK => ?_)
  refine goes_ Try.func33 (by kernel_rfl) rfl #[.slice A D.length c] (by rfl) rfl rfl (by (try simp only [List.map_toArray, List.map_cons, List.map_nil]); first | done | rfl) ?_
  refine (bclone A c D wd HD.out.1 HD.out.2.1 HD.out.2.2).mono ?_
  rintro x1 w1 ⟨v1, rfl, hown, hB1⟩
  obtain ⟨A3, c3, rfl⟩ := own_slice hown
  have HC1 := Aside0.mk (cs_move (cs_move HX.out hBd) hB1)
  have hsz1 : wd.heap.size = w.heap.size := by rw [hh]
  have hsz2 := hB1.size
  refine ⟨_, rfl, ?_⟩
  refine hK.out _ _ trivial (fun hHeld => ?_); clear hK K
  refine norm_ (a' := ?_) ?_ ?_; rotate_left; (show Act.put _ (some 17) _ = _; simp only [Act.put, q1_, q2_, q3_, i64_w, i32_w]; rfl)
  refine last_ (i := 5) (N := some 18) (bs 8 63) rfl rfl (by kernel_rfl) (by decide) (fun K hK => ?_)
  refine goes_ Try.func36 (by kernel_rfl) rfl #[.pointer (some ⟨p, 36, none⟩), .slice A3 D.length c3] (by rfl) rfl rfl (by (try simp only [List.map_toArray, List.map_cons, List.map_nil]); first | done | rfl) ?_
  refine (put_ok p 36 (sz : Int) _ 57 out os A3 D.length c3 base (by have := fr_len HX.out.fo; omega) (by omega) (by decide) HX.out.hb w1 (by omega) HC1.out.blk rfl rfl HC1.out.ro).mono ?_
  rintro x5 w2 ⟨rfl, ⟨out', hblk, hq, hat⟩, hB2, hF2⟩
  refine ⟨_, rfl, ?_⟩
  refine hK.out _ _ ?_; clear hK K
  refine norm_ (a' := ?_) ?_ ?_; rotate_left; (show Act.put _ (some 18) _ = _; simp only [Act.put, q1_, q2_, q3_, i64_w, i32_w]; rfl)
  refine pure_ (i := 6) (N := some 19) (v := ?_) (a' := ?_) (bs 8 127) rfl rfl (by kernel_rfl) (fun _ _ _ h => h) (Or.inl ⟨by rfl, ?_⟩) ?_ ?_; rotate_left; (intro w'; go_simp; with_reducible rfl); rotate_left; (simp only [Act.put, q1_, q2_, q3_, i64_w, i32_w]; rfl)
  refine pure_ (i := 7) (N := some 12) (v := ?_) (a' := ?_) (bs 8 255) rfl rfl (by kernel_rfl) (fun _ _ _ h => h) (Or.inl ⟨by rfl, ?_⟩) ?_ ?_; rotate_left; (intro w'; go_simp; with_reducible rfl); rotate_left; (simp only [Act.put, q1_, q2_, q3_, i64_w, i32_w]; rfl)
  refine done_ (by kernel_rfl) ?_
  have HZ : Aside0 ((∃ out' os', CS w2 base p kv tv i0 out' os' (ods ++ [D]) sz ev now free) ∧ Below base w w2 ∧ Keep5 w w2) := by
    have hk : ∀ (k : Nat) (cells : Array Value), w1.heap[k]? = some (Obj.cells cells 5 (0, 0)) → w2.heap[k]? = w1.heap[k]? := by
      intro k cells hc
      refine hF2 k (blk_lt hc) (fun e => ?_) (fun e => ?_)
      · subst e; rw [HC1.out.blk] at hc; injection hc with hc; injection hc with _ h2; cases h2
      · obtain ⟨_, cells', hc'⟩ := q_typed HC1.out.ro k e; rw [hc] at hc'; injection hc' with hc'; injection hc' with _ h2; cases h2
    refine ⟨⟨⟨out', _, ⟨hblk, hq, ?_, HX.out.hb⟩⟩, ((hBd.mono hbw).trans (hB1.mono (by omega))).trans hB2, fun k cells hc => ?_⟩⟩
    · refine fr_snoc ⟨A3, c3, rfl, ?_⟩ (fr_move (fun k cells _ hc => hk k cells hc) HC1.out.fo)
      exact own_weaken (own_move hown fun k hk' => by obtain ⟨cells, hc⟩ := own_typed hown k hk'; exact hk k cells hc) (by omega)
    · have h1 : w1.heap[k]? = w.heap[k]? := by rw [hB1.block k (by have := blk_lt hc; omega), hh]
      rw [hk k cells (by rw [h1]; exact hc), h1]
  clear hblk hq hat hB2 hF2 HC1 hB1 hown hBd hh hHeld
  go_wp2
  go_ret
  exact ⟨rfl, HZ.out.1, HZ.out.2.1, HZ.out.2.2⟩
set_option maxHeartbeats 1000000 in
theorem emit_order (base p : Nat) (kv tv i0 out : Value) (os : List Value) (ods : List (List Int)) (sz : Nat) (ev now free t : Int) (hs : 1 ≤ sz) (hn : t < now ∨ t > 1099511627776) (w : World) (H : CS w base p kv tv i0 out os ods sz ev now free) :
    Calls Try.prog 14 #[.pointer (some ⟨p, 0, none⟩), .int .i64 t] w fun e w' => e = .returned (.tuple #[.slice none 0 0, .bool false, .int .i64 7]) ∧ w = w' := by
  have HN := Aside0.mk (none_calls p kv tv i0 out sz ev now free hs w H.blk)
  have e38 := (blk_cell H.blk 38).trans rfl
  clear H
  rcases (by omega : t < now ∨ (¬ t < now ∧ t > 1099511627776)) with hn1 | ⟨hn1, hn2⟩
  all_goals
    clear hn
    go_enter Try.func14, Try.ntmps14
    go_wp2_with (go_at_call 35; refine HN.out.mono ?_; rintro x w1 ⟨rfl, rfl⟩)
    go_ret3
    exact ⟨rfl, rfl⟩
set_option maxHeartbeats 1000000 in
theorem emit_wait (base p : Nat) (kv tv i0 out : Value) (os : List Value) (ods : List (List Int)) (sz : Nat) (ev now free t : Int) (hs : 1 ≤ sz) (hn : now ≤ t ∧ t ≤ 1099511627776) (hf : t < free) (w : World) (H : CS w base p kv tv i0 out os ods sz ev now free) :
    Calls Try.prog 14 #[.pointer (some ⟨p, 0, none⟩), .int .i64 t] w fun e w' => e = .returned (.tuple #[.slice none 0 0, .bool false, .int .i64 0]) ∧ CS w' base p kv tv i0 out os ods sz ev t free ∧ Below base w w' ∧ Keep5 w w' := by
  have HN := Aside0.mk (none_calls p kv tv i0 out sz ev now free hs w H.blk)
  have HX := Aside0.mk H
  have e38 := (blk_cell H.blk 38).trans rfl
  have f38 := blk_frozen H.blk 38
  have hb1 := blk_put H.blk 38 (.int .i64 t) rfl
  have HB1 := Aside0.mk hb1
  have e39 := (blk_cell hb1 39).trans rfl
  have h1 : ¬ t < now := by omega
  have h2 : ¬ t > 1099511627776 := by omega
  clear H hb1
  go_enter Try.func14, Try.ntmps14
  go_wp2_with (go_at_call 35; refine HN.out.mono ?_; rintro x w1 ⟨rfl, rfl⟩)
  go_ret3
  exact ⟨rfl, cs_blk HX.out HB1.out _ rfl, set_below HX.out.hb, fun k cells hc => Below.heap_setCell _ _ _ k (keep5_ne HX.out.blk (by decide) hc)⟩
set_option maxHeartbeats 1000000 in
theorem emit_none (base p : Nat) (kv tv i0 out : Value) (os : List Value) (sz : Nat) (ev now free t : Int) (hs : 1 ≤ sz) (hn : now ≤ t ∧ t ≤ 1099511627776) (hf : free ≤ t) (w : World) (H : CS w base p kv tv i0 out os [] sz ev now free) :
    Calls Try.prog 14 #[.pointer (some ⟨p, 0, none⟩), .int .i64 t] w fun e w' => e = .returned (.tuple #[.slice none 0 0, .bool false, .int .i64 0]) ∧ CS w' base p kv tv i0 out os [] sz ev t free ∧ Below base w w' ∧ Keep5 w w' := by
  have HN := Aside0.mk (none_calls p kv tv i0 out sz ev now free hs w H.blk)
  have HX := Aside0.mk H
  have e38 := (blk_cell H.blk 38).trans rfl
  have f38 := blk_frozen H.blk 38
  have hb1 := blk_put H.blk 38 (.int .i64 t) rfl
  have HB1 := Aside0.mk hb1
  have e39 := (blk_cell hb1 39).trans rfl
  obtain ⟨A, c, rfl, _⟩ := q_slice H.ro
  have hl := fr_len H.fo
  have HT := Aside0.mk (take_none p 36 _ 57 A c _ hb1 (by rw [hl]; rfl))
  have h1 : ¬ t < now := by omega
  have h2 : ¬ t > 1099511627776 := by omega
  have h3 : ¬ t < free := by omega
  clear H hb1 hl
  go_enter Try.func14, Try.ntmps14
  go_wp2_with (first
    | (go_at_call 35; refine HN.out.mono ?_; rintro x w1 ⟨rfl, rfl⟩)
    | (go_at_call 37; refine HT.out.mono ?_; rintro x w1 ⟨rfl, rfl⟩))
  go_ret3
  exact ⟨rfl, cs_blk HX.out HB1.out _ rfl, set_below HX.out.hb, fun k cells hc => Below.heap_setCell _ _ _ k (keep5_ne HX.out.blk (by decide) hc)⟩
set_option maxHeartbeats 1000000 in
theorem emit_take (base p : Nat) (kv tv i0 out : Value) (os : List Value) (d : List Int) (ods : List (List Int)) (sz : Nat) (ev now free t : Int) (hs : 1 ≤ sz) (hev : 0 ≤ ev ∧ ev ≤ 1048576) (hnw : 0 ≤ now) (hn : now ≤ t ∧ t ≤ 1099511627776) (hf : free ≤ t) (w : World) (H : CS w base p kv tv i0 out os (d :: ods) sz ev now free) :
    Calls Try.prog 14 #[.pointer (some ⟨p, 0, none⟩), .int .i64 t] w fun e w' => (∃ A c, e = .returned (.tuple #[.slice A d.length c, .bool true, .int .i64 0]) ∧ w'.ownsRow base 5 1 (.slice A d.length c) d.length (nums .u8 d)) ∧ (∃ out' os', CS w' base p kv tv i0 out' os' ods sz ev t (t + ev)) ∧ Below base w w' ∧ Keep5 w w' := by
  have HN := Aside0.mk (none_calls p kv tv i0 out sz ev now free hs w H.blk)
  have e38 := (blk_cell H.blk 38).trans rfl
  have f38 := blk_frozen H.blk 38
  have hb1 := blk_put H.blk 38 (.int .i64 t) rfl
  have e39 := (blk_cell hb1 39).trans rfl
  obtain ⟨x, vs, rfl⟩ : ∃ x vs, os = x :: vs := by
    cases os with
    | nil => exact H.fo.elim
    | cons x vs => exact ⟨x, vs, rfl⟩
  obtain ⟨⟨A, c, rfl, ho⟩, hfr⟩ := H.fo
  have HT := fun hq => take_ok p 36 _ 57 out A d.length c vs base (by decide) _ hb1 rfl hq
  have HX := Aside0.mk (And.intro H (And.intro ho (And.intro hfr hb1)))
  have h1 : ¬ t < now := by omega
  have h2 : ¬ t > 1099511627776 := by omega
  have h3 : ¬ t < free := by omega
  have hq1 : QRow (w.setCell ⟨p, 38, none⟩ (.int .i64 t)) base 22 1 out (Value.slice A d.length c :: vs).length (Value.slice A d.length c :: vs) := q_move H.ro fun k hk => Below.heap_setCell _ _ _ k (fun e => q_ne H.ro H.blk (by decide) (by rw [hk]; exact congrArg some e))
  have HT2 := Aside0.mk (HT hq1)
  clear H hb1 ho hfr HT hq1
  go_enter Try.func14, Try.ntmps14
  go_wp2_with (first
    | (go_at_call 35; refine HN.out.mono ?_; rintro x w1 ⟨rfl, rfl⟩)
    | (go_at_call 37; refine HT2.out.mono ?_
       rintro x w2 ⟨rfl, ⟨out', hb2, hq2, hv2⟩, hG2⟩
       have k3 := (blk_cell hb2 3).trans rfl
       have k39 := (blk_cell hb2 39).trans rfl
       have g39 := blk_frozen hb2 39
       have HY := Aside0.mk (And.intro hb2 (And.intro hq2 (And.intro hv2 hG2)))
       clear hb2 hq2 hv2 hG2))
  go_ret3
  obtain ⟨hb2, hq2, hv2, hG2⟩ := HY.out
  obtain ⟨H, ho, hfr, hb1⟩ := HX.out
  have hb3 := blk_put hb2 39 (.int .i64 (t + ev)) rfl
  have hk : ∀ k, k < w.heap.size → k ≠ p → (w2.setCell ⟨p, 39, none⟩ (.int .i64 (t + ev))).heap[k]? = w.heap[k]? := fun k hk1 hk2 => (Below.heap_setCell _ _ _ k hk2).trans ((hG2.block k (by simpa [World.setCell] using hk1) (fun e => hk2 (Option.some.inj e))).trans (Below.heap_setCell _ _ _ k hk2))
  have hk5 : ∀ k cells, base ≤ k → w.heap[k]? = some (.cells cells 5 (0, 0)) → (w2.setCell ⟨p, 39, none⟩ (.int .i64 (t + ev))).heap[k]? = w.heap[k]? := fun k cells _ hc => hk k (blk_lt hc) (fun e => by subst e; rw [H.blk] at hc; injection hc with hc; injection hc with _ h2; cases h2)
  refine ⟨⟨A, c, rfl, own_move ho fun k hk' => by obtain ⟨cells, hc⟩ := own_typed ho k hk'; exact hk5 k cells (own_base ho k hk') hc⟩, ⟨out', vs, ⟨hb3, ?_, fr_move hk5 hfr, H.hb⟩⟩, ?_, fun k cells hc => hk k (blk_lt hc) (keep5_ne H.blk (by decide) hc)⟩
  · refine q_move hq2 fun k hk' => Below.heap_setCell _ _ _ k (fun e => ?_)
    rw [hv2] at hk'
    exact q_ne H.ro H.blk (by decide) (by rw [hk']; exact congrArg some e)
  · exact ((set_below (w := w) H.hb).grown hG2 (by simpa [World.setCell] using Nat.le_of_lt (Nat.lt_of_le_of_lt H.hb (blk_lt H.blk))) (fun k hk => by have := Option.some.inj hk; have := H.hb; omega)).trans (set_below H.hb)
end Go.Proofs.Ytigmlklcbhlmpaa.Hand
