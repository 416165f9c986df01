/- Chapter 8: a ring's put and take; a card's Waiting, Send and Emit. -/
import Derived.Test.YtigmlklcbhlmpaaHandC
namespace Go.Proofs.Ytigmlklcbhlmpaa.Hand
open Go.RowKit Go.Proofs.Ytigmlklcbhlmpaa Go.Proofs.Ytigmlklcbhlmpaa.Util Go.Proofs.YtigmlklcbhlmpaaW.PrintWords Go.Proofs.YtigmlklcbhlmpaaW.PrintLast Go.Proofs.YtigmlklcbhlmpaaW.PrintMore
set_option linter.unusedVariables false
set_option linter.unusedSimpArgs false
attribute [local go_sem] Oper.semAt_some
/-- A card's cells: i0 is ring 0's list, out the list of what leaves. -/
abbrev card (kv tv i0 out : Value) (sz ev now free : Int) : Array Value := #[kv, tv, .int .i64 sz, .int .i64 ev, i0, .int .i64 sz, .slice none 0 0, .int .i64 sz, .slice none 0 0, .int .i64 sz, .slice none 0 0, .int .i64 sz, .slice none 0 0, .int .i64 sz, .slice none 0 0, .int .i64 sz, .slice none 0 0, .int .i64 sz, .slice none 0 0, .int .i64 sz, .slice none 0 0, .int .i64 sz, .slice none 0 0, .int .i64 sz, .slice none 0 0, .int .i64 sz, .slice none 0 0, .int .i64 sz, .slice none 0 0, .int .i64 sz, .slice none 0 0, .int .i64 sz, .slice none 0 0, .int .i64 sz, .slice none 0 0, .int .i64 sz, out, .int .i64 sz, .int .i64 now, .int .i64 free]
theorem append_step {P : Program} {ops : Array Oper} {rest : List Oper} {o : Oper} {a : Act} {Q : Exit → Act → World → Prop} {W : World} (hgd : o.guard = none) (s x : Operand) (t : TypeId) (ho : o.op = .call { callee := .builtin .append, args := #[s, x], argTypes := #[t, t] })
    (v u v1 : Value) (w1 : World) (hs : a.eval s = v) (hx : a.eval x = u) (hr : (Builtin.append_ #[t, t] o.type #[v, u]).run P W = .ok v1 w1) (h : wpList P ops Q rest (a.put o.dst v1) w1) : wpList P ops Q (o :: rest) a W := by
  refine wpList_plain hgd fun K hK => ?_
  unfold Oper.wp execOp
  simp only [ho, resolve, invoke, builtin, Sem.run_bind, Sem.run_pure, Result.andThen_ok, List.map_toArray, List.map_cons, List.map_nil, hs, hx, hr]
  exact hK _ _ h
theorem q_ne {w : World} {base : Nat} {c : Nat} {t : TypeId} {v : Value} {n : Nat} {vs : List Value} {cs : Array Value} (hq : QRow w base 22 1 v n vs) (hb : w.heap[c]? = some (.cells cs t (0, 0))) (ht : t ≠ 22) : v.ownBlock ≠ some c := by
  intro e
  obtain ⟨_, cells, hc⟩ := q_typed hq c e
  rw [hb] at hc
  injection hc with hc
  injection hc with _ h2
  exact ht h2
set_option maxHeartbeats 1000000 in
theorem put_full (c o : Nat) (most : Int) (cs : Array Value) (t : TypeId) (A0 : Option Addr) (n c0 : Nat) (x : Value) (hge : most ≤ (n : Int)) (w : World) (hb : w.heap[c]? = some (.cells cs t (0, 0))) (h0 : cs[o]? = some (.slice A0 n c0)) (h1 : cs[o + 1]? = some (.int .i64 most)) :
    Calls Try.prog 36 #[.pointer (some ⟨c, o, none⟩), x] w fun e w' => e = .returned (.bool false) ∧ ∃ m, w' = w.drewN m := by
  have e0 := (blk_cell hb o).trans h0
  have e1 := (blk_cell hb (o + 1)).trans h1
  clear hb h0 h1
  go_enter Try.func36, Try.ntmps36
  go_wp2
  go_quiet (fail)
  go_wp2
  go_ret
  exact ⟨rfl, _, rfl⟩
set_option maxHeartbeats 1000000 in
set_option maxRecDepth 100000 in
theorem put_ok (c o : Nat) (most : Int) (cs : Array Value) (t : TypeId) (v : Value) (vs : List Value) (Ax : Option Addr) (nx cx base : Nat) (hlt : (vs.length : Int) < most) (hm : most ≤ 4096) (ht : t ≠ 22) (hbc : base ≤ c) (w : World) (hbw : base ≤ w.heap.size)
    (hb : w.heap[c]? = some (.cells cs t (0, 0))) (h0 : cs[o]? = some v) (h1 : cs[o + 1]? = some (.int .i64 most)) (hq : QRow w base 22 1 v vs.length vs) :
    Calls Try.prog 36 #[.pointer (some ⟨c, o, none⟩), .slice Ax nx cx] w fun e w' => e = .returned (.bool true) ∧ (∃ v', w'.heap[c]? = some (.cells (cs.setIfInBounds o v') t (0, 0)) ∧ QRow w' base 22 1 v' (vs ++ [Value.slice Ax nx cx]).length (vs ++ [Value.slice Ax nx cx]) ∧
      (v'.ownBlock = v.ownBlock ∨ ∃ b, v'.ownBlock = some b ∧ w.heap.size ≤ b)) ∧ Below base w w' ∧ ∀ j, j < w.heap.size → j ≠ c → v.ownBlock ≠ some j → w'.heap[j]? = w.heap[j]? := by
  obtain ⟨A0, c0, rfl, hc0⟩ := q_slice hq
  have e0 := (blk_cell hb o).trans h0
  have e1 := (blk_cell hb (o + 1)).trans h1
  have HX := Aside0.mk (And.intro hb hq)
  obtain ⟨n, hn⟩ : ∃ n, vs.length = n := ⟨_, rfl⟩
  have HN := Aside0.mk hn
  rw [hn] at e0 hlt
  clear hb hq h0 h1 hn
  go_enter Try.func36, Try.ntmps36
  go_wp2
  go_quiet (fail)
  generalize hwd : w.drewN nq = wd
  have hh : wd.heap = w.heap := by rw [← hwd]; simp
  have hB : Below base w wd := by rw [← hwd]; exact pw_below_drewN (Below.refl _ _) _
  have d0 : wd.cell? ⟨c, o, none⟩ = some (.slice A0 n c0) := by rw [← hwd]; simpa using e0
  clear hwd e0 e1
  obtain ⟨i0, hi, hzz⟩ := Option.map_eq_some_iff.1 info22
  simp only [Prod.mk.injEq] at hzz
  obtain ⟨hz0, hz1, hz2⟩ := hzz
  have hqd : QRow (wd.alloc (.cells #[.slice Ax nx cx] 22)) base 22 1 (.slice A0 n c0) n vs := by
    have := HX.out.2
    rw [HN.out] at this
    exact q_move this fun k hk => (Below.heap_alloc wd _ k (by rw [hh]; exact q_lt this k hk)).trans (by rw [hh])
  obtain ⟨v1, w1, hap, hq1, hg1, hat⟩ := q_append (P := Try.prog) (wd.alloc (.cells #[.slice Ax nx cx] 22)) base 44 44 22 i0 (.slice none 0 0) 1 24 Try.underlying44 hi hz0 hz1 hz2 rfl (by omega) (.slice A0 n c0) n vs hqd ⟨wd.heap.size, 0, none⟩ 1 1 [.slice Ax nx cx] rfl
    (by intro j u hu
        cases j with
        | zero => simp at hu; subst hu; rw [add_at]; exact (blk_cell (blk_new wd _) 0)
        | succ j => simp at hu)
    (by intro u hu; simp at hu; subst hu; rfl) (by omega) (by simp only [maxLen]; omega) (by omega) (by simp [hh]; omega)
  obtain ⟨A1, c1, e1, _⟩ := q_slice hq1
  subst e1
  have hbd : (wd.alloc (.cells #[.slice Ax nx cx] 22)).heap[c]? = some (.cells cs t (0, 0)) := (Below.heap_alloc wd _ c (by rw [hh]; exact blk_lt HX.out.1)).trans (by rw [hh]; exact HX.out.1)
  have hne := q_ne hqd hbd ht
  have hb1 := (hg1.block c (blk_lt hbd) (fun e => hne e.symm)).trans hbd
  have g0 := blk_frozen hb1 o
  have HY := Aside0.mk (And.intro hb1 (And.intro hq1 (And.intro hg1 (And.intro hat (And.intro hqd hne)))))
  have hsz : o < cs.size := by
    have h := blk_cell hbd o
    rw [show (wd.alloc (.cells #[.slice Ax nx cx] 22)).cell? ⟨c, o, none⟩ = some (.slice A0 n c0) from (World.cell?_alloc_lt _ _ _ (World.block_lt_of_cell? _ _ d0)).trans d0] at h
    exact (Array.getElem?_eq_some_iff.1 h.symm).1
  obtain ⟨u0, hu0⟩ : ∃ u0, cs[o]? = some u0 := ⟨_, Array.getElem?_eq_getElem hsz⟩
  have g1 : w1.cell? ⟨c, o, none⟩ = some u0 := (blk_cell hb1 o).trans hu0
  have HH := Aside0.mk (And.intro hh hB)
  clear hq1 hg1 hat hqd hne hbd hb1 hu0 hh hB
  go_wp2_with (at_builtin; go_loud (refine append_step rfl _ _ 44 rfl (.slice A0 n c0) (.slice (some ⟨wd.heap.size, 0, none⟩) 1 1) (.slice A1 (n + 1) c1) w1 rfl rfl hap ?_))
  go_ret
  obtain ⟨hb1, hq1, hg1, hat, hqd, hne⟩ := HY.out
  obtain ⟨hh, hB⟩ := HH.out
  have hb9 := blk_put hb1 o (.slice A1 (n + 1) c1) rfl
  have hG : w1.grownBy (w1.setCell ⟨c, o, none⟩ (.slice A1 (n + 1) c1)) (some c) := ⟨rfl, rfl, rfl, by simp [World.setCell], fun k _ hk => Below.heap_setCell _ _ _ k (fun e => hk (by rw [e]))⟩
  have hs1 : wd.heap.size = w.heap.size := by rw [hh]
  have hs2 := hg1.size
  rw [World.size_alloc, hs1] at hs2
  rw [World.size_alloc, hs1] at hat
  have hv1 : (Value.slice A1 (n + 1) c1).ownBlock ≠ some c := by
    rcases hat with e | ⟨b, e, hb⟩
    · rw [e]; exact hne
    · rw [e]; intro he; have := Option.some.inj he; have := blk_lt HX.out.1; omega
  refine ⟨rfl, ⟨_, hb9, ?_, ?_⟩, ?_, fun j hj1 hj2 hj3 => ?_⟩
  · rw [List.length_append, HN.out]
    exact q_move hq1 fun k hk => hG.block k (q_lt hq1 k hk) (fun e => hv1 (by rw [hk, e]))
  · rcases hat with e | ⟨b, e, hb⟩
    · exact .inl (by rw [e, HN.out])
    · exact .inr ⟨b, e, by omega⟩
  · refine (((hB.trans (below_alloc (Below.refl wd.heap.size wd) (.cells #[.slice Ax nx cx] 22) |>.mono (by omega))).grown hg1 (by rw [World.size_alloc]; omega) (fun k hk => (q_typed hqd k hk).1))).grown hG (by omega) (fun k hk => by have := Option.some.inj hk; omega)
  · have hj3' : (Value.slice A0 n c0).ownBlock ≠ some j := by rw [← HN.out]; exact hj3
    rw [hG.block j (by omega) (fun e => hj2 (Option.some.inj e)), hg1.block j (by rw [World.size_alloc]; omega) (fun e => hj3' e.symm), Below.heap_alloc wd _ j (by omega), hh]
set_option maxHeartbeats 1000000 in
theorem take_none (c o : Nat) (cs : Array Value) (t : TypeId) (A0 : Option Addr) (c0 : Nat) (w : World) (hb : w.heap[c]? = some (.cells cs t (0, 0))) (h0 : cs[o]? = some (.slice A0 0 c0)) :
    Calls Try.prog 37 #[.pointer (some ⟨c, o, none⟩)] w fun e w' => e = .returned (.tuple #[.slice none 0 0, .bool false]) ∧ w = w' := by
  have e0 := (blk_cell hb o).trans h0
  clear hb h0
  go_enter Try.func37, Try.ntmps37
  go_wp2
  go_ret2
  exact ⟨rfl, rfl⟩
set_option maxHeartbeats 1000000 in
set_option maxRecDepth 100000 in
theorem take_ok (c o : Nat) (cs : Array Value) (t : TypeId) (v : Value) (Ax : Option Addr) (nx cx : Nat) (vs : List Value) (base : Nat) (ht : t ≠ 22) (w : World) (hb : w.heap[c]? = some (.cells cs t (0, 0))) (h0 : cs[o]? = some v) (hq : QRow w base 22 1 v (.slice Ax nx cx :: vs).length (.slice Ax nx cx :: vs)) :
    Calls Try.prog 37 #[.pointer (some ⟨c, o, none⟩)] w fun e w' => e = .returned (.tuple #[.slice Ax nx cx, .bool true]) ∧ (∃ v', w'.heap[c]? = some (.cells (cs.setIfInBounds o v') t (0, 0)) ∧ QRow w' base 22 1 v' vs.length vs ∧ v'.ownBlock = v.ownBlock) ∧ w.grownBy w' (some c) := by
  obtain ⟨A0, c0, rfl, hc0⟩ := q_slice hq
  obtain ⟨n, hn⟩ : ∃ n, (Value.slice Ax nx cx :: vs).length = n := ⟨_, rfl⟩
  have hn1 : vs.length = n - 1 := by rw [← hn]; simp
  have hn2 : 0 < n := by rw [← hn]; simp
  rw [hn] at hq h0 hc0 ⊢
  obtain ⟨ad, rfl, hcs⟩ := q_cells hq hn2
  have hx0 := hcs 0 _ rfl
  have hne := q_ne hq hb ht
  obtain ⟨i0, hi, hzz⟩ := Option.map_eq_some_iff.1 info22
  simp only [Prod.mk.injEq] at hzz
  have hcut := cut_from (P := Try.prog) 44 22 .i64 Try.underlying44 hi 1 hzz.2.1 (some ad) n c0 1 (by omega) (by omega)
  have hqd := q_drop hq (k := 1) (by omega)
  rw [show ((1 : Int)).toNat = 1 from rfl] at hcut
  have hnb : (Value.slice (if c0 = 1 then some ad else (some ad).map (·.add (1 * 1))) (n - 1) (c0 - 1)).ownBlock = (Value.slice (some ad) n c0).ownBlock := by
    split
    · rfl
    · simp only [Option.map_some, Value.ownBlock, Option.some.injEq]; unfold Addr.add; split <;> rfl
  rw [← hnb] at hne
  have hnb' := hnb
  have had : ∃ g p, ad = ⟨g, p, none⟩ := by
    rcases hq.2 with ⟨h, _⟩ | ⟨g, off, cap, cur, he, _⟩
    · omega
    · injection he with he; exact ⟨g, off * 1, Option.some.inj he⟩
  obtain ⟨g, p, rfl⟩ := had
  rw [add_at, Nat.add_zero] at hx0
  generalize (if c0 = 1 then some (⟨g, p, none⟩ : Addr) else (some (⟨g, p, none⟩ : Addr)).map (·.add (1 * 1))) = A1 at hcut hqd hne hnb'
  have e0 := (blk_cell hb o).trans h0
  have HX := Aside0.mk (And.intro hb (And.intro hqd (And.intro hne hnb')))
  clear hq hqd hne hnb hnb' hcs hi hzz hn
  have hnz : ¬ n = 0 := by omega
  go_enter Try.func37, Try.ntmps37
  go_wp2
  refine start_ (n := 16) (S := fun w' => w'.cell? ⟨c, o, none⟩ = some (.slice (some ⟨g, p, none⟩) n c0) ∧ w'.cell? ⟨g, p, none⟩ = some (.slice Ax nx cx)) (ds := [15]) (bs 16 0) (by kernel_rfl) rfl rfl ⟨e0, hx0⟩ (fun hHeld => ?_)
  generalize hwd : World.drew _ = wd at hHeld ⊢
  have hh : wd.heap = w.heap := by rw [← hwd]; first | rfl | simp
  have hB : w.grownBy wd (some c) := by rw [← hwd]; exact ⟨rfl, rfl, rfl, Nat.le_refl _, fun _ _ _ => rfl⟩
  clear hwd
  have hbd : wd.heap[c]? = some (.cells cs t (0, 0)) := by rw [hh]; exact HX.out.1
  have f0 := blk_frozen hbd o
  have d0 : wd.cell? ⟨c, o, none⟩ = some (.slice (some ⟨g, p, none⟩) n c0) := (blk_cell hbd o).trans h0
  clear e0 hx0 h0 hb
  refine pure_ (i := 0) (N := some 11) (v := ?_) (a' := ?_) (bs 16 1) rfl rfl (by kernel_rfl) (fun _ _ _ h => h) (Or.inl ⟨by rfl, ?_⟩) ?_ ?_; rotate_left; (intro w'; go_simp; with_reducible rfl); rotate_left; (simp only [Act.put, q1_, q2_, q3_, i64_w, i32_w]; rfl)
  refine pure_ (i := 1) (N := some 12) (v := ?_) (a' := ?_) (bs 16 3) rfl rfl (by kernel_rfl) (fun _ _ _ h => h) (Or.inl ⟨by rfl, ?_⟩) ?_ ?_; rotate_left; (intro w'; go_simp; with_reducible rfl); rotate_left; (simp only [Act.put, q1_, q2_, q3_, i64_w, i32_w]; rfl)
  refine pure_ (i := 2) (N := some 13) (v := ?_) (a' := ?_) (bs 16 7) rfl rfl (by kernel_rfl) (fun _ _ _ h => h) (Or.inl ⟨by rfl, ?_⟩) ?_ ?_; rotate_left; (intro w'; go_simp; with_reducible rfl); rotate_left; (simp only [Act.put, q1_, q2_, q3_, i64_w, i32_w]; rfl)
  refine pure_ (i := 3) (N := some 14) (v := ?_) (a' := ?_) (bs 16 15) rfl rfl (by kernel_rfl) (fun _ _ _ h => h) (Or.inl ⟨by rfl, ?_⟩) ?_ ?_; rotate_left; (intro w'; go_simp; with_reducible rfl); rotate_left; (simp only [Act.put, q1_, q2_, q3_, i64_w, i32_w]; rfl)
  refine pure_ (i := 7) (N := some 18) (v := ?_) (a' := ?_) (bs 16 143) rfl rfl (by kernel_rfl) (fun _ _ _ h => h) (Or.inl ⟨by rfl, ?_⟩) ?_ ?_; rotate_left; (intro w'; go_simp; with_reducible rfl); rotate_left; (simp only [Act.put, q1_, q2_, q3_, i64_w, i32_w]; rfl)
  refine pure_ (i := 8) (N := some 19) (v := ?_) (a' := ?_) (bs 16 399) rfl rfl (by kernel_rfl) (fun _ _ _ h => h) (Or.inl ⟨by rfl, ?_⟩) ?_ ?_; rotate_left; (intro w'; go_simp; with_reducible rfl); rotate_left; (simp only [Act.put, q1_, q2_, q3_, i64_w, i32_w]; rfl)
  refine pure_ (i := 9) (N := some 20) (v := ?_) (a' := ?_) (bs 16 911) rfl rfl (by kernel_rfl) (fun _ _ _ h => h) (Or.inl ⟨by rfl, ?_⟩) ?_ ?_; rotate_left; (intro w'; go_simp; with_reducible rfl); rotate_left; (simp only [Act.put, q1_, q2_, q3_, i64_w, i32_w]; rfl)
  refine take_ (i := 4) (N := some 15) (v := ?_) (a' := ?_) (bs 16 927) rfl rfl (by kernel_rfl) (fun _ _ _ h => h) (Or.inl ⟨by rfl, ?_⟩) hHeld ?_ ?_; rotate_left; (rintro w' ⟨s0, s1⟩; go_simp; with_reducible rfl); rotate_left; (simp only [Act.put, q1_, q2_, q3_, i64_w, i32_w]; rfl)
  refine pure_ (i := 5) (N := some 16) (v := ?_) (a' := ?_) (bs 16 959) rfl rfl (by kernel_rfl) (fun _ _ _ h => h) (Or.inl ⟨by rfl, ?_⟩) ?_ ?_; rotate_left; (intro w'; go_simp; with_reducible rfl); rotate_left; (simp only [Act.put, q1_, q2_, q3_, i64_w, i32_w]; rfl)
  refine take_ (i := 6) (N := some 17) (v := ?_) (a' := ?_) (bs 16 1023) rfl rfl (by kernel_rfl) (fun _ _ _ h => h) (Or.inl ⟨by rfl, ?_⟩) hHeld ?_ ?_; rotate_left; (rintro w' ⟨s0, s1⟩; go_simp; with_reducible rfl); rotate_left; (simp only [Act.put, q1_, q2_, q3_, i64_w, i32_w]; rfl)
  refine pure_ (i := 12) (N := some 2) (v := ?_) (a' := ?_) (bs 16 5119) rfl rfl (by kernel_rfl) (fun _ _ _ h => h) (Or.inl ⟨by rfl, ?_⟩) ?_ ?_; rotate_left; (intro w'; go_simp; with_reducible rfl); rotate_left; (simp only [Act.put, q1_, q2_, q3_, i64_w, i32_w]; rfl)
  refine take_ (i := 10) (N := some 21) (v := ?_) (a' := ?_) (bs 16 6143) rfl rfl (by kernel_rfl) (fun _ _ _ h => h) (Or.inl ⟨by rfl, ?_⟩) hHeld ?_ ?_; rotate_left; (rintro w' ⟨s0, s1⟩; go_simp; with_reducible rfl); rotate_left; (simp only [Act.put, q1_, q2_, q3_, i64_w, i32_w]; rfl)
  refine pure_ (i := 11) (N := some 22) (v := ?_) (a' := ?_) (bs 16 8191) rfl rfl (by kernel_rfl) (fun _ _ _ h => h) (Or.inl ⟨by rfl, ?_⟩) ?_ ?_; rotate_left; (intro w'; go_simp; with_reducible rfl); rotate_left; (simp only [Act.put, q1_, q2_, q3_, i64_w, i32_w]; rfl)
  refine pure_ (i := 13) (N := some 23) (v := ?_) (a' := ?_) (bs 16 16383) rfl rfl (by kernel_rfl) (fun _ _ _ h => h) (Or.inl ⟨by rfl, ?_⟩) ?_ ?_; rotate_left; (intro w'; go_simp; with_reducible rfl); rotate_left; (simp only [Act.put, q1_, q2_, q3_, i64_w, i32_w]; rfl)
  refine pure_ (i := 14) (N := some 24) (v := ?_) (a' := ?_) (bs 16 32767) rfl rfl (by kernel_rfl) (fun _ _ _ h => h) (Or.inl ⟨by rfl, ?_⟩) ?_ ?_; rotate_left; (intro w'; go_simp; with_reducible rfl); rotate_left; (simp only [Act.put, q1_, q2_, q3_, i64_w, i32_w]; rfl)
  refine last_ (i := 15) (N := none) (bs 16 65535) rfl rfl (by kernel_rfl) (by decide) (fun K hK => ?_)
  refine skip_ (w1 := wd.setCell ⟨c, o, none⟩ (.slice A1 (n - 1) (c0 - 1))) (by rfl) rfl (by go_simp) ?_
  refine hK.out _ _ ?_; clear hK K
  refine done_ (by kernel_rfl) ?_
  have hb9 := blk_put hbd o (.slice A1 (n - 1) (c0 - 1)) rfl
  have hG : w.grownBy (wd.setCell ⟨c, o, none⟩ (.slice A1 (n - 1) (c0 - 1))) (some c) := ⟨hB.os, hB.tape, hB.output, by simpa [World.setCell] using hB.size, fun k hk1 hk => (Below.heap_setCell _ _ _ k (fun e => hk (by rw [e]))).trans (hB.block k hk1 hk)⟩
  generalize wd.setCell ⟨c, o, none⟩ (.slice A1 (n - 1) (c0 - 1)) = wf at hb9 hG ⊢
  have HF := Aside0.mk (And.intro hb9 hG)
  clear hb9 hG hB hh hbd f0 d0 hHeld hcut
  go_wp2
  go_ret2
  obtain ⟨hb9, hG⟩ := HF.out
  obtain ⟨hb, hqd, hne, hnb⟩ := HX.out
  refine ⟨rfl, ⟨_, hb9, ?_, hnb⟩, hG⟩
  rw [hn1]
  have hq2 := q_move (w1 := wf) hqd fun k hk => hG.block k (q_lt hqd k hk) (fun e => hne (by rw [hk, e]))
  simpa using hq2
end Go.Proofs.Ytigmlklcbhlmpaa.Hand
