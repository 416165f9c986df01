/- The contract of slices.DeleteFunc over pairs: what it computes, by hand. -/
import Derived.Test.YtodlibmnmjopbaaHandC
import Derived.Lib.SmallJoins
namespace Go.Proofs.Ytodlibmnmjopbaa.Hand
open Go.RowKit Go.Proofs.YtodlibmnmjopbaaW.PrintWords Go.Proofs.YtodlibmnmjopbaaW.PrintLast Go.Proofs.YtodlibmnmjopbaaW.PrintMore Go.Proofs.Ytodlibmnmjopbaa.PA
set_option linter.unusedVariables false
set_option linter.unusedSimpArgs false
attribute [local go_sem] Oper.semAt_some

/-- A row of pairs in a block of its own, with room for c. -/
def RowP (w : World) (g c : Nat) (xs : List S36) : Prop := ∃ cur : Array Value, w.heap[g]? = some (.cells cur 36 (0, 0)) ∧ cur.size = c * 2 ∧ xs.length ≤ c ∧ ∀ (j : Nat) (h : j < xs.length), cur[j * 2]? = some (.int .i64 xs[j].f0) ∧ cur[j * 2 + 1]? = some (.int .i64 xs[j].f1)
theorem RowP.at {w w' : World} {g c : Nat} {xs : List S36} (h : RowP w g c xs) (hk : w'.heap[g]? = w.heap[g]?) : RowP w' g c xs := by
  obtain ⟨cur, h1, h2⟩ := h
  exact ⟨cur, hk.trans h1, h2⟩
theorem RowP.pairs {w : World} {g c : Nat} {xs : List S36} (h : RowP w g c xs) : Pairs w g xs := fun j hj => by
  obtain ⟨cur, h1, h2, h3, h4⟩ := h
  rw [Joins.cell_of_block h1, Joins.cell_of_block h1]
  exact h4 j hj
theorem RowP.lt {w : World} {g c : Nat} {xs : List S36} (h : RowP w g c xs) : g < w.heap.size := by
  obtain ⟨cur, h1, _⟩ := h; exact blk_lt h1
theorem RowP.frozen {w : World} {g c : Nat} {xs : List S36} (h : RowP w g c xs) (i : Nat) : w.frozen? ⟨g, i, none⟩ = false := by
  obtain ⟨cur, h1, _⟩ := h; exact Joins.unfrozen_of_block h1 i
theorem RowP.set {w : World} {g c : Nat} {xs : List S36} (h : RowP w g c xs) (i : Nat) (x : S36) : RowP ((w.setCell ⟨g, i * 2, none⟩ (.int .i64 x.f0)).setCell ⟨g, i * 2 + 1, none⟩ (.int .i64 x.f1)) g c (xs.set i x) := by
  obtain ⟨cur, h1, h2, h3, h4⟩ := h
  refine ⟨(cur.setIfInBounds (i * 2) (.int .i64 x.f0)).setIfInBounds (i * 2 + 1) (.int .i64 x.f1), Joins.block_setCell (Joins.block_setCell h1 _) _, by simp [h2], by simpa using h3, fun j hj => ?_⟩
  have hj' : j < xs.length := by simpa using hj
  obtain ⟨e1, e2⟩ := h4 j hj'
  rw [List.getElem_set]
  simp only [Array.getElem?_setIfInBounds, Array.size_setIfInBounds]
  by_cases hij : i = j
  · subst hij
    rw [if_pos rfl]
    have a1 : i * 2 < cur.size := by omega
    have a2 : i * 2 + 1 < cur.size := by omega
    simp [a1, a2]
  · rw [if_neg hij, if_neg (by omega), if_neg (by omega), if_neg (by omega), if_neg (by omega)]
    exact ⟨e1, e2⟩
theorem RowP.take {w : World} {g c : Nat} {xs : List S36} (h : RowP w g c xs) (i : Nat) : RowP w g c (xs.take i) := by
  obtain ⟨cur, h1, h2, h3, h4⟩ := h
  refine ⟨cur, h1, h2, by simp; omega, fun j hj => ?_⟩
  rw [List.getElem_take]
  exact h4 j (by simp at hj; omega)
theorem RowP.cleared {w : World} {g c : Nat} {xs : List S36} (h : RowP w g c xs) (zs : List Value) (hz : xs.length * 2 + zs.length ≤ c * 2) : RowP (w.setCells g (xs.length * 2) zs) g c xs := by
  obtain ⟨cur, h1, h2, h3, h4⟩ := h
  obtain ⟨cur', g1, g2, g3⟩ := setCells_row zs (xs.length * 2) w cur h1 (by omega)
  refine ⟨cur', g1, by omega, h3, fun j hj => ?_⟩
  obtain ⟨e1, e2⟩ := h4 j hj
  have e : ∀ i, i < xs.length * 2 → cur'[i]? = cur[i]? := fun i hi => by
    rw [← Array.getElem?_toList, ← Array.getElem?_toList, g3, List.append_assoc, List.getElem?_append_left (by simp; omega), List.getElem?_take, if_pos hi]
  rw [e _ (by omega), e _ (by omega)]
  exact ⟨e1, e2⟩
theorem RowP.toR {w : World} {g c base : Nat} {xs : List S36} (h : RowP w g c xs) (hb : base ≤ g) (hc : c ≤ maxLen) : Kd.R k36 36 w base (fun _ => True) (.slice (some ⟨g, 0, none⟩) xs.length c) xs := by
  obtain ⟨cur, h1, h2, h3, h4⟩ := h
  have hl : (cur.toList.take (xs.length * 2)).length = xs.length * 2 := by simp [h2]; omega
  refine ⟨fun _ _ => trivial, cur.toList.take (xs.length * 2), ⟨hl, .inr ⟨g, c, cur, rfl, hb, h1, h3, hc, h2, rfl⟩⟩, hl, fun j p hj => ?_⟩
  obtain ⟨hjl, rfl⟩ := List.getElem?_eq_some_iff.1 hj
  obtain ⟨e1, e2⟩ := h4 j hjl
  have e : ((cur.toList.take (xs.length * 2)).drop (j * 2)).take 2 = [.int .i64 xs[j].f0, .int .i64 xs[j].f1] := by
    rw [← Array.getElem?_toList] at e1 e2
    apply List.ext_getElem?
    intro i
    rw [List.getElem?_take]
    rcases (by omega : i = 0 ∨ i = 1 ∨ 2 ≤ i) with rfl | rfl | hi
    · rw [if_pos (by omega), List.getElem?_drop, List.getElem?_take, if_pos (by omega), Nat.add_zero, e1]; rfl
    · rw [if_pos (by omega), List.getElem?_drop, List.getElem?_take, if_pos (by omega), e2]; rfl
    · rw [if_neg (by omega), List.getElem?_eq_none (by simp; omega)]
  have hM := k36_mkM w base (fun k => (fun _ => True) k ∧ some k ≠ (Value.slice (some ⟨g, 0, none⟩) xs.length c).ownBlock) xs[j]
  rw [← e] at hM
  exact hM
theorem RowP.ofR {w : World} {base : Nat} {ok : Nat → Prop} {v : Value} {xs : List S36} (h : Kd.R k36 36 w base ok v xs) (hp : 0 < xs.length) : ∃ g c, v = .slice (some ⟨g, 0, none⟩) xs.length c ∧ base ≤ g ∧ c ≤ maxLen ∧ RowP w g c xs := by
  obtain ⟨_, inner, ⟨hl, ho⟩, hr⟩ := h
  rcases ho with ⟨_, h0⟩ | ⟨g, c, cur, rfl, hb, h1, h2, h3, h4, h5⟩
  · omega
  · refine ⟨g, c, rfl, hb, h3, cur, h1, h4, h2, fun j hj => ?_⟩
    have hM := k36_openM (hr.2 j xs[j] (List.getElem?_eq_getElem hj))
    have hM' : ((inner.drop (j * 2)).take 2) = [.int .i64 xs[j].f0, .int .i64 xs[j].f1] := hM
    have h5' : cur.toList.take (xs.length * 2) = inner := h5
    have g0 := congrArg (fun l : List Value => l[0]?) hM'
    have g1 := congrArg (fun l : List Value => l[1]?) hM'
    simp only [List.getElem?_take, List.getElem?_drop, ← h5', List.getElem?_cons_zero, List.getElem?_cons_succ] at g0 g1
    rw [if_pos (by omega), if_pos (by omega), Nat.add_zero, Array.getElem?_toList] at g0
    rw [if_pos (by omega), if_pos (by omega), Array.getElem?_toList] at g1
    exact ⟨g0, g1⟩
def keep (pr pt : Int) (q : S36) : Bool := !(del pr pt q)
theorem below_grown {g : Nat} {w w' : World} (h : Below w.heap.size w w') : w.grownBy w' (some g) := ⟨h.os, h.tape, h.output, h.size, fun k hk _ => h.block k hk⟩
theorem run_clear36 (w : World) (ty : TypeId) (g o n c : Nat) (hn : 0 < n) (hc : ∀ j, j < n * 2 → (w.cell? ⟨g, o + j, none⟩).isSome = true) (hf : ∀ j, j < n * 2 → w.frozen? ⟨g, o + j, none⟩ = false) :
    ∃ zs : List Value, zs.length = n * 2 ∧ (Builtin.clear_ #[23] ty #[.slice (some ⟨g, o, none⟩) n c]).run Try.prog w = .ok (.tuple #[]) (w.setCells g o zs) := by
  obtain ⟨i0, hi, hz0, hz1, hz2⟩ := info_parts info36
  have hl : (Builtin.zeroCells #[.int .i64 0, .int .i64 0] n).toList.length = n * 2 := by simp [Builtin.zeroCells]; try omega
  have h1 : ∀ v ∈ (Builtin.zeroCells #[.int .i64 0, .int .i64 0] n).toList, v.oneCell' = true := by
    intro v hv
    simp only [Builtin.zeroCells, Array.mem_toList_iff] at hv
    obtain ⟨i, _, rfl⟩ := Array.mem_map.1 hv
    rcases (by omega : i % 2 = 0 ∨ i % 2 = 1) with h | h <;> simp [h] <;> rfl
  have hst := run_storeCells_cells (P := Try.prog) g o (Builtin.zeroCells #[.int .i64 0, .int .i64 0] n).toList 0 w (by simpa [hl] using hc) (by simpa [hl] using hf) h1
  simp only [Nat.add_zero] at hst
  refine ⟨_, hl, ?_⟩
  obtain ⟨m, rfl⟩ : ∃ m, n = m + 1 := ⟨n - 1, by omega⟩
  simp [Builtin.clear_, run_underlying Try.underlying23, zeroValue, typeInfo, hi, hz0, hst, Value.cells]
theorem clear_run {P : Program} {ops : Array Oper} {rest : List Oper} {o : Oper} {a : Act} {Q : Exit → Act → World → Prop} {W : World} (hgd : o.guard = none) (x : Operand) (t : TypeId) (ho : o.op = .call { callee := .builtin .clear, args := #[x], argTypes := #[t] }) (u v1 : Value) (w1 : World)
    (hx : a.eval x = u) (hr : (Builtin.clear_ #[t] o.type #[u]).run P W = .ok v1 w1) (h : wpList P ops Q rest (a.put o.dst v1) w1) : wpList P ops Q (o :: rest) a W := by
  refine wpList_plain hgd fun K hK => ?_
  unfold Oper.wp execOp
  simp only [ho, resolve, invoke, builtin, Sem.run_bind, Sem.run_pure, Result.andThen_ok, List.map_toArray, List.map_cons, List.map_nil, hx, hr]
  exact hK _ _ h
theorem first_cases (pr pt : Int) (l : List S36) : (first pr pt l = -1 ∧ l.filter (keep pr pt) = l) ∨ ∃ k, ∃ h : k < l.length, first pr pt l = (k : Int) ∧ del pr pt l[k] = true ∧ (l.take (k + 1)).filter (keep pr pt) = l.take k := by
  cases hf : l.findIdx? (del pr pt) with
  | none =>
    refine .inl ⟨by unfold first; rw [hf], List.filter_eq_self.2 fun x hx => ?_⟩
    have := List.findIdx?_eq_none_iff.1 hf x hx
    simp [keep, this]
  | some k =>
    obtain ⟨hk, hd, ha⟩ := List.findIdx?_eq_some_iff_getElem.1 hf
    refine .inr ⟨k, hk, by unfold first; rw [hf], hd, ?_⟩
    rw [List.take_succ_eq_append_getElem hk, List.filter_append, List.filter_eq_self.2, List.filter_cons_of_neg (by simp [keep, hd]), List.filter_nil, List.append_nil]
    intro x hx
    obtain ⟨j, hj, rfl⟩ := List.getElem_of_mem hx
    have hj' : j < k := by have h2 := hj; rw [List.length_take] at h2; exact Nat.lt_of_lt_of_le h2 (Nat.min_le_left _ _)
    rw [List.getElem_take]
    have := ha j hj'
    simpa [keep] using this
set_option maxHeartbeats 4000000 in
set_option maxRecDepth 100000 in
theorem delete_none (A : Option Addr) (g b c : Nat) (pr pt : Int) (l : List S36) (n : Nat) (hn : l.length = n) (hs : n ≤ 1000000) (hc : n ≤ c) (hA : 0 < n → A = some ⟨g, 0, none⟩) (w : World) (h : Pairs w g l) (hg : 0 < n → g < w.heap.size) (hb : w.heap[b]? = some (.cells #[.int .i64 pr, .int .i64 pt] 36)) (h1 : first pr pt l = -1) :
    Calls Try.prog 39 #[.slice A n c, .func (.func 40) #[] #[.pointer (some ⟨b, 0, none⟩)]] w fun e w' => e = .returned (.slice A n c) ∧ Below w.heap.size w w' := by
  have HI := Aside0.mk (index_calls g b pr pt l n c A hn hA hs hc w h hg hb)
  clear hn hA h hg hb
  go_enter Try.func39, Try.ntmps39
  go_wp2_with (go_at_call 42; refine HI.out.mono ?_; rintro e w1 ⟨rfl, hb1⟩; rw [h1])
  go_ret
  exact ⟨rfl, hb1⟩
set_option maxHeartbeats 8000000 in
set_option maxRecDepth 100000 in
theorem delete_some (g b c : Nat) (pr pt : Int) (l : List S36) (n : Nat) (hn : l.length = n) (hs : n ≤ 1000000) (hcm : c ≤ maxLen) (hne : b ≠ g) (w : World) (h : RowP w g c l) (hb : w.heap[b]? = some (.cells #[.int .i64 pr, .int .i64 pt] 36)) (k0 : Nat) (hk0 : k0 < n) (h1 : first pr pt l = (k0 : Int)) (h2 : (l.take (k0 + 1)).filter (keep pr pt) = l.take k0) :
    Calls Try.prog 39 #[.slice (some ⟨g, 0, none⟩) n c, .func (.func 40) #[] #[.pointer (some ⟨b, 0, none⟩)]] w fun e w' => e = .returned (.slice (some ⟨g, 0, none⟩) (l.filter (keep pr pt)).length c) ∧ RowP w' g c (l.filter (keep pr pt)) ∧ w.grownBy w' (some g) := by
  have hlc : n ≤ c := by obtain ⟨_, _, _, h3, _⟩ := h; omega
  have HI := Aside0.mk (index_calls g b pr pt l n c (some ⟨g, 0, none⟩) hn (fun _ => rfl) hs hlc w h.pairs (fun _ => h.lt) hb)
  have HR := Aside0.mk h
  have HB0 := Aside0.mk hb
  have HN := Aside0.mk hn
  have H2 := Aside0.mk h2
  have hbl := Aside0.mk (blk_lt hb)
  have hm : (k0 : Int) ≠ -1 := by omega
  have hm2 : ((k0 : Int) == -1) = false := beq_eq_false_iff_ne.2 hm
  clear hn h hb h2
  go_enter Try.func39, Try.ntmps39
  go_wp2_with (go_at_call 42; refine HI.out.mono ?_; rintro e w1 ⟨rfl, hb1⟩; rw [h1])
  have HB1 := Aside0.mk hb1
  clear hb1
  go_loopw [5, 6] (fun u v wr => ∃ i j : Nat, i < j ∧ j ≤ n ∧ u = .int .i64 (i : Nat) ∧ v = .int .i64 (j : Nat) ∧ ∃ cur : List S36, cur.length = n ∧ RowP wr g c cur ∧ cur.take i = (l.take j).filter (keep pr pt) ∧ cur.drop j = l.drop j ∧ w.grownBy wr (some g)) (fun _ v _ => n - (intOf v).toNat)
  case atStart => exact ⟨k0, k0 + 1, by omega, by omega, rfl, by go_num, l, HN.out, HR.out.at (HB1.out.block _ HR.out.lt), by rw [H2.out], rfl, below_grown HB1.out⟩
  case round =>
    obtain ⟨i, j, hij, hj, rfl, rfl, cur, hcl, hrow, htk, hdr, hgr⟩ := hrel
    have HC := Aside0.mk (And.intro hcl (And.intro hrow (And.intro htk (And.intro hdr hgr))))
    clear hcl hrow htk hdr hgr
    by_cases hjn : j < n
    · have hjc : j < cur.length := by have := HC.out.1; omega
      obtain ⟨c0, c1⟩ := HC.out.2.1.pairs j hjc
      obtain ⟨q, hq⟩ : ∃ q, cur[j] = q := ⟨_, rfl⟩
      rw [hq] at c0 c1
      have HQ := Aside0.mk hq
      clear hq
      have hgl : g < wr.heap.size := HC.out.2.1.lt
      have hbl2 : b < wr.heap.size := Nat.lt_of_lt_of_le hbl.out HC.out.2.2.2.2.size
      have hbw : wr.heap[b]? = some (.cells #[.int .i64 pr, .int .i64 pt] 36) := (HC.out.2.2.2.2.block b hbl.out (fun e => hne (Option.some.inj e))).trans HB0.out
      have hbw2 : (wr.alloc (.cells #[.int .i64 q.f0, .int .i64 q.f1] 36)).heap[b]? = some (.cells #[.int .i64 pr, .int .i64 pt] 36) := (Below.heap_alloc _ _ _ hbl2).trans hbw
      have HBW := Aside0.mk hbw2
      clear hbw hbw2
      have hql : q = l[j]'(by have := HN.out; omega) := by
        have e := congrArg (fun x : List S36 => x[0]?) HC.out.2.2.2.1
        simp only [List.getElem?_drop, Nat.add_zero] at e
        rw [List.getElem?_eq_getElem hjc, List.getElem?_eq_getElem (by have := HN.out; omega)] at e
        rw [← HQ.out]; exact Option.some.inj e
      have HQL := Aside0.mk hql
      clear hql
      obtain ⟨D, hD⟩ : ∃ D, del pr pt q = D := ⟨_, rfl⟩
      have HD := Aside0.mk hD
      clear hD
      cases D with
      | true =>
        go_wp2_with (go_at_call 40; refine (closure_calls b pr pt q _ HBW.out).mono ?_; rintro e w2 ⟨rfl, hb2⟩; rw [HD.out])
        have hb3 : Below wr.heap.size wr w2 := (below_alloc (Below.refl _ _) _).trans (hb2.mono (by simp))
        go_roundw
        case rel =>
          refine ⟨i, j + 1, by omega, by omega, rfl, by go_num, cur, HC.out.1, HC.out.2.1.at (hb3.block _ hgl), ?_, ?_, HC.out.2.2.2.2.trans (below_grown hb3)⟩
          · rw [HC.out.2.2.1, List.take_succ_eq_append_getElem (by have := HN.out; omega), List.filter_append, List.filter_cons_of_neg (by rw [← HQL.out]; simp [keep, HD.out]), List.filter_nil, List.append_nil]
          · rw [← List.drop_drop, HC.out.2.2.2.1, List.drop_drop]
        case measure => simp [intOf]; omega
      | false =>
        go_wp2_with (go_at_call 40; refine (closure_calls b pr pt q _ HBW.out).mono ?_; rintro e w2 ⟨rfl, hb2⟩; rw [HD.out]; rw [World.size_alloc] at hb2; have hbx := (hb2.block wr.heap.size (Nat.lt_succ_self _)).trans (World.alloc_heap_new wr (.cells #[.int .i64 q.f0, .int .i64 q.f1] 36)); obtain ⟨x0, x1⟩ := blk2 hbx; have hb3 : Below wr.heap.size wr w2 := (below_alloc (Below.refl _ _) _).trans (hb2.mono (Nat.le_succ _)); have hr2 := HC.out.2.1.at (hb3.block _ hgl); obtain ⟨y0, y1⟩ := hr2.pairs i (by have := HC.out.1; omega); have z0 := hr2.frozen (i * 2); have z1 := hr2.frozen (i * 2 + 1); have HR2 := Aside0.mk (And.intro hb3 hr2); clear hb2 hbx hb3 hr2)
        go_roundw
        case rel =>
          refine ⟨i + 1, j + 1, by omega, by omega, by go_num, by go_num, cur.set i q, by rw [List.length_set]; exact HC.out.1, HR2.out.2.set i q, ?_, ?_, (HC.out.2.2.2.2.trans (below_grown HR2.out.1)).trans ⟨rfl, rfl, rfl, by simp [World.setCell], fun k hk hne => ?_⟩⟩
          · have hil : i < cur.length := by have := HC.out.1; omega
            rw [List.take_succ_eq_append_getElem (by rw [List.length_set]; exact hil), List.take_set_of_le (Nat.le_refl _), List.getElem_set_self, HC.out.2.2.1, List.take_succ_eq_append_getElem (l := l) (by have := HN.out; omega), List.filter_append, List.filter_cons_of_pos (by rw [← HQL.out]; simp [keep, HD.out]), List.filter_nil, ← HQL.out]
          · rw [List.drop_set_of_lt (by omega), ← List.drop_drop, HC.out.2.2.2.1, List.drop_drop]
          · have hkg : k ≠ g := fun e => hne (by rw [e])
            rw [Below.heap_setCell _ _ _ _ hkg, Below.heap_setCell _ _ _ _ hkg]
        case measure => simp [intOf]; omega
    · obtain rfl : j = n := by omega
      obtain ⟨hcl, hrow, htk, hdr, hgr⟩ := HC.out
      have hrt := hrow.take i
      have htl : (cur.take i).length = i := by simp [hcl]; omega
      have hfl : l.filter (keep pr pt) = cur.take i := by rw [htk, List.take_of_length_le (by have := HN.out; omega)]
      obtain ⟨cr, q1, q2, q3, q4⟩ := hrow
      have hcell : ∀ m, m < (j - i) * 2 → (wr.cell? ⟨g, i * 2 + m, none⟩).isSome = true := fun m hm => by
        rw [Joins.cell_of_block q1, Array.getElem?_eq_getElem (by omega)]; rfl
      obtain ⟨zs, hzl, hclr⟩ := run_clear36 wr 0 g (i * 2) (j - i) (c - i) (by omega) hcell (fun m _ => Joins.unfrozen_of_block q1 _)
      have hcd := hrt.cleared zs (by rw [htl, hzl]; omega)
      rw [htl] at hcd
      have HF := Aside0.mk (And.intro hfl (And.intro hcd (And.intro htl hgr)))
      clear hcl htk hdr hgr hrt htl hfl q1 q2 q3 q4 hcell hcd
      go_wp2
      go_ret
      obtain ⟨hfl, hcd, htl, hgr⟩ := HF.out
      rw [hfl, htl]
      refine ⟨rfl, hcd, hgr.trans ?_⟩
      obtain ⟨s1, s2, s3, s4⟩ := setCells_same g zs (i * 2) wr
      exact ⟨s1, s2, s3, by rw [s4]; exact Nat.le_refl _, fun k _ hk => setCells_far zs _ k (fun e => hk (by rw [e]))⟩
end Go.Proofs.Ytodlibmnmjopbaa.Hand
