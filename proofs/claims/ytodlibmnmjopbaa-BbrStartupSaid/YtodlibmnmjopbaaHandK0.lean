/- The contract of bbr.Ack where it is answered: its walk, by hand. -/
import Derived.Test.YtodlibmnmjopbaaHandA
import Derived.Test.YtodlibmnmjopbaaHandM
import Derived.Test.YtodlibmnmjopbaaPAx3
namespace Go.Proofs.Ytodlibmnmjopbaa.Hand
open Go.RowKit Go.Proofs.YtodlibmnmjopbaaW.PrintWords Go.Proofs.YtodlibmnmjopbaaW.PrintLast Go.Proofs.YtodlibmnmjopbaaW.PrintMore Go.Proofs.Ytodlibmnmjopbaa.PA Go.Proofs.Ytodlibmnmjopbaa.Util
set_option linter.unusedVariables false
set_option linter.unusedSimpArgs false
attribute [local go_sem] Oper.semAt_some max2_int max_two min2_int min_two

/-- A state, and an event. -/
structure B where
  ph : Int
  l : List S36
  hr : Bool
  rt : Int
  ra : Int
  fu : Bool
  fr : Int
  fn : Int
  cy : Int
  ca : Int
  un : Int
  rd : Int
structure Ev1 where
  now : Int
  rnd : Int
  rate : Int
  rtt : Int
  fl : Int
  hasRate : Bool
  hasRtt : Bool
abbrev cb (v : Value) (s : B) : Array Value := cs12 v s.ph s.hr s.rt s.ra s.fu s.fr s.fn s.cy s.ca s.un s.rd
abbrev ce (e : Ev1) : Array Value := #[.int .i64 e.now, .int .i64 e.rnd, .int .i64 e.rate, .int .i64 e.rtt, .int .i64 e.fl, .bool e.hasRate, .bool e.hasRtt]
abbrev cz : Array Value := cs12 (.slice none 0 0) 0 false 0 0 false 0 0 0 0 0 0
structure Inv (w0 w : World) (v : Value) (s : B) (e : Ev1) : Prop where
  hs : w.heap[w0.heap.size]? = some (.cells (cb v s) 40 (0, 0))
  he : w.heap[w0.heap.size + 1]? = some (.cells (ce e) 46 (0, 0))
  hz : w.heap[w0.heap.size + 2]? = some (.cells cz 40 (0, 0))
  hR : Kd.R k36 36 w w0.heap.size (fun _ => True) v s.l
  hB : Below w0.heap.size w0 w
theorem Inv.below {w0 w w1 : World} {v : Value} {s : B} {e : Ev1} (h : Inv w0 w v s e) (hb : Below w.heap.size w w1) : Inv w0 w1 v s e :=
  ⟨blk_below h.hs hb, blk_below h.he hb, blk_below h.hz hb, Kd.R_below h.hR hb, below_step h.hB hb⟩
theorem Inv.set {w0 w : World} {v : Value} {s : B} {e : Ev1} (h : Inv w0 w v s e) (s' : B) (hl : s'.l = s.l) (i : Nat) (x : Value) (hx : (cb v s).setIfInBounds i x = cb v s') : Inv w0 (w.setCell ⟨w0.heap.size, i, none⟩ x) v s' e :=
  ⟨blk_put h.hs i x hx, blk_far h.he (p := ⟨w0.heap.size, i, none⟩) (by simp) x, blk_far h.hz (p := ⟨w0.heap.size, i, none⟩) (by simp) x, by rw [hl]; exact Kd.R_set h.hR h.hs (by decide) i x, h.hB.setCell (p := ⟨w0.heap.size, i, none⟩) (Nat.le_refl _) x⟩
/-- A method of the state has run. -/
theorem Inv.meth {w0 w w1 : World} {v : Value} {s : B} {e : Ev1} (h : Inv w0 w v s e) (s' : B) (hl : s'.l = s.l) (hg : w.grownBy w1 (some w0.heap.size)) (hs' : w1.heap[w0.heap.size]? = some (.cells (cb v s') 40 (0, 0))) : Inv w0 w1 v s' e := by
  have hne := Kd.R_ne h.hR h.hs (by decide)
  refine ⟨hs', blk_grown h.he hg (by simp), blk_grown h.hz hg (by simp), by rw [hl]; exact Kd.R_grown1 h.hR rfl hg hne, h.hB.grown hg (by have := blk_lt h.hs; omega) (fun j ej => by cases ej; exact Nat.le_refl _)⟩

def lastR (l : List S36) : Int := if l.length = 0 then 0 else (rd_T36 l ((l.length : Int) - 1)).f0
theorem last_eq (l : List S36) (hl : l.length ≤ 1000) : bbr_last.f l = some (lastR l) := by
  unfold bbr_last.f lastR
  by_cases h : l.length = 0
  · rw [if_pos (by omega), if_pos h]
  · rw [if_neg (by omega), if_neg h, wrap_id (by omega) (by omega), if_pos (by omega), if_pos (by omega)]
theorem c_new (k : IntKind) (W : World) (xs : List Int) (t : TypeId) (n : Nat) (hn : n = xs.length) (hl : xs.length ≤ 1000) : (Kd.int k).C (W.alloc (.cells (encs (Value.int k) xs).toArray t)) (some ⟨W.heap.size, 0, none⟩) n xs := by
  subst hn
  refine Kd.C_of_reads (d := (0 : Int)) (h1 := fun _ => rfl) ⟨rfl, by omega, fun _ => ⟨_, rfl, fun j hj => ?_⟩⟩
  have e : (⟨W.heap.size, 0, none⟩ : Addr).add j = ⟨W.heap.size, j, none⟩ := by simp [Addr.add]; omega
  rw [e]
  exact (blk_cell (blk_new W _) j).trans (by simp [encs, hj])

/-! ### what is reckoned, step by step -/
def putL (l : List S36) (a b : Int) : List S36 := l.filter (keep a (bump l a b)) ++ [⟨a, bump l a b⟩]
def st1 (s : B) (e : Ev1) : B := if e.hasRate = true then { s with l := putL s.l e.rnd e.rate } else s
def roundS (s : B) : B := if 5 * s.fr ≤ 4 * gr s.l then { s with fr := gr s.l, fn := 0 } else { s with fn := if s.fn + 1 < 1099511627776 then s.fn + 1 else 1099511627776, fu := decide (3 ≤ (if s.fn + 1 < 1099511627776 then s.fn + 1 else 1099511627776)) }
def st2 (s : B) (e : Ev1) : B := if s.rd < e.rnd ∧ s.fu = false then roundS { s with rd := e.rnd } else { s with rd := e.rnd }
def oldS (s : B) (e : Ev1) : Bool := e.hasRtt && stale s.hr s.ra e.now
def st3 (s : B) (e : Ev1) : B := if e.hasRtt = true ∧ fresher s.hr s.rt s.ra e.now e.rtt = true then { s with hr := true, rt := e.rtt, ra := e.now } else s
def st4 (s : B) (e : Ev1) : B := if s.ph = 0 ∧ s.fu = true then { s with ph := 1 } else if s.ph = 2 ∧ s.ca + (if s.rt < 1 then 1 else s.rt) ≤ e.now then { s with cy := bits .and .i64 (s.cy + 1) 7, ca := e.now } else s
def probeS (s : B) (e : Ev1) : B := { s with ph := 2, cy := 0, ca := e.now }
def st5 (s : B) (e : Ev1) : B := if s.ph = 1 ∧ e.fl ≤ gr s.l * s.rt / 1024 then probeS s e else s
def st6 (s : B) (e : Ev1) (old : Bool) : B :=
  if s.ph = 3 then (if s.un ≤ e.now then (if s.fu = true then probeS { s with ph := 0, ra := e.now } e else { s with ph := 0, ra := e.now }) else s)
  else if old = true then { s with ph := 3, un := if e.now + 200 < 1099511627776 then e.now + 200 else 1099511627776 } else s
def okE (s : B) (e : Ev1) (mss : Int) : Prop := (1 ≤ mss ∧ mss ≤ 65535) ∧ (0 ≤ e.now ∧ e.now ≤ 1099511627776) ∧ (0 ≤ e.rnd ∧ e.rnd ≤ 1099511627776) ∧ (0 ≤ e.rate ∧ e.rate ≤ 1073741824) ∧ (0 ≤ e.rtt ∧ e.rtt ≤ 1073741824) ∧ (0 ≤ e.fl ∧ e.fl ≤ 1073741824) ∧ s.rd ≤ e.rnd ∧ lastR s.l ≤ e.rnd

/-! ### bounds -/
def allB (l : List S36) : Prop := ∀ q ∈ l, 0 ≤ q.f1 ∧ q.f1 ≤ 1073741824
theorem rd_mem (l : List S36) (i : Nat) (h : i < l.length) : rd_T36 l (i : Int) ∈ l := by
  have e : rd_T36 l (i : Int) = l[i] := by simp [rd_T36, List.getD, h]
  rw [e]
  exact List.getElem_mem _
theorem allG_get (L : List S36) : ∀ (d i : Nat), allG L d i = true → ∀ j, i ≤ j → j < i + d → goodB L j = true
  | 0, i, _, j, h1, h2 => by omega
  | d + 1, i, h, j, h1, h2 => by
    unfold allG at h
    rw [Bool.and_eq_true] at h
    by_cases e : j = i
    · rw [e]; exact h.1
    · exact allG_get L d (i + 1) h.2 j (by omega) (by omega)
theorem may_allB (l : List S36) (h : mayV l = true) : allB l := by
  unfold mayV at h
  rw [Bool.and_eq_true] at h
  intro q hq
  obtain ⟨j, hj, rfl⟩ := List.mem_iff_getElem.1 hq
  have h1 := allG_get l l.length 0 h.1 j (by omega) (by omega)
  unfold goodB at h1
  have e : rd_T36 l (j : Int) = l[j] := by simp [rd_T36, List.getD, hj]
  simp only [Bool.and_eq_true, decide_eq_true_eq] at h1
  have h2 := h1.1.2
  unfold A1 at h2
  rw [e] at h2
  exact h2
theorem bump_bd (l : List S36) (h : allB l) (a b : Int) (h0 : 0 ≤ b) (h1 : b ≤ 1073741824) : 0 ≤ bump l a b ∧ bump l a b ≤ 1073741824 := by
  unfold bump
  split
  · rename_i hc
    have hm := h _ (rd_mem l (l.length - 1) (by omega))
    rw [show ((l.length - 1 : Nat) : Int) = (l.length : Int) - 1 from by omega] at hm
    rcases mx_or b (rd_T36 l ((l.length : Int) - 1)).f1 with ⟨e, _⟩ | ⟨e, _⟩ <;> rw [e] <;> omega
  · omega
theorem putL_allB (l : List S36) (h : allB l) (a b : Int) (h0 : 0 ≤ b) (h1 : b ≤ 1073741824) : allB (putL l a b) := by
  intro q hq
  unfold putL at hq
  rcases List.mem_append.1 hq with hq | hq
  · exact h q (List.mem_filter.1 hq).1
  · have := bump_bd l h a b h0 h1
    simp at hq
    subst hq
    exact this
theorem gr_bd (l : List S36) (h : allB l) : 0 ≤ gr l ∧ gr l ≤ 1073741824 := by
  unfold gr
  split
  · omega
  · exact h _ (rd_mem l 0 (by omega))
structure okB (s : B) : Prop where
  l : allB s.l
  rt : 0 ≤ s.rt ∧ s.rt ≤ 1073741824
  ra : 0 ≤ s.ra ∧ s.ra ≤ 1099511627776
  fr : 0 ≤ s.fr ∧ s.fr ≤ 1099511627776
  fn : 0 ≤ s.fn ∧ s.fn ≤ 1099511627776
  ca : 0 ≤ s.ca ∧ s.ca ≤ 1099511627776
  cy : 0 ≤ s.cy ∧ s.cy ≤ 7
theorem ok1 {s : B} {e : Ev1} {mss : Int} (h : okB s) (oe : okE s e mss) : okB (st1 s e) := by
  obtain ⟨_, _, _, o4, _, _, _, _⟩ := oe
  unfold st1
  split
  · exact ⟨putL_allB _ h.l _ _ o4.1 o4.2, h.rt, h.ra, h.fr, h.fn, h.ca, h.cy⟩
  · exact h
theorem ok2 {s : B} {e : Ev1} (h : okB s) : okB (st2 s e) := by
  have hg := gr_bd _ h.l
  have hn := h.fn
  unfold st2 roundS
  split
  · split
    · exact ⟨h.l, h.rt, h.ra, ⟨hg.1, Int.le_trans hg.2 (by decide)⟩, ⟨Int.le_refl 0, (by decide : (0 : Int) ≤ 1099511627776)⟩, h.ca, h.cy⟩
    · refine ⟨h.l, h.rt, h.ra, h.fr, ?_, h.ca, h.cy⟩
      show (0 : Int) ≤ (if s.fn + 1 < 1099511627776 then s.fn + 1 else 1099511627776) ∧ (if s.fn + 1 < 1099511627776 then s.fn + 1 else 1099511627776) ≤ (1099511627776 : Int)
      split <;> omega
  · exact ⟨h.l, h.rt, h.ra, h.fr, h.fn, h.ca, h.cy⟩
theorem l2_eq (s : B) (e : Ev1) : s.l = (st2 s e).l := by
  unfold st2 roundS
  split
  · split <;> rfl
  · rfl
theorem l3_eq (s : B) (e : Ev1) : s.l = (st3 s e).l := by unfold st3; split <;> rfl
theorem l4_eq (s : B) (e : Ev1) : s.l = (st4 s e).l := by
  unfold st4
  by_cases h1 : s.ph = 0 ∧ s.fu = true
  · rw [if_pos h1]
  · rw [if_neg h1]
    by_cases h2 : s.ph = 2 ∧ s.ca + (if s.rt < 1 then 1 else s.rt) ≤ e.now
    · rw [if_pos h2]
    · rw [if_neg h2]
theorem l5_eq (s : B) (e : Ev1) : s.l = (st5 s e).l := by unfold st5 probeS; split <;> rfl
theorem ok3 {s s0 : B} {e : Ev1} {mss : Int} (h : okB s) (oe : okE s0 e mss) : okB (st3 s e) := by
  obtain ⟨_, o2, _, _, o5, _, _, _⟩ := oe
  unfold st3
  split
  · exact ⟨h.l, o5, o2, h.fr, h.fn, h.ca, h.cy⟩
  · exact h

theorem rt4_eq (s : B) (e : Ev1) : (st4 s e).rt = s.rt := by
  unfold st4
  by_cases h1 : s.ph = 0 ∧ s.fu = true
  · rw [if_pos h1]
  · rw [if_neg h1]
    by_cases h2 : s.ph = 2 ∧ s.ca + (if s.rt < 1 then 1 else s.rt) ≤ e.now
    · rw [if_pos h2]
    · rw [if_neg h2]

/-- What follows the first part of a sequence. -/
def snd : Code → Code
  | .seq _ b => b
  | c => c
def bodyOf (f : Func) : Code := f.body.getD .skip

/-- The result's cells, while they are written. -/
structure Zs (w W : World) (v : Value) (l : List S36) (cs : Array Value) : Prop where
  hz : W.heap[w.heap.size + 1 + 1]? = some (.cells cs 40 (0, 0))
  hR : Kd.R k36 36 W w.heap.size (fun _ => True) v l
  hB : Below w.heap.size w W
theorem Zs.of {w wc : World} {v : Value} {s : B} {e : Ev1} (h : Inv w wc v s e) : Zs w wc v s.l cz := ⟨h.hz, h.hR, h.hB⟩
theorem Zs.set {w W : World} {v : Value} {l : List S36} {cs cs' : Array Value} (h : Zs w W v l cs) (i : Nat) (x : Value) (he : cs.setIfInBounds i x = cs') : Zs w (W.setCell ⟨w.heap.size + 1 + 1, i, none⟩ x) v l cs' :=
  ⟨blk_put h.hz i x he, Kd.R_set h.hR h.hz (by decide) i x, h.hB.setCell (p := ⟨w.heap.size + 1 + 1, i, none⟩) (by simp; omega) x⟩
theorem fin12 {w wc : World} {v : Value} {s : B} {e : Ev1} (h : Inv w wc v s e) : Zs w ((((((((((((wc.setCell ⟨w.heap.size + 1 + 1, 0, none⟩ (.int .i64 s.ph)).setCell ⟨w.heap.size + 1 + 1, 1, none⟩ (v)).setCell ⟨w.heap.size + 1 + 1, 2, none⟩ (.bool s.hr)).setCell ⟨w.heap.size + 1 + 1, 3, none⟩ (.int .i64 s.rt)).setCell ⟨w.heap.size + 1 + 1, 4, none⟩ (.int .i64 s.ra)).setCell ⟨w.heap.size + 1 + 1, 5, none⟩ (.bool s.fu)).setCell ⟨w.heap.size + 1 + 1, 6, none⟩ (.int .i64 s.fr)).setCell ⟨w.heap.size + 1 + 1, 7, none⟩ (.int .i64 s.fn)).setCell ⟨w.heap.size + 1 + 1, 8, none⟩ (.int .i64 s.cy)).setCell ⟨w.heap.size + 1 + 1, 9, none⟩ (.int .i64 s.ca)).setCell ⟨w.heap.size + 1 + 1, 10, none⟩ (.int .i64 s.un)).setCell ⟨w.heap.size + 1 + 1, 11, none⟩ (.int .i64 s.rd)) v s.l (cb v s) := by
  have h0 := Zs.of h
  have h1 := h0.set 0 (.int .i64 s.ph) (cs' := #[.int .i64 s.ph, .slice none 0 0, .bool false, .int .i64 0, .int .i64 0, .bool false, .int .i64 0, .int .i64 0, .int .i64 0, .int .i64 0, .int .i64 0, .int .i64 0]) rfl
  have h2 := h1.set 1 (v) (cs' := #[.int .i64 s.ph, v, .bool false, .int .i64 0, .int .i64 0, .bool false, .int .i64 0, .int .i64 0, .int .i64 0, .int .i64 0, .int .i64 0, .int .i64 0]) rfl
  have h3 := h2.set 2 (.bool s.hr) (cs' := #[.int .i64 s.ph, v, .bool s.hr, .int .i64 0, .int .i64 0, .bool false, .int .i64 0, .int .i64 0, .int .i64 0, .int .i64 0, .int .i64 0, .int .i64 0]) rfl
  have h4 := h3.set 3 (.int .i64 s.rt) (cs' := #[.int .i64 s.ph, v, .bool s.hr, .int .i64 s.rt, .int .i64 0, .bool false, .int .i64 0, .int .i64 0, .int .i64 0, .int .i64 0, .int .i64 0, .int .i64 0]) rfl
  have h5 := h4.set 4 (.int .i64 s.ra) (cs' := #[.int .i64 s.ph, v, .bool s.hr, .int .i64 s.rt, .int .i64 s.ra, .bool false, .int .i64 0, .int .i64 0, .int .i64 0, .int .i64 0, .int .i64 0, .int .i64 0]) rfl
  have h6 := h5.set 5 (.bool s.fu) (cs' := #[.int .i64 s.ph, v, .bool s.hr, .int .i64 s.rt, .int .i64 s.ra, .bool s.fu, .int .i64 0, .int .i64 0, .int .i64 0, .int .i64 0, .int .i64 0, .int .i64 0]) rfl
  have h7 := h6.set 6 (.int .i64 s.fr) (cs' := #[.int .i64 s.ph, v, .bool s.hr, .int .i64 s.rt, .int .i64 s.ra, .bool s.fu, .int .i64 s.fr, .int .i64 0, .int .i64 0, .int .i64 0, .int .i64 0, .int .i64 0]) rfl
  have h8 := h7.set 7 (.int .i64 s.fn) (cs' := #[.int .i64 s.ph, v, .bool s.hr, .int .i64 s.rt, .int .i64 s.ra, .bool s.fu, .int .i64 s.fr, .int .i64 s.fn, .int .i64 0, .int .i64 0, .int .i64 0, .int .i64 0]) rfl
  have h9 := h8.set 8 (.int .i64 s.cy) (cs' := #[.int .i64 s.ph, v, .bool s.hr, .int .i64 s.rt, .int .i64 s.ra, .bool s.fu, .int .i64 s.fr, .int .i64 s.fn, .int .i64 s.cy, .int .i64 0, .int .i64 0, .int .i64 0]) rfl
  have h10 := h9.set 9 (.int .i64 s.ca) (cs' := #[.int .i64 s.ph, v, .bool s.hr, .int .i64 s.rt, .int .i64 s.ra, .bool s.fu, .int .i64 s.fr, .int .i64 s.fn, .int .i64 s.cy, .int .i64 s.ca, .int .i64 0, .int .i64 0]) rfl
  have h11 := h10.set 10 (.int .i64 s.un) (cs' := #[.int .i64 s.ph, v, .bool s.hr, .int .i64 s.rt, .int .i64 s.ra, .bool s.fu, .int .i64 s.fr, .int .i64 s.fn, .int .i64 s.cy, .int .i64 s.ca, .int .i64 s.un, .int .i64 0]) rfl
  have h12 := h11.set 11 (.int .i64 s.rd) (cs' := #[.int .i64 s.ph, v, .bool s.hr, .int .i64 s.rt, .int .i64 s.ra, .bool s.fu, .int .i64 s.fr, .int .i64 s.fn, .int .i64 s.cy, .int .i64 s.ca, .int .i64 s.un, .int .i64 s.rd]) rfl
  exact h12
set_option maxHeartbeats 1000000 in
theorem fin_ret (t : Array Value) (w W : World) (v : Value) (s6 : B) (h6 : t[6]?.getD undef = .pointer (some ⟨w.heap.size + 1 + 1, 0, none⟩)) (h7 : t[7]?.getD undef = .int .i64 0) (h : Zs w W v s6.l (cb v s6)) :
    bodyPost Try.prog Try.f15 (fun x w' => ∃ v, x = .returned (.tuple #[.agg (cb v s6), .int .i64 0]) ∧ Kd.R k36 36 w' w.heap.size (fun _ => True) v s6.l ∧ Below w.heap.size w w') .ret { tmps := t, defers := [] } W := by
  have k0 : W.cell? ⟨w.heap.size + 1 + 1, 0, none⟩ = some (.int .i64 s6.ph) := (blk_cell h.hz 0).trans rfl
  have k1 : W.cell? ⟨w.heap.size + 1 + 1, 1, none⟩ = some (v) := (blk_cell h.hz 1).trans rfl
  have k2 : W.cell? ⟨w.heap.size + 1 + 1, 2, none⟩ = some (.bool s6.hr) := (blk_cell h.hz 2).trans rfl
  have k3 : W.cell? ⟨w.heap.size + 1 + 1, 3, none⟩ = some (.int .i64 s6.rt) := (blk_cell h.hz 3).trans rfl
  have k4 : W.cell? ⟨w.heap.size + 1 + 1, 4, none⟩ = some (.int .i64 s6.ra) := (blk_cell h.hz 4).trans rfl
  have k5 : W.cell? ⟨w.heap.size + 1 + 1, 5, none⟩ = some (.bool s6.fu) := (blk_cell h.hz 5).trans rfl
  have k6 : W.cell? ⟨w.heap.size + 1 + 1, 6, none⟩ = some (.int .i64 s6.fr) := (blk_cell h.hz 6).trans rfl
  have k7 : W.cell? ⟨w.heap.size + 1 + 1, 7, none⟩ = some (.int .i64 s6.fn) := (blk_cell h.hz 7).trans rfl
  have k8 : W.cell? ⟨w.heap.size + 1 + 1, 8, none⟩ = some (.int .i64 s6.cy) := (blk_cell h.hz 8).trans rfl
  have k9 : W.cell? ⟨w.heap.size + 1 + 1, 9, none⟩ = some (.int .i64 s6.ca) := (blk_cell h.hz 9).trans rfl
  have k10 : W.cell? ⟨w.heap.size + 1 + 1, 10, none⟩ = some (.int .i64 s6.un) := (blk_cell h.hz 10).trans rfl
  have k11 : W.cell? ⟨w.heap.size + 1 + 1, 11, none⟩ = some (.int .i64 s6.rd) := (blk_cell h.hz 11).trans rfl
  refine bodyPost_ret (v := .tuple #[.agg (cb v s6), .int .i64 0]) ?_ rfl ⟨v, rfl, h.hR, h.hB⟩
  simp [results, Try.results15, go_sem, h6, h7, k0, k1, k2, k3, k4, k5, k6, k7, k8, k9, k10, k11]
end Go.Proofs.Ytodlibmnmjopbaa.Hand
