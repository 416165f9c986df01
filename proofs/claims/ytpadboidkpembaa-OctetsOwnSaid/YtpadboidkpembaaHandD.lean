/- The contract of octets.Decimal: what it computes, by hand (a range over octets.lowest). -/
import Derived.Test.YtpadboidkpembaaHandL
import Derived.Test.YtpadboidkpembaaHandU
namespace Go.Proofs.Ytpadboidkpembaa.Hand
open Go.RowKit Go.Shelf Go.Proofs.YtpadboidkpembaaW.PrintWords Go.Proofs.YtpadboidkpembaaW.PrintLast Go.Proofs.YtpadboidkpembaaW.PrintMore Go.Proofs.Ytpadboidkpembaa.Lift
set_option linter.unusedVariables false
set_option linter.unusedSimpArgs false
attribute [local go_sem] Oper.semAt_some

/-- A number's decimal digits, the lowest first. -/
def dl (n : Nat) : List Int := if h : n < 10 then [48 + (n : Int)] else (48 + ((n % 10 : Nat) : Int)) :: dl (n / 10)
termination_by n
decreasing_by omega
theorem dl_small (n : Nat) (h : n < 10) : dl n = [48 + (n : Int)] := by rw [dl]; simp [h]
theorem dl_big (n : Nat) (h : 10 ≤ n) : dl n = (48 + ((n % 10 : Nat) : Int)) :: dl (n / 10) := by rw [dl]; simp [show ¬ n < 10 by omega]
theorem dl_pos (n : Nat) : 1 ≤ (dl n).length := by
  by_cases h : n < 10
  · rw [dl_small n h]; simp
  · rw [dl_big n (by omega)]; simp
theorem digit_at (r : Nat) (hr : r < 10) (h : r < (ByteArray.mk #[48, 49, 50, 51, 52, 53, 54, 55, 56, 57, 97, 98, 99, 100, 101, 102]).size) : (((ByteArray.mk #[48, 49, 50, 51, 52, 53, 54, 55, 56, 57, 97, 98, 99, 100, 101, 102])[r]'h).toNat : Int) = 48 + (r : Int) := by
  have : r = 0 ∨ r = 1 ∨ r = 2 ∨ r = 3 ∨ r = 4 ∨ r = 5 ∨ r = 6 ∨ r = 7 ∨ r = 8 ∨ r = 9 := by omega
  rcases this with rfl | rfl | rfl | rfl | rfl | rfl | rfl | rfl | rfl | rfl <;> rfl
theorem boxed_w {W : World} {B C : Nat} {t : TypeId} {u : Value} (h : Boxed W B t u) (v : Value) (hne : B ≠ C) : Boxed (W.setCell ⟨C, 0, none⟩ v) B t u := Boxed.other h hne v
theorem boxed_at {W W' : World} {B : Nat} {t : TypeId} {u : Value} (h : Boxed W B t u) (e : W'.heap[B]? = W.heap[B]?) : Boxed W' B t u := e.trans h

set_option maxRecDepth 100000 in
set_option maxHeartbeats 2000000 in
theorem lowest1_in (n : Nat) (hn : 1 ≤ n) (l Bn : Nat) (m : Nat) (hm : m ≤ 18446744073709551615) (J : List Int → World → Prop) (hJw : ∀ s A v, J s A → J s (A.setCell ⟨Bn, 0, none⟩ v))
    (hY : ∀ pre x W, J pre W → pre.length < (dl m).length → YieldAt Fence.wide (n - 1) Try.prog l #[.int .u8 x] W fun e W' => e = .returned (.bool true) ∧ J (pre ++ [x]) W' ∧ W'.heap[Bn]? = W.heap[Bn]?)
    (W : World) (hB : Boxed W Bn 22 (.int .u64 m)) (h0 : J [] W) :
    CallsIn Fence.wide n Try.prog 31 #[.func (.yield l) #[] #[], .pointer (some ⟨Bn, 0, none⟩)] W fun e W' => (∃ v, e = .returned v) ∧ J (dl m) W' := by
  refine callsIn_of_wp Try.func31 rfl trivial ?_ rfl
  simp only [Try.ntmps31, List.size_toArray, List.length_cons, List.length_nil, Nat.reduceAdd, Nat.reduceSub, Array.replicate_succ, Array.replicate_zero, List.push_toArray, List.append_toArray, List.nil_append, List.cons_append]
  gi_wp2
  gi_loopw [] (fun wr => ∃ (k : Nat) (pre : List Int), k ≤ 18446744073709551615 ∧ dl m = pre ++ dl k ∧ J pre wr ∧ Boxed wr Bn 22 (.int .u64 k)) (fun wr => (intOf ((wr.cell? ⟨Bn, 0, none⟩).getD (.int .u64 0))).toNat)
  case atStart => exact ⟨m, [], hm, rfl, h0, hB⟩
  case round =>
    obtain ⟨k, pre, hk, hdl, hJs, hb⟩ := hrel
    have hc := hb.cell
    have hf := hb.frozen
    have HD := Aside0.mk hdl
    clear hdl
    have hlen : pre.length < (dl m).length := by rw [HD.out, List.length_append]; have := dl_pos k; omega
    gi_wp2
    rw [digit_at (k % 10) (by omega) _]
    obtain ⟨fn, tmps, assign, body, hy, hR⟩ := hY pre (48 + ((k % 10 : Nat) : Int)) wr hJs hlen
    rw [hy]
    gi_wp2
    refine hR.mono ?_
    rintro e W3 ⟨rfl, hJ3, hk3⟩
    have hb3 := boxed_at hb hk3
    have hc3 := hb3.cell
    have hf3 := hb3.frozen
    clear hc hf
    by_cases h10 : k < 10
    · gi_wp2
      go_end0
      refine ⟨⟨_, rfl⟩, ?_⟩
      rw [HD.out, dl_small k h10]
      have : k % 10 = k := by omega
      rw [this] at hJ3
      exact hJ3
    · gi_wp2
      go_roundw
      case rel => exact ⟨k / 10, _, by omega, by rw [HD.out, dl_big k (by omega), List.append_assoc]; rfl, hJw _ _ _ hJ3, hb3.set _⟩
      case measure => rw [(hb3.set _).cell, hb.cell]; simp [intOf]; omega

theorem lowest_seq (n : Nat) (hn : 1 ≤ n) (Bn : Nat) (m : Nat) (hm : m ≤ 18446744073709551615) (w : World) (hb : Boxed w Bn 22 (.int .u64 m)) :
    SeqW Fence.wide n Try.prog 31 #[.pointer (some ⟨Bn, 0, none⟩)] (fun x : Int => #[.int .u8 x]) Bn (fun ys => ys = dl m) (dl m).length w := fun l J W hW hJw _ hY h0 =>
  (lowest1_in n hn l Bn m hm J hJw hY W (boxed_at hb (hW.block _ hb.lt)) h0).mono fun e W' h => ⟨h.1, _, rfl, h.2⟩

set_option maxHeartbeats 1000000 in
theorem lowest_in (n : Nat) (m : Int) (w : World) :
    CallsIn Fence.wide n Try.prog 29 #[.int .u64 m] w fun e w' => e = .returned (.func (.func 31) #[] #[.pointer (some ⟨w.heap.size, 0, none⟩)]) ∧ w' = w.alloc (.cells #[.int .u64 m] 22) := by
  refine callsIn_of_wp Try.func29 rfl trivial ?_ rfl
  simp only [Try.ntmps29, List.size_toArray, List.length_cons, List.length_nil, Nat.reduceAdd, Nat.reduceSub, Array.replicate_succ, Array.replicate_zero, List.push_toArray, List.append_toArray, List.nil_append, List.cons_append]
  gi_wp2
  go_ret
  exact ⟨rfl, rfl⟩

theorem box_own {β : Type} (B B' : Nat) (t : TypeId) : OwnFrom B' (fun (_ : β) W => ∃ u, Boxed W B t u) := fun s X Y row hs hg hr => by
  obtain ⟨u, hu⟩ := hs
  exact ⟨u, hu.kept hg (fun e' => by obtain ⟨_, o, ho, hc⟩ := hr B e'.symm; rw [show X.heap[B]? = _ from hu] at ho; cases ho; cases hc)⟩
def decR (a : Int) (m : Nat) : List Int := if a < 0 then 45 :: (dl m).reverse else (dl m).reverse
theorem encs_map (l : List Int) : encs (Value.int .u8) l = l.map (Value.int .u8) := rfl

set_option maxRecDepth 100000 in
set_option maxHeartbeats 400000 in
theorem dec_pos (a : Int) (m : Nat) (ha : (m : Int) = a) (hm : m ≤ 9223372036854775807) (hl : (dl m).length ≤ 30) (w : World) :
    Calls Try.prog 19 #[.int .i64 a] w fun e w' => e = .returned (.string (strOfNums (dl m).reverse)) ∧ Below w.heap.size w w' := by
  refine (callsIn_wide (n := 3)).1 ?_
  obtain ⟨i0, hi, hz0, hz1, hz2⟩ := info_parts info5
  refine callsIn_of_wp_marks Try.func19 rfl trivial ?_ rfl
  simp only [Try.ntmps19, List.size_toArray, List.length_cons, List.length_nil, Nat.reduceAdd, Nat.reduceSub, Array.replicate_succ, Array.replicate_zero, List.push_toArray, List.append_toArray, List.nil_append, List.cons_append]
  subst ha
  have hn : ¬ (m : Int) < 0 := by omega
  gi_wp2
  refine ⟨trivial, (lowest_in _ _ _).mono ?_⟩
  rintro e w' ⟨rfl, rfl⟩
  gi_wp2
  have bO := Boxed.new w 24 (.slice none 0 0)
  have bN := Boxed.new (w.alloc (.cells #[.slice none 0 0] 24)) 22 (.int .u64 m)
  rw [World.size_alloc] at bN
  have hB0 : Below w.heap.size w ((w.alloc (.cells #[.slice none 0 0] 24)).alloc (.cells #[.int .u64 m] 22)) := ((Below.refl _ w).alloc (Nat.le_refl _) _).alloc (by simp) _
  have bO' := bO.alloc (.cells #[.int .u64 m] 22)
  have hzl : ((w.alloc (.cells #[.slice none 0 0] 24)).alloc (.cells #[.int .u64 m] 22)).heap.size = w.heap.size + 1 + 1 := by simp
  generalize (w.alloc (.cells #[.slice none 0 0] 24)).alloc (.cells #[.int .u64 m] 22) = wl at bO' bN hB0 hzl ⊢
  refine wpIn_range_w rfl (by omega) (gf := 31) (lb := #[.pointer (some ⟨w.heap.size + 1, 0, none⟩)]) rfl trivial (enters_of Try.func31 (by kernel_rfl) rfl)
    (lowest_seq 2 (by omega) (w.heap.size + 1) m (by omega) wl bN) (by omega) (fun _ => rfl)
    (fun (pre : List Int) W => (∃ v, Boxed W w.heap.size 24 v ∧ W.ownsRow w.heap.size 5 1 v pre.length (encs (Value.int .u8) pre) ∧ True) ∧ (∃ u, Boxed W (w.heap.size + 1) 22 u) ∧ Below w.heap.size w W)
    (OwnFrom.and (Own.from (holdsRow_own w.heap.size w.heap.size 24 5 1 (fun (pre : List Int) => pre.length) (fun pre => encs (Value.int .u8) pre) (fun _ _ => True)) _) (OwnFrom.and (box_own _ _ _) (ownFrom_below (Nat.le_refl _) (by omega))))
    (fun s A v hs => by
      obtain ⟨⟨u, hu, hr, _⟩, ⟨x, hx⟩, hB⟩ := hs
      exact ⟨⟨u, hu.other (by omega) v, hr.kept (grownBy_setCell' A _ v) (.inr (hx.not_row (by decide) hr).symm), trivial⟩, ⟨v, hx.set v⟩, hB.setCell (p := ⟨w.heap.size + 1, 0, none⟩) (by simp) v⟩)
    ⟨⟨_, bO', World.ownsRow_nil _ _ _ _, trivial⟩, ⟨_, bN⟩, hB0⟩
    ?a1 ?assign ?body ?done
  case assign =>
    intro l x W K hK
    gi_wp2
    exact hK
  case body =>
    rintro l pre x W ⟨⟨v, hv, hrow, _⟩, ⟨u, hu⟩, hB⟩ hlt
    have hc := hv.cell
    have hbs := hB.size
    gi_wp2_with (gi_at_builtin; refine wpListIn_append_own _ rfl _ _ 24 rfl w.heap.size 5 i0 (.int .u8 0) 1 1 Try.underlying24 hi hz0 hz1 hz2 rfl (by decide) _ _ _ rfl (hrow.alloc _) ⟨W.heap.size, 0, none⟩ 1 1 [.int .u8 x] rfl rfl (cell_one_new _ _ _) (by simp [Value.oneCell']) (by unfold maxLen; omega) (by omega) (by simp; omega) ?_; intro v' w1 hown' hgrow _; obtain ⟨g', cap', rfl⟩ := ownsRow_succ hown'; obtain ⟨hv1, hv2, hr2, hk2, hb2⟩ := hv.appended (by decide) hrow hB.size (Nat.le_refl _) hown' hgrow; have hc1 := hv1.cell; have hf1 := hv1.frozen)
    have hu1 : Boxed w1 (w.heap.size + 1) 22 u := (hu.alloc _).kept hgrow (hu.not_row (by decide) hrow)
    have hu2 := hu1.other (B' := w.heap.size) (by omega) (.slice (some ⟨g', 0, none⟩) (pre.length + 1) cap')
    exact ⟨hk2.from _, hu2.trans hu.symm, ⟨_, hv2, by rw [List.length_append]; simpa [encs] using hr2, trivial⟩, ⟨u, hu2⟩, hB.trans hb2⟩
  case done =>
    rintro D ys W hD rfl ⟨⟨v, hv, hrow, _⟩, _, hB⟩ hK
    obtain ⟨j, hj⟩ : ∃ j, (dl m).length = j + 1 := ⟨(dl m).length - 1, by have := dl_pos m; omega⟩
    obtain ⟨g, cap, rfl⟩ : ∃ g cap, v = .slice (some ⟨g, 0, none⟩) (dl m).length cap := by have h2 := hrow; rw [hj] at h2; have h3 := ownsRow_succ h2; rw [hj]; exact h3
    have hc := hv.cell
    have hD2 := Aside0.mk hK
    clear hK hj
    gi_wp2
    have hrR : Kd.R (Kd.int .u8) 5 W w.heap.size (fun _ => True) (.slice (some ⟨g, 0, none⟩) (dl m).length cap) (dl m) := Kd.R_of_own hrow (fun _ _ => trivial)
    have hrc := rev_calls w.heap.size g cap (dl m).length (fun _ => True) (dl m) W rfl (by omega) hrR
    have hrc2 := (callsIn_wide (n := 2)).2 hrc
    clear hrc
    refine ⟨trivial, hrc2.mono ?_⟩
    clear hrc2
    rintro e W3 ⟨rfl, hr3, hg3⟩
    have hgne : some w.heap.size ≠ some g := hv.not_row (by decide) hrow
    have hv3 : Boxed W3 w.heap.size 24 _ := hv.kept hg3 hgne
    have hc3 := hv3.cell
    have hK3 : W3.heap[D]? = some (.deferred (some [])) := (hg3.block D (Array.getElem?_eq_some_iff.1 hD2.out).1 (fun e => by
      obtain ⟨cells, hcl⟩ := own_typed hrow D e.symm
      rw [hD2.out] at hcl; cases hcl)).trans hD2.out
    have hB3 : Below w.heap.size w W3 := hB.grown hg3 hB.size (fun j e => by cases e; exact own_base hrow g rfl)
    have hcv := own_string (P := Try.prog) Try.underlying24 Try.underlying5 Try.underlying9 (Kd.own_of_R hr3)
    clear hc hv hrow
    gi_wp2
    refine ⟨by simp, .inl ⟨_, _, rfl, run_takeDeferred hK3, ?_⟩⟩
    exact ⟨_, results_tmp rfl _ _ _, rfl, hB3.trans (belowK_b (w := w) (Nat.le_refl _) W3 D _ _ (by omega) hK3 rfl rfl)⟩
set_option maxRecDepth 100000 in
set_option maxHeartbeats 400000 in
theorem dec_neg (a : Int) (m : Nat) (ha : -(m : Int) = a) (hm0 : 1 ≤ m) (hm : m ≤ 9223372036854775808) (hl : (dl m).length ≤ 30) (w : World) :
    Calls Try.prog 19 #[.int .i64 a] w fun e w' => e = .returned (.string (strOfNums (45 :: (dl m).reverse))) ∧ Below w.heap.size w w' := by
  refine (callsIn_wide (n := 3)).1 ?_
  obtain ⟨i0, hi, hz0, hz1, hz2⟩ := info_parts info5
  refine callsIn_of_wp_marks Try.func19 rfl trivial ?_ rfl
  simp only [Try.ntmps19, List.size_toArray, List.length_cons, List.length_nil, Nat.reduceAdd, Nat.reduceSub, Array.replicate_succ, Array.replicate_zero, List.push_toArray, List.append_toArray, List.nil_append, List.cons_append]
  subst ha
  have hn : (-(m : Int)) < 0 := by omega
  have hw1 : IntKind.u64.wrap (-IntKind.u64.wrap (-(m : Int))) = m := by rw [IntKind.wrap_u64, IntKind.wrap_u64]; omega
  gi_wp2
  refine ⟨trivial, (lowest_in _ _ _).mono ?_⟩
  rintro e w' ⟨rfl, rfl⟩
  gi_wp2
  have bO := Boxed.new w 24 (.slice none 0 0)
  have bN := Boxed.new (w.alloc (.cells #[.slice none 0 0] 24)) 22 (.int .u64 m)
  rw [World.size_alloc] at bN
  have hB0 : Below w.heap.size w ((w.alloc (.cells #[.slice none 0 0] 24)).alloc (.cells #[.int .u64 m] 22)) := ((Below.refl _ w).alloc (Nat.le_refl _) _).alloc (by simp) _
  have bO' := bO.alloc (.cells #[.int .u64 m] 22)
  have hzl : ((w.alloc (.cells #[.slice none 0 0] 24)).alloc (.cells #[.int .u64 m] 22)).heap.size = w.heap.size + 1 + 1 := by simp
  generalize (w.alloc (.cells #[.slice none 0 0] 24)).alloc (.cells #[.int .u64 m] 22) = wl at bO' bN hB0 hzl ⊢
  refine wpIn_range_w rfl (by omega) (gf := 31) (lb := #[.pointer (some ⟨w.heap.size + 1, 0, none⟩)]) rfl trivial (enters_of Try.func31 (by kernel_rfl) rfl)
    (lowest_seq 2 (by omega) (w.heap.size + 1) m (by omega) wl bN) (by omega) (fun _ => rfl)
    (fun (pre : List Int) W => (∃ v, Boxed W w.heap.size 24 v ∧ W.ownsRow w.heap.size 5 1 v pre.length (encs (Value.int .u8) pre) ∧ True) ∧ (∃ u, Boxed W (w.heap.size + 1) 22 u) ∧ Below w.heap.size w W)
    (OwnFrom.and (Own.from (holdsRow_own w.heap.size w.heap.size 24 5 1 (fun (pre : List Int) => pre.length) (fun pre => encs (Value.int .u8) pre) (fun _ _ => True)) _) (OwnFrom.and (box_own _ _ _) (ownFrom_below (Nat.le_refl _) (by omega))))
    (fun s A v hs => by
      obtain ⟨⟨u, hu, hr, _⟩, ⟨x, hx⟩, hB⟩ := hs
      exact ⟨⟨u, hu.other (by omega) v, hr.kept (grownBy_setCell' A _ v) (.inr (hx.not_row (by decide) hr).symm), trivial⟩, ⟨v, hx.set v⟩, hB.setCell (p := ⟨w.heap.size + 1, 0, none⟩) (by simp) v⟩)
    ⟨⟨_, bO', World.ownsRow_nil _ _ _ _, trivial⟩, ⟨_, bN⟩, hB0⟩
    ?a1 ?assign ?body ?done
  case assign =>
    intro l x W K hK
    gi_wp2
    exact hK
  case body =>
    rintro l pre x W ⟨⟨v, hv, hrow, _⟩, ⟨u, hu⟩, hB⟩ hlt
    have hc := hv.cell
    have hbs := hB.size
    gi_wp2_with (gi_at_builtin; refine wpListIn_append_own _ rfl _ _ 24 rfl w.heap.size 5 i0 (.int .u8 0) 1 1 Try.underlying24 hi hz0 hz1 hz2 rfl (by decide) _ _ _ rfl (hrow.alloc _) ⟨W.heap.size, 0, none⟩ 1 1 [.int .u8 x] rfl rfl (cell_one_new _ _ _) (by simp [Value.oneCell']) (by unfold maxLen; omega) (by omega) (by simp; omega) ?_; intro v' w1 hown' hgrow _; obtain ⟨g', cap', rfl⟩ := ownsRow_succ hown'; obtain ⟨hv1, hv2, hr2, hk2, hb2⟩ := hv.appended (by decide) hrow hB.size (Nat.le_refl _) hown' hgrow; have hc1 := hv1.cell; have hf1 := hv1.frozen)
    have hu1 : Boxed w1 (w.heap.size + 1) 22 u := (hu.alloc _).kept hgrow (hu.not_row (by decide) hrow)
    have hu2 := hu1.other (B' := w.heap.size) (by omega) (.slice (some ⟨g', 0, none⟩) (pre.length + 1) cap')
    exact ⟨hk2.from _, hu2.trans hu.symm, ⟨_, hv2, by rw [List.length_append]; simpa [encs] using hr2, trivial⟩, ⟨u, hu2⟩, hB.trans hb2⟩
  case done =>
    rintro D ys W hD rfl ⟨⟨v, hv, hrow, _⟩, _, hB⟩ hK
    obtain ⟨j, hj⟩ : ∃ j, (dl m).length = j + 1 := ⟨(dl m).length - 1, by have := dl_pos m; omega⟩
    obtain ⟨g, cap, rfl⟩ : ∃ g cap, v = .slice (some ⟨g, 0, none⟩) (dl m).length cap := by have h2 := hrow; rw [hj] at h2; have h3 := ownsRow_succ h2; rw [hj]; exact h3
    have hc := hv.cell
    have hD2 := Aside0.mk hK
    clear hK hj
    gi_wp2_with (gi_at_builtin; refine wpListIn_append_own _ rfl _ _ 24 rfl w.heap.size 5 i0 (.int .u8 0) 1 1 Try.underlying24 hi hz0 hz1 hz2 rfl (by decide) _ _ _ rfl (hrow.alloc _) ⟨W.heap.size, 0, none⟩ 1 1 [.int .u8 45] rfl rfl (cell_one_new _ _ _) (by simp [Value.oneCell']) (by unfold maxLen; omega) (by omega) (by have := hB.size; simp; omega) ?_; intro v' w1 hown' hgrow _; obtain ⟨g', cap', rfl⟩ := ownsRow_succ hown'; obtain ⟨hv1, hv2, hr2, hk2, hb2⟩ := hv.appended (by decide) hrow hB.size (Nat.le_refl _) hown' hgrow; have hc1 := hv1.cell; have hf1 := hv1.frozen)
    have hrR : Kd.R (Kd.int .u8) 5 (w1.setCell ⟨w.heap.size, 0, none⟩ (.slice (some ⟨g', 0, none⟩) ((dl m).length + 1) cap')) w.heap.size (fun _ => True) (.slice (some ⟨g', 0, none⟩) ((dl m).length + 1) cap') (dl m ++ [45]) := Kd.R_of_own (by rw [List.length_append]; simpa [encs] using hr2) (fun _ _ => trivial)
    have hrc := rev_calls w.heap.size g' cap' ((dl m).length + 1) (fun _ => True) (dl m ++ [45]) _ (by simp) (by omega) hrR
    have hrc2 := (callsIn_wide (n := 2)).2 hrc
    clear hrc
    refine ⟨trivial, hrc2.mono ?_⟩
    clear hrc2
    rintro e W3 ⟨rfl, hr3, hg3⟩
    have hgne : some w.heap.size ≠ some g' := hv2.not_row (by decide) hr2
    have hv3 : Boxed W3 w.heap.size 24 _ := hv2.kept hg3 hgne
    have hc3 := hv3.cell
    have hK2 := hk2.same D _ hD2.out rfl
    have hK3 : W3.heap[D]? = some (.deferred (some [])) := (hg3.block D (Array.getElem?_eq_some_iff.1 hK2).1 (fun e => by
      obtain ⟨cells, hcl⟩ := own_typed hr2 D e.symm
      rw [hK2] at hcl; cases hcl)).trans hK2
    have hB3 : Below w.heap.size w W3 := (hB.trans hb2).grown hg3 (hB.trans hb2).size (fun j e => by cases e; exact own_base hr2 g' rfl)
    have hcv := own_string (P := Try.prog) Try.underlying24 Try.underlying5 Try.underlying9 (Kd.own_of_R hr3)
    clear hc hv hrow hc1 hf1
    gi_wp2
    refine ⟨by simp, .inl ⟨_, _, rfl, run_takeDeferred hK3, ?_⟩⟩
    exact ⟨_, results_tmp rfl _ _ _, rfl, hB3.trans (belowK_b (w := w) (Nat.le_refl _) W3 D _ _ (by omega) hK3 rfl rfl)⟩

theorem dl_len (n : Nat) : ∀ k, n < 10 ^ (k + 1) → (dl n).length ≤ k + 1 := by
  intro k
  induction k generalizing n with
  | zero => intro h; rw [dl_small n (by omega)]; simp
  | succ k ih =>
    intro h
    by_cases h1 : n < 10
    · rw [dl_small n h1]; simp
    · rw [dl_big n (by omega)]
      have := ih (n / 10) (by rw [Nat.pow_succ] at h; omega)
      simp
      omega
/-- A number's decimal digits. -/
def digs (a : Int) : List Int := if a < 0 then 45 :: (dl a.natAbs).reverse else (dl a.natAbs).reverse
def decimalF (a : Int) : Option ByteArray := if -9223372036854775808 ≤ a ∧ a ≤ 9223372036854775807 then some (strOfNums (digs a)) else none
theorem decimal_calls (a : Int) (r : ByteArray) (w : World) (h : decimalF a = some r) :
    Calls Try.prog 19 #[.int .i64 a] w fun e w' => e = .returned (.string r) ∧ Below w.heap.size w w' := by
  unfold decimalF at h
  by_cases hb : -9223372036854775808 ≤ a ∧ a ≤ 9223372036854775807
  · rw [if_pos hb] at h
    obtain rfl := Option.some.inj h
    have hl : (dl a.natAbs).length ≤ 20 := dl_len a.natAbs 19 (by omega)
    unfold digs
    by_cases hn : a < 0
    · rw [if_pos hn]
      exact dec_neg a a.natAbs (by omega) (by omega) (by omega) (by omega) w
    · rw [if_neg hn]
      exact dec_pos a a.natAbs (by omega) (by omega) (by omega) w
  · rw [if_neg hb] at h
    exact absurd h (by simp)
end Go.Proofs.Ytpadboidkpembaa.Hand
