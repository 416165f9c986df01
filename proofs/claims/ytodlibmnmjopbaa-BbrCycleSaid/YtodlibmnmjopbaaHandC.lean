/- The contracts of slices.Clone and slices.IndexFunc over pairs, and of the closure in bbr's put: what they compute, by hand. -/
import Derived.Test.YtodlibmnmjopbaaPAx0
import Derived.Test.YtodlibmnmjopbaaUtil
import Derived.RangeFuncBox
import Derived.Lib.SliceRun
namespace Go.Proofs.Ytodlibmnmjopbaa.Hand
open Go.RowKit Go.Proofs.YtodlibmnmjopbaaW.PrintWords Go.Proofs.YtodlibmnmjopbaaW.PrintLast Go.Proofs.YtodlibmnmjopbaaW.PrintMore Go.Proofs.Ytodlibmnmjopbaa.PA
set_option linter.unusedVariables false
set_option linter.unusedSimpArgs false
attribute [local go_sem] Oper.semAt_some

theorem R_empty36 (w : World) : Kd.R k36 36 (w.alloc (.cells #[] 36)) w.heap.size (fun _ => True) (.slice (some ⟨w.heap.size, 0, none⟩) 0 0) [] :=
  ⟨fun _ _ => trivial, [], ⟨by simp, .inr ⟨w.heap.size, 0, #[], rfl, Nat.le_refl _, blk_new w _, Nat.le_refl _, by unfold maxLen; omega, by simp, by simp⟩⟩, ⟨by simp, fun j p h => by simp at h⟩⟩
set_option maxHeartbeats 4000000 in
set_option maxRecDepth 100000 in
theorem clone_calls (A : Option Addr) (c : Nat) (l : List S36) (w : World) (hr : Kd.C k36 w A l.length l) (hc : l.length ≤ c) (hs : l.length ≤ 1000000) :
    Calls Try.prog 27 #[.slice A l.length c] w fun e w' => ∃ v, e = .returned v ∧ Kd.R k36 36 w' w.heap.size (fun _ => True) v l ∧ Below w.heap.size w w' := by
  cases A with
  | none =>
    have hl : l.length = 0 := by
      rcases Nat.eq_zero_or_pos l.length with h | h
      · exact h
      · obtain ⟨ad, hA, _⟩ := hr.2.2 h
        cases hA
    obtain rfl := List.eq_nil_of_length_eq_zero hl
    clear hr hc hs hl
    have heq := fun (w : World) => Lib.run_eql_slice_nil (P := Try.prog) w 23 36 none 0 c 0 0 Try.underlying23
    go_enter Try.func27, Try.ntmps27
    go_wp2
    go_ret
    exact ⟨_, rfl, Kd.R_nil _ _ _ _ _, Below.refl _ _⟩
  | some ad =>
    have HR := Aside0.mk hr
    have HC := Aside0.mk hc
    clear hr hc
    obtain ⟨n, hn⟩ : ∃ n, l.length = n := ⟨_, rfl⟩
    rw [hn]
    have HN := Aside0.mk hn
    clear hn
    have hread : ReadsRow (fun x cs => k36.M (w.alloc (.cells #[] 36)) w.heap.size (fun _ => False) x cs) k36.sz (w.alloc (.cells #[] 36)) (some ad) n l :=
      ReadsRow.imp_ (by have h := HR.out; rw [HN.out] at h; exact h) (below_alloc (Below.refl w.heap.size w) (.cells #[] 36)) (fun _ _ hp => by obtain rfl := k36_open hp; exact k36_mkM _ _ _ _)
    have heq := fun (w : World) => Lib.run_eql_slice_nil (P := Try.prog) w 23 36 (some ad) n c 0 0 Try.underlying23
    go_enter Try.func27, Try.ntmps27
    go_wp2_with (at_builtin; go_loud (refine Kd.R_append_rows k36 (w0 := w) w.heap.size rfl _ _ 23 36 (.agg #[(.int .i64 0), (.int .i64 0)]) 16 rfl Try.underlying23 info36 rfl (by decide) (by decide) _ [] l _ n c (fun _ => True) (fun _ => False) rfl rfl (R_empty36 w) hread (fun _ _ h => h) (fun _ h => h.elim) (fun _ _ => trivial) (below_alloc (Below.refl _ _) _) (by simp) (by simp; have := HN.out; omega) ?_); intro v' w1 ho hb _ _)
    go_ret
    exact ⟨_, rfl, ho, hb⟩
/-- Is a pair struck by another? -/
def del (pr pt : Int) (q : S36) : Bool := decide (q.f1 ≤ pt) || decide (10 ≤ wrap64 (pr - q.f0))
theorem blk2 {w : World} {b : Nat} {x0 x1 : Value} {t : TypeId} (h : w.heap[b]? = some (.cells #[x0, x1] t)) : w.cell? ⟨b, 0, none⟩ = some x0 ∧ w.cell? ⟨b, 1, none⟩ = some x1 := by
  simp [World.cell?, h]
set_option maxHeartbeats 4000000 in
set_option maxRecDepth 100000 in
theorem closure_calls (b : Nat) (pr pt : Int) (q : S36) (w : World) (hb : w.heap[b]? = some (.cells #[.int .i64 pr, .int .i64 pt] 36)) :
    Calls Try.prog 40 #[.agg #[.int .i64 q.f0, .int .i64 q.f1], .pointer (some ⟨b, 0, none⟩)] w fun e w' => e = .returned (.bool (del pr pt q)) ∧ Below w.heap.size w w' := by
  obtain ⟨c0, c1⟩ := blk2 hb
  have hlt : b < w.heap.size := blk_lt hb
  have d0 := (below_alloc (Below.refl w.heap.size w) (.cells #[.int .i64 q.f0, .int .i64 q.f1] 36)).cell (p := ⟨b, 0, none⟩) hlt
  have d1 := (below_alloc (Below.refl w.heap.size w) (.cells #[.int .i64 q.f0, .int .i64 q.f1] 36)).cell (p := ⟨b, 1, none⟩) hlt
  rw [c0] at d0
  rw [c1] at d1
  obtain ⟨x0, x1⟩ := q
  by_cases h : x1 ≤ pt
  · have hd : del pr pt ⟨x0, x1⟩ = true := by simp [del, h]
    rw [hd]
    clear hd hb
    go_enter Try.func40, Try.ntmps40
    go_wp2
    go_ret
    exact ⟨rfl, below_alloc (Below.refl _ _) _⟩
  · have hd : del pr pt ⟨x0, x1⟩ = decide (10 ≤ wrap64 (pr - x0)) := by simp [del, h]
    rw [hd]
    clear hd hb
    go_enter Try.func40, Try.ntmps40
    go_wp2
    go_ret
    exact ⟨by simp [i64_w], below_alloc (Below.refl _ _) _⟩
/-- A row of pairs, cell by cell. -/
def Pairs (w : World) (g : Nat) (l : List S36) : Prop := ∀ (j : Nat) (h : j < l.length), w.cell? ⟨g, j * 2, none⟩ = some (.int .i64 l[j].f0) ∧ w.cell? ⟨g, j * 2 + 1, none⟩ = some (.int .i64 l[j].f1)
theorem Pairs.at {w w' : World} {g : Nat} {l : List S36} (h : Pairs w g l) (hk : w'.heap[g]? = w.heap[g]?) : Pairs w' g l := fun j hj => by
  obtain ⟨h0, h1⟩ := h j hj
  exact ⟨(World.cell?_of_block (a := ⟨g, j * 2, none⟩) hk).trans h0, (World.cell?_of_block (a := ⟨g, j * 2 + 1, none⟩) hk).trans h1⟩
/-- The first struck one's number. -/
def first (pr pt : Int) (l : List S36) : Int := match l.findIdx? (del pr pt) with
  | some i => (i : Int)
  | none => -1
theorem first_at (pr pt : Int) (l : List S36) (k : Nat) (hk : k < l.length) (h : ∀ j (hj : j < l.length), j < k → del pr pt l[j] = false) (hd : del pr pt l[k] = true) : first pr pt l = (k : Int) := by
  have : l.findIdx? (del pr pt) = some k := List.findIdx?_eq_some_iff_getElem.2 ⟨hk, hd, fun j hj => by simpa using h j (by omega) hj⟩
  unfold first; rw [this]
theorem first_none (pr pt : Int) (l : List S36) (h : ∀ j (hj : j < l.length), del pr pt l[j] = false) : first pr pt l = -1 := by
  have : l.findIdx? (del pr pt) = none := List.findIdx?_eq_none_iff.2 (fun x hx => by obtain ⟨j, hj, rfl⟩ := List.getElem_of_mem hx; simpa using h j hj)
  unfold first; rw [this]
set_option maxHeartbeats 4000000 in
set_option maxRecDepth 100000 in
theorem index_calls (g b : Nat) (pr pt : Int) (l : List S36) (n c : Nat) (A : Option Addr) (hn : l.length = n) (hA : 0 < n → A = some ⟨g, 0, none⟩) (hs : n ≤ 1000000) (hc : n ≤ c) (w : World) (hp : Pairs w g l) (hg : 0 < n → g < w.heap.size) (hb : w.heap[b]? = some (.cells #[.int .i64 pr, .int .i64 pt] 36)) :
    Calls Try.prog 42 #[.slice A n c, .func (.func 40) #[] #[.pointer (some ⟨b, 0, none⟩)]] w fun e w' => e = .returned (.int .i64 (first pr pt l)) ∧ Below w.heap.size w w' := by
  have HP := Aside0.mk hp
  have HG := Aside0.mk hg
  have HB0 := Aside0.mk hb
  have HN := Aside0.mk hn
  have HA := Aside0.mk hA
  have hlt := Aside0.mk (blk_lt hb)
  obtain ⟨F, hF⟩ : ∃ F, first pr pt l = F := ⟨_, rfl⟩
  rw [hF]
  have HF := Aside0.mk hF
  clear hp hg hb hn hA hF
  go_enter Try.func42, Try.ntmps42
  go_wp2
  go_loopw [8] (fun i wr => ∃ k : Nat, k ≤ n ∧ i = .int .i64 (k : Nat) ∧ (∀ j (h : j < l.length), j < k → del pr pt l[j] = false) ∧ Below w.heap.size w wr) (fun i _ => n - (intOf i).toNat)
  case atStart => exact ⟨0, Nat.zero_le _, rfl, fun j _ h => absurd h (by omega), Below.refl _ _⟩
  case round =>
    obtain ⟨k, hk, rfl, hall, hB⟩ := hrel
    have HB := Aside0.mk (And.intro hall hB)
    clear hall hB
    by_cases hlt2 : k < n
    · obtain rfl := HA.out (by omega)
      have hkl : k < l.length := by have := HN.out; omega
      obtain ⟨c0, c1⟩ := (HP.out.at (HB.out.2.block g (HG.out (by omega)))) k hkl
      obtain ⟨q, hq⟩ : ∃ q, l[k] = q := ⟨_, rfl⟩
      rw [hq] at c0 c1
      have HQ := Aside0.mk hq
      clear hq
      obtain ⟨D, hD⟩ : ∃ D, del pr pt q = D := ⟨_, rfl⟩
      have HD := Aside0.mk hD
      clear hD
      cases D with
      | true =>
        go_wp2_with (go_at_call 40; refine (closure_calls b pr pt q wr ((HB.out.2.block b hlt.out).trans HB0.out)).mono ?_; rintro e w1 ⟨rfl, hb1⟩; rw [HD.out])
        go_ret
        exact ⟨by rw [← HF.out, first_at pr pt l k hkl HB.out.1 (by rw [HQ.out]; exact HD.out)]; rfl, HB.out.2.trans (hb1.mono (below_size HB.out.2))⟩
      | false =>
        go_wp2_with (go_at_call 40; refine (closure_calls b pr pt q wr ((HB.out.2.block b hlt.out).trans HB0.out)).mono ?_; rintro e w1 ⟨rfl, hb1⟩; rw [HD.out])
        go_roundw
        case rel =>
          refine ⟨k + 1, by omega, by go_num, fun j hj hjk => ?_, HB.out.2.trans (hb1.mono (below_size HB.out.2))⟩
          rcases (by omega : j < k ∨ j = k) with h | rfl
          · exact HB.out.1 j hj h
          · rw [HQ.out]; exact HD.out
        case measure => simp [intOf]; omega
    · obtain rfl : k = n := by omega
      go_wp2
      go_ret
      exact ⟨by rw [← HF.out, first_none pr pt l (fun j hj => HB.out.1 j hj (by have := HN.out; omega))]; rfl, HB.out.2⟩
end Go.Proofs.Ytodlibmnmjopbaa.Hand
