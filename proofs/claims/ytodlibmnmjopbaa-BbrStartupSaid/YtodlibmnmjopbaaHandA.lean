/- The contract of bbr.Ack where it is answered: what it computes, by hand. -/
import Derived.Test.YtodlibmnmjopbaaHandP
import Derived.Test.YtodlibmnmjopbaaPAx5
namespace Go.Proofs.Ytodlibmnmjopbaa.Hand
open Go.RowKit Go.Proofs.YtodlibmnmjopbaaW.PrintWords Go.Proofs.YtodlibmnmjopbaaW.PrintLast Go.Proofs.YtodlibmnmjopbaaW.PrintMore Go.Proofs.Ytodlibmnmjopbaa.PA
set_option linter.unusedVariables false
set_option linter.unusedSimpArgs false
attribute [local go_sem] Oper.semAt_some max2_int max_two min2_int min_two

/-- A state's cells; v is its list. -/
abbrev cs12 (v : Value) (ph : Int) (hr : Bool) (rt ra : Int) (fu : Bool) (fr fn cy ca un rd : Int) : Array Value := #[.int .i64 ph, v, .bool hr, .int .i64 rt, .int .i64 ra, .bool fu, .int .i64 fr, .int .i64 fn, .int .i64 cy, .int .i64 ca, .int .i64 un, .int .i64 rd]
/-- The greatest rate. -/
def gr (l : List S36) : Int := if l.length = 0 then 0 else (rd_T36 l 0).f1
theorem gr_eq (l : List S36) (a0 : Int) (a2 : Bool) (a3 a4 : Int) (a5 : Bool) (a6 a7 a8 a9 a10 a11 : Int) : bbr_State_greatest.f a0 l a2 a3 a4 a5 a6 a7 a8 a9 a10 a11 = some (gr l) := by
  unfold bbr_State_greatest.f gr
  by_cases h : l.length = 0
  · rw [if_pos (by omega), if_pos h]
  · rw [if_neg (by omega), if_neg h, if_pos (by omega)]

theorem gb_set {w w1 : World} {g : Nat} (h : w.grownBy w1 (some g)) (i : Nat) (x : Value) : w.grownBy (w1.setCell ⟨g, i, none⟩ x) (some g) := by
  have hb := (Below.refl g w1).setCell (p := ⟨g, i, none⟩) (Nat.le_refl _) x
  exact ⟨hb.os.trans h.os, hb.tape.trans h.tape, hb.output.trans h.output, Nat.le_trans h.size hb.size, fun k hk hne => (Below.heap_setCell w1 ⟨g, i, none⟩ x k (fun e => hne (by rw [e]))).trans (h.block k hk hne)⟩
theorem gb_refl (w : World) (g : Nat) : w.grownBy w (some g) := below_grown (Below.refl _ w)
set_option maxHeartbeats 2000000 in
set_option maxRecDepth 100000 in
theorem round_up (g : Nat) (A : Option Addr) (c : Nat) (l : List S36) (ph : Int) (hr : Bool) (rt ra : Int) (fu : Bool) (fr fn cy ca un rd : Int) (w : World) (hb : w.heap[g]? = some (.cells (cs12 (.slice A l.length c) ph hr rt ra fu fr fn cy ca un rd) 40 (0, 0)))
    (hC : Kd.C k36 w A l.length l) (hc : l.length ≤ c) (b0 : 0 ≤ gr l) (b1 : gr l ≤ 1073741824) (b2 : 0 ≤ fr) (b3 : fr ≤ 1099511627776) (h : 5 * fr ≤ 4 * gr l) :
    Calls Try.prog 28 #[.pointer (some ⟨g, 0, none⟩)] w fun e w' => e = .returned (.tuple #[]) ∧ w.grownBy w' (some g) ∧ w'.heap[g]? = some (.cells (cs12 (.slice A l.length c) ph hr rt ra fu (gr l) 0 cy ca un rd) 40 (0, 0)) := by
  have HG := Aside0.mk hb
  have HC := Aside0.mk hC
  have h0 := (blk_cell hb 0).trans rfl
  have h1 := (blk_cell hb 1).trans rfl
  have h2 := (blk_cell hb 2).trans rfl
  have h3 := (blk_cell hb 3).trans rfl
  have h4 := (blk_cell hb 4).trans rfl
  have h5 := (blk_cell hb 5).trans rfl
  have h6 := (blk_cell hb 6).trans rfl
  have h7 := (blk_cell hb 7).trans rfl
  have h8 := (blk_cell hb 8).trans rfl
  have h9 := (blk_cell hb 9).trans rfl
  have h10 := (blk_cell hb 10).trans rfl
  have h11 := (blk_cell hb 11).trans rfl
  clear hb hC
  go_enter Try.func28, Try.ntmps28
  go_wp2_with (go_at_call 37; refine (bbr_State_greatest.calls ph A c l hr rt ra fu fr fn cy ca un rd (gr l) w HC.out hc (gr_eq l _ _ _ _ _ _ _ _ _ _ _)).mono ?_; rintro e w1 ⟨rfl, hb1⟩; have HG1 := Aside0.mk (blk_below HG.out hb1); have k5 := (blk_cell HG1.out 5).trans rfl; have k6 := (blk_cell HG1.out 6).trans rfl; have k7 := (blk_cell HG1.out 7).trans rfl; have f5 := blk_frozen HG1.out 5; have f6 := blk_frozen HG1.out 6; have f7 := blk_frozen HG1.out 7)
  refine bodyPost_ret (results_none rfl _ _ _) rfl ?_
  exact ⟨rfl, gb_set (gb_set (below_grown hb1) _ _) _ _, blk_put (blk_put HG1.out _ _ rfl) _ _ rfl⟩
set_option maxHeartbeats 2000000 in
set_option maxRecDepth 100000 in
theorem round_flat (g : Nat) (A : Option Addr) (c : Nat) (l : List S36) (ph : Int) (hr : Bool) (rt ra : Int) (fu : Bool) (fr fn cy ca un rd : Int) (w : World) (hb : w.heap[g]? = some (.cells (cs12 (.slice A l.length c) ph hr rt ra fu fr fn cy ca un rd) 40 (0, 0)))
    (hC : Kd.C k36 w A l.length l) (hc : l.length ≤ c) (b0 : 0 ≤ gr l) (b1 : gr l ≤ 1073741824) (b2 : 0 ≤ fr) (b3 : fr ≤ 1099511627776) (b4 : 0 ≤ fn) (b5 : fn ≤ 1099511627776) (h : 4 * gr l < 5 * fr) (m : Int) (hm : (if fn + 1 < 1099511627776 then fn + 1 else 1099511627776) = m) :
    Calls Try.prog 28 #[.pointer (some ⟨g, 0, none⟩)] w fun e w' => e = .returned (.tuple #[]) ∧ w.grownBy w' (some g) ∧ w'.heap[g]? = some (.cells (cs12 (.slice A l.length c) ph hr rt ra (decide (3 ≤ m)) fr m cy ca un rd) 40 (0, 0)) := by
  have HG := Aside0.mk hb
  have HC := Aside0.mk hC
  have h0 := (blk_cell hb 0).trans rfl
  have h1 := (blk_cell hb 1).trans rfl
  have h2 := (blk_cell hb 2).trans rfl
  have h3 := (blk_cell hb 3).trans rfl
  have h4 := (blk_cell hb 4).trans rfl
  have h5 := (blk_cell hb 5).trans rfl
  have h6 := (blk_cell hb 6).trans rfl
  have h7 := (blk_cell hb 7).trans rfl
  have h8 := (blk_cell hb 8).trans rfl
  have h9 := (blk_cell hb 9).trans rfl
  have h10 := (blk_cell hb 10).trans rfl
  have h11 := (blk_cell hb 11).trans rfl
  clear hb hC
  go_enter Try.func28, Try.ntmps28
  go_wp2_with (go_at_call 37; refine (bbr_State_greatest.calls ph A c l hr rt ra fu fr fn cy ca un rd (gr l) w HC.out hc (gr_eq l _ _ _ _ _ _ _ _ _ _ _)).mono ?_; rintro e w1 ⟨rfl, hb1⟩; have HG1 := Aside0.mk (blk_below HG.out hb1); have k5 := (blk_cell HG1.out 5).trans rfl; have k6 := (blk_cell HG1.out 6).trans rfl; have k7 := (blk_cell HG1.out 7).trans rfl; have f5 := blk_frozen HG1.out 5; have f6 := blk_frozen HG1.out 6; have f7 := blk_frozen HG1.out 7)
  all_goals
    go_end0
    first
      | (obtain rfl : m = fn + 1 := by rw [← hm]; split <;> omega
         exact ⟨rfl, gb_set (gb_set (below_grown hb1) _ _) _ _, blk_put (blk_put HG1.out _ _ rfl) _ _ rfl⟩)
      | (obtain rfl : m = 1099511627776 := by rw [← hm]; split <;> omega
         exact ⟨rfl, gb_set (gb_set (below_grown hb1) _ _) _ _, blk_put (blk_put HG1.out _ _ rfl) _ _ rfl⟩)
set_option maxHeartbeats 2000000 in
set_option maxRecDepth 100000 in
theorem probe_box (g : Nat) (v : Value) (ph : Int) (hr : Bool) (rt ra : Int) (fu : Bool) (fr fn cy ca un rd : Int) (w : World) (hb : w.heap[g]? = some (.cells (cs12 v ph hr rt ra fu fr fn cy ca un rd) 40 (0, 0))) (now : Int) :
    Calls Try.prog 31 #[.pointer (some ⟨g, 0, none⟩), .int .i64 now] w fun e w' => e = .returned (.tuple #[]) ∧ w.grownBy w' (some g) ∧ w'.heap[g]? = some (.cells (cs12 v 2 hr rt ra fu fr fn 0 now un rd) 40 (0, 0)) := by
  have HG := Aside0.mk hb
  have h0 := (blk_cell hb 0).trans rfl
  have h1 := (blk_cell hb 1).trans rfl
  have h2 := (blk_cell hb 2).trans rfl
  have h3 := (blk_cell hb 3).trans rfl
  have h4 := (blk_cell hb 4).trans rfl
  have h5 := (blk_cell hb 5).trans rfl
  have h6 := (blk_cell hb 6).trans rfl
  have h7 := (blk_cell hb 7).trans rfl
  have h8 := (blk_cell hb 8).trans rfl
  have h9 := (blk_cell hb 9).trans rfl
  have h10 := (blk_cell hb 10).trans rfl
  have h11 := (blk_cell hb 11).trans rfl
  have f0 := blk_frozen hb 0
  have f2 := blk_frozen hb 2
  have f3 := blk_frozen hb 3
  have f4 := blk_frozen hb 4
  have f8 := blk_frozen hb 8
  have f9 := blk_frozen hb 9
  clear hb
  go_enter Try.func31, Try.ntmps31
  go_wp2
  go_end0
  exact ⟨rfl, gb_set (gb_set (gb_set (gb_refl w g) _ _) _ _) _ _, blk_put (blk_put (blk_put HG.out _ _ rfl) _ _ rfl) _ _ rfl⟩
/-- Was the old time stale? -/
def stale (hr : Bool) (ra now : Int) : Bool := hr && decide (ra + 10240 ≤ now)
def fresher (hr : Bool) (rt ra now rtt : Int) : Bool := !hr || (decide (ra + 10240 ≤ now) || decide (rtt ≤ rt))
set_option maxHeartbeats 2000000 in
set_option maxRecDepth 100000 in
theorem time_box (g : Nat) (v : Value) (ph : Int) (hr : Bool) (rt ra : Int) (fu : Bool) (fr fn cy ca un rd : Int) (w : World) (hb : w.heap[g]? = some (.cells (cs12 v ph hr rt ra fu fr fn cy ca un rd) 40 (0, 0))) (now rtt : Int) (b0 : 0 ≤ ra) (b1 : ra ≤ 1099511627776) (cs : Array Value) (hcs : (if fresher hr rt ra now rtt = true then cs12 v ph true rtt now fu fr fn cy ca un rd else cs12 v ph hr rt ra fu fr fn cy ca un rd) = cs) :
    Calls Try.prog 29 #[.pointer (some ⟨g, 0, none⟩), .int .i64 now, .int .i64 rtt] w fun e w' => e = .returned (.bool (stale hr ra now)) ∧ w.grownBy w' (some g) ∧
      w'.heap[g]? = some (.cells cs 40 (0, 0)) := by
  have HG := Aside0.mk hb
  have h0 := (blk_cell hb 0).trans rfl
  have h1 := (blk_cell hb 1).trans rfl
  have h2 := (blk_cell hb 2).trans rfl
  have h3 := (blk_cell hb 3).trans rfl
  have h4 := (blk_cell hb 4).trans rfl
  have h5 := (blk_cell hb 5).trans rfl
  have h6 := (blk_cell hb 6).trans rfl
  have h7 := (blk_cell hb 7).trans rfl
  have h8 := (blk_cell hb 8).trans rfl
  have h9 := (blk_cell hb 9).trans rfl
  have h10 := (blk_cell hb 10).trans rfl
  have h11 := (blk_cell hb 11).trans rfl
  have f0 := blk_frozen hb 0
  have f2 := blk_frozen hb 2
  have f3 := blk_frozen hb 3
  have f4 := blk_frozen hb 4
  have f8 := blk_frozen hb 8
  have f9 := blk_frozen hb 9
  clear hb
  go_enter Try.func29, Try.ntmps29
  have hst : ∀ x, stale hr ra now = x → x = stale hr ra now := fun _ h => h.symm
  cases hr
  · rw [if_pos (by simp [fresher])] at hcs
    subst hcs
    clear hst
    go_wp2
    go_ret
    exact ⟨by simp [stale], gb_set (gb_set (gb_set (gb_refl w g) _ _) _ _) _ _, blk_put (blk_put (blk_put HG.out _ _ rfl) _ _ rfl) _ _ rfl⟩
  · by_cases c1 : ra + 10240 ≤ now
    · rw [if_pos (by simp [fresher, c1])] at hcs
      subst hcs
      clear hst
      go_wp2
      go_ret
      exact ⟨by simp [stale, c1], gb_set (gb_set (gb_set (gb_refl w g) _ _) _ _) _ _, blk_put (blk_put (blk_put HG.out _ _ rfl) _ _ rfl) _ _ rfl⟩
    · by_cases c2 : rtt ≤ rt
      · rw [if_pos (by simp [fresher, c2])] at hcs
        subst hcs
        clear hst
        go_wp2
        go_ret
        exact ⟨by simp [stale, c1], gb_set (gb_set (gb_set (gb_refl w g) _ _) _ _) _ _, blk_put (blk_put (blk_put HG.out _ _ rfl) _ _ rfl) _ _ rfl⟩
      · rw [if_neg (by simp [fresher, c1, c2])] at hcs
        subst hcs
        clear hst
        go_wp2
        go_ret
        exact ⟨by simp [stale, c1], gb_refl w g, HG.out⟩
end Go.Proofs.Ytodlibmnmjopbaa.Hand
