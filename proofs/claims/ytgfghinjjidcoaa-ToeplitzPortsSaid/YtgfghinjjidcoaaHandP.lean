/- The contract of toeplitz.Port: what it computes, by hand (a range over a function of its own). -/
import Derived.Test.YtgfghinjjidcoaaHandU
import Derived.Test.YtgfghinjjidcoaaHandM
import Derived.Test.YtgfghinjjidcoaaPlainH
import Derived.Test.YtgfghinjjidcoaaPAx11
namespace Go.Proofs.Ytgfghinjjidcoaa.Hand
open Go.RowKit Go.Shelf Go.Proofs.YtgfghinjjidcoaaW.PrintWords Go.Proofs.YtgfghinjjidcoaaW.PrintLast Go.Proofs.YtgfghinjjidcoaaW.PrintMore Go.Proofs.Ytgfghinjjidcoaa.Lift Go.Proofs.Ytgfghinjjidcoaa.PA Go.Proofs.Ytgfghinjjidcoaa.Pure
set_option linter.unusedVariables false
set_option linter.unusedSimpArgs false
attribute [local go_sem] Oper.semAt_some

/-- The port that comes up at a turn. -/
def pAt (fr : Int) (i : Int) : Int := bits .or .u16 (IntKind.u16.wrap (fr + i)) 32768
def keep1 (B : Nat) (X Y : World) : Prop := Y.heap[B]? = X.heap[B]?

set_option maxRecDepth 100000 in
set_option maxHeartbeats 2000000 in
theorem ports1_in (m : Nat) (HM : Aside0 (m = 32768)) (n : Nat) (hn : 1 ≤ n) (l B : Nat) (fr : Int) (J Jx : List (Up m) → World → Prop)
    (hY : ∀ pre x W, J pre W → pre.length < m → YieldAt Fence.wide (n - 1) Try.prog l #[.int .u16 (pAt fr (x.1 : Nat))] W fun e W' =>
      (e = .returned (.bool true) ∧ J (pre ++ [x]) W' ∧ keep1 B W W') ∨ (e = .returned (.bool false) ∧ Jx (pre ++ [x]) W'))
    (W : World) (hB : W.cell? ⟨B, 0, none⟩ = some (.int .u16 fr)) (h0 : J [] W) :
    CallsIn Fence.wide n Try.prog 35 #[.func (.yield l) #[] #[], .pointer (some ⟨B, 0, none⟩)] W fun e W' => (∃ v, e = .returned v) ∧
      ((∃ ys, ys.map Subtype.val = List.range m ∧ J ys W') ∨ (∃ pre, (∃ k, k ≤ m ∧ pre.map Subtype.val = List.range k) ∧ Jx pre W')) := by
  refine callsIn_of_wp Try.func35 rfl trivial ?_ rfl
  simp only [Try.ntmps35, List.size_toArray, List.length_cons, List.length_nil, Nat.reduceAdd, Nat.reduceSub, Array.replicate_succ, Array.replicate_zero, List.push_toArray, List.append_toArray, List.nil_append, List.cons_append]
  gi_wp2
  gi_loopw [4] (fun i wr => ∃ k : Nat, k ≤ m ∧ i = .int .u16 k ∧ (∃ pre, pre.map Subtype.val = List.range k ∧ J pre wr) ∧ keep1 B W wr)
    (fun i _ => m - (intOf i).toNat)
  case atStart => exact ⟨0, Nat.zero_le _, rfl, ⟨[], rfl, h0⟩, rfl⟩
  case round =>
    obtain ⟨k, hk, rfl, ⟨pre, hpre, hJs⟩, hk1⟩ := hrel
    have hc1 : wr.cell? ⟨B, 0, none⟩ = some (.int .u16 fr) := (cell_keep hk1 _ rfl).trans hB
    have H1 := Aside0.mk hk1
    have HP := Aside0.mk hpre
    have hpl : pre.length = k := by have := congrArg List.length hpre; simpa using this
    clear hk1 hpre
    by_cases hlt : k < m
    · obtain ⟨fn, tmps, assign, body, hy, hR⟩ := hY pre ⟨k, hlt⟩ wr hJs (by omega)
      dsimp only [pAt] at hy
      have hkb : (k : Int) ≤ 32767 := by have := HM.out; omega
      have hlt2 : decide ((k : Int) < 32768) = true := decide_eq_true (by omega)
      gi_wp2
      refine hR.mono ?_
      rintro e W3 (⟨rfl, hJ3, hk3⟩ | ⟨rfl, hJx3⟩)
      · gi_wp2
        go_roundw
        case rel => exact ⟨k + 1, by omega, by go_num, ⟨_, by rw [List.map_append, HP.out, List.range_succ]; rfl, hJ3⟩, (show W3.heap[B]? = _ from hk3).trans H1.out⟩
        case measure => simp [intOf]; omega
      · gi_wp2
        refine bodyPost_ret (results_none rfl _ _ _) rfl ?_
        exact ⟨⟨_, rfl⟩, .inr ⟨_, ⟨k + 1, by omega, by rw [List.map_append, HP.out, List.range_succ]; rfl⟩, hJx3⟩⟩
    · obtain rfl : k = m := by omega
      have hlt2 : decide ((k : Int) < 32768) = false := decide_eq_false (by have := HM.out; omega)
      gi_wp2
      go_end0
      exact ⟨⟨_, rfl⟩, .inl ⟨_, HP.out, hJs⟩⟩
theorem ports_stops (m : Nat) (HM : Aside0 (m = 32768)) (n : Nat) (hn : 1 ≤ n) (B : Nat) (fr : Int) (w : World) (hB : B < w.heap.size) (hc : w.cell? ⟨B, 0, none⟩ = some (.int .u16 fr)) :
    SeqStopsK Fence.wide n Try.prog 35 #[.pointer (some ⟨B, 0, none⟩)] (fun x : Up m => #[Value.int .u16 (pAt fr (x.1 : Nat))]) (keep1 B) (fun ys => ys.map Subtype.val = List.range m) (fun pre => ∃ k, k ≤ m ∧ pre.map Subtype.val = List.range k) m w := fun l J Jx W hW hJ _ hY h0 =>
  ports1_in m HM n hn l B fr J Jx hY W ((hW.cell (p := ⟨B, 0, none⟩) hB).trans hc) h0
set_option maxHeartbeats 1000000 in
theorem ports_in (n : Nat) (fr : Int) (w : World) :
    CallsIn Fence.wide n Try.prog 30 #[.int .u16 fr] w fun e w' => e = .returned (.func (.func 35) #[] #[.pointer (some ⟨w.heap.size, 0, none⟩)]) ∧ w' = w.alloc (.cells #[.int .u16 fr] 31) := by
  refine callsIn_of_wp Try.func30 rfl trivial ?_ rfl
  simp only [Try.ntmps30, List.size_toArray, List.length_cons, List.length_nil, Nat.reduceAdd, Nat.reduceSub, Array.replicate_succ, Array.replicate_zero, List.push_toArray, List.append_toArray, List.nil_append, List.cons_append]
  gi_wp2
  go_ret
  exact ⟨rfl, rfl⟩

/-- The shard of the answers to a port. -/
def shP (key table : List Int) (lo re rp p : Int) : Int := rd table ((hashV key (four re ++ four lo ++ four (rp * 65536 + p))).1 % 128)
def goodP (key table : List Int) (lo re rp sh p : Int) : Bool := shP key table lo re rp p == sh


def portR (m : Nat) (key tb : List Int) (lo re rp sh fr : Int) : Int × Int := match (List.range m).find? (fun i => goodP key tb lo re rp sh (pAt fr (i : Nat))) with
  | some i => (pAt fr (i : Nat), 0)
  | none => (0, 71)
theorem find_at {m : Nat} {g : Nat → Bool} {pre : List (Up m)} {x : Up m} {k : Nat} (hk : k ≤ m) (hp : (pre ++ [x]).map Subtype.val = List.range k) (h0 : ∀ y ∈ pre, g y.1 = false) (h1 : g x.1 = true) : (List.range m).find? g = some x.1 := by
  have hl : k = pre.length + 1 := by have := congrArg List.length hp; simp at this; omega
  subst hl
  rw [List.range_succ, List.map_append] at hp
  obtain ⟨e1, e2⟩ := List.append_inj' hp rfl
  have e3 : x.1 = pre.length := by simpa using e2
  rw [e3]
  have hlt : pre.length < m := by omega
  refine List.find?_eq_some_iff_getElem.2 ⟨by rw [← e3]; exact h1, pre.length, by simpa using hlt, by simp, fun j hj => ?_⟩
  have hj2 : j ∈ pre.map Subtype.val := by rw [e1]; simpa using hj
  obtain ⟨y, hy, rfl⟩ := List.mem_map.1 hj2
  simp [h0 y hy]
theorem find_none {m : Nat} {g : Nat → Bool} {ys : List (Up m)} (hp : ys.map Subtype.val = List.range m) (h0 : ∀ y ∈ ys, g y.1 = false) : (List.range m).find? g = none := by
  rw [List.find?_eq_none]
  intro j hj
  rw [← hp] at hj
  obtain ⟨y, hy, rfl⟩ := List.mem_map.1 hj
  simp [h0 y hy]
theorem four_oct (x : Int) (h0 : 0 ≤ x) (h1 : x ≤ 4294967295) : oct (four x) := by
  intro y hy
  simp only [four, List.mem_cons, List.not_mem_nil, or_false] at hy
  omega
theorem pAt_bd (fr : Int) (x : Nat) : 0 ≤ pAt fr (x : Nat) ∧ pAt fr (x : Nat) ≤ 65535 := by
  unfold pAt bits
  have : ∀ n : Int, 0 ≤ IntKind.u16.wrap n ∧ IntKind.u16.wrap n ≤ 65535 := fun n => by simp [IntKind.wrap, IntKind.bits, IntKind.signed]; omega
  exact this _
theorem keeps_below {X Y : World} (B : Nat) (h : Below X.heap.size X Y) : KeepsFrom B X Y := ⟨h.size, fun k o _ hk _ => (h.block k (Array.getElem?_eq_some_iff.1 hk).1).trans hk⟩
set_option maxRecDepth 100000 in
set_option maxHeartbeats 8000000 in
theorem port_main (m : Nat) (HM : Aside0 (m = 32768)) (A0 : Option Addr) (c0 : Nat) (key : List Int) (A1 : Option Addr) (c1 : Nat) (tb : List Int) (lo re rp sh fr : Int) (w : World)
    (hr0 : Kd.C (Kd.int .u8) w A0 key.length key) (hc0 : key.length ≤ c0) (hr1 : Kd.C (Kd.int .i64) w A1 tb.length tb) (hc1 : tb.length ≤ c1)
    (ok : oct key) (hk : key.length = 40) (htb : checkT tb = some 0) (hs0 : 0 ≤ sh) (hs1 : sh < 16) (hf0 : 32768 ≤ fr) (hf1 : fr ≤ 65535)
    (hl0 : 0 ≤ lo) (hl1 : lo ≤ 4294967295) (he0 : 0 ≤ re) (he1 : re ≤ 4294967295) (hp0 : 0 ≤ rp) (hp1 : rp ≤ 65535) :
    Calls Try.prog 23 #[.slice A0 key.length c0, .slice A1 tb.length c1, .int .u32 lo, .int .u32 re, .int .u16 rp, .int .i64 sh, .int .u16 fr] w fun e w' => e = .returned (.tuple #[.int .u16 (portR m key tb lo re rp sh fr).1, .int .i64 (portR m key tb lo re rp sh fr).2]) ∧ Below w.heap.size w w' := by
  have HR0 := Aside0.mk hr0
  have HC0 := Aside0.mk hc0
  have HR1 := Aside0.mk hr1
  have HC1 := Aside0.mk hc1
  have HK := Aside0.mk hk
  have HT := Aside0.mk htb
  have HCK : Aside0 (toeplitz_Check.f key tb = some 0) := ⟨by unfold toeplitz_Check.f toeplitz_checkTable.f; rw [if_pos (by omega), htb]; rfl⟩
  clear hr0 hc0 hr1 hc1 htb
  obtain ⟨lk, hlk⟩ : ∃ n, key.length = n := ⟨_, rfl⟩
  obtain ⟨lt, hlt⟩ : ∃ n, tb.length = n := ⟨_, rfl⟩
  rw [hlk, hlt]
  have HLK := Aside0.mk hlk
  have HLT := Aside0.mk hlt
  clear hlk hlt hk
  refine (callsIn_wide (n := 4)).1 ?_
  refine callsIn_of_wp_marks Try.func23 rfl trivial ?_ rfl
  simp only [Try.ntmps23, List.size_toArray, List.length_cons, List.length_nil, Nat.reduceAdd, Nat.reduceSub, Array.replicate_succ, Array.replicate_zero, List.push_toArray, List.append_toArray, List.nil_append, List.cons_append]
  refine wpIn_wide.2 ?_
  have HCH : Aside0 (∀ W, Below w.heap.size w W → Calls Try.prog 19 #[.slice A0 lk c0, .slice A1 lt c1] W (fun e w' => e = .returned (.int .i64 0) ∧ Drawn0 W w')) := ⟨fun W hb => by
    have h := toeplitz_Check.calls A0 c0 key A1 c1 tb 0 W (Kd.C_below HR0.out hb) HC0.out (Kd.C_below HR1.out hb) HC1.out HCK.out
    rwa [HLK.out, HLT.out] at h⟩
  go_wp2_with (first
    | (go_at_call 19; go_loud (refine (HCH.out _ (by repeat (first | exact Below.refl _ _ | with_reducible apply below_alloc))).mono ?_); rintro e w1 ⟨rfl, m1, rfl⟩)
    | (go_at_call 30; refine (callsIn_wide.1 (ports_in 3 _ _)).mono ?_; rintro e w1 ⟨rfl, rfl⟩))
  generalize hwl : World.alloc (World.drewN _ _) _ = wl
  have q0 : wl.cell? ⟨w.heap.size, 0, none⟩ = some (.slice A0 lk c0) := by rw [← hwl]; clear hwl; go_simp
  have q1 : wl.cell? ⟨w.heap.size + 1, 0, none⟩ = some (.slice A1 lt c1) := by rw [← hwl]; clear hwl; go_simp
  have q2 : wl.cell? ⟨w.heap.size + 1 + 1, 0, none⟩ = some (.int .u32 lo) := by rw [← hwl]; clear hwl; go_simp
  have q3 : wl.cell? ⟨w.heap.size + 1 + 1 + 1, 0, none⟩ = some (.int .u32 re) := by rw [← hwl]; clear hwl; go_simp
  have q4 : wl.cell? ⟨w.heap.size + 1 + 1 + 1 + 1, 0, none⟩ = some (.int .u16 rp) := by rw [← hwl]; clear hwl; go_simp
  have q5 : wl.cell? ⟨w.heap.size + 1 + 1 + 1 + 1 + 1, 0, none⟩ = some (.int .i64 sh) := by rw [← hwl]; clear hwl; go_simp
  have q6 : wl.cell? ⟨w.heap.size + 1 + 1 + 1 + 1 + 1 + 1, 0, none⟩ = some (.int .u16 0) := by rw [← hwl]; clear hwl; go_simp
  have q7 : wl.cell? ⟨w.heap.size + 1 + 1 + 1 + 1 + 1 + 1 + 1, 0, none⟩ = some (.int .i64 0) := by rw [← hwl]; clear hwl; go_simp
  have q8 : wl.cell? ⟨w.heap.size + 1 + 1 + 1 + 1 + 1 + 1 + 1 + 1, 0, none⟩ = some (.int .u16 fr) := by rw [← hwl]; clear hwl; go_simp
  have f6 : wl.frozen? ⟨w.heap.size + 1 + 1 + 1 + 1 + 1 + 1, 0, none⟩ = false := by rw [← hwl]; clear hwl; go_simp
  have f7 : wl.frozen? ⟨w.heap.size + 1 + 1 + 1 + 1 + 1 + 1 + 1, 0, none⟩ = false := by rw [← hwl]; clear hwl; go_simp
  have hzl : wl.heap.size = w.heap.size + 9 := by rw [← hwl]; clear hwl; simp
  have hBl : Below w.heap.size w wl := by rw [← hwl]; repeat (first | exact Below.refl _ _ | with_reducible apply below_alloc | with_reducible apply pw_below_drewN)
  clear hwl
  have HQ := Aside0.mk (And.intro q0 (And.intro q1 (And.intro q2 (And.intro q3 (And.intro q4 (And.intro q5 (And.intro q6 (And.intro q7 (And.intro f6 f7)))))))))
  clear q0 q1 q2 q3 q4 q5 q6 q7 f6 f7
  refine (wpIn_wide (n := 4)).1 ?_
  refine wpIn_rangeFunc_ownG rfl (by omega) (gf := 35) (lb := #[.pointer (some ⟨w.heap.size + 1 + 1 + 1 + 1 + 1 + 1 + 1 + 1, 0, none⟩)]) rfl trivial (enters_of Try.func35 (by kernel_rfl) rfl)
    (ports_stops m HM 3 (by omega) (w.heap.size + 1 + 1 + 1 + 1 + 1 + 1 + 1 + 1) fr wl (by omega) q8) (fun h k => (show _ = _ from k).trans h) (fun W l o o' hl _ _ _ => World.putObj_heap_other (by omega)) (Below.refl _ _) (fun _ => rfl)
    (fun (pre : List (Up m)) W => oldB wl.heap.size wl W ∧ Below w.heap.size w W ∧ ∀ y ∈ pre, goodP key tb lo re rp sh (pAt fr (y.1 : Nat)) = false)
    (fun c (pre : List (Up m)) W => (c = .ret ∧ ∃ ini last, pre = ini ++ [last] ∧ (∀ y ∈ ini, goodP key tb lo re rp sh (pAt fr (y.1 : Nat)) = false) ∧ goodP key tb lo re rp sh (pAt fr (last.1 : Nat)) = true ∧ W.cell? ⟨w.heap.size + 1 + 1 + 1 + 1 + 1 + 1, 0, none⟩ = some (.int .u16 (pAt fr (last.1 : Nat))) ∧ W.cell? ⟨w.heap.size + 1 + 1 + 1 + 1 + 1 + 1 + 1, 0, none⟩ = some (.int .i64 0)) ∧ Below w.heap.size w W)
    (OwnFrom.and (oldB_own _ _) (OwnFrom.and (ownFrom_below (Nat.le_refl _) (by omega)) (ownFrom_pure _ _)))
    (fun c => OwnFrom.and (Own.from (fun s X Y row hs hg hr => by obtain ⟨hc, ini, last, e1, e2, e3, e4, e5⟩ := hs; exact ⟨hc, ini, last, e1, e2, e3, cell_kept e4 hg hr, cell_kept e5 hg hr⟩) _) (ownFrom_below (Nat.le_refl _) (by omega)))
    ⟨oldB_refl _ _, hBl, by simp⟩
    ?a1 ?assign ?body ?done ?stop
  case assign =>
    intro l x W K hK
    gi_wp2
    exact hK
  case body =>
    rintro l pre ⟨x, hx⟩ W ⟨hold, hB, hall⟩ hlt
    dsimp only
    obtain ⟨p, hp⟩ : ∃ p, pAt fr (x : Nat) = p := ⟨_, rfl⟩
    have hpb := pAt_bd fr x
    rw [hp] at hpb ⊢
    obtain ⟨q0, q1, q2, q3, q4, q5, q6, q7, f6, f7⟩ := HQ.out
    have ho : ∀ k, k < wl.heap.size → W.heap[k]? = wl.heap[k]? := fun k hk => hold.2 k hk (by omega)
    have d0 : W.cell? ⟨w.heap.size, 0, none⟩ = some (.slice A0 lk c0) := (cell_keep (ho (w.heap.size) (by omega)) _ rfl).trans q0
    have d1 : W.cell? ⟨w.heap.size + 1, 0, none⟩ = some (.slice A1 lt c1) := (cell_keep (ho (w.heap.size + 1) (by omega)) _ rfl).trans q1
    have d2 : W.cell? ⟨w.heap.size + 1 + 1, 0, none⟩ = some (.int .u32 lo) := (cell_keep (ho (w.heap.size + 1 + 1) (by omega)) _ rfl).trans q2
    have d3 : W.cell? ⟨w.heap.size + 1 + 1 + 1, 0, none⟩ = some (.int .u32 re) := (cell_keep (ho (w.heap.size + 1 + 1 + 1) (by omega)) _ rfl).trans q3
    have d4 : W.cell? ⟨w.heap.size + 1 + 1 + 1 + 1, 0, none⟩ = some (.int .u16 rp) := (cell_keep (ho (w.heap.size + 1 + 1 + 1 + 1) (by omega)) _ rfl).trans q4
    have d5 : W.cell? ⟨w.heap.size + 1 + 1 + 1 + 1 + 1, 0, none⟩ = some (.int .i64 sh) := (cell_keep (ho (w.heap.size + 1 + 1 + 1 + 1 + 1) (by omega)) _ rfl).trans q5
    have d6 : W.cell? ⟨w.heap.size + 1 + 1 + 1 + 1 + 1 + 1, 0, none⟩ = some (.int .u16 0) := (cell_keep (ho (w.heap.size + 1 + 1 + 1 + 1 + 1 + 1) (by omega)) _ rfl).trans q6
    have d7 : W.cell? ⟨w.heap.size + 1 + 1 + 1 + 1 + 1 + 1 + 1, 0, none⟩ = some (.int .i64 0) := (cell_keep (ho (w.heap.size + 1 + 1 + 1 + 1 + 1 + 1 + 1) (by omega)) _ rfl).trans q7
    have g6 : W.frozen? ⟨w.heap.size + 1 + 1 + 1 + 1 + 1 + 1, 0, none⟩ = false := (World.frozen?_of_block (ho (w.heap.size + 1 + 1 + 1 + 1 + 1 + 1) (by omega))).trans f6
    have g7 : W.frozen? ⟨w.heap.size + 1 + 1 + 1 + 1 + 1 + 1 + 1, 0, none⟩ = false := (World.frozen?_of_block (ho (w.heap.size + 1 + 1 + 1 + 1 + 1 + 1 + 1) (by omega))).trans f7
    have hzW := hold.1
    obtain ⟨L_, hL⟩ : ∃ L_, four re ++ four lo ++ four (rp * 65536 + p) = L_ := ⟨_, rfl⟩
    have oL : oct L_ := by rw [← hL]; intro y hy; rcases List.mem_append.1 hy with h | h; rcases List.mem_append.1 h with h | h; exact four_oct re he0 he1 y h; exact four_oct lo hl0 hl1 y h; exact four_oct _ (by omega) (by omega) y h
    have hLl : L_.length = 12 := by rw [← hL]; rfl
    have hT : tuple re lo rp p = some L_ := by unfold tuple; rw [if_pos (by omega), hL]
    obtain ⟨hh, hhv, hh0, hh1⟩ : ∃ hh : Int, hashV key L_ = (hh, 0) ∧ 0 ≤ hh ∧ hh < 4294967296 := by
      unfold hashV
      rw [if_pos ⟨HK.out, by omega⟩]
      have := hf_lt key L_ (8 * L_.length)
      exact ⟨_, rfl, by omega, by omega⟩
    obtain ⟨K1, e1⟩ := hash_ev key L_ ok oL
    have hHf : toeplitz_Hash.f K1 key L_ = some (hh, 0) := (e1 K1 (Nat.le_refl _)).trans (by rw [hhv])
    obtain ⟨z, hz⟩ : ∃ z, rd tb (hh % 128) = z := ⟨_, rfl⟩
    have hgood : goodP key tb lo re rp sh p = (z == sh) := by unfold goodP shP; rw [hL, hhv, hz]
    have ht128 : tb.length = 128 := by have := HT.out; unfold checkT at this; by_cases h128 : (tb.length : Int) ≠ 128; rw [if_pos h128] at this; cases this; omega
    have hSf : toeplitz_Shard.f tb hh = some (z, 0) := by unfold toeplitz_Shard.f toeplitz_checkTable.f; rw [HT.out, Option.bind_some, if_pos rfl, show bits .and .u32 hh 127 = hh % 128 from bits_mask .u32 32 (by decide) (fun n a b => by rw [IntKind.wrap_u32]; omega) 7 (by decide) hh hh0 hh1, if_pos (by omega), if_pos (by omega), hz]
    have HSH : Aside0 (∀ W, Below w.heap.size w W → Calls Try.prog 17 #[.slice A1 lt c1, .int .u32 hh] W (fun e w' => e = .returned (.tuple #[.int .i64 z, .int .i64 0]) ∧ Drawn0 W w')) := ⟨fun W hb => by
      have h := toeplitz_Shard.calls A1 c1 tb hh z 0 W (Kd.C_below HR1.out hb) HC1.out hSf
      rwa [HLT.out] at h⟩
    have HHS : Aside0 (∀ (W : World) A c, Below w.heap.size w W → Kd.C (Kd.int .u8) W A L_.length L_ → L_.length ≤ c → Calls Try.prog 9 #[.slice A0 lk c0, .slice A L_.length c] W (fun e w' => e = .returned (.tuple #[.int .u32 hh, .int .i64 0]) ∧ Drawn0 W w')) := ⟨fun W A c hb h1 h2 => by
      have h := toeplitz_Hash.calls K1 A0 c0 key A c L_ hh 0 W (Kd.C_below HR0.out hb) HC0.out h1 h2 hHf
      rwa [HLK.out] at h⟩
    have HTT : Aside0 (∀ W, Calls Try.prog 11 #[.int .u32 re, .int .u32 lo, .int .u16 rp, .int .u16 p] W fun e w' => ∃ v0_ : Value, e = .returned (v0_) ∧ Kd.R (Kd.int .u8) 5 w' W.heap.size (fun _ => True) v0_ L_ ∧ Below W.heap.size W w') := ⟨fun W => tuple_calls re lo rp p L_ W hT⟩
    have HG := Aside0.mk hgood
    have HPP := Aside0.mk hp
    have HO := Aside0.mk (And.intro hold (And.intro hB hall))
    clear hgood hold hB hall hT hHf hSf hhv e1 hL hz q0 q1 q2 q3 q4 q5 q6 q7 f6 f7 ho oL hp
    have HLl := Aside0.mk hLl
    have Ht := Aside0.mk ht128
    clear hLl ht128
    gi_wp2
    refine start_in (n := 12) (S := fun w' => w'.cell? ⟨w.heap.size, 0, none⟩ = some (.slice A0 lk c0) ∧ w'.cell? ⟨w.heap.size + 1 + 1 + 1, 0, none⟩ = some (.int .u32 re) ∧ w'.cell? ⟨w.heap.size + 1 + 1, 0, none⟩ = some (.int .u32 lo) ∧ w'.cell? ⟨w.heap.size + 1 + 1 + 1 + 1, 0, none⟩ = some (.int .u16 rp)) (ds := []) (bs 12 0) (by kernel_rfl) rfl rfl (by rintro ⟨_, _, h⟩; exact h) (by kernel_rfl) ⟨d0, d3, d2, d4⟩ (fun hHeld => ?_)
    have hbd : Below W.heap.size W W.drew := below_drew1 (Below.refl W.heap.size W)
    generalize W.drew = wd at hHeld hbd ⊢
    refine take_ (i := 0) (N := some 42) (v := ?_) (a' := ?_) (bs 12 1) rfl rfl (by kernel_rfl) (fun _ _ _ h => h) (Or.inl ⟨by rfl, ?_⟩) hHeld ?_ ?_; rotate_left; (rintro w' ⟨s0, s1, s2, s3⟩; go_simp; with_reducible rfl); rotate_left; (simp only [Act.put, q1_, q2_, q3_, i64_w, i32_w]; rfl)
    refine take_ (i := 1) (N := some 43) (v := ?_) (a' := ?_) (bs 12 3) rfl rfl (by kernel_rfl) (fun _ _ _ h => h) (Or.inl ⟨by rfl, ?_⟩) hHeld ?_ ?_; rotate_left; (rintro w' ⟨s0, s1, s2, s3⟩; go_simp; with_reducible rfl); rotate_left; (simp only [Act.put, q1_, q2_, q3_, i64_w, i32_w]; rfl)
    refine take_ (i := 2) (N := some 44) (v := ?_) (a' := ?_) (bs 12 7) rfl rfl (by kernel_rfl) (fun _ _ _ h => h) (Or.inl ⟨by rfl, ?_⟩) hHeld ?_ ?_; rotate_left; (rintro w' ⟨s0, s1, s2, s3⟩; go_simp; with_reducible rfl); rotate_left; (simp only [Act.put, q1_, q2_, q3_, i64_w, i32_w]; rfl)
    refine take_ (i := 3) (N := some 45) (v := ?_) (a' := ?_) (bs 12 15) rfl rfl (by kernel_rfl) (fun _ _ _ h => h) (Or.inl ⟨by rfl, ?_⟩) hHeld ?_ ?_; rotate_left; (rintro w' ⟨s0, s1, s2, s3⟩; go_simp; with_reducible rfl); rotate_left; (simp only [Act.put, q1_, q2_, q3_, i64_w, i32_w]; rfl)
    refine pure_ (i := 4) (N := some 46) (v := ?_) (a' := ?_) (bs 12 31) rfl rfl (by kernel_rfl) (fun _ _ _ h => h) (Or.inl ⟨by rfl, ?_⟩) ?_ ?_; rotate_left; (intro w'; go_simp; with_reducible rfl); rotate_left; (simp only [Act.put, q1_, q2_, q3_, i64_w, i32_w]; rfl)
    refine one_ (i := 5) (N := some 47) (bs 12 63) rfl rfl (by kernel_rfl) (by decide) (fun K hK => ?_)
    refine goes_ Try.func11 (by kernel_rfl) rfl #[.int .u32 re, .int .u32 lo, .int .u16 rp, .int .u16 p] (by rfl) rfl rfl (by (try simp only [List.map_toArray, List.map_cons, List.map_nil]); first | done | rfl) ?_
    refine (HTT.out wd).mono ?_
    rintro e w1 ⟨v1, rfl, hRow, hb⟩
    refine ⟨v1, rfl, ?_⟩
    obtain ⟨A2, c2, rfl, hcl, hC2⟩ := Kd.R_reads hRow
    have hlt2 := fun (q : Addr) v (h : wd.cell? q = some v) => (hb.cell (World.block_lt_of_cell? wd _ h)).trans h
    refine hK.out _ _ ⟨hlt2 _ _ hHeld.1, hlt2 _ _ hHeld.2.1, hlt2 _ _ hHeld.2.2.1, hlt2 _ _ hHeld.2.2.2⟩ (fun hHeld => ?_); clear hK K
    refine norm_ (a' := ?_) ?_ ?_; rotate_left; (show Act.put _ (some 47) _ = _; simp only [Act.put, q1_, q2_, q3_, i64_w, i32_w]; rfl)
    have hbw : Below W.heap.size W w1 := hbd.trans (hb.mono hbd.size)
    have hbW : Below w.heap.size w w1 := HO.out.2.1.trans (hbw.mono (by omega))
    clear hlt2 hb hbd hRow
    refine one_ (i := 6) (N := some 48) (bs 12 127) rfl rfl (by kernel_rfl) (by decide) (fun K hK => ?_)
    refine goes_ Try.func9 (by kernel_rfl) rfl #[.slice A0 lk c0, .slice A2 L_.length c2] (by rfl) rfl rfl (by (try simp only [List.map_toArray, List.map_cons, List.map_nil]); first | done | rfl) ?_
    refine (HHS.out w1 A2 c2 hbW hC2 hcl).mono ?_
    rintro e w2 ⟨rfl, m2, rfl⟩
    refine ⟨_, rfl, ?_⟩
    refine hK.out _ _ hHeld (fun hHeld => ?_); clear hK K
    refine norm_ (a' := ?_) ?_ ?_; rotate_left; (show Act.put _ (some 48) _ = _; simp only [Act.put, q1_, q2_, q3_, i64_w, i32_w]; rfl)
    refine pure_ (i := 7) (N := some 41) (v := ?_) (a' := ?_) (bs 12 255) rfl rfl (by kernel_rfl) (fun _ _ _ h => h) (Or.inl ⟨by rfl, ?_⟩) ?_ ?_; rotate_left; (intro w'; go_simp; with_reducible rfl); rotate_left; (simp only [Act.put, q1_, q2_, q3_, i64_w, i32_w]; rfl)
    refine pure_ (i := 8) (N := some 49) (v := ?_) (a' := ?_) (bs 12 511) rfl rfl (by kernel_rfl) (fun _ _ _ h => h) (Or.inl ⟨by rfl, ?_⟩) ?_ ?_; rotate_left; (intro w'; go_simp; with_reducible rfl); rotate_left; (simp only [Act.put, q1_, q2_, q3_, i64_w, i32_w]; rfl)
    refine pure_ (i := 9) (N := some 50) (v := ?_) (a' := ?_) (bs 12 1023) rfl rfl (by kernel_rfl) (fun _ _ _ h => h) (Or.inl ⟨by rfl, ?_⟩) ?_ ?_; rotate_left; (intro w'; go_simp; with_reducible rfl); rotate_left; (simp only [Act.put, q1_, q2_, q3_, i64_w, i32_w]; rfl)
    refine pure_ (i := 10) (N := some 18) (v := ?_) (a' := ?_) (bs 12 2047) rfl rfl (by kernel_rfl) (fun _ _ _ h => h) (Or.inl ⟨by rfl, ?_⟩) ?_ ?_; rotate_left; (intro w'; go_simp; with_reducible rfl); rotate_left; (simp only [Act.put, q1_, q2_, q3_, i64_w, i32_w]; rfl)
    refine pure_ (i := 11) (N := some 19) (v := ?_) (a' := ?_) (bs 12 4095) rfl rfl (by kernel_rfl) (fun _ _ _ h => h) (Or.inl ⟨by rfl, ?_⟩) ?_ ?_; rotate_left; (intro w'; go_simp; with_reducible rfl); rotate_left; (simp only [Act.put, q1_, q2_, q3_, i64_w, i32_w]; rfl)
    refine done_ (by kernel_rfl) ?_
    have hcell := fun (q : Addr) v (h : W.cell? q = some v) => (hbw.cell (World.block_lt_of_cell? W _ h)).trans h
    have hfrz := fun (k : Nat) (h : k < W.heap.size) => World.frozen?_of_block (a := ⟨k, 0, none⟩) (hbw.block k h)
    have e1 : (w1.drewN m2).cell? ⟨w.heap.size + 1, 0, none⟩ = some (.slice A1 lt c1) := hcell _ _ d1
    have e5 : (w1.drewN m2).cell? ⟨w.heap.size + 1 + 1 + 1 + 1 + 1, 0, none⟩ = some (.int .i64 sh) := hcell _ _ d5
    have e6 : (w1.drewN m2).cell? ⟨w.heap.size + 1 + 1 + 1 + 1 + 1 + 1, 0, none⟩ = some (.int .u16 0) := hcell _ _ d6
    have e7 : (w1.drewN m2).cell? ⟨w.heap.size + 1 + 1 + 1 + 1 + 1 + 1 + 1, 0, none⟩ = some (.int .i64 0) := hcell _ _ d7
    have k6 : (w1.drewN m2).frozen? ⟨w.heap.size + 1 + 1 + 1 + 1 + 1 + 1, 0, none⟩ = false := (hfrz (w.heap.size + 1 + 1 + 1 + 1 + 1 + 1) (by omega)).trans g6
    have k7 : (w1.drewN m2).frozen? ⟨w.heap.size + 1 + 1 + 1 + 1 + 1 + 1 + 1, 0, none⟩ = false := (hfrz (w.heap.size + 1 + 1 + 1 + 1 + 1 + 1 + 1) (by omega)).trans g7
    have hbw2 : Below W.heap.size W (w1.drewN m2) := pw_below_drewN hbw _
    have hbW2 : Below w.heap.size w (w1.drewN m2) := pw_below_drewN hbW _
    clear hcell hfrz d0 d1 d2 d3 d4 d5 d6 d7 g6 g7 hHeld hcl hC2 hbw hbW
    generalize w1.drewN m2 = w2 at *
    have HB2 := Aside0.mk (And.intro hbw2 hbW2)
    clear hbw2 hbW2
    by_cases hzs : (z == sh) = true
    · gi_wp2_with (refine ⟨trivial, ?_⟩; gi_at_call 17; refine (CallsIn.inRound l (callsIn_wide.2 (HSH.out _ HB2.out.2))).mono ?_; rintro e w3 ⟨rfl, m3, rfl⟩)
      obtain ⟨hold, hB, hall⟩ := HO.out
      refine ⟨((keeps_below _ HB2.out.1).trans (keeps_below _ (pw_below_drewN (Below.refl _ _) _))).trans (((KeepsOthers.setCell _ _ _).trans (KeepsOthers.setCell _ _ _)).from _), ⟨rfl, pre, ⟨x, hx⟩, rfl, hall, ?_, ?_, ?_⟩, ?_⟩
      · show goodP key tb lo re rp sh (pAt fr (x : Nat)) = true
        rw [HPP.out, HG.out]; exact hzs
      · show _ = some (Value.int .u16 (pAt fr (x : Nat)))
        rw [HPP.out]; go_simp
      · go_simp
      · exact ((pw_below_drewN HB2.out.2 _).setCell (by simp; omega) _).setCell (by simp; omega) _
    · have hzf : (z == sh) = false := Bool.eq_false_iff.2 hzs
      clear hzs
      gi_wp2_with (refine ⟨trivial, ?_⟩; gi_at_call 17; refine (CallsIn.inRound l (callsIn_wide.2 (HSH.out _ HB2.out.2))).mono ?_; rintro e w3 ⟨rfl, m3, rfl⟩)
      obtain ⟨hold, hB, hall⟩ := HO.out
      have hbd3 : Below W.heap.size W (w2.drewN m3) := pw_below_drewN HB2.out.1 _
      refine ⟨keeps_below _ hbd3, hbd3.block _ (by omega), ⟨Nat.le_trans hold.1 hbd3.size, fun k hk hne => (hbd3.block k (by omega)).trans (hold.2 k hk hne)⟩, pw_below_drewN HB2.out.2 _, fun y hy => ?_⟩
      rcases List.mem_append.1 hy with h | h
      · exact hall y h
      · obtain rfl := List.mem_singleton.1 h
        show goodP key tb lo re rp sh (pAt fr (x : Nat)) = false
        rw [HPP.out, HG.out]; exact hzf
  case done =>
    rintro D ys W hD hys ⟨hold, hB, hall⟩ hK
    obtain ⟨q0, q1, q2, q3, q4, q5, q6, q7, f6, f7⟩ := HQ.out
    have ho : ∀ k, k < wl.heap.size → W.heap[k]? = wl.heap[k]? := fun k hk => hold.2 k hk (by omega)
    have d6 : W.cell? ⟨w.heap.size + 1 + 1 + 1 + 1 + 1 + 1, 0, none⟩ = some (.int .u16 0) := (cell_keep (ho (w.heap.size + 1 + 1 + 1 + 1 + 1 + 1) (by omega)) _ rfl).trans q6
    have d7 : W.cell? ⟨w.heap.size + 1 + 1 + 1 + 1 + 1 + 1 + 1, 0, none⟩ = some (.int .i64 0) := (cell_keep (ho (w.heap.size + 1 + 1 + 1 + 1 + 1 + 1 + 1) (by omega)) _ rfl).trans q7
    have g6 : W.frozen? ⟨w.heap.size + 1 + 1 + 1 + 1 + 1 + 1, 0, none⟩ = false := (World.frozen?_of_block (ho (w.heap.size + 1 + 1 + 1 + 1 + 1 + 1) (by omega))).trans f6
    have g7 : W.frozen? ⟨w.heap.size + 1 + 1 + 1 + 1 + 1 + 1 + 1, 0, none⟩ = false := (World.frozen?_of_block (ho (w.heap.size + 1 + 1 + 1 + 1 + 1 + 1 + 1) (by omega))).trans f7
    clear q0 q1 q2 q3 q4 q5 q6 q7 f6 f7 ho
    have hR : portR m key tb lo re rp sh fr = (0, 71) := by unfold portR; rw [find_none hys (fun y hy => hall y hy)]
    have HHR := Aside0.mk hR
    have HX := Aside0.mk (And.intro hold hB)
    clear hR hold hB hall hys
    go_wp2
    have hK' := (KeepsOthers.setCell (W.setCell ⟨w.heap.size + 1 + 1 + 1 + 1 + 1 + 1, 0, none⟩ (.int .u16 0)) ⟨w.heap.size + 1 + 1 + 1 + 1 + 1 + 1 + 1, 0, none⟩ (.int .i64 71)).same D _ ((KeepsOthers.setCell W ⟨w.heap.size + 1 + 1 + 1 + 1 + 1 + 1, 0, none⟩ (.int .u16 0)).same D _ hK rfl) rfl
    refine ⟨by simp, .inl ⟨_, _, rfl, run_takeDeferred hK', ?_⟩⟩
    have c6a : ((W.setCell ⟨w.heap.size + 1 + 1 + 1 + 1 + 1 + 1, 0, none⟩ (.int .u16 0)).setCell ⟨w.heap.size + 1 + 1 + 1 + 1 + 1 + 1 + 1, 0, none⟩ (.int .i64 71)).cell? ⟨w.heap.size + 1 + 1 + 1 + 1 + 1 + 1, 0, none⟩ = some (.int .u16 0) := by go_simp
    have c6 := cell_kept c6a (grownBy_putObj' _ D (.deferred none)) (fun r e => by cases e; exact ⟨_, hK', rfl⟩)
    have c7a : ((W.setCell ⟨w.heap.size + 1 + 1 + 1 + 1 + 1 + 1, 0, none⟩ (.int .u16 0)).setCell ⟨w.heap.size + 1 + 1 + 1 + 1 + 1 + 1 + 1, 0, none⟩ (.int .i64 71)).cell? ⟨w.heap.size + 1 + 1 + 1 + 1 + 1 + 1 + 1, 0, none⟩ = some (.int .i64 71) := by go_simp
    have c7 := cell_kept c7a (grownBy_putObj' _ D (.deferred none)) (fun r e => by cases e; exact ⟨_, hK', rfl⟩)
    refine ⟨.tuple #[.int .u16 0, .int .i64 71], by simp [results, Try.results23, go_sem, c6, c7], by rw [HHR.out], ?_⟩
    exact ((HX.out.2.setCell (by simp; omega) _).setCell (by simp; omega) _).trans (belowK_b (w := w) (Nat.le_refl _) _ D _ _ (by omega) hK' rfl rfl)
  case stop =>
    rintro D c' pre W hD ⟨kk, hkk, hpre⟩ ⟨⟨rfl, ini, last, rfl, hini, hlast, c6, c7⟩, hB⟩ hK
    have hR : portR m key tb lo re rp sh fr = (pAt fr (last.1 : Nat), 0) := by unfold portR; rw [find_at (g := fun i => goodP key tb lo re rp sh (pAt fr (i : Nat))) hkk hpre hini hlast]
    have HHR := Aside0.mk hR
    clear hR hini hlast hpre
    gi_wp2
    refine ⟨by simp, .inl ⟨_, _, rfl, run_takeDeferred hK, ?_⟩⟩
    have c6' := cell_kept c6 (grownBy_putObj' _ D (.deferred none)) (fun r e => by cases e; exact ⟨_, hK, rfl⟩)
    have c7' := cell_kept c7 (grownBy_putObj' _ D (.deferred none)) (fun r e => by cases e; exact ⟨_, hK, rfl⟩)
    refine ⟨.tuple #[.int .u16 (pAt fr (last.1 : Nat)), .int .i64 0], by simp [results, Try.results23, go_sem, c6', c7'], by rw [HHR.out], hB.trans (belowK_b (w := w) (Nat.le_refl _) _ D _ _ (by omega) hK rfl rfl)⟩

set_option maxRecDepth 100000 in
set_option maxHeartbeats 4000000 in
theorem port_err (A0 : Option Addr) (c0 : Nat) (key : List Int) (A1 : Option Addr) (c1 : Nat) (tb : List Int) (lo re rp sh fr : Int) (w : World)
    (hr0 : Kd.C (Kd.int .u8) w A0 key.length key) (hc0 : key.length ≤ c0) (hr1 : Kd.C (Kd.int .i64) w A1 tb.length tb) (hc1 : tb.length ≤ c1)
    (c : Int) (hck : toeplitz_Check.f key tb = some c) (hc : c ≠ 0) :
    Calls Try.prog 23 #[.slice A0 key.length c0, .slice A1 tb.length c1, .int .u32 lo, .int .u32 re, .int .u16 rp, .int .i64 sh, .int .u16 fr] w fun e w' => e = .returned (.tuple #[.int .u16 0, .int .i64 c]) ∧ Below w.heap.size w w' := by
  have HR0 := Aside0.mk hr0
  have HC0 := Aside0.mk hc0
  have HR1 := Aside0.mk hr1
  have HC1 := Aside0.mk hc1
  have HCK := Aside0.mk hck
  clear hr0 hc0 hr1 hc1 hck
  obtain ⟨lk, hlk⟩ : ∃ n, key.length = n := ⟨_, rfl⟩
  obtain ⟨lt, hlt⟩ : ∃ n, tb.length = n := ⟨_, rfl⟩
  rw [hlk, hlt]
  have HLK := Aside0.mk hlk
  have HLT := Aside0.mk hlt
  clear hlk hlt
  have HCH : Aside0 (∀ W, Below w.heap.size w W → Calls Try.prog 19 #[.slice A0 lk c0, .slice A1 lt c1] W (fun e w' => e = .returned (.int .i64 c) ∧ Drawn0 W w')) := ⟨fun W hb => by
    have h := toeplitz_Check.calls A0 c0 key A1 c1 tb c W (Kd.C_below HR0.out hb) HC0.out (Kd.C_below HR1.out hb) HC1.out HCK.out
    rwa [HLK.out, HLT.out] at h⟩
  have hcb1 : (c == 0) = false := by simpa using hc
  have hcb2 : (c != 0) = true := by simpa using hc
  clear hc
  all_goals
    refine (callsIn_wide (n := 4)).1 ?_
    refine callsIn_of_wp_marks Try.func23 rfl trivial ?_ rfl
    simp only [Try.ntmps23, List.size_toArray, List.length_cons, List.length_nil, Nat.reduceAdd, Nat.reduceSub, Array.replicate_succ, Array.replicate_zero, List.push_toArray, List.append_toArray, List.nil_append, List.cons_append]
    refine wpIn_wide.2 ?_
    go_wp2_with (go_at_call 19; refine (HCH.out _ (by repeat (first | exact Below.refl _ _ | with_reducible apply below_alloc))).mono ?_; rintro e w1 ⟨rfl, m1, rfl⟩)
    refine ret_early (v := .tuple #[.int .u16 0, .int .i64 c]) (by simp [results, Try.results23, go_sem]) ⟨rfl, ?_⟩
    repeat (first | exact Below.refl _ _ | with_reducible apply below_alloc | with_reducible apply pw_below_drewN | refine Below.setCell ?_ (by simp; omega) _)

set_option maxRecDepth 100000 in
set_option maxHeartbeats 4000000 in
theorem port_range (A0 : Option Addr) (c0 : Nat) (key : List Int) (A1 : Option Addr) (c1 : Nat) (tb : List Int) (lo re rp sh fr : Int) (w : World)
    (hr0 : Kd.C (Kd.int .u8) w A0 key.length key) (hc0 : key.length ≤ c0) (hr1 : Kd.C (Kd.int .i64) w A1 tb.length tb) (hc1 : tb.length ≤ c1)
    (hck : toeplitz_Check.f key tb = some 0) (hx : sh < 0 ∨ (0 ≤ sh ∧ 16 ≤ sh) ∨ (0 ≤ sh ∧ sh < 16 ∧ fr < 32768)) :
    Calls Try.prog 23 #[.slice A0 key.length c0, .slice A1 tb.length c1, .int .u32 lo, .int .u32 re, .int .u16 rp, .int .i64 sh, .int .u16 fr] w fun e w' => e = .returned (.tuple #[.int .u16 0, .int .i64 4]) ∧ Below w.heap.size w w' := by
  have HR0 := Aside0.mk hr0
  have HC0 := Aside0.mk hc0
  have HR1 := Aside0.mk hr1
  have HC1 := Aside0.mk hc1
  have HCK := Aside0.mk hck
  clear hr0 hc0 hr1 hc1 hck
  obtain ⟨lk, hlk⟩ : ∃ n, key.length = n := ⟨_, rfl⟩
  obtain ⟨lt, hlt⟩ : ∃ n, tb.length = n := ⟨_, rfl⟩
  rw [hlk, hlt]
  have HLK := Aside0.mk hlk
  have HLT := Aside0.mk hlt
  clear hlk hlt
  have HCH : Aside0 (∀ W, Below w.heap.size w W → Calls Try.prog 19 #[.slice A0 lk c0, .slice A1 lt c1] W (fun e w' => e = .returned (.int .i64 0) ∧ Drawn0 W w')) := ⟨fun W hb => by
    have h := toeplitz_Check.calls A0 c0 key A1 c1 tb 0 W (Kd.C_below HR0.out hb) HC0.out (Kd.C_below HR1.out hb) HC1.out HCK.out
    rwa [HLK.out, HLT.out] at h⟩
  rcases hx with h1 | ⟨h1, h2⟩ | ⟨h1, h2, h3⟩
  all_goals
    refine (callsIn_wide (n := 4)).1 ?_
    refine callsIn_of_wp_marks Try.func23 rfl trivial ?_ rfl
    simp only [Try.ntmps23, List.size_toArray, List.length_cons, List.length_nil, Nat.reduceAdd, Nat.reduceSub, Array.replicate_succ, Array.replicate_zero, List.push_toArray, List.append_toArray, List.nil_append, List.cons_append]
    refine wpIn_wide.2 ?_
    go_wp2_with (go_at_call 19; refine (HCH.out _ (by repeat (first | exact Below.refl _ _ | with_reducible apply below_alloc))).mono ?_; rintro e w1 ⟨rfl, m1, rfl⟩)
    refine ret_early (v := .tuple #[.int .u16 0, .int .i64 4]) (by simp [results, Try.results23, go_sem]) ⟨rfl, ?_⟩
    repeat (first | exact Below.refl _ _ | with_reducible apply below_alloc | with_reducible apply pw_below_drewN | refine Below.setCell ?_ (by simp; omega) _)

/-- How many ports there are. -/
def mP : Nat := 32768
def okl (l : List Int) : Bool := l.all fun x => decide (0 ≤ x ∧ x ≤ 255)
theorem okl_oct {l : List Int} (h : okl l = true) : oct l := fun x hx => of_decide_eq_true (List.all_eq_true.1 h x hx)
def portF (key tb : List Int) (lo re rp sh fr : Int) : Option (Int × Int) :=
  if (0 ≤ lo ∧ lo ≤ 4294967295) ∧ (0 ≤ re ∧ re ≤ 4294967295) ∧ (0 ≤ rp ∧ rp ≤ 65535) ∧ fr ≤ 65535 ∧ okl key = true then
    (if (key.length : Int) = 40 then checkT tb else some 3).bind fun c =>
      if c ≠ 0 then some (0, c) else if sh < 0 ∨ 16 ≤ sh ∨ fr < 32768 then some (0, 4) else some (portR mP key tb lo re rp sh fr)
  else none
theorem port_calls (A0 : Option Addr) (c0 : Nat) (key : List Int) (A1 : Option Addr) (c1 : Nat) (tb : List Int) (lo re rp sh fr r1 r2 : Int) (w : World)
    (hr0 : Kd.C (Kd.int .u8) w A0 key.length key) (hc0 : key.length ≤ c0) (hr1 : Kd.C (Kd.int .i64) w A1 tb.length tb) (hc1 : tb.length ≤ c1) (h : portF key tb lo re rp sh fr = some (r1, r2)) :
    Calls Try.prog 23 #[.slice A0 key.length c0, .slice A1 tb.length c1, .int .u32 lo, .int .u32 re, .int .u16 rp, .int .i64 sh, .int .u16 fr] w fun e w' => e = .returned (.tuple #[.int .u16 r1, .int .i64 r2]) ∧ Below w.heap.size w w' := by
  unfold portF at h
  by_cases hm : (0 ≤ lo ∧ lo ≤ 4294967295) ∧ (0 ≤ re ∧ re ≤ 4294967295) ∧ (0 ≤ rp ∧ rp ≤ 65535) ∧ fr ≤ 65535 ∧ okl key = true
  · rw [if_pos hm] at h
    obtain ⟨⟨g1, g2⟩, ⟨g3, g4⟩, ⟨g5, g6⟩, g7, g8⟩ := hm
    obtain ⟨c, hck, h⟩ := Option.bind_eq_some_iff.1 h
    have hCf : toeplitz_Check.f key tb = some c := by
      unfold toeplitz_Check.f toeplitz_checkTable.f
      by_cases h40 : (key.length : Int) = 40
      · rw [if_pos h40] at hck ⊢; rw [hck]; rfl
      · rw [if_neg h40] at hck ⊢; exact hck
    by_cases hc : c ≠ 0
    · rw [if_pos hc] at h
      simp only [Option.some.injEq, Prod.mk.injEq] at h
      obtain ⟨rfl, rfl⟩ := h
      exact port_err A0 c0 key A1 c1 tb lo re rp sh fr w hr0 hc0 hr1 hc1 c hCf hc
    · rw [if_neg hc] at h
      have hc' : c = 0 := by omega
      subst hc'
      by_cases hx : sh < 0 ∨ 16 ≤ sh ∨ fr < 32768
      · rw [if_pos hx] at h
        simp only [Option.some.injEq, Prod.mk.injEq] at h
        obtain ⟨rfl, rfl⟩ := h
        exact port_range A0 c0 key A1 c1 tb lo re rp sh fr w hr0 hc0 hr1 hc1 hCf (by omega)
      · rw [if_neg hx] at h
        have h' := Option.some.inj h
        have h40 : key.length = 40 := by
          by_cases h40 : (key.length : Int) = 40
          · omega
          · rw [if_neg h40] at hck; exact absurd hck (by simp)
        rw [if_pos (by omega)] at hck
        have := port_main mP ⟨rfl⟩ A0 c0 key A1 c1 tb lo re rp sh fr w hr0 hc0 hr1 hc1 (okl_oct g8) h40 hck (by omega) (by omega) (by omega) g7 g1 g2 g3 g4 g5 g6
        rwa [h'] at this
  · rw [if_neg hm] at h
    exact absurd h (by simp)
end Go.Proofs.Ytgfghinjjidcoaa.Hand
