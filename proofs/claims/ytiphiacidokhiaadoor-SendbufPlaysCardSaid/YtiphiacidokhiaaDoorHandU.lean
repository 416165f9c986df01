/- Chapter 15: a buffer as the row of octets that it holds: what Write, Ack and Slice do to it; append to a row of one's own. -/
import Derived.Test.YtiphiacidokhiaaDoorHandQ
import Derived.Test.YtiphiacidokhiaaDoorHandA
import Derived.Laws.AppendOwn
import Derived.Deep.AppendLies
namespace Go.Proofs.YtiphiacidokhiaaDoor.Hand
open Go.RowKit Go.Proofs.YtiphiacidokhiaaDoor Go.Proofs.YtiphiacidokhiaaDoorW.PrintWords Go.Proofs.YtiphiacidokhiaaDoorW.PrintLast Go.Proofs.YtiphiacidokhiaaDoorW.PrintMore
set_option linter.unusedVariables false
def Ring (w : World) (g R sz : Nat) (una : Int) (xs : List Int) : Prop :=
  ∃ (fr : Nat) (C : Array Value), w.heap[g]? = some (.cells (c4 R sz fr (xs.length : Nat) una) 59 (0, 0)) ∧ w.heap[R]? = some (.cells C 5 (0, 0)) ∧ C.size = sz ∧ fr < sz ∧ xs.length ≤ sz ∧ g ≠ R ∧
    ∀ i, i < xs.length → C[(fr + i) % sz]? = some (.int .u8 (xs.getD i 0))
theorem ring_lt {w : World} {g R sz : Nat} {una : Int} {xs : List Int} (h : Ring w g R sz una xs) : g < w.heap.size ∧ R < w.heap.size := by
  obtain ⟨fr, C, h1, h2, _⟩ := h
  exact ⟨(Array.getElem?_eq_some_iff.1 h1).1, (Array.getElem?_eq_some_iff.1 h2).1⟩
theorem ring_heap {w w' : World} {g R sz : Nat} {una : Int} {xs : List Int} (h : Ring w g R sz una xs) (hg : w'.heap[g]? = w.heap[g]?) (hR : w'.heap[R]? = w.heap[R]?) : Ring w' g R sz una xs := by
  obtain ⟨fr, C, h1, h2, h3⟩ := h
  exact ⟨fr, C, hg.trans h1, hR.trans h2, h3⟩
theorem ring_below {w w' : World} {n₀ g R sz : Nat} {una : Int} {xs : List Int} (h : Ring w g R sz una xs) (hb : Below n₀ w w') (hg : g < n₀) (hR : R < n₀) : Ring w' g R sz una xs :=
  ring_heap h (hb.block g hg) (hb.block R hR)
theorem ring_grown {w w' : World} {g R sz : Nat} {una : Int} {xs : List Int} {row : Option Nat} (h : Ring w g R sz una xs) (hb : w.grownBy w' row) (hg : row ≠ some g) (hR : row ≠ some R) : Ring w' g R sz una xs :=
  ring_heap h (hb.block g (ring_lt h).1 fun e => hg e.symm) (hb.block R (ring_lt h).2 fun e => hR e.symm)
theorem ring_new {w : World} {g R sz : Nat} {una : Int} (hz : 1 ≤ sz) (hb : w.heap[g]? = some (.cells (c4 R sz 0 0 una) 59 (0, 0))) (hr : w.heap[R]? = some (.cells (Array.replicate sz (.int .u8 0)) 5 (0, 0))) (hgR : g ≠ R) : Ring w g R sz una [] :=
  ⟨0, _, hb, hr, by simp, by omega, by simp, hgR, by simp⟩
theorem write_ring (g R sz : Nat) (una : Int) (xs : List Int) (A : Option Addr) (c : Nat) (D : List Int) (hs : 1 ≤ sz ∧ sz ≤ 1048576) (hc : D.length ≤ c) (w : World) (h : Ring w g R sz una xs) (hd : ReadsInt w .u8 A D.length D) (hA : ∀ ad, A = some ad → 0 < D.length → ad.block ≠ R) :
    Calls Tryd.prog 10 #[.pointer (some ⟨g, 0, none⟩), .slice A D.length c] w fun e w' => ∃ k code : Nat, e = .returned (.tuple #[.int .i64 (k : Int), .int .i64 (code : Int)]) ∧ k = min D.length (sz - xs.length) ∧ code = (if 0 < D.length ∧ xs.length = sz then 251 else 0) ∧
      Ring w' g R sz una (xs ++ D.take k) ∧ (∀ n₀, n₀ ≤ g → n₀ ≤ R → Below n₀ w w') ∧ w.heap.size ≤ w'.heap.size ∧ ∀ b, b ≠ g → b ≠ R → w'.heap[b]? = w.heap[b]? := by
  obtain ⟨fr, C, hb, hr, hC, hf, hn, hgR, hx⟩ := h
  by_cases hfull : 0 < D.length ∧ xs.length = sz
  · refine (write_full g R sz fr _ una A D.length c hfull.1 hd.2.1 (by omega) w hb).mono ?_
    rintro e w' ⟨rfl, hD⟩
    have hh : w'.heap = w.heap := by obtain ⟨k, rfl⟩ := hD.out; simp
    have hk : min D.length (sz - xs.length) = 0 := by omega
    refine ⟨0, 251, rfl, hk.symm, by rw [if_pos hfull], ?_, fun n₀ h1 _ => hD.below.mono (by have := (Array.getElem?_eq_some_iff.1 hb).1; omega), by rw [hh]; exact Nat.le_refl _, fun b _ _ => by rw [hh]⟩
    simp only [List.take_zero, List.append_nil]
    exact ⟨fr, C, by rw [hh]; exact hb, by rw [hh]; exact hr, hC, hf, hn, hgR, hx⟩
  · refine (write_calls' g R sz fr xs.length una C A D.length c D hs hf hn hc hd.2.1 (by omega) hC hgR hA w hb hr hd).mono ?_
    rintro e w' ⟨rfl, hg', hR', hB, ho⟩
    have hgz : g < w.heap.size := (Array.getElem?_eq_some_iff.1 hb).1
    refine ⟨_, 0, rfl, rfl, by rw [if_neg hfull], ?_, hB, (hB 0 (by omega) (by omega)).size, ho⟩
    have hkl : (D.take (min D.length (sz - xs.length))).length = min D.length (sz - xs.length) := by rw [List.length_take]; omega
    have hrw := ring_write C sz fr xs.length (min D.length (sz - xs.length)) ((fr + xs.length) % sz) (min (min D.length (sz - xs.length)) (sz - (fr + xs.length) % sz)) xs (D.take (min D.length (sz - xs.length))) hC hf rfl hkl (by omega) rfl rfl hx
    have hp : (fr + xs.length) % sz < sz := Nat.mod_lt _ (by omega)
    have hl1 : ((D.take (min D.length (sz - xs.length))).take (min (min D.length (sz - xs.length)) (sz - (fr + xs.length) % sz))).length = min (min D.length (sz - xs.length)) (sz - (fr + xs.length) % sz) := by rw [List.length_take, hkl]; omega
    have hl2 : ((D.take (min D.length (sz - xs.length))).drop (min (min D.length (sz - xs.length)) (sz - (fr + xs.length) % sz))).length = min D.length (sz - xs.length) - min (min D.length (sz - xs.length)) (sz - (fr + xs.length) % sz) := by rw [List.length_drop, hkl]
    refine ⟨fr, _, ?_, hR', ?_, hf, ?_, hgR, ?_⟩
    · rw [hg', List.length_append, hkl]
    · rw [size_lay, size_lay, hC]
      · rw [hl1, hC]; omega
      · rw [size_lay, hl2, hC]
        · omega
        · rw [hl1, hC]; omega
    · rw [List.length_append, hkl]; omega
    · intro i hi
      rw [List.length_append, hkl] at hi
      exact hrw i hi
theorem ack_ring (g R sz o : Nat) (una q : Int) (xs : List Int) (hs : 1 ≤ sz ∧ sz ≤ 1048576) (ho : (q - una) % 4294967296 = (o : Int)) (hon : o ≤ xs.length) (w : World) (h : Ring w g R sz una xs) :
    Calls Tryd.prog 11 #[.pointer (some ⟨g, 0, none⟩), .int .u32 q] w fun e w' => e = .returned (.tuple #[.int .i64 o, .int .i64 0]) ∧ Ring w' g R sz q (xs.drop o) ∧ w.grownBy w' (some g) := by
  obtain ⟨fr, C, hb, hr, hC, hf, hn, hgR, hx⟩ := h
  refine (ack_gen g R sz fr xs.length o una q hs hf hn ho hon w hb).mono ?_
  rintro e w' ⟨rfl, hg', hG⟩
  refine ⟨rfl, ⟨(fr + o) % sz, C, ?_, ?_, hC, Nat.mod_lt _ (by omega), ?_, hgR, ?_⟩, hG⟩
  · rw [hg', List.length_drop]
  · rw [hG.block R (Array.getElem?_eq_some_iff.1 hr).1 (fun e => hgR (Option.some.inj e).symm)]; exact hr
  · rw [List.length_drop]; omega
  · intro i hi
    rw [List.length_drop] at hi
    exact ring_ack C sz fr xs.length o xs hf hon hn rfl hx i hi
theorem slice_ring (g R sz off M : Nat) (una q : Int) (xs : List Int) (hs : 1 ≤ sz ∧ sz ≤ 1048576) (ho : (q - una) % 4294967296 = (off : Int)) (hon : off ≤ xs.length) (hM : (M : Int) ≤ 9223372036854775807) (w : World) (h : Ring w g R sz una xs) :
    Calls Tryd.prog 12 #[.pointer (some ⟨g, 0, none⟩), .int .u32 q, .int .i64 M] w fun e w' => ∃ v, e = .returned (.tuple #[v, .int .i64 0]) ∧ w'.ownsRow w.heap.size 5 1 v (min M (xs.length - off)) (nums .u8 ((xs.drop off).take (min M (xs.length - off)))) ∧ Below w.heap.size w w' := by
  obtain ⟨fr, C, hb, hr, hC, hf, hn, hgR, hx⟩ := h
  exact slice_gen g R sz fr xs.length off M una q C xs hs hf hn ho hon hM rfl hx w hb hr
/-- append of octets that are read to a row of one's own. -/
theorem append_run {w0 W : World} (base : Nat) (v : Value) (xs ys : List Int) (A : Option Addr) (c : Nat) (HO : W.ownsRow base 5 1 v xs.length (nums .u8 xs)) (HR : ReadsInt W .u8 A ys.length ys) (HB : Below base w0 W) (hbase : base ≤ W.heap.size) (hl : xs.length + ys.length ≤ 140737488355328) :
    ∃ v1 w1, (Builtin.append_ #[31, 31] 31 #[v, .slice A ys.length c]).run Tryd.prog W = .ok v1 w1 ∧ w1.ownsRow base 5 1 v1 (xs ++ ys).length (nums .u8 (xs ++ ys)) ∧ Below base w0 w1 ∧ W.grownBy w1 v.ownBlock := by
  obtain ⟨i0, hi, hzz⟩ := Option.map_eq_some_iff.1 PZ.info5
  simp only [Prod.mk.injEq] at hzz
  obtain ⟨hz0, hz1, hz2⟩ := hzz
  rcases A with _ | ad
  · have h0 : ys.length = 0 := by
      rcases Nat.eq_zero_or_pos ys.length with h0 | h0
      · exact h0
      · obtain ⟨ad, h, _⟩ := HR.2.2 h0
        cases h
    obtain rfl : ys = [] := List.eq_nil_of_length_eq_zero h0
    refine ⟨v, W, ?_, by simpa using HO, HB, World.grownBy.refl W _⟩
    rcases HO.2 with ⟨rfl, hn⟩ | ⟨g, cap, cur, rfl, _, _, hnc, _⟩
    · simp [Builtin.append_, run_underlying Tryd.underlying31, sizeOf, typeInfo, hi, Builtin.lenOf, Builtin.firstCells]
    · simp [Builtin.append_, run_underlying Tryd.underlying31, sizeOf, typeInfo, hi, Builtin.lenOf, Builtin.firstCells, hnc, storeCells]
  · have hcells : ∀ j u, (nums .u8 ys)[j]? = some u → W.cell? (ad.add j) = some u := by
      intro j u hu
      have hj : j < ys.length := by
        rcases Nat.lt_or_ge j ys.length with h | h
        · exact h
        · simp [nums, List.getElem?_eq_none h] at hu
      obtain ⟨ad', h', hc⟩ := HR.2.2 (by omega)
      injection h' with h'
      subst h'
      have := hc j (by omega)
      simp [nums, List.getElem?_eq_getElem hj] at hu
      subst hu
      rw [this]
      simp [List.getD_eq_getElem?_getD, List.getElem?_eq_getElem hj]
    obtain ⟨v1, w1, hr, h2, h3, _, h5⟩ := run_append_own_at (P := Tryd.prog) W base 31 31 5 i0 (.int .u8 0) 1 1 Tryd.underlying31 hi hz0 hz1 hz2 rfl (by omega) v xs.length (nums .u8 xs) HO ad ys.length c (nums .u8 ys) (by simp [nums]) hcells
      (by intro u hu; simp only [nums, List.mem_map] at hu; obtain ⟨q, _, rfl⟩ := hu; rfl) (by simp only [maxLen]; omega) (by omega) hbase
    exact ⟨v1, w1, hr, by simpa [nums] using h2, HB.grown h3 hbase (own_base HO), h3⟩
end Go.Proofs.YtiphiacidokhiaaDoor.Hand
