/- The contract of slices.Reverse over octets: the row lies reversed, nothing else turns; by hand. -/
import Derived.Test.YtpadboidkpembaaProg
import Derived.Below
import Derived.Deep.Draws
import Derived.WalkKit
import Derived.KernelRfl
import Derived.RowKit3
import Derived.Outline
import Derived.Deep.LoopGhost
import Derived.Deep.QuietTactic
import Derived.BigQuiet
import Derived.OwnWalk
import Derived.Laws.Rows
import Derived.Test.YtpadboidkpembaaWWords
import Derived.Test.YtpadboidkpembaaWLast
import Derived.Test.YtpadboidkpembaaWMore
import Derived.Test.YtpadboidkpembaaSkip
namespace Go.Proofs.Ytpadboidkpembaa.Hand
open Go.RowKit Go.Proofs.YtpadboidkpembaaW.PrintWords Go.Proofs.YtpadboidkpembaaW.PrintLast Go.Proofs.YtpadboidkpembaaW.PrintMore
set_option linter.unusedVariables false
set_option linter.unusedSimpArgs false

theorem info5 : (Try.prog.info? 5).map (fun i => (i.zero, i.size, i.bytes)) = some (some (.int .u8 0), 1, 1) := by kernel_rfl
theorem c_new (k : IntKind) (W : World) (xs : List Int) (t : TypeId) (n : Nat) (hn : n = xs.length) (hl : xs.length ≤ 1000) : (Kd.int k).C (W.alloc (.cells (encs (Value.int k) xs).toArray t)) (some ⟨W.heap.size, 0, none⟩) n xs := by
  subst hn
  refine Kd.C_of_reads (d := (0 : Int)) (h1 := fun _ => rfl) ⟨rfl, by omega, fun _ => ⟨_, rfl, fun j hj => ?_⟩⟩
  have e : (⟨W.heap.size, 0, none⟩ : Addr).add j = ⟨W.heap.size, j, none⟩ := by simp [Addr.add]; omega
  rw [e]
  exact (blk_cell (blk_new W _) j).trans (by simp [encs, hj])
/-- k places at each end exchanged. -/
def revK (xs : List Int) : Nat → List Int
  | 0 => xs
  | k + 1 => ((revK xs k).set k (rd xs (xs.length - 1 - k : Nat))).set (xs.length - 1 - k) (rd xs (k : Nat))
theorem revK_len (xs : List Int) : ∀ k, (revK xs k).length = xs.length
  | 0 => rfl
  | k + 1 => by rw [revK, List.length_set, List.length_set, revK_len xs k]
theorem revK_get (xs : List Int) : ∀ (k : Nat), 2 * k ≤ xs.length → ∀ j, j < xs.length → (revK xs k)[j]? = if j < k ∨ xs.length - 1 - k < j then xs[xs.length - 1 - j]? else xs[j]?
  | 0, _, j, hj => by rw [revK, if_neg (by omega)]
  | k + 1, hk, j, hj => by
    have ih := revK_get xs k (by omega) j hj
    have hrd : ∀ i, i < xs.length → some (rd xs (i : Nat)) = xs[i]? := fun i hi => by simp [rd, List.getD, hi]
    rw [revK, List.getElem?_set, List.getElem?_set]
    simp only [List.length_set, revK_len]
    by_cases h1 : xs.length - 1 - k = j
    · rw [if_pos h1, if_pos (by omega), if_pos (by omega), hrd k (by omega)]
      congr 1
      omega
    · rw [if_neg h1]
      by_cases h2 : k = j
      · rw [if_pos h2, if_pos (by omega), if_pos (by omega), hrd _ (by omega)]
        congr 1
        omega
      · rw [if_neg h2, ih]
        by_cases h3 : j < k ∨ xs.length - 1 - k < j
        · rw [if_pos h3, if_pos (by omega)]
        · rw [if_neg h3, if_neg (by omega)]
theorem revK_all (xs : List Int) (k : Nat) (h : 2 * k ≤ xs.length) (h2 : xs.length ≤ 2 * k + 1) : revK xs k = xs.reverse := by
  apply List.ext_getElem?
  intro j
  by_cases hj : j < xs.length
  · rw [revK_get xs k h j hj, List.getElem?_reverse hj]
    by_cases c : j < k ∨ xs.length - 1 - k < j
    · rw [if_pos c]
    · rw [if_neg c]
      congr 1
      omega
  · rw [List.getElem?_eq_none (by rw [revK_len]; omega), List.getElem?_eq_none (by rw [List.length_reverse]; omega)]
theorem revK_mid (xs : List Int) (k j : Nat) (h : 2 * k ≤ xs.length) (hj : j < xs.length) (h1 : k ≤ j) (h2 : j ≤ xs.length - 1 - k) : rd (revK xs k) (j : Nat) = rd xs (j : Nat) := by
  have := revK_get xs k h j hj
  rw [if_neg (by omega)] at this
  unfold rd
  simp only [List.getD_eq_getElem?_getD, Int.toNat_natCast]
  rw [this]

set_option maxHeartbeats 4000000 in
set_option maxRecDepth 100000 in
theorem rev_calls (base g c n : Nat) (ok : Nat → Prop) (xs : List Int) (w : World) (hn : xs.length = n) (hs : n ≤ 1000000) (ho : Kd.R (Kd.int .u8) 5 w base ok (.slice (some ⟨g, 0, none⟩) n c) xs) :
    Calls Try.prog 23 #[.slice (some ⟨g, 0, none⟩) n c] w fun e w' => e = .returned (.tuple #[]) ∧ Kd.R (Kd.int .u8) 5 w' base ok (.slice (some ⟨g, 0, none⟩) n c) xs.reverse ∧ w.grownBy w' (some g) := by
  have HN := Aside0.mk hn
  have HO := Aside0.mk ho
  clear hn ho
  go_enter Try.func23, Try.ntmps23
  go_wp2
  go_loopw [2, 3] (fun a b wr => ∃ k : Nat, 2 * k ≤ n ∧ a = .int .i64 (k : Nat) ∧ b = .int .i64 ((n : Int) - 1 - k) ∧ Kd.R (Kd.int .u8) 5 wr base ok (.slice (some ⟨g, 0, none⟩) n c) (revK xs k) ∧ w.grownBy wr (some g)) (fun a _ _ => n - (intOf a).toNat)
  case atStart => exact ⟨0, by omega, rfl, by go_num, HO.out, ⟨rfl, rfl, rfl, Nat.le_refl _, fun _ _ _ => rfl⟩⟩
  case round =>
    obtain ⟨k, hk, rfl, rfl, hR, hG⟩ := hrel
    have HR := Aside0.mk hR
    have HG := Aside0.mk hG
    clear hR hG
    by_cases hlt : 2 * k + 1 < n
    · have c1 := Kd.R_celln (0 : Int) HR.out (k : Int) (by omega) (by omega)
      have c2 := Kd.R_celln (0 : Int) HR.out ((n - 1 - k : Nat) : Int) (by omega) (by omega)
      have e1 : rdOf (0 : Int) (revK xs k) (k : Int) = rd xs (k : Nat) := revK_mid xs k k (by have := HN.out; omega) (by have := HN.out; omega) (by omega) (by have := HN.out; omega)
      have e2 : rdOf (0 : Int) (revK xs k) ((n - 1 - k : Nat) : Int) = rd xs (n - 1 - k : Nat) := revK_mid xs k (n - 1 - k) (by have := HN.out; omega) (by have := HN.out; omega) (by omega) (by have := HN.out; omega)
      rw [e1] at c1
      rw [e2] at c2
      clear e1 e2
      obtain ⟨j, hj⟩ : ∃ j, n - 1 - k = j := ⟨_, rfl⟩
      obtain ⟨x, hx⟩ : ∃ x, rd xs (k : Nat) = x := ⟨_, rfl⟩
      obtain ⟨y, hy⟩ : ∃ y, rd xs (n - 1 - k : Nat) = y := ⟨_, rfl⟩
      rw [hx] at c1
      rw [hy, hj] at c2
      have ej : (n : Int) - 1 - k = (j : Int) := by omega
      rw [ej]
      obtain ⟨c1, f1⟩ := c1
      obtain ⟨c2, f2⟩ := c2
      simp only [Int.toNat_natCast] at c1 f1 c2 f2
      have hkj : k < j := by omega
      have hjn : j < n := by omega
      have hkn : k < n := by omega
      have HJ := Aside0.mk (And.intro hj (And.intro hx hy))
      clear hj hx hy ej
      go_wp2
      refine start_ (n := 16) (S := fun w' => w'.cell? ⟨g, j, none⟩ = some (.int .u8 y) ∧ w'.cell? ⟨g, k, none⟩ = some (.int .u8 x)) (ds := [13, 15]) (bs 16 0) (by kernel_rfl) rfl rfl ⟨c2, c1⟩ (fun hHeld => ?_)
      have hRd : Kd.R (Kd.int .u8) 5 wr.drew base ok (.slice (some ⟨g, 0, none⟩) n c) (revK xs k) := Kd.R_drew HR.out
      have hGd : w.grownBy wr.drew (some g) := ⟨HG.out.os, HG.out.tape, HG.out.output, HG.out.size, HG.out.block⟩
      have c1d : wr.drew.cell? ⟨g, k, none⟩ = some (.int .u8 x) := c1
      have f1d : wr.drew.frozen? ⟨g, k, none⟩ = false := f1
      clear c1 c2 f1 f2
      generalize wr.drew = wd at hHeld hRd hGd c1d f1d ⊢
      refine pure_ (i := 0) (N := some 14) (v := ?_) (a' := ?_) (bs 16 1) rfl rfl (by kernel_rfl) (fun _ _ _ h => h) (Or.inl ⟨by rfl, ?_⟩) ?_ ?_; rotate_left; (intro w'; go_simp; with_reducible rfl); rotate_left; (simp only [Act.put, q1_, q2_, q3_, i64_w, i32_w]; rfl)
      refine pure_ (i := 1) (N := some 15) (v := ?_) (a' := ?_) (bs 16 3) rfl rfl (by kernel_rfl) (fun _ _ _ h => h) (Or.inl ⟨by rfl, ?_⟩) ?_ ?_; rotate_left; (intro w'; go_simp; with_reducible rfl); rotate_left; (simp only [Act.put, q1_, q2_, q3_, i64_w, i32_w]; rfl)
      refine pure_ (i := 2) (N := some 16) (v := ?_) (a' := ?_) (bs 16 7) rfl rfl (by kernel_rfl) (fun _ _ _ h => h) (Or.inl ⟨by rfl, ?_⟩) ?_ ?_; rotate_left; (intro w'; go_simp; with_reducible rfl); rotate_left; (simp only [Act.put, q1_, q2_, q3_, i64_w, i32_w]; rfl)
      refine pure_ (i := 3) (N := some 17) (v := ?_) (a' := ?_) (bs 16 15) rfl rfl (by kernel_rfl) (fun _ _ _ h => h) (Or.inl ⟨by rfl, ?_⟩) ?_ ?_; rotate_left; (intro w'; go_simp; with_reducible rfl); rotate_left; (simp only [Act.put, q1_, q2_, q3_, i64_w, i32_w]; rfl)
      refine pure_ (i := 4) (N := some 18) (v := ?_) (a' := ?_) (bs 16 31) rfl rfl (by kernel_rfl) (fun _ _ _ h => h) (Or.inl ⟨by rfl, ?_⟩) ?_ ?_; rotate_left; (intro w'; go_simp; with_reducible rfl); rotate_left; (simp only [Act.put, q1_, q2_, q3_, i64_w, i32_w]; rfl)
      refine pure_ (i := 5) (N := some 19) (v := ?_) (a' := ?_) (bs 16 63) rfl rfl (by kernel_rfl) (fun _ _ _ h => h) (Or.inl ⟨by rfl, ?_⟩) ?_ ?_; rotate_left; (intro w'; go_simp; with_reducible rfl); rotate_left; (simp only [Act.put, q1_, q2_, q3_, i64_w, i32_w]; rfl)
      refine pure_ (i := 6) (N := some 20) (v := ?_) (a' := ?_) (bs 16 127) rfl rfl (by kernel_rfl) (fun _ _ _ h => h) (Or.inl ⟨by rfl, ?_⟩) ?_ ?_; rotate_left; (intro w'; go_simp; with_reducible rfl); rotate_left; (simp only [Act.put, q1_, q2_, q3_, i64_w, i32_w]; rfl)
      refine take_ (i := 7) (N := some 21) (v := ?_) (a' := ?_) (bs 16 255) rfl rfl (by kernel_rfl) (fun _ _ _ h => h) (Or.inl ⟨by rfl, ?_⟩) hHeld ?_ ?_; rotate_left; (rintro w' ⟨s0, s1⟩; go_simp; with_reducible rfl); rotate_left; (simp only [Act.put, q1_, q2_, q3_, i64_w, i32_w]; rfl)
      refine pure_ (i := 8) (N := some 22) (v := ?_) (a' := ?_) (bs 16 511) rfl rfl (by kernel_rfl) (fun _ _ _ h => h) (Or.inl ⟨by rfl, ?_⟩) ?_ ?_; rotate_left; (intro w'; go_simp; with_reducible rfl); rotate_left; (simp only [Act.put, q1_, q2_, q3_, i64_w, i32_w]; rfl)
      refine pure_ (i := 9) (N := some 23) (v := ?_) (a' := ?_) (bs 16 1023) rfl rfl (by kernel_rfl) (fun _ _ _ h => h) (Or.inl ⟨by rfl, ?_⟩) ?_ ?_; rotate_left; (intro w'; go_simp; with_reducible rfl); rotate_left; (simp only [Act.put, q1_, q2_, q3_, i64_w, i32_w]; rfl)
      refine pure_ (i := 10) (N := some 24) (v := ?_) (a' := ?_) (bs 16 2047) rfl rfl (by kernel_rfl) (fun _ _ _ h => h) (Or.inl ⟨by rfl, ?_⟩) ?_ ?_; rotate_left; (intro w'; go_simp; with_reducible rfl); rotate_left; (simp only [Act.put, q1_, q2_, q3_, i64_w, i32_w]; rfl)
      refine take_ (i := 11) (N := some 25) (v := ?_) (a' := ?_) (bs 16 4095) rfl rfl (by kernel_rfl) (fun _ _ _ h => h) (Or.inl ⟨by rfl, ?_⟩) hHeld ?_ ?_; rotate_left; (rintro w' ⟨s0, s1⟩; go_simp; with_reducible rfl); rotate_left; (simp only [Act.put, q1_, q2_, q3_, i64_w, i32_w]; rfl)
      refine pure_ (i := 12) (N := some 26) (v := ?_) (a' := ?_) (bs 16 8191) rfl rfl (by kernel_rfl) (fun _ _ _ h => h) (Or.inl ⟨by rfl, ?_⟩) ?_ ?_; rotate_left; (intro w'; go_simp; with_reducible rfl); rotate_left; (simp only [Act.put, q1_, q2_, q3_, i64_w, i32_w]; rfl)
      refine last_ (i := 13) (N := none) (bs 16 16383) rfl rfl (by kernel_rfl) (by decide) (fun K hK => ?_)
      refine skip_ (w1 := wd.setCell ⟨g, k, none⟩ (.int .u8 y)) (by rfl) rfl (by go_simp) ?_
      refine hK.out _ _ ?_; clear hK K
      have hR2 := Kd.R_putn hRd (k : Int) y
      simp only [Int.toNat_natCast] at hR2
      have c3 := Kd.R_celln (0 : Int) hR2 (j : Int) (by omega) (by omega)
      obtain ⟨c3, f3⟩ := c3
      simp only [Int.toNat_natCast] at c3 f3
      generalize hw2 : wd.setCell ⟨g, k, none⟩ (.int .u8 y) = w2 at *
      refine pure_ (i := 14) (N := some 27) (v := ?_) (a' := ?_) (bs 16 32767) rfl rfl (by kernel_rfl) (fun _ _ _ h => h) (Or.inl ⟨by rfl, ?_⟩) ?_ ?_; rotate_left; (intro w'; go_simp; with_reducible rfl); rotate_left; (simp only [Act.put, q1_, q2_, q3_, i64_w, i32_w]; rfl)
      refine last_ (i := 15) (N := none) (bs 16 65535) rfl rfl (by kernel_rfl) (by decide) (fun K hK => ?_)
      refine skip_ (w1 := w2.setCell ⟨g, j, none⟩ (.int .u8 x)) (by rfl) rfl (by go_simp) ?_
      refine hK.out _ _ ?_; clear hK K
      have hR3 := Kd.R_putn hR2 (j : Int) x
      simp only [Int.toNat_natCast] at hR3
      refine done_ (by kernel_rfl) ?_
      obtain ⟨hj, hx, hy⟩ := HJ.out
      have hG3 : w.grownBy (w2.setCell ⟨g, j, none⟩ (.int .u8 x)) (some g) := by
        have g1 := (Kd.R_putn (i := (k : Int)) (x := y) hRd)
        rw [← hw2]
        refine ⟨hGd.os, hGd.tape, hGd.output, ?_, fun q hq hne => ?_⟩
        · simpa using hGd.size
        · exact (Below.heap_setCell _ _ _ q (fun e => hne (by rw [e]))).trans ((Below.heap_setCell _ _ _ q (fun e => hne (by rw [e]))).trans (hGd.block q hq hne))
      have hR4 : Kd.R (Kd.int .u8) 5 (w2.setCell ⟨g, j, none⟩ (.int .u8 x)) base ok (.slice (some ⟨g, 0, none⟩) n c) (revK xs (k + 1)) := by
        rw [revK, HN.out, hj, hx, ← hj, hy, hj]; exact hR3
      clear hR2 hR3 hw2 c3 f3
      go_wp2
      go_roundw
      case rel => exact ⟨k + 1, by omega, by go_num, by rw [← hj]; go_num, hR4, hG3⟩
      case measure => simp [intOf]; omega
    · have hlt2 : decide ((k : Int) < (n : Int) - 1 - k) = false := decide_eq_false (by omega)
      go_wp2
      go_end0
      exact ⟨rfl, by have h2 := revK_all xs k (by have := HN.out; omega) (by have := HN.out; omega); rw [← h2]; exact HR.out, HG.out⟩
end Go.Proofs.Ytpadboidkpembaa.Hand
