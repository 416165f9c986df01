/- Steps of a world that turn no block, or that write into one, passed over at once; short words for what a printed text says again and again. -/
import Derived.Test.YtigmlklcbhlmpaaWMore
import Derived.Test.YtigmlklcbhlmpaaWTab
namespace Go.Proofs.YtigmlklcbhlmpaaW.PrintMore
open Go.RowKit Go.Proofs.YtigmlklcbhlmpaaW.PrintWords Go.Proofs.YtigmlklcbhlmpaaW.PrintLast

/-- V is W with draws and new blocks on top. -/
class Skp (V : World) (W : outParam World) : Prop where
  out : ∀ {g : Nat} {o : Obj}, W.heap[g]? = some o → V.heap[g]? = some o
instance (priority := 10) skp_none (W : World) : Skp W W := ⟨fun h => h⟩
instance skp_drew (V W : World) [h : Skp V W] : Skp V.drew W := ⟨fun k => blk_drew (h.out k)⟩
instance skp_drewN (V W : World) (n : Nat) [h : Skp V W] : Skp (V.drewN n) W := ⟨fun k => blk_drewN (h.out k) n⟩
instance skp_alloc (V W : World) (o : Obj) [h : Skp V W] : Skp (V.alloc o) W := ⟨fun k => blk_alloc (h.out k) o⟩
theorem skp_ {V W : World} [h : Skp V W] {g : Nat} {o : Obj} (k : W.heap[g]? = some o) : V.heap[g]? = some o := h.out k
/-- The same, with stores into block b. -/
class Skf (V : World) (b : Nat) (W : outParam World) : Prop where
  out : ∀ {g : Nat} {cs : Array Value} {t : TypeId}, g ≠ b → W.heap[g]? = some (.cells cs t (0, 0)) → V.heap[g]? = some (.cells cs t (0, 0))
instance (priority := 10) skf_none (W : World) (b : Nat) : Skf W b W := ⟨fun _ h => h⟩
instance skf_drew (V W : World) (b : Nat) [h : Skf V b W] : Skf V.drew b W := ⟨fun n k => blk_drew (h.out n k)⟩
instance skf_drewN (V W : World) (b n : Nat) [h : Skf V b W] : Skf (V.drewN n) b W := ⟨fun m k => blk_drewN (h.out m k) n⟩
instance skf_alloc (V W : World) (b : Nat) (o : Obj) [h : Skf V b W] : Skf (V.alloc o) b W := ⟨fun n k => blk_alloc (h.out n k) o⟩
instance skf_set (V W : World) (b i : Nat) (u : Value) [h : Skf V b W] : Skf (V.setCell ⟨b, i, none⟩ u) b W := ⟨fun n k => blk_far (h.out n k) (p := ⟨b, i, none⟩) n u⟩
theorem far_ {V W : World} {g b : Nat} (n : g ≠ b) [h : Skf V b W] {cs : Array Value} {t : TypeId} (k : W.heap[g]? = some (.cells cs t (0, 0))) : V.heap[g]? = some (.cells cs t (0, 0)) := h.out n k
/-- V is W with draws, new blocks, and stores into block g, whose cells have gone through f. -/
class Skq (V : World) (g : Nat) (W : outParam World) (f : outParam (Array Value → Array Value)) : Prop where
  out : ∀ {cs : Array Value} {t : TypeId}, W.heap[g]? = some (.cells cs t (0, 0)) → V.heap[g]? = some (.cells (f cs) t (0, 0))
instance (priority := 10) skq_none (W : World) (g : Nat) : Skq W g W (fun cs => cs) := ⟨fun h => h⟩
instance skq_drew (V W : World) (g : Nat) (f : Array Value → Array Value) [h : Skq V g W f] : Skq V.drew g W f := ⟨fun k => blk_drew (h.out k)⟩
instance skq_drewN (V W : World) (g n : Nat) (f : Array Value → Array Value) [h : Skq V g W f] : Skq (V.drewN n) g W f := ⟨fun k => blk_drewN (h.out k) n⟩
instance skq_alloc (V W : World) (g : Nat) (o : Obj) (f : Array Value → Array Value) [h : Skq V g W f] : Skq (V.alloc o) g W f := ⟨fun k => blk_alloc (h.out k) o⟩
instance skq_set (V W : World) (g i : Nat) (u : Value) (f : Array Value → Array Value) [h : Skq V g W f] : Skq (V.setCell ⟨g, i, none⟩ u) g W (fun cs => (f cs).setIfInBounds i u) := ⟨fun k => blk_put (h.out k) i u rfl⟩
theorem put_ {V W : World} {g : Nat} {f : Array Value → Array Value} [h : Skq V g W f] {cs cs' : Array Value} {t : TypeId} (k : W.heap[g]? = some (.cells cs t (0, 0))) (e : f cs = cs') : V.heap[g]? = some (.cells cs' t (0, 0)) := e ▸ h.out k
theorem q1_ {α : Type} (xs : List α) (i : Nat) (a : α) : xs.toArray.setIfInBounds i a = (xs.set i a).toArray := List.setIfInBounds_toArray xs i a
theorem q2_ {α : Type} (x a : α) (xs : List α) : (x :: xs).set 0 a = a :: xs := List.set_cons_zero
theorem q3_ {α : Type} (x a : α) (xs : List α) (i : Nat) : (x :: xs).set (i + 1) a = x :: xs.set i a := List.set_cons_succ
/-- V is W with draws, new blocks, and stores into blocks of bs. -/
class In_ (b : Nat) (bs : List Nat) : Prop where
  out : b ∈ bs
instance in_head (b : Nat) (l : List Nat) : In_ b (b :: l) := ⟨List.mem_cons_self⟩
instance in_tail (b c : Nat) (l : List Nat) [h : In_ b l] : In_ b (c :: l) := ⟨List.mem_cons_of_mem _ h.out⟩
class Skm (V : World) (bs : List Nat) (W : outParam World) : Prop where
  out : ∀ {n : Nat} {w : World}, (∀ b ∈ bs, n ≤ b) → n ≤ w.heap.size → Below n w W → Below n w V
instance (priority := 10) skm_none (W : World) (bs : List Nat) : Skm W bs W := ⟨fun _ _ h => h⟩
instance skm_drew (V W : World) (bs : List Nat) [h : Skm V bs W] : Skm V.drew bs W := ⟨fun n z k => (h.out n z k).drew⟩
instance skm_drewN (V W : World) (bs : List Nat) (q : Nat) [h : Skm V bs W] : Skm (V.drewN q) bs W := ⟨fun n z k => let r := h.out n z k; ⟨r.os, r.tape, r.output, r.size, r.block⟩⟩
instance skm_alloc (V W : World) (bs : List Nat) (o : Obj) [h : Skm V bs W] : Skm (V.alloc o) bs W := ⟨fun n z k => (h.out n z k).alloc (Nat.le_trans z (h.out n z k).size) o⟩
instance skm_set (V W : World) (bs : List Nat) (b i : Nat) (u : Value) [h : Skm V bs W] [m : In_ b bs] : Skm (V.setCell ⟨b, i, none⟩ u) bs W := ⟨fun n z k => (h.out n z k).setCell (n b m.out) u⟩
theorem bel0 {w V W : World} (k : Below w.heap.size w W) [h : Skm V [] W] : Below w.heap.size w V := h.out (by simp) (Nat.le_refl _) k
theorem bel1 {w V W : World} {a : Nat} (k : Below w.heap.size w W) (ha : w.heap.size ≤ a) [h : Skm V [a] W] : Below w.heap.size w V := h.out (by simp [ha]) (Nat.le_refl _) k
theorem bel2 {w V W : World} {a b : Nat} (k : Below w.heap.size w W) (ha : w.heap.size ≤ a) (hb : w.heap.size ≤ b) [h : Skm V [a, b] W] : Below w.heap.size w V := h.out (by simp [ha, hb]) (Nat.le_refl _) k
theorem bel3 {w V W : World} {a b c : Nat} (k : Below w.heap.size w W) (ha : w.heap.size ≤ a) (hb : w.heap.size ≤ b) (hc : w.heap.size ≤ c) [h : Skm V [a, b, c] W] : Below w.heap.size w V := h.out (by simp [ha, hb, hc]) (Nat.le_refl _) k
theorem bel4 {w V W : World} {a b c d : Nat} (k : Below w.heap.size w W) (ha : w.heap.size ≤ a) (hb : w.heap.size ≤ b) (hc : w.heap.size ≤ c) (hd : w.heap.size ≤ d) [h : Skm V [a, b, c, d] W] : Below w.heap.size w V := h.out (by simp [ha, hb, hc, hd]) (Nat.le_refl _) k
/-- A row of n truths, as the bits of a number. -/
def bsL : Nat → Nat → List Bool
  | 0, _ => []
  | n + 1, m => (m % 2 == 1) :: bsL n (m / 2)
def bs (n m : Nat) : Array Bool := (bsL n m).toArray
variable {P : Program} {ops : Array Oper} {Q : Exit → Act → World → Prop} {md : Region.Mode} {S : World → Prop} {ds : List Nat} {T : Bool × List (List Nat × List Nat)}
theorem pu_ {i : Nat} {N : Option Tmp} {oi : Oper} {v : Value} {fuel : Nat} {l : Array Bool} {a : Act} {w : World} (l' : Array Bool) (hi : ops[i]? = some oi) (hN : oi.dst = N) (hT : rtab md ops = T) (hc : anyT T l.toList l'.toList i = true)
    (hQ : ∀ c a w, Q (.panic c) (a.put oi.dst v) w → Q (.panic c) a w) (hy : Region.wanted oi (yielded ops a.tmps) = true ∧ ∀ w, (execOp a.eval oi).run P w = .ok (.value v) w) {a' : Act} (ha : a.put N v = a') (h : wpAnyLast P md ops Q S ds fuel l' a' w) : wpAnyLast P md ops Q S ds (fuel + 1) l a w :=
  pure_ l' hi hN (any_of hT hc) hQ (Or.inl hy) ha h
theorem cz3 {w : World} {g : Nat} {t : TypeId} {a b c : Value} (h : w.heap[g]? = some (.cells #[a, b, c] t (0, 0))) : w.cell? ⟨g, 0, none⟩ = some a ∧ w.cell? ⟨g, 1, none⟩ = some b ∧ w.cell? ⟨g, 2, none⟩ = some c :=
  ⟨(blk_cell h 0).trans rfl, (blk_cell h 1).trans rfl, (blk_cell h 2).trans rfl⟩
theorem cz4 {w : World} {g : Nat} {t : TypeId} {a b c d : Value} (h : w.heap[g]? = some (.cells #[a, b, c, d] t (0, 0))) : w.cell? ⟨g, 0, none⟩ = some a ∧ w.cell? ⟨g, 1, none⟩ = some b ∧ w.cell? ⟨g, 2, none⟩ = some c ∧ w.cell? ⟨g, 3, none⟩ = some d :=
  ⟨(blk_cell h 0).trans rfl, (blk_cell h 1).trans rfl, (blk_cell h 2).trans rfl, (blk_cell h 3).trans rfl⟩
theorem cz5 {w : World} {g : Nat} {t : TypeId} {a b c d e : Value} (h : w.heap[g]? = some (.cells #[a, b, c, d, e] t (0, 0))) : w.cell? ⟨g, 0, none⟩ = some a ∧ w.cell? ⟨g, 1, none⟩ = some b ∧ w.cell? ⟨g, 2, none⟩ = some c ∧ w.cell? ⟨g, 3, none⟩ = some d ∧ w.cell? ⟨g, 4, none⟩ = some e :=
  ⟨(blk_cell h 0).trans rfl, (blk_cell h 1).trans rfl, (blk_cell h 2).trans rfl, (blk_cell h 3).trans rfl, (blk_cell h 4).trans rfl⟩
theorem cz6 {w : World} {g : Nat} {t : TypeId} {a b c d e f : Value} (h : w.heap[g]? = some (.cells #[a, b, c, d, e, f] t (0, 0))) : w.cell? ⟨g, 0, none⟩ = some a ∧ w.cell? ⟨g, 1, none⟩ = some b ∧ w.cell? ⟨g, 2, none⟩ = some c ∧ w.cell? ⟨g, 3, none⟩ = some d ∧ w.cell? ⟨g, 4, none⟩ = some e ∧ w.cell? ⟨g, 5, none⟩ = some f :=
  ⟨(blk_cell h 0).trans rfl, (blk_cell h 1).trans rfl, (blk_cell h 2).trans rfl, (blk_cell h 3).trans rfl, (blk_cell h 4).trans rfl, (blk_cell h 5).trans rfl⟩
theorem cz7 {w : World} {g : Nat} {t : TypeId} {a b c d e f q : Value} (h : w.heap[g]? = some (.cells #[a, b, c, d, e, f, q] t (0, 0))) : w.cell? ⟨g, 0, none⟩ = some a ∧ w.cell? ⟨g, 1, none⟩ = some b ∧ w.cell? ⟨g, 2, none⟩ = some c ∧ w.cell? ⟨g, 3, none⟩ = some d ∧ w.cell? ⟨g, 4, none⟩ = some e ∧ w.cell? ⟨g, 5, none⟩ = some f ∧ w.cell? ⟨g, 6, none⟩ = some q :=
  ⟨(blk_cell h 0).trans rfl, (blk_cell h 1).trans rfl, (blk_cell h 2).trans rfl, (blk_cell h 3).trans rfl, (blk_cell h 4).trans rfl, (blk_cell h 5).trans rfl, (blk_cell h 6).trans rfl⟩
theorem cz8 {w : World} {g : Nat} {t : TypeId} {a b c d e f q r : Value} (h : w.heap[g]? = some (.cells #[a, b, c, d, e, f, q, r] t (0, 0))) : w.cell? ⟨g, 0, none⟩ = some a ∧ w.cell? ⟨g, 1, none⟩ = some b ∧ w.cell? ⟨g, 2, none⟩ = some c ∧ w.cell? ⟨g, 3, none⟩ = some d ∧ w.cell? ⟨g, 4, none⟩ = some e ∧ w.cell? ⟨g, 5, none⟩ = some f ∧ w.cell? ⟨g, 6, none⟩ = some q ∧ w.cell? ⟨g, 7, none⟩ = some r :=
  ⟨(blk_cell h 0).trans rfl, (blk_cell h 1).trans rfl, (blk_cell h 2).trans rfl, (blk_cell h 3).trans rfl, (blk_cell h 4).trans rfl, (blk_cell h 5).trans rfl, (blk_cell h 6).trans rfl, (blk_cell h 7).trans rfl⟩
end Go.Proofs.YtigmlklcbhlmpaaW.PrintMore
