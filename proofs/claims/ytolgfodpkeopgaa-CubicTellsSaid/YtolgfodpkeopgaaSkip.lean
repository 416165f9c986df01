/- Steps of a world that turn no block, passed over at once: what stood in a block still stands there. -/
import Derived.Test.YtolgfodpkeopgaaWWords
namespace Go.Proofs.YtolgfodpkeopgaaW.PrintMore
open Go.RowKit Go.Proofs.YtolgfodpkeopgaaW.PrintWords

/-- V is W with draws and new blocks on top. -/
class Skp (V : World) (W : outParam World) : Prop where
  out : ∀ {g : Nat} {o : Obj}, W.heap[g]? = some o → V.heap[g]? = some o
instance (priority := 10) skp_none (W : World) : Skp W W := ⟨fun h => h⟩
instance skp_drew (V W : World) [h : Skp V W] : Skp V.drew W := ⟨fun k => blk_drew (h.out k)⟩
instance skp_drewN (V W : World) (n : Nat) [h : Skp V W] : Skp (V.drewN n) W := ⟨fun k => blk_drewN (h.out k) n⟩
instance skp_alloc (V W : World) (o : Obj) [h : Skp V W] : Skp (V.alloc o) W := ⟨fun k => blk_alloc (h.out k) o⟩
theorem skp_ {V W : World} [h : Skp V W] {g : Nat} {o : Obj} (k : W.heap[g]? = some o) : V.heap[g]? = some o := h.out k
end Go.Proofs.YtolgfodpkeopgaaW.PrintMore
