/- A region that draws its order, within a round of a range over a function: by the plain steps (the fence is the wide one). -/
import Derived.OrdersIn
import Derived.RangeFuncCalls
import Derived.RangeFuncNested
import Derived.RangeFuncLeaves
import Derived.RangeFuncBox
import Derived.Test.YtpadboidkpembaaWLast
namespace Go.Proofs.Ytpadboidkpembaa.Lift
open Go.RowKit Go.Proofs.YtpadboidkpembaaW.PrintLast

section
variable {P : Program} {ops : Array Oper} {Q : Exit → Act → World → Prop} {md : Region.Mode}
theorem lift_op {l n i : Nat} {K : Act → World → Prop} {a : Act} {w : World} (hq : ¬ LetsOut Q) (hnd : ∀ (i : Nat) (o : Oper), ops[i]? = some o → ∀ c, o.op ≠ Op.defer c) (h : wpOp P ops Q i K a w) : wpOpIn (Fence.wide.inRound l) n P ops Q i K a w := by
  unfold wpOp at h
  unfold wpOpIn
  cases ho : ops[i]? with
  | none => rw [ho] at h; exact h
  | some o =>
    rw [ho] at h
    simp only at h ⊢
    by_cases hw : Region.wanted o (yielded ops a.tmps) = true
    · rw [if_pos hw] at h ⊢
      have h' := h.resolve_right (fun x => hq x.2)
      refine ⟨fun _ _ => trivial, ?_⟩
      rw [Oper.semAt_eq _ _ _ (hnd i o ho)]
      unfold Oper.wp at h'
      generalize (execOp a.eval o).run P w = r at h' ⊢
      cases r with
      | ok x w' =>
        cases x with
        | value v => exact h'
        | skip => exact h'
        | defer d => exact h'
        | enter f args => exact ⟨(fun hd => by cases hd), CallsIn.inRound l (callsIn_wide.2 h')⟩
        | row r' args =>
          refine ⟨(fun hd => by cases hd), fun c cs _ => ?_⟩
          obtain ⟨v, w'', hr, hs⟩ := h' c cs
          exact ⟨v, w'', hr, stepsIn_wide.2 hs⟩
        | round l' f t as b => exact h'.elim
        | _ => exact h'.elim
      | halt x w' =>
        cases x <;> first | exact h' | exact h'.elim
    · rw [if_neg hw] at h ⊢
      exact ⟨fun _ _ => trivial, h⟩
theorem lift_any {l n : Nat} (hq : ¬ LetsOut Q) (hnd : ∀ (i : Nat) (o : Oper), ops[i]? = some o → ∀ c, o.op ≠ Op.defer c) : ∀ (fuel : Nat) (listed : Array Bool) (a : Act) (w : World), wpAny P md ops Q fuel listed a w → wpAnyIn (Fence.wide.inRound l) n P md ops Q fuel listed a w
  | 0, _, _, _, h => h
  | fuel + 1, _, _, _, h => ⟨h.1, fun i hi => lift_op hq hnd (wpOp_mono (fun a' w' h' => lift_any hq hnd fuel _ a' w' h') (h.2 i hi))⟩
def noDefer (ops : Array Oper) : Bool := ops.all fun o => match o.op with | .defer _ => false | _ => true
theorem noDefer_spec (h : noDefer ops = true) : ∀ (i : Nat) (o : Oper), ops[i]? = some o → ∀ c, o.op ≠ Op.defer c := by
  intro i o ho c hc
  have hm : o ∈ ops := Array.mem_of_getElem? ho
  have := Array.all_eq_true_iff_forall_mem.1 h o hm
  rw [hc] at this
  cases this
/-- As start_, within a round. -/
theorem start_in {id n r k : Nat} {S : World → Prop} {ds : List Nat} {a : Act} {w : World} (l : Array Bool) (hm : P.follows .mixedOrders = true) (hn : ops.size = n) (hl : Array.replicate n false = l) (hq : ¬ LetsOut Q) (hnd : noDefer ops = true) (hS : S w.drew)
    (h : S w.drew → wpAnyLast P .any ops Q S ds n l a w.drew) : (Code.region id ops true).wpIn (Fence.wide.inRound r) k P Q a w := by
  subst hn
  subst hl
  exact wpIn_region_any hm (lift_any hq (noDefer_spec hnd) _ _ _ _ (wpAny_of_last _ _ _ _ (h hS)))
end
end Go.Proofs.Ytpadboidkpembaa.Lift
