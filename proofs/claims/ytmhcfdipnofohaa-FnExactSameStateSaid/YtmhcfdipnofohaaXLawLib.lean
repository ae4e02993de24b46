/- For the laws: what a call gives inside a region that draws its order. -/
import Derived.Test.YtmhcfdipnofohaaXLib
import Derived.Test.YtmhcfdipnofohaaXRegion
namespace Go.XB
open Go.RowKit

/-- free to be written, each once -/
def Free (w : World) (bs : List Nat) : Prop := bs.Nodup ∧ ∀ b ∈ bs, ∃ cs t, w.heap[b]? = some (.cells cs t (0, 0))
theorem Free.below {w w' : World} {bs : List Nat} (h : Free w bs) (hb : Below w.heap.size w w') : Free w' bs :=
  ⟨h.1, fun b hm => by obtain ⟨cs, t, e⟩ := h.2 b hm; exact ⟨cs, t, (hb.block b (lt_of_get e)).trans e⟩⟩
theorem Own.free {w0 w : World} {bs : List Nat} (h : Own w0 w bs) : Free w bs := ⟨h.1, fun b hm => (h.2 b hm).2⟩
theorem Own.range {w0 w : World} {bs : List Nat} (h : Own w0 w bs) : ∀ b ∈ bs, w0.heap.size ≤ b ∧ b < w.heap.size := fun b hm => ⟨(h.2 b hm).1, h.lt b hm⟩
theorem Free.own {w0 w : World} {bs : List Nat} (h : Free w bs) (hr : ∀ b ∈ bs, w0.heap.size ≤ b) : Own w0 w bs := ⟨h.1, fun b hm => ⟨hr b hm, h.2 b hm⟩⟩

def MP.agg {α : Type} [Dat α] (x : α) : MP := ⟨fun v bs w => Agg w v x bs ∧ Free w bs, fun _ _ _ _ hb h => ⟨h.1.below hb, h.2.below hb⟩⟩
def MP.sl {α : Type} [Dat α] (xs : List α) : MP := ⟨fun v bs w => (∃ A n c, v = .slice A n c ∧ Sl w A n c xs bs) ∧ Free w bs, fun _ _ _ _ hb h => ⟨(by obtain ⟨A, n, c, e, hs⟩ := h.1; exact ⟨A, n, c, e, hs.below hb⟩), h.2.below hb⟩⟩

theorem gives_eq {P : Program} {f : FuncId} {args : Array Value} {w : World} {v : Value} (h : Calls P f args w (Gives w v)) :
    Calls P f args w fun e w' => ∃ u, e = .returned u ∧ Below w.heap.size w w' ∧ ∃ bs, (MP.eq v).p u bs w' ∧ ∀ b ∈ bs, w.heap.size ≤ b ∧ b < w'.heap.size :=
  h.mono fun _ _ ⟨he, hb⟩ => ⟨v, he, hb, [], ⟨rfl, rfl⟩, fun b hb => by simp at hb⟩
theorem gives_agg {α : Type} [Dat α] {P : Program} {f : FuncId} {args : Array Value} {w : World} {x : α} (h : Calls P f args w (GivesAgg w x)) :
    Calls P f args w fun e w' => ∃ u, e = .returned u ∧ Below w.heap.size w w' ∧ ∃ bs, (MP.agg x).p u bs w' ∧ ∀ b ∈ bs, w.heap.size ≤ b ∧ b < w'.heap.size :=
  h.mono fun _ _ ⟨v, bs, he, ha, ho, hb⟩ => ⟨v, he, hb, bs, ⟨ha, ho.free⟩, ho.range⟩
theorem gives_sl {α : Type} [Dat α] {P : Program} {f : FuncId} {args : Array Value} {w : World} {xs : List α} (h : Calls P f args w (GivesSl w xs)) :
    Calls P f args w fun e w' => ∃ u, e = .returned u ∧ Below w.heap.size w w' ∧ ∃ bs, (MP.sl xs).p u bs w' ∧ ∀ b ∈ bs, w.heap.size ≤ b ∧ b < w'.heap.size :=
  h.mono fun _ _ ⟨A, n, c, bs, he, ha, ho, hb⟩ => ⟨_, he, hb, bs, ⟨⟨A, n, c, rfl, ha⟩, ho.free⟩, ho.range⟩
end Go.XB
