/- Cells of a row of the call's own, stored one behind the other. -/
import Derived.Test.YtmhcfdipnofohaaXOwn
import Derived.Test.YtmhcfdipnofohaaXSize
import Derived.OwnWalk
namespace Go.XB
open Go.RowKit

theorem cnt_le_cntL {α : Type} {xs : List α} (f : α → Nat) {k : Nat} {x : α} (h : xs[k]? = some x) : f x ≤ cntL f xs := by
  have := sum_take_le f h; unfold cntL; omega

theorem info_zero {P : Program} {e : TypeId} {size : Nat} (h : (P.info? e).map (fun i => (i.zero.isSome, i.size == size, decide (i.bytes ≤ 1024))) = some (true, true, true)) :
    ∃ i z, P.info? e = some i ∧ i.zero = some z ∧ i.size = size ∧ i.bytes ≤ 1024 := by
  cases hi : P.info? e with
  | none => rw [hi] at h; cases h
  | some i =>
    rw [hi] at h
    simp only [Option.map_some, Option.some.injEq, Prod.mk.injEq, beq_iff_eq, decide_eq_true_eq] at h
    obtain ⟨h1, h2, h3⟩ := h
    cases hz : i.zero with
    | none => rw [hz] at h1; cases h1
    | some z => exact ⟨i, z, rfl, hz, h2, h3⟩

def setCells (w : World) (g i : Nat) : List Value → World
  | [] => w
  | c :: cs => setCells (w.setCell ⟨g, i, none⟩ c) g (i + 1) cs

theorem ownsRow_below {w w' : World} {base : Nat} {e : TypeId} {size : Nat} {v : Value} {n : Nat} {xs : List Value} (h : w.ownsRow base e size v n xs) (hb : Below w.heap.size w w') : w'.ownsRow base e size v n xs :=
  h.kept (row := none) ⟨hb.os, hb.tape, hb.output, hb.size, fun k hk _ => hb.block k hk⟩ (by cases hv : v.ownBlock <;> simp)

theorem own_cell {w : World} {base : Nat} {e : TypeId} {size g n cap : Nat} {xs : List Value} (h : w.ownsRow base e size (.slice (some ⟨g, 0, none⟩) n cap) n xs) (j : Nat) (hj : j < xs.length) :
    ∃ v, w.cell? ⟨g, j, none⟩ = some v := by
  have := World.ownsRow.cellAt h j (by rw [← h.1]; exact hj)
  exact ⟨xs[j], by rw [this, List.getElem?_eq_getElem hj]⟩

theorem own_setCells {base : Nat} {e : TypeId} {size g n cap : Nat} : ∀ {w : World} {xs : List Value} (_ : w.ownsRow base e size (.slice (some ⟨g, 0, none⟩) n cap) n xs) (cs : List Value) (i : Nat),
    (setCells w g i cs).ownsRow base e size (.slice (some ⟨g, 0, none⟩) n cap) n (setFrom xs i cs)
  | _, _, h, [], _ => h
  | _, _, h, c :: cs, i => own_setCells (World.ownsRow.stored h i c).1 cs (i + 1)

theorem heap_setCells (g : Nat) : ∀ (cs : List Value) (w : World) (i k : Nat), k ≠ g → (setCells w g i cs).heap[k]? = w.heap[k]?
  | [], _, _, _, _ => rfl
  | c :: cs, w, i, k, h => (heap_setCells g cs _ (i + 1) k h).trans (Below.heap_setCell w ⟨g, i, none⟩ c k h)

theorem size_setCells (g : Nat) : ∀ (cs : List Value) (w : World) (i : Nat), (setCells w g i cs).heap.size = w.heap.size
  | [], _, _ => rfl
  | c :: cs, w, i => by rw [setCells, size_setCells g cs]; simp [World.setCell]

theorem below_setCells {B g : Nat} {w0 : World} : ∀ {w : World} (_ : Below B w0 w) (_ : B ≤ g) (cs : List Value) (i : Nat), Below B w0 (setCells w g i cs)
  | _, h, _, [], _ => h
  | _, h, hB, c :: cs, i => below_setCells (h.setCell (p := ⟨g, i, none⟩) hB c) hB cs (i + 1)

theorem own_setCells_keep {w0 w : World} {bs : List Nat} {g : Nat} (h : Own w0 w bs) (hg : ∀ b ∈ bs, b ≠ g) {cs : List Value} {i : Nat} : Own w0 (setCells w g i cs) bs :=
  ⟨h.1, fun b hb => ⟨(h.2 b hb).1, by obtain ⟨c, t, e⟩ := (h.2 b hb).2; exact ⟨c, t, (heap_setCells g cs w i b (hg b hb)).trans e⟩⟩⟩

end Go.XB
