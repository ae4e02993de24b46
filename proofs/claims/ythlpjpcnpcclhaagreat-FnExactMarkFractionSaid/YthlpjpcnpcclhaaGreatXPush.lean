/- What a loop leaves as it was. -/
import Derived.Test.YthlpjpcnpcclhaaGreatXFracD
import Derived.Test.YthlpjpcnpcclhaaGreatXPush0
namespace Go.Proofs.YthlpjpcnpcclhaaGreat.X
open Go.RowKit Go.XB Go.XN Go.XS

/-- all blocks of w stand as they were, but those in ex -/
def Keeps (w w' : World) (ex : List Nat) : Prop := w.heap.size ≤ w'.heap.size ∧ ∀ g, g < w.heap.size → g ∉ ex → w'.heap[g]? = w.heap[g]?
theorem Keeps.refl (w : World) (ex : List Nat) : Keeps w w ex := ⟨Nat.le_refl _, fun _ _ _ => rfl⟩
theorem Keeps.below {w w1 w2 : World} {ex : List Nat} {b : Nat} (h : Keeps w w1 ex) (hb : Below b w1 w2) (hl : w.heap.size ≤ b) : Keeps w w2 ex :=
  ⟨Nat.le_trans h.1 hb.size, fun g hg he => (hb.block g (by omega)).trans (h.2 g hg he)⟩
theorem Keeps.next {w w1 w2 : World} {ex : List Nat} (h : Keeps w w1 ex) (hb : Below w1.heap.size w1 w2) : Keeps w w2 ex := h.below hb h.1
theorem Keeps.grown {w w1 w2 : World} {ex : List Nat} {g : Nat} (h : Keeps w w1 ex) (hg : w1.grownBy w2 (some g)) (he : g ∈ ex ∨ w.heap.size ≤ g) : Keeps w w2 ex :=
  ⟨Nat.le_trans h.1 hg.size, fun k hk hx => (hg.block k (Nat.lt_of_lt_of_le hk h.1) (by
    intro e; injection e with e; subst e
    rcases he with he | he
    · exact hx he
    · omega)).trans (h.2 k hk hx)⟩
theorem Keeps.set {w w1 : World} {ex : List Nat} (h : Keeps w w1 ex) (p : Addr) (v : Value) (hp : p.block ∈ ex ∨ w.heap.size ≤ p.block) : Keeps w (w1.setCell p v) ex :=
  ⟨by simpa using h.1, fun k hk hx => (Below.heap_setCell w1 p v k (by
    intro e; subst e
    rcases hp with hp | hp
    · exact hx hp
    · omega)).trans (h.2 k hk hx)⟩
theorem Keeps.sl {α : Type} [Dat α] {w w' : World} {ex : List Nat} (h : Keeps w w' ex) {A : Option Addr} {n c : Nat} {xs : List α} {bs : List Nat} (hs : Sl w A n c xs bs) (hd : ∀ b ∈ bs, b ∉ ex) : Sl w' A n c xs bs :=
  hs.keep fun g hg => h.2 g (hs.lt g hg) (hd g hg)
theorem Keeps.agg {α : Type} [Dat α] {w w' : World} {ex : List Nat} (h : Keeps w w' ex) {v : Value} {x : α} {bs : List Nat} (hs : Agg w v x bs) (hd : ∀ b ∈ bs, b ∉ ex) : Agg w' v x bs :=
  hs.keep fun g hg => h.2 g (hs.lt g hg) (hd g hg)
theorem Keeps.cell {w w' : World} {ex : List Nat} (h : Keeps w w' ex) {p : Addr} (hp : p.block < w.heap.size) (hd : p.block ∉ ex) : w'.cell? p = w.cell? p :=
  World.cell?_of_block (h.2 p.block hp hd)
theorem Row.other {w : World} {base g n cap : Nat} {us : List Int} (h : Row w base g n cap us) (p : Addr) (v : Value) (hp : p.block ≠ g) : Row (w.setCell p v) base g n cap us :=
  World.ownsRow.kept (row := some p.block) h ⟨rfl, rfl, rfl, by simp, fun k _ hne => Below.heap_setCell w p v k (fun e => hne (by rw [e]))⟩ (by simp [Value.ownBlock]; exact fun e => hp e.symm)
theorem Row.lt {w : World} {base g n cap : Nat} {us : List Int} (h : Row w base g n cap us) : g < w.heap.size := by
  rcases row_cases h with ⟨h, _⟩ | ⟨g2, cap2, h, h2, h3, _⟩
  · cases h
  · injection h with h _ _; injection h with h; injection h with h _ _; rw [h]; exact h3
end Go.Proofs.YthlpjpcnpcclhaaGreat.X
