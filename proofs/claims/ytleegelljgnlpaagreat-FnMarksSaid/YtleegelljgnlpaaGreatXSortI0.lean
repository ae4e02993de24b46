/- The shelf's sort of ints, laid at this program, over a row of the call's own. -/
import Derived.Test.YtleegelljgnlpaaGreatP2
import Derived.Ground.NamesProg
import Derived.Shelf.Lay
import Derived.Shelf.Sort.Plain
import Derived.Sort.OwnSortedInts
namespace Go.Proofs
open Go.Shelf
shelf_lay Lays.n189 Nm 189 at Tryz as Tryz.lays189
namespace YtleegelljgnlpaaGreat.X
open Go.RowKit Go.Shelf Go.Sort Go.XB
theorem sort_ints_row (base g n cap : Nat) (us : List Int) (w : World) (h : w.ownsRow base 3 1 (.slice (some ⟨g, 0, none⟩) n cap) n (us.map (.int .i64))) (hm : n ≤ 1048576) :
    Calls Tryz.prog 21 #[.slice (some ⟨g, 0, none⟩) n cap] w fun e w' => e = .returned (.tuple #[]) ∧ w'.ownsRow base 3 1 (.slice (some ⟨g, 0, none⟩) n cap) n ((us.mergeSort fun x y => decide (x ≤ y)).map (.int .i64)) ∧ w.grownBy w' (some g) := by
  obtain rfl : us.length = n := by have := h.1; simpa using this
  rcases h.2 with ⟨h0, _⟩ | ⟨g', cap', cur, hv, hb, hg, hn, hc, hs, ht⟩
  · cases h0
  cases hv
  have hgl : g < w.heap.size := (Array.getElem?_eq_some_iff.1 hg).1
  refine (Any.slices_Sort_int Tryz.lays189 g 0 cap us w (holds_of_blockI hg (by simpa using ht)) hgl (by omega)).mono ?_
  rintro e w' ⟨he, q, os, rfl⟩
  exact ⟨he, ownsRow_sortedI (by rw [List.length_mergeSort]) hb hg hn hc hs, grownBy_sortedI _⟩
end YtleegelljgnlpaaGreat.X
end Go.Proofs
