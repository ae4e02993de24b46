/- Element k of a slice. -/
import Derived.Test.YtmhcfdipnofohaaXMem
namespace Go.XB
open Go.RowKit

/-- element k, by its cells -/
theorem Sl.getAt {α : Type} [Dat α] {w : World} {A : Option Addr} {n c : Nat} {xs : List α} {bs : List Nat} (h : Sl w A n c xs bs) {k : Nat} (hk : k < n) :
    ∃ b off x cs fs, A = some ⟨b, off, none⟩ ∧ b < w.heap.size ∧ xs[k]? = some x ∧ (∀ j u, cs[j]? = some u → w.cell? ⟨b, off + (k * Dat.sz α + j), none⟩ = some u) ∧ Dat.at_ w cs x fs ∧ ∀ g ∈ fs, g ∈ bs := by
  obtain ⟨h1, h2, h3, h4, h5⟩ := h
  obtain ⟨b, off, bss, hA, hbs, hl, hb, he⟩ := h5 (by omega)
  have hx : xs[k]? = some (xs[k]'(by omega)) := List.getElem?_eq_getElem (by omega)
  have hf : bss[k]? = some (bss[k]'(by omega)) := List.getElem?_eq_getElem (by omega)
  obtain ⟨cs, hc, ha⟩ := he k _ _ hx hf
  exact ⟨b, off, _, cs, _, hA, hb, hx, hc, ha, fun g hg => by rw [hbs]; exact List.mem_cons_of_mem _ (List.mem_flatten.2 ⟨_, List.mem_of_getElem? hf, hg⟩)⟩

end Go.XB
