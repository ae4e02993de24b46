/- A row of the call's own that is filled with data: by stores, by appends; and the slice that it is in the end. -/
import Derived.Test.YtmhcfdipnofohaaXLib
namespace Go.XB
open Go.RowKit

/-- The cells hold these data, one behind the other; the rest is open. -/
def Filled {α : Type} [Dat α] (w : World) (cells : List Value) (xs : List α) (fss : List (List Nat)) : Prop :=
  fss.length = xs.length ∧ xs.length * Dat.sz α ≤ cells.length ∧ ∀ k x fs, xs[k]? = some x → fss[k]? = some fs → Dat.at_ w ((cells.drop (k * Dat.sz α)).take (Dat.sz α)) x fs

section
variable {α : Type} [Dat α] {w w' : World} {cells : List Value} {xs : List α} {fss : List (List Nat)}

theorem Filled.nil (w : World) (cells : List Value) : Filled (α := α) w cells [] [] := ⟨rfl, by simp, fun k x fs h => by simp at h⟩

theorem Filled.lt (h : Filled w cells xs fss) : ∀ g ∈ fss.flatten, g < w.heap.size := by
  intro g hg
  obtain ⟨fs, hfs, hg⟩ := List.mem_flatten.1 hg
  obtain ⟨k, hk⟩ := List.mem_iff_getElem?.1 hfs
  have hkl : k < xs.length := by rw [← h.1]; exact (List.getElem?_eq_some_iff.1 hk).1
  exact Dat.lt (h.2.2 k _ fs (List.getElem?_eq_getElem hkl) hk) g hg

theorem Filled.keep (h : Filled w cells xs fss) (hk : ∀ g ∈ fss.flatten, w'.heap[g]? = w.heap[g]?) : Filled w' cells xs fss :=
  ⟨h.1, h.2.1, fun k x fs hx hf => Dat.keep (h.2.2 k x fs hx hf) fun g hg => hk g (List.mem_flatten.2 ⟨fs, List.mem_of_getElem? hf, hg⟩)⟩

theorem Filled.below (h : Filled w cells xs fss) (hb : Below w.heap.size w w') : Filled w' cells xs fss := h.keep fun g hg => hb.block g (h.lt g hg)

/-- cells written from i on -/
def setFrom (cells : List Value) (i : Nat) : List Value → List Value
  | [] => cells
  | c :: cs => setFrom (cells.set i c) (i + 1) cs

theorem length_setFrom : ∀ (cs cells : List Value) (i : Nat), (setFrom cells i cs).length = cells.length
  | [], _, _ => rfl
  | c :: cs, cells, i => by rw [setFrom, length_setFrom cs]; simp

theorem getElem?_setFrom : ∀ (cs cells : List Value) (i j : Nat), i + cs.length ≤ cells.length → (setFrom cells i cs)[j]? = if i ≤ j ∧ j < i + cs.length then cs[j - i]? else cells[j]?
  | [], cells, i, j, _ => by simp [setFrom]; intro h1 h2; omega
  | c :: cs, cells, i, j, h => by
    simp only [List.length_cons] at h ⊢
    rw [setFrom, getElem?_setFrom cs (cells.set i c) (i + 1) j (by simp; omega)]
    by_cases h1 : i + 1 ≤ j ∧ j < i + 1 + cs.length
    · rw [if_pos h1, if_pos (by omega)]
      rw [show j - i = (j - (i + 1)) + 1 by omega]
      simp
    · rw [if_neg h1]
      by_cases h2 : j = i
      · subst h2
        rw [if_pos (by omega)]
        simp [show j < cells.length by omega]
      · rw [if_neg (by omega), List.getElem?_set_ne (by omega)]

theorem take_drop_eq {l : List Value} {i m : Nat} {cs : List Value} (h : ∀ j, j < m → l[i + j]? = cs[j]?) (hc : cs.length = m) : (l.drop i).take m = cs := by
  apply List.ext_getElem?
  intro j
  by_cases hj : j < m
  · rw [List.getElem?_take, if_pos hj, List.getElem?_drop, h j hj]
  · rw [List.getElem?_eq_none (by simp; omega), List.getElem?_eq_none (by omega)]

/-- one element more, stored at its place -/
theorem Filled.store (h : Filled w cells xs fss) {x : α} {fs : List Nat} {cs : List Value} (ha : Dat.at_ w cs x fs) (hfit : (xs.length + 1) * Dat.sz α ≤ cells.length) :
    Filled w (setFrom cells (xs.length * Dat.sz α) cs) (xs ++ [x]) (fss ++ [fs]) := by
  obtain ⟨h1, h2, h3⟩ := h
  have hcl := Dat.len ha
  have hmul : (xs.length + 1) * Dat.sz α = xs.length * Dat.sz α + Dat.sz α := by rw [Nat.add_mul, Nat.one_mul]
  have hpos : 0 < Dat.sz α := Dat.pos
  refine ⟨by simp [h1], by rw [length_setFrom]; simpa using hfit, fun k y gs hy hg => ?_⟩
  by_cases hk : k < xs.length
  · rw [List.getElem?_append_left hk] at hy
    rw [List.getElem?_append_left (by omega)] at hg
    have hkm : k * Dat.sz α + Dat.sz α ≤ xs.length * Dat.sz α := by
      rw [← Nat.succ_mul]; exact Nat.mul_le_mul_right _ hk
    have := h3 k y gs hy hg
    rw [take_drop_eq (cs := (cells.drop (k * Dat.sz α)).take (Dat.sz α)) (fun j hj => ?_) (by simp; omega)]
    · exact this
    · rw [getElem?_setFrom _ _ _ _ (by omega), if_neg (by omega), List.getElem?_take, if_pos hj, List.getElem?_drop]
  · have hke : k = xs.length := by
      have := (List.getElem?_eq_some_iff.1 hy).1
      simp at this; omega
    subst hke
    simp at hy
    rw [← h1] at hg
    simp at hg
    subst hy; subst hg
    rw [take_drop_eq (cs := cs) (fun j hj => ?_) hcl]
    · exact ha
    · rw [getElem?_setFrom _ _ _ _ (by omega), if_pos (by omega), Nat.add_sub_cancel_left]

/-- one element more, appended -/
theorem Filled.push (h : Filled w cells xs fss) (hl : cells.length = xs.length * Dat.sz α) {x : α} {fs : List Nat} {cs : List Value} (ha : Dat.at_ w cs x fs) :
    Filled w (cells ++ cs) (xs ++ [x]) (fss ++ [fs]) := by
  obtain ⟨h1, h2, h3⟩ := h
  have hcl := Dat.len ha
  have hmul : (xs.length + 1) * Dat.sz α = xs.length * Dat.sz α + Dat.sz α := by rw [Nat.add_mul, Nat.one_mul]
  have hpos : 0 < Dat.sz α := Dat.pos
  refine ⟨by simp [h1], by simp [hmul, hl, hcl], fun k y gs hy hg => ?_⟩
  by_cases hk : k < xs.length
  · rw [List.getElem?_append_left hk] at hy
    rw [List.getElem?_append_left (by omega)] at hg
    have hkm : k * Dat.sz α + Dat.sz α ≤ xs.length * Dat.sz α := by
      rw [← Nat.succ_mul]; exact Nat.mul_le_mul_right _ hk
    have := h3 k y gs hy hg
    rw [List.drop_append_of_le_length (by omega), List.take_append_of_le_length (by simp; omega)]
    exact this
  · have hke : k = xs.length := by
      have := (List.getElem?_eq_some_iff.1 hy).1
      simp at this; omega
    subst hke
    simp at hy
    rw [← h1] at hg
    simp at hg
    subst hy; subst hg
    rw [← hl, List.drop_append_of_le_length (Nat.le_refl _), List.drop_length, List.nil_append, List.take_of_length_le (by omega)]
    exact ha

/-- **The row, read as a slice.** -/
theorem Filled.sl {base n : Nat} {e : TypeId} {v : Value} (h : Filled w cells xs fss) (ho : w.ownsRow base e (Dat.sz α) v n cells) (hx : xs.length = n) :
    ∃ A c bs, v = .slice A n c ∧ Sl w A n c xs bs ∧ ((n = 0 ∧ bs = []) ∨ ∃ g, v.ownBlock = some g ∧ bs = g :: fss.flatten ∧ base ≤ g ∧ ∃ cs t, w.heap[g]? = some (.cells cs t (0, 0))) := by
  rcases ho.2 with ⟨rfl, rfl⟩ | ⟨g, cap, cur, rfl, hb, hg, hnc, hcm, hcs, htake⟩
  · have hxs : xs = [] := List.eq_nil_of_length_eq_zero hx
    subst hxs
    exact ⟨none, 0, [], rfl, Sl.nil w, .inl ⟨rfl, rfl⟩⟩
  · rcases Nat.eq_zero_or_pos n with h0 | h0
    · subst h0
      exact ⟨_, _, [], rfl, ⟨hx, hnc, hcm, fun _ => rfl, fun h => absurd h (by omega)⟩, .inl ⟨rfl, rfl⟩⟩
    · refine ⟨_, _, g :: fss.flatten, rfl, ⟨hx, hnc, hcm, fun h => absurd h (by omega), fun _ => ⟨g, 0, fss, rfl, rfl, h.1, lt_of_get hg, fun k x fs hxk hfk => ?_⟩⟩, .inr ⟨g, rfl, rfl, hb, _, _, hg⟩⟩
      have ha := h.2.2 k x fs hxk hfk
      refine ⟨_, fun j u hu => ?_, ha⟩
      rw [List.getElem?_take] at hu
      split at hu
      · rename_i hj
        rw [List.getElem?_drop] at hu
        rw [Nat.zero_add]
        have hkl : k < n := by rw [← hx]; exact (List.getElem?_eq_some_iff.1 hxk).1
        have hlt : k * Dat.sz α + j < n * Dat.sz α := by
          have : (k + 1) * Dat.sz α ≤ n * Dat.sz α := Nat.mul_le_mul_right _ hkl
          rw [Nat.add_mul, Nat.one_mul] at this
          omega
        rw [World.ownsRow.cellAt ho _ hlt]
        exact hu
      · cases hu

/-- its blocks are the call's own -/
theorem own_of_row {w0 : World} {bs : List Nat} {n : Nat} (h : (n = 0 ∧ bs = []) ∨ ∃ g, bs = g :: fss.flatten ∧ w0.heap.size ≤ g ∧ (∃ cs t, w.heap[g]? = some (.cells cs t (0, 0))) ∧ g ∉ fss.flatten) (hf : Own w0 w fss.flatten) : Own w0 w bs := by
  rcases h with ⟨_, rfl⟩ | ⟨g, rfl, hg, hc, hn⟩
  · exact Own.nil _ _
  · exact ⟨List.nodup_cons.2 ⟨hn, hf.1⟩, fun b hb => by
      rcases List.mem_cons.1 hb with rfl | hb
      · exact ⟨hg, hc⟩
      · exact hf.2 b hb⟩
end

/-- ints: nothing beyond the cells themselves -/
theorem Filled.ints {w : World} {cells : List Value} {xs : List Int} (h : cells.take xs.length = xs.map (.int .i64)) (hi : ∀ x ∈ xs, I64 x) (hl : xs.length ≤ cells.length) : Filled w cells xs (List.replicate xs.length []) := by
  refine ⟨by simp, by simpa [Dat.sz] using hl, fun k x fs hx hf => ?_⟩
  have hk := (List.getElem?_eq_some_iff.1 hx).1
  have hfs : fs = [] := by
    rw [List.getElem?_replicate, if_pos hk] at hf; exact (Option.some.inj hf).symm
  refine ⟨?_, hfs, hi x (List.mem_of_getElem? hx)⟩
  have h1 : cells[k]? = some (.int .i64 x) := by
    have := congrArg (fun l => l[k]?) h
    simp only [List.getElem?_take, hk, if_true, List.getElem?_map, hx, Option.map_some] at this
    exact this
  exact take_drop_eq (fun j hj => by
    have : j = 0 := by simp [Dat.sz] at hj; exact hj
    subst this
    simpa [Dat.sz] using h1) rfl

theorem flatten_nils (n : Nat) : (List.replicate n ([] : List Nat)).flatten = [] := by
  induction n with
  | zero => rfl
  | succ n ih => rw [List.replicate_succ, List.flatten_cons, ih]; rfl

end Go.XB
