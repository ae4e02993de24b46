/- Small facts for the walks: an element of a slice that is read, comparisons element by element. -/
import Derived.Test.YtmhcfdipnofohaaXTypes
import Derived.Deep.Draws
namespace Go.XB
open Go.RowKit

theorem Sl.getInt {w : World} {A : Option Addr} {n c : Nat} {xs : List Int} {bs : List Nat} (h : Sl w A n c xs bs) {k : Nat} (hk : k < n) :
    ∃ b off x, A = some ⟨b, off, none⟩ ∧ b < w.heap.size ∧ xs[k]? = some x ∧ I64 x ∧ w.cell? ⟨b, off + k, none⟩ = some (.int .i64 x) := by
  obtain ⟨h1, h2, h3, h4, h5⟩ := h
  obtain ⟨b, off, bss, hA, hbs, hl, hb, he⟩ := h5 (by omega)
  have hx : xs[k]? = some (xs[k]'(by omega)) := List.getElem?_eq_getElem (by omega)
  have hf : bss[k]? = some (bss[k]'(by omega)) := List.getElem?_eq_getElem (by omega)
  obtain ⟨cs, hc, hcs, _, hi⟩ := he k _ _ hx hf
  refine ⟨b, off, _, hA, hb, hx, hi, ?_⟩
  have := hc 0 (.int .i64 (xs[k]'(by omega))) (by rw [hcs]; rfl)
  simpa [Dat.sz] using this

theorem take_eq_step {α : Type} {xs ys : List α} {k : Nat} {x y : α} (hx : xs[k]? = some x) (hy : ys[k]? = some y) (h : xs.take k = ys.take k) (e : x = y) : xs.take (k + 1) = ys.take (k + 1) := by
  rw [List.take_add_one, List.take_add_one, hx, hy, h, e]
theorem ne_at {α : Type} {xs ys : List α} {k : Nat} {x y : α} (hx : xs[k]? = some x) (hy : ys[k]? = some y) (e : x ≠ y) : xs ≠ ys := by
  rintro rfl; rw [hx] at hy; exact e (Option.some.inj hy)
theorem take_all_eq {α : Type} {xs ys : List α} {n k : Nat} (h1 : xs.length = n) (h2 : ys.length = n) (hk : n ≤ k) (h : xs.take k = ys.take k) : xs = ys := by
  rwa [List.take_of_length_le (by omega), List.take_of_length_le (by omega)] at h
theorem hid {p : Prop} (h : p) : Hid p := h
theorem ret_bool {a b : Bool} (h : a = b) : Ending.returned (.bool a) = .returned (.bool b) := by rw [h]
theorem ret_int {k : IntKind} {a b : Int} (h : a = b) : Ending.returned (.int k a) = .returned (.int k b) := by rw [h]
theorem below_drewN (w : World) (m : Nat) : Below w.heap.size w (w.drewN m) := ⟨rfl, rfl, rfl, Nat.le_refl _, fun _ _ => rfl⟩

/-- a block of the call's own below a 'Below' -/
theorem bcell {W w1 : World} (hb : Below W.heap.size W w1) : (∀ b o, b < W.heap.size → w1.cell? ⟨b, o, none⟩ = W.cell? ⟨b, o, none⟩) ∧ (∀ b o, b < W.heap.size → w1.frozen? ⟨b, o, none⟩ = W.frozen? ⟨b, o, none⟩) :=
  ⟨fun b o h => hb.cell (p := ⟨b, o, none⟩) h, fun b o h => hb.frozen (p := ⟨b, o, none⟩) h⟩

/-- what is left of a budget: -1, if it is passed -/
def minus (left : Int) (n : Nat) : Int := if left - n < 0 then -1 else left - n
theorem minus_cases (left : Int) (n : Nat) : (minus left n < 0 ∧ minus left n = -1 ∧ left < n) ∨ (0 ≤ minus left n ∧ minus left n = left - n ∧ (n : Int) ≤ left) := by
  unfold minus; split
  · exact .inl ⟨by omega, rfl, by omega⟩
  · exact .inr ⟨by omega, rfl, by omega⟩
theorem minus_neg {left : Int} {n : Nat} (h : left < n) : minus left n = -1 := by unfold minus; rw [if_pos (by omega)]
theorem minus_pos {left : Int} {n : Nat} (h : (n : Int) ≤ left) : minus left n = left - n := by unfold minus; rw [if_neg (by omega)]

theorem Below.next {w W W' : World} (h : Below w.heap.size w W) (h' : Below W.heap.size W W') : Below w.heap.size w W' := h.trans (h'.mono h.size)
theorem Below.box {w : World} (o : Obj) : Below w.heap.size w (w.alloc o) := (Below.refl _ _).alloc (Nat.le_refl _) _
theorem Below.set {w W : World} (h : Below w.heap.size w W) {p : Addr} (hp : w.heap.size ≤ p.block) (u : Value) : Below w.heap.size w (W.setCell p u) := h.setCell hp u
theorem Below.box_ {w W : World} (h : Below w.heap.size w W) (o : Obj) : Below w.heap.size w (W.alloc o) := h.alloc h.size o

/-- From block number lo on, what was there is as it was. -/
structure Above (lo : Nat) (w w' : World) : Prop where
  size : w.heap.size ≤ w'.heap.size
  block : ∀ g, lo ≤ g → g < w.heap.size → w'.heap[g]? = w.heap[g]?
theorem Above.refl (lo : Nat) (w : World) : Above lo w w := ⟨Nat.le_refl _, fun _ _ _ => rfl⟩
theorem Above.trans {lo : Nat} {a b c : World} (h : Above lo a b) (k : Above lo b c) : Above lo a c :=
  ⟨Nat.le_trans h.size k.size, fun g h1 h2 => (k.block g h1 (Nat.lt_of_lt_of_le h2 h.size)).trans (h.block g h1 h2)⟩
theorem Above.below {lo : Nat} {w W W' : World} (h : Above lo w W) (hb : Below W.heap.size W W') : Above lo w W' :=
  h.trans ⟨hb.size, fun g _ h2 => hb.block g h2⟩
theorem Above.set {lo : Nat} {w W : World} (h : Above lo w W) {p : Addr} (hp : p.block < lo) (u : Value) : Above lo w (W.setCell p u) :=
  h.trans ⟨by simp [World.setCell], fun g h1 _ => Below.heap_setCell W p u g (by omega)⟩
theorem Above.box {lo : Nat} {w W : World} (h : Above lo w W) (o : Obj) : Above lo w (W.alloc o) :=
  h.trans ⟨by simp, fun g _ h2 => Below.heap_alloc W o g h2⟩
theorem Own.above {w0 w w' : World} {lo : Nat} {bs : List Nat} (h : Own w0 w bs) (ha : Above lo w w') (hl : lo ≤ w0.heap.size) : Own w0 w' bs :=
  ⟨h.1, fun b hm => ⟨(h.2 b hm).1, by obtain ⟨cs, t, e⟩ := (h.2 b hm).2; exact ⟨cs, t, (ha.block b (Nat.le_trans hl (h.2 b hm).1) (lt_of_get e)).trans e⟩⟩⟩
theorem Sl.above {α : Type} [Dat α] {w0 w w' : World} {lo : Nat} {A : Option Addr} {n c : Nat} {xs : List α} {bs : List Nat} (h : Sl w A n c xs bs) (ho : Own w0 w bs) (ha : Above lo w w') (hl : lo ≤ w0.heap.size) : Sl w' A n c xs bs :=
  h.keep fun g hg => ha.block g (Nat.le_trans hl (ho.2 g hg).1) (h.lt g hg)
theorem Agg.above {α : Type} [Dat α] {w0 w w' : World} {lo : Nat} {v : Value} {x : α} {bs : List Nat} (h : Agg w v x bs) (ho : Own w0 w bs) (ha : Above lo w w') (hl : lo ≤ w0.heap.size) : Agg w' v x bs :=
  h.keep fun g hg => ha.block g (Nat.le_trans hl (ho.2 g hg).1) (h.lt g hg)
theorem At.above {α : Type} [Dat α] {w0 w w' : World} {lo : Nat} {cs : List Value} {x : α} {bs : List Nat} (h : Dat.at_ w cs x bs) (ho : Own w0 w bs) (ha : Above lo w w') (hl : lo ≤ w0.heap.size) : Dat.at_ w' cs x bs :=
  Dat.keep h fun g hg => ha.block g (Nat.le_trans hl (ho.2 g hg).1) (Dat.lt h g hg)
theorem Own.olderThan {w0 w1 w : World} {bs : List Nat} (h : Own w1 w bs) (hb : Below w0.heap.size w0 w1) : Own w0 w bs := h.older hb.size

theorem sum_take_step {α : Type} {xs : List α} (f : α → Nat) {k : Nat} {x : α} (h : xs[k]? = some x) : ((xs.take (k + 1)).map f).sum = ((xs.take k).map f).sum + f x := by
  rw [List.take_add_one, h]; simp
theorem sum_take_all {α : Type} (f : α → Nat) (xs : List α) (k : Nat) : ((xs.take k).map f).sum ≤ (xs.map f).sum := by
  conv => rhs; rw [← List.take_append_drop k xs]
  rw [List.map_append, List.sum_append]; omega
theorem sum_take_le {α : Type} {xs : List α} (f : α → Nat) {k : Nat} {x : α} (h : xs[k]? = some x) : ((xs.take k).map f).sum + f x ≤ (xs.map f).sum := by
  rw [← sum_take_step f h]; exact sum_take_all f xs (k + 1)
theorem take_step {α : Type} {xs : List α} {k : Nat} {x : α} (h : xs[k]? = some x) : xs.take (k + 1) = xs.take k ++ [x] := by
  rw [List.take_add_one, h]; rfl

theorem num_succ (k : Nat) : Value.int .i64 ((k : Int) + 1) = .int .i64 ((k + 1 : Nat) : Int) := rfl
theorem meas_succ {k n : Nat} (h : k < n) : n - (intOf (Value.int .i64 ((k : Int) + 1))).toNat < n - (intOf (Value.int .i64 (k : Int))).toNat := by
  simp [intOf]; omega

theorem Sl.from_ {α : Type} [Dat α] {w w' : World} {A : Option Addr} {n c : Nat} {xs : List α} {bs : List Nat} (h : Sl w A n c xs bs) (hb : Below w.heap.size w w') : Sl w' A n c xs bs := Sl.below h hb

end Go.XB
