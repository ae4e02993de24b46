/- Data in memory: what a value reads as, and the blocks that it is read from. -/
import Derived.WalkKit
import Derived.WalkSpells
namespace Go.XB
open Go.RowKit

/-- an int of 64 bits -/
def I64 (x : Int) : Prop := -9223372036854775808 ≤ x ∧ x ≤ 9223372036854775807

theorem block_add (a : Addr) (n : Nat) : (a.add n).block = a.block := by unfold Addr.add; split <;> rfl

/-- Data that lie in cells. 'bs': the blocks of the slices, in order. -/
class Dat (α : Type) where
  sz : Nat
  pos : 0 < sz
  at_ : World → List Value → α → List Nat → Prop
  len : ∀ {w cs x bs}, at_ w cs x bs → cs.length = sz
  one : ∀ {w cs x bs}, at_ w cs x bs → ∀ u ∈ cs, u.oneCell' = true
  lt : ∀ {w cs x bs}, at_ w cs x bs → ∀ b ∈ bs, b < w.heap.size
  keep : ∀ {w w' cs x bs}, at_ w cs x bs → (∀ b ∈ bs, w'.heap[b]? = w.heap[b]?) → at_ w' cs x bs

theorem lt_of_get {w : World} {b : Nat} {o : Obj} (h : w.heap[b]? = some o) : b < w.heap.size := by
  rcases Nat.lt_or_ge b w.heap.size with h1 | h1
  · exact h1
  · rw [Array.getElem?_eq_none h1] at h; cases h
theorem lt_same {w w' : World} {b : Nat} (h : b < w.heap.size) (e : w'.heap[b]? = w.heap[b]?) : b < w'.heap.size := by
  rw [Array.getElem?_eq_getElem h] at e
  exact lt_of_get e

instance : Dat Int where
  sz := 1
  pos := by decide
  at_ := fun _ cs x bs => cs = [.int .i64 x] ∧ bs = [] ∧ I64 x
  len := fun h => by rw [h.1]; rfl
  one := fun h u hu => by rw [h.1] at hu; simp at hu; subst hu; rfl
  lt := fun h b hb => by rw [h.2.1] at hb; simp at hb
  keep := fun h _ => h

instance : Dat Bool where
  sz := 1
  pos := by decide
  at_ := fun _ cs x bs => cs = [.bool x] ∧ bs = []
  len := fun h => by rw [h.1]; rfl
  one := fun h u hu => by rw [h.1] at hu; simp at hu; subst hu; rfl
  lt := fun h b hb => by rw [h.2] at hb; simp at hb
  keep := fun h _ => h

instance : Dat ByteArray where
  sz := 1
  pos := by decide
  at_ := fun _ cs x bs => cs = [.string x] ∧ bs = [] ∧ x.size ≤ maxLen
  len := fun h => by rw [h.1]; rfl
  one := fun h u hu => by rw [h.1] at hu; simp at hu; subst hu; rfl
  lt := fun h b hb => by rw [h.2.1] at hb; simp at hb
  keep := fun h _ => h

/-- The elements of a slice that is not empty. -/
def Elems {α : Type} [Dat α] (w : World) (b off : Nat) (xs : List α) (bss : List (List Nat)) : Prop :=
  bss.length = xs.length ∧ b < w.heap.size ∧ ∀ k x fs, xs[k]? = some x → bss[k]? = some fs →
    ∃ cs, (∀ j u, cs[j]? = some u → w.cell? ⟨b, off + (k * Dat.sz α + j), none⟩ = some u) ∧ Dat.at_ w cs x fs

/-- A slice value. -/
def Sl {α : Type} [Dat α] (w : World) (A : Option Addr) (n c : Nat) (xs : List α) (bs : List Nat) : Prop :=
  xs.length = n ∧ n ≤ c ∧ c ≤ maxLen ∧ (n = 0 → bs = []) ∧
  (0 < n → ∃ b off bss, A = some ⟨b, off, none⟩ ∧ bs = b :: bss.flatten ∧ Elems w b off xs bss)

theorem Elems.keep {α : Type} [Dat α] {w w' : World} {b off : Nat} {xs : List α} {bss : List (List Nat)} (h : Elems w b off xs bss)
    (hk : ∀ g ∈ b :: bss.flatten, w'.heap[g]? = w.heap[g]?) : Elems w' b off xs bss := by
  obtain ⟨h1, h2, h3⟩ := h
  have hb := hk b (List.mem_cons_self ..)
  refine ⟨h1, lt_same h2 hb, fun k x fs hx hf => ?_⟩
  obtain ⟨cs, hc, ha⟩ := h3 k x fs hx hf
  refine ⟨cs, fun j u hu => ?_, Dat.keep ha fun g hg => hk g (List.mem_cons_of_mem _ (List.mem_flatten.2 ⟨fs, List.mem_of_getElem? hf, hg⟩))⟩
  rw [World.cell?_of_block (a := ⟨b, off + (k * Dat.sz α + j), none⟩) hb]
  exact hc j u hu

theorem Elems.lt {α : Type} [Dat α] {w : World} {b off : Nat} {xs : List α} {bss : List (List Nat)} (h : Elems w b off xs bss) : ∀ g ∈ b :: bss.flatten, g < w.heap.size := by
  obtain ⟨h1, h2, h3⟩ := h
  intro g hg
  rcases List.mem_cons.1 hg with rfl | hg
  · exact h2
  · obtain ⟨fs, hfs, hg⟩ := List.mem_flatten.1 hg
    obtain ⟨k, hk⟩ := List.mem_iff_getElem?.1 hfs
    have hkl : k < xs.length := by rw [← h1]; exact (List.getElem?_eq_some_iff.1 hk).1
    obtain ⟨cs, _, ha⟩ := h3 k _ fs (List.getElem?_eq_getElem hkl) hk
    exact Dat.lt ha g hg

theorem Sl.keep {α : Type} [Dat α] {w w' : World} {A : Option Addr} {n c : Nat} {xs : List α} {bs : List Nat} (h : Sl w A n c xs bs)
    (hk : ∀ g ∈ bs, w'.heap[g]? = w.heap[g]?) : Sl w' A n c xs bs := by
  obtain ⟨h1, h2, h3, h4, h5⟩ := h
  refine ⟨h1, h2, h3, h4, fun hn => ?_⟩
  obtain ⟨b, off, bss, hA, hbs, he⟩ := h5 hn
  exact ⟨b, off, bss, hA, hbs, he.keep (by rw [← hbs]; exact hk)⟩

theorem Sl.lt {α : Type} [Dat α] {w : World} {A : Option Addr} {n c : Nat} {xs : List α} {bs : List Nat} (h : Sl w A n c xs bs) : ∀ g ∈ bs, g < w.heap.size := by
  obtain ⟨h1, h2, h3, h4, h5⟩ := h
  rcases Nat.eq_zero_or_pos n with h0 | h0
  · rw [h4 h0]; simp
  · obtain ⟨b, off, bss, hA, hbs, he⟩ := h5 h0
    rw [hbs]; exact he.lt

theorem Sl.below {α : Type} [Dat α] {w w' : World} {A : Option Addr} {n c : Nat} {xs : List α} {bs : List Nat} (h : Sl w A n c xs bs) (hb : Below w.heap.size w w') : Sl w' A n c xs bs :=
  h.keep fun g hg => hb.block g (h.lt g hg)

theorem Sl.belowB {α : Type} [Dat α] {w w' : World} {B : Nat} {A : Option Addr} {n c : Nat} {xs : List α} {bs : List Nat} (h : Sl w A n c xs bs) (hb : Below B w w') (hB : ∀ g ∈ bs, g < B) : Sl w' A n c xs bs :=
  h.keep fun g hg => hb.block g (hB g hg)

theorem Sl.len {α : Type} [Dat α] {w : World} {A : Option Addr} {n c : Nat} {xs : List α} {bs : List Nat} (h : Sl w A n c xs bs) : xs.length = n := h.1

theorem Sl.nil {α : Type} [Dat α] (w : World) : Sl (α := α) w none 0 0 [] [] := ⟨rfl, Nat.le_refl _, Nat.zero_le _, fun _ => rfl, fun h => absurd h (by decide)⟩

instance {α : Type} [Dat α] : Dat (List α) where
  sz := 1
  pos := by decide
  at_ := fun w cs xs bs => ∃ A n c, cs = [.slice A n c] ∧ Sl w A n c xs bs
  len := fun ⟨_, _, _, h, _⟩ => by rw [h]; rfl
  one := fun ⟨_, _, _, h, _⟩ u hu => by rw [h] at hu; simp at hu; subst hu; rfl
  lt := fun ⟨_, _, _, _, h⟩ => h.lt
  keep := fun ⟨A, n, c, h, hs⟩ hk => ⟨A, n, c, h, hs.keep hk⟩

instance {α β : Type} [Dat α] [Dat β] : Dat (α × β) where
  sz := Dat.sz α + Dat.sz β
  pos := Nat.add_pos_left Dat.pos _
  at_ := fun w cs x bs => ∃ c1 c2 b1 b2, cs = c1 ++ c2 ∧ bs = b1 ++ b2 ∧ Dat.at_ w c1 x.1 b1 ∧ Dat.at_ w c2 x.2 b2
  len := fun ⟨_, _, _, _, h, _, h1, h2⟩ => by rw [h, List.length_append, Dat.len h1, Dat.len h2]
  one := fun ⟨_, _, _, _, h, _, h1, h2⟩ u hu => by
    rw [h] at hu
    rcases List.mem_append.1 hu with hu | hu
    · exact Dat.one h1 u hu
    · exact Dat.one h2 u hu
  lt := fun ⟨_, _, _, _, _, h, h1, h2⟩ b hb => by
    rw [h] at hb
    rcases List.mem_append.1 hb with hb | hb
    · exact Dat.lt h1 b hb
    · exact Dat.lt h2 b hb
  keep := fun ⟨c1, c2, b1, b2, h, hb, h1, h2⟩ hk => ⟨c1, c2, b1, b2, h, hb, Dat.keep h1 fun b hb' => hk b (by rw [hb]; exact List.mem_append_left _ hb'), Dat.keep h2 fun b hb' => hk b (by rw [hb]; exact List.mem_append_right _ hb')⟩

/-- A structure is read as its fields are. -/
abbrev Dat.via {α β : Type} [Dat β] (f : α → β) : Dat α where
  sz := Dat.sz β
  pos := Dat.pos
  at_ := fun w cs x bs => Dat.at_ w cs (f x) bs
  len := fun h => Dat.len (α := β) h
  one := fun h => Dat.one (α := β) h
  lt := fun h => Dat.lt (α := β) h
  keep := fun h hk => Dat.keep (α := β) h hk

/-- A value that is a structure. -/
def Agg {α : Type} [Dat α] (w : World) (v : Value) (x : α) (bs : List Nat) : Prop := ∃ cs, v = .agg cs.toArray ∧ Dat.at_ w cs x bs

theorem Agg.keep {α : Type} [Dat α] {w w' : World} {v : Value} {x : α} {bs : List Nat} (h : Agg w v x bs) (hk : ∀ g ∈ bs, w'.heap[g]? = w.heap[g]?) : Agg w' v x bs := by
  obtain ⟨cs, h1, h2⟩ := h; exact ⟨cs, h1, Dat.keep h2 hk⟩
theorem Agg.lt {α : Type} [Dat α] {w : World} {v : Value} {x : α} {bs : List Nat} (h : Agg w v x bs) : ∀ g ∈ bs, g < w.heap.size := by
  obtain ⟨cs, h1, h2⟩ := h; exact Dat.lt h2
theorem Agg.below {α : Type} [Dat α] {w w' : World} {v : Value} {x : α} {bs : List Nat} (h : Agg w v x bs) (hb : Below w.heap.size w w') : Agg w' v x bs :=
  h.keep fun g hg => hb.block g (h.lt g hg)

/-- The blocks are the call's own: new, each once, free to be written. -/
def Own (w0 w : World) (bs : List Nat) : Prop := bs.Nodup ∧ ∀ b ∈ bs, w0.heap.size ≤ b ∧ ∃ cs t, w.heap[b]? = some (.cells cs t (0, 0))

theorem Own.nil (w0 w : World) : Own w0 w [] := ⟨List.nodup_nil, fun _ h => by simp at h⟩
theorem Own.below {w0 w w' : World} {bs : List Nat} (h : Own w0 w bs) (hb : Below w.heap.size w w') : Own w0 w' bs :=
  ⟨h.1, fun b hm => ⟨(h.2 b hm).1, by obtain ⟨cs, t, e⟩ := (h.2 b hm).2; exact ⟨cs, t, (hb.block b (lt_of_get e)).trans e⟩⟩⟩
theorem Own.older {w0 w1 w : World} {bs : List Nat} (h : Own w1 w bs) (hs : w0.heap.size ≤ w1.heap.size) : Own w0 w bs :=
  ⟨h.1, fun b hm => ⟨Nat.le_trans hs (h.2 b hm).1, (h.2 b hm).2⟩⟩
theorem Own.lt {w0 w : World} {bs : List Nat} (h : Own w0 w bs) : ∀ b ∈ bs, b < w.heap.size := fun b hm => by
  obtain ⟨cs, t, e⟩ := (h.2 b hm).2; exact lt_of_get e
theorem Own.append {w0 w : World} {b1 b2 : List Nat} (h1 : Own w0 w b1) (h2 : Own w0 w b2) (hd : ∀ b ∈ b1, b ∉ b2) : Own w0 w (b1 ++ b2) :=
  ⟨List.nodup_append.2 ⟨h1.1, h2.1, fun a ha b hb e => hd a ha (e ▸ hb)⟩, fun b hm => by
    rcases List.mem_append.1 hm with hm | hm
    · exact h1.2 b hm
    · exact h2.2 b hm⟩

/-- Old blocks below, new ones from there on: they don't meet. -/
theorem apart_of_lt {N : Nat} {b1 b2 : List Nat} (h1 : ∀ b ∈ b1, b < N) (h2 : ∀ b ∈ b2, N ≤ b) : ∀ b ∈ b1, b ∉ b2 := fun b hb hb' => by
  have := h1 b hb; have := h2 b hb'; omega

/-- A call that hands back a bool, an int ..: nothing that was there has changed. -/
def Gives (w : World) (v : Value) (e : Ending) (w' : World) : Prop := e = .returned v ∧ Below w.heap.size w w'

/-- A call that hands back a structure of its own making. -/
def GivesAgg {α : Type} [Dat α] (w : World) (x : α) (e : Ending) (w' : World) : Prop :=
  ∃ v bs, e = .returned v ∧ Agg w' v x bs ∧ Own w w' bs ∧ Below w.heap.size w w'

/-- A call that hands back a slice of its own making. -/
def GivesSl {α : Type} [Dat α] (w : World) (xs : List α) (e : Ending) (w' : World) : Prop :=
  ∃ A n c bs, e = .returned (.slice A n c) ∧ Sl w' A n c xs bs ∧ Own w w' bs ∧ Below w.heap.size w w'

end Go.XB
