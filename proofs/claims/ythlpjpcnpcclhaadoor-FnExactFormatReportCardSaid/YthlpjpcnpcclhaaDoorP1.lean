/- Data in memory, the types, slices and structures. No condition. -/
import Derived.WalkKit
import Derived.WalkSpells
import Derived.Deep.Draws
import Derived.Test.YthlpjpcnpcclhaaDoorRows
import Derived.WalkLawsBesides
import Derived.ProofKit
import Derived.OwnWalk
/- Data in memory: what a value reads as, and the blocks that it is read from. -/
namespace Go.XB
open Go.RowKit

/-- an int of 64 bits -/
def I64 (x : Int) : Prop := -9223372036854775808 ≤ x ∧ x ≤ 9223372036854775807

theorem block_add (a : Addr) (n : Nat) : (a.add n).block = a.block := by unfold Addr.add; split <;> rfl

/-- Data that lie in cells. 'bs': the blocks of the slices, in order. -/
class Dat (α : Type) where
  sz : Nat
  pos : 0 < sz
  at_ : World → List Value → α → List Nat → Prop
  len : ∀ {w cs x bs}, at_ w cs x bs → cs.length = sz
  one : ∀ {w cs x bs}, at_ w cs x bs → ∀ u ∈ cs, u.oneCell' = true
  lt : ∀ {w cs x bs}, at_ w cs x bs → ∀ b ∈ bs, b < w.heap.size
  keep : ∀ {w w' cs x bs}, at_ w cs x bs → (∀ b ∈ bs, w'.heap[b]? = w.heap[b]?) → at_ w' cs x bs

theorem lt_of_get {w : World} {b : Nat} {o : Obj} (h : w.heap[b]? = some o) : b < w.heap.size := by
  rcases Nat.lt_or_ge b w.heap.size with h1 | h1
  · exact h1
  · rw [Array.getElem?_eq_none h1] at h; cases h
theorem lt_same {w w' : World} {b : Nat} (h : b < w.heap.size) (e : w'.heap[b]? = w.heap[b]?) : b < w'.heap.size := by
  rw [Array.getElem?_eq_getElem h] at e
  exact lt_of_get e

instance : Dat Int where
  sz := 1
  pos := by decide
  at_ := fun _ cs x bs => cs = [.int .i64 x] ∧ bs = [] ∧ I64 x
  len := fun h => by rw [h.1]; rfl
  one := fun h u hu => by rw [h.1] at hu; simp at hu; subst hu; rfl
  lt := fun h b hb => by rw [h.2.1] at hb; simp at hb
  keep := fun h _ => h

instance : Dat Bool where
  sz := 1
  pos := by decide
  at_ := fun _ cs x bs => cs = [.bool x] ∧ bs = []
  len := fun h => by rw [h.1]; rfl
  one := fun h u hu => by rw [h.1] at hu; simp at hu; subst hu; rfl
  lt := fun h b hb => by rw [h.2] at hb; simp at hb
  keep := fun h _ => h

instance : Dat ByteArray where
  sz := 1
  pos := by decide
  at_ := fun _ cs x bs => cs = [.string x] ∧ bs = [] ∧ x.size ≤ maxLen
  len := fun h => by rw [h.1]; rfl
  one := fun h u hu => by rw [h.1] at hu; simp at hu; subst hu; rfl
  lt := fun h b hb => by rw [h.2.1] at hb; simp at hb
  keep := fun h _ => h

/-- The elements of a slice that is not empty. -/
def Elems {α : Type} [Dat α] (w : World) (b off : Nat) (xs : List α) (bss : List (List Nat)) : Prop :=
  bss.length = xs.length ∧ b < w.heap.size ∧ ∀ k x fs, xs[k]? = some x → bss[k]? = some fs →
    ∃ cs, (∀ j u, cs[j]? = some u → w.cell? ⟨b, off + (k * Dat.sz α + j), none⟩ = some u) ∧ Dat.at_ w cs x fs

/-- A slice value. -/
def Sl {α : Type} [Dat α] (w : World) (A : Option Addr) (n c : Nat) (xs : List α) (bs : List Nat) : Prop :=
  xs.length = n ∧ n ≤ c ∧ c ≤ maxLen ∧ (n = 0 → bs = []) ∧
  (0 < n → ∃ b off bss, A = some ⟨b, off, none⟩ ∧ bs = b :: bss.flatten ∧ Elems w b off xs bss)

theorem Elems.keep {α : Type} [Dat α] {w w' : World} {b off : Nat} {xs : List α} {bss : List (List Nat)} (h : Elems w b off xs bss)
    (hk : ∀ g ∈ b :: bss.flatten, w'.heap[g]? = w.heap[g]?) : Elems w' b off xs bss := by
  obtain ⟨h1, h2, h3⟩ := h
  have hb := hk b (List.mem_cons_self ..)
  refine ⟨h1, lt_same h2 hb, fun k x fs hx hf => ?_⟩
  obtain ⟨cs, hc, ha⟩ := h3 k x fs hx hf
  refine ⟨cs, fun j u hu => ?_, Dat.keep ha fun g hg => hk g (List.mem_cons_of_mem _ (List.mem_flatten.2 ⟨fs, List.mem_of_getElem? hf, hg⟩))⟩
  rw [World.cell?_of_block (a := ⟨b, off + (k * Dat.sz α + j), none⟩) hb]
  exact hc j u hu

theorem Elems.lt {α : Type} [Dat α] {w : World} {b off : Nat} {xs : List α} {bss : List (List Nat)} (h : Elems w b off xs bss) : ∀ g ∈ b :: bss.flatten, g < w.heap.size := by
  obtain ⟨h1, h2, h3⟩ := h
  intro g hg
  rcases List.mem_cons.1 hg with rfl | hg
  · exact h2
  · obtain ⟨fs, hfs, hg⟩ := List.mem_flatten.1 hg
    obtain ⟨k, hk⟩ := List.mem_iff_getElem?.1 hfs
    have hkl : k < xs.length := by rw [← h1]; exact (List.getElem?_eq_some_iff.1 hk).1
    obtain ⟨cs, _, ha⟩ := h3 k _ fs (List.getElem?_eq_getElem hkl) hk
    exact Dat.lt ha g hg

theorem Sl.keep {α : Type} [Dat α] {w w' : World} {A : Option Addr} {n c : Nat} {xs : List α} {bs : List Nat} (h : Sl w A n c xs bs)
    (hk : ∀ g ∈ bs, w'.heap[g]? = w.heap[g]?) : Sl w' A n c xs bs := by
  obtain ⟨h1, h2, h3, h4, h5⟩ := h
  refine ⟨h1, h2, h3, h4, fun hn => ?_⟩
  obtain ⟨b, off, bss, hA, hbs, he⟩ := h5 hn
  exact ⟨b, off, bss, hA, hbs, he.keep (by rw [← hbs]; exact hk)⟩

theorem Sl.lt {α : Type} [Dat α] {w : World} {A : Option Addr} {n c : Nat} {xs : List α} {bs : List Nat} (h : Sl w A n c xs bs) : ∀ g ∈ bs, g < w.heap.size := by
  obtain ⟨h1, h2, h3, h4, h5⟩ := h
  rcases Nat.eq_zero_or_pos n with h0 | h0
  · rw [h4 h0]; simp
  · obtain ⟨b, off, bss, hA, hbs, he⟩ := h5 h0
    rw [hbs]; exact he.lt

theorem Sl.below {α : Type} [Dat α] {w w' : World} {A : Option Addr} {n c : Nat} {xs : List α} {bs : List Nat} (h : Sl w A n c xs bs) (hb : Below w.heap.size w w') : Sl w' A n c xs bs :=
  h.keep fun g hg => hb.block g (h.lt g hg)

theorem Sl.belowB {α : Type} [Dat α] {w w' : World} {B : Nat} {A : Option Addr} {n c : Nat} {xs : List α} {bs : List Nat} (h : Sl w A n c xs bs) (hb : Below B w w') (hB : ∀ g ∈ bs, g < B) : Sl w' A n c xs bs :=
  h.keep fun g hg => hb.block g (hB g hg)

theorem Sl.len {α : Type} [Dat α] {w : World} {A : Option Addr} {n c : Nat} {xs : List α} {bs : List Nat} (h : Sl w A n c xs bs) : xs.length = n := h.1

theorem Sl.nil {α : Type} [Dat α] (w : World) : Sl (α := α) w none 0 0 [] [] := ⟨rfl, Nat.le_refl _, Nat.zero_le _, fun _ => rfl, fun h => absurd h (by decide)⟩

instance {α : Type} [Dat α] : Dat (List α) where
  sz := 1
  pos := by decide
  at_ := fun w cs xs bs => ∃ A n c, cs = [.slice A n c] ∧ Sl w A n c xs bs
  len := fun ⟨_, _, _, h, _⟩ => by rw [h]; rfl
  one := fun ⟨_, _, _, h, _⟩ u hu => by rw [h] at hu; simp at hu; subst hu; rfl
  lt := fun ⟨_, _, _, _, h⟩ => h.lt
  keep := fun ⟨A, n, c, h, hs⟩ hk => ⟨A, n, c, h, hs.keep hk⟩

instance {α β : Type} [Dat α] [Dat β] : Dat (α × β) where
  sz := Dat.sz α + Dat.sz β
  pos := Nat.add_pos_left Dat.pos _
  at_ := fun w cs x bs => ∃ c1 c2 b1 b2, cs = c1 ++ c2 ∧ bs = b1 ++ b2 ∧ Dat.at_ w c1 x.1 b1 ∧ Dat.at_ w c2 x.2 b2
  len := fun ⟨_, _, _, _, h, _, h1, h2⟩ => by rw [h, List.length_append, Dat.len h1, Dat.len h2]
  one := fun ⟨_, _, _, _, h, _, h1, h2⟩ u hu => by
    rw [h] at hu
    rcases List.mem_append.1 hu with hu | hu
    · exact Dat.one h1 u hu
    · exact Dat.one h2 u hu
  lt := fun ⟨_, _, _, _, _, h, h1, h2⟩ b hb => by
    rw [h] at hb
    rcases List.mem_append.1 hb with hb | hb
    · exact Dat.lt h1 b hb
    · exact Dat.lt h2 b hb
  keep := fun ⟨c1, c2, b1, b2, h, hb, h1, h2⟩ hk => ⟨c1, c2, b1, b2, h, hb, Dat.keep h1 fun b hb' => hk b (by rw [hb]; exact List.mem_append_left _ hb'), Dat.keep h2 fun b hb' => hk b (by rw [hb]; exact List.mem_append_right _ hb')⟩

/-- A structure is read as its fields are. -/
abbrev Dat.via {α β : Type} [Dat β] (f : α → β) : Dat α where
  sz := Dat.sz β
  pos := Dat.pos
  at_ := fun w cs x bs => Dat.at_ w cs (f x) bs
  len := fun h => Dat.len (α := β) h
  one := fun h => Dat.one (α := β) h
  lt := fun h => Dat.lt (α := β) h
  keep := fun h hk => Dat.keep (α := β) h hk

/-- A value that is a structure. -/
def Agg {α : Type} [Dat α] (w : World) (v : Value) (x : α) (bs : List Nat) : Prop := ∃ cs, v = .agg cs.toArray ∧ Dat.at_ w cs x bs

theorem Agg.keep {α : Type} [Dat α] {w w' : World} {v : Value} {x : α} {bs : List Nat} (h : Agg w v x bs) (hk : ∀ g ∈ bs, w'.heap[g]? = w.heap[g]?) : Agg w' v x bs := by
  obtain ⟨cs, h1, h2⟩ := h; exact ⟨cs, h1, Dat.keep h2 hk⟩
theorem Agg.lt {α : Type} [Dat α] {w : World} {v : Value} {x : α} {bs : List Nat} (h : Agg w v x bs) : ∀ g ∈ bs, g < w.heap.size := by
  obtain ⟨cs, h1, h2⟩ := h; exact Dat.lt h2
theorem Agg.below {α : Type} [Dat α] {w w' : World} {v : Value} {x : α} {bs : List Nat} (h : Agg w v x bs) (hb : Below w.heap.size w w') : Agg w' v x bs :=
  h.keep fun g hg => hb.block g (h.lt g hg)

/-- The blocks are the call's own: new, each once, free to be written. -/
def Own (w0 w : World) (bs : List Nat) : Prop := bs.Nodup ∧ ∀ b ∈ bs, w0.heap.size ≤ b ∧ ∃ cs t, w.heap[b]? = some (.cells cs t (0, 0))

theorem Own.nil (w0 w : World) : Own w0 w [] := ⟨List.nodup_nil, fun _ h => by simp at h⟩
theorem Own.below {w0 w w' : World} {bs : List Nat} (h : Own w0 w bs) (hb : Below w.heap.size w w') : Own w0 w' bs :=
  ⟨h.1, fun b hm => ⟨(h.2 b hm).1, by obtain ⟨cs, t, e⟩ := (h.2 b hm).2; exact ⟨cs, t, (hb.block b (lt_of_get e)).trans e⟩⟩⟩
theorem Own.older {w0 w1 w : World} {bs : List Nat} (h : Own w1 w bs) (hs : w0.heap.size ≤ w1.heap.size) : Own w0 w bs :=
  ⟨h.1, fun b hm => ⟨Nat.le_trans hs (h.2 b hm).1, (h.2 b hm).2⟩⟩
theorem Own.lt {w0 w : World} {bs : List Nat} (h : Own w0 w bs) : ∀ b ∈ bs, b < w.heap.size := fun b hm => by
  obtain ⟨cs, t, e⟩ := (h.2 b hm).2; exact lt_of_get e
theorem Own.append {w0 w : World} {b1 b2 : List Nat} (h1 : Own w0 w b1) (h2 : Own w0 w b2) (hd : ∀ b ∈ b1, b ∉ b2) : Own w0 w (b1 ++ b2) :=
  ⟨List.nodup_append.2 ⟨h1.1, h2.1, fun a ha b hb e => hd a ha (e ▸ hb)⟩, fun b hm => by
    rcases List.mem_append.1 hm with hm | hm
    · exact h1.2 b hm
    · exact h2.2 b hm⟩

/-- Old blocks below, new ones from there on: they don't meet. -/
theorem apart_of_lt {N : Nat} {b1 b2 : List Nat} (h1 : ∀ b ∈ b1, b < N) (h2 : ∀ b ∈ b2, N ≤ b) : ∀ b ∈ b1, b ∉ b2 := fun b hb hb' => by
  have := h1 b hb; have := h2 b hb'; omega

/-- A call that hands back a bool, an int ..: nothing that was there has changed. -/
def Gives (w : World) (v : Value) (e : Ending) (w' : World) : Prop := e = .returned v ∧ Below w.heap.size w w'

/-- A call that hands back a structure of its own making. -/
def GivesAgg {α : Type} [Dat α] (w : World) (x : α) (e : Ending) (w' : World) : Prop :=
  ∃ v bs, e = .returned v ∧ Agg w' v x bs ∧ Own w w' bs ∧ Below w.heap.size w w'

/-- A call that hands back a slice of its own making. -/
def GivesSl {α : Type} [Dat α] (w : World) (xs : List α) (e : Ending) (w' : World) : Prop :=
  ∃ A n c bs, e = .returned (.slice A n c) ∧ Sl w' A n c xs bs ∧ Own w w' bs ∧ Below w.heap.size w w'

end Go.XB

/- Element k of a slice. -/
namespace Go.XB
open Go.RowKit

/-- element k, by its cells -/
theorem Sl.getAt {α : Type} [Dat α] {w : World} {A : Option Addr} {n c : Nat} {xs : List α} {bs : List Nat} (h : Sl w A n c xs bs) {k : Nat} (hk : k < n) :
    ∃ b off x cs fs, A = some ⟨b, off, none⟩ ∧ b < w.heap.size ∧ xs[k]? = some x ∧ (∀ j u, cs[j]? = some u → w.cell? ⟨b, off + (k * Dat.sz α + j), none⟩ = some u) ∧ Dat.at_ w cs x fs ∧ ∀ g ∈ fs, g ∈ bs := by
  obtain ⟨h1, h2, h3, h4, h5⟩ := h
  obtain ⟨b, off, bss, hA, hbs, hl, hb, he⟩ := h5 (by omega)
  have hx : xs[k]? = some (xs[k]'(by omega)) := List.getElem?_eq_getElem (by omega)
  have hf : bss[k]? = some (bss[k]'(by omega)) := List.getElem?_eq_getElem (by omega)
  obtain ⟨cs, hc, ha⟩ := he k _ _ hx hf
  exact ⟨b, off, _, cs, _, hA, hb, hx, hc, ha, fun g hg => by rw [hbs]; exact List.mem_cons_of_mem _ (List.mem_flatten.2 ⟨_, List.mem_of_getElem? hf, hg⟩)⟩

end Go.XB

/- The data types of the program, and how they lie in cells. Written by gen_types.py. -/
namespace Go.XB
open Go.RowKit

structure TBigInt where
  neg : Bool
  mag : List Int
  deriving DecidableEq
instance : Dat TBigInt := Dat.via fun x => (x.neg, x.mag)
theorem TBigInt.open_ {w : World} {cs : List Value} {x : TBigInt} {bs : List Nat} (h : Dat.at_ w cs x bs) : ∃ (A1 : Option Addr) (n1 c1 : Nat) (s1 : List Nat), cs = [.bool x.neg, .slice A1 n1 c1] ∧ bs = s1 ∧ Sl w A1 n1 c1 x.mag s1 := by
  obtain ⟨p1, q1, u1, v1, rfl, rfl, e1, g1⟩ := h
  obtain ⟨rfl, rfl⟩ := e1
  obtain ⟨A1, n1, c1, rfl, w1⟩ := g1
  exact ⟨_, _, _, _, rfl, by first | rfl | (simp; done) | simp [List.append_assoc], w1⟩
theorem TBigInt.shut {w : World} {x : TBigInt} {A1 : Option Addr} {n1 c1 : Nat} {s1 : List Nat} (w1 : Sl w A1 n1 c1 x.mag s1) : Dat.at_ w [.bool x.neg, .slice A1 n1 c1] x (s1) := by
  have h : Dat.at_ w _ x _ := ⟨_, _, _, _, rfl, rfl, ⟨rfl, rfl⟩, ⟨_, _, _, rfl, w1⟩⟩
  first | exact h | (simpa using h) | simpa [List.append_assoc] using h
theorem TBigInt.agg {w : World} {v : Value} {x : TBigInt} {bs : List Nat} (h : Agg w v x bs) : ∃ (A1 : Option Addr) (n1 c1 : Nat) (s1 : List Nat), v = .agg #[.bool x.neg, .slice A1 n1 c1] ∧ bs = s1 ∧ Sl w A1 n1 c1 x.mag s1 := by
  obtain ⟨cs, rfl, h⟩ := h
  obtain ⟨A1, n1, c1, s1, rfl, rfl, w1⟩ := TBigInt.open_ h
  exact ⟨_, _, _, _, rfl, rfl, w1⟩
theorem TBigInt.mkAgg {w : World} {x : TBigInt} {A1 : Option Addr} {n1 c1 : Nat} {s1 : List Nat} (w1 : Sl w A1 n1 c1 x.mag s1) : Agg w (.agg #[.bool x.neg, .slice A1 n1 c1]) x (s1) :=
  ⟨_, rfl, TBigInt.shut w1⟩
theorem TBigInt.elem {w : World} {A : Option Addr} {n c : Nat} {xs : List TBigInt} {bs : List Nat} (h : Sl w A n c xs bs) {k : Nat} (hk : k < n) :
    ∃ (b off : Nat) (x : TBigInt) (A1 : Option Addr) (n1 c1 : Nat) (s1 : List Nat), A = some ⟨b, off, none⟩ ∧ b < w.heap.size ∧ xs[k]? = some x ∧ w.cell? ⟨b, off + k * 2, none⟩ = some (.bool x.neg) ∧ w.cell? ⟨b, off + k * 2 + 1, none⟩ = some (.slice A1 n1 c1) ∧ Sl w A1 n1 c1 x.mag s1 ∧ ∀ g ∈ (s1), g ∈ bs := by
  obtain ⟨b, off, x, cs, fs, hA, hb, hx, hc, ha, hg⟩ := Sl.getAt h hk
  obtain ⟨A1, n1, c1, s1, rfl, rfl, w1⟩ := TBigInt.open_ ha
  exact ⟨b, off, x, _, _, _, _, hA, hb, hx, hc 0 _ rfl, hc 1 _ rfl, w1, hg⟩
theorem TBigInt.elemA {w : World} {A : Option Addr} {n c : Nat} {xs : List TBigInt} {bs : List Nat} (h : Sl w A n c xs bs) {k : Nat} (hk : k < n) :
    ∃ (b off : Nat) (x : TBigInt) (A1 : Option Addr) (n1 c1 : Nat) (s1 : List Nat), A = some ⟨b, off, none⟩ ∧ b < w.heap.size ∧ xs[k]? = some x ∧ w.cell? ⟨b, off + k * 2, none⟩ = some (.bool x.neg) ∧ w.cell? ⟨b, off + k * 2 + 1, none⟩ = some (.slice A1 n1 c1) ∧ Agg w (.agg #[.bool x.neg, .slice A1 n1 c1]) x (s1) := by
  obtain ⟨b, off, x, cs, fs, hA, hb, hx, hc, ha, hg⟩ := Sl.getAt h hk
  obtain ⟨A1, n1, c1, s1, rfl, rfl, w1⟩ := TBigInt.open_ ha
  exact ⟨b, off, x, _, _, _, _, hA, hb, hx, hc 0 _ rfl, hc 1 _ rfl, _, rfl, ha⟩

structure TRat where
  num : TBigInt
  den : List Int
  deriving DecidableEq
instance : Dat TRat := Dat.via fun x => (x.num, x.den)
theorem TRat.open_ {w : World} {cs : List Value} {x : TRat} {bs : List Nat} (h : Dat.at_ w cs x bs) : ∃ (A1 : Option Addr) (n1 c1 : Nat) (s1 : List Nat) (A2 : Option Addr) (n2 c2 : Nat) (s2 : List Nat), cs = [.bool x.num.neg, .slice A1 n1 c1, .slice A2 n2 c2] ∧ bs = s1 ++ (s2) ∧ Sl w A1 n1 c1 x.num.mag s1 ∧ Sl w A2 n2 c2 x.den s2 := by
  obtain ⟨p1, q1, u1, v1, rfl, rfl, e1, g1⟩ := h
  obtain ⟨p2, q2, u2, v2, rfl, rfl, e2, g2⟩ := e1
  obtain ⟨rfl, rfl⟩ := e2
  obtain ⟨A1, n1, c1, rfl, w1⟩ := g2
  obtain ⟨A2, n2, c2, rfl, w2⟩ := g1
  exact ⟨_, _, _, _, _, _, _, _, rfl, by first | rfl | (simp; done) | simp [List.append_assoc], w1, w2⟩
theorem TRat.shut {w : World} {x : TRat} {A1 : Option Addr} {n1 c1 : Nat} {s1 : List Nat} {A2 : Option Addr} {n2 c2 : Nat} {s2 : List Nat} (w1 : Sl w A1 n1 c1 x.num.mag s1) (w2 : Sl w A2 n2 c2 x.den s2) : Dat.at_ w [.bool x.num.neg, .slice A1 n1 c1, .slice A2 n2 c2] x (s1 ++ (s2)) := by
  have h : Dat.at_ w _ x _ := ⟨_, _, _, _, rfl, rfl, ⟨_, _, _, _, rfl, rfl, ⟨rfl, rfl⟩, ⟨_, _, _, rfl, w1⟩⟩, ⟨_, _, _, rfl, w2⟩⟩
  first | exact h | (simpa using h) | simpa [List.append_assoc] using h
theorem TRat.agg {w : World} {v : Value} {x : TRat} {bs : List Nat} (h : Agg w v x bs) : ∃ (A1 : Option Addr) (n1 c1 : Nat) (s1 : List Nat) (A2 : Option Addr) (n2 c2 : Nat) (s2 : List Nat), v = .agg #[.bool x.num.neg, .slice A1 n1 c1, .slice A2 n2 c2] ∧ bs = s1 ++ (s2) ∧ Sl w A1 n1 c1 x.num.mag s1 ∧ Sl w A2 n2 c2 x.den s2 := by
  obtain ⟨cs, rfl, h⟩ := h
  obtain ⟨A1, n1, c1, s1, A2, n2, c2, s2, rfl, rfl, w1, w2⟩ := TRat.open_ h
  exact ⟨_, _, _, _, _, _, _, _, rfl, rfl, w1, w2⟩
theorem TRat.mkAgg {w : World} {x : TRat} {A1 : Option Addr} {n1 c1 : Nat} {s1 : List Nat} {A2 : Option Addr} {n2 c2 : Nat} {s2 : List Nat} (w1 : Sl w A1 n1 c1 x.num.mag s1) (w2 : Sl w A2 n2 c2 x.den s2) : Agg w (.agg #[.bool x.num.neg, .slice A1 n1 c1, .slice A2 n2 c2]) x (s1 ++ (s2)) :=
  ⟨_, rfl, TRat.shut w1 w2⟩
theorem TRat.elem {w : World} {A : Option Addr} {n c : Nat} {xs : List TRat} {bs : List Nat} (h : Sl w A n c xs bs) {k : Nat} (hk : k < n) :
    ∃ (b off : Nat) (x : TRat) (A1 : Option Addr) (n1 c1 : Nat) (s1 : List Nat) (A2 : Option Addr) (n2 c2 : Nat) (s2 : List Nat), A = some ⟨b, off, none⟩ ∧ b < w.heap.size ∧ xs[k]? = some x ∧ w.cell? ⟨b, off + k * 3, none⟩ = some (.bool x.num.neg) ∧ w.cell? ⟨b, off + k * 3 + 1, none⟩ = some (.slice A1 n1 c1) ∧ w.cell? ⟨b, off + k * 3 + 2, none⟩ = some (.slice A2 n2 c2) ∧ Sl w A1 n1 c1 x.num.mag s1 ∧ Sl w A2 n2 c2 x.den s2 ∧ ∀ g ∈ (s1 ++ (s2)), g ∈ bs := by
  obtain ⟨b, off, x, cs, fs, hA, hb, hx, hc, ha, hg⟩ := Sl.getAt h hk
  obtain ⟨A1, n1, c1, s1, A2, n2, c2, s2, rfl, rfl, w1, w2⟩ := TRat.open_ ha
  exact ⟨b, off, x, _, _, _, _, _, _, _, _, hA, hb, hx, hc 0 _ rfl, hc 1 _ rfl, hc 2 _ rfl, w1, w2, hg⟩
theorem TRat.elemA {w : World} {A : Option Addr} {n c : Nat} {xs : List TRat} {bs : List Nat} (h : Sl w A n c xs bs) {k : Nat} (hk : k < n) :
    ∃ (b off : Nat) (x : TRat) (A1 : Option Addr) (n1 c1 : Nat) (s1 : List Nat) (A2 : Option Addr) (n2 c2 : Nat) (s2 : List Nat), A = some ⟨b, off, none⟩ ∧ b < w.heap.size ∧ xs[k]? = some x ∧ w.cell? ⟨b, off + k * 3, none⟩ = some (.bool x.num.neg) ∧ w.cell? ⟨b, off + k * 3 + 1, none⟩ = some (.slice A1 n1 c1) ∧ w.cell? ⟨b, off + k * 3 + 2, none⟩ = some (.slice A2 n2 c2) ∧ Agg w (.agg #[.bool x.num.neg, .slice A1 n1 c1, .slice A2 n2 c2]) x (s1 ++ (s2)) := by
  obtain ⟨b, off, x, cs, fs, hA, hb, hx, hc, ha, hg⟩ := Sl.getAt h hk
  obtain ⟨A1, n1, c1, s1, A2, n2, c2, s2, rfl, rfl, w1, w2⟩ := TRat.open_ ha
  exact ⟨b, off, x, _, _, _, _, _, _, _, _, hA, hb, hx, hc 0 _ rfl, hc 1 _ rfl, hc 2 _ rfl, _, rfl, ha⟩

structure TPoint where
  x : TRat
  y : TRat
  deriving DecidableEq
instance : Dat TPoint := Dat.via fun x => (x.x, x.y)
theorem TPoint.open_ {w : World} {cs : List Value} {x : TPoint} {bs : List Nat} (h : Dat.at_ w cs x bs) : ∃ (A1 : Option Addr) (n1 c1 : Nat) (s1 : List Nat) (A2 : Option Addr) (n2 c2 : Nat) (s2 : List Nat) (A4 : Option Addr) (n4 c4 : Nat) (s4 : List Nat) (A5 : Option Addr) (n5 c5 : Nat) (s5 : List Nat), cs = [.bool x.x.num.neg, .slice A1 n1 c1, .slice A2 n2 c2, .bool x.y.num.neg, .slice A4 n4 c4, .slice A5 n5 c5] ∧ bs = s1 ++ (s2 ++ (s4 ++ (s5))) ∧ Sl w A1 n1 c1 x.x.num.mag s1 ∧ Sl w A2 n2 c2 x.x.den s2 ∧ Sl w A4 n4 c4 x.y.num.mag s4 ∧ Sl w A5 n5 c5 x.y.den s5 := by
  obtain ⟨p1, q1, u1, v1, rfl, rfl, e1, g1⟩ := h
  obtain ⟨p2, q2, u2, v2, rfl, rfl, e2, g2⟩ := e1
  obtain ⟨p3, q3, u3, v3, rfl, rfl, e3, g3⟩ := e2
  obtain ⟨rfl, rfl⟩ := e3
  obtain ⟨A1, n1, c1, rfl, w1⟩ := g3
  obtain ⟨A2, n2, c2, rfl, w2⟩ := g2
  obtain ⟨p4, q4, u4, v4, rfl, rfl, e4, g4⟩ := g1
  obtain ⟨p5, q5, u5, v5, rfl, rfl, e5, g5⟩ := e4
  obtain ⟨rfl, rfl⟩ := e5
  obtain ⟨A4, n4, c4, rfl, w4⟩ := g5
  obtain ⟨A5, n5, c5, rfl, w5⟩ := g4
  exact ⟨_, _, _, _, _, _, _, _, _, _, _, _, _, _, _, _, rfl, by first | rfl | (simp; done) | simp [List.append_assoc], w1, w2, w4, w5⟩
theorem TPoint.shut {w : World} {x : TPoint} {A1 : Option Addr} {n1 c1 : Nat} {s1 : List Nat} {A2 : Option Addr} {n2 c2 : Nat} {s2 : List Nat} {A4 : Option Addr} {n4 c4 : Nat} {s4 : List Nat} {A5 : Option Addr} {n5 c5 : Nat} {s5 : List Nat} (w1 : Sl w A1 n1 c1 x.x.num.mag s1) (w2 : Sl w A2 n2 c2 x.x.den s2) (w4 : Sl w A4 n4 c4 x.y.num.mag s4) (w5 : Sl w A5 n5 c5 x.y.den s5) : Dat.at_ w [.bool x.x.num.neg, .slice A1 n1 c1, .slice A2 n2 c2, .bool x.y.num.neg, .slice A4 n4 c4, .slice A5 n5 c5] x (s1 ++ (s2 ++ (s4 ++ (s5)))) := by
  have h : Dat.at_ w _ x _ := ⟨_, _, _, _, rfl, rfl, ⟨_, _, _, _, rfl, rfl, ⟨_, _, _, _, rfl, rfl, ⟨rfl, rfl⟩, ⟨_, _, _, rfl, w1⟩⟩, ⟨_, _, _, rfl, w2⟩⟩, ⟨_, _, _, _, rfl, rfl, ⟨_, _, _, _, rfl, rfl, ⟨rfl, rfl⟩, ⟨_, _, _, rfl, w4⟩⟩, ⟨_, _, _, rfl, w5⟩⟩⟩
  first | exact h | (simpa using h) | simpa [List.append_assoc] using h
theorem TPoint.agg {w : World} {v : Value} {x : TPoint} {bs : List Nat} (h : Agg w v x bs) : ∃ (A1 : Option Addr) (n1 c1 : Nat) (s1 : List Nat) (A2 : Option Addr) (n2 c2 : Nat) (s2 : List Nat) (A4 : Option Addr) (n4 c4 : Nat) (s4 : List Nat) (A5 : Option Addr) (n5 c5 : Nat) (s5 : List Nat), v = .agg #[.bool x.x.num.neg, .slice A1 n1 c1, .slice A2 n2 c2, .bool x.y.num.neg, .slice A4 n4 c4, .slice A5 n5 c5] ∧ bs = s1 ++ (s2 ++ (s4 ++ (s5))) ∧ Sl w A1 n1 c1 x.x.num.mag s1 ∧ Sl w A2 n2 c2 x.x.den s2 ∧ Sl w A4 n4 c4 x.y.num.mag s4 ∧ Sl w A5 n5 c5 x.y.den s5 := by
  obtain ⟨cs, rfl, h⟩ := h
  obtain ⟨A1, n1, c1, s1, A2, n2, c2, s2, A4, n4, c4, s4, A5, n5, c5, s5, rfl, rfl, w1, w2, w4, w5⟩ := TPoint.open_ h
  exact ⟨_, _, _, _, _, _, _, _, _, _, _, _, _, _, _, _, rfl, rfl, w1, w2, w4, w5⟩
theorem TPoint.mkAgg {w : World} {x : TPoint} {A1 : Option Addr} {n1 c1 : Nat} {s1 : List Nat} {A2 : Option Addr} {n2 c2 : Nat} {s2 : List Nat} {A4 : Option Addr} {n4 c4 : Nat} {s4 : List Nat} {A5 : Option Addr} {n5 c5 : Nat} {s5 : List Nat} (w1 : Sl w A1 n1 c1 x.x.num.mag s1) (w2 : Sl w A2 n2 c2 x.x.den s2) (w4 : Sl w A4 n4 c4 x.y.num.mag s4) (w5 : Sl w A5 n5 c5 x.y.den s5) : Agg w (.agg #[.bool x.x.num.neg, .slice A1 n1 c1, .slice A2 n2 c2, .bool x.y.num.neg, .slice A4 n4 c4, .slice A5 n5 c5]) x (s1 ++ (s2 ++ (s4 ++ (s5)))) :=
  ⟨_, rfl, TPoint.shut w1 w2 w4 w5⟩
theorem TPoint.elem {w : World} {A : Option Addr} {n c : Nat} {xs : List TPoint} {bs : List Nat} (h : Sl w A n c xs bs) {k : Nat} (hk : k < n) :
    ∃ (b off : Nat) (x : TPoint) (A1 : Option Addr) (n1 c1 : Nat) (s1 : List Nat) (A2 : Option Addr) (n2 c2 : Nat) (s2 : List Nat) (A4 : Option Addr) (n4 c4 : Nat) (s4 : List Nat) (A5 : Option Addr) (n5 c5 : Nat) (s5 : List Nat), A = some ⟨b, off, none⟩ ∧ b < w.heap.size ∧ xs[k]? = some x ∧ w.cell? ⟨b, off + k * 6, none⟩ = some (.bool x.x.num.neg) ∧ w.cell? ⟨b, off + k * 6 + 1, none⟩ = some (.slice A1 n1 c1) ∧ w.cell? ⟨b, off + k * 6 + 2, none⟩ = some (.slice A2 n2 c2) ∧ w.cell? ⟨b, off + k * 6 + 3, none⟩ = some (.bool x.y.num.neg) ∧ w.cell? ⟨b, off + k * 6 + 4, none⟩ = some (.slice A4 n4 c4) ∧ w.cell? ⟨b, off + k * 6 + 5, none⟩ = some (.slice A5 n5 c5) ∧ Sl w A1 n1 c1 x.x.num.mag s1 ∧ Sl w A2 n2 c2 x.x.den s2 ∧ Sl w A4 n4 c4 x.y.num.mag s4 ∧ Sl w A5 n5 c5 x.y.den s5 ∧ ∀ g ∈ (s1 ++ (s2 ++ (s4 ++ (s5)))), g ∈ bs := by
  obtain ⟨b, off, x, cs, fs, hA, hb, hx, hc, ha, hg⟩ := Sl.getAt h hk
  obtain ⟨A1, n1, c1, s1, A2, n2, c2, s2, A4, n4, c4, s4, A5, n5, c5, s5, rfl, rfl, w1, w2, w4, w5⟩ := TPoint.open_ ha
  exact ⟨b, off, x, _, _, _, _, _, _, _, _, _, _, _, _, _, _, _, _, hA, hb, hx, hc 0 _ rfl, hc 1 _ rfl, hc 2 _ rfl, hc 3 _ rfl, hc 4 _ rfl, hc 5 _ rfl, w1, w2, w4, w5, hg⟩
theorem TPoint.elemA {w : World} {A : Option Addr} {n c : Nat} {xs : List TPoint} {bs : List Nat} (h : Sl w A n c xs bs) {k : Nat} (hk : k < n) :
    ∃ (b off : Nat) (x : TPoint) (A1 : Option Addr) (n1 c1 : Nat) (s1 : List Nat) (A2 : Option Addr) (n2 c2 : Nat) (s2 : List Nat) (A4 : Option Addr) (n4 c4 : Nat) (s4 : List Nat) (A5 : Option Addr) (n5 c5 : Nat) (s5 : List Nat), A = some ⟨b, off, none⟩ ∧ b < w.heap.size ∧ xs[k]? = some x ∧ w.cell? ⟨b, off + k * 6, none⟩ = some (.bool x.x.num.neg) ∧ w.cell? ⟨b, off + k * 6 + 1, none⟩ = some (.slice A1 n1 c1) ∧ w.cell? ⟨b, off + k * 6 + 2, none⟩ = some (.slice A2 n2 c2) ∧ w.cell? ⟨b, off + k * 6 + 3, none⟩ = some (.bool x.y.num.neg) ∧ w.cell? ⟨b, off + k * 6 + 4, none⟩ = some (.slice A4 n4 c4) ∧ w.cell? ⟨b, off + k * 6 + 5, none⟩ = some (.slice A5 n5 c5) ∧ Agg w (.agg #[.bool x.x.num.neg, .slice A1 n1 c1, .slice A2 n2 c2, .bool x.y.num.neg, .slice A4 n4 c4, .slice A5 n5 c5]) x (s1 ++ (s2 ++ (s4 ++ (s5)))) := by
  obtain ⟨b, off, x, cs, fs, hA, hb, hx, hc, ha, hg⟩ := Sl.getAt h hk
  obtain ⟨A1, n1, c1, s1, A2, n2, c2, s2, A4, n4, c4, s4, A5, n5, c5, s5, rfl, rfl, w1, w2, w4, w5⟩ := TPoint.open_ ha
  exact ⟨b, off, x, _, _, _, _, _, _, _, _, _, _, _, _, _, _, _, _, hA, hb, hx, hc 0 _ rfl, hc 1 _ rfl, hc 2 _ rfl, hc 3 _ rfl, hc 4 _ rfl, hc 5 _ rfl, _, rfl, ha⟩

structure TTri where
  a : Int
  b : Int
  c : Int
  region : Int
  level : Int
  deriving DecidableEq
instance : Dat TTri := Dat.via fun x => (x.a, x.b, x.c, x.region, x.level)
theorem TTri.open_ {w : World} {cs : List Value} {x : TTri} {bs : List Nat} (h : Dat.at_ w cs x bs) : cs = [.int .i64 x.a, .int .i64 x.b, .int .i64 x.c, .int .i64 x.region, .int .i64 x.level] ∧ bs = [] ∧ I64 x.a ∧ I64 x.b ∧ I64 x.c ∧ I64 x.region ∧ I64 x.level := by
  obtain ⟨p1, q1, u1, v1, rfl, rfl, e1, g1⟩ := h
  obtain ⟨rfl, rfl, w0⟩ := e1
  obtain ⟨p2, q2, u2, v2, rfl, rfl, e2, g2⟩ := g1
  obtain ⟨rfl, rfl, w1⟩ := e2
  obtain ⟨p3, q3, u3, v3, rfl, rfl, e3, g3⟩ := g2
  obtain ⟨rfl, rfl, w2⟩ := e3
  obtain ⟨p4, q4, u4, v4, rfl, rfl, e4, g4⟩ := g3
  obtain ⟨rfl, rfl, w3⟩ := e4
  obtain ⟨rfl, rfl, w4⟩ := g4
  exact ⟨rfl, by first | rfl | (simp; done) | simp [List.append_assoc], w0, w1, w2, w3, w4⟩
theorem TTri.shut {w : World} {x : TTri} (w0 : I64 x.a) (w1 : I64 x.b) (w2 : I64 x.c) (w3 : I64 x.region) (w4 : I64 x.level) : Dat.at_ w [.int .i64 x.a, .int .i64 x.b, .int .i64 x.c, .int .i64 x.region, .int .i64 x.level] x ([]) := by
  have h : Dat.at_ w _ x _ := ⟨_, _, _, _, rfl, rfl, ⟨rfl, rfl, w0⟩, ⟨_, _, _, _, rfl, rfl, ⟨rfl, rfl, w1⟩, ⟨_, _, _, _, rfl, rfl, ⟨rfl, rfl, w2⟩, ⟨_, _, _, _, rfl, rfl, ⟨rfl, rfl, w3⟩, ⟨rfl, rfl, w4⟩⟩⟩⟩⟩
  first | exact h | (simpa using h) | simpa [List.append_assoc] using h
theorem TTri.agg {w : World} {v : Value} {x : TTri} {bs : List Nat} (h : Agg w v x bs) : v = .agg #[.int .i64 x.a, .int .i64 x.b, .int .i64 x.c, .int .i64 x.region, .int .i64 x.level] ∧ bs = [] ∧ I64 x.a ∧ I64 x.b ∧ I64 x.c ∧ I64 x.region ∧ I64 x.level := by
  obtain ⟨cs, rfl, h⟩ := h
  obtain ⟨rfl, rfl, w0, w1, w2, w3, w4⟩ := TTri.open_ h
  exact ⟨rfl, rfl, w0, w1, w2, w3, w4⟩
theorem TTri.mkAgg {w : World} {x : TTri} (w0 : I64 x.a) (w1 : I64 x.b) (w2 : I64 x.c) (w3 : I64 x.region) (w4 : I64 x.level) : Agg w (.agg #[.int .i64 x.a, .int .i64 x.b, .int .i64 x.c, .int .i64 x.region, .int .i64 x.level]) x ([]) :=
  ⟨_, rfl, TTri.shut w0 w1 w2 w3 w4⟩
theorem TTri.elem {w : World} {A : Option Addr} {n c : Nat} {xs : List TTri} {bs : List Nat} (h : Sl w A n c xs bs) {k : Nat} (hk : k < n) :
    ∃ (b off : Nat) (x : TTri), A = some ⟨b, off, none⟩ ∧ b < w.heap.size ∧ xs[k]? = some x ∧ w.cell? ⟨b, off + k * 5, none⟩ = some (.int .i64 x.a) ∧ w.cell? ⟨b, off + k * 5 + 1, none⟩ = some (.int .i64 x.b) ∧ w.cell? ⟨b, off + k * 5 + 2, none⟩ = some (.int .i64 x.c) ∧ w.cell? ⟨b, off + k * 5 + 3, none⟩ = some (.int .i64 x.region) ∧ w.cell? ⟨b, off + k * 5 + 4, none⟩ = some (.int .i64 x.level) ∧ I64 x.a ∧ I64 x.b ∧ I64 x.c ∧ I64 x.region ∧ I64 x.level := by
  obtain ⟨b, off, x, cs, fs, hA, hb, hx, hc, ha, hg⟩ := Sl.getAt h hk
  obtain ⟨rfl, rfl, w0, w1, w2, w3, w4⟩ := TTri.open_ ha
  exact ⟨b, off, x, hA, hb, hx, hc 0 _ rfl, hc 1 _ rfl, hc 2 _ rfl, hc 3 _ rfl, hc 4 _ rfl, w0, w1, w2, w3, w4⟩
theorem TTri.elemA {w : World} {A : Option Addr} {n c : Nat} {xs : List TTri} {bs : List Nat} (h : Sl w A n c xs bs) {k : Nat} (hk : k < n) :
    ∃ (b off : Nat) (x : TTri), A = some ⟨b, off, none⟩ ∧ b < w.heap.size ∧ xs[k]? = some x ∧ w.cell? ⟨b, off + k * 5, none⟩ = some (.int .i64 x.a) ∧ w.cell? ⟨b, off + k * 5 + 1, none⟩ = some (.int .i64 x.b) ∧ w.cell? ⟨b, off + k * 5 + 2, none⟩ = some (.int .i64 x.c) ∧ w.cell? ⟨b, off + k * 5 + 3, none⟩ = some (.int .i64 x.region) ∧ w.cell? ⟨b, off + k * 5 + 4, none⟩ = some (.int .i64 x.level) ∧ Agg w (.agg #[.int .i64 x.a, .int .i64 x.b, .int .i64 x.c, .int .i64 x.region, .int .i64 x.level]) x ([]) := by
  obtain ⟨b, off, x, cs, fs, hA, hb, hx, hc, ha, hg⟩ := Sl.getAt h hk
  obtain ⟨rfl, rfl, w0, w1, w2, w3, w4⟩ := TTri.open_ ha
  exact ⟨b, off, x, hA, hb, hx, hc 0 _ rfl, hc 1 _ rfl, hc 2 _ rfl, hc 3 _ rfl, hc 4 _ rfl, _, rfl, ha⟩

structure TEdge where
  a : Int
  b : Int
  left : Int
  right : Int
  deriving DecidableEq
instance : Dat TEdge := Dat.via fun x => (x.a, x.b, x.left, x.right)
theorem TEdge.open_ {w : World} {cs : List Value} {x : TEdge} {bs : List Nat} (h : Dat.at_ w cs x bs) : cs = [.int .i64 x.a, .int .i64 x.b, .int .i64 x.left, .int .i64 x.right] ∧ bs = [] ∧ I64 x.a ∧ I64 x.b ∧ I64 x.left ∧ I64 x.right := by
  obtain ⟨p1, q1, u1, v1, rfl, rfl, e1, g1⟩ := h
  obtain ⟨rfl, rfl, w0⟩ := e1
  obtain ⟨p2, q2, u2, v2, rfl, rfl, e2, g2⟩ := g1
  obtain ⟨rfl, rfl, w1⟩ := e2
  obtain ⟨p3, q3, u3, v3, rfl, rfl, e3, g3⟩ := g2
  obtain ⟨rfl, rfl, w2⟩ := e3
  obtain ⟨rfl, rfl, w3⟩ := g3
  exact ⟨rfl, by first | rfl | (simp; done) | simp [List.append_assoc], w0, w1, w2, w3⟩
theorem TEdge.shut {w : World} {x : TEdge} (w0 : I64 x.a) (w1 : I64 x.b) (w2 : I64 x.left) (w3 : I64 x.right) : Dat.at_ w [.int .i64 x.a, .int .i64 x.b, .int .i64 x.left, .int .i64 x.right] x ([]) := by
  have h : Dat.at_ w _ x _ := ⟨_, _, _, _, rfl, rfl, ⟨rfl, rfl, w0⟩, ⟨_, _, _, _, rfl, rfl, ⟨rfl, rfl, w1⟩, ⟨_, _, _, _, rfl, rfl, ⟨rfl, rfl, w2⟩, ⟨rfl, rfl, w3⟩⟩⟩⟩
  first | exact h | (simpa using h) | simpa [List.append_assoc] using h
theorem TEdge.agg {w : World} {v : Value} {x : TEdge} {bs : List Nat} (h : Agg w v x bs) : v = .agg #[.int .i64 x.a, .int .i64 x.b, .int .i64 x.left, .int .i64 x.right] ∧ bs = [] ∧ I64 x.a ∧ I64 x.b ∧ I64 x.left ∧ I64 x.right := by
  obtain ⟨cs, rfl, h⟩ := h
  obtain ⟨rfl, rfl, w0, w1, w2, w3⟩ := TEdge.open_ h
  exact ⟨rfl, rfl, w0, w1, w2, w3⟩
theorem TEdge.mkAgg {w : World} {x : TEdge} (w0 : I64 x.a) (w1 : I64 x.b) (w2 : I64 x.left) (w3 : I64 x.right) : Agg w (.agg #[.int .i64 x.a, .int .i64 x.b, .int .i64 x.left, .int .i64 x.right]) x ([]) :=
  ⟨_, rfl, TEdge.shut w0 w1 w2 w3⟩
theorem TEdge.elem {w : World} {A : Option Addr} {n c : Nat} {xs : List TEdge} {bs : List Nat} (h : Sl w A n c xs bs) {k : Nat} (hk : k < n) :
    ∃ (b off : Nat) (x : TEdge), A = some ⟨b, off, none⟩ ∧ b < w.heap.size ∧ xs[k]? = some x ∧ w.cell? ⟨b, off + k * 4, none⟩ = some (.int .i64 x.a) ∧ w.cell? ⟨b, off + k * 4 + 1, none⟩ = some (.int .i64 x.b) ∧ w.cell? ⟨b, off + k * 4 + 2, none⟩ = some (.int .i64 x.left) ∧ w.cell? ⟨b, off + k * 4 + 3, none⟩ = some (.int .i64 x.right) ∧ I64 x.a ∧ I64 x.b ∧ I64 x.left ∧ I64 x.right := by
  obtain ⟨b, off, x, cs, fs, hA, hb, hx, hc, ha, hg⟩ := Sl.getAt h hk
  obtain ⟨rfl, rfl, w0, w1, w2, w3⟩ := TEdge.open_ ha
  exact ⟨b, off, x, hA, hb, hx, hc 0 _ rfl, hc 1 _ rfl, hc 2 _ rfl, hc 3 _ rfl, w0, w1, w2, w3⟩
theorem TEdge.elemA {w : World} {A : Option Addr} {n c : Nat} {xs : List TEdge} {bs : List Nat} (h : Sl w A n c xs bs) {k : Nat} (hk : k < n) :
    ∃ (b off : Nat) (x : TEdge), A = some ⟨b, off, none⟩ ∧ b < w.heap.size ∧ xs[k]? = some x ∧ w.cell? ⟨b, off + k * 4, none⟩ = some (.int .i64 x.a) ∧ w.cell? ⟨b, off + k * 4 + 1, none⟩ = some (.int .i64 x.b) ∧ w.cell? ⟨b, off + k * 4 + 2, none⟩ = some (.int .i64 x.left) ∧ w.cell? ⟨b, off + k * 4 + 3, none⟩ = some (.int .i64 x.right) ∧ Agg w (.agg #[.int .i64 x.a, .int .i64 x.b, .int .i64 x.left, .int .i64 x.right]) x ([]) := by
  obtain ⟨b, off, x, cs, fs, hA, hb, hx, hc, ha, hg⟩ := Sl.getAt h hk
  obtain ⟨rfl, rfl, w0, w1, w2, w3⟩ := TEdge.open_ ha
  exact ⟨b, off, x, hA, hb, hx, hc 0 _ rfl, hc 1 _ rfl, hc 2 _ rfl, hc 3 _ rfl, _, rfl, ha⟩

structure TMesh where
  points : List TPoint
  triangles : List TTri
  deriving DecidableEq
instance : Dat TMesh := Dat.via fun x => (x.points, x.triangles)
theorem TMesh.open_ {w : World} {cs : List Value} {x : TMesh} {bs : List Nat} (h : Dat.at_ w cs x bs) : ∃ (A0 : Option Addr) (n0 c0 : Nat) (s0 : List Nat) (A1 : Option Addr) (n1 c1 : Nat) (s1 : List Nat), cs = [.slice A0 n0 c0, .slice A1 n1 c1] ∧ bs = s0 ++ (s1) ∧ Sl w A0 n0 c0 x.points s0 ∧ Sl w A1 n1 c1 x.triangles s1 := by
  obtain ⟨p1, q1, u1, v1, rfl, rfl, e1, g1⟩ := h
  obtain ⟨A0, n0, c0, rfl, w0⟩ := e1
  obtain ⟨A1, n1, c1, rfl, w1⟩ := g1
  exact ⟨_, _, _, _, _, _, _, _, rfl, by first | rfl | (simp; done) | simp [List.append_assoc], w0, w1⟩
theorem TMesh.shut {w : World} {x : TMesh} {A0 : Option Addr} {n0 c0 : Nat} {s0 : List Nat} {A1 : Option Addr} {n1 c1 : Nat} {s1 : List Nat} (w0 : Sl w A0 n0 c0 x.points s0) (w1 : Sl w A1 n1 c1 x.triangles s1) : Dat.at_ w [.slice A0 n0 c0, .slice A1 n1 c1] x (s0 ++ (s1)) := by
  have h : Dat.at_ w _ x _ := ⟨_, _, _, _, rfl, rfl, ⟨_, _, _, rfl, w0⟩, ⟨_, _, _, rfl, w1⟩⟩
  first | exact h | (simpa using h) | simpa [List.append_assoc] using h
theorem TMesh.agg {w : World} {v : Value} {x : TMesh} {bs : List Nat} (h : Agg w v x bs) : ∃ (A0 : Option Addr) (n0 c0 : Nat) (s0 : List Nat) (A1 : Option Addr) (n1 c1 : Nat) (s1 : List Nat), v = .agg #[.slice A0 n0 c0, .slice A1 n1 c1] ∧ bs = s0 ++ (s1) ∧ Sl w A0 n0 c0 x.points s0 ∧ Sl w A1 n1 c1 x.triangles s1 := by
  obtain ⟨cs, rfl, h⟩ := h
  obtain ⟨A0, n0, c0, s0, A1, n1, c1, s1, rfl, rfl, w0, w1⟩ := TMesh.open_ h
  exact ⟨_, _, _, _, _, _, _, _, rfl, rfl, w0, w1⟩
theorem TMesh.mkAgg {w : World} {x : TMesh} {A0 : Option Addr} {n0 c0 : Nat} {s0 : List Nat} {A1 : Option Addr} {n1 c1 : Nat} {s1 : List Nat} (w0 : Sl w A0 n0 c0 x.points s0) (w1 : Sl w A1 n1 c1 x.triangles s1) : Agg w (.agg #[.slice A0 n0 c0, .slice A1 n1 c1]) x (s0 ++ (s1)) :=
  ⟨_, rfl, TMesh.shut w0 w1⟩
theorem TMesh.elem {w : World} {A : Option Addr} {n c : Nat} {xs : List TMesh} {bs : List Nat} (h : Sl w A n c xs bs) {k : Nat} (hk : k < n) :
    ∃ (b off : Nat) (x : TMesh) (A0 : Option Addr) (n0 c0 : Nat) (s0 : List Nat) (A1 : Option Addr) (n1 c1 : Nat) (s1 : List Nat), A = some ⟨b, off, none⟩ ∧ b < w.heap.size ∧ xs[k]? = some x ∧ w.cell? ⟨b, off + k * 2, none⟩ = some (.slice A0 n0 c0) ∧ w.cell? ⟨b, off + k * 2 + 1, none⟩ = some (.slice A1 n1 c1) ∧ Sl w A0 n0 c0 x.points s0 ∧ Sl w A1 n1 c1 x.triangles s1 ∧ ∀ g ∈ (s0 ++ (s1)), g ∈ bs := by
  obtain ⟨b, off, x, cs, fs, hA, hb, hx, hc, ha, hg⟩ := Sl.getAt h hk
  obtain ⟨A0, n0, c0, s0, A1, n1, c1, s1, rfl, rfl, w0, w1⟩ := TMesh.open_ ha
  exact ⟨b, off, x, _, _, _, _, _, _, _, _, hA, hb, hx, hc 0 _ rfl, hc 1 _ rfl, w0, w1, hg⟩
theorem TMesh.elemA {w : World} {A : Option Addr} {n c : Nat} {xs : List TMesh} {bs : List Nat} (h : Sl w A n c xs bs) {k : Nat} (hk : k < n) :
    ∃ (b off : Nat) (x : TMesh) (A0 : Option Addr) (n0 c0 : Nat) (s0 : List Nat) (A1 : Option Addr) (n1 c1 : Nat) (s1 : List Nat), A = some ⟨b, off, none⟩ ∧ b < w.heap.size ∧ xs[k]? = some x ∧ w.cell? ⟨b, off + k * 2, none⟩ = some (.slice A0 n0 c0) ∧ w.cell? ⟨b, off + k * 2 + 1, none⟩ = some (.slice A1 n1 c1) ∧ Agg w (.agg #[.slice A0 n0 c0, .slice A1 n1 c1]) x (s0 ++ (s1)) := by
  obtain ⟨b, off, x, cs, fs, hA, hb, hx, hc, ha, hg⟩ := Sl.getAt h hk
  obtain ⟨A0, n0, c0, s0, A1, n1, c1, s1, rfl, rfl, w0, w1⟩ := TMesh.open_ ha
  exact ⟨b, off, x, _, _, _, _, _, _, _, _, hA, hb, hx, hc 0 _ rfl, hc 1 _ rfl, _, rfl, ha⟩

structure TProblem where
  mesh : TMesh
  diffusion : List TRat
  source : List TRat
  deriving DecidableEq
instance : Dat TProblem := Dat.via fun x => (x.mesh, x.diffusion, x.source)
theorem TProblem.open_ {w : World} {cs : List Value} {x : TProblem} {bs : List Nat} (h : Dat.at_ w cs x bs) : ∃ (A0 : Option Addr) (n0 c0 : Nat) (s0 : List Nat) (A1 : Option Addr) (n1 c1 : Nat) (s1 : List Nat) (A2 : Option Addr) (n2 c2 : Nat) (s2 : List Nat) (A3 : Option Addr) (n3 c3 : Nat) (s3 : List Nat), cs = [.slice A0 n0 c0, .slice A1 n1 c1, .slice A2 n2 c2, .slice A3 n3 c3] ∧ bs = s0 ++ (s1 ++ (s2 ++ (s3))) ∧ Sl w A0 n0 c0 x.mesh.points s0 ∧ Sl w A1 n1 c1 x.mesh.triangles s1 ∧ Sl w A2 n2 c2 x.diffusion s2 ∧ Sl w A3 n3 c3 x.source s3 := by
  obtain ⟨p1, q1, u1, v1, rfl, rfl, e1, g1⟩ := h
  obtain ⟨p2, q2, u2, v2, rfl, rfl, e2, g2⟩ := e1
  obtain ⟨A0, n0, c0, rfl, w0⟩ := e2
  obtain ⟨A1, n1, c1, rfl, w1⟩ := g2
  obtain ⟨p3, q3, u3, v3, rfl, rfl, e3, g3⟩ := g1
  obtain ⟨A2, n2, c2, rfl, w2⟩ := e3
  obtain ⟨A3, n3, c3, rfl, w3⟩ := g3
  exact ⟨_, _, _, _, _, _, _, _, _, _, _, _, _, _, _, _, rfl, by first | rfl | (simp; done) | simp [List.append_assoc], w0, w1, w2, w3⟩
theorem TProblem.shut {w : World} {x : TProblem} {A0 : Option Addr} {n0 c0 : Nat} {s0 : List Nat} {A1 : Option Addr} {n1 c1 : Nat} {s1 : List Nat} {A2 : Option Addr} {n2 c2 : Nat} {s2 : List Nat} {A3 : Option Addr} {n3 c3 : Nat} {s3 : List Nat} (w0 : Sl w A0 n0 c0 x.mesh.points s0) (w1 : Sl w A1 n1 c1 x.mesh.triangles s1) (w2 : Sl w A2 n2 c2 x.diffusion s2) (w3 : Sl w A3 n3 c3 x.source s3) : Dat.at_ w [.slice A0 n0 c0, .slice A1 n1 c1, .slice A2 n2 c2, .slice A3 n3 c3] x (s0 ++ (s1 ++ (s2 ++ (s3)))) := by
  have h : Dat.at_ w _ x _ := ⟨_, _, _, _, rfl, rfl, ⟨_, _, _, _, rfl, rfl, ⟨_, _, _, rfl, w0⟩, ⟨_, _, _, rfl, w1⟩⟩, ⟨_, _, _, _, rfl, rfl, ⟨_, _, _, rfl, w2⟩, ⟨_, _, _, rfl, w3⟩⟩⟩
  first | exact h | (simpa using h) | simpa [List.append_assoc] using h
theorem TProblem.agg {w : World} {v : Value} {x : TProblem} {bs : List Nat} (h : Agg w v x bs) : ∃ (A0 : Option Addr) (n0 c0 : Nat) (s0 : List Nat) (A1 : Option Addr) (n1 c1 : Nat) (s1 : List Nat) (A2 : Option Addr) (n2 c2 : Nat) (s2 : List Nat) (A3 : Option Addr) (n3 c3 : Nat) (s3 : List Nat), v = .agg #[.slice A0 n0 c0, .slice A1 n1 c1, .slice A2 n2 c2, .slice A3 n3 c3] ∧ bs = s0 ++ (s1 ++ (s2 ++ (s3))) ∧ Sl w A0 n0 c0 x.mesh.points s0 ∧ Sl w A1 n1 c1 x.mesh.triangles s1 ∧ Sl w A2 n2 c2 x.diffusion s2 ∧ Sl w A3 n3 c3 x.source s3 := by
  obtain ⟨cs, rfl, h⟩ := h
  obtain ⟨A0, n0, c0, s0, A1, n1, c1, s1, A2, n2, c2, s2, A3, n3, c3, s3, rfl, rfl, w0, w1, w2, w3⟩ := TProblem.open_ h
  exact ⟨_, _, _, _, _, _, _, _, _, _, _, _, _, _, _, _, rfl, rfl, w0, w1, w2, w3⟩
theorem TProblem.mkAgg {w : World} {x : TProblem} {A0 : Option Addr} {n0 c0 : Nat} {s0 : List Nat} {A1 : Option Addr} {n1 c1 : Nat} {s1 : List Nat} {A2 : Option Addr} {n2 c2 : Nat} {s2 : List Nat} {A3 : Option Addr} {n3 c3 : Nat} {s3 : List Nat} (w0 : Sl w A0 n0 c0 x.mesh.points s0) (w1 : Sl w A1 n1 c1 x.mesh.triangles s1) (w2 : Sl w A2 n2 c2 x.diffusion s2) (w3 : Sl w A3 n3 c3 x.source s3) : Agg w (.agg #[.slice A0 n0 c0, .slice A1 n1 c1, .slice A2 n2 c2, .slice A3 n3 c3]) x (s0 ++ (s1 ++ (s2 ++ (s3)))) :=
  ⟨_, rfl, TProblem.shut w0 w1 w2 w3⟩
theorem TProblem.elem {w : World} {A : Option Addr} {n c : Nat} {xs : List TProblem} {bs : List Nat} (h : Sl w A n c xs bs) {k : Nat} (hk : k < n) :
    ∃ (b off : Nat) (x : TProblem) (A0 : Option Addr) (n0 c0 : Nat) (s0 : List Nat) (A1 : Option Addr) (n1 c1 : Nat) (s1 : List Nat) (A2 : Option Addr) (n2 c2 : Nat) (s2 : List Nat) (A3 : Option Addr) (n3 c3 : Nat) (s3 : List Nat), A = some ⟨b, off, none⟩ ∧ b < w.heap.size ∧ xs[k]? = some x ∧ w.cell? ⟨b, off + k * 4, none⟩ = some (.slice A0 n0 c0) ∧ w.cell? ⟨b, off + k * 4 + 1, none⟩ = some (.slice A1 n1 c1) ∧ w.cell? ⟨b, off + k * 4 + 2, none⟩ = some (.slice A2 n2 c2) ∧ w.cell? ⟨b, off + k * 4 + 3, none⟩ = some (.slice A3 n3 c3) ∧ Sl w A0 n0 c0 x.mesh.points s0 ∧ Sl w A1 n1 c1 x.mesh.triangles s1 ∧ Sl w A2 n2 c2 x.diffusion s2 ∧ Sl w A3 n3 c3 x.source s3 ∧ ∀ g ∈ (s0 ++ (s1 ++ (s2 ++ (s3)))), g ∈ bs := by
  obtain ⟨b, off, x, cs, fs, hA, hb, hx, hc, ha, hg⟩ := Sl.getAt h hk
  obtain ⟨A0, n0, c0, s0, A1, n1, c1, s1, A2, n2, c2, s2, A3, n3, c3, s3, rfl, rfl, w0, w1, w2, w3⟩ := TProblem.open_ ha
  exact ⟨b, off, x, _, _, _, _, _, _, _, _, _, _, _, _, _, _, _, _, hA, hb, hx, hc 0 _ rfl, hc 1 _ rfl, hc 2 _ rfl, hc 3 _ rfl, w0, w1, w2, w3, hg⟩
theorem TProblem.elemA {w : World} {A : Option Addr} {n c : Nat} {xs : List TProblem} {bs : List Nat} (h : Sl w A n c xs bs) {k : Nat} (hk : k < n) :
    ∃ (b off : Nat) (x : TProblem) (A0 : Option Addr) (n0 c0 : Nat) (s0 : List Nat) (A1 : Option Addr) (n1 c1 : Nat) (s1 : List Nat) (A2 : Option Addr) (n2 c2 : Nat) (s2 : List Nat) (A3 : Option Addr) (n3 c3 : Nat) (s3 : List Nat), A = some ⟨b, off, none⟩ ∧ b < w.heap.size ∧ xs[k]? = some x ∧ w.cell? ⟨b, off + k * 4, none⟩ = some (.slice A0 n0 c0) ∧ w.cell? ⟨b, off + k * 4 + 1, none⟩ = some (.slice A1 n1 c1) ∧ w.cell? ⟨b, off + k * 4 + 2, none⟩ = some (.slice A2 n2 c2) ∧ w.cell? ⟨b, off + k * 4 + 3, none⟩ = some (.slice A3 n3 c3) ∧ Agg w (.agg #[.slice A0 n0 c0, .slice A1 n1 c1, .slice A2 n2 c2, .slice A3 n3 c3]) x (s0 ++ (s1 ++ (s2 ++ (s3)))) := by
  obtain ⟨b, off, x, cs, fs, hA, hb, hx, hc, ha, hg⟩ := Sl.getAt h hk
  obtain ⟨A0, n0, c0, s0, A1, n1, c1, s1, A2, n2, c2, s2, A3, n3, c3, s3, rfl, rfl, w0, w1, w2, w3⟩ := TProblem.open_ ha
  exact ⟨b, off, x, _, _, _, _, _, _, _, _, _, _, _, _, _, _, _, _, hA, hb, hx, hc 0 _ rfl, hc 1 _ rfl, hc 2 _ rfl, hc 3 _ rfl, _, rfl, ha⟩

structure TRow where
  cols : List Int
  vals : List TRat
  deriving DecidableEq
instance : Dat TRow := Dat.via fun x => (x.cols, x.vals)
theorem TRow.open_ {w : World} {cs : List Value} {x : TRow} {bs : List Nat} (h : Dat.at_ w cs x bs) : ∃ (A0 : Option Addr) (n0 c0 : Nat) (s0 : List Nat) (A1 : Option Addr) (n1 c1 : Nat) (s1 : List Nat), cs = [.slice A0 n0 c0, .slice A1 n1 c1] ∧ bs = s0 ++ (s1) ∧ Sl w A0 n0 c0 x.cols s0 ∧ Sl w A1 n1 c1 x.vals s1 := by
  obtain ⟨p1, q1, u1, v1, rfl, rfl, e1, g1⟩ := h
  obtain ⟨A0, n0, c0, rfl, w0⟩ := e1
  obtain ⟨A1, n1, c1, rfl, w1⟩ := g1
  exact ⟨_, _, _, _, _, _, _, _, rfl, by first | rfl | (simp; done) | simp [List.append_assoc], w0, w1⟩
theorem TRow.shut {w : World} {x : TRow} {A0 : Option Addr} {n0 c0 : Nat} {s0 : List Nat} {A1 : Option Addr} {n1 c1 : Nat} {s1 : List Nat} (w0 : Sl w A0 n0 c0 x.cols s0) (w1 : Sl w A1 n1 c1 x.vals s1) : Dat.at_ w [.slice A0 n0 c0, .slice A1 n1 c1] x (s0 ++ (s1)) := by
  have h : Dat.at_ w _ x _ := ⟨_, _, _, _, rfl, rfl, ⟨_, _, _, rfl, w0⟩, ⟨_, _, _, rfl, w1⟩⟩
  first | exact h | (simpa using h) | simpa [List.append_assoc] using h
theorem TRow.agg {w : World} {v : Value} {x : TRow} {bs : List Nat} (h : Agg w v x bs) : ∃ (A0 : Option Addr) (n0 c0 : Nat) (s0 : List Nat) (A1 : Option Addr) (n1 c1 : Nat) (s1 : List Nat), v = .agg #[.slice A0 n0 c0, .slice A1 n1 c1] ∧ bs = s0 ++ (s1) ∧ Sl w A0 n0 c0 x.cols s0 ∧ Sl w A1 n1 c1 x.vals s1 := by
  obtain ⟨cs, rfl, h⟩ := h
  obtain ⟨A0, n0, c0, s0, A1, n1, c1, s1, rfl, rfl, w0, w1⟩ := TRow.open_ h
  exact ⟨_, _, _, _, _, _, _, _, rfl, rfl, w0, w1⟩
theorem TRow.mkAgg {w : World} {x : TRow} {A0 : Option Addr} {n0 c0 : Nat} {s0 : List Nat} {A1 : Option Addr} {n1 c1 : Nat} {s1 : List Nat} (w0 : Sl w A0 n0 c0 x.cols s0) (w1 : Sl w A1 n1 c1 x.vals s1) : Agg w (.agg #[.slice A0 n0 c0, .slice A1 n1 c1]) x (s0 ++ (s1)) :=
  ⟨_, rfl, TRow.shut w0 w1⟩
theorem TRow.elem {w : World} {A : Option Addr} {n c : Nat} {xs : List TRow} {bs : List Nat} (h : Sl w A n c xs bs) {k : Nat} (hk : k < n) :
    ∃ (b off : Nat) (x : TRow) (A0 : Option Addr) (n0 c0 : Nat) (s0 : List Nat) (A1 : Option Addr) (n1 c1 : Nat) (s1 : List Nat), A = some ⟨b, off, none⟩ ∧ b < w.heap.size ∧ xs[k]? = some x ∧ w.cell? ⟨b, off + k * 2, none⟩ = some (.slice A0 n0 c0) ∧ w.cell? ⟨b, off + k * 2 + 1, none⟩ = some (.slice A1 n1 c1) ∧ Sl w A0 n0 c0 x.cols s0 ∧ Sl w A1 n1 c1 x.vals s1 ∧ ∀ g ∈ (s0 ++ (s1)), g ∈ bs := by
  obtain ⟨b, off, x, cs, fs, hA, hb, hx, hc, ha, hg⟩ := Sl.getAt h hk
  obtain ⟨A0, n0, c0, s0, A1, n1, c1, s1, rfl, rfl, w0, w1⟩ := TRow.open_ ha
  exact ⟨b, off, x, _, _, _, _, _, _, _, _, hA, hb, hx, hc 0 _ rfl, hc 1 _ rfl, w0, w1, hg⟩
theorem TRow.elemA {w : World} {A : Option Addr} {n c : Nat} {xs : List TRow} {bs : List Nat} (h : Sl w A n c xs bs) {k : Nat} (hk : k < n) :
    ∃ (b off : Nat) (x : TRow) (A0 : Option Addr) (n0 c0 : Nat) (s0 : List Nat) (A1 : Option Addr) (n1 c1 : Nat) (s1 : List Nat), A = some ⟨b, off, none⟩ ∧ b < w.heap.size ∧ xs[k]? = some x ∧ w.cell? ⟨b, off + k * 2, none⟩ = some (.slice A0 n0 c0) ∧ w.cell? ⟨b, off + k * 2 + 1, none⟩ = some (.slice A1 n1 c1) ∧ Agg w (.agg #[.slice A0 n0 c0, .slice A1 n1 c1]) x (s0 ++ (s1)) := by
  obtain ⟨b, off, x, cs, fs, hA, hb, hx, hc, ha, hg⟩ := Sl.getAt h hk
  obtain ⟨A0, n0, c0, s0, A1, n1, c1, s1, rfl, rfl, w0, w1⟩ := TRow.open_ ha
  exact ⟨b, off, x, _, _, _, _, _, _, _, _, hA, hb, hx, hc 0 _ rfl, hc 1 _ rfl, _, rfl, ha⟩

structure TMatrix where
  rows : List TRow
  deriving DecidableEq
instance : Dat TMatrix := Dat.via fun x => x.rows
theorem TMatrix.open_ {w : World} {cs : List Value} {x : TMatrix} {bs : List Nat} (h : Dat.at_ w cs x bs) : ∃ (A0 : Option Addr) (n0 c0 : Nat) (s0 : List Nat), cs = [.slice A0 n0 c0] ∧ bs = s0 ∧ Sl w A0 n0 c0 x.rows s0 := by
  obtain ⟨A0, n0, c0, rfl, w0⟩ := h
  exact ⟨_, _, _, _, rfl, by first | rfl | (simp; done) | simp [List.append_assoc], w0⟩
theorem TMatrix.shut {w : World} {x : TMatrix} {A0 : Option Addr} {n0 c0 : Nat} {s0 : List Nat} (w0 : Sl w A0 n0 c0 x.rows s0) : Dat.at_ w [.slice A0 n0 c0] x (s0) := by
  have h : Dat.at_ w _ x _ := ⟨_, _, _, rfl, w0⟩
  first | exact h | (simpa using h) | simpa [List.append_assoc] using h
theorem TMatrix.agg {w : World} {v : Value} {x : TMatrix} {bs : List Nat} (h : Agg w v x bs) : ∃ (A0 : Option Addr) (n0 c0 : Nat) (s0 : List Nat), v = .agg #[.slice A0 n0 c0] ∧ bs = s0 ∧ Sl w A0 n0 c0 x.rows s0 := by
  obtain ⟨cs, rfl, h⟩ := h
  obtain ⟨A0, n0, c0, s0, rfl, rfl, w0⟩ := TMatrix.open_ h
  exact ⟨_, _, _, _, rfl, rfl, w0⟩
theorem TMatrix.mkAgg {w : World} {x : TMatrix} {A0 : Option Addr} {n0 c0 : Nat} {s0 : List Nat} (w0 : Sl w A0 n0 c0 x.rows s0) : Agg w (.agg #[.slice A0 n0 c0]) x (s0) :=
  ⟨_, rfl, TMatrix.shut w0⟩

structure TFactor where
  lower : List (List TRat)
  pivots : List TRat
  deriving DecidableEq
instance : Dat TFactor := Dat.via fun x => (x.lower, x.pivots)
theorem TFactor.open_ {w : World} {cs : List Value} {x : TFactor} {bs : List Nat} (h : Dat.at_ w cs x bs) : ∃ (A0 : Option Addr) (n0 c0 : Nat) (s0 : List Nat) (A1 : Option Addr) (n1 c1 : Nat) (s1 : List Nat), cs = [.slice A0 n0 c0, .slice A1 n1 c1] ∧ bs = s0 ++ (s1) ∧ Sl w A0 n0 c0 x.lower s0 ∧ Sl w A1 n1 c1 x.pivots s1 := by
  obtain ⟨p1, q1, u1, v1, rfl, rfl, e1, g1⟩ := h
  obtain ⟨A0, n0, c0, rfl, w0⟩ := e1
  obtain ⟨A1, n1, c1, rfl, w1⟩ := g1
  exact ⟨_, _, _, _, _, _, _, _, rfl, by first | rfl | (simp; done) | simp [List.append_assoc], w0, w1⟩
theorem TFactor.shut {w : World} {x : TFactor} {A0 : Option Addr} {n0 c0 : Nat} {s0 : List Nat} {A1 : Option Addr} {n1 c1 : Nat} {s1 : List Nat} (w0 : Sl w A0 n0 c0 x.lower s0) (w1 : Sl w A1 n1 c1 x.pivots s1) : Dat.at_ w [.slice A0 n0 c0, .slice A1 n1 c1] x (s0 ++ (s1)) := by
  have h : Dat.at_ w _ x _ := ⟨_, _, _, _, rfl, rfl, ⟨_, _, _, rfl, w0⟩, ⟨_, _, _, rfl, w1⟩⟩
  first | exact h | (simpa using h) | simpa [List.append_assoc] using h
theorem TFactor.agg {w : World} {v : Value} {x : TFactor} {bs : List Nat} (h : Agg w v x bs) : ∃ (A0 : Option Addr) (n0 c0 : Nat) (s0 : List Nat) (A1 : Option Addr) (n1 c1 : Nat) (s1 : List Nat), v = .agg #[.slice A0 n0 c0, .slice A1 n1 c1] ∧ bs = s0 ++ (s1) ∧ Sl w A0 n0 c0 x.lower s0 ∧ Sl w A1 n1 c1 x.pivots s1 := by
  obtain ⟨cs, rfl, h⟩ := h
  obtain ⟨A0, n0, c0, s0, A1, n1, c1, s1, rfl, rfl, w0, w1⟩ := TFactor.open_ h
  exact ⟨_, _, _, _, _, _, _, _, rfl, rfl, w0, w1⟩
theorem TFactor.mkAgg {w : World} {x : TFactor} {A0 : Option Addr} {n0 c0 : Nat} {s0 : List Nat} {A1 : Option Addr} {n1 c1 : Nat} {s1 : List Nat} (w0 : Sl w A0 n0 c0 x.lower s0) (w1 : Sl w A1 n1 c1 x.pivots s1) : Agg w (.agg #[.slice A0 n0 c0, .slice A1 n1 c1]) x (s0 ++ (s1)) :=
  ⟨_, rfl, TFactor.shut w0 w1⟩
theorem TFactor.elem {w : World} {A : Option Addr} {n c : Nat} {xs : List TFactor} {bs : List Nat} (h : Sl w A n c xs bs) {k : Nat} (hk : k < n) :
    ∃ (b off : Nat) (x : TFactor) (A0 : Option Addr) (n0 c0 : Nat) (s0 : List Nat) (A1 : Option Addr) (n1 c1 : Nat) (s1 : List Nat), A = some ⟨b, off, none⟩ ∧ b < w.heap.size ∧ xs[k]? = some x ∧ w.cell? ⟨b, off + k * 2, none⟩ = some (.slice A0 n0 c0) ∧ w.cell? ⟨b, off + k * 2 + 1, none⟩ = some (.slice A1 n1 c1) ∧ Sl w A0 n0 c0 x.lower s0 ∧ Sl w A1 n1 c1 x.pivots s1 ∧ ∀ g ∈ (s0 ++ (s1)), g ∈ bs := by
  obtain ⟨b, off, x, cs, fs, hA, hb, hx, hc, ha, hg⟩ := Sl.getAt h hk
  obtain ⟨A0, n0, c0, s0, A1, n1, c1, s1, rfl, rfl, w0, w1⟩ := TFactor.open_ ha
  exact ⟨b, off, x, _, _, _, _, _, _, _, _, hA, hb, hx, hc 0 _ rfl, hc 1 _ rfl, w0, w1, hg⟩
theorem TFactor.elemA {w : World} {A : Option Addr} {n c : Nat} {xs : List TFactor} {bs : List Nat} (h : Sl w A n c xs bs) {k : Nat} (hk : k < n) :
    ∃ (b off : Nat) (x : TFactor) (A0 : Option Addr) (n0 c0 : Nat) (s0 : List Nat) (A1 : Option Addr) (n1 c1 : Nat) (s1 : List Nat), A = some ⟨b, off, none⟩ ∧ b < w.heap.size ∧ xs[k]? = some x ∧ w.cell? ⟨b, off + k * 2, none⟩ = some (.slice A0 n0 c0) ∧ w.cell? ⟨b, off + k * 2 + 1, none⟩ = some (.slice A1 n1 c1) ∧ Agg w (.agg #[.slice A0 n0 c0, .slice A1 n1 c1]) x (s0 ++ (s1)) := by
  obtain ⟨b, off, x, cs, fs, hA, hb, hx, hc, ha, hg⟩ := Sl.getAt h hk
  obtain ⟨A0, n0, c0, s0, A1, n1, c1, s1, rfl, rfl, w0, w1⟩ := TFactor.open_ ha
  exact ⟨b, off, x, _, _, _, _, _, _, _, _, hA, hb, hx, hc 0 _ rfl, hc 1 _ rfl, _, rfl, ha⟩

structure TIterate where
  x : List TRat
  r : List TRat
  p : List TRat
  deriving DecidableEq
instance : Dat TIterate := Dat.via fun x => (x.x, x.r, x.p)
theorem TIterate.open_ {w : World} {cs : List Value} {x : TIterate} {bs : List Nat} (h : Dat.at_ w cs x bs) : ∃ (A0 : Option Addr) (n0 c0 : Nat) (s0 : List Nat) (A1 : Option Addr) (n1 c1 : Nat) (s1 : List Nat) (A2 : Option Addr) (n2 c2 : Nat) (s2 : List Nat), cs = [.slice A0 n0 c0, .slice A1 n1 c1, .slice A2 n2 c2] ∧ bs = s0 ++ (s1 ++ (s2)) ∧ Sl w A0 n0 c0 x.x s0 ∧ Sl w A1 n1 c1 x.r s1 ∧ Sl w A2 n2 c2 x.p s2 := by
  obtain ⟨p1, q1, u1, v1, rfl, rfl, e1, g1⟩ := h
  obtain ⟨A0, n0, c0, rfl, w0⟩ := e1
  obtain ⟨p2, q2, u2, v2, rfl, rfl, e2, g2⟩ := g1
  obtain ⟨A1, n1, c1, rfl, w1⟩ := e2
  obtain ⟨A2, n2, c2, rfl, w2⟩ := g2
  exact ⟨_, _, _, _, _, _, _, _, _, _, _, _, rfl, by first | rfl | (simp; done) | simp [List.append_assoc], w0, w1, w2⟩
theorem TIterate.shut {w : World} {x : TIterate} {A0 : Option Addr} {n0 c0 : Nat} {s0 : List Nat} {A1 : Option Addr} {n1 c1 : Nat} {s1 : List Nat} {A2 : Option Addr} {n2 c2 : Nat} {s2 : List Nat} (w0 : Sl w A0 n0 c0 x.x s0) (w1 : Sl w A1 n1 c1 x.r s1) (w2 : Sl w A2 n2 c2 x.p s2) : Dat.at_ w [.slice A0 n0 c0, .slice A1 n1 c1, .slice A2 n2 c2] x (s0 ++ (s1 ++ (s2))) := by
  have h : Dat.at_ w _ x _ := ⟨_, _, _, _, rfl, rfl, ⟨_, _, _, rfl, w0⟩, ⟨_, _, _, _, rfl, rfl, ⟨_, _, _, rfl, w1⟩, ⟨_, _, _, rfl, w2⟩⟩⟩
  first | exact h | (simpa using h) | simpa [List.append_assoc] using h
theorem TIterate.agg {w : World} {v : Value} {x : TIterate} {bs : List Nat} (h : Agg w v x bs) : ∃ (A0 : Option Addr) (n0 c0 : Nat) (s0 : List Nat) (A1 : Option Addr) (n1 c1 : Nat) (s1 : List Nat) (A2 : Option Addr) (n2 c2 : Nat) (s2 : List Nat), v = .agg #[.slice A0 n0 c0, .slice A1 n1 c1, .slice A2 n2 c2] ∧ bs = s0 ++ (s1 ++ (s2)) ∧ Sl w A0 n0 c0 x.x s0 ∧ Sl w A1 n1 c1 x.r s1 ∧ Sl w A2 n2 c2 x.p s2 := by
  obtain ⟨cs, rfl, h⟩ := h
  obtain ⟨A0, n0, c0, s0, A1, n1, c1, s1, A2, n2, c2, s2, rfl, rfl, w0, w1, w2⟩ := TIterate.open_ h
  exact ⟨_, _, _, _, _, _, _, _, _, _, _, _, rfl, rfl, w0, w1, w2⟩
theorem TIterate.mkAgg {w : World} {x : TIterate} {A0 : Option Addr} {n0 c0 : Nat} {s0 : List Nat} {A1 : Option Addr} {n1 c1 : Nat} {s1 : List Nat} {A2 : Option Addr} {n2 c2 : Nat} {s2 : List Nat} (w0 : Sl w A0 n0 c0 x.x s0) (w1 : Sl w A1 n1 c1 x.r s1) (w2 : Sl w A2 n2 c2 x.p s2) : Agg w (.agg #[.slice A0 n0 c0, .slice A1 n1 c1, .slice A2 n2 c2]) x (s0 ++ (s1 ++ (s2))) :=
  ⟨_, rfl, TIterate.shut w0 w1 w2⟩
theorem TIterate.elem {w : World} {A : Option Addr} {n c : Nat} {xs : List TIterate} {bs : List Nat} (h : Sl w A n c xs bs) {k : Nat} (hk : k < n) :
    ∃ (b off : Nat) (x : TIterate) (A0 : Option Addr) (n0 c0 : Nat) (s0 : List Nat) (A1 : Option Addr) (n1 c1 : Nat) (s1 : List Nat) (A2 : Option Addr) (n2 c2 : Nat) (s2 : List Nat), A = some ⟨b, off, none⟩ ∧ b < w.heap.size ∧ xs[k]? = some x ∧ w.cell? ⟨b, off + k * 3, none⟩ = some (.slice A0 n0 c0) ∧ w.cell? ⟨b, off + k * 3 + 1, none⟩ = some (.slice A1 n1 c1) ∧ w.cell? ⟨b, off + k * 3 + 2, none⟩ = some (.slice A2 n2 c2) ∧ Sl w A0 n0 c0 x.x s0 ∧ Sl w A1 n1 c1 x.r s1 ∧ Sl w A2 n2 c2 x.p s2 ∧ ∀ g ∈ (s0 ++ (s1 ++ (s2))), g ∈ bs := by
  obtain ⟨b, off, x, cs, fs, hA, hb, hx, hc, ha, hg⟩ := Sl.getAt h hk
  obtain ⟨A0, n0, c0, s0, A1, n1, c1, s1, A2, n2, c2, s2, rfl, rfl, w0, w1, w2⟩ := TIterate.open_ ha
  exact ⟨b, off, x, _, _, _, _, _, _, _, _, _, _, _, _, hA, hb, hx, hc 0 _ rfl, hc 1 _ rfl, hc 2 _ rfl, w0, w1, w2, hg⟩
theorem TIterate.elemA {w : World} {A : Option Addr} {n c : Nat} {xs : List TIterate} {bs : List Nat} (h : Sl w A n c xs bs) {k : Nat} (hk : k < n) :
    ∃ (b off : Nat) (x : TIterate) (A0 : Option Addr) (n0 c0 : Nat) (s0 : List Nat) (A1 : Option Addr) (n1 c1 : Nat) (s1 : List Nat) (A2 : Option Addr) (n2 c2 : Nat) (s2 : List Nat), A = some ⟨b, off, none⟩ ∧ b < w.heap.size ∧ xs[k]? = some x ∧ w.cell? ⟨b, off + k * 3, none⟩ = some (.slice A0 n0 c0) ∧ w.cell? ⟨b, off + k * 3 + 1, none⟩ = some (.slice A1 n1 c1) ∧ w.cell? ⟨b, off + k * 3 + 2, none⟩ = some (.slice A2 n2 c2) ∧ Agg w (.agg #[.slice A0 n0 c0, .slice A1 n1 c1, .slice A2 n2 c2]) x (s0 ++ (s1 ++ (s2))) := by
  obtain ⟨b, off, x, cs, fs, hA, hb, hx, hc, ha, hg⟩ := Sl.getAt h hk
  obtain ⟨A0, n0, c0, s0, A1, n1, c1, s1, A2, n2, c2, s2, rfl, rfl, w0, w1, w2⟩ := TIterate.open_ ha
  exact ⟨b, off, x, _, _, _, _, _, _, _, _, _, _, _, _, hA, hb, hx, hc 0 _ rfl, hc 1 _ rfl, hc 2 _ rfl, _, rfl, ha⟩

structure TFan where
  triangles : List Int
  spokes : List Int
  closed : Bool
  deriving DecidableEq
instance : Dat TFan := Dat.via fun x => (x.triangles, x.spokes, x.closed)
theorem TFan.open_ {w : World} {cs : List Value} {x : TFan} {bs : List Nat} (h : Dat.at_ w cs x bs) : ∃ (A0 : Option Addr) (n0 c0 : Nat) (s0 : List Nat) (A1 : Option Addr) (n1 c1 : Nat) (s1 : List Nat), cs = [.slice A0 n0 c0, .slice A1 n1 c1, .bool x.closed] ∧ bs = s0 ++ (s1) ∧ Sl w A0 n0 c0 x.triangles s0 ∧ Sl w A1 n1 c1 x.spokes s1 := by
  obtain ⟨p1, q1, u1, v1, rfl, rfl, e1, g1⟩ := h
  obtain ⟨A0, n0, c0, rfl, w0⟩ := e1
  obtain ⟨p2, q2, u2, v2, rfl, rfl, e2, g2⟩ := g1
  obtain ⟨A1, n1, c1, rfl, w1⟩ := e2
  obtain ⟨rfl, rfl⟩ := g2
  exact ⟨_, _, _, _, _, _, _, _, rfl, by first | rfl | (simp; done) | simp [List.append_assoc], w0, w1⟩
theorem TFan.shut {w : World} {x : TFan} {A0 : Option Addr} {n0 c0 : Nat} {s0 : List Nat} {A1 : Option Addr} {n1 c1 : Nat} {s1 : List Nat} (w0 : Sl w A0 n0 c0 x.triangles s0) (w1 : Sl w A1 n1 c1 x.spokes s1) : Dat.at_ w [.slice A0 n0 c0, .slice A1 n1 c1, .bool x.closed] x (s0 ++ (s1)) := by
  have h : Dat.at_ w _ x _ := ⟨_, _, _, _, rfl, rfl, ⟨_, _, _, rfl, w0⟩, ⟨_, _, _, _, rfl, rfl, ⟨_, _, _, rfl, w1⟩, ⟨rfl, rfl⟩⟩⟩
  first | exact h | (simpa using h) | simpa [List.append_assoc] using h
theorem TFan.agg {w : World} {v : Value} {x : TFan} {bs : List Nat} (h : Agg w v x bs) : ∃ (A0 : Option Addr) (n0 c0 : Nat) (s0 : List Nat) (A1 : Option Addr) (n1 c1 : Nat) (s1 : List Nat), v = .agg #[.slice A0 n0 c0, .slice A1 n1 c1, .bool x.closed] ∧ bs = s0 ++ (s1) ∧ Sl w A0 n0 c0 x.triangles s0 ∧ Sl w A1 n1 c1 x.spokes s1 := by
  obtain ⟨cs, rfl, h⟩ := h
  obtain ⟨A0, n0, c0, s0, A1, n1, c1, s1, rfl, rfl, w0, w1⟩ := TFan.open_ h
  exact ⟨_, _, _, _, _, _, _, _, rfl, rfl, w0, w1⟩
theorem TFan.mkAgg {w : World} {x : TFan} {A0 : Option Addr} {n0 c0 : Nat} {s0 : List Nat} {A1 : Option Addr} {n1 c1 : Nat} {s1 : List Nat} (w0 : Sl w A0 n0 c0 x.triangles s0) (w1 : Sl w A1 n1 c1 x.spokes s1) : Agg w (.agg #[.slice A0 n0 c0, .slice A1 n1 c1, .bool x.closed]) x (s0 ++ (s1)) :=
  ⟨_, rfl, TFan.shut w0 w1⟩
theorem TFan.elem {w : World} {A : Option Addr} {n c : Nat} {xs : List TFan} {bs : List Nat} (h : Sl w A n c xs bs) {k : Nat} (hk : k < n) :
    ∃ (b off : Nat) (x : TFan) (A0 : Option Addr) (n0 c0 : Nat) (s0 : List Nat) (A1 : Option Addr) (n1 c1 : Nat) (s1 : List Nat), A = some ⟨b, off, none⟩ ∧ b < w.heap.size ∧ xs[k]? = some x ∧ w.cell? ⟨b, off + k * 3, none⟩ = some (.slice A0 n0 c0) ∧ w.cell? ⟨b, off + k * 3 + 1, none⟩ = some (.slice A1 n1 c1) ∧ w.cell? ⟨b, off + k * 3 + 2, none⟩ = some (.bool x.closed) ∧ Sl w A0 n0 c0 x.triangles s0 ∧ Sl w A1 n1 c1 x.spokes s1 ∧ ∀ g ∈ (s0 ++ (s1)), g ∈ bs := by
  obtain ⟨b, off, x, cs, fs, hA, hb, hx, hc, ha, hg⟩ := Sl.getAt h hk
  obtain ⟨A0, n0, c0, s0, A1, n1, c1, s1, rfl, rfl, w0, w1⟩ := TFan.open_ ha
  exact ⟨b, off, x, _, _, _, _, _, _, _, _, hA, hb, hx, hc 0 _ rfl, hc 1 _ rfl, hc 2 _ rfl, w0, w1, hg⟩
theorem TFan.elemA {w : World} {A : Option Addr} {n c : Nat} {xs : List TFan} {bs : List Nat} (h : Sl w A n c xs bs) {k : Nat} (hk : k < n) :
    ∃ (b off : Nat) (x : TFan) (A0 : Option Addr) (n0 c0 : Nat) (s0 : List Nat) (A1 : Option Addr) (n1 c1 : Nat) (s1 : List Nat), A = some ⟨b, off, none⟩ ∧ b < w.heap.size ∧ xs[k]? = some x ∧ w.cell? ⟨b, off + k * 3, none⟩ = some (.slice A0 n0 c0) ∧ w.cell? ⟨b, off + k * 3 + 1, none⟩ = some (.slice A1 n1 c1) ∧ w.cell? ⟨b, off + k * 3 + 2, none⟩ = some (.bool x.closed) ∧ Agg w (.agg #[.slice A0 n0 c0, .slice A1 n1 c1, .bool x.closed]) x (s0 ++ (s1)) := by
  obtain ⟨b, off, x, cs, fs, hA, hb, hx, hc, ha, hg⟩ := Sl.getAt h hk
  obtain ⟨A0, n0, c0, s0, A1, n1, c1, s1, rfl, rfl, w0, w1⟩ := TFan.open_ ha
  exact ⟨b, off, x, _, _, _, _, _, _, _, _, hA, hb, hx, hc 0 _ rfl, hc 1 _ rfl, hc 2 _ rfl, _, rfl, ha⟩

structure TGoal where
  value : TRat
  square : TRat
  deriving DecidableEq
instance : Dat TGoal := Dat.via fun x => (x.value, x.square)
theorem TGoal.open_ {w : World} {cs : List Value} {x : TGoal} {bs : List Nat} (h : Dat.at_ w cs x bs) : ∃ (A1 : Option Addr) (n1 c1 : Nat) (s1 : List Nat) (A2 : Option Addr) (n2 c2 : Nat) (s2 : List Nat) (A4 : Option Addr) (n4 c4 : Nat) (s4 : List Nat) (A5 : Option Addr) (n5 c5 : Nat) (s5 : List Nat), cs = [.bool x.value.num.neg, .slice A1 n1 c1, .slice A2 n2 c2, .bool x.square.num.neg, .slice A4 n4 c4, .slice A5 n5 c5] ∧ bs = s1 ++ (s2 ++ (s4 ++ (s5))) ∧ Sl w A1 n1 c1 x.value.num.mag s1 ∧ Sl w A2 n2 c2 x.value.den s2 ∧ Sl w A4 n4 c4 x.square.num.mag s4 ∧ Sl w A5 n5 c5 x.square.den s5 := by
  obtain ⟨p1, q1, u1, v1, rfl, rfl, e1, g1⟩ := h
  obtain ⟨p2, q2, u2, v2, rfl, rfl, e2, g2⟩ := e1
  obtain ⟨p3, q3, u3, v3, rfl, rfl, e3, g3⟩ := e2
  obtain ⟨rfl, rfl⟩ := e3
  obtain ⟨A1, n1, c1, rfl, w1⟩ := g3
  obtain ⟨A2, n2, c2, rfl, w2⟩ := g2
  obtain ⟨p4, q4, u4, v4, rfl, rfl, e4, g4⟩ := g1
  obtain ⟨p5, q5, u5, v5, rfl, rfl, e5, g5⟩ := e4
  obtain ⟨rfl, rfl⟩ := e5
  obtain ⟨A4, n4, c4, rfl, w4⟩ := g5
  obtain ⟨A5, n5, c5, rfl, w5⟩ := g4
  exact ⟨_, _, _, _, _, _, _, _, _, _, _, _, _, _, _, _, rfl, by first | rfl | (simp; done) | simp [List.append_assoc], w1, w2, w4, w5⟩
theorem TGoal.shut {w : World} {x : TGoal} {A1 : Option Addr} {n1 c1 : Nat} {s1 : List Nat} {A2 : Option Addr} {n2 c2 : Nat} {s2 : List Nat} {A4 : Option Addr} {n4 c4 : Nat} {s4 : List Nat} {A5 : Option Addr} {n5 c5 : Nat} {s5 : List Nat} (w1 : Sl w A1 n1 c1 x.value.num.mag s1) (w2 : Sl w A2 n2 c2 x.value.den s2) (w4 : Sl w A4 n4 c4 x.square.num.mag s4) (w5 : Sl w A5 n5 c5 x.square.den s5) : Dat.at_ w [.bool x.value.num.neg, .slice A1 n1 c1, .slice A2 n2 c2, .bool x.square.num.neg, .slice A4 n4 c4, .slice A5 n5 c5] x (s1 ++ (s2 ++ (s4 ++ (s5)))) := by
  have h : Dat.at_ w _ x _ := ⟨_, _, _, _, rfl, rfl, ⟨_, _, _, _, rfl, rfl, ⟨_, _, _, _, rfl, rfl, ⟨rfl, rfl⟩, ⟨_, _, _, rfl, w1⟩⟩, ⟨_, _, _, rfl, w2⟩⟩, ⟨_, _, _, _, rfl, rfl, ⟨_, _, _, _, rfl, rfl, ⟨rfl, rfl⟩, ⟨_, _, _, rfl, w4⟩⟩, ⟨_, _, _, rfl, w5⟩⟩⟩
  first | exact h | (simpa using h) | simpa [List.append_assoc] using h
theorem TGoal.agg {w : World} {v : Value} {x : TGoal} {bs : List Nat} (h : Agg w v x bs) : ∃ (A1 : Option Addr) (n1 c1 : Nat) (s1 : List Nat) (A2 : Option Addr) (n2 c2 : Nat) (s2 : List Nat) (A4 : Option Addr) (n4 c4 : Nat) (s4 : List Nat) (A5 : Option Addr) (n5 c5 : Nat) (s5 : List Nat), v = .agg #[.bool x.value.num.neg, .slice A1 n1 c1, .slice A2 n2 c2, .bool x.square.num.neg, .slice A4 n4 c4, .slice A5 n5 c5] ∧ bs = s1 ++ (s2 ++ (s4 ++ (s5))) ∧ Sl w A1 n1 c1 x.value.num.mag s1 ∧ Sl w A2 n2 c2 x.value.den s2 ∧ Sl w A4 n4 c4 x.square.num.mag s4 ∧ Sl w A5 n5 c5 x.square.den s5 := by
  obtain ⟨cs, rfl, h⟩ := h
  obtain ⟨A1, n1, c1, s1, A2, n2, c2, s2, A4, n4, c4, s4, A5, n5, c5, s5, rfl, rfl, w1, w2, w4, w5⟩ := TGoal.open_ h
  exact ⟨_, _, _, _, _, _, _, _, _, _, _, _, _, _, _, _, rfl, rfl, w1, w2, w4, w5⟩
theorem TGoal.mkAgg {w : World} {x : TGoal} {A1 : Option Addr} {n1 c1 : Nat} {s1 : List Nat} {A2 : Option Addr} {n2 c2 : Nat} {s2 : List Nat} {A4 : Option Addr} {n4 c4 : Nat} {s4 : List Nat} {A5 : Option Addr} {n5 c5 : Nat} {s5 : List Nat} (w1 : Sl w A1 n1 c1 x.value.num.mag s1) (w2 : Sl w A2 n2 c2 x.value.den s2) (w4 : Sl w A4 n4 c4 x.square.num.mag s4) (w5 : Sl w A5 n5 c5 x.square.den s5) : Agg w (.agg #[.bool x.value.num.neg, .slice A1 n1 c1, .slice A2 n2 c2, .bool x.square.num.neg, .slice A4 n4 c4, .slice A5 n5 c5]) x (s1 ++ (s2 ++ (s4 ++ (s5)))) :=
  ⟨_, rfl, TGoal.shut w1 w2 w4 w5⟩
theorem TGoal.elem {w : World} {A : Option Addr} {n c : Nat} {xs : List TGoal} {bs : List Nat} (h : Sl w A n c xs bs) {k : Nat} (hk : k < n) :
    ∃ (b off : Nat) (x : TGoal) (A1 : Option Addr) (n1 c1 : Nat) (s1 : List Nat) (A2 : Option Addr) (n2 c2 : Nat) (s2 : List Nat) (A4 : Option Addr) (n4 c4 : Nat) (s4 : List Nat) (A5 : Option Addr) (n5 c5 : Nat) (s5 : List Nat), A = some ⟨b, off, none⟩ ∧ b < w.heap.size ∧ xs[k]? = some x ∧ w.cell? ⟨b, off + k * 6, none⟩ = some (.bool x.value.num.neg) ∧ w.cell? ⟨b, off + k * 6 + 1, none⟩ = some (.slice A1 n1 c1) ∧ w.cell? ⟨b, off + k * 6 + 2, none⟩ = some (.slice A2 n2 c2) ∧ w.cell? ⟨b, off + k * 6 + 3, none⟩ = some (.bool x.square.num.neg) ∧ w.cell? ⟨b, off + k * 6 + 4, none⟩ = some (.slice A4 n4 c4) ∧ w.cell? ⟨b, off + k * 6 + 5, none⟩ = some (.slice A5 n5 c5) ∧ Sl w A1 n1 c1 x.value.num.mag s1 ∧ Sl w A2 n2 c2 x.value.den s2 ∧ Sl w A4 n4 c4 x.square.num.mag s4 ∧ Sl w A5 n5 c5 x.square.den s5 ∧ ∀ g ∈ (s1 ++ (s2 ++ (s4 ++ (s5)))), g ∈ bs := by
  obtain ⟨b, off, x, cs, fs, hA, hb, hx, hc, ha, hg⟩ := Sl.getAt h hk
  obtain ⟨A1, n1, c1, s1, A2, n2, c2, s2, A4, n4, c4, s4, A5, n5, c5, s5, rfl, rfl, w1, w2, w4, w5⟩ := TGoal.open_ ha
  exact ⟨b, off, x, _, _, _, _, _, _, _, _, _, _, _, _, _, _, _, _, hA, hb, hx, hc 0 _ rfl, hc 1 _ rfl, hc 2 _ rfl, hc 3 _ rfl, hc 4 _ rfl, hc 5 _ rfl, w1, w2, w4, w5, hg⟩
theorem TGoal.elemA {w : World} {A : Option Addr} {n c : Nat} {xs : List TGoal} {bs : List Nat} (h : Sl w A n c xs bs) {k : Nat} (hk : k < n) :
    ∃ (b off : Nat) (x : TGoal) (A1 : Option Addr) (n1 c1 : Nat) (s1 : List Nat) (A2 : Option Addr) (n2 c2 : Nat) (s2 : List Nat) (A4 : Option Addr) (n4 c4 : Nat) (s4 : List Nat) (A5 : Option Addr) (n5 c5 : Nat) (s5 : List Nat), A = some ⟨b, off, none⟩ ∧ b < w.heap.size ∧ xs[k]? = some x ∧ w.cell? ⟨b, off + k * 6, none⟩ = some (.bool x.value.num.neg) ∧ w.cell? ⟨b, off + k * 6 + 1, none⟩ = some (.slice A1 n1 c1) ∧ w.cell? ⟨b, off + k * 6 + 2, none⟩ = some (.slice A2 n2 c2) ∧ w.cell? ⟨b, off + k * 6 + 3, none⟩ = some (.bool x.square.num.neg) ∧ w.cell? ⟨b, off + k * 6 + 4, none⟩ = some (.slice A4 n4 c4) ∧ w.cell? ⟨b, off + k * 6 + 5, none⟩ = some (.slice A5 n5 c5) ∧ Agg w (.agg #[.bool x.value.num.neg, .slice A1 n1 c1, .slice A2 n2 c2, .bool x.square.num.neg, .slice A4 n4 c4, .slice A5 n5 c5]) x (s1 ++ (s2 ++ (s4 ++ (s5)))) := by
  obtain ⟨b, off, x, cs, fs, hA, hb, hx, hc, ha, hg⟩ := Sl.getAt h hk
  obtain ⟨A1, n1, c1, s1, A2, n2, c2, s2, A4, n4, c4, s4, A5, n5, c5, s5, rfl, rfl, w1, w2, w4, w5⟩ := TGoal.open_ ha
  exact ⟨b, off, x, _, _, _, _, _, _, _, _, _, _, _, _, _, _, _, _, hA, hb, hx, hc 0 _ rfl, hc 1 _ rfl, hc 2 _ rfl, hc 3 _ rfl, hc 4 _ rfl, hc 5 _ rfl, _, rfl, ha⟩

structure TReport where
  triangles : Int
  energy : TRat
  bound : TRat
  deriving DecidableEq
instance : Dat TReport := Dat.via fun x => (x.triangles, x.energy, x.bound)
theorem TReport.open_ {w : World} {cs : List Value} {x : TReport} {bs : List Nat} (h : Dat.at_ w cs x bs) : ∃ (A2 : Option Addr) (n2 c2 : Nat) (s2 : List Nat) (A3 : Option Addr) (n3 c3 : Nat) (s3 : List Nat) (A5 : Option Addr) (n5 c5 : Nat) (s5 : List Nat) (A6 : Option Addr) (n6 c6 : Nat) (s6 : List Nat), cs = [.int .i64 x.triangles, .bool x.energy.num.neg, .slice A2 n2 c2, .slice A3 n3 c3, .bool x.bound.num.neg, .slice A5 n5 c5, .slice A6 n6 c6] ∧ bs = s2 ++ (s3 ++ (s5 ++ (s6))) ∧ I64 x.triangles ∧ Sl w A2 n2 c2 x.energy.num.mag s2 ∧ Sl w A3 n3 c3 x.energy.den s3 ∧ Sl w A5 n5 c5 x.bound.num.mag s5 ∧ Sl w A6 n6 c6 x.bound.den s6 := by
  obtain ⟨p1, q1, u1, v1, rfl, rfl, e1, g1⟩ := h
  obtain ⟨rfl, rfl, w0⟩ := e1
  obtain ⟨p2, q2, u2, v2, rfl, rfl, e2, g2⟩ := g1
  obtain ⟨p3, q3, u3, v3, rfl, rfl, e3, g3⟩ := e2
  obtain ⟨p4, q4, u4, v4, rfl, rfl, e4, g4⟩ := e3
  obtain ⟨rfl, rfl⟩ := e4
  obtain ⟨A2, n2, c2, rfl, w2⟩ := g4
  obtain ⟨A3, n3, c3, rfl, w3⟩ := g3
  obtain ⟨p5, q5, u5, v5, rfl, rfl, e5, g5⟩ := g2
  obtain ⟨p6, q6, u6, v6, rfl, rfl, e6, g6⟩ := e5
  obtain ⟨rfl, rfl⟩ := e6
  obtain ⟨A5, n5, c5, rfl, w5⟩ := g6
  obtain ⟨A6, n6, c6, rfl, w6⟩ := g5
  exact ⟨_, _, _, _, _, _, _, _, _, _, _, _, _, _, _, _, rfl, by first | rfl | (simp; done) | simp [List.append_assoc], w0, w2, w3, w5, w6⟩
theorem TReport.shut {w : World} {x : TReport} {A2 : Option Addr} {n2 c2 : Nat} {s2 : List Nat} {A3 : Option Addr} {n3 c3 : Nat} {s3 : List Nat} {A5 : Option Addr} {n5 c5 : Nat} {s5 : List Nat} {A6 : Option Addr} {n6 c6 : Nat} {s6 : List Nat} (w0 : I64 x.triangles) (w2 : Sl w A2 n2 c2 x.energy.num.mag s2) (w3 : Sl w A3 n3 c3 x.energy.den s3) (w5 : Sl w A5 n5 c5 x.bound.num.mag s5) (w6 : Sl w A6 n6 c6 x.bound.den s6) : Dat.at_ w [.int .i64 x.triangles, .bool x.energy.num.neg, .slice A2 n2 c2, .slice A3 n3 c3, .bool x.bound.num.neg, .slice A5 n5 c5, .slice A6 n6 c6] x (s2 ++ (s3 ++ (s5 ++ (s6)))) := by
  have h : Dat.at_ w _ x _ := ⟨_, _, _, _, rfl, rfl, ⟨rfl, rfl, w0⟩, ⟨_, _, _, _, rfl, rfl, ⟨_, _, _, _, rfl, rfl, ⟨_, _, _, _, rfl, rfl, ⟨rfl, rfl⟩, ⟨_, _, _, rfl, w2⟩⟩, ⟨_, _, _, rfl, w3⟩⟩, ⟨_, _, _, _, rfl, rfl, ⟨_, _, _, _, rfl, rfl, ⟨rfl, rfl⟩, ⟨_, _, _, rfl, w5⟩⟩, ⟨_, _, _, rfl, w6⟩⟩⟩⟩
  first | exact h | (simpa using h) | simpa [List.append_assoc] using h
theorem TReport.agg {w : World} {v : Value} {x : TReport} {bs : List Nat} (h : Agg w v x bs) : ∃ (A2 : Option Addr) (n2 c2 : Nat) (s2 : List Nat) (A3 : Option Addr) (n3 c3 : Nat) (s3 : List Nat) (A5 : Option Addr) (n5 c5 : Nat) (s5 : List Nat) (A6 : Option Addr) (n6 c6 : Nat) (s6 : List Nat), v = .agg #[.int .i64 x.triangles, .bool x.energy.num.neg, .slice A2 n2 c2, .slice A3 n3 c3, .bool x.bound.num.neg, .slice A5 n5 c5, .slice A6 n6 c6] ∧ bs = s2 ++ (s3 ++ (s5 ++ (s6))) ∧ I64 x.triangles ∧ Sl w A2 n2 c2 x.energy.num.mag s2 ∧ Sl w A3 n3 c3 x.energy.den s3 ∧ Sl w A5 n5 c5 x.bound.num.mag s5 ∧ Sl w A6 n6 c6 x.bound.den s6 := by
  obtain ⟨cs, rfl, h⟩ := h
  obtain ⟨A2, n2, c2, s2, A3, n3, c3, s3, A5, n5, c5, s5, A6, n6, c6, s6, rfl, rfl, w0, w2, w3, w5, w6⟩ := TReport.open_ h
  exact ⟨_, _, _, _, _, _, _, _, _, _, _, _, _, _, _, _, rfl, rfl, w0, w2, w3, w5, w6⟩
theorem TReport.mkAgg {w : World} {x : TReport} {A2 : Option Addr} {n2 c2 : Nat} {s2 : List Nat} {A3 : Option Addr} {n3 c3 : Nat} {s3 : List Nat} {A5 : Option Addr} {n5 c5 : Nat} {s5 : List Nat} {A6 : Option Addr} {n6 c6 : Nat} {s6 : List Nat} (w0 : I64 x.triangles) (w2 : Sl w A2 n2 c2 x.energy.num.mag s2) (w3 : Sl w A3 n3 c3 x.energy.den s3) (w5 : Sl w A5 n5 c5 x.bound.num.mag s5) (w6 : Sl w A6 n6 c6 x.bound.den s6) : Agg w (.agg #[.int .i64 x.triangles, .bool x.energy.num.neg, .slice A2 n2 c2, .slice A3 n3 c3, .bool x.bound.num.neg, .slice A5 n5 c5, .slice A6 n6 c6]) x (s2 ++ (s3 ++ (s5 ++ (s6)))) :=
  ⟨_, rfl, TReport.shut w0 w2 w3 w5 w6⟩
theorem TReport.elem {w : World} {A : Option Addr} {n c : Nat} {xs : List TReport} {bs : List Nat} (h : Sl w A n c xs bs) {k : Nat} (hk : k < n) :
    ∃ (b off : Nat) (x : TReport) (A2 : Option Addr) (n2 c2 : Nat) (s2 : List Nat) (A3 : Option Addr) (n3 c3 : Nat) (s3 : List Nat) (A5 : Option Addr) (n5 c5 : Nat) (s5 : List Nat) (A6 : Option Addr) (n6 c6 : Nat) (s6 : List Nat), A = some ⟨b, off, none⟩ ∧ b < w.heap.size ∧ xs[k]? = some x ∧ w.cell? ⟨b, off + k * 7, none⟩ = some (.int .i64 x.triangles) ∧ w.cell? ⟨b, off + k * 7 + 1, none⟩ = some (.bool x.energy.num.neg) ∧ w.cell? ⟨b, off + k * 7 + 2, none⟩ = some (.slice A2 n2 c2) ∧ w.cell? ⟨b, off + k * 7 + 3, none⟩ = some (.slice A3 n3 c3) ∧ w.cell? ⟨b, off + k * 7 + 4, none⟩ = some (.bool x.bound.num.neg) ∧ w.cell? ⟨b, off + k * 7 + 5, none⟩ = some (.slice A5 n5 c5) ∧ w.cell? ⟨b, off + k * 7 + 6, none⟩ = some (.slice A6 n6 c6) ∧ I64 x.triangles ∧ Sl w A2 n2 c2 x.energy.num.mag s2 ∧ Sl w A3 n3 c3 x.energy.den s3 ∧ Sl w A5 n5 c5 x.bound.num.mag s5 ∧ Sl w A6 n6 c6 x.bound.den s6 ∧ ∀ g ∈ (s2 ++ (s3 ++ (s5 ++ (s6)))), g ∈ bs := by
  obtain ⟨b, off, x, cs, fs, hA, hb, hx, hc, ha, hg⟩ := Sl.getAt h hk
  obtain ⟨A2, n2, c2, s2, A3, n3, c3, s3, A5, n5, c5, s5, A6, n6, c6, s6, rfl, rfl, w0, w2, w3, w5, w6⟩ := TReport.open_ ha
  exact ⟨b, off, x, _, _, _, _, _, _, _, _, _, _, _, _, _, _, _, _, hA, hb, hx, hc 0 _ rfl, hc 1 _ rfl, hc 2 _ rfl, hc 3 _ rfl, hc 4 _ rfl, hc 5 _ rfl, hc 6 _ rfl, w0, w2, w3, w5, w6, hg⟩
theorem TReport.elemA {w : World} {A : Option Addr} {n c : Nat} {xs : List TReport} {bs : List Nat} (h : Sl w A n c xs bs) {k : Nat} (hk : k < n) :
    ∃ (b off : Nat) (x : TReport) (A2 : Option Addr) (n2 c2 : Nat) (s2 : List Nat) (A3 : Option Addr) (n3 c3 : Nat) (s3 : List Nat) (A5 : Option Addr) (n5 c5 : Nat) (s5 : List Nat) (A6 : Option Addr) (n6 c6 : Nat) (s6 : List Nat), A = some ⟨b, off, none⟩ ∧ b < w.heap.size ∧ xs[k]? = some x ∧ w.cell? ⟨b, off + k * 7, none⟩ = some (.int .i64 x.triangles) ∧ w.cell? ⟨b, off + k * 7 + 1, none⟩ = some (.bool x.energy.num.neg) ∧ w.cell? ⟨b, off + k * 7 + 2, none⟩ = some (.slice A2 n2 c2) ∧ w.cell? ⟨b, off + k * 7 + 3, none⟩ = some (.slice A3 n3 c3) ∧ w.cell? ⟨b, off + k * 7 + 4, none⟩ = some (.bool x.bound.num.neg) ∧ w.cell? ⟨b, off + k * 7 + 5, none⟩ = some (.slice A5 n5 c5) ∧ w.cell? ⟨b, off + k * 7 + 6, none⟩ = some (.slice A6 n6 c6) ∧ Agg w (.agg #[.int .i64 x.triangles, .bool x.energy.num.neg, .slice A2 n2 c2, .slice A3 n3 c3, .bool x.bound.num.neg, .slice A5 n5 c5, .slice A6 n6 c6]) x (s2 ++ (s3 ++ (s5 ++ (s6)))) := by
  obtain ⟨b, off, x, cs, fs, hA, hb, hx, hc, ha, hg⟩ := Sl.getAt h hk
  obtain ⟨A2, n2, c2, s2, A3, n3, c3, s3, A5, n5, c5, s5, A6, n6, c6, s6, rfl, rfl, w0, w2, w3, w5, w6⟩ := TReport.open_ ha
  exact ⟨b, off, x, _, _, _, _, _, _, _, _, _, _, _, _, _, _, _, _, hA, hb, hx, hc 0 _ rfl, hc 1 _ rfl, hc 2 _ rfl, hc 3 _ rfl, hc 4 _ rfl, hc 5 _ rfl, hc 6 _ rfl, _, rfl, ha⟩

structure TState where
  problem : TProblem
  part : TRat
  reports : List TReport
  deriving DecidableEq
instance : Dat TState := Dat.via fun x => (x.problem, x.part, x.reports)
theorem TState.open_ {w : World} {cs : List Value} {x : TState} {bs : List Nat} (h : Dat.at_ w cs x bs) : ∃ (A0 : Option Addr) (n0 c0 : Nat) (s0 : List Nat) (A1 : Option Addr) (n1 c1 : Nat) (s1 : List Nat) (A2 : Option Addr) (n2 c2 : Nat) (s2 : List Nat) (A3 : Option Addr) (n3 c3 : Nat) (s3 : List Nat) (A5 : Option Addr) (n5 c5 : Nat) (s5 : List Nat) (A6 : Option Addr) (n6 c6 : Nat) (s6 : List Nat) (A7 : Option Addr) (n7 c7 : Nat) (s7 : List Nat), cs = [.slice A0 n0 c0, .slice A1 n1 c1, .slice A2 n2 c2, .slice A3 n3 c3, .bool x.part.num.neg, .slice A5 n5 c5, .slice A6 n6 c6, .slice A7 n7 c7] ∧ bs = s0 ++ (s1 ++ (s2 ++ (s3 ++ (s5 ++ (s6 ++ (s7)))))) ∧ Sl w A0 n0 c0 x.problem.mesh.points s0 ∧ Sl w A1 n1 c1 x.problem.mesh.triangles s1 ∧ Sl w A2 n2 c2 x.problem.diffusion s2 ∧ Sl w A3 n3 c3 x.problem.source s3 ∧ Sl w A5 n5 c5 x.part.num.mag s5 ∧ Sl w A6 n6 c6 x.part.den s6 ∧ Sl w A7 n7 c7 x.reports s7 := by
  obtain ⟨p1, q1, u1, v1, rfl, rfl, e1, g1⟩ := h
  obtain ⟨p2, q2, u2, v2, rfl, rfl, e2, g2⟩ := e1
  obtain ⟨p3, q3, u3, v3, rfl, rfl, e3, g3⟩ := e2
  obtain ⟨A0, n0, c0, rfl, w0⟩ := e3
  obtain ⟨A1, n1, c1, rfl, w1⟩ := g3
  obtain ⟨p4, q4, u4, v4, rfl, rfl, e4, g4⟩ := g2
  obtain ⟨A2, n2, c2, rfl, w2⟩ := e4
  obtain ⟨A3, n3, c3, rfl, w3⟩ := g4
  obtain ⟨p5, q5, u5, v5, rfl, rfl, e5, g5⟩ := g1
  obtain ⟨p6, q6, u6, v6, rfl, rfl, e6, g6⟩ := e5
  obtain ⟨p7, q7, u7, v7, rfl, rfl, e7, g7⟩ := e6
  obtain ⟨rfl, rfl⟩ := e7
  obtain ⟨A5, n5, c5, rfl, w5⟩ := g7
  obtain ⟨A6, n6, c6, rfl, w6⟩ := g6
  obtain ⟨A7, n7, c7, rfl, w7⟩ := g5
  exact ⟨_, _, _, _, _, _, _, _, _, _, _, _, _, _, _, _, _, _, _, _, _, _, _, _, _, _, _, _, rfl, by first | rfl | (simp; done) | simp [List.append_assoc], w0, w1, w2, w3, w5, w6, w7⟩
theorem TState.shut {w : World} {x : TState} {A0 : Option Addr} {n0 c0 : Nat} {s0 : List Nat} {A1 : Option Addr} {n1 c1 : Nat} {s1 : List Nat} {A2 : Option Addr} {n2 c2 : Nat} {s2 : List Nat} {A3 : Option Addr} {n3 c3 : Nat} {s3 : List Nat} {A5 : Option Addr} {n5 c5 : Nat} {s5 : List Nat} {A6 : Option Addr} {n6 c6 : Nat} {s6 : List Nat} {A7 : Option Addr} {n7 c7 : Nat} {s7 : List Nat} (w0 : Sl w A0 n0 c0 x.problem.mesh.points s0) (w1 : Sl w A1 n1 c1 x.problem.mesh.triangles s1) (w2 : Sl w A2 n2 c2 x.problem.diffusion s2) (w3 : Sl w A3 n3 c3 x.problem.source s3) (w5 : Sl w A5 n5 c5 x.part.num.mag s5) (w6 : Sl w A6 n6 c6 x.part.den s6) (w7 : Sl w A7 n7 c7 x.reports s7) : Dat.at_ w [.slice A0 n0 c0, .slice A1 n1 c1, .slice A2 n2 c2, .slice A3 n3 c3, .bool x.part.num.neg, .slice A5 n5 c5, .slice A6 n6 c6, .slice A7 n7 c7] x (s0 ++ (s1 ++ (s2 ++ (s3 ++ (s5 ++ (s6 ++ (s7))))))) := by
  have h : Dat.at_ w _ x _ := ⟨_, _, _, _, rfl, rfl, ⟨_, _, _, _, rfl, rfl, ⟨_, _, _, _, rfl, rfl, ⟨_, _, _, rfl, w0⟩, ⟨_, _, _, rfl, w1⟩⟩, ⟨_, _, _, _, rfl, rfl, ⟨_, _, _, rfl, w2⟩, ⟨_, _, _, rfl, w3⟩⟩⟩, ⟨_, _, _, _, rfl, rfl, ⟨_, _, _, _, rfl, rfl, ⟨_, _, _, _, rfl, rfl, ⟨rfl, rfl⟩, ⟨_, _, _, rfl, w5⟩⟩, ⟨_, _, _, rfl, w6⟩⟩, ⟨_, _, _, rfl, w7⟩⟩⟩
  first | exact h | (simpa using h) | simpa [List.append_assoc] using h
theorem TState.agg {w : World} {v : Value} {x : TState} {bs : List Nat} (h : Agg w v x bs) : ∃ (A0 : Option Addr) (n0 c0 : Nat) (s0 : List Nat) (A1 : Option Addr) (n1 c1 : Nat) (s1 : List Nat) (A2 : Option Addr) (n2 c2 : Nat) (s2 : List Nat) (A3 : Option Addr) (n3 c3 : Nat) (s3 : List Nat) (A5 : Option Addr) (n5 c5 : Nat) (s5 : List Nat) (A6 : Option Addr) (n6 c6 : Nat) (s6 : List Nat) (A7 : Option Addr) (n7 c7 : Nat) (s7 : List Nat), v = .agg #[.slice A0 n0 c0, .slice A1 n1 c1, .slice A2 n2 c2, .slice A3 n3 c3, .bool x.part.num.neg, .slice A5 n5 c5, .slice A6 n6 c6, .slice A7 n7 c7] ∧ bs = s0 ++ (s1 ++ (s2 ++ (s3 ++ (s5 ++ (s6 ++ (s7)))))) ∧ Sl w A0 n0 c0 x.problem.mesh.points s0 ∧ Sl w A1 n1 c1 x.problem.mesh.triangles s1 ∧ Sl w A2 n2 c2 x.problem.diffusion s2 ∧ Sl w A3 n3 c3 x.problem.source s3 ∧ Sl w A5 n5 c5 x.part.num.mag s5 ∧ Sl w A6 n6 c6 x.part.den s6 ∧ Sl w A7 n7 c7 x.reports s7 := by
  obtain ⟨cs, rfl, h⟩ := h
  obtain ⟨A0, n0, c0, s0, A1, n1, c1, s1, A2, n2, c2, s2, A3, n3, c3, s3, A5, n5, c5, s5, A6, n6, c6, s6, A7, n7, c7, s7, rfl, rfl, w0, w1, w2, w3, w5, w6, w7⟩ := TState.open_ h
  exact ⟨_, _, _, _, _, _, _, _, _, _, _, _, _, _, _, _, _, _, _, _, _, _, _, _, _, _, _, _, rfl, rfl, w0, w1, w2, w3, w5, w6, w7⟩
theorem TState.mkAgg {w : World} {x : TState} {A0 : Option Addr} {n0 c0 : Nat} {s0 : List Nat} {A1 : Option Addr} {n1 c1 : Nat} {s1 : List Nat} {A2 : Option Addr} {n2 c2 : Nat} {s2 : List Nat} {A3 : Option Addr} {n3 c3 : Nat} {s3 : List Nat} {A5 : Option Addr} {n5 c5 : Nat} {s5 : List Nat} {A6 : Option Addr} {n6 c6 : Nat} {s6 : List Nat} {A7 : Option Addr} {n7 c7 : Nat} {s7 : List Nat} (w0 : Sl w A0 n0 c0 x.problem.mesh.points s0) (w1 : Sl w A1 n1 c1 x.problem.mesh.triangles s1) (w2 : Sl w A2 n2 c2 x.problem.diffusion s2) (w3 : Sl w A3 n3 c3 x.problem.source s3) (w5 : Sl w A5 n5 c5 x.part.num.mag s5) (w6 : Sl w A6 n6 c6 x.part.den s6) (w7 : Sl w A7 n7 c7 x.reports s7) : Agg w (.agg #[.slice A0 n0 c0, .slice A1 n1 c1, .slice A2 n2 c2, .slice A3 n3 c3, .bool x.part.num.neg, .slice A5 n5 c5, .slice A6 n6 c6, .slice A7 n7 c7]) x (s0 ++ (s1 ++ (s2 ++ (s3 ++ (s5 ++ (s6 ++ (s7))))))) :=
  ⟨_, rfl, TState.shut w0 w1 w2 w3 w5 w6 w7⟩
theorem TState.elem {w : World} {A : Option Addr} {n c : Nat} {xs : List TState} {bs : List Nat} (h : Sl w A n c xs bs) {k : Nat} (hk : k < n) :
    ∃ (b off : Nat) (x : TState) (A0 : Option Addr) (n0 c0 : Nat) (s0 : List Nat) (A1 : Option Addr) (n1 c1 : Nat) (s1 : List Nat) (A2 : Option Addr) (n2 c2 : Nat) (s2 : List Nat) (A3 : Option Addr) (n3 c3 : Nat) (s3 : List Nat) (A5 : Option Addr) (n5 c5 : Nat) (s5 : List Nat) (A6 : Option Addr) (n6 c6 : Nat) (s6 : List Nat) (A7 : Option Addr) (n7 c7 : Nat) (s7 : List Nat), A = some ⟨b, off, none⟩ ∧ b < w.heap.size ∧ xs[k]? = some x ∧ w.cell? ⟨b, off + k * 8, none⟩ = some (.slice A0 n0 c0) ∧ w.cell? ⟨b, off + k * 8 + 1, none⟩ = some (.slice A1 n1 c1) ∧ w.cell? ⟨b, off + k * 8 + 2, none⟩ = some (.slice A2 n2 c2) ∧ w.cell? ⟨b, off + k * 8 + 3, none⟩ = some (.slice A3 n3 c3) ∧ w.cell? ⟨b, off + k * 8 + 4, none⟩ = some (.bool x.part.num.neg) ∧ w.cell? ⟨b, off + k * 8 + 5, none⟩ = some (.slice A5 n5 c5) ∧ w.cell? ⟨b, off + k * 8 + 6, none⟩ = some (.slice A6 n6 c6) ∧ w.cell? ⟨b, off + k * 8 + 7, none⟩ = some (.slice A7 n7 c7) ∧ Sl w A0 n0 c0 x.problem.mesh.points s0 ∧ Sl w A1 n1 c1 x.problem.mesh.triangles s1 ∧ Sl w A2 n2 c2 x.problem.diffusion s2 ∧ Sl w A3 n3 c3 x.problem.source s3 ∧ Sl w A5 n5 c5 x.part.num.mag s5 ∧ Sl w A6 n6 c6 x.part.den s6 ∧ Sl w A7 n7 c7 x.reports s7 ∧ ∀ g ∈ (s0 ++ (s1 ++ (s2 ++ (s3 ++ (s5 ++ (s6 ++ (s7))))))), g ∈ bs := by
  obtain ⟨b, off, x, cs, fs, hA, hb, hx, hc, ha, hg⟩ := Sl.getAt h hk
  obtain ⟨A0, n0, c0, s0, A1, n1, c1, s1, A2, n2, c2, s2, A3, n3, c3, s3, A5, n5, c5, s5, A6, n6, c6, s6, A7, n7, c7, s7, rfl, rfl, w0, w1, w2, w3, w5, w6, w7⟩ := TState.open_ ha
  exact ⟨b, off, x, _, _, _, _, _, _, _, _, _, _, _, _, _, _, _, _, _, _, _, _, _, _, _, _, _, _, _, _, hA, hb, hx, hc 0 _ rfl, hc 1 _ rfl, hc 2 _ rfl, hc 3 _ rfl, hc 4 _ rfl, hc 5 _ rfl, hc 6 _ rfl, hc 7 _ rfl, w0, w1, w2, w3, w5, w6, w7, hg⟩
theorem TState.elemA {w : World} {A : Option Addr} {n c : Nat} {xs : List TState} {bs : List Nat} (h : Sl w A n c xs bs) {k : Nat} (hk : k < n) :
    ∃ (b off : Nat) (x : TState) (A0 : Option Addr) (n0 c0 : Nat) (s0 : List Nat) (A1 : Option Addr) (n1 c1 : Nat) (s1 : List Nat) (A2 : Option Addr) (n2 c2 : Nat) (s2 : List Nat) (A3 : Option Addr) (n3 c3 : Nat) (s3 : List Nat) (A5 : Option Addr) (n5 c5 : Nat) (s5 : List Nat) (A6 : Option Addr) (n6 c6 : Nat) (s6 : List Nat) (A7 : Option Addr) (n7 c7 : Nat) (s7 : List Nat), A = some ⟨b, off, none⟩ ∧ b < w.heap.size ∧ xs[k]? = some x ∧ w.cell? ⟨b, off + k * 8, none⟩ = some (.slice A0 n0 c0) ∧ w.cell? ⟨b, off + k * 8 + 1, none⟩ = some (.slice A1 n1 c1) ∧ w.cell? ⟨b, off + k * 8 + 2, none⟩ = some (.slice A2 n2 c2) ∧ w.cell? ⟨b, off + k * 8 + 3, none⟩ = some (.slice A3 n3 c3) ∧ w.cell? ⟨b, off + k * 8 + 4, none⟩ = some (.bool x.part.num.neg) ∧ w.cell? ⟨b, off + k * 8 + 5, none⟩ = some (.slice A5 n5 c5) ∧ w.cell? ⟨b, off + k * 8 + 6, none⟩ = some (.slice A6 n6 c6) ∧ w.cell? ⟨b, off + k * 8 + 7, none⟩ = some (.slice A7 n7 c7) ∧ Agg w (.agg #[.slice A0 n0 c0, .slice A1 n1 c1, .slice A2 n2 c2, .slice A3 n3 c3, .bool x.part.num.neg, .slice A5 n5 c5, .slice A6 n6 c6, .slice A7 n7 c7]) x (s0 ++ (s1 ++ (s2 ++ (s3 ++ (s5 ++ (s6 ++ (s7))))))) := by
  obtain ⟨b, off, x, cs, fs, hA, hb, hx, hc, ha, hg⟩ := Sl.getAt h hk
  obtain ⟨A0, n0, c0, s0, A1, n1, c1, s1, A2, n2, c2, s2, A3, n3, c3, s3, A5, n5, c5, s5, A6, n6, c6, s6, A7, n7, c7, s7, rfl, rfl, w0, w1, w2, w3, w5, w6, w7⟩ := TState.open_ ha
  exact ⟨b, off, x, _, _, _, _, _, _, _, _, _, _, _, _, _, _, _, _, _, _, _, _, _, _, _, _, _, _, _, _, hA, hb, hx, hc 0 _ rfl, hc 1 _ rfl, hc 2 _ rfl, hc 3 _ rfl, hc 4 _ rfl, hc 5 _ rfl, hc 6 _ rfl, hc 7 _ rfl, _, rfl, ha⟩

structure TConsole where
  text : ByteArray
  state : TState
  deriving DecidableEq
instance : Dat TConsole := Dat.via fun x => (x.text, x.state)
theorem TConsole.open_ {w : World} {cs : List Value} {x : TConsole} {bs : List Nat} (h : Dat.at_ w cs x bs) : ∃ (A1 : Option Addr) (n1 c1 : Nat) (s1 : List Nat) (A2 : Option Addr) (n2 c2 : Nat) (s2 : List Nat) (A3 : Option Addr) (n3 c3 : Nat) (s3 : List Nat) (A4 : Option Addr) (n4 c4 : Nat) (s4 : List Nat) (A6 : Option Addr) (n6 c6 : Nat) (s6 : List Nat) (A7 : Option Addr) (n7 c7 : Nat) (s7 : List Nat) (A8 : Option Addr) (n8 c8 : Nat) (s8 : List Nat), cs = [.string x.text, .slice A1 n1 c1, .slice A2 n2 c2, .slice A3 n3 c3, .slice A4 n4 c4, .bool x.state.part.num.neg, .slice A6 n6 c6, .slice A7 n7 c7, .slice A8 n8 c8] ∧ bs = s1 ++ (s2 ++ (s3 ++ (s4 ++ (s6 ++ (s7 ++ (s8)))))) ∧ x.text.size ≤ maxLen ∧ Sl w A1 n1 c1 x.state.problem.mesh.points s1 ∧ Sl w A2 n2 c2 x.state.problem.mesh.triangles s2 ∧ Sl w A3 n3 c3 x.state.problem.diffusion s3 ∧ Sl w A4 n4 c4 x.state.problem.source s4 ∧ Sl w A6 n6 c6 x.state.part.num.mag s6 ∧ Sl w A7 n7 c7 x.state.part.den s7 ∧ Sl w A8 n8 c8 x.state.reports s8 := by
  obtain ⟨p1, q1, u1, v1, rfl, rfl, e1, g1⟩ := h
  obtain ⟨rfl, rfl, w0⟩ := e1
  obtain ⟨p2, q2, u2, v2, rfl, rfl, e2, g2⟩ := g1
  obtain ⟨p3, q3, u3, v3, rfl, rfl, e3, g3⟩ := e2
  obtain ⟨p4, q4, u4, v4, rfl, rfl, e4, g4⟩ := e3
  obtain ⟨A1, n1, c1, rfl, w1⟩ := e4
  obtain ⟨A2, n2, c2, rfl, w2⟩ := g4
  obtain ⟨p5, q5, u5, v5, rfl, rfl, e5, g5⟩ := g3
  obtain ⟨A3, n3, c3, rfl, w3⟩ := e5
  obtain ⟨A4, n4, c4, rfl, w4⟩ := g5
  obtain ⟨p6, q6, u6, v6, rfl, rfl, e6, g6⟩ := g2
  obtain ⟨p7, q7, u7, v7, rfl, rfl, e7, g7⟩ := e6
  obtain ⟨p8, q8, u8, v8, rfl, rfl, e8, g8⟩ := e7
  obtain ⟨rfl, rfl⟩ := e8
  obtain ⟨A6, n6, c6, rfl, w6⟩ := g8
  obtain ⟨A7, n7, c7, rfl, w7⟩ := g7
  obtain ⟨A8, n8, c8, rfl, w8⟩ := g6
  exact ⟨_, _, _, _, _, _, _, _, _, _, _, _, _, _, _, _, _, _, _, _, _, _, _, _, _, _, _, _, rfl, by first | rfl | (simp; done) | simp [List.append_assoc], w0, w1, w2, w3, w4, w6, w7, w8⟩
theorem TConsole.shut {w : World} {x : TConsole} {A1 : Option Addr} {n1 c1 : Nat} {s1 : List Nat} {A2 : Option Addr} {n2 c2 : Nat} {s2 : List Nat} {A3 : Option Addr} {n3 c3 : Nat} {s3 : List Nat} {A4 : Option Addr} {n4 c4 : Nat} {s4 : List Nat} {A6 : Option Addr} {n6 c6 : Nat} {s6 : List Nat} {A7 : Option Addr} {n7 c7 : Nat} {s7 : List Nat} {A8 : Option Addr} {n8 c8 : Nat} {s8 : List Nat} (w0 : x.text.size ≤ maxLen) (w1 : Sl w A1 n1 c1 x.state.problem.mesh.points s1) (w2 : Sl w A2 n2 c2 x.state.problem.mesh.triangles s2) (w3 : Sl w A3 n3 c3 x.state.problem.diffusion s3) (w4 : Sl w A4 n4 c4 x.state.problem.source s4) (w6 : Sl w A6 n6 c6 x.state.part.num.mag s6) (w7 : Sl w A7 n7 c7 x.state.part.den s7) (w8 : Sl w A8 n8 c8 x.state.reports s8) : Dat.at_ w [.string x.text, .slice A1 n1 c1, .slice A2 n2 c2, .slice A3 n3 c3, .slice A4 n4 c4, .bool x.state.part.num.neg, .slice A6 n6 c6, .slice A7 n7 c7, .slice A8 n8 c8] x (s1 ++ (s2 ++ (s3 ++ (s4 ++ (s6 ++ (s7 ++ (s8))))))) := by
  have h : Dat.at_ w _ x _ := ⟨_, _, _, _, rfl, rfl, ⟨rfl, rfl, w0⟩, ⟨_, _, _, _, rfl, rfl, ⟨_, _, _, _, rfl, rfl, ⟨_, _, _, _, rfl, rfl, ⟨_, _, _, rfl, w1⟩, ⟨_, _, _, rfl, w2⟩⟩, ⟨_, _, _, _, rfl, rfl, ⟨_, _, _, rfl, w3⟩, ⟨_, _, _, rfl, w4⟩⟩⟩, ⟨_, _, _, _, rfl, rfl, ⟨_, _, _, _, rfl, rfl, ⟨_, _, _, _, rfl, rfl, ⟨rfl, rfl⟩, ⟨_, _, _, rfl, w6⟩⟩, ⟨_, _, _, rfl, w7⟩⟩, ⟨_, _, _, rfl, w8⟩⟩⟩⟩
  first | exact h | (simpa using h) | simpa [List.append_assoc] using h
theorem TConsole.agg {w : World} {v : Value} {x : TConsole} {bs : List Nat} (h : Agg w v x bs) : ∃ (A1 : Option Addr) (n1 c1 : Nat) (s1 : List Nat) (A2 : Option Addr) (n2 c2 : Nat) (s2 : List Nat) (A3 : Option Addr) (n3 c3 : Nat) (s3 : List Nat) (A4 : Option Addr) (n4 c4 : Nat) (s4 : List Nat) (A6 : Option Addr) (n6 c6 : Nat) (s6 : List Nat) (A7 : Option Addr) (n7 c7 : Nat) (s7 : List Nat) (A8 : Option Addr) (n8 c8 : Nat) (s8 : List Nat), v = .agg #[.string x.text, .slice A1 n1 c1, .slice A2 n2 c2, .slice A3 n3 c3, .slice A4 n4 c4, .bool x.state.part.num.neg, .slice A6 n6 c6, .slice A7 n7 c7, .slice A8 n8 c8] ∧ bs = s1 ++ (s2 ++ (s3 ++ (s4 ++ (s6 ++ (s7 ++ (s8)))))) ∧ x.text.size ≤ maxLen ∧ Sl w A1 n1 c1 x.state.problem.mesh.points s1 ∧ Sl w A2 n2 c2 x.state.problem.mesh.triangles s2 ∧ Sl w A3 n3 c3 x.state.problem.diffusion s3 ∧ Sl w A4 n4 c4 x.state.problem.source s4 ∧ Sl w A6 n6 c6 x.state.part.num.mag s6 ∧ Sl w A7 n7 c7 x.state.part.den s7 ∧ Sl w A8 n8 c8 x.state.reports s8 := by
  obtain ⟨cs, rfl, h⟩ := h
  obtain ⟨A1, n1, c1, s1, A2, n2, c2, s2, A3, n3, c3, s3, A4, n4, c4, s4, A6, n6, c6, s6, A7, n7, c7, s7, A8, n8, c8, s8, rfl, rfl, w0, w1, w2, w3, w4, w6, w7, w8⟩ := TConsole.open_ h
  exact ⟨_, _, _, _, _, _, _, _, _, _, _, _, _, _, _, _, _, _, _, _, _, _, _, _, _, _, _, _, rfl, rfl, w0, w1, w2, w3, w4, w6, w7, w8⟩
theorem TConsole.mkAgg {w : World} {x : TConsole} {A1 : Option Addr} {n1 c1 : Nat} {s1 : List Nat} {A2 : Option Addr} {n2 c2 : Nat} {s2 : List Nat} {A3 : Option Addr} {n3 c3 : Nat} {s3 : List Nat} {A4 : Option Addr} {n4 c4 : Nat} {s4 : List Nat} {A6 : Option Addr} {n6 c6 : Nat} {s6 : List Nat} {A7 : Option Addr} {n7 c7 : Nat} {s7 : List Nat} {A8 : Option Addr} {n8 c8 : Nat} {s8 : List Nat} (w0 : x.text.size ≤ maxLen) (w1 : Sl w A1 n1 c1 x.state.problem.mesh.points s1) (w2 : Sl w A2 n2 c2 x.state.problem.mesh.triangles s2) (w3 : Sl w A3 n3 c3 x.state.problem.diffusion s3) (w4 : Sl w A4 n4 c4 x.state.problem.source s4) (w6 : Sl w A6 n6 c6 x.state.part.num.mag s6) (w7 : Sl w A7 n7 c7 x.state.part.den s7) (w8 : Sl w A8 n8 c8 x.state.reports s8) : Agg w (.agg #[.string x.text, .slice A1 n1 c1, .slice A2 n2 c2, .slice A3 n3 c3, .slice A4 n4 c4, .bool x.state.part.num.neg, .slice A6 n6 c6, .slice A7 n7 c7, .slice A8 n8 c8]) x (s1 ++ (s2 ++ (s3 ++ (s4 ++ (s6 ++ (s7 ++ (s8))))))) :=
  ⟨_, rfl, TConsole.shut w0 w1 w2 w3 w4 w6 w7 w8⟩
theorem TConsole.elem {w : World} {A : Option Addr} {n c : Nat} {xs : List TConsole} {bs : List Nat} (h : Sl w A n c xs bs) {k : Nat} (hk : k < n) :
    ∃ (b off : Nat) (x : TConsole) (A1 : Option Addr) (n1 c1 : Nat) (s1 : List Nat) (A2 : Option Addr) (n2 c2 : Nat) (s2 : List Nat) (A3 : Option Addr) (n3 c3 : Nat) (s3 : List Nat) (A4 : Option Addr) (n4 c4 : Nat) (s4 : List Nat) (A6 : Option Addr) (n6 c6 : Nat) (s6 : List Nat) (A7 : Option Addr) (n7 c7 : Nat) (s7 : List Nat) (A8 : Option Addr) (n8 c8 : Nat) (s8 : List Nat), A = some ⟨b, off, none⟩ ∧ b < w.heap.size ∧ xs[k]? = some x ∧ w.cell? ⟨b, off + k * 9, none⟩ = some (.string x.text) ∧ w.cell? ⟨b, off + k * 9 + 1, none⟩ = some (.slice A1 n1 c1) ∧ w.cell? ⟨b, off + k * 9 + 2, none⟩ = some (.slice A2 n2 c2) ∧ w.cell? ⟨b, off + k * 9 + 3, none⟩ = some (.slice A3 n3 c3) ∧ w.cell? ⟨b, off + k * 9 + 4, none⟩ = some (.slice A4 n4 c4) ∧ w.cell? ⟨b, off + k * 9 + 5, none⟩ = some (.bool x.state.part.num.neg) ∧ w.cell? ⟨b, off + k * 9 + 6, none⟩ = some (.slice A6 n6 c6) ∧ w.cell? ⟨b, off + k * 9 + 7, none⟩ = some (.slice A7 n7 c7) ∧ w.cell? ⟨b, off + k * 9 + 8, none⟩ = some (.slice A8 n8 c8) ∧ x.text.size ≤ maxLen ∧ Sl w A1 n1 c1 x.state.problem.mesh.points s1 ∧ Sl w A2 n2 c2 x.state.problem.mesh.triangles s2 ∧ Sl w A3 n3 c3 x.state.problem.diffusion s3 ∧ Sl w A4 n4 c4 x.state.problem.source s4 ∧ Sl w A6 n6 c6 x.state.part.num.mag s6 ∧ Sl w A7 n7 c7 x.state.part.den s7 ∧ Sl w A8 n8 c8 x.state.reports s8 ∧ ∀ g ∈ (s1 ++ (s2 ++ (s3 ++ (s4 ++ (s6 ++ (s7 ++ (s8))))))), g ∈ bs := by
  obtain ⟨b, off, x, cs, fs, hA, hb, hx, hc, ha, hg⟩ := Sl.getAt h hk
  obtain ⟨A1, n1, c1, s1, A2, n2, c2, s2, A3, n3, c3, s3, A4, n4, c4, s4, A6, n6, c6, s6, A7, n7, c7, s7, A8, n8, c8, s8, rfl, rfl, w0, w1, w2, w3, w4, w6, w7, w8⟩ := TConsole.open_ ha
  exact ⟨b, off, x, _, _, _, _, _, _, _, _, _, _, _, _, _, _, _, _, _, _, _, _, _, _, _, _, _, _, _, _, hA, hb, hx, hc 0 _ rfl, hc 1 _ rfl, hc 2 _ rfl, hc 3 _ rfl, hc 4 _ rfl, hc 5 _ rfl, hc 6 _ rfl, hc 7 _ rfl, hc 8 _ rfl, w0, w1, w2, w3, w4, w6, w7, w8, hg⟩
theorem TConsole.elemA {w : World} {A : Option Addr} {n c : Nat} {xs : List TConsole} {bs : List Nat} (h : Sl w A n c xs bs) {k : Nat} (hk : k < n) :
    ∃ (b off : Nat) (x : TConsole) (A1 : Option Addr) (n1 c1 : Nat) (s1 : List Nat) (A2 : Option Addr) (n2 c2 : Nat) (s2 : List Nat) (A3 : Option Addr) (n3 c3 : Nat) (s3 : List Nat) (A4 : Option Addr) (n4 c4 : Nat) (s4 : List Nat) (A6 : Option Addr) (n6 c6 : Nat) (s6 : List Nat) (A7 : Option Addr) (n7 c7 : Nat) (s7 : List Nat) (A8 : Option Addr) (n8 c8 : Nat) (s8 : List Nat), A = some ⟨b, off, none⟩ ∧ b < w.heap.size ∧ xs[k]? = some x ∧ w.cell? ⟨b, off + k * 9, none⟩ = some (.string x.text) ∧ w.cell? ⟨b, off + k * 9 + 1, none⟩ = some (.slice A1 n1 c1) ∧ w.cell? ⟨b, off + k * 9 + 2, none⟩ = some (.slice A2 n2 c2) ∧ w.cell? ⟨b, off + k * 9 + 3, none⟩ = some (.slice A3 n3 c3) ∧ w.cell? ⟨b, off + k * 9 + 4, none⟩ = some (.slice A4 n4 c4) ∧ w.cell? ⟨b, off + k * 9 + 5, none⟩ = some (.bool x.state.part.num.neg) ∧ w.cell? ⟨b, off + k * 9 + 6, none⟩ = some (.slice A6 n6 c6) ∧ w.cell? ⟨b, off + k * 9 + 7, none⟩ = some (.slice A7 n7 c7) ∧ w.cell? ⟨b, off + k * 9 + 8, none⟩ = some (.slice A8 n8 c8) ∧ Agg w (.agg #[.string x.text, .slice A1 n1 c1, .slice A2 n2 c2, .slice A3 n3 c3, .slice A4 n4 c4, .bool x.state.part.num.neg, .slice A6 n6 c6, .slice A7 n7 c7, .slice A8 n8 c8]) x (s1 ++ (s2 ++ (s3 ++ (s4 ++ (s6 ++ (s7 ++ (s8))))))) := by
  obtain ⟨b, off, x, cs, fs, hA, hb, hx, hc, ha, hg⟩ := Sl.getAt h hk
  obtain ⟨A1, n1, c1, s1, A2, n2, c2, s2, A3, n3, c3, s3, A4, n4, c4, s4, A6, n6, c6, s6, A7, n7, c7, s7, A8, n8, c8, s8, rfl, rfl, w0, w1, w2, w3, w4, w6, w7, w8⟩ := TConsole.open_ ha
  exact ⟨b, off, x, _, _, _, _, _, _, _, _, _, _, _, _, _, _, _, _, _, _, _, _, _, _, _, _, _, _, _, _, hA, hb, hx, hc 0 _ rfl, hc 1 _ rfl, hc 2 _ rfl, hc 3 _ rfl, hc 4 _ rfl, hc 5 _ rfl, hc 6 _ rfl, hc 7 _ rfl, hc 8 _ rfl, _, rfl, ha⟩

end Go.XB

/- Small facts for the walks: an element of a slice that is read, comparisons element by element. -/
namespace Go.XB
open Go.RowKit

theorem Sl.getInt {w : World} {A : Option Addr} {n c : Nat} {xs : List Int} {bs : List Nat} (h : Sl w A n c xs bs) {k : Nat} (hk : k < n) :
    ∃ b off x, A = some ⟨b, off, none⟩ ∧ b < w.heap.size ∧ xs[k]? = some x ∧ I64 x ∧ w.cell? ⟨b, off + k, none⟩ = some (.int .i64 x) := by
  obtain ⟨h1, h2, h3, h4, h5⟩ := h
  obtain ⟨b, off, bss, hA, hbs, hl, hb, he⟩ := h5 (by omega)
  have hx : xs[k]? = some (xs[k]'(by omega)) := List.getElem?_eq_getElem (by omega)
  have hf : bss[k]? = some (bss[k]'(by omega)) := List.getElem?_eq_getElem (by omega)
  obtain ⟨cs, hc, hcs, _, hi⟩ := he k _ _ hx hf
  refine ⟨b, off, _, hA, hb, hx, hi, ?_⟩
  have := hc 0 (.int .i64 (xs[k]'(by omega))) (by rw [hcs]; rfl)
  simpa [Dat.sz] using this

theorem take_eq_step {α : Type} {xs ys : List α} {k : Nat} {x y : α} (hx : xs[k]? = some x) (hy : ys[k]? = some y) (h : xs.take k = ys.take k) (e : x = y) : xs.take (k + 1) = ys.take (k + 1) := by
  rw [List.take_add_one, List.take_add_one, hx, hy, h, e]
theorem ne_at {α : Type} {xs ys : List α} {k : Nat} {x y : α} (hx : xs[k]? = some x) (hy : ys[k]? = some y) (e : x ≠ y) : xs ≠ ys := by
  rintro rfl; rw [hx] at hy; exact e (Option.some.inj hy)
theorem take_all_eq {α : Type} {xs ys : List α} {n k : Nat} (h1 : xs.length = n) (h2 : ys.length = n) (hk : n ≤ k) (h : xs.take k = ys.take k) : xs = ys := by
  rwa [List.take_of_length_le (by omega), List.take_of_length_le (by omega)] at h
theorem hid {p : Prop} (h : p) : Hid p := h
theorem ret_bool {a b : Bool} (h : a = b) : Ending.returned (.bool a) = .returned (.bool b) := by rw [h]
theorem ret_int {k : IntKind} {a b : Int} (h : a = b) : Ending.returned (.int k a) = .returned (.int k b) := by rw [h]
theorem below_drewN (w : World) (m : Nat) : Below w.heap.size w (w.drewN m) := ⟨rfl, rfl, rfl, Nat.le_refl _, fun _ _ => rfl⟩

/-- a block of the call's own below a 'Below' -/
theorem bcell {W w1 : World} (hb : Below W.heap.size W w1) : (∀ b o, b < W.heap.size → w1.cell? ⟨b, o, none⟩ = W.cell? ⟨b, o, none⟩) ∧ (∀ b o, b < W.heap.size → w1.frozen? ⟨b, o, none⟩ = W.frozen? ⟨b, o, none⟩) :=
  ⟨fun b o h => hb.cell (p := ⟨b, o, none⟩) h, fun b o h => hb.frozen (p := ⟨b, o, none⟩) h⟩

/-- what is left of a budget: -1, if it is passed -/
def minus (left : Int) (n : Nat) : Int := if left - n < 0 then -1 else left - n
theorem minus_cases (left : Int) (n : Nat) : (minus left n < 0 ∧ minus left n = -1 ∧ left < n) ∨ (0 ≤ minus left n ∧ minus left n = left - n ∧ (n : Int) ≤ left) := by
  unfold minus; split
  · exact .inl ⟨by omega, rfl, by omega⟩
  · exact .inr ⟨by omega, rfl, by omega⟩
theorem minus_neg {left : Int} {n : Nat} (h : left < n) : minus left n = -1 := by unfold minus; rw [if_pos (by omega)]
theorem minus_pos {left : Int} {n : Nat} (h : (n : Int) ≤ left) : minus left n = left - n := by unfold minus; rw [if_neg (by omega)]

theorem Below.next {w W W' : World} (h : Below w.heap.size w W) (h' : Below W.heap.size W W') : Below w.heap.size w W' := h.trans (h'.mono h.size)
theorem Below.box {w : World} (o : Obj) : Below w.heap.size w (w.alloc o) := (Below.refl _ _).alloc (Nat.le_refl _) _
theorem Below.set {w W : World} (h : Below w.heap.size w W) {p : Addr} (hp : w.heap.size ≤ p.block) (u : Value) : Below w.heap.size w (W.setCell p u) := h.setCell hp u
theorem Below.box_ {w W : World} (h : Below w.heap.size w W) (o : Obj) : Below w.heap.size w (W.alloc o) := h.alloc h.size o

/-- From block number lo on, what was there is as it was. -/
structure Above (lo : Nat) (w w' : World) : Prop where
  size : w.heap.size ≤ w'.heap.size
  block : ∀ g, lo ≤ g → g < w.heap.size → w'.heap[g]? = w.heap[g]?
theorem Above.refl (lo : Nat) (w : World) : Above lo w w := ⟨Nat.le_refl _, fun _ _ _ => rfl⟩
theorem Above.trans {lo : Nat} {a b c : World} (h : Above lo a b) (k : Above lo b c) : Above lo a c :=
  ⟨Nat.le_trans h.size k.size, fun g h1 h2 => (k.block g h1 (Nat.lt_of_lt_of_le h2 h.size)).trans (h.block g h1 h2)⟩
theorem Above.below {lo : Nat} {w W W' : World} (h : Above lo w W) (hb : Below W.heap.size W W') : Above lo w W' :=
  h.trans ⟨hb.size, fun g _ h2 => hb.block g h2⟩
theorem Above.set {lo : Nat} {w W : World} (h : Above lo w W) {p : Addr} (hp : p.block < lo) (u : Value) : Above lo w (W.setCell p u) :=
  h.trans ⟨by simp [World.setCell], fun g h1 _ => Below.heap_setCell W p u g (by omega)⟩
theorem Above.box {lo : Nat} {w W : World} (h : Above lo w W) (o : Obj) : Above lo w (W.alloc o) :=
  h.trans ⟨by simp, fun g _ h2 => Below.heap_alloc W o g h2⟩
theorem Own.above {w0 w w' : World} {lo : Nat} {bs : List Nat} (h : Own w0 w bs) (ha : Above lo w w') (hl : lo ≤ w0.heap.size) : Own w0 w' bs :=
  ⟨h.1, fun b hm => ⟨(h.2 b hm).1, by obtain ⟨cs, t, e⟩ := (h.2 b hm).2; exact ⟨cs, t, (ha.block b (Nat.le_trans hl (h.2 b hm).1) (lt_of_get e)).trans e⟩⟩⟩
theorem Sl.above {α : Type} [Dat α] {w0 w w' : World} {lo : Nat} {A : Option Addr} {n c : Nat} {xs : List α} {bs : List Nat} (h : Sl w A n c xs bs) (ho : Own w0 w bs) (ha : Above lo w w') (hl : lo ≤ w0.heap.size) : Sl w' A n c xs bs :=
  h.keep fun g hg => ha.block g (Nat.le_trans hl (ho.2 g hg).1) (h.lt g hg)
theorem Agg.above {α : Type} [Dat α] {w0 w w' : World} {lo : Nat} {v : Value} {x : α} {bs : List Nat} (h : Agg w v x bs) (ho : Own w0 w bs) (ha : Above lo w w') (hl : lo ≤ w0.heap.size) : Agg w' v x bs :=
  h.keep fun g hg => ha.block g (Nat.le_trans hl (ho.2 g hg).1) (h.lt g hg)
theorem At.above {α : Type} [Dat α] {w0 w w' : World} {lo : Nat} {cs : List Value} {x : α} {bs : List Nat} (h : Dat.at_ w cs x bs) (ho : Own w0 w bs) (ha : Above lo w w') (hl : lo ≤ w0.heap.size) : Dat.at_ w' cs x bs :=
  Dat.keep h fun g hg => ha.block g (Nat.le_trans hl (ho.2 g hg).1) (Dat.lt h g hg)
theorem Own.olderThan {w0 w1 w : World} {bs : List Nat} (h : Own w1 w bs) (hb : Below w0.heap.size w0 w1) : Own w0 w bs := h.older hb.size

theorem sum_take_step {α : Type} {xs : List α} (f : α → Nat) {k : Nat} {x : α} (h : xs[k]? = some x) : ((xs.take (k + 1)).map f).sum = ((xs.take k).map f).sum + f x := by
  rw [List.take_add_one, h]; simp
theorem sum_take_all {α : Type} (f : α → Nat) (xs : List α) (k : Nat) : ((xs.take k).map f).sum ≤ (xs.map f).sum := by
  conv => rhs; rw [← List.take_append_drop k xs]
  rw [List.map_append, List.sum_append]; omega
theorem sum_take_le {α : Type} {xs : List α} (f : α → Nat) {k : Nat} {x : α} (h : xs[k]? = some x) : ((xs.take k).map f).sum + f x ≤ (xs.map f).sum := by
  rw [← sum_take_step f h]; exact sum_take_all f xs (k + 1)
theorem take_step {α : Type} {xs : List α} {k : Nat} {x : α} (h : xs[k]? = some x) : xs.take (k + 1) = xs.take k ++ [x] := by
  rw [List.take_add_one, h]; rfl

theorem num_succ (k : Nat) : Value.int .i64 ((k : Int) + 1) = .int .i64 ((k + 1 : Nat) : Int) := rfl
theorem meas_succ {k n : Nat} (h : k < n) : n - (intOf (Value.int .i64 ((k : Int) + 1))).toNat < n - (intOf (Value.int .i64 (k : Int))).toNat := by
  simp [intOf]; omega

theorem Sl.from_ {α : Type} [Dat α] {w w' : World} {A : Option Addr} {n c : Nat} {xs : List α} {bs : List Nat} (h : Sl w A n c xs bs) (hb : Below w.heap.size w w') : Sl w' A n c xs bs := Sl.below h hb

end Go.XB

/- A row of the call's own that is filled with data: by stores, by appends; and the slice that it is in the end. -/
namespace Go.XB
open Go.RowKit

/-- The cells hold these data, one behind the other; the rest is open. -/
def Filled {α : Type} [Dat α] (w : World) (cells : List Value) (xs : List α) (fss : List (List Nat)) : Prop :=
  fss.length = xs.length ∧ xs.length * Dat.sz α ≤ cells.length ∧ ∀ k x fs, xs[k]? = some x → fss[k]? = some fs → Dat.at_ w ((cells.drop (k * Dat.sz α)).take (Dat.sz α)) x fs

section
variable {α : Type} [Dat α] {w w' : World} {cells : List Value} {xs : List α} {fss : List (List Nat)}

theorem Filled.nil (w : World) (cells : List Value) : Filled (α := α) w cells [] [] := ⟨rfl, by simp, fun k x fs h => by simp at h⟩

theorem Filled.lt (h : Filled w cells xs fss) : ∀ g ∈ fss.flatten, g < w.heap.size := by
  intro g hg
  obtain ⟨fs, hfs, hg⟩ := List.mem_flatten.1 hg
  obtain ⟨k, hk⟩ := List.mem_iff_getElem?.1 hfs
  have hkl : k < xs.length := by rw [← h.1]; exact (List.getElem?_eq_some_iff.1 hk).1
  exact Dat.lt (h.2.2 k _ fs (List.getElem?_eq_getElem hkl) hk) g hg

theorem Filled.keep (h : Filled w cells xs fss) (hk : ∀ g ∈ fss.flatten, w'.heap[g]? = w.heap[g]?) : Filled w' cells xs fss :=
  ⟨h.1, h.2.1, fun k x fs hx hf => Dat.keep (h.2.2 k x fs hx hf) fun g hg => hk g (List.mem_flatten.2 ⟨fs, List.mem_of_getElem? hf, hg⟩)⟩

theorem Filled.below (h : Filled w cells xs fss) (hb : Below w.heap.size w w') : Filled w' cells xs fss := h.keep fun g hg => hb.block g (h.lt g hg)

/-- cells written from i on -/
def setFrom (cells : List Value) (i : Nat) : List Value → List Value
  | [] => cells
  | c :: cs => setFrom (cells.set i c) (i + 1) cs

theorem length_setFrom : ∀ (cs cells : List Value) (i : Nat), (setFrom cells i cs).length = cells.length
  | [], _, _ => rfl
  | c :: cs, cells, i => by rw [setFrom, length_setFrom cs]; simp

theorem getElem?_setFrom : ∀ (cs cells : List Value) (i j : Nat), i + cs.length ≤ cells.length → (setFrom cells i cs)[j]? = if i ≤ j ∧ j < i + cs.length then cs[j - i]? else cells[j]?
  | [], cells, i, j, _ => by simp [setFrom]; intro h1 h2; omega
  | c :: cs, cells, i, j, h => by
    simp only [List.length_cons] at h ⊢
    rw [setFrom, getElem?_setFrom cs (cells.set i c) (i + 1) j (by simp; omega)]
    by_cases h1 : i + 1 ≤ j ∧ j < i + 1 + cs.length
    · rw [if_pos h1, if_pos (by omega)]
      rw [show j - i = (j - (i + 1)) + 1 by omega]
      simp
    · rw [if_neg h1]
      by_cases h2 : j = i
      · subst h2
        rw [if_pos (by omega)]
        simp [show j < cells.length by omega]
      · rw [if_neg (by omega), List.getElem?_set_ne (by omega)]

theorem take_drop_eq {l : List Value} {i m : Nat} {cs : List Value} (h : ∀ j, j < m → l[i + j]? = cs[j]?) (hc : cs.length = m) : (l.drop i).take m = cs := by
  apply List.ext_getElem?
  intro j
  by_cases hj : j < m
  · rw [List.getElem?_take, if_pos hj, List.getElem?_drop, h j hj]
  · rw [List.getElem?_eq_none (by simp; omega), List.getElem?_eq_none (by omega)]

/-- one element more, stored at its place -/
theorem Filled.store (h : Filled w cells xs fss) {x : α} {fs : List Nat} {cs : List Value} (ha : Dat.at_ w cs x fs) (hfit : (xs.length + 1) * Dat.sz α ≤ cells.length) :
    Filled w (setFrom cells (xs.length * Dat.sz α) cs) (xs ++ [x]) (fss ++ [fs]) := by
  obtain ⟨h1, h2, h3⟩ := h
  have hcl := Dat.len ha
  have hmul : (xs.length + 1) * Dat.sz α = xs.length * Dat.sz α + Dat.sz α := by rw [Nat.add_mul, Nat.one_mul]
  have hpos : 0 < Dat.sz α := Dat.pos
  refine ⟨by simp [h1], by rw [length_setFrom]; simpa using hfit, fun k y gs hy hg => ?_⟩
  by_cases hk : k < xs.length
  · rw [List.getElem?_append_left hk] at hy
    rw [List.getElem?_append_left (by omega)] at hg
    have hkm : k * Dat.sz α + Dat.sz α ≤ xs.length * Dat.sz α := by
      rw [← Nat.succ_mul]; exact Nat.mul_le_mul_right _ hk
    have := h3 k y gs hy hg
    rw [take_drop_eq (cs := (cells.drop (k * Dat.sz α)).take (Dat.sz α)) (fun j hj => ?_) (by simp; omega)]
    · exact this
    · rw [getElem?_setFrom _ _ _ _ (by omega), if_neg (by omega), List.getElem?_take, if_pos hj, List.getElem?_drop]
  · have hke : k = xs.length := by
      have := (List.getElem?_eq_some_iff.1 hy).1
      simp at this; omega
    subst hke
    simp at hy
    rw [← h1] at hg
    simp at hg
    subst hy; subst hg
    rw [take_drop_eq (cs := cs) (fun j hj => ?_) hcl]
    · exact ha
    · rw [getElem?_setFrom _ _ _ _ (by omega), if_pos (by omega), Nat.add_sub_cancel_left]

/-- one element more, appended -/
theorem Filled.push (h : Filled w cells xs fss) (hl : cells.length = xs.length * Dat.sz α) {x : α} {fs : List Nat} {cs : List Value} (ha : Dat.at_ w cs x fs) :
    Filled w (cells ++ cs) (xs ++ [x]) (fss ++ [fs]) := by
  obtain ⟨h1, h2, h3⟩ := h
  have hcl := Dat.len ha
  have hmul : (xs.length + 1) * Dat.sz α = xs.length * Dat.sz α + Dat.sz α := by rw [Nat.add_mul, Nat.one_mul]
  have hpos : 0 < Dat.sz α := Dat.pos
  refine ⟨by simp [h1], by simp [hmul, hl, hcl], fun k y gs hy hg => ?_⟩
  by_cases hk : k < xs.length
  · rw [List.getElem?_append_left hk] at hy
    rw [List.getElem?_append_left (by omega)] at hg
    have hkm : k * Dat.sz α + Dat.sz α ≤ xs.length * Dat.sz α := by
      rw [← Nat.succ_mul]; exact Nat.mul_le_mul_right _ hk
    have := h3 k y gs hy hg
    rw [List.drop_append_of_le_length (by omega), List.take_append_of_le_length (by simp; omega)]
    exact this
  · have hke : k = xs.length := by
      have := (List.getElem?_eq_some_iff.1 hy).1
      simp at this; omega
    subst hke
    simp at hy
    rw [← h1] at hg
    simp at hg
    subst hy; subst hg
    rw [← hl, List.drop_append_of_le_length (Nat.le_refl _), List.drop_length, List.nil_append, List.take_of_length_le (by omega)]
    exact ha

/-- **The row, read as a slice.** -/
theorem Filled.sl {base n : Nat} {e : TypeId} {v : Value} (h : Filled w cells xs fss) (ho : w.ownsRow base e (Dat.sz α) v n cells) (hx : xs.length = n) :
    ∃ A c bs, v = .slice A n c ∧ Sl w A n c xs bs ∧ ((n = 0 ∧ bs = []) ∨ ∃ g, v.ownBlock = some g ∧ bs = g :: fss.flatten ∧ base ≤ g ∧ ∃ cs t, w.heap[g]? = some (.cells cs t (0, 0))) := by
  rcases ho.2 with ⟨rfl, rfl⟩ | ⟨g, cap, cur, rfl, hb, hg, hnc, hcm, hcs, htake⟩
  · have hxs : xs = [] := List.eq_nil_of_length_eq_zero hx
    subst hxs
    exact ⟨none, 0, [], rfl, Sl.nil w, .inl ⟨rfl, rfl⟩⟩
  · rcases Nat.eq_zero_or_pos n with h0 | h0
    · subst h0
      exact ⟨_, _, [], rfl, ⟨hx, hnc, hcm, fun _ => rfl, fun h => absurd h (by omega)⟩, .inl ⟨rfl, rfl⟩⟩
    · refine ⟨_, _, g :: fss.flatten, rfl, ⟨hx, hnc, hcm, fun h => absurd h (by omega), fun _ => ⟨g, 0, fss, rfl, rfl, h.1, lt_of_get hg, fun k x fs hxk hfk => ?_⟩⟩, .inr ⟨g, rfl, rfl, hb, _, _, hg⟩⟩
      have ha := h.2.2 k x fs hxk hfk
      refine ⟨_, fun j u hu => ?_, ha⟩
      rw [List.getElem?_take] at hu
      split at hu
      · rename_i hj
        rw [List.getElem?_drop] at hu
        rw [Nat.zero_add]
        have hkl : k < n := by rw [← hx]; exact (List.getElem?_eq_some_iff.1 hxk).1
        have hlt : k * Dat.sz α + j < n * Dat.sz α := by
          have : (k + 1) * Dat.sz α ≤ n * Dat.sz α := Nat.mul_le_mul_right _ hkl
          rw [Nat.add_mul, Nat.one_mul] at this
          omega
        rw [World.ownsRow.cellAt ho _ hlt]
        exact hu
      · cases hu

/-- its blocks are the call's own -/
theorem own_of_row {w0 : World} {bs : List Nat} {n : Nat} (h : (n = 0 ∧ bs = []) ∨ ∃ g, bs = g :: fss.flatten ∧ w0.heap.size ≤ g ∧ (∃ cs t, w.heap[g]? = some (.cells cs t (0, 0))) ∧ g ∉ fss.flatten) (hf : Own w0 w fss.flatten) : Own w0 w bs := by
  rcases h with ⟨_, rfl⟩ | ⟨g, rfl, hg, hc, hn⟩
  · exact Own.nil _ _
  · exact ⟨List.nodup_cons.2 ⟨hn, hf.1⟩, fun b hb => by
      rcases List.mem_cons.1 hb with rfl | hb
      · exact ⟨hg, hc⟩
      · exact hf.2 b hb⟩
end

/-- ints: nothing beyond the cells themselves -/
theorem Filled.ints {w : World} {cells : List Value} {xs : List Int} (h : cells.take xs.length = xs.map (.int .i64)) (hi : ∀ x ∈ xs, I64 x) (hl : xs.length ≤ cells.length) : Filled w cells xs (List.replicate xs.length []) := by
  refine ⟨by simp, by simpa [Dat.sz] using hl, fun k x fs hx hf => ?_⟩
  have hk := (List.getElem?_eq_some_iff.1 hx).1
  have hfs : fs = [] := by
    rw [List.getElem?_replicate, if_pos hk] at hf; exact (Option.some.inj hf).symm
  refine ⟨?_, hfs, hi x (List.mem_of_getElem? hx)⟩
  have h1 : cells[k]? = some (.int .i64 x) := by
    have := congrArg (fun l => l[k]?) h
    simp only [List.getElem?_take, hk, if_true, List.getElem?_map, hx, Option.map_some] at this
    exact this
  exact take_drop_eq (fun j hj => by
    have : j = 0 := by simp [Dat.sz] at hj; exact hj
    subst this
    simpa [Dat.sz] using h1) rfl

theorem flatten_nils (n : Nat) : (List.replicate n ([] : List Nat)).flatten = [] := by
  induction n with
  | zero => rfl
  | succ n ih => rw [List.replicate_succ, List.flatten_cons, ih]; rfl

end Go.XB

/- How many ints and elements the data hold, as the laws count them; laws.szIntS. -/
namespace Go.XB
def cntL {α : Type} (f : α → Nat) (l : List α) : Nat := l.length + (l.map f).sum
def TBigInt.cnt (x : TBigInt) : Nat := x.mag.length
def TRat.cnt (x : TRat) : Nat := x.num.cnt + x.den.length
def TPoint.cnt (x : TPoint) : Nat := x.x.cnt + x.y.cnt
def TMesh.cnt (x : TMesh) : Nat := cntL TPoint.cnt x.points + x.triangles.length
def TProblem.cnt (x : TProblem) : Nat := x.mesh.cnt + cntL TRat.cnt x.diffusion + cntL TRat.cnt x.source
def TGoal.cnt (x : TGoal) : Nat := x.value.cnt + x.square.cnt
def TReport.cnt (x : TReport) : Nat := x.energy.cnt + x.bound.cnt
def TState.cnt (x : TState) : Nat := x.problem.cnt + x.part.cnt + cntL TReport.cnt x.reports
end Go.XB
namespace Go.Proofs.YthlpjpcnpcclhaaDoor.X
open Go.RowKit Go.XB
set_option maxHeartbeats 400000 in
theorem laws_szIntS (A : Option Addr) (n c : Nat) (xs : List Int) (bs : List Nat) (left : Int) (w : World) (hx : Sl w A n c xs bs) (h0 : 0 ≤ left) (h1 : left ≤ 1048576) :
    Calls Tryd.prog 25 #[.slice A n c, .int .i64 left] w (Gives w (.int .i64 (minus left xs.length))) := by
  have hn : n ≤ maxLen := Nat.le_trans hx.2.1 hx.2.2.1
  unfold maxLen at hn
  have HL := hid hx.1
  clear hx
  by_cases h : left - n < 0
  · go_enter Tryd.func25, Tryd.ntmps25
    go_wp2
    go_ret
    exact ⟨by rw [HL.out]; exact ret_int (by unfold minus; rw [if_pos (by assumption)]), Below.refl _ _⟩
  · go_enter Tryd.func25, Tryd.ntmps25
    go_wp2
    go_ret
    exact ⟨by rw [HL.out]; exact ret_int (by unfold minus; rw [if_neg (by omega)]), Below.refl _ _⟩
end Go.Proofs.YthlpjpcnpcclhaaDoor.X

/- Cells of a row of the call's own, stored one behind the other. -/
namespace Go.XB
open Go.RowKit

theorem cnt_le_cntL {α : Type} {xs : List α} (f : α → Nat) {k : Nat} {x : α} (h : xs[k]? = some x) : f x ≤ cntL f xs := by
  have := sum_take_le f h; unfold cntL; omega

theorem info_zero {P : Program} {e : TypeId} {size : Nat} (h : (P.info? e).map (fun i => (i.zero.isSome, i.size == size, decide (i.bytes ≤ 1024))) = some (true, true, true)) :
    ∃ i z, P.info? e = some i ∧ i.zero = some z ∧ i.size = size ∧ i.bytes ≤ 1024 := by
  cases hi : P.info? e with
  | none => rw [hi] at h; cases h
  | some i =>
    rw [hi] at h
    simp only [Option.map_some, Option.some.injEq, Prod.mk.injEq, beq_iff_eq, decide_eq_true_eq] at h
    obtain ⟨h1, h2, h3⟩ := h
    cases hz : i.zero with
    | none => rw [hz] at h1; cases h1
    | some z => exact ⟨i, z, rfl, hz, h2, h3⟩

def setCells (w : World) (g i : Nat) : List Value → World
  | [] => w
  | c :: cs => setCells (w.setCell ⟨g, i, none⟩ c) g (i + 1) cs

theorem ownsRow_below {w w' : World} {base : Nat} {e : TypeId} {size : Nat} {v : Value} {n : Nat} {xs : List Value} (h : w.ownsRow base e size v n xs) (hb : Below w.heap.size w w') : w'.ownsRow base e size v n xs :=
  h.kept (row := none) ⟨hb.os, hb.tape, hb.output, hb.size, fun k hk _ => hb.block k hk⟩ (by cases hv : v.ownBlock <;> simp)

theorem own_cell {w : World} {base : Nat} {e : TypeId} {size g n cap : Nat} {xs : List Value} (h : w.ownsRow base e size (.slice (some ⟨g, 0, none⟩) n cap) n xs) (j : Nat) (hj : j < xs.length) :
    ∃ v, w.cell? ⟨g, j, none⟩ = some v := by
  have := World.ownsRow.cellAt h j (by rw [← h.1]; exact hj)
  exact ⟨xs[j], by rw [this, List.getElem?_eq_getElem hj]⟩

theorem own_setCells {base : Nat} {e : TypeId} {size g n cap : Nat} : ∀ {w : World} {xs : List Value} (_ : w.ownsRow base e size (.slice (some ⟨g, 0, none⟩) n cap) n xs) (cs : List Value) (i : Nat),
    (setCells w g i cs).ownsRow base e size (.slice (some ⟨g, 0, none⟩) n cap) n (setFrom xs i cs)
  | _, _, h, [], _ => h
  | _, _, h, c :: cs, i => own_setCells (World.ownsRow.stored h i c).1 cs (i + 1)

theorem heap_setCells (g : Nat) : ∀ (cs : List Value) (w : World) (i k : Nat), k ≠ g → (setCells w g i cs).heap[k]? = w.heap[k]?
  | [], _, _, _, _ => rfl
  | c :: cs, w, i, k, h => (heap_setCells g cs _ (i + 1) k h).trans (Below.heap_setCell w ⟨g, i, none⟩ c k h)

theorem size_setCells (g : Nat) : ∀ (cs : List Value) (w : World) (i : Nat), (setCells w g i cs).heap.size = w.heap.size
  | [], _, _ => rfl
  | c :: cs, w, i => by rw [setCells, size_setCells g cs]; simp [World.setCell]

theorem below_setCells {B g : Nat} {w0 : World} : ∀ {w : World} (_ : Below B w0 w) (_ : B ≤ g) (cs : List Value) (i : Nat), Below B w0 (setCells w g i cs)
  | _, h, _, [], _ => h
  | _, h, hB, c :: cs, i => below_setCells (h.setCell (p := ⟨g, i, none⟩) hB c) hB cs (i + 1)

theorem own_setCells_keep {w0 w : World} {bs : List Nat} {g : Nat} (h : Own w0 w bs) (hg : ∀ b ∈ bs, b ≠ g) {cs : List Value} {i : Nat} : Own w0 (setCells w g i cs) bs :=
  ⟨h.1, fun b hb => ⟨(h.2 b hb).1, by obtain ⟨c, t, e⟩ := (h.2 b hb).2; exact ⟨c, t, (heap_setCells g cs w i b (hg b hb)).trans e⟩⟩⟩

end Go.XB
