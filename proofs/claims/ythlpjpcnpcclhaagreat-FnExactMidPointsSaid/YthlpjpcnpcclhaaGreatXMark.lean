/- The laws' marks: a slice or a fraction of the call's own is filled with the numbers k, k + 1, ..; what lies elsewhere stays. -/
import Derived.Test.YthlpjpcnpcclhaaGreatP2
import Derived.Test.YthlpjpcnpcclhaaGreatXRange
namespace Go.XB
open Go.RowKit

/-- Nothing but these blocks has turned. -/
structure Turns (w w' : World) (bs : List Nat) : Prop where
  os : w'.os = w.os
  tape : w'.tape = w.tape
  output : w'.output = w.output
  size : w.heap.size ≤ w'.heap.size
  out : ∀ g, g < w.heap.size → g ∉ bs → w'.heap[g]? = w.heap[g]?

theorem Turns.refl (w : World) (bs : List Nat) : Turns w w bs := ⟨rfl, rfl, rfl, Nat.le_refl _, fun _ _ _ => rfl⟩
theorem Turns.trans {a b c : World} {bs : List Nat} (h : Turns a b bs) (k : Turns b c bs) : Turns a c bs :=
  ⟨k.os.trans h.os, k.tape.trans h.tape, k.output.trans h.output, Nat.le_trans h.size k.size, fun g h1 h2 => (k.out g (Nat.lt_of_lt_of_le h1 h.size) h2).trans (h.out g h1 h2)⟩
theorem Turns.mono {a b : World} {bs cs : List Nat} (h : Turns a b bs) (hs : ∀ g ∈ bs, g ∈ cs) : Turns a b cs :=
  ⟨h.os, h.tape, h.output, h.size, fun g h1 h2 => h.out g h1 fun h3 => h2 (hs g h3)⟩
theorem _root_.Go.RowKit.Below.touch {a b : World} (h : Below a.heap.size a b) (bs : List Nat) : Turns a b bs := ⟨h.os, h.tape, h.output, h.size, fun g h1 _ => h.block g h1⟩
theorem Turns.set {a b : World} {bs : List Nat} (h : Turns a b bs) {p : Addr} (hp : p.block ∈ bs) (u : Value) : Turns a (b.setCell p u) bs :=
  h.trans ⟨rfl, rfl, rfl, by simp [World.setCell], fun g _ h2 => Below.heap_setCell b p u g (fun e => h2 (e ▸ hp))⟩
theorem _root_.Go.RowKit.Below.touched {B : Nat} {w0 w w' : World} {bs : List Nat} (h : Below B w0 w) (ht : Turns w w' bs) (hB : B ≤ w.heap.size) (hbs : ∀ b ∈ bs, B ≤ b) : Below B w0 w' :=
  h.trans ⟨ht.os, ht.tape, ht.output, ht.size, fun k hk => ht.out k (by omega) fun hm => by have := hbs k hm; omega⟩
theorem Turns.cell {w w' : World} {bs : List Nat} (h : Turns w w' bs) {b : Nat} (hb : b < w.heap.size) (hn : b ∉ bs) (o : Nat) : w'.cell? ⟨b, o, none⟩ = w.cell? ⟨b, o, none⟩ := World.cell?_of_block (a := ⟨b, o, none⟩) (h.out b hb hn)
theorem Turns.frozen {w w' : World} {bs : List Nat} (h : Turns w w' bs) {b : Nat} (hb : b < w.heap.size) (hn : b ∉ bs) (o : Nat) : w'.frozen? ⟨b, o, none⟩ = w.frozen? ⟨b, o, none⟩ := by
  unfold World.frozen?; rw [h.out b hb hn]
theorem Agg.touch {α : Type} [Dat α] {w w' : World} {v : Value} {x : α} {bs cs : List Nat} (h : Agg w v x bs) (ht : Turns w w' cs) (hd : ∀ b ∈ bs, b ∉ cs) : Agg w' v x bs := h.keep fun g hg => ht.out g (h.lt g hg) (hd g hg)
theorem Sl.touch {α : Type} [Dat α] {w w' : World} {A : Option Addr} {n c : Nat} {xs : List α} {bs cs : List Nat} (h : Sl w A n c xs bs) (ht : Turns w w' cs) (hd : ∀ b ∈ bs, b ∉ cs) : Sl w' A n c xs bs := h.keep fun g hg => ht.out g (h.lt g hg) (hd g hg)
theorem Free.touch {w w' : World} {bs cs : List Nat} (h : Free w bs) (ht : Turns w w' cs) (hd : ∀ b ∈ bs, b ∉ cs) : Free w' bs := h.keep fun g hg => by
  obtain ⟨c, t, e⟩ := h.2 g hg; exact ht.out g (lt_of_get e) (hd g hg)

theorem Free.setCell {w : World} {bs : List Nat} (h : Free w bs) (p : Addr) (u : Value) : Free (w.setCell p u) bs := by
  refine ⟨h.1, fun b hb => ?_⟩
  obtain ⟨cs, t, e⟩ := h.2 b hb
  by_cases hbp : b = p.block
  · subst hbp
    have : (w.setCell p u).heap[p.block]? = some (.cells (if p.spot.isSome then cs else cs.setIfInBounds p.off u) t (0, 0)) := by
      simp only [World.setCell, Array.getElem?_modify]
      simp [e]
    exact ⟨_, t, this⟩
  · exact ⟨cs, t, (Below.heap_setCell w p u b hbp).trans e⟩
theorem Free.frozen {w : World} {bs : List Nat} (h : Free w bs) {b : Nat} (hb : b ∈ bs) (o : Nat) : w.frozen? ⟨b, o, none⟩ = false := by
  obtain ⟨cs, t, e⟩ := h.2 b hb
  unfold World.frozen?
  rw [e]; simp

/-- k, k + 1, .. -/
def cnts (k : Int) (n : Nat) : List Int := (List.range n).map (fun i : Nat => k + i)
theorem cnts_len (k : Int) (n : Nat) : (cnts k n).length = n := by simp [cnts]
theorem cnts_get {k : Int} {n i : Nat} (h : i < n) : (cnts k n)[i]? = some (k + i) := by simp [cnts, h]

/-- an int is stored in a slice of ints -/
theorem Sl.setInt {w : World} {b off n c : Nat} {zs : List Int} {bs : List Nat} (h : Sl w (some ⟨b, off, none⟩) n c zs bs) {i : Nat} (hi : i < n) (v : Int) (hv : I64 v) :
    Sl (w.setCell ⟨b, off + i, none⟩ (.int .i64 v)) (some ⟨b, off, none⟩) n c (zs.set i v) bs ∧ b ∈ bs := by
  obtain ⟨h1, h2, h3, h4, h5⟩ := h
  obtain ⟨b', off', bss, hA, hbs, hl, hb, he⟩ := h5 (by omega)
  injection hA with hA; injection hA with e1 e2 _
  subst e1; subst e2
  refine ⟨⟨by simp [h1], h2, h3, h4, fun _ => ⟨b, off, bss, rfl, hbs, by simpa using hl, by simpa [World.setCell] using hb, fun k x fs hx hf => ?_⟩⟩, by rw [hbs]; simp⟩
  have hk : k < zs.length := by have := (List.getElem?_eq_some_iff.1 hx).1; simpa using this
  by_cases hki : i = k
  · subst hki
    have hx' : v = x := by simpa [hk] using hx
    subst hx'
    obtain ⟨cs, hc, hcs, hfs, _⟩ := he i _ fs (List.getElem?_eq_getElem hk) hf
    refine ⟨[.int .i64 v], fun j u hu => ?_, rfl, hfs, hv⟩
    match j, hu with
    | 0, hu =>
      simp at hu; subst hu
      have h0 := hc 0 (.int .i64 (zs[i])) (by rw [hcs]; rfl)
      have := World.cell?_setCell_same w ⟨b, off + i, none⟩ (.int .i64 v) (u := .int .i64 (zs[i])) (by simpa [Dat.sz] using h0)
      simpa [Dat.sz] using this
  · rw [List.getElem?_set_ne hki] at hx
    obtain ⟨cs, hc, hcs, hr⟩ := he k x fs hx hf
    refine ⟨cs, fun j u hu => ?_, hcs, hr⟩
    have hj : j = 0 := by
      rw [hcs] at hu
      match j, hu with
      | 0, _ => rfl
    subst hj
    refine (World.cell?_setCell_other w _ _ _ ?_).trans (hc 0 u hu)
    simp [Dat.sz] <;> omega

theorem flatten_apart : ∀ (bss : List (List Nat)), bss.flatten.Nodup → ∀ {i k : Nat} {fi fk : List Nat}, i < k → bss[i]? = some fi → bss[k]? = some fk → ∀ g ∈ fi, g ∉ fk
  | [], _, i, k, fi, fk, _, h, _, _, _ => by simp at h
  | bs :: bss, hnd, i, k, fi, fk, hik, hi, hk, g, hg => by
    rw [List.flatten_cons] at hnd
    obtain ⟨_, h2, h3⟩ := List.nodup_append.1 hnd
    match i, k, hik, hi, hk with
    | 0, k + 1, _, hi, hk =>
      simp at hi hk; subst hi
      exact fun hg' => h3 g hg g (List.mem_flatten.2 ⟨fk, List.mem_of_getElem? hk, hg'⟩) rfl
    | i + 1, k + 1, hik, hi, hk =>
      simp at hi hk
      exact flatten_apart bss h2 (by omega) hi hk g hg
theorem flatten_nodup : ∀ (bss : List (List Nat)), bss.flatten.Nodup → ∀ {i : Nat} {fi : List Nat}, bss[i]? = some fi → fi.Nodup
  | [], _, i, fi, h => by simp at h
  | bs :: bss, hnd, i, fi, hi => by
    rw [List.flatten_cons] at hnd
    obtain ⟨h1, h2, _⟩ := List.nodup_append.1 hnd
    match i, hi with
    | 0, hi => simp at hi; subst hi; exact h1
    | i + 1, hi => simp at hi; exact flatten_nodup bss h2 hi
/-- one element of a slice has turned: its cells, and the blocks that its own slices lie in -/
theorem Sl.turn {α : Type} [Dat α] {w : World} {b off n c : Nat} {ys : List α} {bs : List Nat} (h : Sl w (some ⟨b, off, none⟩) n c ys bs) {i : Nat} (hi : i < n) :
    ∃ fs : List Nat, (∀ g ∈ fs, g ∈ bs) ∧ (bs.Nodup → fs.Nodup) ∧ (bs.Nodup → b ∉ fs) ∧ b ∈ bs ∧ (∃ cs x, ys[i]? = some x ∧ (∀ j u, cs[j]? = some u → w.cell? ⟨b, off + (i * Dat.sz α + j), none⟩ = some u) ∧ Dat.at_ w cs x fs) ∧
      ∀ (w' : World) (y' : α) (cs' : List Value), bs.Nodup → (∀ j u, cs'[j]? = some u → w'.cell? ⟨b, off + (i * Dat.sz α + j), none⟩ = some u) → Dat.at_ w' cs' y' fs →
        (∀ j, (j < i * Dat.sz α ∨ i * Dat.sz α + Dat.sz α ≤ j) → w'.cell? ⟨b, off + j, none⟩ = w.cell? ⟨b, off + j, none⟩) → (∀ g ∈ bs, g ≠ b → g ∉ fs → w'.heap[g]? = w.heap[g]?) → w.heap.size ≤ w'.heap.size →
        Sl w' (some ⟨b, off, none⟩) n c (ys.set i y') bs := by
  obtain ⟨h1, h2, h3, h4, h5⟩ := h
  obtain ⟨b', off', bss, hA, hbs, hl, hb, he⟩ := h5 (by omega)
  injection hA with hA; injection hA with e1 e2 _
  subst e1; subst e2
  have hy : ys[i]? = some (ys[i]'(by omega)) := List.getElem?_eq_getElem (by omega)
  have hf : bss[i]? = some (bss[i]'(by omega)) := List.getElem?_eq_getElem (by omega)
  refine ⟨bss[i]'(by omega), fun g hg => by rw [hbs]; exact List.mem_cons_of_mem _ (List.mem_flatten.2 ⟨_, List.mem_of_getElem? hf, hg⟩), fun hnd => ?_, fun hnd hm => ?_, by rw [hbs]; simp, ?_, ?_⟩
  · rw [hbs] at hnd
    exact flatten_nodup bss (List.nodup_cons.1 hnd).2 hf
  · rw [hbs] at hnd
    exact (List.nodup_cons.1 hnd).1 (List.mem_flatten.2 ⟨_, List.mem_of_getElem? hf, hm⟩)
  · obtain ⟨cs, hc, ha⟩ := he i _ _ hy hf
    exact ⟨cs, _, hy, hc, ha⟩
  · intro w' y' cs' hnd hc' ha' hcell hblk hsz
    refine ⟨by simp [h1], h2, h3, h4, fun _ => ⟨b, off, bss, rfl, hbs, by simpa using hl, by omega, fun k x fs hx hfk => ?_⟩⟩
    have hk : k < ys.length := by have := (List.getElem?_eq_some_iff.1 hx).1; simpa using this
    by_cases hki : i = k
    · subst hki
      have hx' : y' = x := by simpa [hk] using hx
      subst hx'
      rw [hf] at hfk
      obtain rfl := Option.some.inj hfk
      exact ⟨cs', hc', ha'⟩
    · rw [List.getElem?_set_ne hki] at hx
      obtain ⟨cs, hc, ha⟩ := he k x fs hx hfk
      rw [hbs] at hnd
      obtain ⟨hn1, hn2⟩ := List.nodup_cons.1 hnd
      have hmem : ∀ g ∈ fs, g ∈ bss.flatten := fun g hg => List.mem_flatten.2 ⟨_, List.mem_of_getElem? hfk, hg⟩
      have hdis : ∀ g ∈ fs, g ∉ bss[i]'(by omega) := fun g hg hg' => by
        rcases Nat.lt_or_ge i k with hlt | hlt
        · exact flatten_apart bss hn2 hlt hf hfk g hg' hg
        · exact flatten_apart bss hn2 (by omega) hfk hf g hg hg'
      refine ⟨cs, fun j u hu => ?_, Dat.keep ha fun g hg => hblk g (by rw [hbs]; exact List.mem_cons_of_mem _ (hmem g hg)) (fun e => hn1 (e ▸ hmem g hg)) (hdis g hg)⟩
      rw [hcell (k * Dat.sz α + j) ?_]
      · exact hc j u hu
      · have hjl : j < Dat.sz α := by rw [← Dat.len ha]; exact (List.getElem?_eq_some_iff.1 hu).1
        rcases Nat.lt_or_ge k i with hlt | hlt
        · left
          have : (k + 1) * Dat.sz α ≤ i * Dat.sz α := Nat.mul_le_mul_right _ hlt
          rw [Nat.add_mul, Nat.one_mul] at this; omega
        · right
          have : (i + 1) * Dat.sz α ≤ k * Dat.sz α := Nat.mul_le_mul_right _ (by omega)
          rw [Nat.add_mul, Nat.one_mul] at this; omega
end Go.XB
