/- What the laws use: sizes, copies, comparisons, readers. No condition. -/
import Derived.Test.YtleegelljgnlpaaGreatRows
import Derived.Test.YtleegelljgnlpaaGreatP1
import Derived.WalkLawsBesides
import Derived.ProofKit
import Derived.Test.YtleegelljgnlpaaGreatP2
import Derived.BigQuiet
import Derived.Deep.QuietTactic
import Derived.Deep.Slices
import Derived.KernelRfl
/- laws.toIntS: a new slice of the same ints. laws.szIntS. Condition of the first: at most 1048576 ints. -/
namespace Go.Proofs.YtleegelljgnlpaaGreat.X
open Go.RowKit Go.XB

theorem infoInt : (Tryz.prog.info? 3).map (fun i => (i.zero, i.size, i.bytes)) = some (some (.int .i64 0), 1, 8) := by kernel_rfl

theorem take_set_map {xs : List Int} {cells : List Value} {k : Nat} {x : Int} (hx : xs[k]? = some x) (h : cells.take k = (xs.take k).map (.int .i64)) (hl : k < cells.length) :
    (cells.set k (.int .i64 x)).take (k + 1) = (xs.take (k + 1)).map (.int .i64) := by
  rw [List.take_add_one, List.take_add_one, List.map_append, ← h, hx]
  simp [List.take_set_of_le, hl]

end Go.Proofs.YtleegelljgnlpaaGreat.X

/- Two lists of ints, compared: laws.eqIntS, spec.l04List, slices.Equal at ints. -/
namespace Go.Proofs.YtleegelljgnlpaaGreat.X
open Go.RowKit Go.XB
end Go.Proofs.YtleegelljgnlpaaGreat.X

/- The budget of the laws' arguments: laws.sz... Written by gen_law.py. -/
namespace Go.Proofs.YtleegelljgnlpaaGreat.X
open Go.RowKit Go.XB
attribute [local go_sem] fillBy opAt deps depOf Region.wanted yielded
attribute [local simp] deps depOf MP.eq Facts
end Go.Proofs.YtleegelljgnlpaaGreat.X

/- The laws' copies of their arguments: laws.to... Written by gen_law.py. -/
namespace Go.Proofs.YtleegelljgnlpaaGreat.X
open Go.RowKit Go.XB
attribute [local go_sem] fillBy opAt deps depOf Region.wanted yielded
attribute [local simp] deps depOf MP.eq Facts
end Go.Proofs.YtleegelljgnlpaaGreat.X

/- The laws' comparisons: laws.eq... Written by gen_law.py. -/
namespace Go.Proofs.YtleegelljgnlpaaGreat.X
open Go.RowKit Go.XB
attribute [local go_sem] fillBy opAt deps depOf Region.wanted yielded
attribute [local simp] deps depOf MP.eq Facts
end Go.Proofs.YtleegelljgnlpaaGreat.X

/- An argument is opened: what the reader of the row reads is data in cells, as XMem has it. Written by gen_open.py. -/
namespace Go.XB
open Go.RowKit Go.ChangeShapes Go.WideShapes Go.Deep

/-- What reads as type t is data of α. -/
def Opens (P : Program) (t : TypeId) (α : Type) [Dat α] : Prop :=
  ∀ {H : Type} (enc : TypeId × Value → H) (w : World) (fuel : Nat) (cs : List Value) (y : DataW H × List MemPlace), DataW.trod enc P w 0 (fun _ => true) true fuel t cs = some y → ∃ (x : α) (bs : List Nat), Dat.at_ w cs x bs

section
variable {P : Program} {t e : TypeId}

theorem Opens.int (ht : P.underlying t = some (.int .i64)) : Opens P t Int := fun enc w fuel cs y h => by
  obtain ⟨n, rfl, _, hn⟩ := DataW.trod_int ht h
  exact ⟨n, [], rfl, rfl, by
    simp [Lit.wf, IntKind.min, IntKind.max, IntKind.signed, IntKind.bits] at hn
    unfold I64; omega⟩

theorem Opens.bool (ht : P.underlying t = some .bool) : Opens P t Bool := fun enc w fuel cs y h => by
  obtain ⟨b, rfl, _⟩ := DataW.trod_bool ht h
  exact ⟨b, [], rfl, rfl⟩

theorem Opens.string (ht : P.underlying t = some .string) : Opens P t ByteArray := fun enc w fuel cs y h => by
  obtain ⟨s, rfl, _, hs⟩ := DataW.trod_string ht h
  exact ⟨s, [], rfl, rfl, hs⟩

theorem lists_of {α : Type} (p : Nat → α → List Nat → Prop) : ∀ n, (∀ i, i < n → ∃ x fs, p i x fs) → ∃ (xs : List α) (fss : List (List Nat)), xs.length = n ∧ fss.length = n ∧ ∀ i x fs, xs[i]? = some x → fss[i]? = some fs → p i x fs
  | 0, _ => ⟨[], [], rfl, rfl, fun i x fs h => by simp at h⟩
  | n + 1, h => by
    obtain ⟨xs, fss, h1, h2, h3⟩ := lists_of p n fun i hi => h i (by omega)
    obtain ⟨x, fs, hp⟩ := h n (by omega)
    refine ⟨xs ++ [x], fss ++ [fs], by simp [h1], by simp [h2], fun i y gs hy hg => ?_⟩
    by_cases hi : i < n
    · rw [List.getElem?_append_left (by omega)] at hy hg
      exact h3 i y gs hy hg
    · have hin : i = n := by have := (List.getElem?_eq_some_iff.1 hy).1; simp at this; omega
      subst hin
      rw [List.getElem?_append_right (by omega), h1] at hy
      rw [List.getElem?_append_right (by omega), h2] at hg
      simp at hy hg
      subst hy; subst hg
      exact hp

theorem Opens.slice {α : Type} [Dat α] (ht : P.underlying t = some (.slice e)) (hc : P.cellsOf e = Dat.sz α) (ho : Opens P e α) : Opens P t (List α) := fun enc w fuel cs y h => by
  rcases open_slice ht h with ⟨rfl, _⟩ | ⟨a, len, cap, m, n, DD, Pl, rfl, _, hl, hm, hmm, _, hi⟩
  · exact ⟨[], [], none, 0, 0, rfl, Sl.nil w⟩
  · have hlm : len ≤ m := by rw [hmm]; simpa using hl
    rcases Nat.eq_zero_or_pos len with h0 | h0
    · subst h0
      exact ⟨[], [], _, 0, cap, rfl, rfl, hl, hm, fun _ => rfl, fun h => absurd h (by omega)⟩
    · obtain ⟨xs, fss, h1, h2, h3⟩ := lists_of (α := α) (fun i x fs => ∃ cs', w.cells? 0 (a.add (i * Dat.sz α)) (Dat.sz α) = some cs' ∧ Dat.at_ w cs' x fs) len fun i hil => by
        obtain ⟨cs', hcs, ht'⟩ := hi i (by omega)
        rw [hc] at hcs
        obtain ⟨x, fs, ha⟩ := ho enc w _ _ _ ht'
        exact ⟨x, fs, cs', hcs, ha⟩
      have hpos : 0 < Dat.sz α := Dat.pos
      obtain ⟨cs0, hcs0, _⟩ := h3 0 _ _ (List.getElem?_eq_getElem (by omega)) (List.getElem?_eq_getElem (by omega))
      obtain ⟨_, hl0, hat0⟩ := World.cells?_some hcs0
      have hc0 := hat0 (i := 0) (by omega)
      rw [Nat.zero_mul] at hc0
      have hspot : a.spot = none := by
        have he : w.cell? ((a.add 0).add 0) = some (cs0[0]'(by omega)) := by rw [hc0]; exact List.getElem?_eq_getElem (by omega)
        simp only [Addr.add, if_true] at he
        unfold World.cell? at he
        split at he
        · split at he
          · cases he
          · rename_i hs; simpa using hs
        · cases he
      have hblk : a.block < w.heap.size := by
        have he : w.cell? ((a.add 0).add 0) = some (cs0[0]'(by omega)) := by rw [hc0]; exact List.getElem?_eq_getElem (by omega)
        have := block_lt_of_cell he
        simpa [block_add] using this
      refine ⟨xs, a.block :: fss.flatten, _, len, cap, rfl, h1, hl, hm, fun h => absurd h (by omega), fun _ => ⟨a.block, a.off, fss, ?_, rfl, by rw [h1, h2], hblk, fun k x fs hx hf => ?_⟩⟩
      · cases a; simp only at hspot; subst hspot; rfl
      · obtain ⟨cs', hcs, ha⟩ := h3 k x fs hx hf
        obtain ⟨_, hlc, hat⟩ := World.cells?_some hcs
        refine ⟨cs', fun j u hu => ?_, ha⟩
        have hj : j < Dat.sz α := by rw [← hlc]; exact (List.getElem?_eq_some_iff.1 hu).1
        have := hat (i := j) hj
        rw [hu] at this
        rw [← this]
        congr 1
        cases a
        simp only at hspot
        subst hspot
        unfold Addr.add
        by_cases hz1 : k * Dat.sz α = 0 <;> by_cases hz2 : j = 0 <;> simp [hz1, hz2, Nat.add_assoc]

theorem seg {α : Type} [Dat α] {f : Field} (ho : Opens P f.type α) (hc : P.cellsOf f.type = Dat.sz α) {H : Type} {enc : TypeId × Value → H} {w : World} {fuel o : Nat} {cs : List Value} {y : Option (DataW H × List MemPlace)}
    (hoff : f.offset = o) (h : DataW.trod enc P w 0 (fun _ => true) true fuel f.type ((cs.drop f.offset).take (P.cellsOf f.type)) = y) (hy : y.isSome = true) :
    ∃ (x : α) (bs : List Nat), Dat.at_ w ((cs.drop o).take (Dat.sz α)) x bs := by
  cases y with
  | none => cases hy
  | some y => rw [hoff, hc] at h; exact ho enc w _ _ _ h

theorem Opens.struct1 {α0 : Type} [Dat α0] {f0 : Field} (ht : P.underlying t = some (.struct #[f0])) (o0 : f0.offset = 0) (c0 : P.cellsOf f0.type = Dat.sz α0) (p0 : Opens P f0.type α0) (hc : P.cellsOf t = Dat.sz α0) : Opens P t (α0) := fun enc w fuel cs y h => by
  obtain ⟨xs, n, _, _, hlen, hxl, hg⟩ := DataW.trod_struct ht h
  have hxl' : xs.length = 1 := hxl
  obtain ⟨x0, b0, a0⟩ := seg p0 c0 o0 (hg 0 f0 rfl) (by rw [List.getElem?_eq_getElem (by omega)]; rfl)
  refine ⟨x0, b0, ?_⟩
  have e : cs = (cs.drop 0).take (Dat.sz α0) := by rw [List.drop_zero, List.take_of_length_le (by omega)]
  rw [e]; exact a0

theorem Opens.struct2 {α0 : Type} [Dat α0] {α1 : Type} [Dat α1] {f0 f1 : Field} (ht : P.underlying t = some (.struct #[f0, f1])) (o0 : f0.offset = 0) (c0 : P.cellsOf f0.type = Dat.sz α0) (p0 : Opens P f0.type α0) (o1 : f1.offset = Dat.sz α0) (c1 : P.cellsOf f1.type = Dat.sz α1) (p1 : Opens P f1.type α1) (hc : P.cellsOf t = Dat.sz α0 + Dat.sz α1) : Opens P t (α0 × α1) := fun enc w fuel cs y h => by
  obtain ⟨xs, n, _, _, hlen, hxl, hg⟩ := DataW.trod_struct ht h
  have hxl' : xs.length = 2 := hxl
  obtain ⟨x0, b0, a0⟩ := seg p0 c0 o0 (hg 0 f0 rfl) (by rw [List.getElem?_eq_getElem (by omega)]; rfl)
  obtain ⟨x1, b1, a1⟩ := seg p1 c1 o1 (hg 1 f1 rfl) (by rw [List.getElem?_eq_getElem (by omega)]; rfl)
  rw [hc] at hlen
  have e : cs.drop 0 = (cs.drop (0)).take (Dat.sz α0) ++ ((cs.drop (Dat.sz α0)).take (Dat.sz α1)) := by
    have s1 : cs.drop (Dat.sz α0) = (cs.drop (Dat.sz α0)).take (Dat.sz α1) := by rw [List.take_of_length_le (by rw [List.length_drop]; omega)]
    have s0 : cs.drop (0) = (cs.drop (0)).take (Dat.sz α0) ++ cs.drop (Dat.sz α0) := by
      have := (List.take_append_drop (Dat.sz α0) (cs.drop (0))).symm
      rwa [List.drop_drop, Nat.zero_add] at this
    rw [s1] at s0
    exact s0
  refine ⟨(x0, x1), b0 ++ (b1), ?_⟩
  rw [List.drop_zero] at e
  exact ⟨_, _, _, _, e, rfl, a0, a1⟩

theorem Opens.struct3 {α0 : Type} [Dat α0] {α1 : Type} [Dat α1] {α2 : Type} [Dat α2] {f0 f1 f2 : Field} (ht : P.underlying t = some (.struct #[f0, f1, f2])) (o0 : f0.offset = 0) (c0 : P.cellsOf f0.type = Dat.sz α0) (p0 : Opens P f0.type α0) (o1 : f1.offset = Dat.sz α0) (c1 : P.cellsOf f1.type = Dat.sz α1) (p1 : Opens P f1.type α1) (o2 : f2.offset = Dat.sz α0 + Dat.sz α1) (c2 : P.cellsOf f2.type = Dat.sz α2) (p2 : Opens P f2.type α2) (hc : P.cellsOf t = Dat.sz α0 + Dat.sz α1 + Dat.sz α2) : Opens P t (α0 × α1 × α2) := fun enc w fuel cs y h => by
  obtain ⟨xs, n, _, _, hlen, hxl, hg⟩ := DataW.trod_struct ht h
  have hxl' : xs.length = 3 := hxl
  obtain ⟨x0, b0, a0⟩ := seg p0 c0 o0 (hg 0 f0 rfl) (by rw [List.getElem?_eq_getElem (by omega)]; rfl)
  obtain ⟨x1, b1, a1⟩ := seg p1 c1 o1 (hg 1 f1 rfl) (by rw [List.getElem?_eq_getElem (by omega)]; rfl)
  obtain ⟨x2, b2, a2⟩ := seg p2 c2 o2 (hg 2 f2 rfl) (by rw [List.getElem?_eq_getElem (by omega)]; rfl)
  rw [hc] at hlen
  have e : cs.drop 0 = (cs.drop (0)).take (Dat.sz α0) ++ ((cs.drop (Dat.sz α0)).take (Dat.sz α1) ++ ((cs.drop (Dat.sz α0 + Dat.sz α1)).take (Dat.sz α2))) := by
    have s2 : cs.drop (Dat.sz α0 + Dat.sz α1) = (cs.drop (Dat.sz α0 + Dat.sz α1)).take (Dat.sz α2) := by rw [List.take_of_length_le (by rw [List.length_drop]; omega)]
    have s1 : cs.drop (Dat.sz α0) = (cs.drop (Dat.sz α0)).take (Dat.sz α1) ++ cs.drop (Dat.sz α0 + Dat.sz α1) := by
      have := (List.take_append_drop (Dat.sz α1) (cs.drop (Dat.sz α0))).symm
      rwa [List.drop_drop] at this
    have s0 : cs.drop (0) = (cs.drop (0)).take (Dat.sz α0) ++ cs.drop (Dat.sz α0) := by
      have := (List.take_append_drop (Dat.sz α0) (cs.drop (0))).symm
      rwa [List.drop_drop, Nat.zero_add] at this
    rw [s1, s2] at s0
    exact s0
  refine ⟨(x0, x1, x2), b0 ++ (b1 ++ (b2)), ?_⟩
  rw [List.drop_zero] at e
  exact ⟨_, _, _, _, e, rfl, a0, ⟨_, _, _, _, rfl, rfl, a1, a2⟩⟩

theorem Opens.struct4 {α0 : Type} [Dat α0] {α1 : Type} [Dat α1] {α2 : Type} [Dat α2] {α3 : Type} [Dat α3] {f0 f1 f2 f3 : Field} (ht : P.underlying t = some (.struct #[f0, f1, f2, f3])) (o0 : f0.offset = 0) (c0 : P.cellsOf f0.type = Dat.sz α0) (p0 : Opens P f0.type α0) (o1 : f1.offset = Dat.sz α0) (c1 : P.cellsOf f1.type = Dat.sz α1) (p1 : Opens P f1.type α1) (o2 : f2.offset = Dat.sz α0 + Dat.sz α1) (c2 : P.cellsOf f2.type = Dat.sz α2) (p2 : Opens P f2.type α2) (o3 : f3.offset = Dat.sz α0 + Dat.sz α1 + Dat.sz α2) (c3 : P.cellsOf f3.type = Dat.sz α3) (p3 : Opens P f3.type α3) (hc : P.cellsOf t = Dat.sz α0 + Dat.sz α1 + Dat.sz α2 + Dat.sz α3) : Opens P t (α0 × α1 × α2 × α3) := fun enc w fuel cs y h => by
  obtain ⟨xs, n, _, _, hlen, hxl, hg⟩ := DataW.trod_struct ht h
  have hxl' : xs.length = 4 := hxl
  obtain ⟨x0, b0, a0⟩ := seg p0 c0 o0 (hg 0 f0 rfl) (by rw [List.getElem?_eq_getElem (by omega)]; rfl)
  obtain ⟨x1, b1, a1⟩ := seg p1 c1 o1 (hg 1 f1 rfl) (by rw [List.getElem?_eq_getElem (by omega)]; rfl)
  obtain ⟨x2, b2, a2⟩ := seg p2 c2 o2 (hg 2 f2 rfl) (by rw [List.getElem?_eq_getElem (by omega)]; rfl)
  obtain ⟨x3, b3, a3⟩ := seg p3 c3 o3 (hg 3 f3 rfl) (by rw [List.getElem?_eq_getElem (by omega)]; rfl)
  rw [hc] at hlen
  have e : cs.drop 0 = (cs.drop (0)).take (Dat.sz α0) ++ ((cs.drop (Dat.sz α0)).take (Dat.sz α1) ++ ((cs.drop (Dat.sz α0 + Dat.sz α1)).take (Dat.sz α2) ++ ((cs.drop (Dat.sz α0 + Dat.sz α1 + Dat.sz α2)).take (Dat.sz α3)))) := by
    have s3 : cs.drop (Dat.sz α0 + Dat.sz α1 + Dat.sz α2) = (cs.drop (Dat.sz α0 + Dat.sz α1 + Dat.sz α2)).take (Dat.sz α3) := by rw [List.take_of_length_le (by rw [List.length_drop]; omega)]
    have s2 : cs.drop (Dat.sz α0 + Dat.sz α1) = (cs.drop (Dat.sz α0 + Dat.sz α1)).take (Dat.sz α2) ++ cs.drop (Dat.sz α0 + Dat.sz α1 + Dat.sz α2) := by
      have := (List.take_append_drop (Dat.sz α2) (cs.drop (Dat.sz α0 + Dat.sz α1))).symm
      rwa [List.drop_drop] at this
    have s1 : cs.drop (Dat.sz α0) = (cs.drop (Dat.sz α0)).take (Dat.sz α1) ++ cs.drop (Dat.sz α0 + Dat.sz α1) := by
      have := (List.take_append_drop (Dat.sz α1) (cs.drop (Dat.sz α0))).symm
      rwa [List.drop_drop] at this
    have s0 : cs.drop (0) = (cs.drop (0)).take (Dat.sz α0) ++ cs.drop (Dat.sz α0) := by
      have := (List.take_append_drop (Dat.sz α0) (cs.drop (0))).symm
      rwa [List.drop_drop, Nat.zero_add] at this
    rw [s1, s2, s3] at s0
    exact s0
  refine ⟨(x0, x1, x2, x3), b0 ++ (b1 ++ (b2 ++ (b3))), ?_⟩
  rw [List.drop_zero] at e
  exact ⟨_, _, _, _, e, rfl, a0, ⟨_, _, _, _, rfl, rfl, a1, ⟨_, _, _, _, rfl, rfl, a2, a3⟩⟩⟩

theorem Opens.struct5 {α0 : Type} [Dat α0] {α1 : Type} [Dat α1] {α2 : Type} [Dat α2] {α3 : Type} [Dat α3] {α4 : Type} [Dat α4] {f0 f1 f2 f3 f4 : Field} (ht : P.underlying t = some (.struct #[f0, f1, f2, f3, f4])) (o0 : f0.offset = 0) (c0 : P.cellsOf f0.type = Dat.sz α0) (p0 : Opens P f0.type α0) (o1 : f1.offset = Dat.sz α0) (c1 : P.cellsOf f1.type = Dat.sz α1) (p1 : Opens P f1.type α1) (o2 : f2.offset = Dat.sz α0 + Dat.sz α1) (c2 : P.cellsOf f2.type = Dat.sz α2) (p2 : Opens P f2.type α2) (o3 : f3.offset = Dat.sz α0 + Dat.sz α1 + Dat.sz α2) (c3 : P.cellsOf f3.type = Dat.sz α3) (p3 : Opens P f3.type α3) (o4 : f4.offset = Dat.sz α0 + Dat.sz α1 + Dat.sz α2 + Dat.sz α3) (c4 : P.cellsOf f4.type = Dat.sz α4) (p4 : Opens P f4.type α4) (hc : P.cellsOf t = Dat.sz α0 + Dat.sz α1 + Dat.sz α2 + Dat.sz α3 + Dat.sz α4) : Opens P t (α0 × α1 × α2 × α3 × α4) := fun enc w fuel cs y h => by
  obtain ⟨xs, n, _, _, hlen, hxl, hg⟩ := DataW.trod_struct ht h
  have hxl' : xs.length = 5 := hxl
  obtain ⟨x0, b0, a0⟩ := seg p0 c0 o0 (hg 0 f0 rfl) (by rw [List.getElem?_eq_getElem (by omega)]; rfl)
  obtain ⟨x1, b1, a1⟩ := seg p1 c1 o1 (hg 1 f1 rfl) (by rw [List.getElem?_eq_getElem (by omega)]; rfl)
  obtain ⟨x2, b2, a2⟩ := seg p2 c2 o2 (hg 2 f2 rfl) (by rw [List.getElem?_eq_getElem (by omega)]; rfl)
  obtain ⟨x3, b3, a3⟩ := seg p3 c3 o3 (hg 3 f3 rfl) (by rw [List.getElem?_eq_getElem (by omega)]; rfl)
  obtain ⟨x4, b4, a4⟩ := seg p4 c4 o4 (hg 4 f4 rfl) (by rw [List.getElem?_eq_getElem (by omega)]; rfl)
  rw [hc] at hlen
  have e : cs.drop 0 = (cs.drop (0)).take (Dat.sz α0) ++ ((cs.drop (Dat.sz α0)).take (Dat.sz α1) ++ ((cs.drop (Dat.sz α0 + Dat.sz α1)).take (Dat.sz α2) ++ ((cs.drop (Dat.sz α0 + Dat.sz α1 + Dat.sz α2)).take (Dat.sz α3) ++ ((cs.drop (Dat.sz α0 + Dat.sz α1 + Dat.sz α2 + Dat.sz α3)).take (Dat.sz α4))))) := by
    have s4 : cs.drop (Dat.sz α0 + Dat.sz α1 + Dat.sz α2 + Dat.sz α3) = (cs.drop (Dat.sz α0 + Dat.sz α1 + Dat.sz α2 + Dat.sz α3)).take (Dat.sz α4) := by rw [List.take_of_length_le (by rw [List.length_drop]; omega)]
    have s3 : cs.drop (Dat.sz α0 + Dat.sz α1 + Dat.sz α2) = (cs.drop (Dat.sz α0 + Dat.sz α1 + Dat.sz α2)).take (Dat.sz α3) ++ cs.drop (Dat.sz α0 + Dat.sz α1 + Dat.sz α2 + Dat.sz α3) := by
      have := (List.take_append_drop (Dat.sz α3) (cs.drop (Dat.sz α0 + Dat.sz α1 + Dat.sz α2))).symm
      rwa [List.drop_drop] at this
    have s2 : cs.drop (Dat.sz α0 + Dat.sz α1) = (cs.drop (Dat.sz α0 + Dat.sz α1)).take (Dat.sz α2) ++ cs.drop (Dat.sz α0 + Dat.sz α1 + Dat.sz α2) := by
      have := (List.take_append_drop (Dat.sz α2) (cs.drop (Dat.sz α0 + Dat.sz α1))).symm
      rwa [List.drop_drop] at this
    have s1 : cs.drop (Dat.sz α0) = (cs.drop (Dat.sz α0)).take (Dat.sz α1) ++ cs.drop (Dat.sz α0 + Dat.sz α1) := by
      have := (List.take_append_drop (Dat.sz α1) (cs.drop (Dat.sz α0))).symm
      rwa [List.drop_drop] at this
    have s0 : cs.drop (0) = (cs.drop (0)).take (Dat.sz α0) ++ cs.drop (Dat.sz α0) := by
      have := (List.take_append_drop (Dat.sz α0) (cs.drop (0))).symm
      rwa [List.drop_drop, Nat.zero_add] at this
    rw [s1, s2, s3, s4] at s0
    exact s0
  refine ⟨(x0, x1, x2, x3, x4), b0 ++ (b1 ++ (b2 ++ (b3 ++ (b4)))), ?_⟩
  rw [List.drop_zero] at e
  exact ⟨_, _, _, _, e, rfl, a0, ⟨_, _, _, _, rfl, rfl, a1, ⟨_, _, _, _, rfl, rfl, a2, ⟨_, _, _, _, rfl, rfl, a3, a4⟩⟩⟩⟩


theorem Opens.via {α β : Type} [Dat β] {f : α → β} (ho : Opens P t β) (hs : ∀ b, ∃ a, f a = b) : @Opens P t α (Dat.via f) := fun enc w fuel cs y h => by
  obtain ⟨x, bs, ha⟩ := ho enc w fuel cs y h
  obtain ⟨a, rfl⟩ := hs x
  exact ⟨a, bs, ha⟩

theorem Opens.agg {α : Type} [Dat α] (ho : Opens P t α) {fs : Array Field} (ht : P.underlying t = some (.struct fs)) {H : Type} {enc : TypeId × Value → H} {w : World} {r : Reach} {b0 : Nat} {v : Value} {d : DataW H} {p : List MemPlace}
    (hv : Value.okWide P w r b0 t v) (h : DataW.Trod enc P w 0 (fun _ => true) true t v d p) : ∃ (x : α) (bs : List Nat), Agg w v x bs := by
  obtain ⟨cs, rfl, _⟩ := okWide_struct ht hv
  obtain ⟨fuel, hf⟩ := h
  obtain ⟨x, bs, ha⟩ := ho enc w _ _ _ hf
  exact ⟨x, bs, _, by simp [Value.cells], ha⟩

theorem Opens.sl {α : Type} [Dat α] (ho : Opens P t (List α)) (ht : P.underlying t = some (.slice e)) {H : Type} {enc : TypeId × Value → H} {w : World} {r : Reach} {b0 : Nat} {v : Value} {d : DataW H} {p : List MemPlace}
    (hv : Value.okWide P w r b0 t v) (h : DataW.Trod enc P w 0 (fun _ => true) true t v d p) : ∃ (A : Option Addr) (n c : Nat) (xs : List α) (bs : List Nat), v = .slice A n c ∧ Sl w A n c xs bs := by
  obtain ⟨A, n, c, rfl⟩ := okWide_slice ht hv
  obtain ⟨fuel, hf⟩ := h
  obtain ⟨xs, bs, A', n', c', hcs, hs⟩ := ho enc w _ _ _ hf
  simp [Value.cells] at hcs
  obtain ⟨rfl, rfl, rfl⟩ := hcs
  exact ⟨_, _, _, xs, bs, rfl, hs⟩
end
end Go.XB

/- The types of the laws' arguments, opened. Written by gen_open.py. -/
namespace Go.Proofs.YtleegelljgnlpaaGreat.X
open Go.XB
theorem oInt : Opens Tryz.prog 3 Int := Opens.int Tryz.underlying3
theorem oLInt : Opens Tryz.prog 25 (List Int) := Opens.slice Tryz.underlying25 (by kernel_rfl) oInt
end Go.Proofs.YtleegelljgnlpaaGreat.X
