/- Marks in points: what they are; one point that turns. -/
import Derived.Test.YthlpjpcnpcclhaaGreatXMark3
namespace Go.Proofs.YthlpjpcnpcclhaaGreat.X
open Go.RowKit Go.XB Go.XN
attribute [local go_sem] fillBy opAt deps depOf Region.wanted yielded
attribute [local simp] deps depOf MP.eq MP.agg MP.sl Facts
set_option linter.constructorNameAsVariable false

/-- a point that is filled with marks from k on -/
def mkP (k : Int) (x : TPoint) : TPoint :=
  ⟨⟨⟨k % 3 == 0, cnts (k + 1) x.x.num.mag.length⟩, cnts (k + 1 + x.x.num.mag.length) x.x.den.length⟩,
   ⟨⟨(k + 1 + x.x.num.mag.length + x.x.den.length) % 3 == 0, cnts (k + 1 + x.x.num.mag.length + x.x.den.length + 1) x.y.num.mag.length⟩, cnts (k + 1 + x.x.num.mag.length + x.x.den.length + 1 + x.y.num.mag.length) x.y.den.length⟩⟩
/-- the count behind these points -/
def pnx (k : Int) (xs : List TPoint) : Int := k + ((2 * xs.length + (xs.map TPoint.cnt).sum : Nat) : Int)
def pmk : Int → List TPoint → List TPoint
  | _, [] => []
  | k, x :: xs => mkP k x :: pmk (pnx k [x]) xs
theorem pnx_cons (k : Int) (x : TPoint) (xs : List TPoint) : pnx (pnx k [x]) xs = pnx k (x :: xs) := by
  unfold pnx; simp only [List.map_cons, List.map_nil, List.sum_cons, List.sum_nil, List.length_cons, List.length_nil]; omega
theorem pnx_snoc (k : Int) (xs : List TPoint) (x : TPoint) : pnx k (xs ++ [x]) = pnx (pnx k xs) [x] := by
  unfold pnx; simp only [List.map_append, List.map_cons, List.map_nil, List.sum_append, List.sum_cons, List.sum_nil, List.length_append, List.length_cons, List.length_nil]; omega
theorem pmk_snoc (xs : List TPoint) (x : TPoint) : ∀ k, pmk k (xs ++ [x]) = pmk k xs ++ [mkP (pnx k xs) x] := by
  induction xs with
  | nil => intro k; simp [pmk, pnx]
  | cons y ys ih => intro k; simp only [List.cons_append, pmk]; rw [ih, pnx_cons]
theorem pmk_len (xs : List TPoint) : ∀ k, (pmk k xs).length = xs.length := by
  induction xs with
  | nil => intro k; rfl
  | cons y ys ih => intro k; simp only [pmk, List.length_cons, ih]
theorem pmk_get {xs : List TPoint} {i : Nat} {x : TPoint} (h : xs[i]? = some x) : ∀ k, (pmk k xs)[i]? = some (mkP (pnx k (xs.take i)) x) := by
  induction xs generalizing i with
  | nil => simp at h
  | cons y ys ih =>
    intro k
    cases i with
    | zero => simp at h; subst h; simp [pmk, pnx]
    | succ i => simp at h; simp only [pmk, List.getElem?_cons_succ, List.take_succ_cons]; rw [ih h, pnx_cons]
/-- the first i points are filled -/
def pmi (k : Int) (xs : List TPoint) (i : Nat) : List TPoint := pmk k (xs.take i) ++ xs.drop i
theorem pmi_get {k : Int} {xs : List TPoint} {i : Nat} (hi : i < xs.length) : (pmi k xs i)[i]? = xs[i]? := by
  unfold pmi
  have hl : (pmk k (xs.take i)).length = i := by rw [pmk_len, List.length_take]; omega
  rw [List.getElem?_append_right (by omega), hl, Nat.sub_self, List.getElem?_drop, Nat.add_zero]
theorem pmi_set {k : Int} {xs : List TPoint} {i : Nat} {x : TPoint} (h : xs[i]? = some x) : (pmi k xs i).set i (mkP (pnx k (xs.take i)) x) = pmi k xs (i + 1) := by
  have hi := (List.getElem?_eq_some_iff.1 h).1
  have hl : (pmk k (xs.take i)).length = i := by rw [pmk_len, List.length_take]; omega
  unfold pmi
  rw [take_step h, pmk_snoc, List.set_append_right _ _ (by omega), hl, Nat.sub_self, List.drop_eq_getElem_cons hi, List.set_cons_zero, List.append_assoc]
  rfl
theorem pmi_all {k : Int} {xs : List TPoint} {i : Nat} (h : xs.length ≤ i) : pmi k xs i = pmk k xs := by
  unfold pmi; rw [List.take_of_length_le h, List.drop_eq_nil_of_le h, List.append_nil]

structure SlD where
  A : Option Addr
  n : Nat
  c : Nat
  s : List Nat
theorem nd4 {b : Nat} {s1 s2 s4 s5 : List Nat} (h : (b :: (s1 ++ (s2 ++ (s4 ++ s5)))).Nodup) : (b ∉ s1 ∧ b ∉ s2 ∧ b ∉ s4 ∧ b ∉ s5) ∧ ((∀ g ∈ s1, g ∉ s2 ∧ g ∉ s4 ∧ g ∉ s5) ∧ (∀ g ∈ s2, g ∉ s1 ∧ g ∉ s4 ∧ g ∉ s5) ∧ (∀ g ∈ s4, g ∉ s1 ∧ g ∉ s2 ∧ g ∉ s5) ∧ (∀ g ∈ s5, g ∉ s1 ∧ g ∉ s2 ∧ g ∉ s4)) := by
  simp only [List.nodup_cons, List.mem_append, not_or] at h
  obtain ⟨hb, h⟩ := h
  obtain ⟨_, h, a1⟩ := List.nodup_append.1 h
  obtain ⟨_, h, a2⟩ := List.nodup_append.1 h
  obtain ⟨_, _, a4⟩ := List.nodup_append.1 h
  refine ⟨hb, fun g hg => ⟨fun h2 => a1 g hg g (by simp [h2]) rfl, fun h2 => a1 g hg g (by simp [h2]) rfl, fun h2 => a1 g hg g (by simp [h2]) rfl⟩,
    fun g hg => ⟨fun h2 => a1 g h2 g (by simp [hg]) rfl, fun h2 => a2 g hg g (by simp [h2]) rfl, fun h2 => a2 g hg g (by simp [h2]) rfl⟩,
    fun g hg => ⟨fun h2 => a1 g h2 g (by simp [hg]) rfl, fun h2 => a2 g h2 g (by simp [hg]) rfl, fun h2 => a4 g hg g h2 rfl⟩,
    fun g hg => ⟨fun h2 => a1 g h2 g (by simp [hg]) rfl, fun h2 => a2 g h2 g (by simp [hg]) rfl, fun h2 => a4 g h2 g hg rfl⟩⟩

/-- a point in the cells of block b, on the way from world w0 -/
structure PtAt (w0 u : World) (b off lo : Nat) (v0 v3 : Bool) (d1 d2 d4 d5 : SlD) (l1 l2 l4 l5 : List Int) : Prop where
  fr : Free u (b :: (d1.s ++ (d2.s ++ (d4.s ++ d5.s))))
  tn : Turns w0 u (b :: (d1.s ++ (d2.s ++ (d4.s ++ d5.s))))
  oc : ∀ j, (j < lo ∨ lo + 6 ≤ j) → u.cell? ⟨b, off + j, none⟩ = w0.cell? ⟨b, off + j, none⟩
  k0 : u.cell? ⟨b, off + lo, none⟩ = some (.bool v0)
  k3 : u.cell? ⟨b, off + lo + 3, none⟩ = some (.bool v3)
  k1 : u.cell? ⟨b, off + lo + 1, none⟩ = some (.slice d1.A d1.n d1.c)
  h1 : Sl u d1.A d1.n d1.c l1 d1.s
  k2 : u.cell? ⟨b, off + lo + 2, none⟩ = some (.slice d2.A d2.n d2.c)
  h2 : Sl u d2.A d2.n d2.c l2 d2.s
  k4 : u.cell? ⟨b, off + lo + 4, none⟩ = some (.slice d4.A d4.n d4.c)
  h4 : Sl u d4.A d4.n d4.c l4 d4.s
  k5 : u.cell? ⟨b, off + lo + 5, none⟩ = some (.slice d5.A d5.n d5.c)
  h5 : Sl u d5.A d5.n d5.c l5 d5.s
section
variable {w0 u u' : World} {b off lo : Nat} {v0 v3 : Bool} {d1 d2 d4 d5 : SlD} {l1 l2 l4 l5 l' : List Int}
theorem Free.sub {w : World} {a c : List Nat} (h : Free w c) (hn : a.Nodup) (hm : ∀ g ∈ a, g ∈ c) : Free w a := ⟨hn, fun g hg => h.2 g (hm g hg)⟩
theorem nd_parts {b : Nat} {s1 s2 s4 s5 : List Nat} (h : (b :: (s1 ++ (s2 ++ (s4 ++ s5)))).Nodup) : s1.Nodup ∧ s2.Nodup ∧ s4.Nodup ∧ s5.Nodup := by
  have h := (List.nodup_cons.1 h).2
  obtain ⟨h1, h, _⟩ := List.nodup_append.1 h
  obtain ⟨h2, h, _⟩ := List.nodup_append.1 h
  obtain ⟨h4, h5, _⟩ := List.nodup_append.1 h
  exact ⟨h1, h2, h4, h5⟩
theorem PtAt.f1 (h : PtAt w0 u b off lo v0 v3 d1 d2 d4 d5 l1 l2 l4 l5) : Free u d1.s := Free.sub h.fr (nd_parts h.fr.1).1 (fun g hg => by simp [hg])
theorem PtAt.f2 (h : PtAt w0 u b off lo v0 v3 d1 d2 d4 d5 l1 l2 l4 l5) : Free u d2.s := Free.sub h.fr (nd_parts h.fr.1).2.1 (fun g hg => by simp [hg])
theorem PtAt.f4 (h : PtAt w0 u b off lo v0 v3 d1 d2 d4 d5 l1 l2 l4 l5) : Free u d4.s := Free.sub h.fr (nd_parts h.fr.1).2.2.1 (fun g hg => by simp [hg])
theorem PtAt.f5 (h : PtAt w0 u b off lo v0 v3 d1 d2 d4 d5 l1 l2 l4 l5) : Free u d5.s := Free.sub h.fr (nd_parts h.fr.1).2.2.2 (fun g hg => by simp [hg])
theorem PtAt.lt (h : PtAt w0 u b off lo v0 v3 d1 d2 d4 d5 l1 l2 l4 l5) : b < u.heap.size := by obtain ⟨c, t, e⟩ := h.fr.2 b (by simp); exact lt_of_get e
theorem PtAt.set0 (h : PtAt w0 u b off lo v0 v3 d1 d2 d4 d5 l1 l2 l4 l5) (v : Bool) : PtAt w0 (u.setCell ⟨b, off + lo, none⟩ (.bool v)) b off lo v v3 d1 d2 d4 d5 l1 l2 l4 l5 := by
  have nd := (nd4 h.fr.1).1
  have kp : ∀ g, g ≠ b → (u.setCell ⟨b, off + lo, none⟩ (.bool v)).heap[g]? = u.heap[g]? := fun g hg => Below.heap_setCell u ⟨b, off + lo, none⟩ (.bool v) g hg
  have ot : ∀ j, j ≠ off + lo → (u.setCell ⟨b, off + lo, none⟩ (.bool v)).cell? ⟨b, j, none⟩ = u.cell? ⟨b, j, none⟩ := fun j hj => World.cell?_setCell_other u ⟨b, off + lo, none⟩ ⟨b, j, none⟩ (.bool v) (by intro e; injection e with _ e _; exact hj e.symm)
  refine ⟨h.fr.setCell _ _, h.tn.set (by simp) _, fun j hj => (ot _ (by omega)).trans (h.oc j hj), ?_, ?_, (ot _ (by omega)).trans h.k1, h.h1.keep fun g hg => kp g (fun e => nd.1 (e ▸ hg)), (ot _ (by omega)).trans h.k2, h.h2.keep fun g hg => kp g (fun e => nd.2.1 (e ▸ hg)), (ot _ (by omega)).trans h.k4, h.h4.keep fun g hg => kp g (fun e => nd.2.2.1 (e ▸ hg)), (ot _ (by omega)).trans h.k5, h.h5.keep fun g hg => kp g (fun e => nd.2.2.2 (e ▸ hg))⟩
  · exact World.cell?_setCell_same u _ _ h.k0
  · exact (ot _ (by omega)).trans h.k3
theorem PtAt.set3 (h : PtAt w0 u b off lo v0 v3 d1 d2 d4 d5 l1 l2 l4 l5) (v : Bool) : PtAt w0 (u.setCell ⟨b, off + lo + 3, none⟩ (.bool v)) b off lo v0 v d1 d2 d4 d5 l1 l2 l4 l5 := by
  have nd := (nd4 h.fr.1).1
  have kp : ∀ g, g ≠ b → (u.setCell ⟨b, off + lo + 3, none⟩ (.bool v)).heap[g]? = u.heap[g]? := fun g hg => Below.heap_setCell u ⟨b, off + lo + 3, none⟩ (.bool v) g hg
  have ot : ∀ j, j ≠ off + lo + 3 → (u.setCell ⟨b, off + lo + 3, none⟩ (.bool v)).cell? ⟨b, j, none⟩ = u.cell? ⟨b, j, none⟩ := fun j hj => World.cell?_setCell_other u ⟨b, off + lo + 3, none⟩ ⟨b, j, none⟩ (.bool v) (by intro e; injection e with _ e _; exact hj e.symm)
  refine ⟨h.fr.setCell _ _, h.tn.set (by simp) _, fun j hj => (ot _ (by omega)).trans (h.oc j hj), ?_, ?_, (ot _ (by omega)).trans h.k1, h.h1.keep fun g hg => kp g (fun e => nd.1 (e ▸ hg)), (ot _ (by omega)).trans h.k2, h.h2.keep fun g hg => kp g (fun e => nd.2.1 (e ▸ hg)), (ot _ (by omega)).trans h.k4, h.h4.keep fun g hg => kp g (fun e => nd.2.2.1 (e ▸ hg)), (ot _ (by omega)).trans h.k5, h.h5.keep fun g hg => kp g (fun e => nd.2.2.2 (e ▸ hg))⟩
  · exact (ot _ (by omega)).trans h.k0
  · exact World.cell?_setCell_same u _ _ h.k3
theorem PtAt.touch1 (h : PtAt w0 u b off lo v0 v3 d1 d2 d4 d5 l1 l2 l4 l5) (ht : Turns u u' d1.s) (hs : Sl u' d1.A d1.n d1.c l' d1.s) (hf : Free u' d1.s) : PtAt w0 u' b off lo v0 v3 d1 d2 d4 d5 l' l2 l4 l5 := by
  obtain ⟨nd, ap⟩ := nd4 h.fr.1
  have cl : ∀ o, u'.cell? ⟨b, o, none⟩ = u.cell? ⟨b, o, none⟩ := fun o => ht.cell h.lt nd.1 o
  refine ⟨⟨h.fr.1, fun g hg => ?_⟩, h.tn.trans (ht.mono fun g hg => by simp [hg]), fun i hi => (cl _).trans (h.oc i hi), (cl _).trans h.k0, (cl _).trans h.k3, (cl _).trans h.k1, hs, (cl _).trans h.k2, h.h2.touch ht (fun g hg => (ap.2.1 g hg).1), (cl _).trans h.k4, h.h4.touch ht (fun g hg => (ap.2.2.1 g hg).1), (cl _).trans h.k5, h.h5.touch ht (fun g hg => (ap.2.2.2 g hg).1)⟩
  by_cases hj : g ∈ d1.s
  · exact hf.2 g hj
  · obtain ⟨c, t, e⟩ := h.fr.2 g hg
    exact ⟨c, t, (ht.out g (lt_of_get e) hj).trans e⟩
theorem PtAt.touch2 (h : PtAt w0 u b off lo v0 v3 d1 d2 d4 d5 l1 l2 l4 l5) (ht : Turns u u' d2.s) (hs : Sl u' d2.A d2.n d2.c l' d2.s) (hf : Free u' d2.s) : PtAt w0 u' b off lo v0 v3 d1 d2 d4 d5 l1 l' l4 l5 := by
  obtain ⟨nd, ap⟩ := nd4 h.fr.1
  have cl : ∀ o, u'.cell? ⟨b, o, none⟩ = u.cell? ⟨b, o, none⟩ := fun o => ht.cell h.lt nd.2.1 o
  refine ⟨⟨h.fr.1, fun g hg => ?_⟩, h.tn.trans (ht.mono fun g hg => by simp [hg]), fun i hi => (cl _).trans (h.oc i hi), (cl _).trans h.k0, (cl _).trans h.k3, (cl _).trans h.k1, h.h1.touch ht (fun g hg => (ap.1 g hg).1), (cl _).trans h.k2, hs, (cl _).trans h.k4, h.h4.touch ht (fun g hg => (ap.2.2.1 g hg).2.1), (cl _).trans h.k5, h.h5.touch ht (fun g hg => (ap.2.2.2 g hg).2.1)⟩
  by_cases hj : g ∈ d2.s
  · exact hf.2 g hj
  · obtain ⟨c, t, e⟩ := h.fr.2 g hg
    exact ⟨c, t, (ht.out g (lt_of_get e) hj).trans e⟩
theorem PtAt.touch4 (h : PtAt w0 u b off lo v0 v3 d1 d2 d4 d5 l1 l2 l4 l5) (ht : Turns u u' d4.s) (hs : Sl u' d4.A d4.n d4.c l' d4.s) (hf : Free u' d4.s) : PtAt w0 u' b off lo v0 v3 d1 d2 d4 d5 l1 l2 l' l5 := by
  obtain ⟨nd, ap⟩ := nd4 h.fr.1
  have cl : ∀ o, u'.cell? ⟨b, o, none⟩ = u.cell? ⟨b, o, none⟩ := fun o => ht.cell h.lt nd.2.2.1 o
  refine ⟨⟨h.fr.1, fun g hg => ?_⟩, h.tn.trans (ht.mono fun g hg => by simp [hg]), fun i hi => (cl _).trans (h.oc i hi), (cl _).trans h.k0, (cl _).trans h.k3, (cl _).trans h.k1, h.h1.touch ht (fun g hg => (ap.1 g hg).2.1), (cl _).trans h.k2, h.h2.touch ht (fun g hg => (ap.2.1 g hg).2.1), (cl _).trans h.k4, hs, (cl _).trans h.k5, h.h5.touch ht (fun g hg => (ap.2.2.2 g hg).2.2)⟩
  by_cases hj : g ∈ d4.s
  · exact hf.2 g hj
  · obtain ⟨c, t, e⟩ := h.fr.2 g hg
    exact ⟨c, t, (ht.out g (lt_of_get e) hj).trans e⟩
theorem PtAt.touch5 (h : PtAt w0 u b off lo v0 v3 d1 d2 d4 d5 l1 l2 l4 l5) (ht : Turns u u' d5.s) (hs : Sl u' d5.A d5.n d5.c l' d5.s) (hf : Free u' d5.s) : PtAt w0 u' b off lo v0 v3 d1 d2 d4 d5 l1 l2 l4 l' := by
  obtain ⟨nd, ap⟩ := nd4 h.fr.1
  have cl : ∀ o, u'.cell? ⟨b, o, none⟩ = u.cell? ⟨b, o, none⟩ := fun o => ht.cell h.lt nd.2.2.2 o
  refine ⟨⟨h.fr.1, fun g hg => ?_⟩, h.tn.trans (ht.mono fun g hg => by simp [hg]), fun i hi => (cl _).trans (h.oc i hi), (cl _).trans h.k0, (cl _).trans h.k3, (cl _).trans h.k1, h.h1.touch ht (fun g hg => (ap.1 g hg).2.2), (cl _).trans h.k2, h.h2.touch ht (fun g hg => (ap.2.1 g hg).2.2), (cl _).trans h.k4, h.h4.touch ht (fun g hg => (ap.2.2.1 g hg).2.2), (cl _).trans h.k5, hs⟩
  by_cases hj : g ∈ d5.s
  · exact hf.2 g hj
  · obtain ⟨c, t, e⟩ := h.fr.2 g hg
    exact ⟨c, t, (ht.out g (lt_of_get e) hj).trans e⟩
end
end Go.Proofs.YthlpjpcnpcclhaaGreat.X
