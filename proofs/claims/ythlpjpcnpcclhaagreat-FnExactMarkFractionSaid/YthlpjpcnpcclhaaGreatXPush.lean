/- An append whose new row is the old block or a new one; what a loop leaves as it was. -/
import Derived.Test.YthlpjpcnpcclhaaGreatXFracD
namespace Go
section
variable {P : Program} (w : World)
theorem run_push (base : Nat) (t ty e : TypeId) (i : TypeInfo) (z : Value) (size bytes : Nat) (ht : P.underlying t = some (.slice e)) (hi : P.info? e = some i) (hz : i.zero = some z)
    (hsize : i.size = size) (hby : i.bytes = bytes) (hzs : z.cells.size = size) (hsz : 0 < size)
    (g n cap : Nat) (xs : List Value) (hown : w.ownsRow base e size (.slice (some ⟨g, 0, none⟩) n cap) n xs)
    (a : Addr) (m c : Nat) (news : List Value) (hl : news.length = m * size) (hnews : ∀ j u, news[j]? = some u → w.cell? (a.add j) = some u) (h1 : ∀ u ∈ news, u.oneCell' = true)
    (h63 : n + m ≤ maxLen) (hbytes : (n + m) * bytes ≤ 140737488355328) (hbase : base ≤ w.heap.size) :
    ∃ g' cap' w', (Builtin.append_ #[t, t] ty #[.slice (some ⟨g, 0, none⟩) n cap, .slice (some a) m c]).run P w = .ok (.slice (some ⟨g', 0, none⟩) (n + m) cap') w' ∧ w'.ownsRow base e size (.slice (some ⟨g', 0, none⟩) (n + m) cap') (n + m) (xs ++ news) ∧ w.grownBy w' (some g) ∧ (g' = g ∨ g' = w.heap.size) := by
  obtain ⟨v', w', hr, h2, h3, _⟩ := run_append_own (P := P) w base t ty e i z size bytes ht hi hz hsize hby hzs hsz _ n xs hown a m c news hl hnews h1 h63 hbytes hbase
  by_cases hroom : n + m ≤ cap
  · rcases hown.2 with ⟨h, _⟩ | ⟨g0, cap0, cur, hv, hb, hg, hnc, hcm, hcs, htake⟩
    · cases h
    · cases hv
      have hfit : n * i.size + news.length ≤ cur.size := by rw [hsize, hl, hcs, ← Nat.add_mul]; exact Nat.mul_le_mul_right _ hroom
      have hr2 := run_append_room (P := P) w t ty e i ht hi g n cap cur hg a m c news (by rw [hsize]; exact hl) hnews h1 hroom hfit
      rw [hr] at hr2
      cases hr2
      exact ⟨_, _, _, hr, h2, h3, .inl rfl⟩
  · have holds : ∀ j u, xs[j]? = some u → w.cell? ((⟨g, 0, none⟩ : Addr).add j) = some u := hown.cells (g := g) rfl
    have hr2 := run_append_grow (P := P) w t ty e i z ht hi hz ⟨g, 0, none⟩ n cap xs (by rw [hsize]; exact hown.1) holds a m c news (by rw [hsize]; exact hl) hnews (by omega) (by unfold maxLen at h63; omega) (growslice_fits (by omega) (by rw [hby]; exact hbytes))
    rw [hr] at hr2
    cases hr2
    exact ⟨_, _, _, hr, h2, h3, .inr rfl⟩

theorem wpList_push {w : World} {ops : Array Oper} {rest : List Oper} {o : Oper} {a : Act} {Q : Exit → Act → World → Prop} (hgd : o.guard = none) (s x : Operand) (t : TypeId)
    (ho : o.op = .call { callee := .builtin .append, args := #[s, x], argTypes := #[t, t] })
    (base : Nat) (e : TypeId) (i : TypeInfo) (z : Value) (size bytes : Nat) (ht : P.underlying t = some (.slice e)) (hi : P.info? e = some i) (hz : i.zero = some z)
    (hsize : i.size = size) (hby : i.bytes = bytes) (hzs : z.cells.size = size) (hsz : 0 < size)
    (g n cap : Nat) (xs : List Value) (hs : a.eval s = .slice (some ⟨g, 0, none⟩) n cap) (hown : w.ownsRow base e size (.slice (some ⟨g, 0, none⟩) n cap) n xs)
    (ad : Addr) (m c : Nat) (news : List Value) (hx : a.eval x = .slice (some ad) m c) (hl : news.length = m * size) (hnews : ∀ j u, news[j]? = some u → w.cell? (ad.add j) = some u) (h1 : ∀ u ∈ news, u.oneCell' = true)
    (h63 : n + m ≤ maxLen) (hbytes : (n + m) * bytes ≤ 140737488355328) (hbase : base ≤ w.heap.size)
    (h : ∀ g' cap' w', w'.ownsRow base e size (.slice (some ⟨g', 0, none⟩) (n + m) cap') (n + m) (xs ++ news) → w.grownBy w' (some g) → (g' = g ∨ g' = w.heap.size) → wpList P ops Q rest (a.put o.dst (.slice (some ⟨g', 0, none⟩) (n + m) cap')) w') : wpList P ops Q (o :: rest) a w := by
  refine wpList_plain hgd fun _ hK => ?_
  obtain ⟨g', cap', w', hr, h2, h3, h4⟩ := run_push (P := P) w base t o.type e i z size bytes ht hi hz hsize hby hzs hsz g n cap xs hown ad m c news hl hnews h1 h63 hbytes hbase
  unfold Oper.wp execOp
  simp only [ho, resolve, invoke, builtin, Sem.run_bind, Sem.run_pure, Result.andThen_ok, List.map_toArray, List.map_cons, List.map_nil, hs, hx, hr]
  exact hK _ _ (h g' cap' w' h2 h3 h4)
end
end Go
namespace Go.Proofs.YthlpjpcnpcclhaaGreat.X
open Go.RowKit Go.XB Go.XN Go.XS

/-- all blocks of w stand as they were, but those in ex -/
def Keeps (w w' : World) (ex : List Nat) : Prop := w.heap.size ≤ w'.heap.size ∧ ∀ g, g < w.heap.size → g ∉ ex → w'.heap[g]? = w.heap[g]?
theorem Keeps.refl (w : World) (ex : List Nat) : Keeps w w ex := ⟨Nat.le_refl _, fun _ _ _ => rfl⟩
theorem Keeps.below {w w1 w2 : World} {ex : List Nat} {b : Nat} (h : Keeps w w1 ex) (hb : Below b w1 w2) (hl : w.heap.size ≤ b) : Keeps w w2 ex :=
  ⟨Nat.le_trans h.1 hb.size, fun g hg he => (hb.block g (by omega)).trans (h.2 g hg he)⟩
theorem Keeps.next {w w1 w2 : World} {ex : List Nat} (h : Keeps w w1 ex) (hb : Below w1.heap.size w1 w2) : Keeps w w2 ex := h.below hb h.1
theorem Keeps.grown {w w1 w2 : World} {ex : List Nat} {g : Nat} (h : Keeps w w1 ex) (hg : w1.grownBy w2 (some g)) (he : g ∈ ex ∨ w.heap.size ≤ g) : Keeps w w2 ex :=
  ⟨Nat.le_trans h.1 hg.size, fun k hk hx => (hg.block k (Nat.lt_of_lt_of_le hk h.1) (by
    intro e; injection e with e; subst e
    rcases he with he | he
    · exact hx he
    · omega)).trans (h.2 k hk hx)⟩
theorem Keeps.set {w w1 : World} {ex : List Nat} (h : Keeps w w1 ex) (p : Addr) (v : Value) (hp : p.block ∈ ex ∨ w.heap.size ≤ p.block) : Keeps w (w1.setCell p v) ex :=
  ⟨by simpa using h.1, fun k hk hx => (Below.heap_setCell w1 p v k (by
    intro e; subst e
    rcases hp with hp | hp
    · exact hx hp
    · omega)).trans (h.2 k hk hx)⟩
theorem Keeps.sl {α : Type} [Dat α] {w w' : World} {ex : List Nat} (h : Keeps w w' ex) {A : Option Addr} {n c : Nat} {xs : List α} {bs : List Nat} (hs : Sl w A n c xs bs) (hd : ∀ b ∈ bs, b ∉ ex) : Sl w' A n c xs bs :=
  hs.keep fun g hg => h.2 g (hs.lt g hg) (hd g hg)
theorem Keeps.agg {α : Type} [Dat α] {w w' : World} {ex : List Nat} (h : Keeps w w' ex) {v : Value} {x : α} {bs : List Nat} (hs : Agg w v x bs) (hd : ∀ b ∈ bs, b ∉ ex) : Agg w' v x bs :=
  hs.keep fun g hg => h.2 g (hs.lt g hg) (hd g hg)
theorem Keeps.cell {w w' : World} {ex : List Nat} (h : Keeps w w' ex) {p : Addr} (hp : p.block < w.heap.size) (hd : p.block ∉ ex) : w'.cell? p = w.cell? p :=
  World.cell?_of_block (h.2 p.block hp hd)
theorem Row.other {w : World} {base g n cap : Nat} {us : List Int} (h : Row w base g n cap us) (p : Addr) (v : Value) (hp : p.block ≠ g) : Row (w.setCell p v) base g n cap us :=
  World.ownsRow.kept (row := some p.block) h ⟨rfl, rfl, rfl, by simp, fun k _ hne => Below.heap_setCell w p v k (fun e => hne (by rw [e]))⟩ (by simp [Value.ownBlock]; exact fun e => hp e.symm)
theorem Row.lt {w : World} {base g n cap : Nat} {us : List Int} (h : Row w base g n cap us) : g < w.heap.size := by
  rcases row_cases h with ⟨h, _⟩ | ⟨g2, cap2, h, h2, h3, _⟩
  · cases h
  · injection h with h _ _; injection h with h; injection h with h _ _; rw [h]; exact h3
end Go.Proofs.YthlpjpcnpcclhaaGreat.X
