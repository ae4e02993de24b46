/- Stable sorting by blocks and symmetric merges: the plain part. No program in sight. -/
namespace Go.XS
variable {α : Type} {le : α → α → Bool}

/-- a linear order, as a Bool -/
structure LinOrd (le : α → α → Bool) : Prop where
  trans : ∀ a b c, le a b = true → le b c = true → le a c = true
  total : ∀ a b, (le a b || le b a) = true
  anti : ∀ a b, le a b = true → le b a = true → a = b

def Srt (le : α → α → Bool) (l : List α) : Prop := l.Pairwise (fun a b => le a b = true)

theorem LinOrd.refl (h : LinOrd le) (a : α) : le a a = true := by have := h.total a a; simpa using this
theorem sort_eq (h : LinOrd le) {l m : List α} (hp : m.Perm l) (hs : Srt le m) : l.mergeSort le = m :=
  List.Perm.eq_of_pairwise (fun a b _ _ => h.anti a b) (List.pairwise_mergeSort h.trans h.total l) hs ((List.mergeSort_perm l le).trans hp.symm)
theorem sort_srt (h : LinOrd le) (l : List α) : Srt le (l.mergeSort le) := List.pairwise_mergeSort h.trans h.total l
theorem sort_perm_eq (h : LinOrd le) {l m : List α} (hp : m.Perm l) : m.mergeSort le = l.mergeSort le :=
  sort_eq h ((List.mergeSort_perm l le).trans hp.symm) (sort_srt h l)

theorem srt_get (h : LinOrd le) {l : List α} (hs : Srt le l) {i j : Nat} {x y : α} (hx : l[i]? = some x) (hy : l[j]? = some y) (hij : i ≤ j) : le x y = true := by
  obtain ⟨h1, e1⟩ := List.getElem?_eq_some_iff.1 hx
  obtain ⟨h2, e2⟩ := List.getElem?_eq_some_iff.1 hy
  rcases Nat.lt_or_ge i j with h3 | h3
  · have := List.pairwise_iff_getElem.1 hs i j h1 h2 h3; rwa [e1, e2] at this
  · have : i = j := by omega
    subst this
    rw [hx] at hy; cases hy; exact h.refl x

/-- two sorted lists of which all of the first is below all of the second -/
theorem srt_append {l m : List α} (h1 : Srt le l) (h2 : Srt le m) (h : ∀ x ∈ l, ∀ y ∈ m, le x y = true) : Srt le (l ++ m) := List.pairwise_append.2 ⟨h1, h2, h⟩
theorem srt_take {l : List α} (h : Srt le l) (i : Nat) : Srt le (l.take i) := h.sublist (List.take_sublist i l)
theorem srt_drop {l : List α} (h : Srt le l) (i : Nat) : Srt le (l.drop i) := h.sublist (List.drop_sublist i l)

theorem mem_take_get {l : List α} {i : Nat} {x : α} (h : x ∈ l.take i) : ∃ k, k < i ∧ l[k]? = some x := by
  obtain ⟨k, hk⟩ := List.mem_iff_getElem?.1 h
  rw [List.getElem?_take] at hk
  split at hk
  · exact ⟨k, by assumption, hk⟩
  · cases hk
theorem mem_drop_get {l : List α} {i : Nat} {x : α} (h : x ∈ l.drop i) : ∃ k, i ≤ k ∧ l[k]? = some x := by
  obtain ⟨k, hk⟩ := List.mem_iff_getElem?.1 h
  rw [List.getElem?_drop] at hk
  exact ⟨i + k, by omega, hk⟩

/-- the step of the symmetric merge -/
theorem sym_split (h : LinOrd le) {L R : List α} (hL : Srt le L) (hR : Srt le R) {i j : Nat}
    (h1 : ∀ x y, L[i]? = some x → 0 < j → R[j - 1]? = some y → le y x = true)
    (h2 : ∀ x y, 0 < i → L[i - 1]? = some x → R[j]? = some y → le x y = true) (hi : i ≤ L.length) (hj : j ≤ R.length) :
    (L ++ R).mergeSort le = (L.take i ++ R.take j).mergeSort le ++ (L.drop i ++ R.drop j).mergeSort le := by
  apply sort_eq h
  · refine ((List.mergeSort_perm _ _).append (List.mergeSort_perm _ _)).trans ?_
    have e : L ++ R = (L.take i ++ L.drop i) ++ (R.take j ++ R.drop j) := by simp
    rw [e]
    simp only [List.append_assoc]
    refine List.Perm.append_left _ ?_
    rw [← List.append_assoc, ← List.append_assoc]
    exact List.Perm.append_right _ List.perm_append_comm
  · refine srt_append (sort_srt h _) (sort_srt h _) fun x hx y hy => ?_
    rw [List.mem_mergeSort] at hx hy
    rcases List.mem_append.1 hx with hx | hx <;> rcases List.mem_append.1 hy with hy | hy <;> obtain ⟨a, ha, ga⟩ := mem_take_get hx <;> obtain ⟨b, hb, gb⟩ := mem_drop_get hy
    · exact srt_get h hL ga gb (by omega)
    · have hb' := (List.getElem?_eq_some_iff.1 gb).1
      have e1 : L[i - 1]? = some (L[i - 1]'(by omega)) := List.getElem?_eq_getElem (by omega)
      have e2 : R[j]? = some (R[j]'(by omega)) := List.getElem?_eq_getElem (by omega)
      exact h.trans _ _ _ (srt_get h hL ga e1 (by omega)) (h.trans _ _ _ (h2 _ _ (by omega) e1 e2) (srt_get h hR e2 gb hb))
    · have hb' := (List.getElem?_eq_some_iff.1 gb).1
      have e1 : R[j - 1]? = some (R[j - 1]'(by omega)) := List.getElem?_eq_getElem (by omega)
      have e2 : L[i]? = some (L[i]'(by omega)) := List.getElem?_eq_getElem (by omega)
      exact h.trans _ _ _ (srt_get h hR ga e1 (by omega)) (h.trans _ _ _ (h1 _ _ e2 (by omega) e1) (srt_get h hL e2 gb hb))
    · exact srt_get h hR ga gb (by omega)

/-- one element is put into a sorted list -/
theorem sort_insert (h : LinOrd le) {R : List α} (hR : Srt le R) (x : α) {j : Nat} (h1 : ∀ y, 0 < j → R[j - 1]? = some y → le y x = true) (h2 : ∀ y, R[j]? = some y → le x y = true) (hj : j ≤ R.length) :
    (x :: R).mergeSort le = R.take j ++ x :: R.drop j := by
  apply sort_eq h
  · refine List.Perm.trans List.perm_middle ?_
    simp
  · refine List.pairwise_append.2 ⟨srt_take hR j, List.pairwise_cons.2 ⟨fun y hy => ?_, srt_drop hR j⟩, fun y hy z hz => ?_⟩
    · obtain ⟨b, hb, gb⟩ := mem_drop_get hy
      have hb' := (List.getElem?_eq_some_iff.1 gb).1
      have e2 : R[j]? = some (R[j]'(by omega)) := List.getElem?_eq_getElem (by omega)
      exact h.trans _ _ _ (h2 _ e2) (srt_get h hR e2 gb hb)
    · obtain ⟨a, ha, ga⟩ := mem_take_get hy
      have e1 : R[j - 1]? = some (R[j - 1]'(by omega)) := List.getElem?_eq_getElem (by omega)
      have hyx := h.trans _ _ _ (srt_get h hR ga e1 (by omega)) (h1 _ (by omega) e1)
      rcases List.mem_cons.1 hz with rfl | hz
      · exact hyx
      · obtain ⟨b, hb, gb⟩ := mem_drop_get hz
        exact srt_get h hR ga gb (by omega)

theorem sort_snoc (h : LinOrd le) {L : List α} (y : α) : (L ++ [y]).mergeSort le = (y :: L).mergeSort le := sort_perm_eq h List.perm_append_comm

/-- swapping two places -/
theorem set_swap {P M Q : List α} {x y : α} : ((P ++ x :: (M ++ y :: Q)).set P.length y).set (P.length + 1 + M.length) x = P ++ y :: (M ++ x :: Q) := by
  rw [List.set_append_right _ _ (Nat.le_refl _), Nat.sub_self, List.set_cons_zero, List.set_append_right _ _ (by omega)]
  rw [show P.length + 1 + M.length - P.length = M.length + 1 by omega, List.set_cons_succ, List.set_append_right _ _ (Nat.le_refl _), Nat.sub_self, List.set_cons_zero]
theorem get_mid {P Q : List α} {x : α} : (P ++ x :: Q)[P.length]? = some x := by simp
theorem get_mid2 {P M Q : List α} {x y : α} : (P ++ x :: (M ++ y :: Q))[P.length + 1 + M.length]? = some y := by
  rw [List.getElem?_append_right (by omega), show P.length + 1 + M.length - P.length = M.length + 1 by omega, List.getElem?_cons_succ]; simp

/-- sorted, block for block -/
def sb (le : α → α → Bool) (B : Nat) : Nat → List α → List α
  | 0, _ => []
  | f + 1, l => if l = [] then [] else (l.take B).mergeSort le ++ sb le B f (l.drop B)

theorem sb_nil (B f : Nat) : sb le B f [] = [] := by cases f <;> simp [sb]
theorem sb_fuel {B : Nat} (hB : 0 < B) : ∀ (f g : Nat) (l : List α), l.length ≤ f → l.length ≤ g → sb le B f l = sb le B g l
  | 0, g, l, hf, _ => by
    have : l = [] := List.eq_nil_of_length_eq_zero (by omega)
    subst this; rw [sb_nil, sb_nil]
  | f + 1, 0, l, _, hg => by
    have : l = [] := List.eq_nil_of_length_eq_zero (by omega)
    subst this; rw [sb_nil, sb_nil]
  | f + 1, g + 1, l, hf, hg => by
    unfold sb
    split
    · rfl
    · rename_i hl
      have : 0 < l.length := List.length_pos_iff.2 hl
      rw [sb_fuel hB f g (l.drop B) (by simp; omega) (by simp; omega)]
/-- sorted, block for block (blocks of B) -/
def blocks (le : α → α → Bool) (B : Nat) (l : List α) : List α := sb le B l.length l

theorem blocks_nil (B : Nat) : blocks le B ([] : List α) = [] := rfl
theorem blocks_step {B : Nat} (hB : 0 < B) {l : List α} : blocks le B l = (l.take B).mergeSort le ++ blocks le B (l.drop B) := by
  unfold blocks
  cases hl : l.length with
  | zero =>
    have : l = [] := List.eq_nil_of_length_eq_zero hl
    subst this; simp [sb]
  | succ n =>
    rw [sb, if_neg (by intro e; rw [e] at hl; cases hl), sb_fuel hB n (l.drop B).length _ (by simp; omega) (Nat.le_refl _)]
theorem blocks_length {B : Nat} (hB : 0 < B) : ∀ (n : Nat) (l : List α), l.length = n → (blocks le B l).length = n := by
  intro n
  induction n using Nat.strongRecOn with
  | _ n ih =>
    intro l hl
    rcases Nat.eq_zero_or_pos n with h0 | h0
    · subst h0; rw [List.eq_nil_of_length_eq_zero hl]; rfl
    · rw [blocks_step hB, List.length_append, List.length_mergeSort, ih (l.drop B).length (by simp; omega) _ rfl]
      simp; omega
theorem blocks_one {B : Nat} (hB : 0 < B) {l : List α} (hl : l.length ≤ B) : blocks le B l = l.mergeSort le := by
  rw [blocks_step hB, List.take_of_length_le hl, List.drop_of_length_le hl, blocks_nil, List.append_nil]
theorem blocks_append {B : Nat} (hB : 0 < B) {l m : List α} (hl : l.length % B = 0) : blocks le B (l ++ m) = blocks le B l ++ blocks le B m := by
  generalize hn : l.length = n
  induction n using Nat.strongRecOn generalizing l with
  | _ n ih =>
    rcases Nat.eq_zero_or_pos n with h0 | h0
    · subst h0; rw [List.eq_nil_of_length_eq_zero hn]; rfl
    · have hBn : B ≤ n := by
        rcases Nat.lt_or_ge n B with h | h
        · rw [hn, Nat.mod_eq_of_lt h] at hl; omega
        · exact h
      have ht : (l ++ m).take B = l.take B := List.take_append_of_le_length (by omega)
      have hd : (l ++ m).drop B = l.drop B ++ m := List.drop_append_of_le_length (by omega)
      have hlen : (l.drop B).length = n - B := by simp [hn]
      rw [blocks_step hB, ht, hd, ih (n - B) (by omega) (by
        rw [hlen]
        rw [hn] at hl
        rw [← Nat.mod_eq_sub_mod hBn]; exact hl) hlen, blocks_step hB (l := l), List.append_assoc]

/-- merging two blocks of B in one of 2 B -/
theorem sort_halves (h : LinOrd le) (l m : List α) : (l.mergeSort le ++ m.mergeSort le).mergeSort le = (l ++ m).mergeSort le :=
  sort_perm_eq h ((List.mergeSort_perm _ _).append (List.mergeSort_perm _ _))
/-- by key in descending order; equal keys in the order of the indices -/
def byKey {β : Type} (p : β → β → Bool) (key : Int → β) (i j : Int) : Bool := p (key j) (key i) && (!p (key i) (key j) || decide (i ≤ j))

theorem byKey_ord {β : Type} {p : β → β → Bool} {key : Int → β} (htr : ∀ i j k, p (key i) (key j) = true → p (key j) (key k) = true → p (key i) (key k) = true) (hto : ∀ i j, (p (key i) (key j) || p (key j) (key i)) = true) : LinOrd (byKey p key) := by
  constructor
  · intro a b c h1 h2
    unfold byKey at *
    simp only [Bool.and_eq_true, Bool.or_eq_true, Bool.not_eq_true', decide_eq_true_eq] at *
    obtain ⟨h1, h1'⟩ := h1
    obtain ⟨h2, h2'⟩ := h2
    refine ⟨htr _ _ _ h2 h1, ?_⟩
    cases hac : p (key a) (key c) with
    | false => exact .inl rfl
    | true =>
      have hab : p (key a) (key b) = true := htr _ _ _ hac h2
      have hbc : p (key b) (key c) = true := htr _ _ _ h1 hac
      rw [hab] at h1'; rw [hbc] at h2'
      right
      have e1 : a ≤ b := by simpa using h1'
      have e2 : b ≤ c := by simpa using h2'
      omega
  · intro a b
    unfold byKey
    have := hto a b
    cases h1 : p (key a) (key b) <;> cases h2 : p (key b) (key a) <;> simp_all
    omega
  · intro a b h1 h2
    unfold byKey at *
    simp only [Bool.and_eq_true, Bool.or_eq_true, Bool.not_eq_true', decide_eq_true_eq] at *
    obtain ⟨h1, h1'⟩ := h1
    obtain ⟨h2, h2'⟩ := h2
    rw [h2] at h1'; rw [h1] at h2'
    have e1 : a ≤ b := by simpa using h1'
    have e2 : b ≤ a := by simpa using h2'
    omega

/-- what a comparison of a later index (y) with an earlier one (x) tells -/
theorem byKey_less {β : Type} {p : β → β → Bool} {key : Int → β} (hto : ∀ i j, (p (key i) (key j) || p (key j) (key i)) = true) {x y : Int} (h : p (key y) (key x) = false) : byKey p key y x = true := by
  unfold byKey
  have := hto x y
  rw [h] at this ⊢
  simpa using this
theorem byKey_not {β : Type} {p : β → β → Bool} {key : Int → β} {x y : Int} (hxy : x < y) (h : p (key y) (key x) = true) : byKey p key x y = true := by
  unfold byKey
  rw [h]
  simp; right; omega

/-- fractions: n1 / d1 ≤ n2 / d2 -/
theorem cross_trans {n1 d1 n2 d2 n3 d3 : Int} (h1 : 0 < d1) (h2 : 0 < d2) (h3 : 0 < d3) (a : n1 * d2 ≤ n2 * d1) (b : n2 * d3 ≤ n3 * d2) : n1 * d3 ≤ n3 * d1 := by
  have a' := Int.mul_le_mul_of_nonneg_right a (Int.le_of_lt h3)
  have b' := Int.mul_le_mul_of_nonneg_right b (Int.le_of_lt h1)
  refine Int.le_of_mul_le_mul_right (a := d2) ?_ h2
  have e1 : n1 * d2 * d3 = n1 * d3 * d2 := by rw [Int.mul_assoc, Int.mul_comm d2, ← Int.mul_assoc]
  have e2 : n2 * d1 * d3 = n2 * d3 * d1 := by rw [Int.mul_assoc, Int.mul_comm d1, ← Int.mul_assoc]
  have e3 : n3 * d2 * d1 = n3 * d1 * d2 := by rw [Int.mul_assoc, Int.mul_comm d2, ← Int.mul_assoc]
  omega
end Go.XS
