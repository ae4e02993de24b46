/- Marking of small fractions: what the law asks (plain). -/
import Derived.Test.YtleegelljgnlpaaGreatXFracD
import Derived.Test.YtleegelljgnlpaaGreatXMarked
import Derived.Test.YtleegelljgnlpaaGreatXGreat
namespace Go.Proofs.YtleegelljgnlpaaGreat.X
open Go.RowKit Go.XB Go.XN Go.XS

theorem mk_bound {A B : Int} (hB : 0 < B) (hB2 : B ≤ 1000) (h0 : -1000000 ≤ A) (h1 : A ≤ 1000000) : ratOkB (mkR A B) = true ∧ (numv (mkR A B)).natAbs ≤ A.natAbs ∧ 0 < denv (mkR A B) ∧ denv (mkR A B) ≤ B := by
  have e := mkR_small (n := A) (d := B) hB (by omega) (by omega) (by omega)
  obtain ⟨g, a, b, hg, ha, hb, hb0, _, e1, e2⟩ := gcd_parts (A := A) hB
  rw [e1, e2] at e
  have hn : numv (mkR A B) = a := by rw [e]; exact ival_enc a
  have hd : denv (mkR A B) = b := by rw [e]; show val (dig b.toNat) = b; rw [val_dig]; omega
  have hgb : b ≤ B := by
    have : 1 * b ≤ g * b := Int.mul_le_mul_of_nonneg_right (by omega) (by omega)
    omega
  have hga : a.natAbs ≤ A.natAbs := by
    rw [ha, Int.natAbs_mul]
    exact Nat.le_mul_of_pos_left _ (by omega)
  refine ⟨?_, by rw [hn]; exact hga, by rw [hd]; exact hb0, by rw [hd]; exact hgb⟩
  rw [← mk_den hB]
  cases hx : (mkR A B).den with
  | nil =>
    have : denv (mkR A B) = 0 := by unfold denv; rw [hx]; rfl
    omega
  | cons _ _ => rfl

/-- u halves -/
def hf (u : Int) : TRat := mkR u 2
structure HalfOk (u : Int) : Prop where
  ok : ratOkB (hf u) = true
  val : numv (hf u) * 2 = u * denv (hf u)
  n0 : -1000 ≤ numv (hf u)
  n1 : numv (hf u) ≤ 1000
  d0 : 0 < denv (hf u)
  d1 : denv (hf u) ≤ 2
theorem hf_ok {u : Int} (h0 : 0 ≤ u) (h1 : u ≤ 1000) : HalfOk u := by
  obtain ⟨h2, h3, h4, h5⟩ := mk_bound (A := u) (B := 2) (by decide) (by decide) (by omega) (by omega)
  have h6 := mk_val (A := u) (B := 2) (by decide) h2
  exact ⟨h2, h6, by unfold hf; omega, by unfold hf; omega, h4, h5⟩
theorem hf_zero : rint 0 = hf 0 := by decide
theorem hf_add {u v : Int} (hu : 0 ≤ u) (hv : 0 ≤ v) (h : u + v ≤ 1000) : radd (hf u) (hf v) = hf (u + v) := by
  have a := hf_ok hu (by omega); have b := hf_ok hv (by omega); have c := hf_ok (u := u + v) (by omega) h
  rw [radd_eq a.ok b.ok]
  refine mk_ratio (ratOkB_iff.1 c.ok) (Int.mul_pos a.d0 b.d0) ?_
  have h1 := a.val; have h2 := b.val; have h3 := c.val
  grind
theorem hf_of {a d : Int} (ha : 0 ≤ a) (ha2 : a ≤ 5) (hd : d = 1 ∨ d = 2) : ∃ u, 0 ≤ u ∧ u ≤ 10 ∧ mkR a d = hf u := by
  rcases hd with rfl | rfl
  · refine ⟨2 * a, by omega, by omega, ?_⟩
    have c := hf_ok (u := 2 * a) (by omega) (by omega)
    refine mk_ratio (ratOkB_iff.1 c.ok) (by decide) ?_
    have := c.val
    grind
  · exact ⟨a, ha, by omega, rfl⟩
theorem mul_hf {b U : Int} (hb : 0 ≤ b) (hb2 : b ≤ 5) (hU : 0 ≤ U) (hU2 : U ≤ 100) : rmul (mkR b 5) (hf U) = mkR (b * U) 10 := by
  have hbU : 0 ≤ b * U ∧ b * U ≤ 500 := ⟨Int.mul_nonneg hb hU, by have := Int.mul_le_mul hb2 hU2 hU (by decide); omega⟩
  obtain ⟨o1, _, d1, _⟩ := mk_bound (A := b) (B := 5) (by decide) (by decide) (by omega) (by omega)
  obtain ⟨o2, _, d2, _⟩ := mk_bound (A := b * U) (B := 10) (by decide) (by decide) (by omega) (by omega)
  have v1 := mk_val (A := b) (B := 5) (by decide) o1
  have v2 := mk_val (A := b * U) (B := 10) (by decide) o2
  have c := hf_ok hU (by omega)
  unfold rmul
  rw [o1, c.ok]
  show mkR _ _ = _
  refine mk_ratio (ratOkB_iff.1 o2) (Int.mul_pos d1 c.d0) ?_
  have h3 := c.val
  grind
theorem cmp_hf {s w : Int} (hs : 0 ≤ s) (hs2 : s ≤ 1000) (hw : 0 ≤ w) (hw2 : w ≤ 1000) : (0 ≤ rcmpV (hf s) (mkR w 10)) ↔ w ≤ 5 * s := by
  obtain ⟨o2, _, d2, _⟩ := mk_bound (A := w) (B := 10) (by decide) (by decide) (by omega) (by omega)
  have v2 := mk_val (A := w) (B := 10) (by decide) o2
  have c := hf_ok hs hs2
  have v1 := c.val
  have e : (numv (hf s) * denv (mkR w 10) - numv (mkR w 10) * denv (hf s)) * 10 = (5 * s - w) * (denv (hf s) * denv (mkR w 10)) := by grind
  have hp := Int.mul_pos c.d0 d2
  unfold rcmpV sgn
  generalize numv (hf s) * denv (mkR w 10) - numv (mkR w 10) * denv (hf s) = X at *
  generalize denv (hf s) * denv (mkR w 10) = Y at *
  constructor
  · intro h
    have hX : 0 ≤ X := by
      split at h
      · omega
      · split at h <;> omega
    rcases Int.lt_or_le (5 * s) w with h1 | h1
    · have := Int.mul_pos (show 0 < w - 5 * s by omega) hp
      have e2 : (w - 5 * s) * Y = -((5 * s - w) * Y) := by grind
      omega
    · exact h1
  · intro h
    have := Int.mul_nonneg (show 0 ≤ 5 * s - w by omega) (Int.le_of_lt hp)
    have hX : 0 ≤ X := by omega
    split
    · omega
    · split <;> omega

/-- the halves at these places, added -/
def uv (us : List Int) (k : Int) : Int := us.getD k.toNat 0
def S (us : List Int) (ks : List Int) : Int := (ks.map (uv us)).sum
structure Small (us : List Int) : Prop where
  len : us.length ≤ 6
  lo : ∀ u ∈ us, 0 ≤ u
  hi : ∀ u ∈ us, u ≤ 10
variable {us : List Int}
theorem Small.uv (h : Small us) (k : Int) : 0 ≤ uv us k ∧ uv us k ≤ 10 := by
  unfold X.uv
  rw [List.getD_eq_getElem?_getD]
  cases hk : us[k.toNat]? with
  | none => exact ⟨by decide, by decide⟩
  | some u => exact ⟨h.lo u (List.mem_of_getElem? hk), h.hi u (List.mem_of_getElem? hk)⟩
theorem S_cons (us : List Int) (k : Int) (ks : List Int) : S us (k :: ks) = uv us k + S us ks := by simp [S]
theorem S_append (us : List Int) (a b : List Int) : S us (a ++ b) = S us a + S us b := by simp [S, List.sum_append]
theorem S_nil (us : List Int) : S us [] = 0 := rfl
theorem S_perm {a b : List Int} (h : a.Perm b) : S us a = S us b := by
  induction h with
  | nil => rfl
  | cons x _ ih => rw [S_cons, S_cons, ih]
  | swap x y l => rw [S_cons, S_cons, S_cons, S_cons]; omega
  | trans _ _ h1 h2 => exact h1.trans h2
theorem Small.S_bound (h : Small us) (ks : List Int) : 0 ≤ S us ks ∧ S us ks ≤ 10 * ks.length := by
  induction ks with
  | nil => simp [S]
  | cons k ks ih =>
    have := h.uv k
    rw [S_cons, List.length_cons]
    omega
theorem getD_hf {k : Int} (h0 : 0 ≤ k) (h1 : k < us.length) : (us.map hf).getD k.toNat zeroR = hf (uv us k) := by
  unfold uv
  have hk : k.toNat < us.length := by omega
  simp [List.getD_eq_getElem?_getD, hk]
/-- all are places of the list -/
def Places (us : List Int) (ks : List Int) : Prop := ∀ k ∈ ks, 0 ≤ k ∧ k < us.length
theorem fold_hf (h : Small us) : ∀ (ks : List Int) (s : Int), Places us ks → 0 ≤ s → s + S us ks ≤ 1000 → ks.foldl (fun s k => radd s ((us.map hf).getD k.toNat zeroR)) (hf s) = hf (s + S us ks)
  | [], s, _, _, _ => by simp [S]
  | k :: ks, s, hp, hs, hb => by
    have hk := hp k (by simp)
    have hu := h.uv k
    have hS := (h.S_bound ks).1
    rw [S_cons] at hb ⊢
    rw [List.foldl_cons, getD_hf hk.1 hk.2, hf_add hs hu.1 (by omega), fold_hf h ks (s + uv us k) (fun x hx => hp x (by simp [hx])) (by omega) (by omega), Int.add_assoc]
theorem msum_hf (h : Small us) {ks : List Int} (hp : Places us ks) (hl : ks.length ≤ 6) : msum (us.map hf) ks = hf (S us ks) := by
  unfold msum
  have := (h.S_bound ks).2
  rw [hf_zero, fold_hf h ks 0 hp (by omega) (by omega), Int.zero_add]
theorem places_iota (us : List Int) : Places us (iota us.length) := fun _ hk => iota_mem hk
theorem S_iota (us : List Int) : (iota us.length).map (uv us) = us := by
  apply List.ext_getElem?
  intro j
  by_cases hj : j < us.length
  · rw [List.getElem?_map, iota_get hj]
    simp [uv, List.getD_eq_getElem?_getD, hj]
  · rw [List.getElem?_eq_none (by rw [List.length_map, iota_len]; omega), List.getElem?_eq_none (by omega)]
theorem rsum_hf (h : Small us) : rsum (us.map hf) = hf (S us (iota us.length)) := by
  have e : rsum (us.map hf) = msum (us.map hf) (iota us.length) := by
    unfold rsum msum
    conv => lhs; rw [← iota_key (us.map hf)]
    rw [List.foldl_map, List.length_map]
  rw [e, msum_hf h (places_iota us) (by rw [iota_len]; exact h.len)]
theorem Small.ratV (h : Small us) : ∀ x ∈ us.map hf, RatV x := by
  intro x hx
  obtain ⟨u, hu, rfl⟩ := List.mem_map.1 hx
  exact ratOkB_iff.1 (hf_ok (h.lo u hu) (by have := h.hi u hu; omega)).ok
theorem shares_hf (h : Small us) {b : Int} (hb : 0 ≤ b) (hb2 : b ≤ 5) : sharesB (us.map hf) (mkR b 5) = true := by
  unfold sharesB
  have h1 : (us.map hf).all ratOkB = true := List.all_eq_true.2 fun x hx => ratOkB_iff.2 (h.ratV x hx)
  have h2 : partB (mkR b 5) = true := by
    obtain rfl | rfl | rfl | rfl | rfl | rfl : b = 0 ∨ b = 1 ∨ b = 2 ∨ b = 3 ∨ b = 4 ∨ b = 5 := by omega
    all_goals decide
  have h3 : (us.map hf).any (fun r => decide (rsignV r < 0)) = false := by
    rw [List.any_eq_false]
    intro x hx
    obtain ⟨u, hu, rfl⟩ := List.mem_map.1 hx
    have hu0 := h.lo u hu
    have c := hf_ok hu0 (by have := h.hi u hu; omega)
    have hn : 0 ≤ numv (hf u) := by
      have := Int.mul_nonneg hu0 (Int.le_of_lt c.d0)
      have := c.val
      omega
    simp only [decide_eq_true_eq]
    unfold rsignV sgn
    split
    · omega
    · split <;> omega
  rw [h1, h2, h3]; rfl
theorem rsign_hf (h : Small us) : 0 ≤ rsign (rsum (us.map hf)) := by
  rw [rsum_hf h]
  have hb := h.S_bound (iota us.length)
  rw [iota_len] at hb
  have := h.len
  have c := hf_ok (u := S us (iota us.length)) hb.1 (by omega)
  have hn : 0 ≤ numv (hf (S us (iota us.length))) := by
    have := Int.mul_nonneg hb.1 (Int.le_of_lt c.d0)
    have := c.val
    omega
  unfold rsign
  rw [c.ok, if_pos rfl]
  unfold rsignV sgn
  split
  · omega
  · split <;> omega

theorem frac_run (h : Small us) {w : Int} (hw : 0 ≤ w) (hw2 : w ≤ 1000) : ∀ (rest : List Int) (s : Int), Places us rest → 0 ≤ s → s + S us rest ≤ 1000 → w ≤ 5 * (s + S us rest) →
    ∃ k, k ≤ rest.length ∧ fracGo (us.map hf) (mkR w 10) rest (hf s) = some (rest.take k) ∧ w ≤ 5 * (s + S us (rest.take k)) ∧ (0 < k → ¬ w ≤ 5 * (s + S us (rest.take (k - 1))))
  | [], s, _, _, _, hw3 => ⟨0, Nat.le_refl _, rfl, hw3, fun h => absurd h (Nat.lt_irrefl _)⟩
  | i :: is, s, hp, hs, hb, hw3 => by
    have hi := hp i (by simp)
    have hu := h.uv i
    have hS := (h.S_bound is).1
    rw [S_cons] at hb hw3
    have hc := cmp_hf hs (by omega) hw hw2
    unfold fracGo
    by_cases h0 : w ≤ 5 * s
    · rw [if_pos (hc.2 h0)]
      exact ⟨0, Nat.zero_le _, rfl, by rw [List.take_zero, S_nil]; omega, fun h => absurd h (Nat.lt_irrefl _)⟩
    · rw [if_neg (fun h => h0 (hc.1 h)), getD_hf hi.1 hi.2, hf_add hs hu.1 (by omega), if_pos (hf_ok (by omega) (by omega)).ok]
      obtain ⟨k, h1, h2, h3, h4⟩ := frac_run h hw hw2 is (s + uv us i) (fun x hx => hp x (by simp [hx])) (by omega) (by omega) (by omega)
      refine ⟨k + 1, by simp; omega, by rw [h2]; rfl, by rw [List.take_succ_cons, S_cons]; omega, fun _ => ?_⟩
      rw [Nat.add_sub_cancel]
      cases k with
      | zero => rw [List.take_zero, S_nil]; omega
      | succ k =>
        have := h4 (by omega)
        rw [Nat.add_sub_cancel] at this
        rw [List.take_succ_cons, S_cons]
        omega

theorem order_desc (h : Small us) {i j : Nat} {a b : Int} (ha : (orderOf (us.map hf))[i]? = some a) (hb : (orderOf (us.map hf))[j]? = some b) (hij : i ≤ j) : uv us b ≤ uv us a := by
  have hs : Srt (ordLe (us.map hf)) (orderOf (us.map hf)) := by rw [order_eq h.ratV]; exact sort_srt (ordLe_ord h.ratV) _
  have hle := srt_get (ordLe_ord h.ratV) hs ha hb hij
  have pa := iota_mem (order_in (List.mem_of_getElem? ha))
  have pb := iota_mem (order_in (List.mem_of_getElem? hb))
  rw [List.length_map] at pa pb
  unfold ordLe byKey at hle
  rw [Bool.and_eq_true] at hle
  have h1 := hle.1
  have ka : keyOf (us.map hf) a = hf (uv us a) := by
    have hk : a.toNat < us.length := by omega
    unfold keyOf uv
    simp [List.getD_eq_getElem?_getD, hk]
  have kb : keyOf (us.map hf) b = hf (uv us b) := by
    have hk : b.toNat < us.length := by omega
    unfold keyOf uv
    simp [List.getD_eq_getElem?_getD, hk]
  rw [ka, kb] at h1
  unfold rle at h1
  have ca := hf_ok (h.uv a).1 (by have := (h.uv a).2; omega)
  have cb := hf_ok (h.uv b).1 (by have := (h.uv b).2; omega)
  have va := ca.val; have vb := cb.val
  have h2 : numv (hf (uv us b)) * denv (hf (uv us a)) ≤ numv (hf (uv us a)) * denv (hf (uv us b)) := by simpa using h1
  have hp := Int.mul_pos ca.d0 cb.d0
  rcases Int.lt_or_le (uv us a) (uv us b) with h3 | h3
  · exfalso
    have h4 := Int.mul_pos (show 0 < uv us b - uv us a by omega) hp
    have e : (uv us b - uv us a) * (denv (hf (uv us a)) * denv (hf (uv us b))) = 2 * (numv (hf (uv us b)) * denv (hf (uv us a)) - numv (hf (uv us a)) * denv (hf (uv us b))) := by grind
    omega
  · exact h3

structure MarksFacts (us : List Int) (b : Int) (M : List Int) : Prop where
  len : M.length ≤ us.length
  places : Places us M
  up : M.Pairwise (· < ·)
  full : b * S us (iota us.length) ≤ 5 * S us M
  least : ∀ i, i < M.length → ¬ b * S us (iota us.length) ≤ 5 * S us (M.take i ++ M.drop (i + 1))
theorem marks_facts (h : Small us) {b : Int} (hb : 0 ≤ b) (hb2 : b ≤ 5) : MarksFacts us b (markFrac (us.map hf) (mkR b 5)) := by
  have hU := h.S_bound (iota us.length)
  rw [iota_len] at hU
  have hl := h.len
  have hbU : 0 ≤ b * S us (iota us.length) ∧ b * S us (iota us.length) ≤ 5 * S us (iota us.length) := ⟨Int.mul_nonneg hb hU.1, Int.mul_le_mul_of_nonneg_right hb2 hU.1⟩
  have hwant : rmul (mkR b 5) (rsum (us.map hf)) = mkR (b * S us (iota us.length)) 10 := by rw [rsum_hf h, mul_hf hb hb2 hU.1 (by omega)]
  have hop : (orderOf (us.map hf)).Perm (iota us.length) := by have := order_perm h.ratV; rwa [List.length_map] at this
  have hoS : S us (orderOf (us.map hf)) = S us (iota us.length) := S_perm hop
  have hopl : Places us (orderOf (us.map hf)) := fun k hk => iota_mem (hop.subset hk)
  obtain ⟨k, k1, k2, k3, k4⟩ := frac_run h hbU.1 (by omega) (orderOf (us.map hf)) 0 hopl (by omega) (by omega) (by omega)
  have hok : ratOkB (rmul (mkR b 5) (rsum (us.map hf))) = true := by
    rw [hwant]; exact (mk_bound (by decide) (by decide) (by omega) (by omega)).1
  have hM : markFrac (us.map hf) (mkR b 5) = ((orderOf (us.map hf)).take k).mergeSort leI := by
    refine markFrac_some (shares_hf h hb hb2) hok ?_
    rw [hwant, hf_zero]; exact k2
  have hMp : (((orderOf (us.map hf)).take k).mergeSort leI).Perm ((orderOf (us.map hf)).take k) := List.mergeSort_perm _ _
  have hMf := frac_sort (us.map hf) k
  rw [List.length_map] at hMf
  rw [hM]
  refine ⟨?_, fun x hx => hopl x (List.mem_of_mem_take (hMp.subset hx)), ?_, ?_, fun i hi hbad => ?_⟩
  · rw [hMp.length_eq, List.length_take, hop.length_eq, iota_len]; exact Nat.min_le_right _ _
  · rw [hMf]; exact (iota_up _).filter _
  · rw [S_perm hMp]; omega
  · obtain ⟨x, hx⟩ : ∃ x, (((orderOf (us.map hf)).take k).mergeSort leI)[i]? = some x := ⟨_, List.getElem?_eq_getElem hi⟩
    have hxm := hMp.subset (List.mem_of_getElem? hx)
    obtain ⟨j, hj, hjx⟩ := mem_take_get hxm
    have hk0 : 0 < k := by omega
    have hsplit : S us (((orderOf (us.map hf)).take k).mergeSort leI) = S us ((((orderOf (us.map hf)).take k).mergeSort leI).take i ++ (((orderOf (us.map hf)).take k).mergeSort leI).drop (i + 1)) + uv us x := by
      conv => lhs; rw [← List.take_append_drop i (((orderOf (us.map hf)).take k).mergeSort leI), drop_get hx]
      rw [S_append, S_append, S_cons]; omega
    obtain ⟨y, hy⟩ : ∃ y, (orderOf (us.map hf))[k - 1]? = some y := ⟨_, List.getElem?_eq_getElem (by omega)⟩
    have hd := order_desc h hjx hy (by omega)
    have ht : S us ((orderOf (us.map hf)).take k) = S us ((orderOf (us.map hf)).take (k - 1)) + uv us y := by
      have e := take_get hy
      rw [Nat.sub_add_cancel hk0] at e
      rw [e, S_append, S_cons, S_nil]; omega
    have h4 := k4 hk0
    rw [S_perm hMp] at hsplit
    omega

/-- what the law asks of IsMarked: at the marks themselves, and at the marks without one of them -/
theorem marked_yes (h : Small us) {b : Int} (hb : 0 ≤ b) (hb2 : b ≤ 5) : isMarkedB (us.map hf) (mkR b 5) (markFrac (us.map hf) (mkR b 5)) = true := by
  have F := marks_facts h hb hb2
  generalize markFrac (us.map hf) (mkR b 5) = M at *
  have hU := h.S_bound (iota us.length)
  rw [iota_len] at hU
  have hl := h.len
  have hbU : 0 ≤ b * S us (iota us.length) ∧ b * S us (iota us.length) ≤ 5 * S us (iota us.length) := ⟨Int.mul_nonneg hb hU.1, Int.mul_le_mul_of_nonneg_right hb2 hU.1⟩
  have hwant : rmul (mkR b 5) (rsum (us.map hf)) = mkR (b * S us (iota us.length)) 10 := by rw [rsum_hf h, mul_hf hb hb2 hU.1 (by omega)]
  have hS := h.S_bound M
  have hMl := F.len
  have h1 : marksOk (us.map hf).length M = true := by
    refine marks_good fun i hi => ?_
    obtain ⟨x, hx⟩ : ∃ x, M[i]? = some x := ⟨_, List.getElem?_eq_getElem hi⟩
    have hpx := F.places x (List.mem_of_getElem? hx)
    have hin : inB 0 x (((us.map hf).length : Nat) - 1 : Int) = true := by rw [List.length_map]; unfold inB; simp; omega
    unfold markBad
    rw [hx]
    simp only [hin]
    cases i with
    | zero => rfl
    | succ i =>
      obtain ⟨y, hy⟩ : ∃ y, M[i]? = some y := ⟨_, List.getElem?_eq_getElem (by omega)⟩
      have hlt : y < x := by
        have e1 := (List.getElem?_eq_some_iff.1 hy).2
        have e2 := (List.getElem?_eq_some_iff.1 hx).2
        have := List.pairwise_iff_getElem.1 F.up i (i + 1) (by omega) hi (by omega)
        rw [e1, e2] at this; exact this
      rw [Nat.add_sub_cancel, hy]
      simp; omega
  have h2 : markEnd (us.map hf) (mkR b 5) M = true := by
    unfold markEnd
    rw [msum_hf h F.places (by omega), hwant, (hf_ok hS.1 (by omega)).ok, (mk_bound (A := b * S us (iota us.length)) (B := 10) (by decide) (by decide) (by omega) (by omega)).1]
    have := (cmp_hf hS.1 (by omega) hbU.1 (by omega)).2 F.full
    simp [this]
  unfold isMarkedB
  rw [shares_hf h hb hb2, h1, h2]; rfl
theorem marked_no (h : Small us) {b : Int} (hb : 0 ≤ b) (hb2 : b ≤ 5) {i : Nat} (hi : i < (markFrac (us.map hf) (mkR b 5)).length) : isMarkedB (us.map hf) (mkR b 5) ((markFrac (us.map hf) (mkR b 5)).take i ++ (markFrac (us.map hf) (mkR b 5)).drop (i + 1)) = false := by
  have F := marks_facts h hb hb2
  generalize markFrac (us.map hf) (mkR b 5) = M at *
  have hU := h.S_bound (iota us.length)
  rw [iota_len] at hU
  have hl := h.len
  have hbU : 0 ≤ b * S us (iota us.length) ∧ b * S us (iota us.length) ≤ 5 * S us (iota us.length) := ⟨Int.mul_nonneg hb hU.1, Int.mul_le_mul_of_nonneg_right hb2 hU.1⟩
  have hwant : rmul (mkR b 5) (rsum (us.map hf)) = mkR (b * S us (iota us.length)) 10 := by rw [rsum_hf h, mul_hf hb hb2 hU.1 (by omega)]
  have hlen : (M.take i ++ M.drop (i + 1)).length ≤ 6 := by have := F.len; rw [List.length_append, List.length_take, List.length_drop]; omega
  have hpl : Places us (M.take i ++ M.drop (i + 1)) := fun x hx => F.places x ((List.mem_append.1 hx).elim List.mem_of_mem_take List.mem_of_mem_drop)
  have hS := h.S_bound (M.take i ++ M.drop (i + 1))
  have h2 : markEnd (us.map hf) (mkR b 5) (M.take i ++ M.drop (i + 1)) = false := by
    unfold markEnd
    rw [msum_hf h hpl hlen, hwant]
    have : ¬ 0 ≤ rcmpV (hf (S us (M.take i ++ M.drop (i + 1)))) (mkR (b * S us (iota us.length)) 10) := fun hc => F.least i hi ((cmp_hf hS.1 (by omega) hbU.1 (by omega)).1 hc)
    simp [this]
  unfold isMarkedB
  rw [h2, Bool.and_false, Bool.and_false]
theorem great_yes (h : Small us) (h0 : 0 < us.length) : 0 ≤ greatOf (us.map hf) := by
  unfold greatOf
  have hl := order_length h.ratV
  rw [List.length_map] at hl
  cases ho : orderOf (us.map hf) with
  | nil => rw [ho] at hl; simp at hl; omega
  | cons x l =>
    have := iota_mem (order_in (show x ∈ orderOf (us.map hf) by rw [ho]; simp))
    exact this.1
end Go.Proofs.YtleegelljgnlpaaGreat.X
