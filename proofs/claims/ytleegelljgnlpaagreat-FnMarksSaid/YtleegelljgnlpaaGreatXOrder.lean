/- OrderOf of the program. -/
import Derived.Test.YtleegelljgnlpaaGreatXStab6
import Derived.Test.YtleegelljgnlpaaGreatXShares
namespace Go.Proofs.YtleegelljgnlpaaGreat.X
open Go.RowKit Go.XB Go.XN Go.XS
attribute [local go_sem] fillBy opAt deps depOf Region.wanted yielded
attribute [local simp] deps depOf MP.eq MP.agg MP.sl Facts
set_option linter.constructorNameAsVariable false

/-- r is at most s -/
def rle (r s : TRat) : Bool := decide (numv r * denv s ≤ numv s * denv r)
def keyOf (xs : List TRat) (i : Int) : TRat := xs.getD i.toNat (rint 1)
/-- descending; equals in the order of their indices -/
def ordLe (xs : List TRat) : Int → Int → Bool := byKey rle (keyOf xs)
def iota (n : Nat) : List Int := (List.range n).map (fun i : Nat => (i : Int))
def orderOf (xs : List TRat) : List Int := if xs.all ratOkB then (iota xs.length).mergeSort (ordLe xs) else []
theorem iota_succ (k : Nat) : iota (k + 1) = iota k ++ [(k : Int)] := by unfold iota; rw [List.range_succ]; simp
theorem iota_len (k : Nat) : (iota k).length = k := by simp [iota]
theorem iota_mem {n : Nat} {x : Int} (h : x ∈ iota n) : 0 ≤ x ∧ x < n := by
  simp [iota] at h
  obtain ⟨k, hk, rfl⟩ := h
  omega
theorem iota_up (n : Nat) : (iota n).Pairwise (· < ·) := by
  induction n with
  | zero => simp [iota]
  | succ n ih =>
    rw [iota_succ]
    refine List.pairwise_append.2 ⟨ih, by simp, fun x hx y hy => ?_⟩
    simp at hy; subst hy
    exact (iota_mem hx).2
theorem key_ratV {xs : List TRat} (h : ∀ x ∈ xs, RatV x) (i : Int) : RatV (keyOf xs i) := by
  unfold keyOf
  rw [List.getD_eq_getElem?_getD]
  cases hx : xs[i.toNat]? with
  | none => exact rint_ratV 1 (by decide) (by decide)
  | some x => exact h x (List.mem_of_getElem? hx)
theorem ordLe_ord {xs : List TRat} (h : ∀ x ∈ xs, RatV x) : LinOrd (ordLe xs) := by
  refine byKey_ord (fun i j k h1 h2 => ?_) (fun i j => ?_)
  · unfold rle at *
    simp only [decide_eq_true_eq] at *
    exact cross_trans (key_ratV h i).den0 (key_ratV h j).den0 (key_ratV h k).den0 h1 h2
  · unfold rle
    rcases Int.le_total (numv (keyOf xs i) * denv (keyOf xs j)) (numv (keyOf xs j) * denv (keyOf xs i)) with h1 | h1
    · rw [decide_eq_true h1]; rfl
    · rw [decide_eq_true h1]; simp
def cmpOf (xs : List TRat) (i j : Int) : Int := rcmpV (keyOf xs j) (keyOf xs i)
theorem cmpOf_less {xs : List TRat} (h : ∀ x ∈ xs, RatV x) {x y : Int} (hl : cmpOf xs y x < 0) : ordLe xs y x = true := by
  refine byKey_less (fun i j => ?_) ?_
  · have := (ordLe_ord h).total
    unfold rle
    rcases Int.le_total (numv (keyOf xs i) * denv (keyOf xs j)) (numv (keyOf xs j) * denv (keyOf xs i)) with h1 | h1
    · rw [decide_eq_true h1]; rfl
    · rw [decide_eq_true h1]; simp
  · unfold cmpOf rcmpV sgn at hl
    unfold rle
    rw [decide_eq_false_iff_not]
    split at hl
    · omega
    · split at hl <;> omega
theorem cmpOf_more {xs : List TRat} {x y : Int} (hxy : x < y) (hl : ¬ cmpOf xs y x < 0) : ordLe xs x y = true := by
  refine byKey_not hxy ?_
  unfold cmpOf rcmpV sgn at hl
  unfold rle
  rw [decide_eq_true_eq]
  split at hl
  · omega
  · omega

theorem known_OrderOf_1 : Known 25 := fun a w => by kernel_rfl
set_option maxHeartbeats 1000000 in
theorem impl_OrderOf_1 (bx : Nat) (A : Option Addr) (n c : Nat) (xs : List TRat) (bs : List Nat) (w : World) (hb : w.cell? ⟨bx, 0, none⟩ = some (.slice A n c)) (hbl : bx < w.heap.size) (hx : Sl w A n c xs bs) (hv : ∀ x ∈ xs, RatV x) (i j : Nat) (hi : i < n) (hj : j < n) :
    Calls Tryz.prog 25 #[.int .i64 i, .int .i64 j, .pointer (some ⟨bx, 0, none⟩)] w (Gives w (.int .i64 (cmpOf xs i j))) := by
  obtain ⟨be, offe, y, E1, q1, p1, t1, E2, q2, p2, t2, hA, hble, hy1, e0, e1, e2, hagy⟩ := TRat.elemA hx hj
  obtain ⟨be', offe', x, D1, r1, o1, u1, D2, r2, o2, u2, hA', _, hx1, d0, d1, d2, hagx⟩ := TRat.elemA hx hi
  have hAA := hA.symm.trans hA'
  injection hAA with hAA; injection hAA with ha1 ha2 _
  subst ha1; subst ha2
  subst hA
  have HE := hid (show rcmpV y x = cmpOf xs i j by unfold cmpOf keyOf; simp [List.getD_eq_getElem?_getD, hy1, hx1])
  have HY := hid hagy; have HX := hid hagx
  have VY := hid (hv y (List.mem_of_getElem? hy1)); have VX := hid (hv x (List.mem_of_getElem? hx1))
  have hin : (i : Int) < n := by omega
  have hjn : (j : Int) < n := by omega
  clear hx hv hi hj hy1 hx1 hagy hagx hA'
  go_enter Tryz.func25, Tryz.ntmps25
  go_wp2_with fail
  refine wp_region_walk (by kernel_rfl) (by kernel_rfl) (by kernel_rfl) ?_
  iterate 8
    apply walkM_eq
    case h =>
      intro yq zq wq hC hd
      obtain ⟨hcq, hfq⟩ := bcell hC
      simp at hd
      refine ⟨by go_simp; done, ?_⟩
      go_simp
      first | (go_ints; exact rfl) | (go_ints; rw [if_pos (by omega)]; try exact rfl) | exact rfl | (rw [if_pos (by omega)]; try exact rfl)
  refine walkM_call (MP.eq (.int .i64 (rcmpV y x))) ?_ ?_
  · intro yq zq wq hC hd
    obtain ⟨hcq, hfq⟩ := bcell hC
    simp at hd
    refine ⟨by go_simp; done, ?_⟩
    apply Exists.intro
    apply Exists.intro
    constructor
    · go_simp
      exact ⟨rfl, rfl⟩
    · exact gives_eq (impl_compare _ _ y x _ _ wq (HY.out.below hC) (HX.out.below hC) VY.out VX.out)
  apply walkM_eq
  case h =>
    intro yq zq wq hC hd
    obtain ⟨hcq, hfq⟩ := bcell hC
    simp at hd
    refine ⟨by go_simp; done, ?_⟩
    go_simp
    first | (go_ints; exact rfl) | (go_ints; rw [if_pos (by omega)]; try exact rfl) | exact rfl | (rw [if_pos (by omega)]; try exact rfl)
  intro yq zq ux hC hd hdis0
  have hdis := hid hdis0
  clear hdis0
  simp at hd
  go_simp
  clear hd hdis
  go_wp2
  go_ret
  exact ⟨ret_int HE.out, hC⟩

set_option maxHeartbeats 2000000 in
set_option maxRecDepth 10000 in
theorem impl_OrderOf (A : Option Addr) (n c : Nat) (xs : List TRat) (bs : List Nat) (w : World) (hx : Sl w A n c xs bs) (hn : n ≤ 1048576) :
    Calls Tryz.prog 8 #[.slice A n c] w (GivesSl w (orderOf xs)) := by
  have HL := hid hx.1
  have HX := hid hx
  obtain ⟨i0, hi, hz0, hz1, hz2⟩ := info_parts infoI
  clear hx
  cases hok : xs.all ratOkB
  · have E := hid (show orderOf xs = [] by unfold orderOf; rw [hok]; rfl)
    have OK := hid hok
    clear hok
    go_enter Tryz.func8, Tryz.ntmps8
    go_wp2_with fail
    have C := impl_areRats A n c xs _ (w.alloc (.cells #[.slice A n c] 23)) (HX.out.below (Below.box _))
    rw [OK.out] at C
    refine C.mono ?_
    clear C
    rintro _ w1 ⟨rfl, hb1⟩
    go_wp2
    go_ret
    rw [E.out]
    exact ⟨none, 0, 0, [], rfl, Sl.nil _, Own.nil _ _, by (repeat (first | (with_reducible exact Below.refl _ _) | ((with_reducible refine Below.set ?_ ?_ _); rotate_left; (simp <;> omega)) | (with_reducible refine Below.box_ ?_ _) | (with_reducible refine Below.next ?_ (by assumption))))⟩
  have V := hid (fun x (hm : x ∈ xs) => ratOkB_iff.1 (List.all_eq_true.1 hok x hm))
  have E := hid (show orderOf xs = (iota n).mergeSort (ordLe xs) by unfold orderOf; rw [hok, HL.out]; rfl)
  have OK := hid hok
  clear hok
  go_enter Tryz.func8, Tryz.ntmps8
  go_wp2_with fail
  have C := impl_areRats A n c xs _ (w.alloc (.cells #[.slice A n c] 23)) (HX.out.below (Below.box _))
  rw [OK.out] at C
  refine C.mono ?_
  clear C
  rintro _ w1 ⟨rfl, hb1⟩
  obtain ⟨hc_w1, hf_w1⟩ := bcell hb1
  have hz0_w1 : w.heap.size < w1.heap.size := by have := hb1.size; (try simp at this); omega
  have bx1 : w1.cell? ⟨w.heap.size, 0, none⟩ = some (.slice A n c) := by go_simp
  have hnz : w.heap.size ≠ w1.heap.size := by omega
  go_wp2_with fail
  go_loopg [3, 11] n (fun g v s wr => ∃ (k gB cap : Nat), k + g = n ∧ s = .int .i64 k ∧ v = .slice (some ⟨gB, 0, none⟩) k cap ∧ Hid (Row wr w.heap.size gB k cap (iota k)) ∧ Hid (gB ≠ w.heap.size) ∧ Below w.heap.size w wr ∧ (w.heap.size < wr.heap.size ∧ wr.cell? ⟨w.heap.size, 0, none⟩ = some (.slice A n c)))
  case atStart =>
    refine ⟨0, w1.heap.size, 0, by omega, rfl, rfl, ?_, fun e => hnz e.symm, by (repeat (first | (with_reducible exact Below.refl _ _) | ((with_reducible refine Below.set ?_ ?_ _); rotate_left; (simp <;> omega)) | (with_reducible refine Below.box_ ?_ _) | (with_reducible refine Below.next ?_ (by assumption)))), by simp; omega, by go_simp⟩
    exact World.ownsRow_made w1 #[] 0 (by omega) (Nat.zero_le _) rfl
  case round =>
    clear bx1 hc_w1 hf_w1
    obtain ⟨k, gB, cap, hk, rfl, rfl, hR, hne, hb, hsz, hbx⟩ := hrel
    rcases Nat.lt_or_ge k n with hkn | hkn
    · have hki : (k : Int) < n := by omega
      obtain ⟨g, rfl⟩ : ∃ g, gk = g + 1 := ⟨gk - 1, by omega⟩
      have hk' := hid (show k + 1 + g = n by omega)
      have C3 := hid (show k + 1 ≤ maxLen by unfold maxLen; omega)
      have C4 := hid (show (k + 1) * 8 ≤ 140737488355328 by omega)
      have C5 := hid hb.size
      have hown : wr.ownsRow w.heap.size 3 1 (.slice (some ⟨gB, 0, none⟩) k cap) k ((iota k).map (.int .i64)) := hR.out
      have HB := hid hb; have HBX := hid hbx; have HSZ := hid hsz
      clear hk hkn
      go_wp2_with (first | (at_builtin; refine wpList_append_own _ rfl _ _ 25 rfl w.heap.size 3 i0 (.int .i64 0) 1 8 Tryz.underlying25 hi hz0 hz1 hz2 rfl (by decide) _ _ _ rfl (hown.alloc _) ⟨wr.heap.size, 0, none⟩ 1 1 [.int .i64 (k)] rfl rfl (cell_one_new _ _ _) (fun x hx => by simp at hx; subst hx; rfl) C3.out C4.out (le_alloc C5.out _) ?_; intro v' w3 hown' hgrow' hnil'))
      have hb' := below_push hb hown hgrow'
      have hp' : w3.ownsRow w.heap.size 3 1 v' (k + 1) ((iota (k + 1)).map (.int .i64)) := by rw [iota_succ, List.map_append]; exact hown'
      have hcell : w3.cell? ⟨w.heap.size, 0, none⟩ = some (.slice A n c) := by
        have h1 : wr.grownBy w3 (some gB) := (grown_below (Below.box _) _).trans hgrow'
        exact (World.cell?_of_block (a := ⟨w.heap.size, 0, none⟩) (h1.block _ HSZ.out (by simpa using fun e => hne.out e.symm))).trans HBX.out
      have hsz3 : w.heap.size < w3.heap.size := Nat.lt_of_lt_of_le HSZ.out (((grown_below (Below.box _) (some gB)).trans hgrow').size)
      rcases row_cases hp' with ⟨_, h0⟩ | ⟨g2, cap2, rfl, _⟩
      · exfalso; omega
      have hrow : Row w3 w.heap.size g2 (k + 1) cap2 (iota (k + 1)) := hp'
      have hne2 : g2 ≠ w.heap.size := fun e => by
        subst e
        have := (row_cell hrow (j := 0) (x := 0) (by simp [iota])).2.1
        rw [hcell] at this
        cases this
      have R2 := hid hrow; have N2 := hid hne2; have B2 := hid hb'; have Z2 := hid hsz3
      clear hown' hp' hrow hne2 hb' hgrow'
      go_wp2_with fail
      go_roundg g
      case measure => omega
      case rel => exact ⟨k + 1, g2, cap2, hk'.out, by go_num, rfl, R2.out, N2.out, B2.out, Z2.out, hcell⟩
    · have hki : ¬ ((k : Int) < n) := by omega
      have hke : k = n := by omega
      subst hke
      have HB := hid hb
      have HC : Cmp wr gB k 25 (.pointer (some ⟨w.heap.size, 0, none⟩)) (cmpOf xs) (ordLe xs) := by
        refine ⟨known_OrderOf_1, fun w' hg x y hx hy => ?_, fun x y hxy h => cmpOf_less V.out h, fun x y hxy h => cmpOf_more hxy h, ordLe_ord V.out⟩
        obtain ⟨i, rfl⟩ := Int.eq_ofNat_of_zero_le hx.1
        obtain ⟨j, rfl⟩ := Int.eq_ofNat_of_zero_le hy.1
        have hgl : w.heap.size ≤ gB := by
          rcases row_cases hR.out with ⟨h, _⟩ | ⟨g2, cap2, h, h2, _⟩
          · cases h
          · injection h with h _ _; injection h with h; injection h with h _ _; rw [h]; exact h2
        refine impl_OrderOf_1 w.heap.size A k c xs bs w' ?_ (Nat.lt_of_lt_of_le hsz hg.size) ?_ V.out i j (by omega) (by omega)
        · exact (World.cell?_of_block (a := ⟨w.heap.size, 0, none⟩) (hg.block _ hsz (by simpa using fun e => hne.out e.symm))).trans hbx
        · exact (HX.out.below hb).keep fun g2 hg2 => hg.block g2 ((HX.out.below hb).lt g2 hg2) (by have := HX.out.lt g2 hg2; simp; omega)
      have C := hid (sort_SortStable w.heap.size gB k cap 25 (.pointer (some ⟨w.heap.size, 0, none⟩)) (cmpOf xs) (ordLe xs) (iota k) wr hR.out hn HC (fun x hx => iota_mem hx) (iota_up k))
      clear hk hkn HC
      go_wp2_with fail
      refine C.out.mono ?_
      rintro _ w2 ⟨rfl, hrow, hgr⟩
      have R2 := hid hrow
      have B2 := hid (show Below w.heap.size w w2 from HB.out.grown hgr HB.out.size (fun k2 hk2 => by
        have h1 : gB = k2 := by simpa using hk2
        subst h1
        rcases row_cases hR.out with ⟨h, _⟩ | ⟨g2, cap2, h, h2, _⟩
        · cases h
        · injection h with h _ _; injection h with h; injection h with h _ _; rw [h]; exact h2))
      clear hrow hgr
      go_wp2
      go_ret
      rw [E.out]
      refine gives_row R2.out (by rw [List.length_mergeSort, iota_len]) (fun x hx => ?_) B2.out
      have := iota_mem (List.mem_mergeSort.1 hx)
      unfold I64; omega
end Go.Proofs.YtleegelljgnlpaaGreat.X
