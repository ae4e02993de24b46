/- MarkFraction of the reference. -/
import Derived.Test.YthlpjpcnpcclhaaGreatXPush
import Derived.Test.YthlpjpcnpcclhaaGreatXFrac3
namespace Go.Proofs.YthlpjpcnpcclhaaGreat.X
open Go.RowKit Go.XB Go.XN Go.XS
attribute [local go_sem] fillBy opAt deps depOf Region.wanted yielded
attribute [local simp] deps depOf MP.eq MP.agg MP.sl Facts
set_option linter.constructorNameAsVariable false

theorem infoB : (Tryz.prog.info? 4).map (fun i => (i.zero, i.size, i.bytes)) = some (some (.bool false), 1, 1) := by kernel_rfl
def BRow (w : World) (base g n : Nat) (fs : List Bool) : Prop := w.ownsRow base 4 1 (.slice (some ⟨g, 0, none⟩) n n) n (fs.map .bool)
theorem bools_row (n : Nat) : (madeCells (Value.bool false).cells (n * 1)).toList = (List.replicate n false).map .bool := by
  rw [List.map_replicate]
  refine List.eq_replicate_iff.2 ⟨by simp [size_madeCells], fun b hb => ?_⟩
  simp only [madeCells, Array.toList_map, List.mem_map] at hb
  obtain ⟨a, _, rfl⟩ := hb
  have : (Value.bool false).cells = #[.bool false] := rfl
  simp [this, Nat.mod_one]
theorem BRow.cell {w : World} {base g n : Nat} {fs : List Bool} (h : BRow w base g n fs) {j : Nat} {f : Bool} (hf : fs[j]? = some f) : w.cell? ⟨g, j, none⟩ = some (.bool f) ∧ w.frozen? ⟨g, j, none⟩ = false := by
  have hj := (List.getElem?_eq_some_iff.1 hf).1
  have hn : fs.length = n * 1 := by have := h.1; simpa using this
  exact ⟨by rw [World.ownsRow.cellAt h j (by omega), List.getElem?_map, hf]; rfl, World.ownsRow.frozenAt h j⟩
theorem BRow.len {w : World} {base g n : Nat} {fs : List Bool} (h : BRow w base g n fs) : fs.length = n := by have := h.1; simpa using this
theorem BRow.lt {w : World} {base g n : Nat} {fs : List Bool} (h : BRow w base g n fs) : g < w.heap.size := (World.ownsRow.lt h _ rfl).2
theorem BRow.set {w : World} {base g n : Nat} {fs : List Bool} (h : BRow w base g n fs) (j : Nat) (f : Bool) : BRow (w.setCell ⟨g, j, none⟩ (.bool f)) base g n (fs.set j f) := by
  unfold BRow; rw [List.map_set]; exact (World.ownsRow.stored h j _).1
theorem BRow.other {w : World} {base g n : Nat} {fs : List Bool} (h : BRow w base g n fs) (p : Addr) (v : Value) (hp : p.block ≠ g) : BRow (w.setCell p v) base g n fs :=
  World.ownsRow.kept (row := some p.block) h ⟨rfl, rfl, rfl, by simp, fun k _ hne => Below.heap_setCell w p v k (fun e => hne (by rw [e]))⟩ (by simp [Value.ownBlock]; exact fun e => hp e.symm)
theorem BRow.below {w w' : World} {base g n : Nat} {fs : List Bool} (h : BRow w base g n fs) (hb : Below w.heap.size w w') : BRow w' base g n fs := ownsRow_below h hb
theorem flags_nil (n : Nat) : List.replicate n false = flags n [] := by
  unfold flags
  refine (List.eq_replicate_iff.2 ⟨by rw [List.length_map, iota_len], fun b hb => ?_⟩).symm
  obtain ⟨a, _, rfl⟩ := List.mem_map.1 hb
  simp
theorem trues_flags (n : Nat) (L : List Int) : trues (flags n L) n = (iota n).filter (fun x => decide (x ∈ L)) := by
  unfold trues
  refine List.filter_congr fun x hx => ?_
  have hm := iota_mem hx
  obtain ⟨j, rfl⟩ := Int.eq_ofNat_of_zero_le hm.1
  have hj : j < n := by omega
  rw [List.getD_eq_getElem?_getD]
  unfold flags
  rw [List.getElem?_map, show ((j : Int)).toNat = j from rfl, iota_get hj]
  rfl
theorem flags_get (n : Nat) (L : List Int) {j : Nat} (h : j < n) : (flags n L)[j]? = some (decide ((j : Int) ∈ L)) := by
  unfold flags; rw [List.getElem?_map, iota_get h]; rfl
theorem markFrac_nil (p : TRat) : markFrac [] p = [] := by
  unfold markFrac
  split
  · have h : orderOf [] = [] := List.eq_nil_of_length_eq_zero (order_length (xs := []) (by simp))
    rw [h]; simp [fracGo]
  · rfl

/-- where the loop stands at place k -/
structure FracIn (xs : List TRat) (t : TRat) (m k : Nat) (s : TRat) : Prop where
  sum : s = ksum xs ((orderOf xs).take k)
  good : ratOkB s = true → FracAt xs t (orderOf xs) k s
  bad : ratOkB s = false → fracGo xs t (orderOf xs) (rint 0) = none
  want : 0 < k → ratOkB t = true
  last : k = m → ratOkB s = true
theorem FracIn.start (xs : List TRat) (t : TRat) (m : Nat) : FracIn xs t m 0 (rint 0) :=
  ⟨rfl, fun _ => FracAt.start _ _ _, fun h => absurd h (by decide), fun h => absurd h (Nat.lt_irrefl _), fun _ => by decide⟩
theorem FracIn.step {xs : List TRat} {t s y : TRat} {m k j : Nat} (h : FracIn xs t m k s) (hv : ∀ x ∈ xs, RatV x) (hm : (orderOf xs).length = m) (ht : ratOkB t = true) (hT : ratOkB (rsum xs) = true) (hs : ratOkB s = true) (hc : ¬ 0 ≤ rcmpV s t) (hi : (orderOf xs)[k]? = some (j : Int)) (hy : xs[j]? = some y) : FracIn xs t m (k + 1) (radd s y) := by
  have e : xs.getD (j : Int).toNat zeroR = y := by simp [List.getD_eq_getElem?_getD, hy]
  refine ⟨?_, fun ho => ?_, fun ho => ?_, fun _ => ht, fun hk => ?_⟩
  · rw [take_get hi, ksum_step, ← h.sum, e]
  · have := (h.good hs).next hi hc (by rw [e]; exact ho)
    rwa [e] at this
  · exact (h.good hs).bad hi hc (by rw [e, ho]; simp)
  · have := frac_last hv hT (k := k) (by rw [← order_length hv, hm, hk]) hi (by rw [← h.sum]; exact hs)
    rwa [← h.sum, e] at this

set_option maxHeartbeats 4000000 in
set_option maxRecDepth 10000 in
theorem spec_MarkFraction (A : Option Addr) (n c : Nat) (xs : List TRat) (bs : List Nat) (v : Value) (p : TRat) (b : List Nat) (w : World) (hx : Sl w A n c xs bs) (hp : Agg w v p b) (hn : n ≤ 1048576) :
    Calls Tryz.prog 14 #[.slice A n c, v] w (GivesSl w (markFrac xs p)) := by
  have HL := hid hx.1
  have HX := hid hx
  have HP := hid hp
  obtain ⟨i0, hi, hz0, hz1, hz2⟩ := info_parts infoB
  have b2 := hid (show i0.bytes * n ≤ 281474976710656 by rw [hz2]; omega)
  have b3 := hid (show n ≤ maxLen by unfold maxLen; omega)
  obtain ⟨A1, n1, c1, s1, A2, n2, c2, s2, rfl, rfl, hs1, hs2⟩ := TRat.agg hp
  clear hs1 hs2 hp hx
  cases hsh : sharesB xs p
  · have E := hid (markFrac_share hsh)
    have SH := hid hsh
    clear hsh
    go_enter Tryz.func14, Tryz.ntmps14
    go_wp2_with fail
    have C := spec_l25Ok A n c xs _ _ p _ (w.alloc (.cells #[.bool p.num.neg, .slice A1 n1 c1, .slice A2 n2 c2] 43)) (Sl.below HX.out (by (repeat (first | (with_reducible exact Below.refl _ _) | ((with_reducible refine Below.set ?_ ?_ _); rotate_left; (simp <;> omega)) | (with_reducible refine Below.box_ ?_ _) | (with_reducible refine Below.next ?_ (by assumption)))))) (Agg.below HP.out (by (repeat (first | (with_reducible exact Below.refl _ _) | ((with_reducible refine Below.set ?_ ?_ _); rotate_left; (simp <;> omega)) | (with_reducible refine Below.box_ ?_ _) | (with_reducible refine Below.next ?_ (by assumption))))))
    rw [SH.out] at C
    refine C.mono ?_
    clear C
    rintro _ w1 ⟨rfl, hb1⟩
    go_wp2
    go_ret
    rw [E.out]
    exact ⟨none, 0, 0, [], rfl, Sl.nil _, Own.nil _ _, by (repeat (first | (with_reducible exact Below.refl _ _) | ((with_reducible refine Below.set ?_ ?_ _); rotate_left; (simp <;> omega)) | (with_reducible refine Below.box_ ?_ _) | (with_reducible refine Below.next ?_ (by assumption))))⟩
  have SH := hid hsh
  have V := hid (shares_ratV hsh)
  have MS := hid (fun (h1 : ratOkB (rmul p (rsum xs)) = true) (l : List Int) => markFrac_some (l := l) hsh h1)
  have MN := hid (markFrac_none (xs := xs) (p := p))
  have MW := hid (markFrac_want (xs := xs) (p := p))
  have TS := hid (want_sum (xs := xs) (p := p))
  clear hsh
  go_enter Tryz.func14, Tryz.ntmps14
  go_wp2_with fail
  have C := spec_l25Ok A n c xs _ _ p _ (w.alloc (.cells #[.bool p.num.neg, .slice A1 n1 c1, .slice A2 n2 c2] 43)) (Sl.below HX.out (by (repeat (first | (with_reducible exact Below.refl _ _) | ((with_reducible refine Below.set ?_ ?_ _); rotate_left; (simp <;> omega)) | (with_reducible refine Below.box_ ?_ _) | (with_reducible refine Below.next ?_ (by assumption)))))) (Agg.below HP.out (by (repeat (first | (with_reducible exact Below.refl _ _) | ((with_reducible refine Below.set ?_ ?_ _); rotate_left; (simp <;> omega)) | (with_reducible refine Below.box_ ?_ _) | (with_reducible refine Below.next ?_ (by assumption))))))
  rw [SH.out] at C
  refine C.mono ?_
  clear C
  rintro _ w1 ⟨rfl, hb1⟩
  obtain ⟨hc_w1, hf_w1⟩ := bcell hb1
  have hz0_w1 : w.heap.size < w1.heap.size := by have := hb1.size; (try simp at this); omega
  have HB1 := hid (show Below w.heap.size w w1 by (repeat (first | (with_reducible exact Below.refl _ _) | ((with_reducible refine Below.set ?_ ?_ _); rotate_left; (simp <;> omega)) | (with_reducible refine Below.box_ ?_ _) | (with_reducible refine Below.next ?_ (by assumption)))))
  go_wp2_with fail
  refine wp_region_line 5 (by kernel_rfl) (by kernel_rfl) (by kernel_rfl) (by kernel_rfl) (by kernel_rfl) ?_
  simp only [List.take_succ_cons, List.take_zero, List.drop_succ_cons, List.drop_zero]
  iterate 2
    apply walkM_eq
    case h =>
      intro yq zq wq hC hd
      obtain ⟨hcq, hfq⟩ := bcell hC
      simp at hd
      refine ⟨by go_simp; done, ?_⟩
      go_simp
      first | (go_ints; exact rfl) | (go_ints; rw [if_pos (by omega)]; try exact rfl) | exact rfl | (rw [if_pos (by omega)]; try exact rfl)
  refine walkM_call (MP.agg (rsum xs)) ?_ ?_
  · intro yq zq wq hC hd
    obtain ⟨hcq, hfq⟩ := bcell hC
    simp at hd
    refine ⟨by go_simp; done, ?_⟩
    apply Exists.intro
    apply Exists.intro
    constructor
    · go_simp
      exact ⟨rfl, rfl⟩
    · exact gives_agg (spec_sum A n c xs _ wq (Sl.below HX.out (Below.next HB1.out hC)))
  refine walkM_call (MP.agg (rmul p (rsum xs))) ?_ ?_
  · intro yq zq wq hC hd
    obtain ⟨hcq, hfq⟩ := bcell hC
    simp at hd
    refine ⟨by go_simp; done, ?_⟩
    apply Exists.intro
    apply Exists.intro
    constructor
    · go_simp
      exact ⟨rfl, rfl⟩
    · obtain ⟨_, t, _⟩ := hd
      exact gives_agg (spec_RatMul _ _ p (rsum xs) _ _ wq (Agg.below HP.out (Below.next HB1.out hC)) t)
  refine walkM_new #[.bool false, .slice none 0 0, .slice none 0 0] 43 ?_ ?_
  · intro yq zq wq hC hd
    refine ⟨by go_simp; done, ?_⟩
    go_simp
  intro yq zq wa hC hd hdis0
  have hdis := hid hdis0
  clear hdis0
  simp at hd
  have q3 := hd.2.2.2.1
  have q4 := hd.2.2.2.2
  obtain ⟨⟨ha3, hf3⟩, hr3⟩ := q3
  obtain ⟨B1, B2, B3, Bt, B4, B5, B6, Bs, y3, hz3, _, _⟩ := TRat.agg ha3
  obtain ⟨⟨g1, y4, z4, hg1⟩, hr4⟩ := q4
  rw [y3] at ha3
  rw [z4] at hr4
  have D3 := hid (show ∀ b ∈ zq 3, b ≠ g1 from fun b hb e => by have := hdis.out 3 4 (by decide) (by decide) (by decide) b hb; rw [z4] at this; simp [e] at this)
  have hgr1 := hr4 g1 (by simp)
  obtain ⟨b1c0, b1f0⟩ := box_cell hg1 (j := 0) rfl
  obtain ⟨b1c1, b1f1⟩ := box_cell hg1 (j := 1) rfl
  obtain ⟨b1c2, b1f2⟩ := box_cell hg1 (j := 2) rfl
  have A3 := hid ha3
  have R3 := hid (show ∀ b ∈ zq 3, b < wa.heap.size from ha3.lt)
  have HBA := hid (Below.next HB1.out hC)
  have hsz1 := hb1.size
  have hg1a : w.heap.size ≤ g1 := by simp at hsz1; omega
  have hg1b : g1 < wa.heap.size := hgr1.2
  clear hd hdis hz3 hr3 hr4 hf3 ha3 hg1 z4 hsz1
  generalize rmul p (rsum xs) = t at *
  generalize zq 3 = rt at *
  have hkeep : ∀ g, g ≠ g1 → (((wa.setCell ⟨g1, 0, none⟩ (.bool t.num.neg)).setCell ⟨g1, 1, none⟩ (.slice B1 B2 B3)).setCell ⟨g1, 2, none⟩ (.slice B4 B5 B6)).heap[g]? = wa.heap[g]? := fun g h1 => heap_setCells g1 [.bool t.num.neg, .slice B1 B2 B3, .slice B4 B5 B6] wa 0 g h1
  have HT := hid (A3.out.keep fun g hg => hkeep g (D3.out g hg))
  have HBW := hid (show Below w.heap.size w (((wa.setCell ⟨g1, 0, none⟩ (.bool t.num.neg)).setCell ⟨g1, 1, none⟩ (.slice B1 B2 B3)).setCell ⟨g1, 2, none⟩ (.slice B4 B5 B6)) from ((HBA.out.setCell (p := ⟨g1, 0, none⟩) hg1a _).setCell (p := ⟨g1, 1, none⟩) hg1a _).setCell (p := ⟨g1, 2, none⟩) hg1a _)
  have k0 : (((wa.setCell ⟨g1, 0, none⟩ (.bool t.num.neg)).setCell ⟨g1, 1, none⟩ (.slice B1 B2 B3)).setCell ⟨g1, 2, none⟩ (.slice B4 B5 B6)).cell? ⟨g1, 0, none⟩ = some (.bool t.num.neg) := by go_simp
  have k1 : (((wa.setCell ⟨g1, 0, none⟩ (.bool t.num.neg)).setCell ⟨g1, 1, none⟩ (.slice B1 B2 B3)).setCell ⟨g1, 2, none⟩ (.slice B4 B5 B6)).cell? ⟨g1, 1, none⟩ = some (.slice B1 B2 B3) := by go_simp
  have k2 : (((wa.setCell ⟨g1, 0, none⟩ (.bool t.num.neg)).setCell ⟨g1, 1, none⟩ (.slice B1 B2 B3)).setCell ⟨g1, 2, none⟩ (.slice B4 B5 B6)).cell? ⟨g1, 2, none⟩ = some (.slice B4 B5 B6) := by go_simp
  have hsw : wa.heap.size = (((wa.setCell ⟨g1, 0, none⟩ (.bool t.num.neg)).setCell ⟨g1, 1, none⟩ (.slice B1 B2 B3)).setCell ⟨g1, 2, none⟩ (.slice B4 B5 B6)).heap.size := by simp
  clear hkeep A3 HBA D3
  go_upto_region 4 with fail
  generalize (((wa.setCell ⟨g1, 0, none⟩ (.bool t.num.neg)).setCell ⟨g1, 1, none⟩ (.slice B1 B2 B3)).setCell ⟨g1, 2, none⟩ (.slice B4 B5 B6)) = W at *
  go_wp2_with (at_make; (refine wpList_make_full _ rfl _ _ 67 rfl w.heap.size 4 i0 (.bool false) 1 Tryz.underlying67 hi hz0 hz1 .i64 .i64 _ _ n rfl rfl rfl rfl b2.out b3.out HBW.out.size ?_); intro w3 hown3 hgrow3)
  rw [bools_row, flags_nil] at hown3
  have hb3 : Below W.heap.size W w3 := (Below.refl W.heap.size W).grown hgrow3 (Nat.le_refl _) (by intro k hk; cases hk)
  have hsz3 := (World.ownsRow.lt hown3 _ rfl).2
  have ON3 := hid (show BRow w3 w.heap.size W.heap.size n (flags n []) from hown3)
  have hg1w : g1 < W.heap.size := by omega
  have r0 : w3.cell? ⟨g1, 0, none⟩ = some (.bool t.num.neg) := (hb3.cell (p := ⟨g1, 0, none⟩) hg1w).trans k0
  have r1 : w3.cell? ⟨g1, 1, none⟩ = some (.slice B1 B2 B3) := (hb3.cell (p := ⟨g1, 1, none⟩) hg1w).trans k1
  have r2 : w3.cell? ⟨g1, 2, none⟩ = some (.slice B4 B5 B6) := (hb3.cell (p := ⟨g1, 2, none⟩) hg1w).trans k2
  have HT3 := hid (HT.out.below hb3)
  have RT3 := hid (show ∀ b ∈ rt, b < W.heap.size from fun b hb => by have := R3.out b hb; omega)
  have HB3 := hid (Below.next HBW.out hb3)
  have W3 := hid HBW.out.size
  clear hown3 hgrow3 hb3 k0 k1 k2 HT HBW b1c0 b1c1 b1c2 b1f0 b1f1 b1f2 hc_w1 hf_w1 hC hb1 hgr1 R3
  go_wp2_with fail
  refine (spec_RatFromInt 0 w3 (by constructor <;> decide)).mono ?_
  rintro _ w5 ⟨v2, t2, rfl, ha2, ho2, hb5⟩
  obtain ⟨Z1, Z2, Z3, Zt, Z4, Z5, Z6, Zs, rfl, hz, _, _⟩ := TRat.agg ha2
  have hsz5 := hb5.size
  have HA5 := hid ha2
  have HR5 := hid (show ∀ b ∈ t2, w3.heap.size ≤ b ∧ b < w5.heap.size from fun b hb => by have := ho2.range b hb; simpa using this)
  have HB35 := hid (show Below w3.heap.size w3 w5 from hb5)
  have ON5 := hid (ON3.out.below hb5)
  clear ha2 ho2 hz hb5
  go_wp2_with fail
  refine (spec_OrderOf A n c xs _ (w5.alloc (.cells #[.bool (rint 0).num.neg, .slice Z1 Z2 Z3, .slice Z4 Z5 Z6] 43)) (Sl.below HX.out (Below.next (Below.next HB3.out HB35.out) (Below.box _))) hn).mono ?_
  rintro _ w6 ⟨B, m, d, ds, rfl, hso, hoo, hb6⟩
  have hsz6 := hb6.size
  simp at hsz6
  have HB56 := hid (show Below w5.heap.size w5 w6 from Below.trans (Below.box _) (hb6.mono (by simp)))
  have HB36 := hid (show Below w3.heap.size w3 w6 from Below.trans HB35.out (HB56.out.mono (by omega)))
  have BW6 := hid (show Below w.heap.size w w6 from Below.next HB3.out HB36.out)
  have HT6 := hid (HT3.out.below HB36.out)
  have HS6 := hid (HA5.out.below HB56.out)
  have HO6 := hid hso
  have RT6 := hid (show ∀ b ∈ rt, b ∉ [W.heap.size, w5.heap.size] from fun b hb => by have := RT3.out b hb; simp; omega)
  have RO6 := hid (show ∀ b ∈ ds, b ∉ [W.heap.size, w5.heap.size] from fun b hb => by have := (hoo.range b hb).1; simp at this; simp; omega)
  have RS6 := hid (show ∀ b ∈ t2, b ≠ w5.heap.size ∧ b ≠ W.heap.size from fun b hb => by have := HR5.out b hb; omega)
  have ON6 := hid (ON5.out.below HB56.out)
  have OL := hid (show (orderOf xs).length = m from hso.1)
  have XM := hid (show xs.length = m by rw [← hso.1, order_length V.out])
  have hmm : m ≤ 1048576 := by have := XM.out; have := HL.out; omega
  have G3 := hid (show w.heap.size ≤ W.heap.size from W3.out)
  have hw5 : w.heap.size ≤ w5.heap.size := by have := W3.out; omega
  have hw56 : w5.heap.size < w6.heap.size := by omega
  have hw36 : W.heap.size < w5.heap.size := by omega
  have hg6 : g1 < w6.heap.size := by omega
  have hgn : g1 ∉ [W.heap.size, w5.heap.size] := by simp; omega
  have hgne : g1 ≠ w5.heap.size := by omega
  have hg3 : g1 < w3.heap.size := by omega
  have q0 : w6.cell? ⟨g1, 0, none⟩ = some (.bool t.num.neg) := (HB36.out.cell (p := ⟨g1, 0, none⟩) hg3).trans r0
  have q1 : w6.cell? ⟨g1, 1, none⟩ = some (.slice B1 B2 B3) := (HB36.out.cell (p := ⟨g1, 1, none⟩) hg3).trans r1
  have q2 : w6.cell? ⟨g1, 2, none⟩ = some (.slice B4 B5 B6) := (HB36.out.cell (p := ⟨g1, 2, none⟩) hg3).trans r2
  have x0 : w6.cell? ⟨w5.heap.size, 0, none⟩ = some (.bool (rint 0).num.neg) := (hb6.cell (p := ⟨w5.heap.size, 0, none⟩) (by simp)).trans (by go_simp)
  have x1 : w6.cell? ⟨w5.heap.size, 1, none⟩ = some (.slice Z1 Z2 Z3) := (hb6.cell (p := ⟨w5.heap.size, 1, none⟩) (by simp)).trans (by go_simp)
  have x2 : w6.cell? ⟨w5.heap.size, 2, none⟩ = some (.slice Z4 Z5 Z6) := (hb6.cell (p := ⟨w5.heap.size, 2, none⟩) (by simp)).trans (by go_simp)
  have e0 : w6.frozen? ⟨w5.heap.size, 0, none⟩ = false := by obtain ⟨hc_w6, hf_w6⟩ := bcell hb6; go_simp
  have e1 : w6.frozen? ⟨w5.heap.size, 1, none⟩ = false := by obtain ⟨hc_w6, hf_w6⟩ := bcell hb6; go_simp
  have e2 : w6.frozen? ⟨w5.heap.size, 2, none⟩ = false := by obtain ⟨hc_w6, hf_w6⟩ := bcell hb6; go_simp
  have HGN := hid hgn
  have FS := hid (show ∀ L, (∃ k, L = (orderOf xs).take k) → trues (flags n L) n = L.mergeSort leI from fun L hL => by
    obtain ⟨k, rfl⟩ := hL
    rw [trues_flags, frac_sort, HL.out])
  clear hso hoo hb6 hsz6 hsz5 r0 r1 r2 HB56 HB36 HB35 HA5 HT3 RT3 ON3 ON5 hgn
  generalize hG0 : W.heap.size = G0 at *
  generalize hSB : w5.heap.size = SB at *
  clear hG0 hSB hsw
  go_wp2_with fail
  go_loopg [25] m (fun g sl wr => ∃ (k : Nat) (s : TRat) (L1 : Option Addr) (l1 k1 : Nat) (L2 : Option Addr) (l2 k2 : Nat) (rs : List Nat), k + g = m ∧ sl = .int .i64 k ∧ Hid (FracIn xs t m k s) ∧ Hid (Agg wr (.agg #[.bool s.num.neg, .slice L1 l1 k1, .slice L2 l2 k2]) s rs) ∧ Hid (∀ b ∈ rs, b ≠ SB ∧ b ≠ G0) ∧ Hid (BRow wr w.heap.size G0 n (flags n ((orderOf xs).take k))) ∧ Hid (Keeps w6 wr [G0, SB]) ∧ Hid (Below w.heap.size w wr) ∧ (wr.cell? ⟨SB, 0, none⟩ = some (.bool s.num.neg) ∧ wr.cell? ⟨SB, 1, none⟩ = some (.slice L1 l1 k1) ∧ wr.cell? ⟨SB, 2, none⟩ = some (.slice L2 l2 k2) ∧ wr.frozen? ⟨SB, 0, none⟩ = false ∧ wr.frozen? ⟨SB, 1, none⟩ = false ∧ wr.frozen? ⟨SB, 2, none⟩ = false))
  case atStart => exact ⟨0, rint 0, Z1, Z2, Z3, Z4, Z5, Z6, t2, by omega, rfl, FracIn.start _ _ _, HS6.out, RS6.out, ON6.out, Keeps.refl _ _, BW6.out, x0, x1, x2, e0, e1, e2⟩
  case round =>
    obtain ⟨k, s, L1, l1, k1, L2, l2, k2, rs, hk, rfl, hF, hag, hrs, hrow, hkp, hb, o0, o1, o2, f0, f1, f2⟩ := hrel
    have kp1 := hkp.out.1
    have j0 : wr.cell? ⟨g1, 0, none⟩ = some (.bool t.num.neg) := (hkp.out.cell (p := ⟨g1, 0, none⟩) hg6 HGN.out).trans q0
    have j1 : wr.cell? ⟨g1, 1, none⟩ = some (.slice B1 B2 B3) := (hkp.out.cell (p := ⟨g1, 1, none⟩) hg6 HGN.out).trans q1
    have j2 : wr.cell? ⟨g1, 2, none⟩ = some (.slice B4 B5 B6) := (hkp.out.cell (p := ⟨g1, 2, none⟩) hg6 HGN.out).trans q2
    have HTr := hid (hkp.out.agg HT6.out RT6.out)
    clear q0 q1 q2 x0 x1 x2 e0 e1 e2
    have TAIL := hid (fun (w7 : World) (hb7 : Below wr.heap.size wr w7) => spec_l09List G0 n (flags n ((orderOf xs).take k)) w7 (flags_len _ _) hn (hrow.out.below hb7).lt (fun i f hf => ((hrow.out.below hb7).cell hf).1))
    have hG0r := hid hrow.out.lt
    have hSr : SB < wr.heap.size := by omega
    have hgr : g1 < wr.heap.size := by omega
    rcases Nat.lt_or_ge k m with hkn | hkn
    · obtain ⟨bm, om, kk, rfl, hbm, hk1, hki64, hcm⟩ := Sl.getInt (hkp.out.sl HO6.out RO6.out) hkn
      have hkm := iota_mem (order_in (List.mem_of_getElem? hk1))
      rw [HL.out] at hkm
      obtain ⟨j, rfl⟩ := Int.eq_ofNat_of_zero_le hkm.1
      have hjn : j < n := by omega
      obtain ⟨be, offe, y, E1, q1, p1, E2, q2, p2, fy, rfl, hble, hy1, y0, y1, y2, hagy, hfy⟩ := TRat.elemB HX.out hb.out hjn
      have HY1 := hid hy1
      have HAY := hid hagy
      have HK1 := hid hk1
      have hji : (j : Int) < n := by omega
      have hji0 : (0 : Int) ≤ j := by omega
      have hki : (k : Int) < m := by omega
      have hbler : be < wr.heap.size := by have := hb.out.size; omega
      obtain ⟨gh, rfl⟩ : ∃ g, gk = g + 1 := ⟨gk - 1, by omega⟩
      have hk' := hid (show k + 1 + gh = m by omega)
      have hkk : (0 : Int) ≤ k := by omega
      cases ht : ratOkB t
      · have E := hid (MW.out ht)
        have OT := hid ht
        clear ht hk hkn hkm hjn hy1 hagy hfy hk1 hmm
        go_wp2_with fail
        have C := spec_RatOk _ t _ wr HTr.out
        rw [OT.out] at C
        refine C.mono ?_
        clear C
        rintro _ w7 ⟨rfl, hb7⟩
        obtain ⟨hc_w7, hf_w7⟩ := bcell hb7
        go_wp2
        go_ret
        rw [E.out]
        exact ⟨none, 0, 0, [], rfl, Sl.nil _, Own.nil _ _, Below.next hb.out hb7⟩
      cases hs : ratOkB s
      · have E := hid (MN.out (hF.out.bad hs))
        have OT := hid ht; have OS := hid hs
        clear ht hs hk hkn hkm hjn hy1 hagy hfy hk1 hmm
        go_wp2_with fail
        have C := spec_RatOk _ t _ wr HTr.out
        rw [OT.out] at C
        refine C.mono ?_
        clear C
        rintro _ w7 ⟨rfl, hb7⟩
        obtain ⟨hc_w7, hf_w7⟩ := bcell hb7
        have hsz7 := hb7.size
        have hSr7 : SB < w7.heap.size := by omega
        go_wp2_with fail
        have C := spec_RatOk _ s _ w7 (hag.out.below hb7)
        rw [OS.out] at C
        refine C.mono ?_
        clear C
        rintro _ w8 ⟨rfl, hb8⟩
        go_wp2
        go_ret
        rw [E.out]
        exact ⟨none, 0, 0, [], rfl, Sl.nil _, Own.nil _ _, Below.next (Below.next hb.out hb7) hb8⟩
      have RC := hid (show rcmp s t = rcmpV s t by unfold rcmp; rw [hs, ht]; rfl)
      have OT := hid ht; have OS := hid hs
      have MS2 := hid (MS.out ht)
      clear ht hs
      by_cases hc : 0 ≤ rcmpV s t
      · have E := hid (show trues (flags n ((orderOf xs).take k)) n = markFrac xs p by rw [FS.out _ ⟨k, rfl⟩, MS2.out _ ((hF.out.good OS.out).stop HK1.out hc)])
        have hc' : decide (0 ≤ rcmpV s t) = true := decide_eq_true hc
        have hc2 : decide (rcmpV s t ≥ 0) = true := decide_eq_true hc
        clear hc hk hkn hkm hjn hy1 hagy hfy hk1 hmm
        go_wp2_with fail
        have C := spec_RatOk _ t _ wr HTr.out
        rw [OT.out] at C
        refine C.mono ?_
        clear C
        rintro _ w7 ⟨rfl, hb7⟩
        obtain ⟨hc_w7, hf_w7⟩ := bcell hb7
        have hsz7 := hb7.size
        have hSr7 : SB < w7.heap.size := by omega
        have hgr7 : g1 < w7.heap.size := by omega
        go_wp2_with fail
        have C := spec_RatOk _ s _ w7 (hag.out.below hb7)
        rw [OS.out] at C
        refine C.mono ?_
        clear C
        rintro _ w8 ⟨rfl, hb8⟩
        obtain ⟨hc_w8, hf_w8⟩ := bcell hb8
        have hsz8 := hb8.size
        have hSr8 : SB < w8.heap.size := by omega
        have hgr8 : g1 < w8.heap.size := by omega
        go_wp2_with fail
        have C := spec_RatCmp _ _ s t _ _ w8 ((hag.out.below hb7).below hb8) ((HTr.out.below hb7).below hb8)
        rw [RC.out] at C
        refine C.mono ?_
        clear C
        rintro _ w9 ⟨rfl, hb9⟩
        have hb79 : Below wr.heap.size wr w9 := (hb7.trans (hb8.mono hb7.size)).trans (hb9.mono (by omega))
        go_wp2_with fail
        refine (TAIL.out w9 hb79).mono ?_
        rintro _ w10 ⟨A', n', c', bs', rfl, hs', ho', hb10⟩
        have HS := hid hs'; have HO := hid ho'
        clear hs' ho'
        go_wp2
        go_ret
        rw [← E.out]
        exact ⟨A', n', c', bs', rfl, HS.out, HO.out.older (by have := hb.out.size; have := hb79.size; omega), Below.next (Below.next hb.out hb79) hb10⟩
      · have hc' : decide (0 ≤ rcmpV s t) = false := decide_eq_false hc
        have hc2 : decide (rcmpV s t ≥ 0) = false := decide_eq_false hc
        have NF := hid (hF.out.step V.out OL.out OT.out (TS.out OT.out) OS.out hc HK1.out HY1.out)
        have TK := hid (take_get HK1.out)
        have FT := hid (flags_get n ((orderOf xs).take k) hjn)
        have HJN := hid hjn
        clear hc hk hkn hkm hjn hy1 hagy hfy hk1
        go_wp2_with fail
        have C := spec_RatOk _ t _ wr HTr.out
        rw [OT.out] at C
        refine C.mono ?_
        clear C
        rintro _ w7 ⟨rfl, hb7⟩
        obtain ⟨hc_w7, hf_w7⟩ := bcell hb7
        have hsz7 := hb7.size
        have hSr7 : SB < w7.heap.size := by omega
        have hgr7 : g1 < w7.heap.size := by omega
        go_wp2_with fail
        have C := spec_RatOk _ s _ w7 (hag.out.below hb7)
        rw [OS.out] at C
        refine C.mono ?_
        clear C
        rintro _ w8 ⟨rfl, hb8⟩
        obtain ⟨hc_w8, hf_w8⟩ := bcell hb8
        have hsz8 := hb8.size
        have hSr8 : SB < w8.heap.size := by omega
        have hgr8 : g1 < w8.heap.size := by omega
        go_wp2_with fail
        have C := spec_RatCmp _ _ s t _ _ w8 ((hag.out.below hb7).below hb8) ((HTr.out.below hb7).below hb8)
        rw [RC.out] at C
        refine C.mono ?_
        clear C
        rintro _ w9 ⟨rfl, hb9⟩
        have hb79 : Below wr.heap.size wr w9 := (hb7.trans (hb8.mono hb7.size)).trans (hb9.mono (by omega))
        have ROW9 := hid (hrow.out.below hb79)
        obtain ⟨z0, zf⟩ := ROW9.out.cell FT.out
        have hsz9 := hb9.size
        have hSr9 : SB < w9.heap.size := by omega
        have hgr9 : g1 < w9.heap.size := by omega
        have hG09 : G0 < w9.heap.size := ROW9.out.lt
        obtain ⟨hc_w9, hf_w9⟩ := bcell hb9
        have hne : SB ≠ G0 := by omega
        have hne' : G0 ≠ SB := by omega
        have u0 : w9.cell? ⟨SB, 0, none⟩ = some (.bool s.num.neg) := (hb79.cell (p := ⟨SB, 0, none⟩) hSr).trans o0
        have u1 : w9.cell? ⟨SB, 1, none⟩ = some (.slice L1 l1 k1) := (hb79.cell (p := ⟨SB, 1, none⟩) hSr).trans o1
        have u2 : w9.cell? ⟨SB, 2, none⟩ = some (.slice L2 l2 k2) := (hb79.cell (p := ⟨SB, 2, none⟩) hSr).trans o2
        have p0 : w9.frozen? ⟨SB, 0, none⟩ = false := (World.frozen?_of_block (a := ⟨SB, 0, none⟩) (hb79.block SB hSr)).trans f0
        have p1 : w9.frozen? ⟨SB, 1, none⟩ = false := (World.frozen?_of_block (a := ⟨SB, 1, none⟩) (hb79.block SB hSr)).trans f1
        have p2 : w9.frozen? ⟨SB, 2, none⟩ = false := (World.frozen?_of_block (a := ⟨SB, 2, none⟩) (hb79.block SB hSr)).trans f2
        have HAG9 := hid (hag.out.below hb79)
        have HB9 := hid (Below.next hb.out hb79)
        have KP9 := hid (hkp.out.next hb79)
        clear hc_w7 hf_w7 hc_w8 hf_w8 hc_w9 hf_w9 j0 j1 j2 o0 o1 o2 f0 f1 f2 y0 y1 y2 hb7 hb8 hb9 hb79 HAY
        go_wp2_with fail
        have HBS := hid (HB9.out.setCell (p := ⟨G0, j, none⟩) G3.out (.bool true))
        have HAGS := hid (HAG9.out.keep fun g hg => Below.heap_setCell w9 ⟨G0, j, none⟩ (.bool true) g (hrs.out g hg).2)
        have KPS := hid (KP9.out.set ⟨G0, j, none⟩ (.bool true) (.inl (by simp)))
        have ROWS := hid (show BRow (w9.setCell ⟨G0, j, none⟩ (.bool true)) w.heap.size G0 n (flags n ((orderOf xs).take (k + 1))) by rw [TK.out, ← flags_set]; exact ROW9.out.set j true)
        obtain ⟨be', offe', y', E1', q1', p1', E2', q2', p2', fy', hae, hble', hy1', y0', y1', y2', hagy', hfy'⟩ := TRat.elemB HX.out HBS.out HJN.out
        injection hae with hae; injection hae with hae1 hae2 _
        subst hae1; subst hae2
        have hyy : y' = y := by have h := HY1.out; rw [hy1'] at h; injection h
        subst hyy
        have HAYS := hid hagy'
        have v0 : (w9.setCell ⟨G0, j, none⟩ (.bool true)).cell? ⟨SB, 0, none⟩ = some (.bool s.num.neg) := by go_simp
        have v1 : (w9.setCell ⟨G0, j, none⟩ (.bool true)).cell? ⟨SB, 1, none⟩ = some (.slice L1 l1 k1) := by go_simp
        have v2 : (w9.setCell ⟨G0, j, none⟩ (.bool true)).cell? ⟨SB, 2, none⟩ = some (.slice L2 l2 k2) := by go_simp
        have p0' : (w9.setCell ⟨G0, j, none⟩ (.bool true)).frozen? ⟨SB, 0, none⟩ = false := by go_simp
        have p1' : (w9.setCell ⟨G0, j, none⟩ (.bool true)).frozen? ⟨SB, 1, none⟩ = false := by go_simp
        have p2' : (w9.setCell ⟨G0, j, none⟩ (.bool true)).frozen? ⟨SB, 2, none⟩ = false := by go_simp
        have hSrS : SB < (w9.setCell ⟨G0, j, none⟩ (.bool true)).heap.size := by simpa using hSr9
        have hbeS : be < (w9.setCell ⟨G0, j, none⟩ (.bool true)).heap.size := by have := HBS.out.size; omega
        have hG0S : G0 < (w9.setCell ⟨G0, j, none⟩ (.bool true)).heap.size := by simpa using hG09
        clear hagy' hfy' hy1' u0 u1 u2 p0 p1 p2 z0 zf
        generalize w9.setCell ⟨G0, j, none⟩ (.bool true) = wS at *
        refine wp_region_last (by simp) (by kernel_rfl) (by kernel_rfl) (by kernel_rfl) (by kernel_rfl) ?_
        dsimp only [List.dropLast, List.getLast, List.length]
        iterate 5
          apply walkM_eq
          case h =>
            intro yq zq wq hC hd
            obtain ⟨hcq, hfq⟩ := bcell hC
            simp at hd
            refine ⟨by go_simp; done, ?_⟩
            go_simp
            first | (go_ints; exact rfl) | (go_ints; rw [if_pos (by omega)]; try exact rfl) | exact rfl | (rw [if_pos (by omega)]; try exact rfl)
        refine walkM_call (MP.agg (radd s y')) ?_ ?_
        · intro yq zq wq hC hd
          obtain ⟨hcq, hfq⟩ := bcell hC
          simp at hd
          refine ⟨by go_simp; done, ?_⟩
          apply Exists.intro
          apply Exists.intro
          constructor
          · go_simp
            exact ⟨rfl, rfl⟩
          · exact gives_agg (spec_RatAdd _ _ s y' _ _ wq (Agg.below HAGS.out hC) (Agg.below HAYS.out hC))
        intro yq zq wb hC hd hdis0
        have hdis := hid hdis0
        clear hdis0
        simp at hd
        have q5 := hd.2.2.2.2.2
        obtain ⟨⟨ha5, hf5⟩, hr5⟩ := q5
        obtain ⟨D1, D2, D3, Dt, D4, D5, D6, Ds, y5, hz5, _, _⟩ := TRat.agg ha5
        rw [y5] at ha5
        have A5 := hid ha5
        have hsz := hC.size
        have R5 := hid (show ∀ b ∈ zq 5, b ≠ SB ∧ b ≠ G0 from fun b hb => by have := (hr5 b hb).1; omega)
        have HBb := hid (Below.next HBS.out hC)
        have KPb := hid (KPS.out.next hC)
        have ROWb := hid (ROWS.out.below hC)
        obtain ⟨hc_wb, hf_wb⟩ := bcell hC
        have hvS : SB < wb.heap.size := by omega
        clear hd hdis hz5 hr5 hf5 ha5 hsz
        generalize zq 5 = r9 at *
        go_wp2_with fail
        go_roundg gh
        case measure => omega
        case rel =>
          have hkeep : ∀ g, g ≠ SB → (((wb.setCell ⟨SB, 0, none⟩ (.bool (radd s y').num.neg)).setCell ⟨SB, 1, none⟩ (.slice D1 D2 D3)).setCell ⟨SB, 2, none⟩ (.slice D4 D5 D6)).heap[g]? = wb.heap[g]? :=
            fun g h1 => heap_setCells SB [.bool (radd s y').num.neg, .slice D1 D2 D3, .slice D4 D5 D6] wb 0 g h1
          exact ⟨k + 1, radd s y', D1, D2, D3, D4, D5, D6, r9, hk'.out, by go_num, NF.out, A5.out.keep fun g hg => hkeep g (R5.out g hg).1, R5.out, ((ROWb.out.other ⟨SB, 0, none⟩ (.bool (radd s y').num.neg) hne).other ⟨SB, 1, none⟩ (.slice D1 D2 D3) hne).other ⟨SB, 2, none⟩ (.slice D4 D5 D6) hne, ((KPb.out.set ⟨SB, 0, none⟩ (.bool (radd s y').num.neg) (.inl (by simp))).set ⟨SB, 1, none⟩ (.slice D1 D2 D3) (.inl (by simp))).set ⟨SB, 2, none⟩ (.slice D4 D5 D6) (.inl (by simp)), ((HBb.out.setCell (p := ⟨SB, 0, none⟩) hw5 (.bool (radd s y').num.neg)).setCell (p := ⟨SB, 1, none⟩) hw5 (.slice D1 D2 D3)).setCell (p := ⟨SB, 2, none⟩) hw5 (.slice D4 D5 D6), by go_simp, by go_simp, by go_simp, by go_simp, by go_simp, by go_simp⟩
    · have hki : ¬ ((k : Int) < m) := by omega
      have hke : k = m := by omega
      subst hke
      have E := hid (show trues (flags n ((orderOf xs).take k)) n = markFrac xs p by
        rcases Nat.eq_zero_or_pos k with h0 | h0
        · have hx0 : xs = [] := List.eq_nil_of_length_eq_zero (by rw [XM.out, h0])
          have hn0 : n = 0 := by rw [← HL.out, hx0]; rfl
          rw [hx0, markFrac_nil, hn0]; rfl
        · have ht := hF.out.want h0
          have hs := hF.out.last rfl
          rw [FS.out _ ⟨k, rfl⟩, List.take_of_length_le (by rw [OL.out]; exact Nat.le_refl _), MS.out ht _ (FracAt.done (by rw [OL.out]; exact hF.out.good hs))])
      clear hk hkn hmm
      go_wp2_with fail
      refine (TAIL.out wr (Below.refl _ _)).mono ?_
      rintro _ w10 ⟨A', n', c', bs', rfl, hs', ho', hb10⟩
      have HS := hid hs'; have HO := hid ho'
      clear hs' ho'
      go_wp2
      go_ret
      rw [← E.out]
      exact ⟨A', n', c', bs', rfl, HS.out, HO.out.older hb.out.size, Below.next hb.out hb10⟩
end Go.Proofs.YthlpjpcnpcclhaaGreat.X
