/- MarkFraction of the program. -/
import Derived.Test.YtleegelljgnlpaaGreatXPush
import Derived.Test.YtleegelljgnlpaaGreatXSortI0
import Derived.Test.YtleegelljgnlpaaGreatXOrder2
namespace Go.Proofs.YtleegelljgnlpaaGreat.X
open Go.RowKit Go.XB Go.XN Go.XS
attribute [local go_sem] fillBy opAt deps depOf Region.wanted yielded
attribute [local simp] deps depOf MP.eq MP.agg MP.sl Facts
set_option linter.constructorNameAsVariable false

set_option maxHeartbeats 4000000 in
set_option maxRecDepth 10000 in
theorem impl_MarkFraction (A : Option Addr) (n c : Nat) (xs : List TRat) (bs : List Nat) (v : Value) (p : TRat) (b : List Nat) (w : World) (hx : Sl w A n c xs bs) (hp : Agg w v p b) (hn : n ≤ 1048576) :
    Calls Tryz.prog 6 #[.slice A n c, v] w (GivesSl w (markFrac xs p)) := by
  have HL := hid hx.1
  have HX := hid hx
  have HP := hid hp
  obtain ⟨i0, hi, hz0, hz1, hz2⟩ := info_parts infoI
  obtain ⟨A1, n1, c1, s1, A2, n2, c2, s2, rfl, rfl, hs1, hs2⟩ := TRat.agg hp
  clear hs1 hs2 hp hx
  cases hsh : sharesB xs p
  · have E := hid (markFrac_share hsh)
    have SH := hid hsh
    clear hsh
    go_enter Tryz.func6, Tryz.ntmps6
    go_wp2_with fail
    have C := impl_areShares A n c xs _ _ p _ (w.alloc (.cells #[.bool p.num.neg, .slice A1 n1 c1, .slice A2 n2 c2] 29)) (Sl.below HX.out (by (repeat (first | (with_reducible exact Below.refl _ _) | ((with_reducible refine Below.set ?_ ?_ _); rotate_left; (simp <;> omega)) | (with_reducible refine Below.box_ ?_ _) | (with_reducible refine Below.next ?_ (by assumption)))))) (Agg.below HP.out (by (repeat (first | (with_reducible exact Below.refl _ _) | ((with_reducible refine Below.set ?_ ?_ _); rotate_left; (simp <;> omega)) | (with_reducible refine Below.box_ ?_ _) | (with_reducible refine Below.next ?_ (by assumption))))))
    rw [SH.out] at C
    refine C.mono ?_
    clear C
    rintro _ w1 ⟨rfl, hb1⟩
    go_wp2
    go_ret
    rw [E.out]
    exact ⟨none, 0, 0, [], rfl, Sl.nil _, Own.nil _ _, by (repeat (first | (with_reducible exact Below.refl _ _) | ((with_reducible refine Below.set ?_ ?_ _); rotate_left; (simp <;> omega)) | (with_reducible refine Below.box_ ?_ _) | (with_reducible refine Below.next ?_ (by assumption))))⟩
  have SH := hid hsh
  have V := hid (shares_ratV hsh)
  have MS := hid (fun (h1 : ratOkB (rmul p (rsum xs)) = true) (l : List Int) => markFrac_some (l := l) hsh h1)
  have MN := hid (markFrac_none (xs := xs) (p := p))
  have MW := hid (markFrac_want (xs := xs) (p := p))
  have TD := hid (rmul_den p (rsum xs))
  clear hsh
  go_enter Tryz.func6, Tryz.ntmps6
  go_wp2_with fail
  have C := impl_areShares A n c xs _ _ p _ (w.alloc (.cells #[.bool p.num.neg, .slice A1 n1 c1, .slice A2 n2 c2] 29)) (Sl.below HX.out (by (repeat (first | (with_reducible exact Below.refl _ _) | ((with_reducible refine Below.set ?_ ?_ _); rotate_left; (simp <;> omega)) | (with_reducible refine Below.box_ ?_ _) | (with_reducible refine Below.next ?_ (by assumption)))))) (Agg.below HP.out (by (repeat (first | (with_reducible exact Below.refl _ _) | ((with_reducible refine Below.set ?_ ?_ _); rotate_left; (simp <;> omega)) | (with_reducible refine Below.box_ ?_ _) | (with_reducible refine Below.next ?_ (by assumption))))))
  rw [SH.out] at C
  refine C.mono ?_
  clear C
  rintro _ w1 ⟨rfl, hb1⟩
  obtain ⟨hc_w1, hf_w1⟩ := bcell hb1
  have hz0_w1 : w.heap.size < w1.heap.size := by have := hb1.size; (try simp at this); omega
  have HB1 := hid (show Below w.heap.size w w1 by (repeat (first | (with_reducible exact Below.refl _ _) | ((with_reducible refine Below.set ?_ ?_ _); rotate_left; (simp <;> omega)) | (with_reducible refine Below.box_ ?_ _) | (with_reducible refine Below.next ?_ (by assumption)))))
  go_wp2_with fail
  refine wp_region_line 5 (by kernel_rfl) (by kernel_rfl) (by kernel_rfl) (by kernel_rfl) (by kernel_rfl) ?_
  simp only [List.take_succ_cons, List.take_zero, List.drop_succ_cons, List.drop_zero]
  iterate 2
    apply walkM_eq
    case h =>
      intro yq zq wq hC hd
      obtain ⟨hcq, hfq⟩ := bcell hC
      simp at hd
      refine ⟨by go_simp; done, ?_⟩
      go_simp
      first | (go_ints; exact rfl) | (go_ints; rw [if_pos (by omega)]; try exact rfl) | exact rfl | (rw [if_pos (by omega)]; try exact rfl)
  refine walkM_call (MP.agg (rsum xs)) ?_ ?_
  · intro yq zq wq hC hd
    obtain ⟨hcq, hfq⟩ := bcell hC
    simp at hd
    refine ⟨by go_simp; done, ?_⟩
    apply Exists.intro
    apply Exists.intro
    constructor
    · go_simp
      exact ⟨rfl, rfl⟩
    · exact gives_agg (impl_SumOf A n c xs _ wq (Sl.below HX.out (Below.next HB1.out hC)))
  refine walkM_call (MP.agg (rmul p (rsum xs))) ?_ ?_
  · intro yq zq wq hC hd
    obtain ⟨hcq, hfq⟩ := bcell hC
    simp at hd
    refine ⟨by go_simp; done, ?_⟩
    apply Exists.intro
    apply Exists.intro
    constructor
    · go_simp
      exact ⟨rfl, rfl⟩
    · obtain ⟨_, t, _⟩ := hd
      exact gives_agg (impl_RatMul _ _ p (rsum xs) _ _ wq (Agg.below HP.out (Below.next HB1.out hC)) t)
  refine walkM_new #[.bool false, .slice none 0 0, .slice none 0 0] 29 ?_ ?_
  · intro yq zq wq hC hd
    refine ⟨by go_simp; done, ?_⟩
    go_simp
  intro yq zq wa hC hd hdis0
  have hdis := hid hdis0
  clear hdis0
  simp at hd
  have q3 := hd.2.2.2.1
  have q4 := hd.2.2.2.2
  obtain ⟨⟨ha3, hf3⟩, hr3⟩ := q3
  obtain ⟨B1, B2, B3, Bt, B4, B5, B6, Bs, y3, hz3, _, _⟩ := TRat.agg ha3
  obtain ⟨⟨g1, y4, z4, hg1⟩, hr4⟩ := q4
  rw [y3] at ha3
  rw [z4] at hr4
  have D3 := hid (show ∀ b ∈ zq 3, b ≠ g1 from fun b hb e => by have := hdis.out 3 4 (by decide) (by decide) (by decide) b hb; rw [z4] at this; simp [e] at this)
  have hgr1 := hr4 g1 (by simp)
  obtain ⟨b1c0, b1f0⟩ := box_cell hg1 (j := 0) rfl
  obtain ⟨b1c1, b1f1⟩ := box_cell hg1 (j := 1) rfl
  obtain ⟨b1c2, b1f2⟩ := box_cell hg1 (j := 2) rfl
  have A3 := hid ha3
  have R3 := hid (show ∀ b ∈ zq 3, b < wa.heap.size from ha3.lt)
  have HBA := hid (Below.next HB1.out hC)
  have hsz1 := hb1.size
  have hg1a : w.heap.size ≤ g1 := by simp at hsz1; omega
  have hg1b : g1 < wa.heap.size := hgr1.2
  clear hd hdis hz3 hr3 hr4 hf3 ha3 hg1 z4 hsz1
  generalize rmul p (rsum xs) = t at *
  generalize zq 3 = rt at *
  go_wp2_with fail
  have hkeep : ∀ g, g ≠ g1 → (((wa.setCell ⟨g1, 0, none⟩ (.bool t.num.neg)).setCell ⟨g1, 1, none⟩ (.slice B1 B2 B3)).setCell ⟨g1, 2, none⟩ (.slice B4 B5 B6)).heap[g]? = wa.heap[g]? := fun g h1 => heap_setCells g1 [.bool t.num.neg, .slice B1 B2 B3, .slice B4 B5 B6] wa 0 g h1
  have HT := hid (A3.out.keep fun g hg => hkeep g (D3.out g hg))
  have HBW := hid (show Below w.heap.size w (((wa.setCell ⟨g1, 0, none⟩ (.bool t.num.neg)).setCell ⟨g1, 1, none⟩ (.slice B1 B2 B3)).setCell ⟨g1, 2, none⟩ (.slice B4 B5 B6)) from ((HBA.out.setCell (p := ⟨g1, 0, none⟩) hg1a _).setCell (p := ⟨g1, 1, none⟩) hg1a _).setCell (p := ⟨g1, 2, none⟩) hg1a _)
  clear hkeep
  have C := impl_isRat _ t _ (((wa.setCell ⟨g1, 0, none⟩ (.bool t.num.neg)).setCell ⟨g1, 1, none⟩ (.slice B1 B2 B3)).setCell ⟨g1, 2, none⟩ (.slice B4 B5 B6)) HT.out
  rw [TD.out] at C
  cases ht : ratOkB t
  · have E := hid (MW.out ht)
    rw [ht] at C
    refine C.mono ?_
    clear C
    rintro _ w3 ⟨rfl, hb3⟩
    go_wp2
    go_ret
    rw [E.out]
    exact ⟨none, 0, 0, [], rfl, Sl.nil _, Own.nil _ _, Below.next HBW.out hb3⟩
  rw [ht] at C
  have VT := hid (ratOkB_iff.1 ht)
  have MS2 := hid (MS.out ht)
  clear ht
  refine C.mono ?_
  clear C
  rintro _ w3 ⟨rfl, hb3⟩
  have hsz3 := hb3.size
  simp at hsz3
  have hg3 : g1 < w3.heap.size := by omega
  have k0 : w3.cell? ⟨g1, 0, none⟩ = some (.bool t.num.neg) := (hb3.cell (p := ⟨g1, 0, none⟩) (by simpa using hg1b)).trans (by go_simp)
  have k1 : w3.cell? ⟨g1, 1, none⟩ = some (.slice B1 B2 B3) := (hb3.cell (p := ⟨g1, 1, none⟩) (by simpa using hg1b)).trans (by go_simp)
  have k2 : w3.cell? ⟨g1, 2, none⟩ = some (.slice B4 B5 B6) := (hb3.cell (p := ⟨g1, 2, none⟩) (by simpa using hg1b)).trans (by go_simp)
  have HT3 := hid (HT.out.below hb3)
  have RT3 := hid (show ∀ b ∈ rt, b < w3.heap.size from fun b hb => by have := R3.out b hb; omega)
  have HB3 := hid (Below.next HBW.out hb3)
  have W3 := hid HB3.out.size
  clear hb3 hsz3 b1c0 b1c1 b1c2 b1f0 b1f1 b1f2 HT A3 HBA HBW D3 hc_w1 hf_w1 hC hb1 hgr1 hg1b TD MW MS
  go_wp2_with fail
  refine (impl_RatFromInt 0 (w3.alloc (.cells #[] 3)) (by constructor <;> decide)).mono ?_
  rintro _ w5 ⟨v2, t2, rfl, ha2, ho2, hb5⟩
  obtain ⟨Z1, Z2, Z3, Zt, Z4, Z5, Z6, Zs, rfl, hz, _, _⟩ := TRat.agg ha2
  have hsz5 := hb5.size
  simp at hsz5
  have HA5 := hid ha2
  have HR5 := hid (show ∀ b ∈ t2, w3.heap.size + 1 ≤ b ∧ b < w5.heap.size from fun b hb => by have := ho2.range b hb; simpa using this)
  have HB35 := hid (show Below w3.heap.size w3 w5 from Below.trans (Below.box _) (hb5.mono (by simp)))
  have ROW5 := hid (show Row w5 w.heap.size w3.heap.size 0 0 [] from ownsRow_below (World.ownsRow_made w3 #[] 0 W3.out (Nat.zero_le _) rfl) hb5)
  clear ha2 ho2 hz hb5
  go_wp2_with fail
  refine (impl_OrderOf A n c xs _ (w5.alloc (.cells #[.bool (rint 0).num.neg, .slice Z1 Z2 Z3, .slice Z4 Z5 Z6] 29)) (Sl.below HX.out (Below.next (Below.next HB3.out HB35.out) (Below.box _))) hn).mono ?_
  rintro _ w6 ⟨B, m, d, ds, rfl, hso, hoo, hb6⟩
  have hsz6 := hb6.size
  simp at hsz6
  have HB56 := hid (show Below w5.heap.size w5 w6 from Below.trans (Below.box _) (hb6.mono (by simp)))
  have HB36 := hid (show Below w3.heap.size w3 w6 from Below.trans HB35.out (HB56.out.mono (by omega)))
  have BW6 := hid (show Below w.heap.size w w6 from Below.next HB3.out HB36.out)
  have HX6 := hid (HX.out.below BW6.out)
  have HT6 := hid (HT3.out.below HB36.out)
  have HS6 := hid (HA5.out.below HB56.out)
  have HO6 := hid hso
  have RT6 := hid (show ∀ b ∈ rt, b ∉ [w3.heap.size, w5.heap.size] from fun b hb => by have := RT3.out b hb; simp; omega)
  have RO6 := hid (show ∀ b ∈ ds, b ∉ [w3.heap.size, w5.heap.size] from fun b hb => by have := (hoo.range b hb).1; simp at this; simp; omega)
  have RS6 := hid (show ∀ b ∈ t2, b ≠ w5.heap.size ∧ b ≠ w3.heap.size from fun b hb => by have := HR5.out b hb; omega)
  have ROW6 := hid (show Row w6 w.heap.size w3.heap.size 0 0 [] from ownsRow_below ROW5.out HB56.out)
  have OL := hid (show (orderOf xs).length = m from hso.1)
  have MN6 := hid (show m ≤ 1048576 by rw [← hso.1, order_length V.out, HL.out]; exact hn)
  have hmm : m ≤ 1048576 := MN6.out
  have G3 := hid (show w.heap.size ≤ w3.heap.size from W3.out)
  have hw5 : w.heap.size ≤ w5.heap.size := by have := W3.out; omega
  have hw56 : w5.heap.size < w6.heap.size := by omega
  have hw36 : w3.heap.size < w5.heap.size := by omega
  have hg6 : g1 < w6.heap.size := by omega
  have hgn : g1 ∉ [w3.heap.size, w5.heap.size] := by simp; omega
  have hgne : g1 ≠ w5.heap.size := by omega
  have q0 : w6.cell? ⟨g1, 0, none⟩ = some (.bool t.num.neg) := (HB36.out.cell (p := ⟨g1, 0, none⟩) hg3).trans k0
  have q1 : w6.cell? ⟨g1, 1, none⟩ = some (.slice B1 B2 B3) := (HB36.out.cell (p := ⟨g1, 1, none⟩) hg3).trans k1
  have q2 : w6.cell? ⟨g1, 2, none⟩ = some (.slice B4 B5 B6) := (HB36.out.cell (p := ⟨g1, 2, none⟩) hg3).trans k2
  have x0 : w6.cell? ⟨w5.heap.size, 0, none⟩ = some (.bool (rint 0).num.neg) := (hb6.cell (p := ⟨w5.heap.size, 0, none⟩) (by simp)).trans (by go_simp)
  have x1 : w6.cell? ⟨w5.heap.size, 1, none⟩ = some (.slice Z1 Z2 Z3) := (hb6.cell (p := ⟨w5.heap.size, 1, none⟩) (by simp)).trans (by go_simp)
  have x2 : w6.cell? ⟨w5.heap.size, 2, none⟩ = some (.slice Z4 Z5 Z6) := (hb6.cell (p := ⟨w5.heap.size, 2, none⟩) (by simp)).trans (by go_simp)
  have e0 : w6.frozen? ⟨w5.heap.size, 0, none⟩ = false := by obtain ⟨hc_w6, hf_w6⟩ := bcell hb6; go_simp
  have e1 : w6.frozen? ⟨w5.heap.size, 1, none⟩ = false := by obtain ⟨hc_w6, hf_w6⟩ := bcell hb6; go_simp
  have e2 : w6.frozen? ⟨w5.heap.size, 2, none⟩ = false := by obtain ⟨hc_w6, hf_w6⟩ := bcell hb6; go_simp
  clear hso hoo hb6 hsz6 hsz5 k0 k1 k2 HB56 HB36 HB35 HA5 HT3 RT3 ROW5
  have HGN := hid hgn
  clear hgn
  generalize hG0 : w3.heap.size = G0 at *
  generalize hSB : w5.heap.size = SB at *
  go_wp2_with fail
  go_loopg [6, 26] m (fun g ov sl wr => ∃ (k gB cap : Nat) (s : TRat) (L1 : Option Addr) (l1 k1 : Nat) (L2 : Option Addr) (l2 k2 : Nat) (rs : List Nat), k + g = m ∧ sl = .int .i64 k ∧ ov = .slice (some ⟨gB, 0, none⟩) k cap ∧ Hid (FracAt xs t (orderOf xs) k s ∧ RatV s) ∧ Hid (Agg wr (.agg #[.bool s.num.neg, .slice L1 l1 k1, .slice L2 l2 k2]) s rs) ∧ Hid (∀ b ∈ rs, b ≠ SB ∧ b ≠ gB) ∧ Hid (Row wr w.heap.size gB k cap ((orderOf xs).take k)) ∧ Hid (gB = G0 ∨ w6.heap.size ≤ gB) ∧ Hid (Keeps w6 wr [G0, SB]) ∧ Hid (Below w.heap.size w wr) ∧ (wr.cell? ⟨SB, 0, none⟩ = some (.bool s.num.neg) ∧ wr.cell? ⟨SB, 1, none⟩ = some (.slice L1 l1 k1) ∧ wr.cell? ⟨SB, 2, none⟩ = some (.slice L2 l2 k2) ∧ wr.frozen? ⟨SB, 0, none⟩ = false ∧ wr.frozen? ⟨SB, 1, none⟩ = false ∧ wr.frozen? ⟨SB, 2, none⟩ = false))
  case atStart => exact ⟨0, G0, 0, rint 0, Z1, Z2, Z3, Z4, Z5, Z6, t2, by omega, rfl, rfl, ⟨FracAt.start _ _ _, zero_ratV⟩, HS6.out, RS6.out, ROW6.out, .inl rfl, Keeps.refl _ _, BW6.out, x0, x1, x2, e0, e1, e2⟩
  case round =>
    obtain ⟨k, gB, cap, s, L1, l1, k1, L2, l2, k2, rs, hk, rfl, rfl, hF, hag, hrs, hrow, hgB, hkp, hb, o0, o1, o2, f0, f1, f2⟩ := hrel
    have kp1 := hkp.out.1
    have j0 : wr.cell? ⟨g1, 0, none⟩ = some (.bool t.num.neg) := (hkp.out.cell (p := ⟨g1, 0, none⟩) hg6 HGN.out).trans q0
    have j1 : wr.cell? ⟨g1, 1, none⟩ = some (.slice B1 B2 B3) := (hkp.out.cell (p := ⟨g1, 1, none⟩) hg6 HGN.out).trans q1
    have j2 : wr.cell? ⟨g1, 2, none⟩ = some (.slice B4 B5 B6) := (hkp.out.cell (p := ⟨g1, 2, none⟩) hg6 HGN.out).trans q2
    have HTr := hid (hkp.out.agg HT6.out RT6.out)
    clear q0 q1 q2 x0 x1 x2 e0 e1 e2
    have TAIL := hid (fun (w7 : World) (hb7 : Below wr.heap.size wr w7) => sort_ints_row w.heap.size gB k cap ((orderOf xs).take k) w7 (ownsRow_below hrow.out hb7) (by omega))
    have hgl : w.heap.size ≤ gB := by
      rcases hgB.out with h | h
      · rw [h]; exact G3.out
      · have := BW6.out.size; omega
    have FIN := hid (fun (w7 w8 : World) (hb7 : Below wr.heap.size wr w7) (h8 : w7.grownBy w8 (some gB)) => show Below w.heap.size w w8 from (Below.next hb.out hb7).grown h8 (by have := hb.out.size; have := hb7.size; omega) (fun k2 hk2 => by injection hk2 with h; subst h; exact hgl))
    rcases Nat.lt_or_ge k m with hkn | hkn
    · obtain ⟨bm, om, kk, rfl, hbm, hk1, hki64, hcm⟩ := Sl.getInt (hkp.out.sl HO6.out RO6.out) hkn
      have hkm := iota_mem (order_in (List.mem_of_getElem? hk1))
      rw [HL.out] at hkm
      obtain ⟨j, rfl⟩ := Int.eq_ofNat_of_zero_le hkm.1
      have hjn : j < n := by omega
      obtain ⟨be, offe, y, E1, q1, p1, E2, q2, p2, fy, rfl, hble, hy1, y0, y1, y2, hagy, hfy⟩ := TRat.elemB HX.out hb.out hjn
      have HY1 := hid hy1
      have HAY := hid hagy
      have HK1 := hid hk1
      have hji : (j : Int) < n := by omega
      have hji0 : (0 : Int) ≤ j := by omega
      have hki : (k : Int) < m := by omega
      have hbler : be < wr.heap.size := by have := hb.out.size; omega
      have hSr : SB < wr.heap.size := by omega
      have hgr : g1 < wr.heap.size := by omega
      obtain ⟨gh, rfl⟩ : ∃ g, gk = g + 1 := ⟨gk - 1, by omega⟩
      have hk' := hid (show k + 1 + gh = m by omega)
      have hkk : (0 : Int) ≤ k := by omega
      have KD := hid (show xs.getD (j : Int).toNat zeroR = y by simp [List.getD_eq_getElem?_getD, HY1.out])
      by_cases hs : 0 ≤ rcmpV s t
      · have E := hid (MS2.out _ (hF.out.1.stop HK1.out hs))
        have hs' : decide (0 ≤ rcmpV s t) = true := decide_eq_true hs
        have hs2 : decide (rcmpV s t ≥ 0) = true := decide_eq_true hs
        have KM := hid (show k ≤ m by omega)
        clear hs hk hkn hkm hjn hy1 hagy hfy hk1 hmm
        go_wp2_with fail
        refine (impl_compare _ _ s t _ _ wr hag.out HTr.out hF.out.2 VT.out).mono ?_
        rintro _ w7 ⟨rfl, hb7⟩
        go_wp2_with fail
        refine (TAIL.out w7 hb7).mono ?_
        rintro _ w8 ⟨rfl, hrow8, hgr8⟩
        have R8 := hid hrow8; have B8 := hid (FIN.out w7 w8 hb7 hgr8)
        clear hrow8 hgr8
        go_wp2
        go_ret
        rw [E.out]
        refine gives_row R8.out (by rw [List.length_mergeSort, List.length_take, OL.out]; have := KM.out; omega) (fun x hx => ?_) B8.out
        have := iota_mem (order_in (List.mem_of_mem_take (List.mem_mergeSort.1 hx)))
        have := HL.out
        unfold I64; omega
      · have hs' : decide (0 ≤ rcmpV s t) = false := decide_eq_false hs
        have hs2 : decide (rcmpV s t ≥ 0) = false := decide_eq_false hs
        have C3 := hid (show k + 1 ≤ maxLen by unfold maxLen; omega)
        have C4 := hid (show (k + 1) * 8 ≤ 140737488355328 by omega)
        have NX := hid (show ratOkB (radd s y) = true → FracAt xs t (orderOf xs) (k + 1) (radd s y) from fun ho => by have := hF.out.1.next HK1.out hs (by rw [KD.out]; exact ho); rwa [KD.out] at this)
        have BD := hid (show ratOkB (radd s y) = false → markFrac xs p = [] from fun ho => MN.out (hF.out.1.bad HK1.out hs (by rw [KD.out, ho]; simp)))
        have HJN := hid hjn
        have TK := hid (take_get HK1.out)
        clear hs hk hkn hkm hjn hy1 hagy hfy hk1
        go_wp2_with fail
        refine (impl_compare _ _ s t _ _ wr hag.out HTr.out hF.out.2 VT.out).mono ?_
        rintro _ w7 ⟨rfl, hb7⟩
        obtain ⟨hc_w7, hf_w7⟩ := bcell hb7
        have hsz7 := hb7.size
        have hbm7 : bm < w7.heap.size := by omega
        have hbe7 : be < w7.heap.size := by omega
        have hSB7 : SB < w7.heap.size := by omega
        have hown : w7.ownsRow w.heap.size 3 1 (.slice (some ⟨gB, 0, none⟩) k cap) k (((orderOf xs).take k).map (.int .i64)) := ownsRow_below hrow.out hb7
        have C5 := hid (show w.heap.size ≤ w7.heap.size by have := hb.out.size; omega)
        go_wp2_with (at_builtin; refine wpList_push rfl _ _ 25 rfl w.heap.size 3 i0 (.int .i64 0) 1 8 Tryz.underlying25 hi hz0 hz1 hz2 rfl (by decide) gB k cap _ rfl (hown.alloc _) ⟨w7.heap.size, 0, none⟩ 1 1 [.int .i64 j] rfl rfl (cell_one_new _ _ _) (fun x hx => by simp at hx; subst hx; rfl) C3.out C4.out (le_alloc C5.out _) ?_; intro g' cap' w8 hown' hgrow' hor')
        have hown7 := hown'
        rw [← List.map_singleton, ← List.map_append] at hown7
        have ROW8 := hid (show Row w8 w.heap.size g' (k + 1) cap' ((orderOf xs).take (k + 1)) by rw [TK.out]; exact hown7)
        have hgr8 : w7.grownBy w8 (some gB) := (grown_below (Below.box _) _).trans hgrow'
        have KP8 := hid (show Keeps w6 w8 [G0, SB] from (hkp.out.next hb7).grown hgr8 (by rcases hgB.out with h | h; (left; simp [h]); (right; exact h)))
        have GB8 := hid (show g' = G0 ∨ w6.heap.size ≤ g' by
          rcases hor' with h | h
          · rw [h]; exact hgB.out
          · right; rw [h]; simp; omega)
        have B8 := hid (show Below w.heap.size w w8 from (Below.next hb.out hb7).grown hgr8 (by omega) (fun k2 hk2 => by injection hk2 with h; subst h; exact hgl))
        have SZ8 : w7.heap.size ≤ w8.heap.size := hgr8.size
        have HAG8 := hid (show Agg w8 _ s rs from (hag.out.below hb7).keep fun g hg => hgr8.block g (by have := (hag.out.below hb7).lt g hg; exact this) (by intro e; injection e with e; exact (hrs.out g hg).2 e))
        have HX8 := hid (HX.out.below B8.out)
        have hSBg : SB ≠ gB := by
          rcases hgB.out with h | h
          · rw [h]; omega
          · omega
        have hne8 : SB ≠ g' := by
          rcases hor' with h | h
          · rw [h]; exact hSBg
          · rw [h]; simp; omega
        have u0 : w8.cell? ⟨SB, 0, none⟩ = some (.bool s.num.neg) := (World.cell?_of_block (a := ⟨SB, 0, none⟩) (hgr8.block SB hSB7 (by intro e; injection e with e; exact hSBg e))).trans (by go_simp)
        have u1 : w8.cell? ⟨SB, 1, none⟩ = some (.slice L1 l1 k1) := (World.cell?_of_block (a := ⟨SB, 1, none⟩) (hgr8.block SB hSB7 (by intro e; injection e with e; exact hSBg e))).trans (by go_simp)
        have u2 : w8.cell? ⟨SB, 2, none⟩ = some (.slice L2 l2 k2) := (World.cell?_of_block (a := ⟨SB, 2, none⟩) (hgr8.block SB hSB7 (by intro e; injection e with e; exact hSBg e))).trans (by go_simp)
        have p0 : w8.frozen? ⟨SB, 0, none⟩ = false := (World.frozen?_of_block (a := ⟨SB, 0, none⟩) (hgr8.block SB hSB7 (by intro e; injection e with e; exact hSBg e))).trans (by go_simp)
        have p1 : w8.frozen? ⟨SB, 1, none⟩ = false := (World.frozen?_of_block (a := ⟨SB, 1, none⟩) (hgr8.block SB hSB7 (by intro e; injection e with e; exact hSBg e))).trans (by go_simp)
        have p2 : w8.frozen? ⟨SB, 2, none⟩ = false := (World.frozen?_of_block (a := ⟨SB, 2, none⟩) (hgr8.block SB hSB7 (by intro e; injection e with e; exact hSBg e))).trans (by go_simp)
        obtain ⟨be', offe', y', E1', q1', p1', E2', q2', p2', fy', hae, hble', hy1', y0', y1', y2', hagy', hfy'⟩ := TRat.elemB HX.out B8.out HJN.out
        injection hae with hae; injection hae with hae1 hae2 _
        subst hae1; subst hae2
        have hyy : y' = y := by have h := HY1.out; rw [hy1'] at h; injection h
        subst hyy
        have HAY8 := hid hagy'
        clear y0 y1 y2 HAY hc_w7 hf_w7 hown' hown7 hgrow' hor' hagy' hfy' hy1' j0 j1 j2 o0 o1 o2 f0 f1 f2
        clear hb7
        have hSB8 : SB < w8.heap.size := by omega
        have hbe8 : be < w8.heap.size := by omega
        go_wp2_with fail
        refine wp_region_last (by simp) (by kernel_rfl) (by kernel_rfl) (by kernel_rfl) (by kernel_rfl) ?_
        dsimp only [List.dropLast, List.getLast, List.length]
        iterate 5
          apply walkM_eq
          case h =>
            intro yq zq wq hC hd
            obtain ⟨hcq, hfq⟩ := bcell hC
            simp at hd
            refine ⟨by go_simp; done, ?_⟩
            go_simp
            first | (go_ints; exact rfl) | (go_ints; rw [if_pos (by omega)]; try exact rfl) | exact rfl | (rw [if_pos (by omega)]; try exact rfl)
        refine walkM_call (MP.agg (radd s y')) ?_ ?_
        · intro yq zq wq hC hd
          obtain ⟨hcq, hfq⟩ := bcell hC
          simp at hd
          refine ⟨by go_simp; done, ?_⟩
          apply Exists.intro
          apply Exists.intro
          constructor
          · go_simp
            exact ⟨rfl, rfl⟩
          · exact gives_agg (impl_RatAdd _ _ s y' _ _ wq (Agg.below HAG8.out hC) (Agg.below HAY8.out hC))
        intro yq zq wb hC hd hdis0
        have hdis := hid hdis0
        clear hdis0
        simp at hd
        have q5 := hd.2.2.2.2.2
        obtain ⟨⟨ha5, hf5⟩, hr5⟩ := q5
        obtain ⟨D1, D2, D3, Dt, D4, D5, D6, Ds, y5, hz5, _, _⟩ := TRat.agg ha5
        rw [y5] at ha5
        have A5 := hid ha5
        have hsz := hC.size
        have R5 := hid (show ∀ b ∈ zq 5, b ≠ SB ∧ b ≠ g' from fun b hb => by have := (hr5 b hb).1; have := ROW8.out.lt; omega)
        have HB9 := hid (Below.next B8.out hC)
        have KP9 := hid (KP8.out.next hC)
        have ROW9 := hid (show Row wb w.heap.size g' (k + 1) cap' ((orderOf xs).take (k + 1)) from ownsRow_below ROW8.out hC)
        obtain ⟨hc_wb, hf_wb⟩ := bcell hC
        have hvS : SB < wb.heap.size := by omega
        clear hd hdis hz5 hr5 hf5 ha5 hsz
        generalize zq 5 = r9 at *
        go_wp2_with fail
        have hkeep : ∀ g, g ≠ SB → (((wb.setCell ⟨SB, 0, none⟩ (.bool (radd s y').num.neg)).setCell ⟨SB, 1, none⟩ (.slice D1 D2 D3)).setCell ⟨SB, 2, none⟩ (.slice D4 D5 D6)).heap[g]? = wb.heap[g]? :=
          fun g h1 => heap_setCells SB [.bool (radd s y').num.neg, .slice D1 D2 D3, .slice D4 D5 D6] wb 0 g h1
        have HT9 := hid (A5.out.keep fun g hg => hkeep g (R5.out g hg).1)
        have HW9 := hid (((HB9.out.setCell (p := ⟨SB, 0, none⟩) hw5 (.bool (radd s y').num.neg)).setCell (p := ⟨SB, 1, none⟩) hw5 (.slice D1 D2 D3)).setCell (p := ⟨SB, 2, none⟩) hw5 (.slice D4 D5 D6))
        have KPS := hid (((KP9.out.set ⟨SB, 0, none⟩ (.bool (radd s y').num.neg) (.inl (by simp))).set ⟨SB, 1, none⟩ (.slice D1 D2 D3) (.inl (by simp))).set ⟨SB, 2, none⟩ (.slice D4 D5 D6) (.inl (by simp)))
        have ROWS := hid (((ROW9.out.other ⟨SB, 0, none⟩ (.bool (radd s y').num.neg) hne8).other ⟨SB, 1, none⟩ (.slice D1 D2 D3) hne8).other ⟨SB, 2, none⟩ (.slice D4 D5 D6) hne8)
        clear hkeep
        have C := impl_isRat _ (radd s y') _ (((wb.setCell ⟨SB, 0, none⟩ (.bool (radd s y').num.neg)).setCell ⟨SB, 1, none⟩ (.slice D1 D2 D3)).setCell ⟨SB, 2, none⟩ (.slice D4 D5 D6)) HT9.out
        rw [radd_den s y'] at C
        cases ho : ratOkB (radd s y')
        · have E := hid (BD.out ho)
          rw [ho] at C
          refine C.mono ?_
          clear C
          rintro _ w10 ⟨rfl, hb10⟩
          go_wp2
          go_ret
          rw [E.out]
          exact ⟨none, 0, 0, [], rfl, Sl.nil _, Own.nil _ _, Below.next HW9.out hb10⟩
        · have NF := hid (NX.out ho)
          have VF := hid (ratOkB_iff.1 ho)
          rw [ho] at C
          refine C.mono ?_
          clear C ho
          rintro _ w10 ⟨rfl, hb10⟩
          obtain ⟨hc_w10, hf_w10⟩ := bcell hb10
          go_wp2_with fail
          go_roundg gh
          case measure => omega
          case rel => exact ⟨k + 1, g', cap', radd s y', D1, D2, D3, D4, D5, D6, r9, hk'.out, by go_num, rfl, ⟨NF.out, VF.out⟩, HT9.out.below hb10, R5.out, ownsRow_below ROWS.out hb10, GB8.out, KPS.out.next hb10, Below.next HW9.out hb10, by go_simp, by go_simp, by go_simp, by go_simp, by go_simp, by go_simp⟩
    · have hki : ¬ ((k : Int) < m) := by omega
      have hke : k = m := by omega
      subst hke
      have E := hid (MS2.out _ (FracAt.done (by rw [OL.out]; exact hF.out.1)))
      have TA := hid (show (orderOf xs).take k = orderOf xs from List.take_of_length_le (by rw [OL.out]; exact Nat.le_refl _))
      clear hk hkn hmm
      go_wp2_with fail
      refine (TAIL.out wr (Below.refl _ _)).mono ?_
      rintro _ w8 ⟨rfl, hrow8, hgr8⟩
      have R8 := hid hrow8; have B8 := hid (FIN.out wr w8 (Below.refl _ _) hgr8)
      clear hrow8 hgr8
      go_wp2
      go_ret
      rw [E.out]
      have R9 := R8.out
      rw [TA.out] at R9
      refine gives_row R9 (by rw [List.length_mergeSort, OL.out]) (fun x hx => ?_) B8.out
      have := iota_mem (order_in (List.mem_mergeSort.1 hx))
      have := HL.out
      unfold I64; omega
end Go.Proofs.YtleegelljgnlpaaGreat.X
