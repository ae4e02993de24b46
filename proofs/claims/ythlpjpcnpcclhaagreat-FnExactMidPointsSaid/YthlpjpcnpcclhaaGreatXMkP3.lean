/- heldPointS. -/
import Derived.Test.YthlpjpcnpcclhaaGreatXMkP1
namespace Go.Proofs.YthlpjpcnpcclhaaGreat.X
open Go.RowKit Go.XB Go.XN
attribute [local go_sem] fillBy opAt deps depOf Region.wanted yielded
attribute [local simp] deps depOf MP.eq MP.agg MP.sl Facts
set_option linter.constructorNameAsVariable false

set_option maxHeartbeats 4000000 in
set_option maxRecDepth 10000 in
theorem laws_heldPointS (A : Option Addr) (n c : Nat) (xs : List TPoint) (bs : List Nat) (k : Int) (w : World) (hx : Sl w A n c (pmk k xs) bs) (hk0 : 0 ≤ k) (hk1 : k ≤ 1000000) (hsz : cntL TPoint.cnt xs ≤ 1048576) :
    Calls Tryz.prog 11 #[.slice A n c, .int .i64 k] w (Gives w (.int .i64 (pnx k xs))) := by
  have HX := hid hx
  have HL := hid (show xs.length = n by rw [← hx.1, pmk_len])
  have hn : n ≤ 1048576 := by have := HL.out; unfold cntL at hsz; omega
  have SZ := hid hsz
  clear hx hsz
  go_enter Tryz.func11, Tryz.ntmps11
  go_wp2_with fail
  go_loopg [1, 5] n (fun g a s wr => ∃ (i : Nat) (r : Int), i + g = n ∧ s = .int .i64 i ∧ a = .int .i64 r ∧ Hid (r = pnx k (xs.take i)) ∧ Below w.heap.size w wr)
  case atStart => exact ⟨0, k, by omega, rfl, rfl, by show k = pnx k _; simp [pnx], Below.refl _ _⟩
  case round =>
    obtain ⟨i, r, hi, rfl, rfl, hr1, hb⟩ := hrel
    have hlen := HL.out
    have hszz := SZ.out
    unfold cntL at hszz
    have hrb : r ≤ 4000000 ∧ 0 ≤ r := by
      have hall := sum_take_all TPoint.cnt xs i
      have h := hr1.out
      have h2 : (xs.take i).length ≤ xs.length := by rw [List.length_take]; omega
      unfold pnx at h; omega
    obtain ⟨hrb, hr0⟩ := hrb
    rcases Nat.lt_or_ge i n with hin | hin
    · obtain ⟨g, rfl⟩ : ∃ g, gk = g + 1 := ⟨gk - 1, by omega⟩
      have hk' := hid (show i + 1 + g = n by omega)
      have hbe : (i : Int) < n := by omega
      have hii : (0 : Int) ≤ i := by omega
      have hi1 : i + 1 ≤ n := hin
      obtain ⟨y, hy⟩ : ∃ y, xs[i]? = some y := ⟨_, List.getElem?_eq_getElem (by omega)⟩
      obtain ⟨b, off, x, A1, n1, c1, s1, A2, n2, c2, s2, A4, n4, c4, s4, A5, n5, c5, s5, rfl, hbl, hx1, m0, m1, m2, m3, m4, m5, h1, h2, h4, h5, _⟩ := TPoint.elem (HX.out.below hb) hin
      rw [pmk_get hy, ← hr1.out] at hx1
      injection hx1 with hx1
      subst hx1
      have e1 : y.x.num.mag.length = n1 := by have := h1.1; simpa [mkP, cnts_len] using this
      have e2 : y.x.den.length = n2 := by have := h2.1; simpa [mkP, cnts_len] using this
      have e4 : y.y.num.mag.length = n4 := by have := h4.1; simpa [mkP, cnts_len] using this
      have e5 : y.y.den.length = n5 := by have := h5.1; simpa [mkP, cnts_len] using this
      have H1 := hid (show Sl wr A1 n1 c1 (cnts (r + 1) n1) s1 by have := h1; unfold mkP at this; simp only [e1] at this; exact this)
      have H2 := hid (show Sl wr A2 n2 c2 (cnts (r + 1 + n1) n2) s2 by have := h2; unfold mkP at this; simp only [e1, e2] at this; exact this)
      have H4 := hid (show Sl wr A4 n4 c4 (cnts (r + 1 + n1 + n2 + 1) n4) s4 by have := h4; unfold mkP at this; simp only [e1, e2, e4] at this; exact this)
      have H5 := hid (show Sl wr A5 n5 c5 (cnts (r + 1 + n1 + n2 + 1 + n4) n5) s5 by have := h5; unfold mkP at this; simp only [e1, e2, e4, e5] at this; exact this)
      have c0 : wr.cell? ⟨b, off + i * 6, none⟩ = some (.bool (r % 3 == 0)) := m0
      have c3 : wr.cell? ⟨b, off + i * 6 + 3, none⟩ = some (.bool ((r + 1 + n1 + n2) % 3 == 0)) := by have := m3; unfold mkP at this; simp only [e1, e2] at this; exact this
      have hyc := cnt_le_cntL TPoint.cnt hy
      have hyn : y.cnt = n1 + n2 + n4 + n5 := by unfold TPoint.cnt TRat.cnt TBigInt.cnt; omega
      have hs2 := SZ.out
      have hn1 : n1 ≤ 1048576 := by omega
      have hn2 : n2 ≤ 1048576 := by omega
      have hn4 : n4 ≤ 1048576 := by omega
      have hn5 : n5 ≤ 1048576 := by omega
      have RN := hid (show r + 1 + n1 + n2 + 1 + n4 + n5 = pnx k (xs.take (i + 1)) by
        rw [take_step hy, pnx_snoc, ← hr1.out]; unfold pnx; simp only [List.map_cons, List.map_nil, List.sum_cons, List.sum_nil, List.length_cons, List.length_nil]; omega)
      have q1a : 0 ≤ r + 1 := by omega
      have q1b : r + 1 ≤ 1000000000000 := by omega
      have q2a : 0 ≤ r + 1 + (n1 : Int) := by omega
      have q2b : r + 1 + (n1 : Int) ≤ 1000000000000 := by omega
      have q4a : 0 ≤ r + 1 + (n1 : Int) + n2 + 1 := by omega
      have q4b : r + 1 + (n1 : Int) + n2 + 1 ≤ 1000000000000 := by omega
      have q4c : 0 ≤ r + 1 + (n1 : Int) + n2 := by omega
      have q5a : 0 ≤ r + 1 + (n1 : Int) + n2 + 1 + n4 := by omega
      have q5b : r + 1 + (n1 : Int) + n2 + 1 + n4 ≤ 1000000000000 := by omega
      have z2 : ¬ (r + 1 + (n1 : Int) < 0) := by omega
      have z4 : ¬ (r + 1 + (n1 : Int) + n2 < 0) := by omega
      have z5 : ¬ (r + 1 + (n1 : Int) + n2 + 1 + n4 < 0) := by omega
      have z6 : ¬ (r + 1 + (n1 : Int) + n2 + 1 + n4 + n5 < 0) := by omega
      have HB := hid hb
      clear hi h1 h2 h4 h5 m0 m3 e1 e2 e4 e5 hyc hyn hs2 hlen hszz hin hy hb
      go_wp2_with fail
      refine (laws_heldIntS A1 n1 c1 s1 (r + 1) wr H1.out q1a q1b hn1).mono ?_
      rintro _ w2 ⟨rfl, hb2⟩
      obtain ⟨hc_2, hf_2⟩ := bcell hb2
      have hs_2 := hb2.size
      have hl2 : b < w2.heap.size := by omega
      go_wp2_with fail
      refine (laws_heldIntS A2 n2 c2 s2 (r + 1 + n1) w2 (H2.out.below hb2) q2a q2b hn2).mono ?_
      rintro _ w3 ⟨rfl, hb3⟩
      obtain ⟨hc_3, hf_3⟩ := bcell hb3
      have hs_3 := hb3.size
      have hl3 : b < w3.heap.size := by omega
      go_wp2_with fail
      refine (laws_heldIntS A4 n4 c4 s4 (r + 1 + n1 + n2 + 1) w3 ((H4.out.below hb2).below hb3) q4a q4b hn4).mono ?_
      rintro _ w4 ⟨rfl, hb4⟩
      obtain ⟨hc_4, hf_4⟩ := bcell hb4
      have hs_4 := hb4.size
      have hl4 : b < w4.heap.size := by omega
      go_wp2_with fail
      refine (laws_heldIntS A5 n5 c5 s5 (r + 1 + n1 + n2 + 1 + n4) w4 (((H5.out.below hb2).below hb3).below hb4) q5a q5b hn5).mono ?_
      rintro _ w5 ⟨rfl, hb5⟩
      go_wp2_with fail
      go_roundg g
      case measure => omega
      case rel => exact ⟨i + 1, r + 1 + n1 + n2 + 1 + n4 + n5, hk'.out, by go_num, rfl, RN.out, Below.next (Below.next (Below.next (Below.next HB.out hb2) hb3) hb4) hb5⟩
    · have hbe : ¬ ((i : Int) < n) := by omega
      have EN := hid (show r = pnx k xs by have h := hr1.out; rwa [List.take_of_length_le (by omega)] at h)
      clear hi hin hlen hszz
      go_wp2
      go_ret
      exact ⟨ret_int EN.out, hb⟩
end Go.Proofs.YthlpjpcnpcclhaaGreat.X
