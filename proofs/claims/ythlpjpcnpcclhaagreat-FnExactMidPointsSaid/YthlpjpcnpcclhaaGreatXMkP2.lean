/- markPointS. -/
import Derived.Test.YthlpjpcnpcclhaaGreatXMkP1
namespace Go.Proofs.YthlpjpcnpcclhaaGreat.X
open Go.RowKit Go.XB Go.XN
attribute [local go_sem] fillBy opAt deps depOf Region.wanted yielded
attribute [local simp] deps depOf MP.eq MP.agg MP.sl Facts
set_option linter.constructorNameAsVariable false

set_option maxHeartbeats 4000000 in
set_option maxRecDepth 10000 in
theorem laws_markPointS (A : Option Addr) (n c : Nat) (xs : List TPoint) (bs : List Nat) (k : Int) (w : World) (hx : Sl w A n c xs bs) (hf : Free w bs) (hk0 : 0 ≤ k) (hk1 : k ≤ 1000000) (hsz : cntL TPoint.cnt xs ≤ 1048576) :
    Calls Tryz.prog 10 #[.slice A n c, .int .i64 k] w (fun e w' => e = .returned (.int .i64 (pnx k xs)) ∧ Sl w' A n c (pmk k xs) bs ∧ Free w' bs ∧ Turns w w' bs) := by
  have HX := hid hx
  have HF := hid hf
  have HL := hid hx.1
  have hn : n ≤ 1048576 := by have := hx.1; unfold cntL at hsz; omega
  have SZ := hid hsz
  clear hx hf hsz
  go_enter Tryz.func10, Tryz.ntmps10
  go_wp2_with fail
  go_loopg [1, 5] n (fun g a s wr => ∃ (i : Nat) (r : Int), i + g = n ∧ s = .int .i64 i ∧ a = .int .i64 r ∧ Hid (r = pnx k (xs.take i)) ∧ Hid (Sl wr A n c (pmi k xs i) bs ∧ Free wr bs ∧ Turns w wr bs))
  case atStart => exact ⟨0, k, by omega, rfl, rfl, by show k = pnx k _; simp [pnx], (show Sl w A n c (pmi k xs 0) bs from HX.out), HF.out, Turns.refl _ _⟩
  case round =>
    obtain ⟨i, r, hi, rfl, rfl, hr1, hr⟩ := hrel
    have hlen := HL.out
    have hszz := SZ.out
    unfold cntL at hszz
    have hrb : r ≤ 4000000 ∧ 0 ≤ r := by
      have hall := sum_take_all TPoint.cnt xs i
      have h := hr1.out
      have h2 : (xs.take i).length ≤ xs.length := by rw [List.length_take]; omega
      unfold pnx at h; omega
    obtain ⟨hrb, hr0⟩ := hrb
    rcases Nat.lt_or_ge i n with hin | hin
    · obtain ⟨g, rfl⟩ : ∃ g, gk = g + 1 := ⟨gk - 1, by omega⟩
      have hk' := hid (show i + 1 + g = n by omega)
      have hn0 : 0 < n := by omega
      have hbe : (i : Int) < n := by omega
      have hii : (0 : Int) ≤ i := by omega
      have hi1 : i + 1 ≤ n := hin
      have hxi := hid (show i < xs.length by omega)
      clear hi
      obtain ⟨b, off, _, rfl, _⟩ := hr.out.1.2.2.2.2 hn0
      obtain ⟨fs, hm, hfn, hbn, hbm, ⟨cs, y, hy, hc, hat⟩, hU⟩ := Sl.turn hr.out.1 hin
      rw [pmi_get hxi.out] at hy
      obtain ⟨A1, n1, c1, s1, A2, n2, c2, s2, A4, n4, c4, s4, A5, n5, c5, s5, rfl, rfl, h1, h2, h4, h5⟩ := TPoint.open_ hat
      have hnd := hr.out.2.1.1
      have hbn' := hbn hnd
      have hyc := cnt_le_cntL TPoint.cnt hy
      have hyn : y.cnt = n1 + n2 + n4 + n5 := by unfold TPoint.cnt TRat.cnt TBigInt.cnt; rw [h1.1, h2.1, h4.1, h5.1]; omega
      have hs2 := SZ.out
      have hn1 : n1 ≤ 1048576 := by omega
      have hn2 : n2 ≤ 1048576 := by omega
      have hn4 : n4 ≤ 1048576 := by omega
      have hn5 : n5 ≤ 1048576 := by omega
      have EM := hid (show mkP r y = (⟨⟨⟨r % 3 == 0, cnts (r + 1) n1⟩, cnts (r + 1 + n1) n2⟩, ⟨⟨(r + 1 + n1 + n2) % 3 == 0, cnts (r + 1 + n1 + n2 + 1) n4⟩, cnts (r + 1 + n1 + n2 + 1 + n4) n5⟩⟩ : TPoint) by unfold mkP; rw [h1.1, h2.1, h4.1, h5.1])
      have RN := hid (show r + 1 + n1 + n2 + 1 + n4 + n5 = pnx k (xs.take (i + 1)) by
        rw [take_step hy, pnx_snoc, ← hr1.out]; unfold pnx; simp only [List.map_cons, List.map_nil, List.sum_cons, List.sum_nil, List.length_cons, List.length_nil]; omega)
      have PS := hid (pmi_set (k := k) hy)
      have P0 := hid (show PtAt wr wr b off (i * 6) y.x.num.neg y.y.num.neg ⟨A1, n1, c1, s1⟩ ⟨A2, n2, c2, s2⟩ ⟨A4, n4, c4, s4⟩ ⟨A5, n5, c5, s5⟩ _ _ _ _ from
        ⟨⟨List.nodup_cons.2 ⟨hbn', hfn hnd⟩, fun g hg => (List.mem_cons.1 hg).elim (fun e => hr.out.2.1.2 g (e ▸ hbm)) (fun h => hr.out.2.1.2 g (hm g h))⟩, Turns.refl _ _, fun _ _ => rfl, hc 0 _ rfl, hc 3 _ rfl, hc 1 _ rfl, h1, hc 2 _ rfl, h2, hc 4 _ rfl, h4, hc 5 _ rfl, h5⟩)
      have P1 := hid (P0.out.set0 (r % 3 == 0))
      have HU := hid hU; have HM := hid (show ∀ g ∈ b :: (s1 ++ (s2 ++ (s4 ++ s5))), g ∈ bs from fun g hg => (List.mem_cons.1 hg).elim (fun e => e ▸ hbm) (hm g)); have ND := hid hnd
      have q1a : 0 ≤ r + 1 := by omega
      have q1b : r + 1 ≤ 1000000000000 := by omega
      have q2a : 0 ≤ r + 1 + (n1 : Int) := by omega
      have q2b : r + 1 + (n1 : Int) ≤ 1000000000000 := by omega
      have q4a : 0 ≤ r + 1 + (n1 : Int) + n2 + 1 := by omega
      have q4b : r + 1 + (n1 : Int) + n2 + 1 ≤ 1000000000000 := by omega
      have q4c : 0 ≤ r + 1 + (n1 : Int) + n2 := by omega
      have q5a : 0 ≤ r + 1 + (n1 : Int) + n2 + 1 + n4 := by omega
      have q5b : r + 1 + (n1 : Int) + n2 + 1 + n4 ≤ 1000000000000 := by omega
      clear hU hat h1 h2 h4 h5 hbn hc hm hyc hyn hs2 hnd hbn' hbm hfn hy hlen hszz hin
      have m0 : wr.cell? ⟨b, off + i * 6, none⟩ = some (.bool y.x.num.neg) := P0.out.k0
      have m3 : wr.cell? ⟨b, off + i * 6 + 3, none⟩ = some (.bool y.y.num.neg) := P0.out.k3
      have m1 : wr.cell? ⟨b, off + i * 6 + 1, none⟩ = some (.slice A1 n1 c1) := P0.out.k1
      have m2 : wr.cell? ⟨b, off + i * 6 + 2, none⟩ = some (.slice A2 n2 c2) := P0.out.k2
      have m4 : wr.cell? ⟨b, off + i * 6 + 4, none⟩ = some (.slice A4 n4 c4) := P0.out.k4
      have m5 : wr.cell? ⟨b, off + i * 6 + 5, none⟩ = some (.slice A5 n5 c5) := P0.out.k5
      have mf : wr.frozen? ⟨b, off + i * 6, none⟩ = false := P0.out.fr.frozen (by simp) _
      have mg : wr.frozen? ⟨b, off + i * 6 + 3, none⟩ = false := P0.out.fr.frozen (by simp) _
      have ml : b < wr.heap.size := P0.out.lt
      go_wp2_with fail
      refine (laws_markIntS A1 n1 c1 _ s1 (r + 1) _ P1.out.h1 P1.out.f1 q1a q1b hn1).mono ?_
      rintro _ w2 ⟨rfl, hs, hf, ht⟩
      have P2 := hid (P1.out.touch1 ht hs hf)
      clear hs hf ht P1
      clear m0 m1 m2 m3 m4 m5 mf mg ml
      have p0 : w2.cell? ⟨b, off + i * 6, none⟩ = some (.bool (r % 3 == 0)) := P2.out.k0
      have p3 : w2.cell? ⟨b, off + i * 6 + 3, none⟩ = some (.bool y.y.num.neg) := P2.out.k3
      have p1 : w2.cell? ⟨b, off + i * 6 + 1, none⟩ = some (.slice A1 n1 c1) := P2.out.k1
      have p2 : w2.cell? ⟨b, off + i * 6 + 2, none⟩ = some (.slice A2 n2 c2) := P2.out.k2
      have p4 : w2.cell? ⟨b, off + i * 6 + 4, none⟩ = some (.slice A4 n4 c4) := P2.out.k4
      have p5 : w2.cell? ⟨b, off + i * 6 + 5, none⟩ = some (.slice A5 n5 c5) := P2.out.k5
      have pf : w2.frozen? ⟨b, off + i * 6, none⟩ = false := P2.out.fr.frozen (by simp) _
      have pg : w2.frozen? ⟨b, off + i * 6 + 3, none⟩ = false := P2.out.fr.frozen (by simp) _
      have pl : b < w2.heap.size := P2.out.lt
      go_wp2_with fail
      refine (laws_markIntS A2 n2 c2 _ s2 (r + 1 + n1) _ P2.out.h2 P2.out.f2 q2a q2b hn2).mono ?_
      rintro _ w3 ⟨rfl, hs, hf, ht⟩
      have P3 := hid (P2.out.touch2 ht hs hf)
      have P4 := hid (P3.out.set3 ((r + 1 + n1 + n2) % 3 == 0))
      clear hs hf ht P2
      clear p0 p1 p2 p3 p4 p5 pf pg pl
      have m0 : w3.cell? ⟨b, off + i * 6, none⟩ = some (.bool (r % 3 == 0)) := P3.out.k0
      have m3 : w3.cell? ⟨b, off + i * 6 + 3, none⟩ = some (.bool y.y.num.neg) := P3.out.k3
      have m1 : w3.cell? ⟨b, off + i * 6 + 1, none⟩ = some (.slice A1 n1 c1) := P3.out.k1
      have m2 : w3.cell? ⟨b, off + i * 6 + 2, none⟩ = some (.slice A2 n2 c2) := P3.out.k2
      have m4 : w3.cell? ⟨b, off + i * 6 + 4, none⟩ = some (.slice A4 n4 c4) := P3.out.k4
      have m5 : w3.cell? ⟨b, off + i * 6 + 5, none⟩ = some (.slice A5 n5 c5) := P3.out.k5
      have mf : w3.frozen? ⟨b, off + i * 6, none⟩ = false := P3.out.fr.frozen (by simp) _
      have mg : w3.frozen? ⟨b, off + i * 6 + 3, none⟩ = false := P3.out.fr.frozen (by simp) _
      have ml : b < w3.heap.size := P3.out.lt
      go_wp2_with fail
      refine (laws_markIntS A4 n4 c4 _ s4 (r + 1 + n1 + n2 + 1) _ P4.out.h4 P4.out.f4 q4a q4b hn4).mono ?_
      rintro _ w5 ⟨rfl, hs, hf, ht⟩
      have P5 := hid (P4.out.touch4 ht hs hf)
      clear hs hf ht P3 P4
      clear m0 m1 m2 m3 m4 m5 mf mg ml
      have p0 : w5.cell? ⟨b, off + i * 6, none⟩ = some (.bool (r % 3 == 0)) := P5.out.k0
      have p3 : w5.cell? ⟨b, off + i * 6 + 3, none⟩ = some (.bool ((r + 1 + n1 + n2) % 3 == 0)) := P5.out.k3
      have p1 : w5.cell? ⟨b, off + i * 6 + 1, none⟩ = some (.slice A1 n1 c1) := P5.out.k1
      have p2 : w5.cell? ⟨b, off + i * 6 + 2, none⟩ = some (.slice A2 n2 c2) := P5.out.k2
      have p4 : w5.cell? ⟨b, off + i * 6 + 4, none⟩ = some (.slice A4 n4 c4) := P5.out.k4
      have p5 : w5.cell? ⟨b, off + i * 6 + 5, none⟩ = some (.slice A5 n5 c5) := P5.out.k5
      have pf : w5.frozen? ⟨b, off + i * 6, none⟩ = false := P5.out.fr.frozen (by simp) _
      have pg : w5.frozen? ⟨b, off + i * 6 + 3, none⟩ = false := P5.out.fr.frozen (by simp) _
      have pl : b < w5.heap.size := P5.out.lt
      go_wp2_with fail
      refine (laws_markIntS A5 n5 c5 _ s5 (r + 1 + n1 + n2 + 1 + n4) _ P5.out.h5 P5.out.f5 q5a q5b hn5).mono ?_
      rintro _ w6 ⟨rfl, hs, hf, ht⟩
      have P6 := hid (P5.out.touch5 ht hs hf)
      clear hs hf ht P5
      clear p0 p1 p2 p3 p4 p5 pf pg pl
      go_wp2_with fail
      go_roundg g
      case measure => omega
      case rel =>
        have P := P6.out
        have X := HU.out w6 (⟨⟨⟨r % 3 == 0, cnts (r + 1) n1⟩, cnts (r + 1 + n1) n2⟩, ⟨⟨(r + 1 + n1 + n2) % 3 == 0, cnts (r + 1 + n1 + n2 + 1) n4⟩, cnts (r + 1 + n1 + n2 + 1 + n4) n5⟩⟩ : TPoint) [.bool (r % 3 == 0), .slice A1 n1 c1, .slice A2 n2 c2, .bool ((r + 1 + n1 + n2) % 3 == 0), .slice A4 n4 c4, .slice A5 n5 c5] ND.out (fun j u hu => by
          match j, hu with
          | 0, hu => simp at hu; subst hu; exact P.k0
          | 1, hu => simp at hu; subst hu; exact P.k1
          | 2, hu => simp at hu; subst hu; exact P.k2
          | 3, hu => simp at hu; subst hu; exact P.k3
          | 4, hu => simp at hu; subst hu; exact P.k4
          | 5, hu => simp at hu; subst hu; exact P.k5) (TPoint.shut (x := (⟨⟨⟨r % 3 == 0, cnts (r + 1) n1⟩, cnts (r + 1 + n1) n2⟩, ⟨⟨(r + 1 + n1 + n2) % 3 == 0, cnts (r + 1 + n1 + n2 + 1) n4⟩, cnts (r + 1 + n1 + n2 + 1 + n4) n5⟩⟩ : TPoint)) P.h1 P.h2 P.h4 P.h5) (fun j hj => P.oc j hj) (fun g hg hgb hgs => P.tn.out g (by obtain ⟨c', t', e'⟩ := hr.out.2.1.2 g hg; exact lt_of_get e') (by
            intro h; rcases List.mem_cons.1 h with h | h
            · exact hgb h
            · exact hgs h)) P.tn.size
        rw [← EM.out] at X
        rw [hr1.out, PS.out] at X
        refine ⟨i + 1, r + 1 + n1 + n2 + 1 + n4 + n5, hk'.out, by go_num, rfl, RN.out, X, ⟨ND.out, fun g hg => ?_⟩, hr.out.2.2.trans (P.tn.mono HM.out)⟩
        by_cases h : g ∈ b :: (s1 ++ (s2 ++ (s4 ++ s5)))
        · exact P.fr.2 g h
        · obtain ⟨c', t', e'⟩ := hr.out.2.1.2 g hg
          exact ⟨c', t', (P.tn.out g (lt_of_get e') h).trans e'⟩
    · have hbe : ¬ ((i : Int) < n) := by omega
      have EN := hid (show r = pnx k xs by have h := hr1.out; rwa [List.take_of_length_le (by omega)] at h)
      have EL := hid (show pmi k xs i = pmk k xs from pmi_all (by omega))
      clear hi hin hlen hszz
      go_wp2
      go_ret
      refine ⟨ret_int EN.out, ?_, hr.out.2.1, hr.out.2.2⟩
      rw [← EL.out]; exact hr.out.1
end Go.Proofs.YthlpjpcnpcclhaaGreat.X
