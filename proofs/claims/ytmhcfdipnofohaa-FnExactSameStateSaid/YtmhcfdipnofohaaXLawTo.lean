/- The laws' copies of their arguments: laws.to... Written by gen_law.py. -/
import Derived.Test.YtmhcfdipnofohaaRows
import Derived.Test.YtmhcfdipnofohaaXCopy
import Derived.Test.YtmhcfdipnofohaaXRegion
import Derived.Test.YtmhcfdipnofohaaXSize
import Derived.Test.YtmhcfdipnofohaaXSets
import Derived.WalkLawsBesides
import Derived.ProofKit
namespace Go.Proofs.Ytmhcfdipnofohaa.X
open Go.RowKit Go.XB
attribute [local go_sem] fillBy opAt deps depOf Region.wanted yielded
attribute [local simp] deps depOf MP.eq Facts
set_option maxHeartbeats 1000000 in
theorem laws_toBigInt (v : Value) (x : TBigInt) (bs : List Nat) (w : World) (hx : Agg w v x bs) (hsz : x.cnt ≤ 1048576) : Calls Try.prog 35 #[v] w (GivesAgg w x) := by
  obtain ⟨A1, nA1, cA1, sA1, rfl, rfl, w1⟩ := TBigInt.agg hx
  have W1 := hid w1
  clear hx w1
  unfold TBigInt.cnt at hsz
  go_enter Try.func35, Try.ntmps35
  go_wp2_with fail
  refine (laws_toIntS _ _ _ x.mag _ _ (Sl.below W1.out (by (repeat (first | (with_reducible exact Below.refl _ _) | ((with_reducible refine Below.set ?_ ?_ _); rotate_left; (simp <;> omega)) | (with_reducible refine Below.box_ ?_ _) | (with_reducible refine Below.next ?_ (by assumption)))))) (by have := W1.out.1; omega)).mono ?_
  rintro e u0 ⟨B0, m0, d0, t0, rfl, hs0, ho0, hb0⟩
  have HS0 := hid (show Dat.at_ u0 [.slice B0 m0 d0] x.mag t0 from ⟨_, _, _, rfl, hs0⟩)
  have HO0 := hid ho0
  clear hs0 ho0
  obtain ⟨hc0, hf0⟩ := bcell hb0
  have hz0 : w.heap.size < u0.heap.size ∧ w.heap.size + 1 < u0.heap.size ∧ w.heap.size + 1 + 1 < u0.heap.size := by have := hb0.size; (try simp at this); omega
  obtain ⟨hz0a, hz0b, hz0c⟩ := hz0
  go_wp2
  refine bodyPost_ret (v := .agg #[.bool x.neg, .slice B0 m0 d0]) (by simp [results, Try.results35, go_sem, *]) rfl ?_
  have a0 : ∀ W : World, Above (w.heap.size + 3) u0 W → Dat.at_ W [.slice B0 m0 d0] x.mag _ ∧ Own w W _ := fun W ha =>
    ⟨At.above HS0.out HO0.out ha (by simp <;> omega), (HO0.out.above ha (by simp <;> omega)).older (by simp <;> omega)⟩
  refine ⟨_, _, rfl, ⟨_, rfl, ⟨_, _, _, _, rfl, rfl, ⟨rfl, rfl⟩, (a0 _ (by (repeat (first | (with_reducible exact Above.refl _ _) | ((with_reducible refine Above.set ?_ ?_ _); rotate_left; (simp <;> omega)) | (with_reducible refine Above.box ?_ _) | (with_reducible refine Above.below ?_ (by assumption)))))).1⟩⟩, ?_, ?_⟩
  · have hsz' : True := trivial
    have q0 := hb0.size; (try simp at q0)
    refine Own.append (Own.nil _ _) ?_ ?_
    rotate_left
    · intro b hb; simp at hb
    exact (a0 _ (by (repeat (first | (with_reducible exact Above.refl _ _) | ((with_reducible refine Above.set ?_ ?_ _); rotate_left; (simp <;> omega)) | (with_reducible refine Above.box ?_ _) | (with_reducible refine Above.below ?_ (by assumption)))))).2
  · (repeat (first | (with_reducible exact Below.refl _ _) | ((with_reducible refine Below.set ?_ ?_ _); rotate_left; (simp <;> omega)) | (with_reducible refine Below.box_ ?_ _) | (with_reducible refine Below.next ?_ (by assumption))))
set_option maxHeartbeats 1000000 in
theorem laws_toRat (v : Value) (x : TRat) (bs : List Nat) (w : World) (hx : Agg w v x bs) (hsz : x.cnt ≤ 1048576) : Calls Try.prog 20 #[v] w (GivesAgg w x) := by
  obtain ⟨A1, nA1, cA1, sA1, A2, nA2, cA2, sA2, rfl, rfl, w1, w2⟩ := TRat.agg hx
  have W1 := hid w1
  have W2 := hid w2
  clear hx w1 w2
  unfold TRat.cnt at hsz
  go_enter Try.func20, Try.ntmps20
  go_wp2_with fail
  refine (laws_toBigInt _ x.num _ _ (TBigInt.mkAgg (Sl.below W1.out (by (repeat (first | (with_reducible exact Below.refl _ _) | ((with_reducible refine Below.set ?_ ?_ _); rotate_left; (simp <;> omega)) | (with_reducible refine Below.box_ ?_ _) | (with_reducible refine Below.next ?_ (by assumption))))))) (by omega)).mono ?_
  rintro e u0 ⟨r0, t0, rfl, hs0, ho0, hb0⟩
  obtain ⟨B01, nB01, cB01, sB01, rfl, rfl, y1⟩ := TBigInt.agg hs0
  have HS0 := hid (TBigInt.shut y1)
  have HO0 := hid ho0
  clear hs0 ho0 y1
  obtain ⟨hc0, hf0⟩ := bcell hb0
  have hz0 : w.heap.size < u0.heap.size ∧ w.heap.size + 1 < u0.heap.size ∧ w.heap.size + 1 + 1 < u0.heap.size := by have := hb0.size; (try simp at this); omega
  obtain ⟨hz0a, hz0b, hz0c⟩ := hz0
  go_wp2_with fail
  refine (laws_toIntS _ _ _ x.den _ _ (Sl.below W2.out (by (repeat (first | (with_reducible exact Below.refl _ _) | ((with_reducible refine Below.set ?_ ?_ _); rotate_left; (simp <;> omega)) | (with_reducible refine Below.box_ ?_ _) | (with_reducible refine Below.next ?_ (by assumption)))))) (by have := W2.out.1; omega)).mono ?_
  rintro e u1 ⟨B1, m1, d1, t1, rfl, hs1, ho1, hb1⟩
  have HS1 := hid (show Dat.at_ u1 [.slice B1 m1 d1] x.den t1 from ⟨_, _, _, rfl, hs1⟩)
  have HO1 := hid ho1
  clear hs1 ho1
  obtain ⟨hc1, hf1⟩ := bcell hb1
  have hz1 : w.heap.size < u1.heap.size ∧ w.heap.size + 1 < u1.heap.size ∧ w.heap.size + 1 + 1 < u1.heap.size := by have := hb1.size; (try simp at this); omega
  obtain ⟨hz1a, hz1b, hz1c⟩ := hz1
  go_wp2
  refine bodyPost_ret (v := .agg #[.bool x.num.neg, .slice B01 nB01 cB01, .slice B1 m1 d1]) (by simp [results, Try.results20, go_sem, *]) rfl ?_
  have a0 : ∀ W : World, Above (w.heap.size + 3) u0 W → Dat.at_ W [.bool x.num.neg, .slice B01 nB01 cB01] x.num _ ∧ Own w W _ := fun W ha =>
    ⟨At.above HS0.out HO0.out ha (by simp <;> omega), (HO0.out.above ha (by simp <;> omega)).older (by simp <;> omega)⟩
  have a1 : ∀ W : World, Above (w.heap.size + 3) u1 W → Dat.at_ W [.slice B1 m1 d1] x.den _ ∧ Own w W _ := fun W ha =>
    ⟨At.above HS1.out HO1.out ha (by simp <;> omega), (HO1.out.above ha (by simp <;> omega)).older (by simp <;> omega)⟩
  refine ⟨_, _, rfl, ⟨_, rfl, ⟨_, _, _, _, rfl, rfl, (a0 _ (by (repeat (first | (with_reducible exact Above.refl _ _) | ((with_reducible refine Above.set ?_ ?_ _); rotate_left; (simp <;> omega)) | (with_reducible refine Above.box ?_ _) | (with_reducible refine Above.below ?_ (by assumption)))))).1, (a1 _ (by (repeat (first | (with_reducible exact Above.refl _ _) | ((with_reducible refine Above.set ?_ ?_ _); rotate_left; (simp <;> omega)) | (with_reducible refine Above.box ?_ _) | (with_reducible refine Above.below ?_ (by assumption)))))).1⟩⟩, ?_, ?_⟩
  · have hsz' : True := trivial
    have q0 := hb0.size; (try simp at q0)
    have q1 := hb1.size; (try simp at q1)
    refine Own.append (a0 _ (by (repeat (first | (with_reducible exact Above.refl _ _) | ((with_reducible refine Above.set ?_ ?_ _); rotate_left; (simp <;> omega)) | (with_reducible refine Above.box ?_ _) | (with_reducible refine Above.below ?_ (by assumption)))))).2 ?_ ?_
    rotate_left
    · refine apart_of_lt (N := u0.heap.size) HO0.out.lt ?_
      intro b hb
      have h1 := (HO1.out.2 b hb).1; (try simp at h1); omega
    exact (a1 _ (by (repeat (first | (with_reducible exact Above.refl _ _) | ((with_reducible refine Above.set ?_ ?_ _); rotate_left; (simp <;> omega)) | (with_reducible refine Above.box ?_ _) | (with_reducible refine Above.below ?_ (by assumption)))))).2
  · (repeat (first | (with_reducible exact Below.refl _ _) | ((with_reducible refine Below.set ?_ ?_ _); rotate_left; (simp <;> omega)) | (with_reducible refine Below.box_ ?_ _) | (with_reducible refine Below.next ?_ (by assumption))))
set_option maxHeartbeats 1000000 in
theorem laws_toRatS (A : Option Addr) (n c : Nat) (xs : List TRat) (bs : List Nat) (w : World) (hx : Sl w A n c xs bs) (hsz : cntL TRat.cnt xs ≤ 1048576) :
    Calls Try.prog 45 #[.slice A n c] w (GivesSl w xs) := by
  have HL := hid hx.1
  have HX := hid hx
  have HC := hid hsz
  have hn : n ≤ 1048576 := by have := hx.1; unfold cntL at hsz; omega
  obtain ⟨i0, z0, hi, hz0, hz1, hz2⟩ := info_zero (P := Try.prog) (e := 35) (size := 3) (by kernel_rfl)
  clear hx hsz
  go_enter Try.func45, Try.ntmps45
  go_wp2_with (first | (at_make; refine wpList_make_full _ rfl _ _ 56 rfl w.heap.size 35 i0 z0 3 Try.underlying56 hi hz0 hz1 .i64 .i64 _ _ n rfl rfl rfl rfl (Nat.le_trans (Nat.mul_le_mul hz2 hn) (by decide)) (Nat.le_trans hn (by decide)) (Nat.le_refl _) ?_; intro w1 hown hgrow))
  go_loopw [4] (fun i wr => ∃ (k : Nat) (cells : List Value) (fss : List (List Nat)), k ≤ n ∧ i = .int .i64 k ∧ wr.ownsRow w.heap.size 35 3 (.slice (some ⟨w.heap.size, 0, none⟩) n n) n cells ∧ Filled wr cells (xs.take k) fss ∧ Own w wr fss.flatten ∧ (∀ g ∈ fss.flatten, w.heap.size < g) ∧ Below w.heap.size w wr) (fun i _ => n - (intOf i).toNat)
  case atStart => exact ⟨0, _, [], Nat.zero_le _, rfl, hown, Filled.nil _ _, Own.nil _ _, fun _ h => by simp at h, (Below.refl _ _).grown hgrow (Nat.le_refl _) (by simp)⟩
  case round =>
    obtain ⟨k, cells, fss, hk, rfl, hown, hfil, how, hgt, hb⟩ := hrel
    clear hgrow
    have HFil := hid hfil; have HOw := hid how; have HGt := hid hgt; have HOwn := hid hown
    have HN : w.heap.size < wr.heap.size := (World.ownsRow.lt hown _ rfl).2
    clear hfil how hgt
    by_cases hlt : k < n
    · obtain ⟨be, offe, x, A1, nA1, cA1, sA1, A2, nA2, cA2, sA2, rfl, hble, hxke, ee0, ee1, ee2, e1, e2, hmeme⟩ := TRat.elem (Sl.below HX.out hb) hlt
      have HXk := hid hxke
      have W1 := hid e1
      have W2 := hid e2
      clear hxke e1 e2 hmeme hown
      go_wp2_with fail
      refine (laws_toRat _ x _ _ (TRat.mkAgg W1.out W2.out) (by have := cnt_le_cntL TRat.cnt HXk.out; have := HC.out; omega)).mono ?_
      rintro e u ⟨v, fs, rfl, hv, ho, hbu⟩
      obtain ⟨B1, nB1, cB1, sB1, B2, nB2, cB2, sB2, rfl, rfl, y1, y2⟩ := TRat.agg hv
      have HV := hid (TRat.shut y1 y2 : Dat.at_ u [.bool x.num.neg, .slice B1 nB1 cB1, .slice B2 nB2 cB2] x _)
      have HO := hid ho
      clear hv ho y1 y2
      have hown1 := ownsRow_below HOwn.out hbu
      have HOwn1 := hid hown1
      have hlen : (k + 1) * 3 ≤ cells.length := by rw [hown1.1]; omega
      obtain ⟨o0, g0⟩ := own_cell hown1 (k * 3) (by omega)
      obtain ⟨o1, g1⟩ := own_cell hown1 (k * 3 + 1) (by omega)
      obtain ⟨o2, g2⟩ := own_cell hown1 (k * 3 + 2) (by omega)
      have z0 := World.ownsRow.frozenAt hown1 (k * 3)
      have z1 := World.ownsRow.frozenAt hown1 (k * 3 + 1)
      have z2 := World.ownsRow.frozenAt hown1 (k * 3 + 2)
      clear hown1
      go_wp2
      go_roundw
      case rel =>
        have hst := own_setCells HOwn1.out [.bool x.num.neg, .slice B1 nB1 cB1, .slice B2 nB2 cB2] (k * 3)
        have hkl : (xs.take k).length = k := by rw [List.length_take, HL.out]; omega
        refine ⟨k + 1, _, fss ++ [sB1 ++ (sB2)], by omega, by go_num, hst, ?_, ?_, ?_, ?_⟩
        · rw [take_step HXk.out]
          have h1 := Filled.store (Filled.below HFil.out hbu) HV.out (by rw [hkl]; exact hlen)
          rw [hkl] at h1
          exact h1.keep fun g hg => heap_setCells w.heap.size [.bool x.num.neg, .slice B1 nB1 cB1, .slice B2 nB2 cB2] u (k * 3) g (by
            rw [List.flatten_append] at hg
            rcases List.mem_append.1 hg with hg | hg
            · have := HGt.out g hg; omega
            · have := (HO.out.2 g (by simpa using hg)).1; omega)
        · rw [List.flatten_append]
          have ho1 : Own w u fss.flatten := HOw.out.below hbu
          have ho2 : Own w u ([sB1 ++ (sB2)] : List (List Nat)).flatten := by simpa using HO.out.olderThan hb
          refine own_setCells_keep (w := u) (g := w.heap.size) (cs := [.bool x.num.neg, .slice B1 nB1 cB1, .slice B2 nB2 cB2]) (i := k * 3) (Own.append ho1 ho2 ?_) ?_
          · exact apart_of_lt (N := wr.heap.size) HOw.out.lt (fun b hb => by have := (HO.out.2 b (by simpa using hb)).1; omega)
          · intro g hg
            rcases List.mem_append.1 hg with hg | hg
            · have := HGt.out g hg; omega
            · have := (HO.out.2 g (by simpa using hg)).1; omega
        · intro g hg
          rw [List.flatten_append] at hg
          rcases List.mem_append.1 hg with hg | hg
          · exact HGt.out g hg
          · have := (HO.out.2 g (by simpa using hg)).1; omega
        · exact below_setCells (Below.next hb hbu) (Nat.le_refl _) [.bool x.num.neg, .slice B1 nB1 cB1, .slice B2 nB2 cB2] (k * 3)
      case measure => simp [intOf]; omega
    · obtain rfl : k = n := by omega
      go_wp2
      go_ret
      have hfil := HFil.out
      rw [List.take_of_length_le (Nat.le_of_eq HL.out)] at hfil
      obtain ⟨A', c', bs', hv, hs, ho⟩ := hfil.sl HOwn.out HL.out
      refine ⟨A', k, c', bs', by rw [← hv]; rfl, hs, own_of_row (n := k) (fss := fss) ?_ HOw.out, hb⟩
      rcases ho with ho | ⟨g, h1, h2, h3, h4⟩
      · exact .inl ho
      · refine .inr ⟨g, h2, h3, h4, fun hg => ?_⟩
        have := HGt.out g hg
        have e : w.heap.size = g := by simpa [Value.ownBlock] using h1
        omega
set_option maxHeartbeats 1000000 in
theorem laws_toPoint (v : Value) (x : TPoint) (bs : List Nat) (w : World) (hx : Agg w v x bs) (hsz : x.cnt ≤ 1048576) : Calls Try.prog 62 #[v] w (GivesAgg w x) := by
  obtain ⟨A1, nA1, cA1, sA1, A2, nA2, cA2, sA2, A4, nA4, cA4, sA4, A5, nA5, cA5, sA5, rfl, rfl, w1, w2, w4, w5⟩ := TPoint.agg hx
  have W1 := hid w1
  have W2 := hid w2
  have W4 := hid w4
  have W5 := hid w5
  clear hx w1 w2 w4 w5
  unfold TPoint.cnt at hsz
  go_enter Try.func62, Try.ntmps62
  go_wp2_with fail
  refine (laws_toRat _ x.x _ _ (TRat.mkAgg (Sl.below W1.out (by (repeat (first | (with_reducible exact Below.refl _ _) | ((with_reducible refine Below.set ?_ ?_ _); rotate_left; (simp <;> omega)) | (with_reducible refine Below.box_ ?_ _) | (with_reducible refine Below.next ?_ (by assumption)))))) (Sl.below W2.out (by (repeat (first | (with_reducible exact Below.refl _ _) | ((with_reducible refine Below.set ?_ ?_ _); rotate_left; (simp <;> omega)) | (with_reducible refine Below.box_ ?_ _) | (with_reducible refine Below.next ?_ (by assumption))))))) (by omega)).mono ?_
  rintro e u0 ⟨r0, t0, rfl, hs0, ho0, hb0⟩
  obtain ⟨B01, nB01, cB01, sB01, B02, nB02, cB02, sB02, rfl, rfl, y1, y2⟩ := TRat.agg hs0
  have HS0 := hid (TRat.shut y1 y2)
  have HO0 := hid ho0
  clear hs0 ho0 y1 y2
  obtain ⟨hc0, hf0⟩ := bcell hb0
  have hz0 : w.heap.size < u0.heap.size ∧ w.heap.size + 1 < u0.heap.size ∧ w.heap.size + 1 + 1 < u0.heap.size := by have := hb0.size; (try simp at this); omega
  obtain ⟨hz0a, hz0b, hz0c⟩ := hz0
  go_wp2_with fail
  refine (laws_toRat _ x.y _ _ (TRat.mkAgg (Sl.below W4.out (by (repeat (first | (with_reducible exact Below.refl _ _) | ((with_reducible refine Below.set ?_ ?_ _); rotate_left; (simp <;> omega)) | (with_reducible refine Below.box_ ?_ _) | (with_reducible refine Below.next ?_ (by assumption)))))) (Sl.below W5.out (by (repeat (first | (with_reducible exact Below.refl _ _) | ((with_reducible refine Below.set ?_ ?_ _); rotate_left; (simp <;> omega)) | (with_reducible refine Below.box_ ?_ _) | (with_reducible refine Below.next ?_ (by assumption))))))) (by omega)).mono ?_
  rintro e u1 ⟨r1, t1, rfl, hs1, ho1, hb1⟩
  obtain ⟨B11, nB11, cB11, sB11, B12, nB12, cB12, sB12, rfl, rfl, y1, y2⟩ := TRat.agg hs1
  have HS1 := hid (TRat.shut y1 y2)
  have HO1 := hid ho1
  clear hs1 ho1 y1 y2
  obtain ⟨hc1, hf1⟩ := bcell hb1
  have hz1 : w.heap.size < u1.heap.size ∧ w.heap.size + 1 < u1.heap.size ∧ w.heap.size + 1 + 1 < u1.heap.size := by have := hb1.size; (try simp at this); omega
  obtain ⟨hz1a, hz1b, hz1c⟩ := hz1
  go_wp2
  refine bodyPost_ret (v := .agg #[.bool x.x.num.neg, .slice B01 nB01 cB01, .slice B02 nB02 cB02, .bool x.y.num.neg, .slice B11 nB11 cB11, .slice B12 nB12 cB12]) (by simp [results, Try.results62, go_sem, *]) rfl ?_
  have a0 : ∀ W : World, Above (w.heap.size + 3) u0 W → Dat.at_ W [.bool x.x.num.neg, .slice B01 nB01 cB01, .slice B02 nB02 cB02] x.x _ ∧ Own w W _ := fun W ha =>
    ⟨At.above HS0.out HO0.out ha (by simp <;> omega), (HO0.out.above ha (by simp <;> omega)).older (by simp <;> omega)⟩
  have a1 : ∀ W : World, Above (w.heap.size + 3) u1 W → Dat.at_ W [.bool x.y.num.neg, .slice B11 nB11 cB11, .slice B12 nB12 cB12] x.y _ ∧ Own w W _ := fun W ha =>
    ⟨At.above HS1.out HO1.out ha (by simp <;> omega), (HO1.out.above ha (by simp <;> omega)).older (by simp <;> omega)⟩
  refine ⟨_, _, rfl, ⟨_, rfl, ⟨_, _, _, _, rfl, rfl, (a0 _ (by (repeat (first | (with_reducible exact Above.refl _ _) | ((with_reducible refine Above.set ?_ ?_ _); rotate_left; (simp <;> omega)) | (with_reducible refine Above.box ?_ _) | (with_reducible refine Above.below ?_ (by assumption)))))).1, (a1 _ (by (repeat (first | (with_reducible exact Above.refl _ _) | ((with_reducible refine Above.set ?_ ?_ _); rotate_left; (simp <;> omega)) | (with_reducible refine Above.box ?_ _) | (with_reducible refine Above.below ?_ (by assumption)))))).1⟩⟩, ?_, ?_⟩
  · have hsz' : True := trivial
    have q0 := hb0.size; (try simp at q0)
    have q1 := hb1.size; (try simp at q1)
    refine Own.append (a0 _ (by (repeat (first | (with_reducible exact Above.refl _ _) | ((with_reducible refine Above.set ?_ ?_ _); rotate_left; (simp <;> omega)) | (with_reducible refine Above.box ?_ _) | (with_reducible refine Above.below ?_ (by assumption)))))).2 ?_ ?_
    rotate_left
    · refine apart_of_lt (N := u0.heap.size) HO0.out.lt ?_
      intro b hb
      have h1 := (HO1.out.2 b hb).1; (try simp at h1); omega
    exact (a1 _ (by (repeat (first | (with_reducible exact Above.refl _ _) | ((with_reducible refine Above.set ?_ ?_ _); rotate_left; (simp <;> omega)) | (with_reducible refine Above.box ?_ _) | (with_reducible refine Above.below ?_ (by assumption)))))).2
  · (repeat (first | (with_reducible exact Below.refl _ _) | ((with_reducible refine Below.set ?_ ?_ _); rotate_left; (simp <;> omega)) | (with_reducible refine Below.box_ ?_ _) | (with_reducible refine Below.next ?_ (by assumption))))
set_option maxHeartbeats 1000000 in
theorem laws_toPointS (A : Option Addr) (n c : Nat) (xs : List TPoint) (bs : List Nat) (w : World) (hx : Sl w A n c xs bs) (hsz : cntL TPoint.cnt xs ≤ 1048576) :
    Calls Try.prog 53 #[.slice A n c] w (GivesSl w xs) := by
  have HL := hid hx.1
  have HX := hid hx
  have HC := hid hsz
  have hn : n ≤ 1048576 := by have := hx.1; unfold cntL at hsz; omega
  obtain ⟨i0, z0, hi, hz0, hz1, hz2⟩ := info_zero (P := Try.prog) (e := 89) (size := 6) (by kernel_rfl)
  clear hx hsz
  go_enter Try.func53, Try.ntmps53
  go_wp2_with (first | (at_make; refine wpList_make_full _ rfl _ _ 52 rfl w.heap.size 89 i0 z0 6 Try.underlying52 hi hz0 hz1 .i64 .i64 _ _ n rfl rfl rfl rfl (Nat.le_trans (Nat.mul_le_mul hz2 hn) (by decide)) (Nat.le_trans hn (by decide)) (Nat.le_refl _) ?_; intro w1 hown hgrow))
  go_loopw [4] (fun i wr => ∃ (k : Nat) (cells : List Value) (fss : List (List Nat)), k ≤ n ∧ i = .int .i64 k ∧ wr.ownsRow w.heap.size 89 6 (.slice (some ⟨w.heap.size, 0, none⟩) n n) n cells ∧ Filled wr cells (xs.take k) fss ∧ Own w wr fss.flatten ∧ (∀ g ∈ fss.flatten, w.heap.size < g) ∧ Below w.heap.size w wr) (fun i _ => n - (intOf i).toNat)
  case atStart => exact ⟨0, _, [], Nat.zero_le _, rfl, hown, Filled.nil _ _, Own.nil _ _, fun _ h => by simp at h, (Below.refl _ _).grown hgrow (Nat.le_refl _) (by simp)⟩
  case round =>
    obtain ⟨k, cells, fss, hk, rfl, hown, hfil, how, hgt, hb⟩ := hrel
    clear hgrow
    have HFil := hid hfil; have HOw := hid how; have HGt := hid hgt; have HOwn := hid hown
    have HN : w.heap.size < wr.heap.size := (World.ownsRow.lt hown _ rfl).2
    clear hfil how hgt
    by_cases hlt : k < n
    · obtain ⟨be, offe, x, A1, nA1, cA1, sA1, A2, nA2, cA2, sA2, A4, nA4, cA4, sA4, A5, nA5, cA5, sA5, rfl, hble, hxke, ee0, ee1, ee2, ee3, ee4, ee5, e1, e2, e4, e5, hmeme⟩ := TPoint.elem (Sl.below HX.out hb) hlt
      have HXk := hid hxke
      have W1 := hid e1
      have W2 := hid e2
      have W4 := hid e4
      have W5 := hid e5
      clear hxke e1 e2 e4 e5 hmeme hown
      go_wp2_with fail
      refine (laws_toPoint _ x _ _ (TPoint.mkAgg W1.out W2.out W4.out W5.out) (by have := cnt_le_cntL TPoint.cnt HXk.out; have := HC.out; omega)).mono ?_
      rintro e u ⟨v, fs, rfl, hv, ho, hbu⟩
      obtain ⟨B1, nB1, cB1, sB1, B2, nB2, cB2, sB2, B4, nB4, cB4, sB4, B5, nB5, cB5, sB5, rfl, rfl, y1, y2, y4, y5⟩ := TPoint.agg hv
      have HV := hid (TPoint.shut y1 y2 y4 y5 : Dat.at_ u [.bool x.x.num.neg, .slice B1 nB1 cB1, .slice B2 nB2 cB2, .bool x.y.num.neg, .slice B4 nB4 cB4, .slice B5 nB5 cB5] x _)
      have HO := hid ho
      clear hv ho y1 y2 y4 y5
      have hown1 := ownsRow_below HOwn.out hbu
      have HOwn1 := hid hown1
      have hlen : (k + 1) * 6 ≤ cells.length := by rw [hown1.1]; omega
      obtain ⟨o0, g0⟩ := own_cell hown1 (k * 6) (by omega)
      obtain ⟨o1, g1⟩ := own_cell hown1 (k * 6 + 1) (by omega)
      obtain ⟨o2, g2⟩ := own_cell hown1 (k * 6 + 2) (by omega)
      obtain ⟨o3, g3⟩ := own_cell hown1 (k * 6 + 3) (by omega)
      obtain ⟨o4, g4⟩ := own_cell hown1 (k * 6 + 4) (by omega)
      obtain ⟨o5, g5⟩ := own_cell hown1 (k * 6 + 5) (by omega)
      have z0 := World.ownsRow.frozenAt hown1 (k * 6)
      have z1 := World.ownsRow.frozenAt hown1 (k * 6 + 1)
      have z2 := World.ownsRow.frozenAt hown1 (k * 6 + 2)
      have z3 := World.ownsRow.frozenAt hown1 (k * 6 + 3)
      have z4 := World.ownsRow.frozenAt hown1 (k * 6 + 4)
      have z5 := World.ownsRow.frozenAt hown1 (k * 6 + 5)
      clear hown1
      go_wp2
      go_roundw
      case rel =>
        have hst := own_setCells HOwn1.out [.bool x.x.num.neg, .slice B1 nB1 cB1, .slice B2 nB2 cB2, .bool x.y.num.neg, .slice B4 nB4 cB4, .slice B5 nB5 cB5] (k * 6)
        have hkl : (xs.take k).length = k := by rw [List.length_take, HL.out]; omega
        refine ⟨k + 1, _, fss ++ [sB1 ++ (sB2 ++ (sB4 ++ (sB5)))], by omega, by go_num, hst, ?_, ?_, ?_, ?_⟩
        · rw [take_step HXk.out]
          have h1 := Filled.store (Filled.below HFil.out hbu) HV.out (by rw [hkl]; exact hlen)
          rw [hkl] at h1
          exact h1.keep fun g hg => heap_setCells w.heap.size [.bool x.x.num.neg, .slice B1 nB1 cB1, .slice B2 nB2 cB2, .bool x.y.num.neg, .slice B4 nB4 cB4, .slice B5 nB5 cB5] u (k * 6) g (by
            rw [List.flatten_append] at hg
            rcases List.mem_append.1 hg with hg | hg
            · have := HGt.out g hg; omega
            · have := (HO.out.2 g (by simpa using hg)).1; omega)
        · rw [List.flatten_append]
          have ho1 : Own w u fss.flatten := HOw.out.below hbu
          have ho2 : Own w u ([sB1 ++ (sB2 ++ (sB4 ++ (sB5)))] : List (List Nat)).flatten := by simpa using HO.out.olderThan hb
          refine own_setCells_keep (w := u) (g := w.heap.size) (cs := [.bool x.x.num.neg, .slice B1 nB1 cB1, .slice B2 nB2 cB2, .bool x.y.num.neg, .slice B4 nB4 cB4, .slice B5 nB5 cB5]) (i := k * 6) (Own.append ho1 ho2 ?_) ?_
          · exact apart_of_lt (N := wr.heap.size) HOw.out.lt (fun b hb => by have := (HO.out.2 b (by simpa using hb)).1; omega)
          · intro g hg
            rcases List.mem_append.1 hg with hg | hg
            · have := HGt.out g hg; omega
            · have := (HO.out.2 g (by simpa using hg)).1; omega
        · intro g hg
          rw [List.flatten_append] at hg
          rcases List.mem_append.1 hg with hg | hg
          · exact HGt.out g hg
          · have := (HO.out.2 g (by simpa using hg)).1; omega
        · exact below_setCells (Below.next hb hbu) (Nat.le_refl _) [.bool x.x.num.neg, .slice B1 nB1 cB1, .slice B2 nB2 cB2, .bool x.y.num.neg, .slice B4 nB4 cB4, .slice B5 nB5 cB5] (k * 6)
      case measure => simp [intOf]; omega
    · obtain rfl : k = n := by omega
      go_wp2
      go_ret
      have hfil := HFil.out
      rw [List.take_of_length_le (Nat.le_of_eq HL.out)] at hfil
      obtain ⟨A', c', bs', hv, hs, ho⟩ := hfil.sl HOwn.out HL.out
      refine ⟨A', k, c', bs', by rw [← hv]; rfl, hs, own_of_row (n := k) (fss := fss) ?_ HOw.out, hb⟩
      rcases ho with ho | ⟨g, h1, h2, h3, h4⟩
      · exact .inl ho
      · refine .inr ⟨g, h2, h3, h4, fun hg => ?_⟩
        have := HGt.out g hg
        have e : w.heap.size = g := by simpa [Value.ownBlock] using h1
        omega
set_option maxHeartbeats 1000000 in
theorem laws_toTri (v : Value) (x : TTri) (bs : List Nat) (w : World) (hx : Agg w v x bs) : Calls Try.prog 63 #[v] w (GivesAgg w x) := by
  obtain ⟨rfl, rfl, w0, w1, w2, w3, w4⟩ := TTri.agg hx
  have W0 := hid w0
  have W1 := hid w1
  have W2 := hid w2
  have W3 := hid w3
  have W4 := hid w4
  clear hx w0 w1 w2 w3 w4
  go_enter Try.func63, Try.ntmps63
  go_wp2
  refine bodyPost_ret (v := .agg #[.int .i64 x.a, .int .i64 x.b, .int .i64 x.c, .int .i64 x.region, .int .i64 x.level]) (by simp [results, Try.results63, go_sem, *]) rfl ?_
  refine ⟨_, _, rfl, ⟨_, rfl, ⟨_, _, _, _, rfl, rfl, ⟨rfl, rfl, W0.out⟩, ⟨_, _, _, _, rfl, rfl, ⟨rfl, rfl, W1.out⟩, ⟨_, _, _, _, rfl, rfl, ⟨rfl, rfl, W2.out⟩, ⟨_, _, _, _, rfl, rfl, ⟨rfl, rfl, W3.out⟩, ⟨rfl, rfl, W4.out⟩⟩⟩⟩⟩⟩, ?_, ?_⟩
  · have hsz' : True := trivial
    refine Own.append (Own.nil _ _) ?_ ?_
    rotate_left
    · intro b hb; simp at hb
    refine Own.append (Own.nil _ _) ?_ ?_
    rotate_left
    · intro b hb; simp at hb
    refine Own.append (Own.nil _ _) ?_ ?_
    rotate_left
    · intro b hb; simp at hb
    refine Own.append (Own.nil _ _) ?_ ?_
    rotate_left
    · intro b hb; simp at hb
    exact Own.nil _ _
  · (repeat (first | (with_reducible exact Below.refl _ _) | ((with_reducible refine Below.set ?_ ?_ _); rotate_left; (simp <;> omega)) | (with_reducible refine Below.box_ ?_ _) | (with_reducible refine Below.next ?_ (by assumption))))
set_option maxHeartbeats 1000000 in
theorem laws_toTriS (A : Option Addr) (n c : Nat) (xs : List TTri) (bs : List Nat) (w : World) (hx : Sl w A n c xs bs) (hsz : n ≤ 1048576) :
    Calls Try.prog 54 #[.slice A n c] w (GivesSl w xs) := by
  have HL := hid hx.1
  have HX := hid hx
  have hn : n ≤ 1048576 := by exact hsz
  obtain ⟨i0, z0, hi, hz0, hz1, hz2⟩ := info_zero (P := Try.prog) (e := 92) (size := 5) (by kernel_rfl)
  clear hx hsz
  go_enter Try.func54, Try.ntmps54
  go_wp2_with (first | (at_make; refine wpList_make_full _ rfl _ _ 53 rfl w.heap.size 92 i0 z0 5 Try.underlying53 hi hz0 hz1 .i64 .i64 _ _ n rfl rfl rfl rfl (Nat.le_trans (Nat.mul_le_mul hz2 hn) (by decide)) (Nat.le_trans hn (by decide)) (Nat.le_refl _) ?_; intro w1 hown hgrow))
  go_loopw [4] (fun i wr => ∃ (k : Nat) (cells : List Value) (fss : List (List Nat)), k ≤ n ∧ i = .int .i64 k ∧ wr.ownsRow w.heap.size 92 5 (.slice (some ⟨w.heap.size, 0, none⟩) n n) n cells ∧ Filled wr cells (xs.take k) fss ∧ Own w wr fss.flatten ∧ (∀ g ∈ fss.flatten, w.heap.size < g) ∧ Below w.heap.size w wr) (fun i _ => n - (intOf i).toNat)
  case atStart => exact ⟨0, _, [], Nat.zero_le _, rfl, hown, Filled.nil _ _, Own.nil _ _, fun _ h => by simp at h, (Below.refl _ _).grown hgrow (Nat.le_refl _) (by simp)⟩
  case round =>
    obtain ⟨k, cells, fss, hk, rfl, hown, hfil, how, hgt, hb⟩ := hrel
    clear hgrow
    have HFil := hid hfil; have HOw := hid how; have HGt := hid hgt; have HOwn := hid hown
    have HN : w.heap.size < wr.heap.size := (World.ownsRow.lt hown _ rfl).2
    clear hfil how hgt
    by_cases hlt : k < n
    · obtain ⟨be, offe, x, rfl, hble, hxke, ee0, ee1, ee2, ee3, ee4, e0, e1, e2, e3, e4⟩ := TTri.elem (Sl.below HX.out hb) hlt
      have HXk := hid hxke
      have W0 := hid e0
      have W1 := hid e1
      have W2 := hid e2
      have W3 := hid e3
      have W4 := hid e4
      clear hxke e0 e1 e2 e3 e4 hown
      go_wp2_with fail
      refine (laws_toTri _ x _ _ (TTri.mkAgg W0.out W1.out W2.out W3.out W4.out)).mono ?_
      rintro e u ⟨v, fs, rfl, hv, ho, hbu⟩
      obtain ⟨rfl, rfl, y0, y1, y2, y3, y4⟩ := TTri.agg hv
      have HV := hid (TTri.shut y0 y1 y2 y3 y4 : Dat.at_ u [.int .i64 x.a, .int .i64 x.b, .int .i64 x.c, .int .i64 x.region, .int .i64 x.level] x _)
      have HO := hid ho
      clear hv ho y0 y1 y2 y3 y4
      have hown1 := ownsRow_below HOwn.out hbu
      have HOwn1 := hid hown1
      have hlen : (k + 1) * 5 ≤ cells.length := by rw [hown1.1]; omega
      obtain ⟨o0, g0⟩ := own_cell hown1 (k * 5) (by omega)
      obtain ⟨o1, g1⟩ := own_cell hown1 (k * 5 + 1) (by omega)
      obtain ⟨o2, g2⟩ := own_cell hown1 (k * 5 + 2) (by omega)
      obtain ⟨o3, g3⟩ := own_cell hown1 (k * 5 + 3) (by omega)
      obtain ⟨o4, g4⟩ := own_cell hown1 (k * 5 + 4) (by omega)
      have z0 := World.ownsRow.frozenAt hown1 (k * 5)
      have z1 := World.ownsRow.frozenAt hown1 (k * 5 + 1)
      have z2 := World.ownsRow.frozenAt hown1 (k * 5 + 2)
      have z3 := World.ownsRow.frozenAt hown1 (k * 5 + 3)
      have z4 := World.ownsRow.frozenAt hown1 (k * 5 + 4)
      clear hown1
      go_wp2
      go_roundw
      case rel =>
        have hst := own_setCells HOwn1.out [.int .i64 x.a, .int .i64 x.b, .int .i64 x.c, .int .i64 x.region, .int .i64 x.level] (k * 5)
        have hkl : (xs.take k).length = k := by rw [List.length_take, HL.out]; omega
        refine ⟨k + 1, _, fss ++ [[]], by omega, by go_num, hst, ?_, ?_, ?_, ?_⟩
        · rw [take_step HXk.out]
          have h1 := Filled.store (Filled.below HFil.out hbu) HV.out (by rw [hkl]; exact hlen)
          rw [hkl] at h1
          exact h1.keep fun g hg => heap_setCells w.heap.size [.int .i64 x.a, .int .i64 x.b, .int .i64 x.c, .int .i64 x.region, .int .i64 x.level] u (k * 5) g (by
            rw [List.flatten_append] at hg
            rcases List.mem_append.1 hg with hg | hg
            · have := HGt.out g hg; omega
            · simp at hg)
        · rw [List.flatten_append]
          have ho1 : Own w u fss.flatten := HOw.out.below hbu
          have ho2 : Own w u ([[]] : List (List Nat)).flatten := by simpa using HO.out.olderThan hb
          refine own_setCells_keep (w := u) (g := w.heap.size) (cs := [.int .i64 x.a, .int .i64 x.b, .int .i64 x.c, .int .i64 x.region, .int .i64 x.level]) (i := k * 5) (Own.append ho1 ho2 ?_) ?_
          · exact apart_of_lt (N := wr.heap.size) HOw.out.lt (fun b hb => by simp at hb)
          · intro g hg
            rcases List.mem_append.1 hg with hg | hg
            · have := HGt.out g hg; omega
            · simp at hg
        · intro g hg
          rw [List.flatten_append] at hg
          rcases List.mem_append.1 hg with hg | hg
          · exact HGt.out g hg
          · simp at hg
        · exact below_setCells (Below.next hb hbu) (Nat.le_refl _) [.int .i64 x.a, .int .i64 x.b, .int .i64 x.c, .int .i64 x.region, .int .i64 x.level] (k * 5)
      case measure => simp [intOf]; omega
    · obtain rfl : k = n := by omega
      go_wp2
      go_ret
      have hfil := HFil.out
      rw [List.take_of_length_le (Nat.le_of_eq HL.out)] at hfil
      obtain ⟨A', c', bs', hv, hs, ho⟩ := hfil.sl HOwn.out HL.out
      refine ⟨A', k, c', bs', by rw [← hv]; rfl, hs, own_of_row (n := k) (fss := fss) ?_ HOw.out, hb⟩
      rcases ho with ho | ⟨g, h1, h2, h3, h4⟩
      · exact .inl ho
      · refine .inr ⟨g, h2, h3, h4, fun hg => ?_⟩
        have := HGt.out g hg
        have e : w.heap.size = g := by simpa [Value.ownBlock] using h1
        omega
set_option maxHeartbeats 1000000 in
theorem laws_toMesh (v : Value) (x : TMesh) (bs : List Nat) (w : World) (hx : Agg w v x bs) (hsz : x.cnt ≤ 1048576) : Calls Try.prog 44 #[v] w (GivesAgg w x) := by
  obtain ⟨A0, nA0, cA0, sA0, A1, nA1, cA1, sA1, rfl, rfl, w0, w1⟩ := TMesh.agg hx
  have W0 := hid w0
  have W1 := hid w1
  clear hx w0 w1
  unfold TMesh.cnt at hsz
  go_enter Try.func44, Try.ntmps44
  go_wp2_with fail
  refine (laws_toPointS _ _ _ x.points _ _ (Sl.below W0.out (by (repeat (first | (with_reducible exact Below.refl _ _) | ((with_reducible refine Below.set ?_ ?_ _); rotate_left; (simp <;> omega)) | (with_reducible refine Below.box_ ?_ _) | (with_reducible refine Below.next ?_ (by assumption)))))) (by omega)).mono ?_
  rintro e u0 ⟨B0, m0, d0, t0, rfl, hs0, ho0, hb0⟩
  have HS0 := hid (show Dat.at_ u0 [.slice B0 m0 d0] x.points t0 from ⟨_, _, _, rfl, hs0⟩)
  have HO0 := hid ho0
  clear hs0 ho0
  obtain ⟨hc0, hf0⟩ := bcell hb0
  have hz0 : w.heap.size < u0.heap.size ∧ w.heap.size + 1 < u0.heap.size ∧ w.heap.size + 1 + 1 < u0.heap.size := by have := hb0.size; (try simp at this); omega
  obtain ⟨hz0a, hz0b, hz0c⟩ := hz0
  go_wp2_with fail
  refine (laws_toTriS _ _ _ x.triangles _ _ (Sl.below W1.out (by (repeat (first | (with_reducible exact Below.refl _ _) | ((with_reducible refine Below.set ?_ ?_ _); rotate_left; (simp <;> omega)) | (with_reducible refine Below.box_ ?_ _) | (with_reducible refine Below.next ?_ (by assumption)))))) (by have := W1.out.1; omega)).mono ?_
  rintro e u1 ⟨B1, m1, d1, t1, rfl, hs1, ho1, hb1⟩
  have HS1 := hid (show Dat.at_ u1 [.slice B1 m1 d1] x.triangles t1 from ⟨_, _, _, rfl, hs1⟩)
  have HO1 := hid ho1
  clear hs1 ho1
  obtain ⟨hc1, hf1⟩ := bcell hb1
  have hz1 : w.heap.size < u1.heap.size ∧ w.heap.size + 1 < u1.heap.size ∧ w.heap.size + 1 + 1 < u1.heap.size := by have := hb1.size; (try simp at this); omega
  obtain ⟨hz1a, hz1b, hz1c⟩ := hz1
  go_wp2
  refine bodyPost_ret (v := .agg #[.slice B0 m0 d0, .slice B1 m1 d1]) (by simp [results, Try.results44, go_sem, *]) rfl ?_
  have a0 : ∀ W : World, Above (w.heap.size + 3) u0 W → Dat.at_ W [.slice B0 m0 d0] x.points _ ∧ Own w W _ := fun W ha =>
    ⟨At.above HS0.out HO0.out ha (by simp <;> omega), (HO0.out.above ha (by simp <;> omega)).older (by simp <;> omega)⟩
  have a1 : ∀ W : World, Above (w.heap.size + 3) u1 W → Dat.at_ W [.slice B1 m1 d1] x.triangles _ ∧ Own w W _ := fun W ha =>
    ⟨At.above HS1.out HO1.out ha (by simp <;> omega), (HO1.out.above ha (by simp <;> omega)).older (by simp <;> omega)⟩
  refine ⟨_, _, rfl, ⟨_, rfl, ⟨_, _, _, _, rfl, rfl, (a0 _ (by (repeat (first | (with_reducible exact Above.refl _ _) | ((with_reducible refine Above.set ?_ ?_ _); rotate_left; (simp <;> omega)) | (with_reducible refine Above.box ?_ _) | (with_reducible refine Above.below ?_ (by assumption)))))).1, (a1 _ (by (repeat (first | (with_reducible exact Above.refl _ _) | ((with_reducible refine Above.set ?_ ?_ _); rotate_left; (simp <;> omega)) | (with_reducible refine Above.box ?_ _) | (with_reducible refine Above.below ?_ (by assumption)))))).1⟩⟩, ?_, ?_⟩
  · have hsz' : True := trivial
    have q0 := hb0.size; (try simp at q0)
    have q1 := hb1.size; (try simp at q1)
    refine Own.append (a0 _ (by (repeat (first | (with_reducible exact Above.refl _ _) | ((with_reducible refine Above.set ?_ ?_ _); rotate_left; (simp <;> omega)) | (with_reducible refine Above.box ?_ _) | (with_reducible refine Above.below ?_ (by assumption)))))).2 ?_ ?_
    rotate_left
    · refine apart_of_lt (N := u0.heap.size) HO0.out.lt ?_
      intro b hb
      have h1 := (HO1.out.2 b hb).1; (try simp at h1); omega
    exact (a1 _ (by (repeat (first | (with_reducible exact Above.refl _ _) | ((with_reducible refine Above.set ?_ ?_ _); rotate_left; (simp <;> omega)) | (with_reducible refine Above.box ?_ _) | (with_reducible refine Above.below ?_ (by assumption)))))).2
  · (repeat (first | (with_reducible exact Below.refl _ _) | ((with_reducible refine Below.set ?_ ?_ _); rotate_left; (simp <;> omega)) | (with_reducible refine Below.box_ ?_ _) | (with_reducible refine Below.next ?_ (by assumption))))
set_option maxHeartbeats 1000000 in
theorem laws_toProblem (v : Value) (x : TProblem) (bs : List Nat) (w : World) (hx : Agg w v x bs) (hsz : x.cnt ≤ 1048576) : Calls Try.prog 26 #[v] w (GivesAgg w x) := by
  obtain ⟨A0, nA0, cA0, sA0, A1, nA1, cA1, sA1, A2, nA2, cA2, sA2, A3, nA3, cA3, sA3, rfl, rfl, w0, w1, w2, w3⟩ := TProblem.agg hx
  have W0 := hid w0
  have W1 := hid w1
  have W2 := hid w2
  have W3 := hid w3
  clear hx w0 w1 w2 w3
  unfold TProblem.cnt at hsz
  go_enter Try.func26, Try.ntmps26
  go_wp2_with fail
  refine (laws_toMesh _ x.mesh _ _ (TMesh.mkAgg (Sl.below W0.out (by (repeat (first | (with_reducible exact Below.refl _ _) | ((with_reducible refine Below.set ?_ ?_ _); rotate_left; (simp <;> omega)) | (with_reducible refine Below.box_ ?_ _) | (with_reducible refine Below.next ?_ (by assumption)))))) (Sl.below W1.out (by (repeat (first | (with_reducible exact Below.refl _ _) | ((with_reducible refine Below.set ?_ ?_ _); rotate_left; (simp <;> omega)) | (with_reducible refine Below.box_ ?_ _) | (with_reducible refine Below.next ?_ (by assumption))))))) (by omega)).mono ?_
  rintro e u0 ⟨r0, t0, rfl, hs0, ho0, hb0⟩
  obtain ⟨B00, nB00, cB00, sB00, B01, nB01, cB01, sB01, rfl, rfl, y0, y1⟩ := TMesh.agg hs0
  have HS0 := hid (TMesh.shut y0 y1)
  have HO0 := hid ho0
  clear hs0 ho0 y0 y1
  obtain ⟨hc0, hf0⟩ := bcell hb0
  have hz0 : w.heap.size < u0.heap.size ∧ w.heap.size + 1 < u0.heap.size ∧ w.heap.size + 1 + 1 < u0.heap.size := by have := hb0.size; (try simp at this); omega
  obtain ⟨hz0a, hz0b, hz0c⟩ := hz0
  go_wp2_with fail
  refine (laws_toRatS _ _ _ x.diffusion _ _ (Sl.below W2.out (by (repeat (first | (with_reducible exact Below.refl _ _) | ((with_reducible refine Below.set ?_ ?_ _); rotate_left; (simp <;> omega)) | (with_reducible refine Below.box_ ?_ _) | (with_reducible refine Below.next ?_ (by assumption)))))) (by omega)).mono ?_
  rintro e u1 ⟨B1, m1, d1, t1, rfl, hs1, ho1, hb1⟩
  have HS1 := hid (show Dat.at_ u1 [.slice B1 m1 d1] x.diffusion t1 from ⟨_, _, _, rfl, hs1⟩)
  have HO1 := hid ho1
  clear hs1 ho1
  obtain ⟨hc1, hf1⟩ := bcell hb1
  have hz1 : w.heap.size < u1.heap.size ∧ w.heap.size + 1 < u1.heap.size ∧ w.heap.size + 1 + 1 < u1.heap.size := by have := hb1.size; (try simp at this); omega
  obtain ⟨hz1a, hz1b, hz1c⟩ := hz1
  go_wp2_with fail
  refine (laws_toRatS _ _ _ x.source _ _ (Sl.below W3.out (by (repeat (first | (with_reducible exact Below.refl _ _) | ((with_reducible refine Below.set ?_ ?_ _); rotate_left; (simp <;> omega)) | (with_reducible refine Below.box_ ?_ _) | (with_reducible refine Below.next ?_ (by assumption)))))) (by omega)).mono ?_
  rintro e u2 ⟨B2, m2, d2, t2, rfl, hs2, ho2, hb2⟩
  have HS2 := hid (show Dat.at_ u2 [.slice B2 m2 d2] x.source t2 from ⟨_, _, _, rfl, hs2⟩)
  have HO2 := hid ho2
  clear hs2 ho2
  obtain ⟨hc2, hf2⟩ := bcell hb2
  have hz2 : w.heap.size < u2.heap.size ∧ w.heap.size + 1 < u2.heap.size ∧ w.heap.size + 1 + 1 < u2.heap.size := by have := hb2.size; (try simp at this); omega
  obtain ⟨hz2a, hz2b, hz2c⟩ := hz2
  go_wp2
  refine bodyPost_ret (v := .agg #[.slice B00 nB00 cB00, .slice B01 nB01 cB01, .slice B1 m1 d1, .slice B2 m2 d2]) (by simp [results, Try.results26, go_sem, *]) rfl ?_
  have a0 : ∀ W : World, Above (w.heap.size + 3) u0 W → Dat.at_ W [.slice B00 nB00 cB00, .slice B01 nB01 cB01] x.mesh _ ∧ Own w W _ := fun W ha =>
    ⟨At.above HS0.out HO0.out ha (by simp <;> omega), (HO0.out.above ha (by simp <;> omega)).older (by simp <;> omega)⟩
  have a1 : ∀ W : World, Above (w.heap.size + 3) u1 W → Dat.at_ W [.slice B1 m1 d1] x.diffusion _ ∧ Own w W _ := fun W ha =>
    ⟨At.above HS1.out HO1.out ha (by simp <;> omega), (HO1.out.above ha (by simp <;> omega)).older (by simp <;> omega)⟩
  have a2 : ∀ W : World, Above (w.heap.size + 3) u2 W → Dat.at_ W [.slice B2 m2 d2] x.source _ ∧ Own w W _ := fun W ha =>
    ⟨At.above HS2.out HO2.out ha (by simp <;> omega), (HO2.out.above ha (by simp <;> omega)).older (by simp <;> omega)⟩
  refine ⟨_, _, rfl, ⟨_, rfl, ⟨_, _, _, _, rfl, rfl, (a0 _ (by (repeat (first | (with_reducible exact Above.refl _ _) | ((with_reducible refine Above.set ?_ ?_ _); rotate_left; (simp <;> omega)) | (with_reducible refine Above.box ?_ _) | (with_reducible refine Above.below ?_ (by assumption)))))).1, ⟨_, _, _, _, rfl, rfl, (a1 _ (by (repeat (first | (with_reducible exact Above.refl _ _) | ((with_reducible refine Above.set ?_ ?_ _); rotate_left; (simp <;> omega)) | (with_reducible refine Above.box ?_ _) | (with_reducible refine Above.below ?_ (by assumption)))))).1, (a2 _ (by (repeat (first | (with_reducible exact Above.refl _ _) | ((with_reducible refine Above.set ?_ ?_ _); rotate_left; (simp <;> omega)) | (with_reducible refine Above.box ?_ _) | (with_reducible refine Above.below ?_ (by assumption)))))).1⟩⟩⟩, ?_, ?_⟩
  · have hsz' : True := trivial
    have q0 := hb0.size; (try simp at q0)
    have q1 := hb1.size; (try simp at q1)
    have q2 := hb2.size; (try simp at q2)
    refine Own.append (a0 _ (by (repeat (first | (with_reducible exact Above.refl _ _) | ((with_reducible refine Above.set ?_ ?_ _); rotate_left; (simp <;> omega)) | (with_reducible refine Above.box ?_ _) | (with_reducible refine Above.below ?_ (by assumption)))))).2 ?_ ?_
    rotate_left
    · refine apart_of_lt (N := u0.heap.size) HO0.out.lt ?_
      intro b hb
      rcases List.mem_append.1 hb with hb | hb
      · have h1 := (HO1.out.2 b hb).1; (try simp at h1); omega
      have h1 := (HO2.out.2 b hb).1; (try simp at h1); omega
    refine Own.append (a1 _ (by (repeat (first | (with_reducible exact Above.refl _ _) | ((with_reducible refine Above.set ?_ ?_ _); rotate_left; (simp <;> omega)) | (with_reducible refine Above.box ?_ _) | (with_reducible refine Above.below ?_ (by assumption)))))).2 ?_ ?_
    rotate_left
    · refine apart_of_lt (N := u1.heap.size) HO1.out.lt ?_
      intro b hb
      have h1 := (HO2.out.2 b hb).1; (try simp at h1); omega
    exact (a2 _ (by (repeat (first | (with_reducible exact Above.refl _ _) | ((with_reducible refine Above.set ?_ ?_ _); rotate_left; (simp <;> omega)) | (with_reducible refine Above.box ?_ _) | (with_reducible refine Above.below ?_ (by assumption)))))).2
  · (repeat (first | (with_reducible exact Below.refl _ _) | ((with_reducible refine Below.set ?_ ?_ _); rotate_left; (simp <;> omega)) | (with_reducible refine Below.box_ ?_ _) | (with_reducible refine Below.next ?_ (by assumption))))
set_option maxHeartbeats 1000000 in
theorem laws_toReport (v : Value) (x : TReport) (bs : List Nat) (w : World) (hx : Agg w v x bs) (hsz : x.cnt ≤ 1048576) : Calls Try.prog 10 #[v] w (GivesAgg w x) := by
  obtain ⟨A2, nA2, cA2, sA2, A3, nA3, cA3, sA3, A5, nA5, cA5, sA5, A6, nA6, cA6, sA6, rfl, rfl, w0, w2, w3, w5, w6⟩ := TReport.agg hx
  have W0 := hid w0
  have W2 := hid w2
  have W3 := hid w3
  have W5 := hid w5
  have W6 := hid w6
  clear hx w0 w2 w3 w5 w6
  unfold TReport.cnt at hsz
  go_enter Try.func10, Try.ntmps10
  go_wp2_with fail
  refine (laws_toRat _ x.energy _ _ (TRat.mkAgg (Sl.below W2.out (by (repeat (first | (with_reducible exact Below.refl _ _) | ((with_reducible refine Below.set ?_ ?_ _); rotate_left; (simp <;> omega)) | (with_reducible refine Below.box_ ?_ _) | (with_reducible refine Below.next ?_ (by assumption)))))) (Sl.below W3.out (by (repeat (first | (with_reducible exact Below.refl _ _) | ((with_reducible refine Below.set ?_ ?_ _); rotate_left; (simp <;> omega)) | (with_reducible refine Below.box_ ?_ _) | (with_reducible refine Below.next ?_ (by assumption))))))) (by omega)).mono ?_
  rintro e u0 ⟨r0, t0, rfl, hs0, ho0, hb0⟩
  obtain ⟨B01, nB01, cB01, sB01, B02, nB02, cB02, sB02, rfl, rfl, y1, y2⟩ := TRat.agg hs0
  have HS0 := hid (TRat.shut y1 y2)
  have HO0 := hid ho0
  clear hs0 ho0 y1 y2
  obtain ⟨hc0, hf0⟩ := bcell hb0
  have hz0 : w.heap.size < u0.heap.size ∧ w.heap.size + 1 < u0.heap.size ∧ w.heap.size + 1 + 1 < u0.heap.size := by have := hb0.size; (try simp at this); omega
  obtain ⟨hz0a, hz0b, hz0c⟩ := hz0
  go_wp2_with fail
  refine (laws_toRat _ x.bound _ _ (TRat.mkAgg (Sl.below W5.out (by (repeat (first | (with_reducible exact Below.refl _ _) | ((with_reducible refine Below.set ?_ ?_ _); rotate_left; (simp <;> omega)) | (with_reducible refine Below.box_ ?_ _) | (with_reducible refine Below.next ?_ (by assumption)))))) (Sl.below W6.out (by (repeat (first | (with_reducible exact Below.refl _ _) | ((with_reducible refine Below.set ?_ ?_ _); rotate_left; (simp <;> omega)) | (with_reducible refine Below.box_ ?_ _) | (with_reducible refine Below.next ?_ (by assumption))))))) (by omega)).mono ?_
  rintro e u1 ⟨r1, t1, rfl, hs1, ho1, hb1⟩
  obtain ⟨B11, nB11, cB11, sB11, B12, nB12, cB12, sB12, rfl, rfl, y1, y2⟩ := TRat.agg hs1
  have HS1 := hid (TRat.shut y1 y2)
  have HO1 := hid ho1
  clear hs1 ho1 y1 y2
  obtain ⟨hc1, hf1⟩ := bcell hb1
  have hz1 : w.heap.size < u1.heap.size ∧ w.heap.size + 1 < u1.heap.size ∧ w.heap.size + 1 + 1 < u1.heap.size := by have := hb1.size; (try simp at this); omega
  obtain ⟨hz1a, hz1b, hz1c⟩ := hz1
  go_wp2
  refine bodyPost_ret (v := .agg #[.int .i64 x.triangles, .bool x.energy.num.neg, .slice B01 nB01 cB01, .slice B02 nB02 cB02, .bool x.bound.num.neg, .slice B11 nB11 cB11, .slice B12 nB12 cB12]) (by simp [results, Try.results10, go_sem, *]) rfl ?_
  have a0 : ∀ W : World, Above (w.heap.size + 3) u0 W → Dat.at_ W [.bool x.energy.num.neg, .slice B01 nB01 cB01, .slice B02 nB02 cB02] x.energy _ ∧ Own w W _ := fun W ha =>
    ⟨At.above HS0.out HO0.out ha (by simp <;> omega), (HO0.out.above ha (by simp <;> omega)).older (by simp <;> omega)⟩
  have a1 : ∀ W : World, Above (w.heap.size + 3) u1 W → Dat.at_ W [.bool x.bound.num.neg, .slice B11 nB11 cB11, .slice B12 nB12 cB12] x.bound _ ∧ Own w W _ := fun W ha =>
    ⟨At.above HS1.out HO1.out ha (by simp <;> omega), (HO1.out.above ha (by simp <;> omega)).older (by simp <;> omega)⟩
  refine ⟨_, _, rfl, ⟨_, rfl, ⟨_, _, _, _, rfl, rfl, ⟨rfl, rfl, W0.out⟩, ⟨_, _, _, _, rfl, rfl, (a0 _ (by (repeat (first | (with_reducible exact Above.refl _ _) | ((with_reducible refine Above.set ?_ ?_ _); rotate_left; (simp <;> omega)) | (with_reducible refine Above.box ?_ _) | (with_reducible refine Above.below ?_ (by assumption)))))).1, (a1 _ (by (repeat (first | (with_reducible exact Above.refl _ _) | ((with_reducible refine Above.set ?_ ?_ _); rotate_left; (simp <;> omega)) | (with_reducible refine Above.box ?_ _) | (with_reducible refine Above.below ?_ (by assumption)))))).1⟩⟩⟩, ?_, ?_⟩
  · have hsz' : True := trivial
    have q0 := hb0.size; (try simp at q0)
    have q1 := hb1.size; (try simp at q1)
    refine Own.append (Own.nil _ _) ?_ ?_
    rotate_left
    · intro b hb; simp at hb
    refine Own.append (a0 _ (by (repeat (first | (with_reducible exact Above.refl _ _) | ((with_reducible refine Above.set ?_ ?_ _); rotate_left; (simp <;> omega)) | (with_reducible refine Above.box ?_ _) | (with_reducible refine Above.below ?_ (by assumption)))))).2 ?_ ?_
    rotate_left
    · refine apart_of_lt (N := u0.heap.size) HO0.out.lt ?_
      intro b hb
      have h1 := (HO1.out.2 b hb).1; (try simp at h1); omega
    exact (a1 _ (by (repeat (first | (with_reducible exact Above.refl _ _) | ((with_reducible refine Above.set ?_ ?_ _); rotate_left; (simp <;> omega)) | (with_reducible refine Above.box ?_ _) | (with_reducible refine Above.below ?_ (by assumption)))))).2
  · (repeat (first | (with_reducible exact Below.refl _ _) | ((with_reducible refine Below.set ?_ ?_ _); rotate_left; (simp <;> omega)) | (with_reducible refine Below.box_ ?_ _) | (with_reducible refine Below.next ?_ (by assumption))))
set_option maxHeartbeats 1000000 in
theorem laws_toReportS (A : Option Addr) (n c : Nat) (xs : List TReport) (bs : List Nat) (w : World) (hx : Sl w A n c xs bs) (hsz : cntL TReport.cnt xs ≤ 1048576) :
    Calls Try.prog 27 #[.slice A n c] w (GivesSl w xs) := by
  have HL := hid hx.1
  have HX := hid hx
  have HC := hid hsz
  have hn : n ≤ 1048576 := by have := hx.1; unfold cntL at hsz; omega
  obtain ⟨i0, z0, hi, hz0, hz1, hz2⟩ := info_zero (P := Try.prog) (e := 37) (size := 7) (by kernel_rfl)
  clear hx hsz
  go_enter Try.func27, Try.ntmps27
  go_wp2_with (first | (at_make; refine wpList_make_full _ rfl _ _ 59 rfl w.heap.size 37 i0 z0 7 Try.underlying59 hi hz0 hz1 .i64 .i64 _ _ n rfl rfl rfl rfl (Nat.le_trans (Nat.mul_le_mul hz2 hn) (by decide)) (Nat.le_trans hn (by decide)) (Nat.le_refl _) ?_; intro w1 hown hgrow))
  go_loopw [4] (fun i wr => ∃ (k : Nat) (cells : List Value) (fss : List (List Nat)), k ≤ n ∧ i = .int .i64 k ∧ wr.ownsRow w.heap.size 37 7 (.slice (some ⟨w.heap.size, 0, none⟩) n n) n cells ∧ Filled wr cells (xs.take k) fss ∧ Own w wr fss.flatten ∧ (∀ g ∈ fss.flatten, w.heap.size < g) ∧ Below w.heap.size w wr) (fun i _ => n - (intOf i).toNat)
  case atStart => exact ⟨0, _, [], Nat.zero_le _, rfl, hown, Filled.nil _ _, Own.nil _ _, fun _ h => by simp at h, (Below.refl _ _).grown hgrow (Nat.le_refl _) (by simp)⟩
  case round =>
    obtain ⟨k, cells, fss, hk, rfl, hown, hfil, how, hgt, hb⟩ := hrel
    clear hgrow
    have HFil := hid hfil; have HOw := hid how; have HGt := hid hgt; have HOwn := hid hown
    have HN : w.heap.size < wr.heap.size := (World.ownsRow.lt hown _ rfl).2
    clear hfil how hgt
    by_cases hlt : k < n
    · obtain ⟨be, offe, x, A2, nA2, cA2, sA2, A3, nA3, cA3, sA3, A5, nA5, cA5, sA5, A6, nA6, cA6, sA6, rfl, hble, hxke, ee0, ee1, ee2, ee3, ee4, ee5, ee6, e0, e2, e3, e5, e6, hmeme⟩ := TReport.elem (Sl.below HX.out hb) hlt
      have HXk := hid hxke
      have W0 := hid e0
      have W2 := hid e2
      have W3 := hid e3
      have W5 := hid e5
      have W6 := hid e6
      clear hxke e0 e2 e3 e5 e6 hmeme hown
      go_wp2_with fail
      refine (laws_toReport _ x _ _ (TReport.mkAgg W0.out W2.out W3.out W5.out W6.out) (by have := cnt_le_cntL TReport.cnt HXk.out; have := HC.out; omega)).mono ?_
      rintro e u ⟨v, fs, rfl, hv, ho, hbu⟩
      obtain ⟨B2, nB2, cB2, sB2, B3, nB3, cB3, sB3, B5, nB5, cB5, sB5, B6, nB6, cB6, sB6, rfl, rfl, y0, y2, y3, y5, y6⟩ := TReport.agg hv
      have HV := hid (TReport.shut y0 y2 y3 y5 y6 : Dat.at_ u [.int .i64 x.triangles, .bool x.energy.num.neg, .slice B2 nB2 cB2, .slice B3 nB3 cB3, .bool x.bound.num.neg, .slice B5 nB5 cB5, .slice B6 nB6 cB6] x _)
      have HO := hid ho
      clear hv ho y0 y2 y3 y5 y6
      have hown1 := ownsRow_below HOwn.out hbu
      have HOwn1 := hid hown1
      have hlen : (k + 1) * 7 ≤ cells.length := by rw [hown1.1]; omega
      obtain ⟨o0, g0⟩ := own_cell hown1 (k * 7) (by omega)
      obtain ⟨o1, g1⟩ := own_cell hown1 (k * 7 + 1) (by omega)
      obtain ⟨o2, g2⟩ := own_cell hown1 (k * 7 + 2) (by omega)
      obtain ⟨o3, g3⟩ := own_cell hown1 (k * 7 + 3) (by omega)
      obtain ⟨o4, g4⟩ := own_cell hown1 (k * 7 + 4) (by omega)
      obtain ⟨o5, g5⟩ := own_cell hown1 (k * 7 + 5) (by omega)
      obtain ⟨o6, g6⟩ := own_cell hown1 (k * 7 + 6) (by omega)
      have z0 := World.ownsRow.frozenAt hown1 (k * 7)
      have z1 := World.ownsRow.frozenAt hown1 (k * 7 + 1)
      have z2 := World.ownsRow.frozenAt hown1 (k * 7 + 2)
      have z3 := World.ownsRow.frozenAt hown1 (k * 7 + 3)
      have z4 := World.ownsRow.frozenAt hown1 (k * 7 + 4)
      have z5 := World.ownsRow.frozenAt hown1 (k * 7 + 5)
      have z6 := World.ownsRow.frozenAt hown1 (k * 7 + 6)
      clear hown1
      go_wp2
      go_roundw
      case rel =>
        have hst := own_setCells HOwn1.out [.int .i64 x.triangles, .bool x.energy.num.neg, .slice B2 nB2 cB2, .slice B3 nB3 cB3, .bool x.bound.num.neg, .slice B5 nB5 cB5, .slice B6 nB6 cB6] (k * 7)
        have hkl : (xs.take k).length = k := by rw [List.length_take, HL.out]; omega
        refine ⟨k + 1, _, fss ++ [sB2 ++ (sB3 ++ (sB5 ++ (sB6)))], by omega, by go_num, hst, ?_, ?_, ?_, ?_⟩
        · rw [take_step HXk.out]
          have h1 := Filled.store (Filled.below HFil.out hbu) HV.out (by rw [hkl]; exact hlen)
          rw [hkl] at h1
          exact h1.keep fun g hg => heap_setCells w.heap.size [.int .i64 x.triangles, .bool x.energy.num.neg, .slice B2 nB2 cB2, .slice B3 nB3 cB3, .bool x.bound.num.neg, .slice B5 nB5 cB5, .slice B6 nB6 cB6] u (k * 7) g (by
            rw [List.flatten_append] at hg
            rcases List.mem_append.1 hg with hg | hg
            · have := HGt.out g hg; omega
            · have := (HO.out.2 g (by simpa using hg)).1; omega)
        · rw [List.flatten_append]
          have ho1 : Own w u fss.flatten := HOw.out.below hbu
          have ho2 : Own w u ([sB2 ++ (sB3 ++ (sB5 ++ (sB6)))] : List (List Nat)).flatten := by simpa using HO.out.olderThan hb
          refine own_setCells_keep (w := u) (g := w.heap.size) (cs := [.int .i64 x.triangles, .bool x.energy.num.neg, .slice B2 nB2 cB2, .slice B3 nB3 cB3, .bool x.bound.num.neg, .slice B5 nB5 cB5, .slice B6 nB6 cB6]) (i := k * 7) (Own.append ho1 ho2 ?_) ?_
          · exact apart_of_lt (N := wr.heap.size) HOw.out.lt (fun b hb => by have := (HO.out.2 b (by simpa using hb)).1; omega)
          · intro g hg
            rcases List.mem_append.1 hg with hg | hg
            · have := HGt.out g hg; omega
            · have := (HO.out.2 g (by simpa using hg)).1; omega
        · intro g hg
          rw [List.flatten_append] at hg
          rcases List.mem_append.1 hg with hg | hg
          · exact HGt.out g hg
          · have := (HO.out.2 g (by simpa using hg)).1; omega
        · exact below_setCells (Below.next hb hbu) (Nat.le_refl _) [.int .i64 x.triangles, .bool x.energy.num.neg, .slice B2 nB2 cB2, .slice B3 nB3 cB3, .bool x.bound.num.neg, .slice B5 nB5 cB5, .slice B6 nB6 cB6] (k * 7)
      case measure => simp [intOf]; omega
    · obtain rfl : k = n := by omega
      go_wp2
      go_ret
      have hfil := HFil.out
      rw [List.take_of_length_le (Nat.le_of_eq HL.out)] at hfil
      obtain ⟨A', c', bs', hv, hs, ho⟩ := hfil.sl HOwn.out HL.out
      refine ⟨A', k, c', bs', by rw [← hv]; rfl, hs, own_of_row (n := k) (fss := fss) ?_ HOw.out, hb⟩
      rcases ho with ho | ⟨g, h1, h2, h3, h4⟩
      · exact .inl ho
      · refine .inr ⟨g, h2, h3, h4, fun hg => ?_⟩
        have := HGt.out g hg
        have e : w.heap.size = g := by simpa [Value.ownBlock] using h1
        omega
set_option maxHeartbeats 1000000 in
theorem laws_toState (v : Value) (x : TState) (bs : List Nat) (w : World) (hx : Agg w v x bs) (hsz : x.cnt ≤ 1048576) : Calls Try.prog 15 #[v] w (GivesAgg w x) := by
  obtain ⟨A0, nA0, cA0, sA0, A1, nA1, cA1, sA1, A2, nA2, cA2, sA2, A3, nA3, cA3, sA3, A5, nA5, cA5, sA5, A6, nA6, cA6, sA6, A7, nA7, cA7, sA7, rfl, rfl, w0, w1, w2, w3, w5, w6, w7⟩ := TState.agg hx
  have W0 := hid w0
  have W1 := hid w1
  have W2 := hid w2
  have W3 := hid w3
  have W5 := hid w5
  have W6 := hid w6
  have W7 := hid w7
  clear hx w0 w1 w2 w3 w5 w6 w7
  unfold TState.cnt at hsz
  go_enter Try.func15, Try.ntmps15
  go_wp2_with fail
  refine (laws_toProblem _ x.problem _ _ (TProblem.mkAgg (Sl.below W0.out (by (repeat (first | (with_reducible exact Below.refl _ _) | ((with_reducible refine Below.set ?_ ?_ _); rotate_left; (simp <;> omega)) | (with_reducible refine Below.box_ ?_ _) | (with_reducible refine Below.next ?_ (by assumption)))))) (Sl.below W1.out (by (repeat (first | (with_reducible exact Below.refl _ _) | ((with_reducible refine Below.set ?_ ?_ _); rotate_left; (simp <;> omega)) | (with_reducible refine Below.box_ ?_ _) | (with_reducible refine Below.next ?_ (by assumption)))))) (Sl.below W2.out (by (repeat (first | (with_reducible exact Below.refl _ _) | ((with_reducible refine Below.set ?_ ?_ _); rotate_left; (simp <;> omega)) | (with_reducible refine Below.box_ ?_ _) | (with_reducible refine Below.next ?_ (by assumption)))))) (Sl.below W3.out (by (repeat (first | (with_reducible exact Below.refl _ _) | ((with_reducible refine Below.set ?_ ?_ _); rotate_left; (simp <;> omega)) | (with_reducible refine Below.box_ ?_ _) | (with_reducible refine Below.next ?_ (by assumption))))))) (by omega)).mono ?_
  rintro e u0 ⟨r0, t0, rfl, hs0, ho0, hb0⟩
  obtain ⟨B00, nB00, cB00, sB00, B01, nB01, cB01, sB01, B02, nB02, cB02, sB02, B03, nB03, cB03, sB03, rfl, rfl, y0, y1, y2, y3⟩ := TProblem.agg hs0
  have HS0 := hid (TProblem.shut y0 y1 y2 y3)
  have HO0 := hid ho0
  clear hs0 ho0 y0 y1 y2 y3
  obtain ⟨hc0, hf0⟩ := bcell hb0
  have hz0 : w.heap.size < u0.heap.size ∧ w.heap.size + 1 < u0.heap.size ∧ w.heap.size + 1 + 1 < u0.heap.size := by have := hb0.size; (try simp at this); omega
  obtain ⟨hz0a, hz0b, hz0c⟩ := hz0
  go_wp2_with fail
  refine (laws_toRat _ x.part _ _ (TRat.mkAgg (Sl.below W5.out (by (repeat (first | (with_reducible exact Below.refl _ _) | ((with_reducible refine Below.set ?_ ?_ _); rotate_left; (simp <;> omega)) | (with_reducible refine Below.box_ ?_ _) | (with_reducible refine Below.next ?_ (by assumption)))))) (Sl.below W6.out (by (repeat (first | (with_reducible exact Below.refl _ _) | ((with_reducible refine Below.set ?_ ?_ _); rotate_left; (simp <;> omega)) | (with_reducible refine Below.box_ ?_ _) | (with_reducible refine Below.next ?_ (by assumption))))))) (by omega)).mono ?_
  rintro e u1 ⟨r1, t1, rfl, hs1, ho1, hb1⟩
  obtain ⟨B11, nB11, cB11, sB11, B12, nB12, cB12, sB12, rfl, rfl, y1, y2⟩ := TRat.agg hs1
  have HS1 := hid (TRat.shut y1 y2)
  have HO1 := hid ho1
  clear hs1 ho1 y1 y2
  obtain ⟨hc1, hf1⟩ := bcell hb1
  have hz1 : w.heap.size < u1.heap.size ∧ w.heap.size + 1 < u1.heap.size ∧ w.heap.size + 1 + 1 < u1.heap.size := by have := hb1.size; (try simp at this); omega
  obtain ⟨hz1a, hz1b, hz1c⟩ := hz1
  go_wp2_with fail
  refine (laws_toReportS _ _ _ x.reports _ _ (Sl.below W7.out (by (repeat (first | (with_reducible exact Below.refl _ _) | ((with_reducible refine Below.set ?_ ?_ _); rotate_left; (simp <;> omega)) | (with_reducible refine Below.box_ ?_ _) | (with_reducible refine Below.next ?_ (by assumption)))))) (by omega)).mono ?_
  rintro e u2 ⟨B2, m2, d2, t2, rfl, hs2, ho2, hb2⟩
  have HS2 := hid (show Dat.at_ u2 [.slice B2 m2 d2] x.reports t2 from ⟨_, _, _, rfl, hs2⟩)
  have HO2 := hid ho2
  clear hs2 ho2
  obtain ⟨hc2, hf2⟩ := bcell hb2
  have hz2 : w.heap.size < u2.heap.size ∧ w.heap.size + 1 < u2.heap.size ∧ w.heap.size + 1 + 1 < u2.heap.size := by have := hb2.size; (try simp at this); omega
  obtain ⟨hz2a, hz2b, hz2c⟩ := hz2
  go_wp2
  refine bodyPost_ret (v := .agg #[.slice B00 nB00 cB00, .slice B01 nB01 cB01, .slice B02 nB02 cB02, .slice B03 nB03 cB03, .bool x.part.num.neg, .slice B11 nB11 cB11, .slice B12 nB12 cB12, .slice B2 m2 d2]) (by simp [results, Try.results15, go_sem, *]) rfl ?_
  have a0 : ∀ W : World, Above (w.heap.size + 3) u0 W → Dat.at_ W [.slice B00 nB00 cB00, .slice B01 nB01 cB01, .slice B02 nB02 cB02, .slice B03 nB03 cB03] x.problem _ ∧ Own w W _ := fun W ha =>
    ⟨At.above HS0.out HO0.out ha (by simp <;> omega), (HO0.out.above ha (by simp <;> omega)).older (by simp <;> omega)⟩
  have a1 : ∀ W : World, Above (w.heap.size + 3) u1 W → Dat.at_ W [.bool x.part.num.neg, .slice B11 nB11 cB11, .slice B12 nB12 cB12] x.part _ ∧ Own w W _ := fun W ha =>
    ⟨At.above HS1.out HO1.out ha (by simp <;> omega), (HO1.out.above ha (by simp <;> omega)).older (by simp <;> omega)⟩
  have a2 : ∀ W : World, Above (w.heap.size + 3) u2 W → Dat.at_ W [.slice B2 m2 d2] x.reports _ ∧ Own w W _ := fun W ha =>
    ⟨At.above HS2.out HO2.out ha (by simp <;> omega), (HO2.out.above ha (by simp <;> omega)).older (by simp <;> omega)⟩
  refine ⟨_, _, rfl, ⟨_, rfl, ⟨_, _, _, _, rfl, rfl, (a0 _ (by (repeat (first | (with_reducible exact Above.refl _ _) | ((with_reducible refine Above.set ?_ ?_ _); rotate_left; (simp <;> omega)) | (with_reducible refine Above.box ?_ _) | (with_reducible refine Above.below ?_ (by assumption)))))).1, ⟨_, _, _, _, rfl, rfl, (a1 _ (by (repeat (first | (with_reducible exact Above.refl _ _) | ((with_reducible refine Above.set ?_ ?_ _); rotate_left; (simp <;> omega)) | (with_reducible refine Above.box ?_ _) | (with_reducible refine Above.below ?_ (by assumption)))))).1, (a2 _ (by (repeat (first | (with_reducible exact Above.refl _ _) | ((with_reducible refine Above.set ?_ ?_ _); rotate_left; (simp <;> omega)) | (with_reducible refine Above.box ?_ _) | (with_reducible refine Above.below ?_ (by assumption)))))).1⟩⟩⟩, ?_, ?_⟩
  · have hsz' : True := trivial
    have q0 := hb0.size; (try simp at q0)
    have q1 := hb1.size; (try simp at q1)
    have q2 := hb2.size; (try simp at q2)
    refine Own.append (a0 _ (by (repeat (first | (with_reducible exact Above.refl _ _) | ((with_reducible refine Above.set ?_ ?_ _); rotate_left; (simp <;> omega)) | (with_reducible refine Above.box ?_ _) | (with_reducible refine Above.below ?_ (by assumption)))))).2 ?_ ?_
    rotate_left
    · refine apart_of_lt (N := u0.heap.size) HO0.out.lt ?_
      intro b hb
      rcases List.mem_append.1 hb with hb | hb
      · have h1 := (HO1.out.2 b hb).1; (try simp at h1); omega
      have h1 := (HO2.out.2 b hb).1; (try simp at h1); omega
    refine Own.append (a1 _ (by (repeat (first | (with_reducible exact Above.refl _ _) | ((with_reducible refine Above.set ?_ ?_ _); rotate_left; (simp <;> omega)) | (with_reducible refine Above.box ?_ _) | (with_reducible refine Above.below ?_ (by assumption)))))).2 ?_ ?_
    rotate_left
    · refine apart_of_lt (N := u1.heap.size) HO1.out.lt ?_
      intro b hb
      have h1 := (HO2.out.2 b hb).1; (try simp at h1); omega
    exact (a2 _ (by (repeat (first | (with_reducible exact Above.refl _ _) | ((with_reducible refine Above.set ?_ ?_ _); rotate_left; (simp <;> omega)) | (with_reducible refine Above.box ?_ _) | (with_reducible refine Above.below ?_ (by assumption)))))).2
  · (repeat (first | (with_reducible exact Below.refl _ _) | ((with_reducible refine Below.set ?_ ?_ _); rotate_left; (simp <;> omega)) | (with_reducible refine Below.box_ ?_ _) | (with_reducible refine Below.next ?_ (by assumption))))
end Go.Proofs.Ytmhcfdipnofohaa.X
