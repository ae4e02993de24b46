/- RangeOf of the program and of the reference. -/
import Derived.Test.YthlpjpcnpcclhaaXSum
import Derived.Test.YthlpjpcnpcclhaaP2
import Derived.RegionTactic
namespace Go.XN
open Go.XB
def rangeOf (xs : List TRat) : TRat × TRat × Bool :=
  match xs with
  | [] => (zeroR, zeroR, false)
  | x :: l => if (x :: l).all ratOkB then ((x :: l).foldl rmin x, (x :: l).foldl rmax x, true) else (zeroR, zeroR, false)
end Go.XN
namespace Go.XB
open Go.RowKit Go.XN
/-- a call that hands back two fractions of its own making and a bool -/
def GivesRange (w : World) (r : TRat × TRat × Bool) (e : Ending) (w' : World) : Prop :=
  ∃ v1 v2 s1 s2, e = .returned (.tuple #[v1, v2, .bool r.2.2]) ∧ Agg w' v1 r.1 s1 ∧ Agg w' v2 r.2.1 s2 ∧ Own w w' (s1 ++ s2) ∧ Below w.heap.size w w'
end Go.XB
namespace Go.Proofs.Ythlpjpcnpcclhaa.X
open Go.RowKit Go.XB Go.XN
attribute [local go_sem] fillBy opAt deps depOf Region.wanted yielded
attribute [local simp] deps depOf MP.eq MP.agg MP.sl Facts
set_option linter.constructorNameAsVariable false
theorem _root_.Go.XB.TRat.elemB {w w' : World} {A : Option Addr} {n c : Nat} {xs : List TRat} {bs : List Nat} (h : Sl w A n c xs bs) (hb : Below w.heap.size w w') {k : Nat} (hk : k < n) :
    ∃ (b off : Nat) (x : TRat) (A1 : Option Addr) (n1 c1 : Nat) (A2 : Option Addr) (n2 c2 : Nat) (fs : List Nat), A = some ⟨b, off, none⟩ ∧ b < w.heap.size ∧ xs[k]? = some x ∧ w'.cell? ⟨b, off + k * 3, none⟩ = some (.bool x.num.neg) ∧ w'.cell? ⟨b, off + k * 3 + 1, none⟩ = some (.slice A1 n1 c1) ∧ w'.cell? ⟨b, off + k * 3 + 2, none⟩ = some (.slice A2 n2 c2) ∧ Agg w' (.agg #[.bool x.num.neg, .slice A1 n1 c1, .slice A2 n2 c2]) x fs ∧ ∀ g ∈ fs, g < w.heap.size := by
  obtain ⟨b, off, x, A1, n1, c1, s1, A2, n2, c2, s2, rfl, hl, hx, h0, h1, h2, ha⟩ := TRat.elemA h hk
  exact ⟨b, off, x, A1, n1, c1, A2, n2, c2, s1 ++ s2, rfl, hl, hx, (hb.cell (p := ⟨b, _, none⟩) hl).trans h0, (hb.cell (p := ⟨b, _, none⟩) hl).trans h1, (hb.cell (p := ⟨b, _, none⟩) hl).trans h2, ha.below hb, ha.lt⟩
theorem rmin_ok {r s : TRat} (hr : ratOkB r = true) (hs : ratOkB s = true) : ratOkB (rmin r s) = true := by
  unfold rmin; rw [hr, hs]; simp only [Bool.and_self, if_true]; split <;> assumption
theorem rmax_ok {r s : TRat} (hr : ratOkB r = true) (hs : ratOkB s = true) : ratOkB (rmax r s) = true := by
  unfold rmax; rw [hr, hs]; simp only [Bool.and_self, if_true]; split <;> assumption
theorem gives_range0 {w W : World} (hb : Below w.heap.size w W) : GivesRange w (zeroR, zeroR, false) (.returned (.tuple #[.agg #[.bool false, .slice none 0 0, .slice none 0 0], .agg #[.bool false, .slice none 0 0, .slice none 0 0], .bool false])) W :=
  ⟨_, _, [], [], rfl, zero_agg W, zero_agg W, Own.nil _ _, hb⟩

set_option maxHeartbeats 4000000 in
set_option maxRecDepth 10000 in
theorem impl_RangeOf (A : Option Addr) (n c : Nat) (xs : List TRat) (bs : List Nat) (w : World) (hx : Sl w A n c xs bs) :
    Calls Try.prog 14 #[.slice A n c] w (GivesRange w (rangeOf xs)) := by
  have HL := hid hx.1
  have HX := hid hx
  have hm : n ≤ maxLen := Nat.le_trans hx.2.1 hx.2.2.1
  unfold maxLen at hm
  rcases Nat.eq_zero_or_pos n with h0 | h0
  · subst h0
    have E := hid (show rangeOf xs = (zeroR, zeroR, false) by rw [List.eq_nil_of_length_eq_zero HL.out]; rfl)
    clear hx
    go_enter Try.func14, Try.ntmps14
    go_wp2
    refine bodyPost_ret (v := .tuple #[.agg #[.bool false, .slice none 0 0, .slice none 0 0], .agg #[.bool false, .slice none 0 0, .slice none 0 0], .bool false]) (by simp [results, Try.results14, go_sem, *]) rfl ?_
    rw [E.out]
    exact gives_range0 (by (repeat (first | (with_reducible exact Below.refl _ _) | ((with_reducible refine Below.set ?_ ?_ _); rotate_left; (simp <;> omega)) | (with_reducible refine Below.box_ ?_ _) | (with_reducible refine Below.next ?_ (by assumption)))))
  obtain ⟨x0, xt, hxs⟩ : ∃ x0 xt, xs = x0 :: xt := by
    cases xs with
    | nil => exfalso; have := HL.out; simp at this; omega
    | cons a l => exact ⟨a, l, rfl⟩
  have z0 : ((n : Int) == 0) = false := by simp; omega
  have HXS := hid hxs
  cases hok : xs.all ratOkB
  · have E := hid (show rangeOf xs = (zeroR, zeroR, false) by rw [hxs] at hok ⊢; show (if _ then _ else _) = _; rw [hok]; rfl)
    have OK := hid hok
    clear hok hx hxs h0
    go_enter Try.func14, Try.ntmps14
    go_wp2_with fail
    have C := impl_areRats A n c xs _ ((w.alloc (.cells #[.bool false, .slice none 0 0, .slice none 0 0] 28)).alloc (.cells #[.bool false, .slice none 0 0, .slice none 0 0] 28)) (Sl.below HX.out (by (repeat (first | (with_reducible exact Below.refl _ _) | ((with_reducible refine Below.set ?_ ?_ _); rotate_left; (simp <;> omega)) | (with_reducible refine Below.box_ ?_ _) | (with_reducible refine Below.next ?_ (by assumption))))))
    rw [OK.out] at C
    refine C.mono ?_
    clear C
    rintro _ w1 ⟨rfl, hb1⟩
    obtain ⟨hc_w1, hf_w1⟩ := bcell hb1
    have hz0_w1 : w.heap.size < w1.heap.size := by have := hb1.size; (try simp at this); omega
    have hz1_w1 : w.heap.size + 1 < w1.heap.size := by have := hb1.size; (try simp at this); omega
    have uc0 : w1.cell? ⟨w.heap.size, 0, none⟩ = some (.bool false) := by go_simp
    have uf0 : w1.frozen? ⟨w.heap.size, 0, none⟩ = false := by go_simp
    have uc1 : w1.cell? ⟨w.heap.size, 1, none⟩ = some (.slice none 0 0) := by go_simp
    have uf1 : w1.frozen? ⟨w.heap.size, 1, none⟩ = false := by go_simp
    have uc2 : w1.cell? ⟨w.heap.size, 2, none⟩ = some (.slice none 0 0) := by go_simp
    have uf2 : w1.frozen? ⟨w.heap.size, 2, none⟩ = false := by go_simp
    have vc0 : w1.cell? ⟨w.heap.size + 1, 0, none⟩ = some (.bool false) := by go_simp
    have vf0 : w1.frozen? ⟨w.heap.size + 1, 0, none⟩ = false := by go_simp
    have vc1 : w1.cell? ⟨w.heap.size + 1, 1, none⟩ = some (.slice none 0 0) := by go_simp
    have vf1 : w1.frozen? ⟨w.heap.size + 1, 1, none⟩ = false := by go_simp
    have vc2 : w1.cell? ⟨w.heap.size + 1, 2, none⟩ = some (.slice none 0 0) := by go_simp
    have vf2 : w1.frozen? ⟨w.heap.size + 1, 2, none⟩ = false := by go_simp
    go_wp2
    refine bodyPost_ret (v := .tuple #[.agg #[.bool false, .slice none 0 0, .slice none 0 0], .agg #[.bool false, .slice none 0 0, .slice none 0 0], .bool false]) (by simp [results, Try.results14, go_sem, *]) rfl ?_
    rw [E.out]
    exact gives_range0 (by (repeat (first | (with_reducible exact Below.refl _ _) | ((with_reducible refine Below.set ?_ ?_ _); rotate_left; (simp <;> omega)) | (with_reducible refine Below.box_ ?_ _) | (with_reducible refine Below.next ?_ (by assumption)))))
  have E := hid (show rangeOf xs = (xs.foldl rmin x0, xs.foldl rmax x0, true) by rw [hxs] at hok ⊢; show (if _ then _ else _) = _; rw [hok]; rfl)
  have OK := hid hok
  have V := hid (fun x (hm : x ∈ xs) => ratOkB_iff.1 (List.all_eq_true.1 hok x hm))
  obtain ⟨be, offe, x, D1, p1, q1, f1, D2, p2, q2, f2, rfl, hble, hx1, e0, e1, e2, hagx⟩ := TRat.elemA hx h0
  obtain rfl : x = x0 := by rw [hxs] at hx1; simpa using hx1.symm
  simp only [Nat.zero_mul, Nat.add_zero] at e0 e1 e2
  have HAG := hid hagx
  have HBL := hid hble
  have VX := hid (V.out x (List.mem_of_getElem? hx1))
  have hni : (0 : Int) < n := by omega
  clear hok hx hxs h0 hagx hx1
  go_enter Try.func14, Try.ntmps14
  go_wp2_with fail
  have C := impl_areRats _ n c xs _ ((w.alloc (.cells #[.bool false, .slice none 0 0, .slice none 0 0] 28)).alloc (.cells #[.bool false, .slice none 0 0, .slice none 0 0] 28)) (Sl.below HX.out (by (repeat (first | (with_reducible exact Below.refl _ _) | ((with_reducible refine Below.set ?_ ?_ _); rotate_left; (simp <;> omega)) | (with_reducible refine Below.box_ ?_ _) | (with_reducible refine Below.next ?_ (by assumption))))))
  rw [OK.out] at C
  refine C.mono ?_
  clear C
  rintro _ w1 ⟨rfl, hb1⟩
  obtain ⟨hc_w1, hf_w1⟩ := bcell hb1
  have hz0_w1 : w.heap.size < w1.heap.size := by have := hb1.size; (try simp at this); omega
  have hz1_w1 : w.heap.size + 1 < w1.heap.size := by have := hb1.size; (try simp at this); omega
  have hble0 := HBL.out
  have hble1 : be < w.heap.size + 1 := by omega
  have hble2 : be < w.heap.size + 1 + 1 := by omega
  have hble3 : be < w1.heap.size := by omega
  go_wp2_with fail
  refine wp_region_line 10 (by kernel_rfl) (by kernel_rfl) (by kernel_rfl) (by kernel_rfl) (by kernel_rfl) ?_
  simp only [List.take_succ_cons, List.take_zero, List.drop_succ_cons, List.drop_zero]
  iterate 3
    apply walkM_eq
    case h =>
      intro yq zq wq hC hd
      obtain ⟨hcq, hfq⟩ := bcell hC
      simp at hd
      refine ⟨by go_simp; done, ?_⟩
      go_simp
      first | (go_ints; exact rfl) | (go_ints; rw [if_pos (by omega)]; try exact rfl) | exact rfl | (rw [if_pos (by omega)]; try exact rfl)
  refine walkM_call (MP.agg x) ?_ ?_
  · intro yq zq wq hC hd
    obtain ⟨hcq, hfq⟩ := bcell hC
    simp at hd
    refine ⟨by go_simp; done, ?_⟩
    apply Exists.intro
    apply Exists.intro
    constructor
    · go_simp
      exact ⟨rfl, rfl⟩
    · exact gives_agg (impl_copyRat _ x _ wq (Agg.below HAG.out (by (repeat (first | (with_reducible exact Below.refl _ _) | ((with_reducible refine Below.set ?_ ?_ _); rotate_left; (simp <;> omega)) | (with_reducible refine Below.box_ ?_ _) | (with_reducible refine Below.next ?_ (by assumption)))))) VX.out.lens.1 VX.out.lens.2)
  iterate 3
    apply walkM_eq
    case h =>
      intro yq zq wq hC hd
      obtain ⟨hcq, hfq⟩ := bcell hC
      simp at hd
      refine ⟨by go_simp; done, ?_⟩
      go_simp
      first | (go_ints; exact rfl) | (go_ints; rw [if_pos (by omega)]; try exact rfl) | exact rfl | (rw [if_pos (by omega)]; try exact rfl)
  refine walkM_call (MP.agg x) ?_ ?_
  · intro yq zq wq hC hd
    obtain ⟨hcq, hfq⟩ := bcell hC
    simp at hd
    refine ⟨by go_simp; done, ?_⟩
    apply Exists.intro
    apply Exists.intro
    constructor
    · go_simp
      exact ⟨rfl, rfl⟩
    · exact gives_agg (impl_copyRat _ x _ wq (Agg.below HAG.out (by (repeat (first | (with_reducible exact Below.refl _ _) | ((with_reducible refine Below.set ?_ ?_ _); rotate_left; (simp <;> omega)) | (with_reducible refine Below.box_ ?_ _) | (with_reducible refine Below.next ?_ (by assumption)))))) VX.out.lens.1 VX.out.lens.2)
  refine walkM_new #[.bool false, .slice none 0 0, .slice none 0 0] 28 ?_ ?_
  · intro yq zq wq hC hd
    refine ⟨by go_simp; done, ?_⟩
    go_simp
  refine walkM_new #[.bool false, .slice none 0 0, .slice none 0 0] 28 ?_ ?_
  · intro yq zq wq hC hd
    refine ⟨by go_simp; done, ?_⟩
    go_simp
  intro yq zq wa hC hd hdis0
  have hdis := hid hdis0
  clear hdis0
  simp at hd
  have q3 := hd.2.2.2.1
  have q7 := hd.2.2.2.2.2.2.2.1
  have q8 := hd.2.2.2.2.2.2.2.2.1
  have q9 := hd.2.2.2.2.2.2.2.2.2
  obtain ⟨⟨ha3, hf3⟩, hr3⟩ := q3
  obtain ⟨B1, B2, B3, Bt, B4, B5, B6, Bs, y3, hz3, _, _⟩ := TRat.agg ha3
  obtain ⟨⟨ha7, hf7⟩, hr7⟩ := q7
  obtain ⟨C1, C2, C3, Ct, C4, C5, C6, Cs, y7, hz7, _, _⟩ := TRat.agg ha7
  obtain ⟨⟨g1, y8, z8, hg1⟩, hr8⟩ := q8
  obtain ⟨⟨g2, y9, z9, hg2⟩, hr9⟩ := q9
  rw [y3] at ha3; rw [y7] at ha7
  rw [z8] at hr8; rw [z9] at hr9
  have d12 : g1 ≠ g2 := fun e => by
    have := hdis.out 8 9 (by decide) (by decide) (by decide) g1 (by rw [z8]; simp)
    rw [z9] at this; simp [e] at this
  have D37 := hid (hdis.out 3 7 (by decide) (by decide) (by decide))
  have D3 := hid (show ∀ b ∈ zq 3, b ≠ g1 ∧ b ≠ g2 from fun b hb => ⟨fun e => by have := hdis.out 3 8 (by decide) (by decide) (by decide) b hb; rw [z8] at this; simp [e] at this, fun e => by have := hdis.out 3 9 (by decide) (by decide) (by decide) b hb; rw [z9] at this; simp [e] at this⟩)
  have D7 := hid (show ∀ b ∈ zq 7, b ≠ g1 ∧ b ≠ g2 from fun b hb => ⟨fun e => by have := hdis.out 7 8 (by decide) (by decide) (by decide) b hb; rw [z8] at this; simp [e] at this, fun e => by have := hdis.out 7 9 (by decide) (by decide) (by decide) b hb; rw [z9] at this; simp [e] at this⟩)
  have hgr1 := hr8 g1 (by simp); have hgr2 := hr9 g2 (by simp)
  have R3 := hid hr3; have R7 := hid hr7; have F3 := hid hf3; have F7 := hid hf7; have A3 := hid ha3; have A7 := hid ha7
  obtain ⟨b1c0, b1f0⟩ := box_cell hg1 (j := 0) rfl
  obtain ⟨b1c1, b1f1⟩ := box_cell hg1 (j := 1) rfl
  obtain ⟨b1c2, b1f2⟩ := box_cell hg1 (j := 2) rfl
  obtain ⟨b2c0, b2f0⟩ := box_cell hg2 (j := 0) rfl
  obtain ⟨b2c1, b2f1⟩ := box_cell hg2 (j := 1) rfl
  obtain ⟨b2c2, b2f2⟩ := box_cell hg2 (j := 2) rfl
  have HW := hid hC
  have HB1 := hid (show Below w.heap.size w wa by (repeat (first | (with_reducible exact Below.refl _ _) | ((with_reducible refine Below.set ?_ ?_ _); rotate_left; (simp <;> omega)) | (with_reducible refine Below.box_ ?_ _) | (with_reducible refine Below.next ?_ (by assumption)))))
  clear hd hdis hz3 hz7 hr3 hr7 hr8 hr9 hf3 hf7 ha3 ha7 hg1 hg2 z8 z9
  obtain ⟨hc_wa, hf_wa⟩ := bcell hC
  have hz0_wa : w.heap.size < wa.heap.size := by have := hC.size; (try simp at this); omega
  have hz1_wa : w.heap.size + 1 < wa.heap.size := by have := hC.size; (try simp at this); omega
  have n1 : w.heap.size ≠ g1 := by omega
  have n2 : w.heap.size ≠ g2 := by omega
  have n3 : w.heap.size + 1 ≠ g1 := by omega
  have n4 : w.heap.size + 1 ≠ g2 := by omega
  have n5 : g1 ≠ w.heap.size := by omega
  have n6 : g2 ≠ w.heap.size := by omega
  have n7 : g1 ≠ w.heap.size + 1 := by omega
  have n8 : g2 ≠ w.heap.size + 1 := by omega
  have d21 : g2 ≠ g1 := fun e => d12 e.symm
  have hgl1 := hgr1.2; have hgl2 := hgr2.2
  have pc0 : wa.cell? ⟨w.heap.size, 0, none⟩ = some (.bool false) := by go_simp
  have pf0 : wa.frozen? ⟨w.heap.size, 0, none⟩ = false := by go_simp
  have pc1 : wa.cell? ⟨w.heap.size, 1, none⟩ = some (.slice none 0 0) := by go_simp
  have pf1 : wa.frozen? ⟨w.heap.size, 1, none⟩ = false := by go_simp
  have pc2 : wa.cell? ⟨w.heap.size, 2, none⟩ = some (.slice none 0 0) := by go_simp
  have pf2 : wa.frozen? ⟨w.heap.size, 2, none⟩ = false := by go_simp
  have qc0 : wa.cell? ⟨w.heap.size + 1, 0, none⟩ = some (.bool false) := by go_simp
  have qf0 : wa.frozen? ⟨w.heap.size + 1, 0, none⟩ = false := by go_simp
  have qc1 : wa.cell? ⟨w.heap.size + 1, 1, none⟩ = some (.slice none 0 0) := by go_simp
  have qf1 : wa.frozen? ⟨w.heap.size + 1, 1, none⟩ = false := by go_simp
  have qc2 : wa.cell? ⟨w.heap.size + 1, 2, none⟩ = some (.slice none 0 0) := by go_simp
  have qf2 : wa.frozen? ⟨w.heap.size + 1, 2, none⟩ = false := by go_simp
  clear hc_w1 hf_w1 hc_wa hf_wa
  go_wp2_with fail
  go_loopg [29] n (fun g s wr => ∃ (k : Nat) (lo hi : TRat) (L1 : Option Addr) (l1 k1 : Nat) (L2 : Option Addr) (l2 k2 : Nat) (M1 : Option Addr) (m1 j1 : Nat) (M2 : Option Addr) (m2 j2 : Nat) (rs ss : List Nat), k + g = n ∧ s = .int .i64 k ∧ Hid (lo = (xs.take k).foldl rmin x ∧ hi = (xs.take k).foldl rmax x) ∧ Hid (Agg wr (.agg #[.bool lo.num.neg, .slice L1 l1 k1, .slice L2 l2 k2]) lo rs ∧ Agg wr (.agg #[.bool hi.num.neg, .slice M1 m1 j1, .slice M2 m2 j2]) hi ss) ∧ Hid (Free wr rs ∧ Free wr ss ∧ (∀ b ∈ rs, b ∉ ss) ∧ ∀ b ∈ rs ++ ss, w.heap.size + 2 ≤ b ∧ b ≠ g1 ∧ b ≠ g2) ∧ Below w.heap.size w wr ∧ (g1 < wr.heap.size ∧ g2 < wr.heap.size) ∧ (wr.cell? ⟨w.heap.size, 0, none⟩ = some (.bool false) ∧ wr.cell? ⟨w.heap.size, 1, none⟩ = some (.slice none 0 0) ∧ wr.cell? ⟨w.heap.size, 2, none⟩ = some (.slice none 0 0) ∧ wr.frozen? ⟨w.heap.size, 0, none⟩ = false ∧ wr.frozen? ⟨w.heap.size, 1, none⟩ = false ∧ wr.frozen? ⟨w.heap.size, 2, none⟩ = false) ∧ (wr.cell? ⟨w.heap.size + 1, 0, none⟩ = some (.bool false) ∧ wr.cell? ⟨w.heap.size + 1, 1, none⟩ = some (.slice none 0 0) ∧ wr.cell? ⟨w.heap.size + 1, 2, none⟩ = some (.slice none 0 0) ∧ wr.frozen? ⟨w.heap.size + 1, 0, none⟩ = false ∧ wr.frozen? ⟨w.heap.size + 1, 1, none⟩ = false ∧ wr.frozen? ⟨w.heap.size + 1, 2, none⟩ = false) ∧ (wr.cell? ⟨g1, 0, none⟩ = some (.bool lo.num.neg) ∧ wr.cell? ⟨g1, 1, none⟩ = some (.slice L1 l1 k1) ∧ wr.cell? ⟨g1, 2, none⟩ = some (.slice L2 l2 k2) ∧ wr.frozen? ⟨g1, 0, none⟩ = false ∧ wr.frozen? ⟨g1, 1, none⟩ = false ∧ wr.frozen? ⟨g1, 2, none⟩ = false) ∧ (wr.cell? ⟨g2, 0, none⟩ = some (.bool hi.num.neg) ∧ wr.cell? ⟨g2, 1, none⟩ = some (.slice M1 m1 j1) ∧ wr.cell? ⟨g2, 2, none⟩ = some (.slice M2 m2 j2) ∧ wr.frozen? ⟨g2, 0, none⟩ = false ∧ wr.frozen? ⟨g2, 1, none⟩ = false ∧ wr.frozen? ⟨g2, 2, none⟩ = false))
  case atStart =>
    have hkeep : ∀ g, g ≠ g1 → g ≠ g2 → (((((((wa.setCell ⟨g1, 0, none⟩ (.bool x.num.neg)).setCell ⟨g1, 1, none⟩ (.slice B1 B2 B3)).setCell ⟨g1, 2, none⟩ (.slice B4 B5 B6)).setCell ⟨g2, 0, none⟩ (.bool x.num.neg)).setCell ⟨g2, 1, none⟩ (.slice C1 C2 C3)).setCell ⟨g2, 2, none⟩ (.slice C4 C5 C6))).heap[g]? = wa.heap[g]? :=
      fun g h1 h2 => (heap_setCells g2 [.bool x.num.neg, .slice C1 C2 C3, .slice C4 C5 C6] _ 0 g h2).trans (heap_setCells g1 [.bool x.num.neg, .slice B1 B2 B3, .slice B4 B5 B6] wa 0 g h1)
    have k3 := fun g hg => hkeep g (D3.out g hg).1 (D3.out g hg).2
    have k7 := fun g hg => hkeep g (D7.out g hg).1 (D7.out g hg).2
    refine ⟨0, x, x, B1, B2, B3, B4, B5, B6, C1, C2, C3, C4, C5, C6, zq 3, zq 7, by omega, rfl, by constructor <;> simp, ⟨A3.out.keep k3, A7.out.keep k7⟩, ⟨F3.out.keep k3, F7.out.keep k7, D37.out, fun b hb => ?_⟩, ?_, ⟨by simp; omega, by simp; omega⟩, ?_⟩
    · rcases List.mem_append.1 hb with hb | hb
      · exact ⟨by have := (R3.out b hb).1; omega, D3.out b hb⟩
      · exact ⟨by have := (R7.out b hb).1; omega, D7.out b hb⟩
    · have h1 : w.heap.size ≤ g1 := by omega
      have h2 : w.heap.size ≤ g2 := by omega
      exact (((((HB1.out.setCell (p := ⟨g1, 0, none⟩) h1 _).setCell (p := ⟨g1, 1, none⟩) h1 _).setCell (p := ⟨g1, 2, none⟩) h1 _).setCell (p := ⟨g2, 0, none⟩) h2 _).setCell (p := ⟨g2, 1, none⟩) h2 _).setCell (p := ⟨g2, 2, none⟩) h2 _
    · refine ⟨⟨?_, ?_, ?_, ?_, ?_, ?_⟩, ⟨?_, ?_, ?_, ?_, ?_, ?_⟩, ⟨?_, ?_, ?_, ?_, ?_, ?_⟩, ⟨?_, ?_, ?_, ?_, ?_, ?_⟩⟩ <;> go_simp
  case round =>
    have H1 := hid hgr1; have H2 := hid hgr2
    clear pc0 pc1 pc2 pf0 pf1 pf2 qc0 qc1 qc2 qf0 qf1 qf2 b1c0 b1c1 b1c2 b1f0 b1f1 b1f2 b2c0 b2c1 b2c2 b2f0 b2f1 b2f2 y3 y7 y8 y9 e0 e1 e2
    obtain ⟨k, lo, hi, L1, l1, k1, L2, l2, k2, M1, m1, j1, M2, m2, j2, rs, ss, hk, rfl, hv, hag, hfr, hb, ⟨hs1, hs2⟩, s1, s2, s3, s4⟩ := hrel
    have HB := hid hb
    have HS := hid (show g1 < wr.heap.size ∧ g2 < wr.heap.size from ⟨hs1, hs2⟩)
    rcases Nat.lt_or_ge k n with hkn | hkn
    · obtain ⟨be', offe', y, E1, q1', p1', f1', E2, q2', p2', f2', hae, hble', hy1, e0, e1, e2, hagy⟩ := TRat.elemA (Sl.below HX.out hb) hkn
      injection hae with hae; injection hae with hae1 hae2 _
      subst hae1; subst hae2
      have HY1 := hid hy1
      have HAY := hid hagy
      have hki : (k : Int) < n := by omega
      obtain ⟨g, rfl⟩ : ∃ g, gk = g + 1 := ⟨gk - 1, by omega⟩
      have hk' := hid (show k + 1 + g = n by omega)
      have hk1 : k + 1 ≤ n := hkn
      have hu1 : w.heap.size < wr.heap.size := by omega
      have hu2 : w.heap.size + 1 < wr.heap.size := by omega
      have hu3 : w.heap.size < wr.heap.size + 1 := by omega
      have hu4 : w.heap.size + 1 < wr.heap.size + 1 := by omega
      have hu5 : g1 < wr.heap.size + 1 := by omega
      have hu6 : g2 < wr.heap.size + 1 := by omega
      have RS := hid (show rmin lo y = (xs.take (k + 1)).foldl rmin x ∧ rmax hi y = (xs.take (k + 1)).foldl rmax x by
        rw [take_step HY1.out, List.foldl_append, List.foldl_append, ← hv.out.1, ← hv.out.2]; exact ⟨rfl, rfl⟩)
      clear hy1 hk hkn hagy
      go_wp2_with fail
      refine wp_region_line 6 (by kernel_rfl) (by kernel_rfl) (by kernel_rfl) (by kernel_rfl) (by kernel_rfl) ?_
      simp only [List.take_succ_cons, List.take_zero, List.drop_succ_cons, List.drop_zero]
      iterate 2
        apply walkM_eq
        case h =>
          intro yq zq wq hC hd
          obtain ⟨hcq, hfq⟩ := bcell hC
          simp at hd
          refine ⟨by go_simp; done, ?_⟩
          go_simp
          first | (go_ints; exact rfl) | (go_ints; rw [if_pos (by omega)]; try exact rfl) | exact rfl | (rw [if_pos (by omega)]; try exact rfl)
      refine walkM_call (MP.agg (rmin lo y)) ?_ ?_
      · intro yq zq wq hC hd
        obtain ⟨hcq, hfq⟩ := bcell hC
        simp at hd
        refine ⟨by go_simp; done, ?_⟩
        apply Exists.intro
        apply Exists.intro
        constructor
        · go_simp
          exact ⟨rfl, rfl⟩
        · exact gives_agg (impl_RatMin _ _ lo y _ _ wq (Agg.below (Agg.below hag.out.1 (Below.box _)) hC) (Agg.below (Agg.below HAY.out (Below.box _)) hC))
      iterate 2
        apply walkM_eq
        case h =>
          intro yq zq wq hC hd
          obtain ⟨hcq, hfq⟩ := bcell hC
          simp at hd
          refine ⟨by go_simp; done, ?_⟩
          go_simp
          first | (go_ints; exact rfl) | (go_ints; rw [if_pos (by omega)]; try exact rfl) | exact rfl | (rw [if_pos (by omega)]; try exact rfl)
      refine walkM_call (MP.agg (rmax hi y)) ?_ ?_
      · intro yq zq wq hC hd
        obtain ⟨hcq, hfq⟩ := bcell hC
        simp at hd
        refine ⟨by go_simp; done, ?_⟩
        apply Exists.intro
        apply Exists.intro
        constructor
        · go_simp
          exact ⟨rfl, rfl⟩
        · exact gives_agg (impl_RatMax _ _ hi y _ _ wq (Agg.below (Agg.below hag.out.2 (Below.box _)) hC) (Agg.below (Agg.below HAY.out (Below.box _)) hC))
      intro yq zq wb hC hd hdis0
      have hdis := hid hdis0
      clear hdis0
      simp at hd
      have q2 := hd.2.2.1
      have q5 := hd.2.2.2.2.2
      obtain ⟨⟨ha3, hf3⟩, hr3⟩ := q2
      obtain ⟨B1, B2, B3, Bt, B4, B5, B6, Bs, y3, hz3, _, _⟩ := TRat.agg ha3
      obtain ⟨⟨ha7, hf7⟩, hr7⟩ := q5
      obtain ⟨C1, C2, C3, Ct, C4, C5, C6, Cs, y7, hz7, _, _⟩ := TRat.agg ha7
      rw [y3] at ha3; rw [y7] at ha7
      have D37 := hid (hdis.out 2 5 (by decide) (by decide) (by decide))
      have D3 := hid (show ∀ b ∈ zq 2, w.heap.size + 2 ≤ b ∧ b ≠ g1 ∧ b ≠ g2 from fun b hb => by have := (hr3 b hb).1; (try simp at this); omega)
      have D7 := hid (show ∀ b ∈ zq 5, w.heap.size + 2 ≤ b ∧ b ≠ g1 ∧ b ≠ g2 from fun b hb => by have := (hr7 b hb).1; (try simp at this); omega)
      have F3 := hid hf3; have F7 := hid hf7; have A3 := hid ha3; have A7 := hid ha7
      have HB2 := hid (show Below w.heap.size w wb from Below.next (Below.next HB.out (Below.box _)) hC)
      have hsz := hC.size
      simp at hsz
      obtain ⟨hc_wb, hf_wb⟩ := bcell hC
      have hv1 : w.heap.size < wb.heap.size := by omega
      have hv2 : w.heap.size + 1 < wb.heap.size := by omega
      have hv3 : g1 < wb.heap.size := by omega
      have hv4 : g2 < wb.heap.size := by omega
      have HV := hid (show g1 < wb.heap.size ∧ g2 < wb.heap.size ∧ w.heap.size ≤ g1 ∧ w.heap.size ≤ g2 by omega)
      clear hd hdis hz3 hz7 hr3 hr7 hf3 hf7 ha3 ha7 hsz
      go_wp2_with fail
      go_roundg g
      case measure => omega
      case rel =>
        have hkeep : ∀ g, g ≠ g1 → g ≠ g2 → (((((((wb.setCell ⟨g1, 0, none⟩ (.bool (rmin lo y).num.neg)).setCell ⟨g1, 1, none⟩ (.slice B1 B2 B3)).setCell ⟨g1, 2, none⟩ (.slice B4 B5 B6)).setCell ⟨g2, 0, none⟩ (.bool (rmax hi y).num.neg)).setCell ⟨g2, 1, none⟩ (.slice C1 C2 C3)).setCell ⟨g2, 2, none⟩ (.slice C4 C5 C6))).heap[g]? = wb.heap[g]? :=
          fun g h1 h2 => (heap_setCells g2 [.bool (rmax hi y).num.neg, .slice C1 C2 C3, .slice C4 C5 C6] _ 0 g h2).trans (heap_setCells g1 [.bool (rmin lo y).num.neg, .slice B1 B2 B3, .slice B4 B5 B6] wb 0 g h1)
        have k3 := fun g hg => hkeep g (D3.out g hg).2.1 (D3.out g hg).2.2
        have k7 := fun g hg => hkeep g (D7.out g hg).2.1 (D7.out g hg).2.2
        refine ⟨k + 1, rmin lo y, rmax hi y, B1, B2, B3, B4, B5, B6, C1, C2, C3, C4, C5, C6, zq 2, zq 5, hk'.out, by go_num, RS, ⟨A3.out.keep k3, A7.out.keep k7⟩, ⟨F3.out.keep k3, F7.out.keep k7, D37.out, fun b hb => ?_⟩, ?_, ⟨by simp; omega, by simp; omega⟩, ?_⟩
        · rcases List.mem_append.1 hb with hb | hb
          · exact D3.out b hb
          · exact D7.out b hb
        · have h1 := HV.out.2.2.1
          have h2 := HV.out.2.2.2
          exact (((((HB2.out.setCell (p := ⟨g1, 0, none⟩) h1 _).setCell (p := ⟨g1, 1, none⟩) h1 _).setCell (p := ⟨g1, 2, none⟩) h1 _).setCell (p := ⟨g2, 0, none⟩) h2 _).setCell (p := ⟨g2, 1, none⟩) h2 _).setCell (p := ⟨g2, 2, none⟩) h2 _
        · refine ⟨⟨?_, ?_, ?_, ?_, ?_, ?_⟩, ⟨?_, ?_, ?_, ?_, ?_, ?_⟩, ⟨?_, ?_, ?_, ?_, ?_, ?_⟩, ⟨?_, ?_, ?_, ?_, ?_, ?_⟩⟩ <;> go_simp
    · have hki : ¬ ((k : Int) < n) := by omega
      have hlt : xs.length ≤ k := by rw [HL.out]; omega
      have E2 := hid (show rangeOf xs = (lo, hi, true) by rw [E.out, hv.out.1, hv.out.2, List.take_of_length_le hlt])
      have hu1 : w.heap.size < wr.heap.size := by omega
      have hu2 : w.heap.size + 1 < wr.heap.size := by omega
      clear hk hkn
      go_wp2_with fail
      go_region
      go_wp2
      have f1 : ∀ b ∈ rs, b ≠ w.heap.size ∧ b ≠ w.heap.size + 1 := fun b hb => by have := (hfr.out.2.2.2 b (List.mem_append_left _ hb)).1; omega
      have f2 : ∀ b ∈ ss, b ≠ w.heap.size ∧ b ≠ w.heap.size + 1 := fun b hb => by have := (hfr.out.2.2.2 b (List.mem_append_right _ hb)).1; omega
      have hkeep : ∀ g, g ≠ w.heap.size → g ≠ w.heap.size + 1 → (((((((wr.setCell ⟨w.heap.size, 0, none⟩ (.bool lo.num.neg)).setCell ⟨w.heap.size, 1, none⟩ (.slice L1 l1 k1)).setCell ⟨w.heap.size, 2, none⟩ (.slice L2 l2 k2)).setCell ⟨w.heap.size + 1, 0, none⟩ (.bool hi.num.neg)).setCell ⟨w.heap.size + 1, 1, none⟩ (.slice M1 m1 j1)).setCell ⟨w.heap.size + 1, 2, none⟩ (.slice M2 m2 j2))).heap[g]? = wr.heap[g]? :=
        fun g h1 h2 => (heap_setCells (w.heap.size + 1) [.bool hi.num.neg, .slice M1 m1 j1, .slice M2 m2 j2] _ 0 g h2).trans (heap_setCells w.heap.size [.bool lo.num.neg, .slice L1 l1 k1, .slice L2 l2 k2] wr 0 g h1)
      have k3 : ∀ g ∈ rs, (((((((wr.setCell ⟨w.heap.size, 0, none⟩ (.bool lo.num.neg)).setCell ⟨w.heap.size, 1, none⟩ (.slice L1 l1 k1)).setCell ⟨w.heap.size, 2, none⟩ (.slice L2 l2 k2)).setCell ⟨w.heap.size + 1, 0, none⟩ (.bool hi.num.neg)).setCell ⟨w.heap.size + 1, 1, none⟩ (.slice M1 m1 j1)).setCell ⟨w.heap.size + 1, 2, none⟩ (.slice M2 m2 j2))).drew.heap[g]? = wr.heap[g]? := fun g hg => by rw [heap_drew]; exact hkeep g (f1 g hg).1 (f1 g hg).2
      have k7 : ∀ g ∈ ss, (((((((wr.setCell ⟨w.heap.size, 0, none⟩ (.bool lo.num.neg)).setCell ⟨w.heap.size, 1, none⟩ (.slice L1 l1 k1)).setCell ⟨w.heap.size, 2, none⟩ (.slice L2 l2 k2)).setCell ⟨w.heap.size + 1, 0, none⟩ (.bool hi.num.neg)).setCell ⟨w.heap.size + 1, 1, none⟩ (.slice M1 m1 j1)).setCell ⟨w.heap.size + 1, 2, none⟩ (.slice M2 m2 j2))).drew.heap[g]? = wr.heap[g]? := fun g hg => by rw [heap_drew]; exact hkeep g (f2 g hg).1 (f2 g hg).2
      refine bodyPost_ret (v := .tuple #[.agg #[.bool lo.num.neg, .slice L1 l1 k1, .slice L2 l2 k2], .agg #[.bool hi.num.neg, .slice M1 m1 j1, .slice M2 m2 j2], .bool true]) (by simp [results, Try.results14, go_sem, *]) rfl ?_
      rw [E2.out]
      refine ⟨_, _, rs, ss, rfl, hag.out.1.keep k3, hag.out.2.keep k7, Own.append ((hfr.out.1.keep k3).own fun b hb => ?_) ((hfr.out.2.1.keep k7).own fun b hb => ?_) hfr.out.2.2.1, ?_⟩
      · have := (hfr.out.2.2.2 b (List.mem_append_left _ hb)).1; omega
      · have := (hfr.out.2.2.2 b (List.mem_append_right _ hb)).1; omega
      · have h1 : w.heap.size ≤ w.heap.size := Nat.le_refl _
        have h2 : w.heap.size ≤ w.heap.size + 1 := by omega
        exact Below.drew ((((((HB.out.setCell (p := ⟨w.heap.size, 0, none⟩) h1 _).setCell (p := ⟨w.heap.size, 1, none⟩) h1 _).setCell (p := ⟨w.heap.size, 2, none⟩) h1 _).setCell (p := ⟨w.heap.size + 1, 0, none⟩) h2 _).setCell (p := ⟨w.heap.size + 1, 1, none⟩) h2 _).setCell (p := ⟨w.heap.size + 1, 2, none⟩) h2 _)

set_option maxHeartbeats 4000000 in
set_option maxRecDepth 10000 in
theorem spec_RangeOf (A : Option Addr) (n c : Nat) (xs : List TRat) (bs : List Nat) (w : World) (hx : Sl w A n c xs bs) :
    Calls Try.prog 12 #[.slice A n c] w (GivesRange w (rangeOf xs)) := by
  have HL := hid hx.1
  have HX := hid hx
  have hm : n ≤ maxLen := Nat.le_trans hx.2.1 hx.2.2.1
  unfold maxLen at hm
  rcases Nat.eq_zero_or_pos n with h0 | h0
  · subst h0
    have E := hid (show rangeOf xs = (zeroR, zeroR, false) by rw [List.eq_nil_of_length_eq_zero HL.out]; rfl)
    clear hx
    go_enter Try.func12, Try.ntmps12
    go_wp2
    refine bodyPost_ret (v := .tuple #[.agg #[.bool false, .slice none 0 0, .slice none 0 0], .agg #[.bool false, .slice none 0 0, .slice none 0 0], .bool false]) (by simp [results, Try.results12, go_sem, *]) rfl ?_
    rw [E.out]
    exact gives_range0 (by (repeat (first | (with_reducible exact Below.refl _ _) | ((with_reducible refine Below.set ?_ ?_ _); rotate_left; (simp <;> omega)) | (with_reducible refine Below.box_ ?_ _) | (with_reducible refine Below.next ?_ (by assumption)))))
  obtain ⟨x0, xt, hxs⟩ : ∃ x0 xt, xs = x0 :: xt := by
    cases xs with
    | nil => exfalso; have := HL.out; simp at this; omega
    | cons a l => exact ⟨a, l, rfl⟩
  have z0 : ((n : Int) == 0) = false := by simp; omega
  have HXS := hid hxs
  cases hok : xs.all ratOkB
  · have E := hid (show rangeOf xs = (zeroR, zeroR, false) by rw [hxs] at hok ⊢; show (if _ then _ else _) = _; rw [hok]; rfl)
    have OK := hid hok
    clear hok hx hxs h0
    go_enter Try.func12, Try.ntmps12
    go_wp2_with fail
    have C := spec_l11Valid A n c xs _ ((w.alloc (.cells #[.bool false, .slice none 0 0, .slice none 0 0] 28)).alloc (.cells #[.bool false, .slice none 0 0, .slice none 0 0] 28)) (Sl.below HX.out (by (repeat (first | (with_reducible exact Below.refl _ _) | ((with_reducible refine Below.set ?_ ?_ _); rotate_left; (simp <;> omega)) | (with_reducible refine Below.box_ ?_ _) | (with_reducible refine Below.next ?_ (by assumption))))))
    rw [OK.out] at C
    refine C.mono ?_
    clear C
    rintro _ w1 ⟨rfl, hb1⟩
    obtain ⟨hc_w1, hf_w1⟩ := bcell hb1
    have hz0_w1 : w.heap.size < w1.heap.size := by have := hb1.size; (try simp at this); omega
    have hz1_w1 : w.heap.size + 1 < w1.heap.size := by have := hb1.size; (try simp at this); omega
    have uc0 : w1.cell? ⟨w.heap.size, 0, none⟩ = some (.bool false) := by go_simp
    have uf0 : w1.frozen? ⟨w.heap.size, 0, none⟩ = false := by go_simp
    have uc1 : w1.cell? ⟨w.heap.size, 1, none⟩ = some (.slice none 0 0) := by go_simp
    have uf1 : w1.frozen? ⟨w.heap.size, 1, none⟩ = false := by go_simp
    have uc2 : w1.cell? ⟨w.heap.size, 2, none⟩ = some (.slice none 0 0) := by go_simp
    have uf2 : w1.frozen? ⟨w.heap.size, 2, none⟩ = false := by go_simp
    have vc0 : w1.cell? ⟨w.heap.size + 1, 0, none⟩ = some (.bool false) := by go_simp
    have vf0 : w1.frozen? ⟨w.heap.size + 1, 0, none⟩ = false := by go_simp
    have vc1 : w1.cell? ⟨w.heap.size + 1, 1, none⟩ = some (.slice none 0 0) := by go_simp
    have vf1 : w1.frozen? ⟨w.heap.size + 1, 1, none⟩ = false := by go_simp
    have vc2 : w1.cell? ⟨w.heap.size + 1, 2, none⟩ = some (.slice none 0 0) := by go_simp
    have vf2 : w1.frozen? ⟨w.heap.size + 1, 2, none⟩ = false := by go_simp
    go_wp2
    refine bodyPost_ret (v := .tuple #[.agg #[.bool false, .slice none 0 0, .slice none 0 0], .agg #[.bool false, .slice none 0 0, .slice none 0 0], .bool false]) (by simp [results, Try.results12, go_sem, *]) rfl ?_
    rw [E.out]
    exact gives_range0 (by (repeat (first | (with_reducible exact Below.refl _ _) | ((with_reducible refine Below.set ?_ ?_ _); rotate_left; (simp <;> omega)) | (with_reducible refine Below.box_ ?_ _) | (with_reducible refine Below.next ?_ (by assumption)))))
  have E := hid (show rangeOf xs = (xs.foldl rmin x0, xs.foldl rmax x0, true) by rw [hxs] at hok ⊢; show (if _ then _ else _) = _; rw [hok]; rfl)
  have OK := hid hok
  have V := hid (fun x (hm : x ∈ xs) => ratOkB_iff.1 (List.all_eq_true.1 hok x hm))
  obtain ⟨be, offe, x, D1, p1, q1, D2, p2, q2, fs, rfl, hble, hx1, e0, e1, e2, hagx, hfx⟩ := TRat.elemB hx (Below.refl _ _) h0
  obtain rfl : x = x0 := by rw [hxs] at hx1; simpa using hx1.symm
  simp only [Nat.zero_mul, Nat.add_zero] at e0 e1 e2
  have HAG := hid hagx
  have HFX := hid hfx
  have HBL := hid hble
  have VX := hid (V.out x (List.mem_of_getElem? hx1))
  have hni : (0 : Int) < n := by omega
  clear hok hx hxs h0 hagx hx1 hfx
  go_enter Try.func12, Try.ntmps12
  go_wp2_with fail
  have C := spec_l11Valid _ n c xs _ ((w.alloc (.cells #[.bool false, .slice none 0 0, .slice none 0 0] 28)).alloc (.cells #[.bool false, .slice none 0 0, .slice none 0 0] 28)) (Sl.below HX.out (by (repeat (first | (with_reducible exact Below.refl _ _) | ((with_reducible refine Below.set ?_ ?_ _); rotate_left; (simp <;> omega)) | (with_reducible refine Below.box_ ?_ _) | (with_reducible refine Below.next ?_ (by assumption))))))
  rw [OK.out] at C
  refine C.mono ?_
  clear C
  rintro _ w1 ⟨rfl, hb1⟩
  obtain ⟨hc_w1, hf_w1⟩ := bcell hb1
  have hz0_w1 : w.heap.size < w1.heap.size := by have := hb1.size; (try simp at this); omega
  have hz1_w1 : w.heap.size + 1 < w1.heap.size := by have := hb1.size; (try simp at this); omega
  have hble0 := HBL.out
  have hble1 : be < w.heap.size + 1 := by omega
  have hble2 : be < w.heap.size + 1 + 1 := by omega
  have hble3 : be < w1.heap.size := by omega
  have HZ := hid (show w.heap.size + 2 ≤ w1.heap.size by have := hb1.size; simp at this; omega)
  have HB1 := hid (show Below w.heap.size w w1 by (repeat (first | (with_reducible exact Below.refl _ _) | ((with_reducible refine Below.set ?_ ?_ _); rotate_left; (simp <;> omega)) | (with_reducible refine Below.box_ ?_ _) | (with_reducible refine Below.next ?_ (by assumption)))))
  have nn1 : w.heap.size < w1.heap.size + 1 := by omega
  have nn2 : w.heap.size + 1 < w1.heap.size + 1 := by omega
  have pc0 : w1.cell? ⟨w.heap.size, 0, none⟩ = some (.bool false) := by go_simp
  have pf0 : w1.frozen? ⟨w.heap.size, 0, none⟩ = false := by go_simp
  have pc1 : w1.cell? ⟨w.heap.size, 1, none⟩ = some (.slice none 0 0) := by go_simp
  have pf1 : w1.frozen? ⟨w.heap.size, 1, none⟩ = false := by go_simp
  have pc2 : w1.cell? ⟨w.heap.size, 2, none⟩ = some (.slice none 0 0) := by go_simp
  have pf2 : w1.frozen? ⟨w.heap.size, 2, none⟩ = false := by go_simp
  have qc0 : w1.cell? ⟨w.heap.size + 1, 0, none⟩ = some (.bool false) := by go_simp
  have qf0 : w1.frozen? ⟨w.heap.size + 1, 0, none⟩ = false := by go_simp
  have qc1 : w1.cell? ⟨w.heap.size + 1, 1, none⟩ = some (.slice none 0 0) := by go_simp
  have qf1 : w1.frozen? ⟨w.heap.size + 1, 1, none⟩ = false := by go_simp
  have qc2 : w1.cell? ⟨w.heap.size + 1, 2, none⟩ = some (.slice none 0 0) := by go_simp
  have qf2 : w1.frozen? ⟨w.heap.size + 1, 2, none⟩ = false := by go_simp
  go_wp2_with fail
  go_loopg [27] n (fun g s wr => ∃ (k : Nat) (lo hi : TRat) (L1 : Option Addr) (l1 k1 : Nat) (L2 : Option Addr) (l2 k2 : Nat) (M1 : Option Addr) (m1 j1 : Nat) (M2 : Option Addr) (m2 j2 : Nat) (rs ss : List Nat), k + g = n ∧ s = .int .i64 k ∧ Hid ((lo = (xs.take k).foldl rmin x ∧ hi = (xs.take k).foldl rmax x) ∧ (ratOkB lo = true ∧ ratOkB hi = true)) ∧ Hid (Agg wr (.agg #[.bool lo.num.neg, .slice L1 l1 k1, .slice L2 l2 k2]) lo rs ∧ Agg wr (.agg #[.bool hi.num.neg, .slice M1 m1 j1, .slice M2 m2 j2]) hi ss) ∧ Hid (∀ b ∈ rs ++ ss, (b ≠ w.heap.size ∧ b ≠ w.heap.size + 1) ∧ b ≠ w1.heap.size ∧ b ≠ w1.heap.size + 1) ∧ Below w.heap.size w wr ∧ (w1.heap.size < wr.heap.size ∧ w1.heap.size + 1 < wr.heap.size) ∧ (wr.cell? ⟨w.heap.size, 0, none⟩ = some (.bool false) ∧ wr.cell? ⟨w.heap.size, 1, none⟩ = some (.slice none 0 0) ∧ wr.cell? ⟨w.heap.size, 2, none⟩ = some (.slice none 0 0) ∧ wr.frozen? ⟨w.heap.size, 0, none⟩ = false ∧ wr.frozen? ⟨w.heap.size, 1, none⟩ = false ∧ wr.frozen? ⟨w.heap.size, 2, none⟩ = false) ∧ (wr.cell? ⟨w.heap.size + 1, 0, none⟩ = some (.bool false) ∧ wr.cell? ⟨w.heap.size + 1, 1, none⟩ = some (.slice none 0 0) ∧ wr.cell? ⟨w.heap.size + 1, 2, none⟩ = some (.slice none 0 0) ∧ wr.frozen? ⟨w.heap.size + 1, 0, none⟩ = false ∧ wr.frozen? ⟨w.heap.size + 1, 1, none⟩ = false ∧ wr.frozen? ⟨w.heap.size + 1, 2, none⟩ = false) ∧ (wr.cell? ⟨w1.heap.size, 0, none⟩ = some (.bool lo.num.neg) ∧ wr.cell? ⟨w1.heap.size, 1, none⟩ = some (.slice L1 l1 k1) ∧ wr.cell? ⟨w1.heap.size, 2, none⟩ = some (.slice L2 l2 k2) ∧ wr.frozen? ⟨w1.heap.size, 0, none⟩ = false ∧ wr.frozen? ⟨w1.heap.size, 1, none⟩ = false ∧ wr.frozen? ⟨w1.heap.size, 2, none⟩ = false) ∧ (wr.cell? ⟨w1.heap.size + 1, 0, none⟩ = some (.bool hi.num.neg) ∧ wr.cell? ⟨w1.heap.size + 1, 1, none⟩ = some (.slice M1 m1 j1) ∧ wr.cell? ⟨w1.heap.size + 1, 2, none⟩ = some (.slice M2 m2 j2) ∧ wr.frozen? ⟨w1.heap.size + 1, 0, none⟩ = false ∧ wr.frozen? ⟨w1.heap.size + 1, 1, none⟩ = false ∧ wr.frozen? ⟨w1.heap.size + 1, 2, none⟩ = false))
  case atStart =>
    refine ⟨0, x, x, D1, p1, q1, D2, p2, q2, D1, p1, q1, D2, p2, q2, fs, fs, by omega, rfl, ⟨by constructor <;> simp, ratOkB_iff.2 VX.out, ratOkB_iff.2 VX.out⟩, ⟨HAG.out.below (by (repeat (first | (with_reducible exact Below.refl _ _) | ((with_reducible refine Below.set ?_ ?_ _); rotate_left; (simp <;> omega)) | (with_reducible refine Below.box_ ?_ _) | (with_reducible refine Below.next ?_ (by assumption))))), HAG.out.below (by (repeat (first | (with_reducible exact Below.refl _ _) | ((with_reducible refine Below.set ?_ ?_ _); rotate_left; (simp <;> omega)) | (with_reducible refine Below.box_ ?_ _) | (with_reducible refine Below.next ?_ (by assumption)))))⟩, fun b hb => ?_, by (repeat (first | (with_reducible exact Below.refl _ _) | ((with_reducible refine Below.set ?_ ?_ _); rotate_left; (simp <;> omega)) | (with_reducible refine Below.box_ ?_ _) | (with_reducible refine Below.next ?_ (by assumption)))), ⟨by simp <;> omega, by simp <;> omega⟩, ?_⟩
    · have := HFX.out b (by simpa using hb); have := HZ.out; omega
    · refine ⟨⟨?_, ?_, ?_, ?_, ?_, ?_⟩, ⟨?_, ?_, ?_, ?_, ?_, ?_⟩, ⟨?_, ?_, ?_, ?_, ?_, ?_⟩, ⟨?_, ?_, ?_, ?_, ?_, ?_⟩⟩ <;> go_simp
  case round =>
    clear pc0 pc1 pc2 pf0 pf1 pf2 qc0 qc1 qc2 qf0 qf1 qf2 e0 e1 e2 hc_w1 hf_w1
    obtain ⟨k, lo, hi, L1, l1, k1, L2, l2, k2, M1, m1, j1, M2, m2, j2, rs, ss, hk, rfl, hv, hag, hfr, hb, ⟨hs1, hs2⟩, s1, s2, s3, s4⟩ := hrel
    have HB := hid hb
    have HS := hid (show w1.heap.size < wr.heap.size ∧ w1.heap.size + 1 < wr.heap.size from ⟨hs1, hs2⟩)
    have n1 : w.heap.size ≠ w1.heap.size := by omega
    have n2 : w.heap.size ≠ w1.heap.size + 1 := by omega
    have n3 : w.heap.size + 1 ≠ w1.heap.size := by omega
    have n4 : w.heap.size + 1 ≠ w1.heap.size + 1 := by omega
    have n5 : w1.heap.size ≠ w.heap.size := by omega
    have n6 : w1.heap.size + 1 ≠ w.heap.size := by omega
    have n7 : w1.heap.size ≠ w.heap.size + 1 := by omega
    have n8 : w1.heap.size + 1 ≠ w.heap.size + 1 := by omega
    rcases Nat.lt_or_ge k n with hkn | hkn
    · obtain ⟨be', offe', y, E1, q1', p1', E2, q2', p2', fy, hae, hble', hy1, e0, e1, e2, hagy, hfy⟩ := TRat.elemB HX.out hb hkn
      injection hae with hae; injection hae with hae1 hae2 _
      subst hae1; subst hae2
      have HY1 := hid hy1
      have HAY := hid hagy
      have HFY := hid hfy
      have hki : (k : Int) < n := by omega
      obtain ⟨g, rfl⟩ : ∃ g, gk = g + 1 := ⟨gk - 1, by omega⟩
      have hk' := hid (show k + 1 + g = n by omega)
      have hk1 : k + 1 ≤ n := hkn
      have hle : be < wr.heap.size := by omega
      have hu1 : w.heap.size < wr.heap.size := by omega
      have hu2 : w.heap.size + 1 < wr.heap.size := by omega
      have hu3 : w.heap.size < wr.heap.size + 1 := by omega
      have hu4 : w.heap.size + 1 < wr.heap.size + 1 := by omega
      have hu5 : w1.heap.size < wr.heap.size + 1 := by omega
      have hu6 : w1.heap.size + 1 < wr.heap.size + 1 := by omega
      have VY := V.out y (List.mem_of_getElem? HY1.out)
      have RS := hid (show (rmin lo y = (xs.take (k + 1)).foldl rmin x ∧ rmax hi y = (xs.take (k + 1)).foldl rmax x) ∧ (ratOkB (rmin lo y) = true ∧ ratOkB (rmax hi y) = true) by
        refine ⟨by rw [take_step HY1.out, List.foldl_append, List.foldl_append, ← hv.out.1.1, ← hv.out.1.2]; exact ⟨rfl, rfl⟩, rmin_ok hv.out.2.1 (ratOkB_iff.2 VY), rmax_ok hv.out.2.2 (ratOkB_iff.2 VY)⟩)
      clear hy1 hk hkn hagy hfy VY
      go_wp2_with fail
      refine (spec_RatMin _ _ lo y _ _ _ (Agg.below hag.out.1 (Below.box _)) (Agg.below HAY.out (Below.box _))).mono ?_
      rintro _ w2 ⟨v2, t2, rfl, ha2, ho2, hb2⟩
      obtain ⟨B1, B2, B3, Bt, B4, B5, B6, Bs, rfl, hz, _, _⟩ := TRat.agg ha2
      have HA2 := hid ha2; have HB2 := hid (show Below w.heap.size w w2 from Below.next (Below.next HB.out (Below.box _)) hb2)
      have HO2 := hid (show ∀ b ∈ t2, wr.heap.size + 1 ≤ b by intro b hb; have := (ho2.2 b hb).1; simpa using this)
      have HH := hid (hag.out.2.below (Below.next (Below.box _) hb2))
      have HY2 := hid (HAY.out.below (Below.next (Below.box _) hb2))
      obtain ⟨hc_w2, hf_w2⟩ := bcell hb2
      have hsz := hb2.size
      simp at hsz
      have hv1 : w.heap.size < w2.heap.size := by omega
      have hv2 : w.heap.size + 1 < w2.heap.size := by omega
      have hv3 : w1.heap.size < w2.heap.size := by omega
      have hv4 : w1.heap.size + 1 < w2.heap.size := by omega
      have hv5 : wr.heap.size < w2.heap.size := by omega
      have nw1 : wr.heap.size ≠ w1.heap.size := by omega
      have nw2 : wr.heap.size ≠ w1.heap.size + 1 := by omega
      clear ha2 ho2 hz
      go_wp2_with fail
      have hkeep1 : ∀ g, g ≠ w1.heap.size → (((w2.setCell ⟨w1.heap.size, 0, none⟩ (.bool (rmin lo y).num.neg)).setCell ⟨w1.heap.size, 1, none⟩ (.slice B1 B2 B3)).setCell ⟨w1.heap.size, 2, none⟩ (.slice B4 B5 B6)).heap[g]? = w2.heap[g]? :=
        fun g h1 => heap_setCells w1.heap.size [.bool (rmin lo y).num.neg, .slice B1 B2 B3, .slice B4 B5 B6] w2 0 g h1
      have HK1 := hid hkeep1
      have hr1 : w.heap.size ≤ w1.heap.size := by omega
      have hr2 : w.heap.size ≤ w1.heap.size + 1 := by omega
      have HB3 := hid (show Below w.heap.size w (((w2.setCell ⟨w1.heap.size, 0, none⟩ (.bool (rmin lo y).num.neg)).setCell ⟨w1.heap.size, 1, none⟩ (.slice B1 B2 B3)).setCell ⟨w1.heap.size, 2, none⟩ (.slice B4 B5 B6)) from ((HB2.out.setCell (p := ⟨w1.heap.size, 0, none⟩) hr1 _).setCell (p := ⟨w1.heap.size, 1, none⟩) hr1 _).setCell (p := ⟨w1.heap.size, 2, none⟩) hr1 _)
      clear hkeep1
      refine (spec_RatMax _ _ hi y _ _ (((w2.setCell ⟨w1.heap.size, 0, none⟩ (.bool (rmin lo y).num.neg)).setCell ⟨w1.heap.size, 1, none⟩ (.slice B1 B2 B3)).setCell ⟨w1.heap.size, 2, none⟩ (.slice B4 B5 B6)) (HH.out.keep fun g hg => HK1.out g (hfr.out g (List.mem_append_right _ hg)).2.1) (HY2.out.keep fun g hg => HK1.out g (by have := HFY.out g hg; omega))).mono ?_
      rintro _ w3 ⟨v3, t3, rfl, ha3, ho3, hb3⟩
      obtain ⟨C1, C2, C3, Ct, C4, C5, C6, Cs, rfl, hz, _, _⟩ := TRat.agg ha3
      have HA3 := hid ha3
      have HB4 := hid (show Below w.heap.size w w3 from Below.next HB3.out hb3)
      have HL3 := hid ((HA2.out.keep fun g hg => HK1.out g (by have := HO2.out g hg; omega)).below hb3)
      have HO3 := hid (show ∀ b ∈ t3, w2.heap.size ≤ b by intro b hb; have := (ho3.2 b hb).1; simpa using this)
      obtain ⟨hc_w3, hf_w3⟩ := bcell hb3
      have hsz3 := hb3.size
      simp at hsz3
      have hx1 : w.heap.size < w3.heap.size := by omega
      have hx2 : w.heap.size + 1 < w3.heap.size := by omega
      have hx3 : w1.heap.size < w3.heap.size := by omega
      have hx4 : w1.heap.size + 1 < w3.heap.size := by omega
      clear ha3 ho3 hz hsz hsz3
      go_wp2_with fail
      go_roundg g
      case measure => omega
      case rel =>
        have hkeep : ∀ g, g ≠ w1.heap.size + 1 → (((w3.setCell ⟨w1.heap.size + 1, 0, none⟩ (.bool (rmax hi y).num.neg)).setCell ⟨w1.heap.size + 1, 1, none⟩ (.slice C1 C2 C3)).setCell ⟨w1.heap.size + 1, 2, none⟩ (.slice C4 C5 C6)).heap[g]? = w3.heap[g]? :=
          fun g h1 => heap_setCells (w1.heap.size + 1) [.bool (rmax hi y).num.neg, .slice C1 C2 C3, .slice C4 C5 C6] w3 0 g h1
        have k2 : ∀ b ∈ t2, b ≠ w1.heap.size + 1 := fun b hb => by have := HO2.out b hb; omega
        have k3 : ∀ b ∈ t3, b ≠ w1.heap.size + 1 := fun b hb => by have := HO3.out b hb; omega
        refine ⟨k + 1, rmin lo y, rmax hi y, B1, B2, B3, B4, B5, B6, C1, C2, C3, C4, C5, C6, t2, t3, hk'.out, by go_num, RS, ⟨HL3.out.keep fun g hg => hkeep g (k2 g hg), HA3.out.keep fun g hg => hkeep g (k3 g hg)⟩, fun b hb => ?_, ((HB4.out.setCell (p := ⟨w1.heap.size + 1, 0, none⟩) hr2 _).setCell (p := ⟨w1.heap.size + 1, 1, none⟩) hr2 _).setCell (p := ⟨w1.heap.size + 1, 2, none⟩) hr2 _, ⟨by simp; omega, by simp; omega⟩, ?_⟩
        · rcases List.mem_append.1 hb with hb | hb
          · have := HO2.out b hb; omega
          · have := HO3.out b hb; omega
        · refine ⟨⟨?_, ?_, ?_, ?_, ?_, ?_⟩, ⟨?_, ?_, ?_, ?_, ?_, ?_⟩, ⟨?_, ?_, ?_, ?_, ?_, ?_⟩, ⟨?_, ?_, ?_, ?_, ?_, ?_⟩⟩ <;> go_simp
    · have hki : ¬ ((k : Int) < n) := by omega
      have hlt : xs.length ≤ k := by rw [HL.out]; omega
      have E2 := hid (show rangeOf xs = (lo, hi, true) by rw [E.out, hv.out.1.1, hv.out.1.2, List.take_of_length_le hlt])
      have VL := hid (ratOkB_iff.1 hv.out.2.1); have VH := hid (ratOkB_iff.1 hv.out.2.2)
      have hu1 : w.heap.size < wr.heap.size := by omega
      have hu2 : w.heap.size + 1 < wr.heap.size := by omega
      clear hk hkn hlt
      go_wp2_with fail
      refine wp_region_line 4 (by kernel_rfl) (by kernel_rfl) (by kernel_rfl) (by kernel_rfl) (by kernel_rfl) ?_
      simp only [List.take_succ_cons, List.take_zero, List.drop_succ_cons, List.drop_zero]
      apply walkM_eq
      case h =>
        intro yq zq wq hC hd
        obtain ⟨hcq, hfq⟩ := bcell hC
        simp at hd
        refine ⟨by go_simp; done, ?_⟩
        go_simp
        first | (go_ints; exact rfl) | (go_ints; rw [if_pos (by omega)]; try exact rfl) | exact rfl | (rw [if_pos (by omega)]; try exact rfl)
      refine walkM_call (MP.agg lo) ?_ ?_
      · intro yq zq wq hC hd
        obtain ⟨hcq, hfq⟩ := bcell hC
        simp at hd
        refine ⟨by go_simp; done, ?_⟩
        apply Exists.intro
        apply Exists.intro
        constructor
        · go_simp
          exact ⟨rfl, rfl⟩
        · exact gives_agg (spec_l04Copy _ lo _ wq (Agg.below hag.out.1 (by (repeat (first | (with_reducible exact Below.refl _ _) | ((with_reducible refine Below.set ?_ ?_ _); rotate_left; (simp <;> omega)) | (with_reducible refine Below.box_ ?_ _) | (with_reducible refine Below.next ?_ (by assumption)))))) VL.out.lens.1 VL.out.lens.2)
      apply walkM_eq
      case h =>
        intro yq zq wq hC hd
        obtain ⟨hcq, hfq⟩ := bcell hC
        simp at hd
        refine ⟨by go_simp; done, ?_⟩
        go_simp
        first | (go_ints; exact rfl) | (go_ints; rw [if_pos (by omega)]; try exact rfl) | exact rfl | (rw [if_pos (by omega)]; try exact rfl)
      refine walkM_call (MP.agg hi) ?_ ?_
      · intro yq zq wq hC hd
        obtain ⟨hcq, hfq⟩ := bcell hC
        simp at hd
        refine ⟨by go_simp; done, ?_⟩
        apply Exists.intro
        apply Exists.intro
        constructor
        · go_simp
          exact ⟨rfl, rfl⟩
        · exact gives_agg (spec_l04Copy _ hi _ wq (Agg.below hag.out.2 (by (repeat (first | (with_reducible exact Below.refl _ _) | ((with_reducible refine Below.set ?_ ?_ _); rotate_left; (simp <;> omega)) | (with_reducible refine Below.box_ ?_ _) | (with_reducible refine Below.next ?_ (by assumption)))))) VH.out.lens.1 VH.out.lens.2)
      intro yq zq wb hC hd hdis0
      have hdis := hid hdis0
      clear hdis0
      simp at hd
      have q1' := hd.2.1
      have q3' := hd.2.2.2
      obtain ⟨⟨ha3, hf3⟩, hr3⟩ := q1'
      obtain ⟨B1, B2, B3, Bt, B4, B5, B6, Bs, y3, hz3, _, _⟩ := TRat.agg ha3
      obtain ⟨⟨ha7, hf7⟩, hr7⟩ := q3'
      obtain ⟨C1, C2, C3, Ct, C4, C5, C6, Cs, y7, hz7, _, _⟩ := TRat.agg ha7
      rw [y3] at ha3; rw [y7] at ha7
      have D37 := hid (hdis.out 1 3 (by decide) (by decide) (by decide))
      have D3 := hid (show ∀ b ∈ zq 1, w.heap.size + 2 ≤ b from fun b hb => by have := (hr3 b hb).1; omega)
      have D7 := hid (show ∀ b ∈ zq 3, w.heap.size + 2 ≤ b from fun b hb => by have := (hr7 b hb).1; omega)
      have F3 := hid hf3; have F7 := hid hf7; have A3 := hid ha3; have A7 := hid ha7
      have HB2 := hid (show Below w.heap.size w wb from Below.next HB.out hC)
      have hsz := hC.size
      obtain ⟨hc_wb, hf_wb⟩ := bcell hC
      have hv1 : w.heap.size < wb.heap.size := by omega
      have hv2 : w.heap.size + 1 < wb.heap.size := by omega
      clear hd hdis hz3 hz7 hr3 hr7 hf3 hf7 ha3 ha7 hsz
      have pc0 : wb.cell? ⟨w.heap.size, 0, none⟩ = some (.bool false) := by go_simp
      have pf0 : wb.frozen? ⟨w.heap.size, 0, none⟩ = false := by go_simp
      have pc1 : wb.cell? ⟨w.heap.size, 1, none⟩ = some (.slice none 0 0) := by go_simp
      have pf1 : wb.frozen? ⟨w.heap.size, 1, none⟩ = false := by go_simp
      have pc2 : wb.cell? ⟨w.heap.size, 2, none⟩ = some (.slice none 0 0) := by go_simp
      have pf2 : wb.frozen? ⟨w.heap.size, 2, none⟩ = false := by go_simp
      have qc0 : wb.cell? ⟨w.heap.size + 1, 0, none⟩ = some (.bool false) := by go_simp
      have qf0 : wb.frozen? ⟨w.heap.size + 1, 0, none⟩ = false := by go_simp
      have qc1 : wb.cell? ⟨w.heap.size + 1, 1, none⟩ = some (.slice none 0 0) := by go_simp
      have qf1 : wb.frozen? ⟨w.heap.size + 1, 1, none⟩ = false := by go_simp
      have qc2 : wb.cell? ⟨w.heap.size + 1, 2, none⟩ = some (.slice none 0 0) := by go_simp
      have qf2 : wb.frozen? ⟨w.heap.size + 1, 2, none⟩ = false := by go_simp
      go_wp2
      have f1 : ∀ b ∈ zq 1, b ≠ w.heap.size ∧ b ≠ w.heap.size + 1 := fun b hb => by have := D3.out b hb; omega
      have f2 : ∀ b ∈ zq 3, b ≠ w.heap.size ∧ b ≠ w.heap.size + 1 := fun b hb => by have := D7.out b hb; omega
      have hkeep : ∀ g, g ≠ w.heap.size → g ≠ w.heap.size + 1 → (((((((wb.setCell ⟨w.heap.size, 0, none⟩ (.bool lo.num.neg)).setCell ⟨w.heap.size, 1, none⟩ (.slice B1 B2 B3)).setCell ⟨w.heap.size, 2, none⟩ (.slice B4 B5 B6)).setCell ⟨w.heap.size + 1, 0, none⟩ (.bool hi.num.neg)).setCell ⟨w.heap.size + 1, 1, none⟩ (.slice C1 C2 C3)).setCell ⟨w.heap.size + 1, 2, none⟩ (.slice C4 C5 C6))).heap[g]? = wb.heap[g]? :=
        fun g h1 h2 => (heap_setCells (w.heap.size + 1) [.bool hi.num.neg, .slice C1 C2 C3, .slice C4 C5 C6] _ 0 g h2).trans (heap_setCells w.heap.size [.bool lo.num.neg, .slice B1 B2 B3, .slice B4 B5 B6] wb 0 g h1)
      have k3 := fun g hg => hkeep g (f1 g hg).1 (f1 g hg).2
      have k7 := fun g hg => hkeep g (f2 g hg).1 (f2 g hg).2
      refine bodyPost_ret (v := .tuple #[.agg #[.bool lo.num.neg, .slice B1 B2 B3, .slice B4 B5 B6], .agg #[.bool hi.num.neg, .slice C1 C2 C3, .slice C4 C5 C6], .bool true]) (by simp [results, Try.results12, go_sem, *]) rfl ?_
      rw [E2.out]
      refine ⟨_, _, zq 1, zq 3, rfl, A3.out.keep k3, A7.out.keep k7, Own.append ((F3.out.keep k3).own fun b hb => ?_) ((F7.out.keep k7).own fun b hb => ?_) D37.out, ?_⟩
      · have := D3.out b hb; omega
      · have := D7.out b hb; omega
      · have h1 : w.heap.size ≤ w.heap.size := Nat.le_refl _
        have h2 : w.heap.size ≤ w.heap.size + 1 := by omega
        exact ((((((HB2.out.setCell (p := ⟨w.heap.size, 0, none⟩) h1 _).setCell (p := ⟨w.heap.size, 1, none⟩) h1 _).setCell (p := ⟨w.heap.size, 2, none⟩) h1 _).setCell (p := ⟨w.heap.size + 1, 0, none⟩) h2 _).setCell (p := ⟨w.heap.size + 1, 1, none⟩) h2 _).setCell (p := ⟨w.heap.size + 1, 2, none⟩) h2 _)
end Go.Proofs.Ythlpjpcnpcclhaa.X
