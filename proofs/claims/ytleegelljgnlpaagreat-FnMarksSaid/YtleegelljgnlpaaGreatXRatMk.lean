/- RatMake of the reference; RatOf of small numbers. -/
import Derived.Test.YtleegelljgnlpaaGreatP9
import Derived.Test.YtleegelljgnlpaaGreatP7
namespace Go.Proofs.YtleegelljgnlpaaGreat.X
open Go.RowKit Go.XB Go.XN
attribute [local go_sem] fillBy opAt deps depOf Region.wanted yielded
attribute [local simp] deps depOf MP.eq MP.agg MP.sl Facts
set_option linter.constructorNameAsVariable false

set_option maxHeartbeats 1000000 in
set_option maxRecDepth 10000 in
theorem spec_RatMake (v1 v2 : Value) (x y : TBigInt) (b1 b2 : List Nat) (w : World) (hx : Agg w v1 x b1) (hy : Agg w v2 y b2) (ox : bigOkB x = true) (oy : bigOkB y = true) (hy0 : y.mag ≠ []) :
    Calls Tryz.prog 30 #[v1, v2] w (GivesAgg w (mkR (sval (x.neg != y.neg) x.mag) (val y.mag))) := by
  have HX := hid hx; have HY := hid hy
  obtain ⟨A1, n1, c1, s1, rfl, rfl, hs1⟩ := TBigInt.agg hx
  obtain ⟨A2, n2, c2, s2, rfl, rfl, hs2⟩ := TBigInt.agg hy
  have S1 := hid hs1; have S2 := hid hs2
  have OX := hid ox; have OY := hid oy
  have C1 := hid (bigOkB_iff.1 ox).1; have C2 := hid (bigOkB_iff.1 oy).1
  have N1 := hid (show n1 ≤ 65536 by rw [← hs1.1]; have := (bigOkB_iff.1 ox).1.1; omega)
  have N2 := hid (show n2 ≤ 65536 by rw [← hs2.1]; have := (bigOkB_iff.1 oy).1.1; omega)
  have N0 := hid (show 0 < n2 by rw [← hs2.1]; exact List.length_pos_iff.2 hy0)
  clear hs1 hs2 hx hy ox oy hy0
  go_enter Tryz.func30, Tryz.ntmps30
  go_wp2_with fail
  have C := spec_BigIntOk _ x _ (((w.alloc (.cells #[.bool x.neg, .slice A1 n1 c1] 27)).alloc (.cells #[.bool y.neg, .slice A2 n2 c2] 27)).alloc (.cells #[.bool false, .slice none 0 0, .slice none 0 0] 29)) (HX.out.below (by (repeat (first | (with_reducible exact Below.refl _ _) | ((with_reducible refine Below.set ?_ ?_ _); rotate_left; (simp <;> omega)) | (with_reducible refine Below.box_ ?_ _) | (with_reducible refine Below.next ?_ (by assumption))))))
  rw [OX.out] at C
  refine C.mono ?_
  clear C
  rintro _ w1 ⟨rfl, hb1⟩
  obtain ⟨hc_w1, hf_w1⟩ := bcell hb1
  have hz0_w1 : w.heap.size < w1.heap.size := by have := hb1.size; (try simp at this); omega
  have hz1_w1 : w.heap.size + 1 < w1.heap.size := by have := hb1.size; (try simp at this); omega
  have hz2_w1 : w.heap.size + 1 + 1 < w1.heap.size := by have := hb1.size; (try simp at this); omega
  go_wp2_with fail
  have C := spec_BigIntOk _ y _ w1 (HY.out.below (by (repeat (first | (with_reducible exact Below.refl _ _) | ((with_reducible refine Below.set ?_ ?_ _); rotate_left; (simp <;> omega)) | (with_reducible refine Below.box_ ?_ _) | (with_reducible refine Below.next ?_ (by assumption))))))
  rw [OY.out] at C
  refine C.mono ?_
  clear C
  rintro _ w2 ⟨rfl, hb2⟩
  obtain ⟨hc_w2, hf_w2⟩ := bcell hb2
  have hz0_w2 : w.heap.size < w2.heap.size := by have := hb2.size; (try simp at this); omega
  have hz1_w2 : w.heap.size + 1 < w2.heap.size := by have := hb2.size; (try simp at this); omega
  have hz2_w2 : w.heap.size + 1 + 1 < w2.heap.size := by have := hb2.size; (try simp at this); omega
  go_wp2_with fail
  refine (spec_l04Low (x.neg != y.neg) A1 A2 n1 n2 c1 c2 x.mag y.mag _ _ w2 (S1.out.below (by (repeat (first | (with_reducible exact Below.refl _ _) | ((with_reducible refine Below.set ?_ ?_ _); rotate_left; (simp <;> omega)) | (with_reducible refine Below.box_ ?_ _) | (with_reducible refine Below.next ?_ (by assumption)))))) (S2.out.below (by (repeat (first | (with_reducible exact Below.refl _ _) | ((with_reducible refine Below.set ?_ ?_ _); rotate_left; (simp <;> omega)) | (with_reducible refine Below.box_ ?_ _) | (with_reducible refine Below.next ?_ (by assumption)))))) C1.out.2 C2.out.2 N0.out N1.out N2.out).mono ?_
  rintro _ wb ⟨vb, sb, rfl, hab, hob, hb⟩
  obtain ⟨D1, nD1, cD1, d1, D2, nD2, cD2, d2, rfl, hzb, _, _⟩ := TRat.agg hab
  have HA := hid hab; have HO := hid hob
  clear hab hob hzb
  obtain ⟨hc_wb, hf_wb⟩ := bcell hb
  have hz0_wb : w.heap.size < wb.heap.size := by have := hb.size; (try simp at this); omega
  have hz1_wb : w.heap.size + 1 < wb.heap.size := by have := hb.size; (try simp at this); omega
  have hz2_wb : w.heap.size + 1 + 1 < wb.heap.size := by have := hb.size; (try simp at this); omega
  go_wp2
  refine bodyPost_ret (v := .agg #[.bool (mkR (sval (x.neg != y.neg) x.mag) (val y.mag)).num.neg, .slice D1 nD1 cD1, .slice D2 nD2 cD2]) (by simp [results, Tryz.results30, go_sem, *]) rfl ?_
  refine agg_fin (lo := w.heap.size + 3) HA.out HO.out.free (fun b hb => by have := (HO.out.2 b hb).1; (try simp at this); omega) (by omega) ?_ ?_
  · (repeat (first | (with_reducible exact Above.refl _ _) | ((with_reducible refine Above.set ?_ ?_ _); rotate_left; (simp <;> omega)) | (with_reducible refine Above.box ?_ _) | (with_reducible refine Above.below ?_ (by assumption))))
  · (repeat (first | (with_reducible exact Below.refl _ _) | ((with_reducible refine Below.set ?_ ?_ _); rotate_left; (simp <;> omega)) | (with_reducible refine Below.box_ ?_ _) | (with_reducible refine Below.next ?_ (by assumption))))

theorem small_val {a d : Int} (ha : 0 ≤ a) (hd : 0 < d) : sval ((encI a).neg != (encI d).neg) (encI a).mag = a ∧ val (encI d).mag = d := by
  have e1 : (encI a).neg = false := by unfold encI; simp; omega
  have e2 : (encI d).neg = false := by unfold encI; simp; omega
  rw [e1, e2]
  refine ⟨?_, ?_⟩
  · show val (dig a.natAbs) = a; rw [val_dig]; omega
  · show val (dig d.natAbs) = d; rw [val_dig]; omega
set_option maxHeartbeats 1000000 in
theorem spec_RatOf_small (a d : Int) (ha : 0 ≤ a) (ha2 : a ≤ 1000) (hd : 0 < d) (hd2 : d ≤ 1000) (w : World) : Calls Tryz.prog 14 #[.int .i64 a, .int .i64 d] w (GivesAgg w (mkR a d)) := by
  have V := hid (small_val ha hd)
  have OA := hid (enc_ok a ⟨by omega, by omega⟩)
  have OD := hid (enc_ok d ⟨by omega, by omega⟩)
  have ND := hid (show (encI d).mag ≠ [] by intro e; have := (small_val ha hd).2; rw [e] at this; simp [val] at this; omega)
  have IA := hid (show I64 a from ⟨by omega, by omega⟩)
  have ID := hid (show I64 d from ⟨by omega, by omega⟩)
  clear ha ha2 hd hd2
  go_enter Tryz.func14, Tryz.ntmps14
  go_wp2_with fail
  refine (spec_BigIntOf a _ IA.out).mono ?_
  rintro _ w1 ⟨v1, t1, rfl, ha1, ho1, hb1⟩
  have HA1 := hid ha1
  clear ha1 ho1
  obtain ⟨hc_w1, hf_w1⟩ := bcell hb1
  have hz0_w1 : w.heap.size < w1.heap.size := by have := hb1.size; (try simp at this); omega
  go_wp2_with fail
  refine (spec_BigIntOf d _ ID.out).mono ?_
  rintro _ w2 ⟨v2, t2, rfl, ha2, ho2, hb2⟩
  have HA2 := hid ha2
  clear ha2 ho2
  obtain ⟨hc_w2, hf_w2⟩ := bcell hb2
  have hz0_w2 : w.heap.size < w2.heap.size := by have := hb2.size; (try simp at this); omega
  go_wp2_with fail
  have C := spec_RatMake v1 v2 (encI a) (encI d) t1 t2 w2 (HA1.out.below hb2) HA2.out OA.out OD.out ND.out
  rw [V.out.1, V.out.2] at C
  refine (C).mono ?_
  rintro _ wb ⟨vb, sb, rfl, hab, hob, hb⟩
  obtain ⟨D1, nD1, cD1, d1, D2, nD2, cD2, d2, rfl, hzb, _, _⟩ := TRat.agg hab
  have HA := hid hab; have HO := hid hob
  clear hab hob hzb
  obtain ⟨hc_wb, hf_wb⟩ := bcell hb
  have hz0_wb : w.heap.size < wb.heap.size := by have := hb.size; (try simp at this); omega
  go_wp2
  refine bodyPost_ret (v := .agg #[.bool (mkR a d).num.neg, .slice D1 nD1 cD1, .slice D2 nD2 cD2]) (by simp [results, Tryz.results14, go_sem, *]) rfl ?_
  refine agg_fin (lo := w.heap.size + 1) HA.out HO.out.free (fun b hb => by have := (HO.out.2 b hb).1; (try simp at this); omega) (by omega) ?_ ?_
  · (repeat (first | (with_reducible exact Above.refl _ _) | ((with_reducible refine Above.set ?_ ?_ _); rotate_left; (simp <;> omega)) | (with_reducible refine Above.box ?_ _) | (with_reducible refine Above.below ?_ (by assumption))))
  · (repeat (first | (with_reducible exact Below.refl _ _) | ((with_reducible refine Below.set ?_ ?_ _); rotate_left; (simp <;> omega)) | (with_reducible refine Below.box_ ?_ _) | (with_reducible refine Below.next ?_ (by assumption))))

end Go.Proofs.YtleegelljgnlpaaGreat.X
