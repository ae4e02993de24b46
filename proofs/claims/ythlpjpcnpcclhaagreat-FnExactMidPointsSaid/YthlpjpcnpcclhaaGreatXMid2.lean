/- MidPoints of the program. -/
import Derived.Test.YthlpjpcnpcclhaaGreatXMid1
namespace Go.Proofs.YthlpjpcnpcclhaaGreat.X
open Go.RowKit Go.XB Go.XN
attribute [local go_sem] fillBy opAt deps depOf Region.wanted yielded
attribute [local simp] deps depOf MP.eq MP.agg MP.sl Facts
set_option linter.constructorNameAsVariable false

def mids3 (a b c : TPoint) : List TPoint := [pmid b c, pmid c a, pmid a b]
def midsOf : List TPoint → List TPoint
  | [a, b, c] => if properB [a, b, c] && (mids3 a b c).all ptOkB then mids3 a b c else []
  | _ => []
theorem mids_false {xs : List TPoint} (h : properB xs = false) : midsOf xs = [] := by
  match xs with
  | [] => rfl
  | [_] => rfl
  | [_, _] => rfl
  | [a, b, c] => show (if properB [a, b, c] && _ then _ else _) = _; rw [h]; rfl
  | _ :: _ :: _ :: _ :: _ => rfl
theorem mids_good {a b c : TPoint} (h : properB [a, b, c] = true) (h2 : ((mids3 a b c).take 3).all ptOkB = true) : midsOf [a, b, c] = mids3 a b c := by
  have h3 : (mids3 a b c).all ptOkB = true := h2
  show (if properB [a, b, c] && (mids3 a b c).all ptOkB then _ else _) = _
  rw [h, h3]; rfl
theorem mids_bad {a b c p : TPoint} {k : Nat} (hk : (mids3 a b c)[k]? = some p) (h : ptOkB p = false) : midsOf [a, b, c] = [] := by
  have h3 : (mids3 a b c).all ptOkB = false := by
    rw [List.all_eq_false]; exact ⟨p, List.mem_of_getElem? hk, by simp [h]⟩
  show (if properB [a, b, c] && (mids3 a b c).all ptOkB then _ else _) = _
  rw [h3, Bool.and_false]; rfl
theorem mids_den {a b c p : TPoint} {k : Nat} (hk : (mids3 a b c)[k]? = some p) : (!p.x.den.isEmpty) = ptOkB p := by
  have h := List.mem_of_getElem? hk
  simp only [mids3, List.mem_cons, List.not_mem_nil, or_false] at h
  rcases h with rfl | rfl | rfl <;> exact ifP_den _
theorem proper_three {xs : List TPoint} (h : properB xs = true) : ∃ a b c, xs = [a, b, c] := by
  match xs with
  | [] => cases h
  | [_] => cases h
  | [_, _] => cases h
  | [a, b, c] => exact ⟨a, b, c, rfl⟩
  | _ :: _ :: _ :: _ :: _ => cases h

set_option maxHeartbeats 4000000 in
set_option maxRecDepth 10000 in
theorem impl_MidPoints (A : Option Addr) (n c : Nat) (xs : List TPoint) (bs : List Nat) (w : World) (hx : Sl w A n c xs bs) :
    Calls Tryz.prog 8 #[.slice A n c] w (GivesSl w (midsOf xs)) := by
  have HX := hid hx
  have C0 := hid (impl_IsProper A n c xs bs w hx)
  cases hpr : properB xs
  · have E := hid (mids_false hpr)
    have PR := hid hpr
    clear hpr hx
    go_enter Tryz.func8, Tryz.ntmps8
    go_wp2_with fail
    have C := C0.out
    rw [PR.out] at C
    refine C.mono ?_
    clear C
    rintro _ w1 ⟨rfl, hb1⟩
    go_wp2
    go_ret
    rw [E.out]
    exact ⟨none, 0, 0, [], rfl, Sl.nil _, Own.nil _ _, hb1⟩
  obtain ⟨a1, b1, c1, rfl⟩ := proper_three hpr
  obtain rfl : 3 = n := hx.1
  have HPR := hid hpr
  clear hpr
  clear hx
  go_enter Tryz.func8, Tryz.ntmps8
  go_wp2_with fail
  have C := C0.out
  rw [HPR.out] at C
  refine C.mono ?_
  clear C
  rintro _ w1 ⟨rfl, hb1⟩
  have HB1 := hid hb1
  clear hb1
  go_wp2_with fail
  refine (impl_midPoints A c a1 b1 c1 bs w1 (HX.out.below HB1.out)).mono ?_
  rintro _ w2 ⟨B, m, d, ds, rfl, hs, ho, hb2⟩
  obtain rfl : 3 = m := hs.1
  have HS := hid (show Sl w2 B 3 d (mids3 a1 b1 c1) ds from hs); have HO := hid (ho.older HB1.out.size)
  have HB2 := hid (Below.next HB1.out hb2)
  clear hs ho hb2 C0
  go_wp2_with fail
  go_loopg [13] 3 (fun g s wr => ∃ k : Nat, k + g = 3 ∧ s = .int .i64 k ∧ Hid (((mids3 a1 b1 c1).take k).all ptOkB = true) ∧ Below w2.heap.size w2 wr)
  case atStart => exact ⟨0, rfl, rfl, rfl, Below.refl _ _⟩
  case round =>
    obtain ⟨k, hk, rfl, hall, hb⟩ := hrel
    rcases Nat.lt_or_ge k 3 with hkn | hkn
    · obtain ⟨be, of, x, D1, nD1, cD1, d1, D2, nD2, cD2, d2, D4, nD4, cD4, d4, D5, nD5, cD5, d5, rfl, hbl, hx1, d0, d1_, d2_, d3_, d4_, d5_, hag⟩ := TPoint.elemA (HS.out.below hb) hkn
      have HX1 := hid hx1; have HAG := hid hag
      have hki : (k : Int) < 3 := by omega
      have hki0 : (0 : Int) ≤ k := by omega
      obtain ⟨g, rfl⟩ : ∃ g, gk = g + 1 := ⟨gk - 1, by omega⟩
      have hk' := hid (show k + 1 + g = 3 by omega)
      have hk3 : k + 1 ≤ 3 := hkn
      have HB := hid hb
      clear hx1 hk hkn hag
      go_wp2_with fail
      have C := impl_isRat _ x.x _ (wr.alloc (.cells #[.bool x.x.num.neg, .slice D1 nD1 cD1, .slice D2 nD2 cD2, .bool x.y.num.neg, .slice D4 nD4 cD4, .slice D5 nD5 cD5] 57)) ((pt_x HAG.out).choose_spec.choose_spec.2.1.below (Below.box _))
      rw [mids_den HX1.out] at C
      cases ho : ptOkB x
      · have E := hid (show midsOf [a1, b1, c1] = [] from mids_bad HX1.out ho)
        rw [ho] at C
        refine C.mono ?_
        clear C
        rintro _ w5 ⟨rfl, hb5⟩
        go_wp2
        go_ret
        rw [E.out]
        exact ⟨none, 0, 0, [], rfl, Sl.nil _, Own.nil _ _, Below.next (Below.next HB2.out HB.out) (Below.trans (Below.box _) (hb5.mono (by simp)))⟩
      · have NX := hid (show ((mids3 a1 b1 c1).take (k + 1)).all ptOkB = true by rw [take_step HX1.out, List.all_append, hall.out]; simp [ho])
        rw [ho] at C
        refine C.mono ?_
        clear C
        rintro _ w5 ⟨rfl, hb5⟩
        go_wp2_with fail
        go_roundg g
        case measure => omega
        case rel => exact ⟨k + 1, hk'.out, by go_num, NX.out, Below.next HB.out (Below.trans (Below.box _) (hb5.mono (by simp)))⟩
    · have hke : k = 3 := by omega
      subst hke
      have HB := hid hb
      have E := hid (show midsOf [a1, b1, c1] = mids3 a1 b1 c1 from mids_good HPR.out hall.out)
      clear hk hkn
      go_wp2
      go_ret
      rw [E.out]
      exact ⟨_, 3, d, ds, rfl, HS.out.below HB.out, HO.out.below HB.out, Below.next HB2.out HB.out⟩
end Go.Proofs.YthlpjpcnpcclhaaGreat.X
