/- Texts of numbers: PadZeros, FormatNat of the reference. -/
import Derived.Test.YthlpjpcnpcclhaaDoorXTxL
import Derived.Test.YthlpjpcnpcclhaaDoorP8
namespace Go.Proofs.YthlpjpcnpcclhaaDoor.X
open Go.RowKit Go.XB Go.XN
attribute [local go_sem] fillBy opAt deps depOf Region.wanted yielded str_app str_app_nil
attribute [local simp] deps depOf MP.eq MP.agg MP.sl Facts
set_option linter.constructorNameAsVariable false

set_option maxHeartbeats 1000000 in
theorem spec_PadZeros (s : List UInt8) (h9 : s.length ≤ 9) (w : World) :
    Calls Tryd.prog 47 #[.string ⟨s.toArray⟩, .int .i64 9] w (Gives w (.string ⟨(pad9 s).toArray⟩)) := by
  go_enter Tryd.func47, Tryd.ntmps47
  go_wp2_with fail
  go_loopg [0] (9 - s.length) (fun g s0 wr => ∃ t : List UInt8, s0 = .string ⟨t.toArray⟩ ∧ t.length ≤ 9 ∧ Hid (t.length + g = 9) ∧ Hid (t = List.replicate (t.length - s.length) 48 ++ s) ∧ Below w.heap.size w wr)
  case atStart =>
    refine ⟨s, rfl, h9, ?_, ?_, Below.refl _ _⟩
    · show _ = _; omega
    · show _ = _; simp
  case round =>
    obtain ⟨t, rfl, hl, hg, ht, hb⟩ := hrel
    by_cases hl9 : (t.length : Int) < 9
    · go_wp2_with fail
      go_roundg (gk - 1)
      case measure => have := hg.out; omega
      case rel =>
        refine ⟨48 :: t, rfl, by simp; omega, ?_, ?_, hb⟩
        · show _ = _; have := hg.out; simp; omega
        · show _ = _
          have hs : s.length ≤ t.length := by have := congrArg List.length ht.out; simp at this; omega
          rw [List.length_cons, show t.length + 1 - s.length = t.length - s.length + 1 by omega, List.replicate_succ, List.cons_append, ← ht.out]
    · go_wp2_with fail
      refine bodyPost_ret (results_tmp rfl _ _ _) rfl ⟨?_, hb⟩
      have h : t = pad9 s := by
        have := ht.out
        rw [show t.length = 9 by omega] at this
        exact this
      rw [h]; rfl
set_option maxHeartbeats 1000000 in
set_option maxRecDepth 10000 in
theorem spec_FormatNat (A : Option Addr) (n c : Nat) (xs : List Int) (bs : List Nat) (w : World) (hx : Sl w A n c xs bs) :
    Calls Tryd.prog 31 #[.slice A n c] w (Gives w (.string ⟨(natTxtB xs).toArray⟩)) := by
  have HL := hid hx.1
  have HX := hid hx
  have hnc := hx.2.1
  have hm : c ≤ maxLen := hx.2.2.1
  unfold maxLen at hm
  clear hx
  cases hok : natOkB xs
  · have E := hid hok
    clear hok
    go_enter Tryd.func31, Tryd.ntmps31
    go_wp2_with fail
    have C := spec_NatOk A n c xs bs w HX.out
    rw [E.out] at C
    refine C.mono ?_
    clear C
    rintro _ w1 ⟨rfl, hb1⟩
    go_wp2
    refine bodyPost_ret (results_tmp rfl _ _ _) rfl ⟨?_, hb1⟩
    unfold natTxtB; rw [E.out]; rfl
  · have E := hid hok
    clear hok
    obtain _ | m := n
    · go_enter Tryd.func31, Tryd.ntmps31
      go_wp2_with fail
      have C := spec_NatOk A 0 c xs bs w HX.out
      rw [E.out] at C
      refine C.mono ?_
      clear C
      rintro _ w1 ⟨rfl, hb1⟩
      go_wp2
      refine bodyPost_ret (results_tmp rfl _ _ _) rfl ⟨?_, hb1⟩
      obtain rfl : xs = [] := List.eq_nil_of_length_eq_zero HL.out
      rfl
    · go_enter Tryd.func31, Tryd.ntmps31
      go_wp2_with fail
      have C := spec_NatOk A (m + 1) c xs bs w HX.out
      rw [E.out] at C
      refine C.mono ?_
      clear C
      rintro _ w1 ⟨rfl, hb1⟩
      have hlim : ∀ (k : Nat) (x : Int), xs[k]? = some x → 0 ≤ x ∧ x < 1000000000 := fun k x h => (natOkB_iff.1 E.out).2.1 x (List.mem_of_getElem? h)
      have hlen : (natTxt xs).length ≤ 540 := natTxt_len E.out
      have HLIM := hid hlim
      have HLEN := hid hlen
      clear hlim hlen
      obtain ⟨b, off, x, rfl, hbl, hxk, _, hcx⟩ := Sl.getInt (Sl.below HX.out hb1) (Nat.lt_succ_self m)
      obtain ⟨y, rfl⟩ := Int.eq_ofNat_of_zero_le (HLIM.out m x hxk).1
      have HY := hid (HLIM.out m y hxk).2
      have HXK := hid hxk
      clear hxk
      have hmi : (m : Int) + 1 ≤ c := by omega
      have hc64 : (c : Int) ≤ 9223372036854775807 := by omega
      clear hnc hm
      have hz : ((m : Int) + 1 == 0) = false := by simp; omega
      go_wp2_with fail
      refine (spec_FormatInt y (by have := HY.out; omega) w1).mono ?_
      rintro _ w2 ⟨rfl, hb2⟩
      have hb' := Below.next hb1 hb2
      have hT := hid (natTxt_last HL.out HXK.out)
      clear hcx
      go_wp2_with fail
      go_loopg [3, 4] m (fun g s3 s4 wr => ∃ t : List UInt8, s3 = .string ⟨t.toArray⟩ ∧ s4 = .int .i64 ((g : Int) - 1) ∧ g ≤ m ∧ Hid (natTxt xs = t ++ (xs.take g).reverse.flatMap limb) ∧ Below w.heap.size w wr)
      case atStart =>
        refine ⟨_, rfl, ?_, Nat.le_refl _, hT, hb'⟩
        congr 1; omega
      case round =>
        obtain ⟨t, rfl, rfl, hg, ht, hb⟩ := hrel
        rcases Nat.eq_zero_or_pos gk with h0 | h0
        · subst h0
          have hneg : ¬ ((0 : Int) ≤ ((0 : Nat) : Int) - 1) := by omega
          go_wp2
          refine bodyPost_ret (results_tmp rfl _ _ _) rfl ⟨?_, hb⟩
          unfold natTxtB
          rw [if_pos E.out, ht.out]
          simp
        · obtain ⟨j, rfl⟩ : ∃ j, gk = j + 1 := ⟨gk - 1, by omega⟩
          have ej : (((j + 1 : Nat) : Int) - 1) = j := by omega
          rw [ej]
          have hj : j < m + 1 := by omega
          obtain ⟨b2, o2, z, hE, hbl2, hzk, _, hcz⟩ := Sl.getInt (Sl.below HX.out hb) hj
          obtain ⟨rfl, rfl⟩ : b = b2 ∧ off = o2 := by cases hE; exact ⟨rfl, rfl⟩
          clear hE
          obtain ⟨z, rfl⟩ := Int.eq_ofNat_of_zero_le (HLIM.out j z hzk).1
          have HZ := hid (HLIM.out j z hzk).2
          have HZK := hid hzk
          have hjn : (j : Int) < (m : Int) + 1 := by omega
          have hlt : t.length ≤ 540 := by have h := congrArg List.length ht.out; simp at h; have := HLEN.out; omega
          clear hzk ej
          go_wp2_with fail
          refine (spec_FormatInt z (by have := HZ.out; omega) wr).mono ?_
          rintro _ w3 ⟨rfl, hb3⟩
          go_wp2_with fail
          refine (spec_PadZeros (Lib.decDigits z) (dec9 (x := (z : Int)) HZ.out) w3).mono ?_
          rintro _ w4 ⟨rfl, hb4⟩
          have hb5 := Below.next (Below.next hb hb3) hb4
          have hpl : (pad9 (Lib.decDigits z)).length = 9 := limb_len (x := (z : Int)) HZ.out
          go_wp2_with fail
          go_roundg j
          case measure => omega
          case rel =>
            refine ⟨_, rfl, rfl, by omega, ?_, hb5⟩
            show _ = _
            rw [ht.out, limbs_step HZK.out]
            simp [limb]
end Go.Proofs.YthlpjpcnpcclhaaDoor.X
