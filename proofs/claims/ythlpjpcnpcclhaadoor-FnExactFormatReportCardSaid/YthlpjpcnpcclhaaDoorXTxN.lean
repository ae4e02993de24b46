/- The program's FormatNat: a range over slices.Backward. -/
import Derived.Test.YthlpjpcnpcclhaaDoorXTxB
import Derived.Test.YthlpjpcnpcclhaaDoorP6
namespace Go.Proofs.YthlpjpcnpcclhaaDoor.X
open Go.RowKit Go.Shelf Go.XB Go.XN
set_option linter.constructorNameAsVariable false
attribute [local go_sem] Oper.semAt_some

set_option maxRecDepth 100000 in
set_option maxHeartbeats 4000000 in
theorem impl_FormatNat (A : Option Addr) (n c : Nat) (xs : List Int) (bs : List Nat) (w : World) (hx : Sl w A n c xs bs) (ht : TabOk w) :
    Calls Tryd.prog 39 #[.slice A n c] w (Gives w (.string ⟨(natTxtB xs).toArray⟩)) := by
  have HL := hid hx.1
  have HX := hid hx
  have HT := hid ht
  have hnc := hx.2.1
  have hm : c ≤ maxLen := hx.2.2.1
  unfold maxLen at hm
  clear hx ht
  cases hok : natOkB xs
  · have E := hid hok
    clear hok
    go_enter Tryd.func39, Tryd.ntmps39
    go_wp2_with fail
    have C := impl_NatOk A n c xs bs w HX.out
    rw [E.out] at C
    refine C.mono ?_
    clear C
    rintro _ w1 ⟨rfl, hb1⟩
    go_wp2
    refine bodyPost_ret (results_tmp rfl _ _ _) rfl ⟨?_, hb1⟩
    unfold natTxtB; rw [E.out]; rfl
  · have E := hid hok
    clear hok
    obtain _ | m := n
    · go_enter Tryd.func39, Tryd.ntmps39
      go_wp2_with fail
      have C := impl_NatOk A 0 c xs bs w HX.out
      rw [E.out] at C
      refine C.mono ?_
      clear C
      rintro _ w1 ⟨rfl, hb1⟩
      go_wp2
      refine bodyPost_ret (results_tmp rfl _ _ _) rfl ⟨?_, hb1⟩
      obtain rfl : xs = [] := List.eq_nil_of_length_eq_zero HL.out
      rfl
    · have hlim : ∀ (k : Nat) (x : Int), xs[k]? = some x → 0 ≤ x ∧ x < 1000000000 := fun k x h => (natOkB_iff.1 E.out).2.1 x (List.mem_of_getElem? h)
      have HLIM := hid hlim
      have hl60 := (natOkB_iff.1 E.out).1
      rw [HL.out] at hl60
      have H60 := hid hl60
      have hmi : (m : Int) + 1 ≤ c := by omega
      have hc64 : (c : Int) ≤ 9223372036854775807 := by omega
      have hz : ((m : Int) + 1 == 0) = false := by simp; omega
      clear hnc hm hlim hl60
      obtain ⟨b, off, x, rfl, hbl, hxk, _, hcx⟩ := Sl.getInt HX.out (Nat.lt_succ_self m)
      obtain ⟨y, rfl⟩ := Int.eq_ofNat_of_zero_le (HLIM.out m x hxk).1
      have HY := hid (HLIM.out m y hxk).2
      have HXK := hid hxk
      clear hxk hcx hbl
      refine (callsIn_wide (n := 3)).1 ?_
      refine callsIn_of_wp_marks Tryd.func39 rfl trivial ?_ rfl
      simp only [Tryd.ntmps39, List.size_toArray, List.length_cons, List.length_nil, Nat.reduceAdd, Nat.reduceSub, Array.replicate_succ, Array.replicate_zero, List.push_toArray, List.append_toArray, List.nil_append, List.cons_append]
      gi_wp2_with fail
      have C := impl_NatOk (some ⟨b, off, none⟩) (m + 1) c xs bs w HX.out
      rw [E.out] at C
      refine ⟨trivial, (callsIn_wide.2 C).mono ?_⟩
      clear C
      rintro _ w1 ⟨rfl, hb1⟩
      have hB1 := Below.box_ hb1 (.cells #[.pointer none, .slice none 0 0] 83)
      have hbld := Bld.fresh w1
      obtain ⟨b2, o2, z, hE, hbl2, hzk, _, hcx⟩ := Sl.getInt (Sl.below HX.out hB1) (Nat.lt_succ_self m)
      obtain ⟨rfl, rfl⟩ : b = b2 ∧ off = o2 := by cases hE; exact ⟨rfl, rfl⟩
      obtain rfl : (y : Int) = z := by have := HXK.out.symm.trans hzk; simpa using this
      have HB1 := hid hB1
      have HBLD := hid hbld
      clear hE hzk hbld hbl2 hB1
      gi_wp2_with fail
      refine ⟨trivial, (callsIn_wide.2 (impl_FormatNatInt y (by have := HY.out; omega) _ (HT.out.below HB1.out))).mono ?_⟩
      rintro _ w2 ⟨rfl, hb2⟩
      have hB2 := hid (Below.next HB1.out hb2)
      have hbl2 := hid (HBLD.out.below hb2)
      have hg2 : w1.heap.size < w2.heap.size := by have := hb2.size; simp at this; omega
      clear hb2
      gi_wp2_with fail
      refine ⟨trivial, (callsIn_wide.2 (lib_Write w1.heap.size w1.heap.size [] (Lib.decDigits y) w2 hbl2.out (by have := dec9 (x := (y : Int)) HY.out; simp at this ⊢; omega) (by omega))).mono ?_⟩
      rintro _ w3 ⟨rfl, hbl3, hb3, hk3⟩
      rw [List.nil_append] at hbl3
      have hB3 := hid (hB2.out.trans (hb3.mono hb1.size))
      have hg3 : w1.heap.size < w3.heap.size := by have := hb3.size; omega
      have HBL3 := hid hbl3
      clear hb3 hk3 hbl3
      gi_wp2_with fail
      refine ⟨trivial, (back_in Fence.wide 2 trivial rfl _ _ _ _).mono ?_⟩
      rintro _ _ ⟨rfl, rfl⟩
      gi_wp2_with fail
      have hbw : b < w.heap.size := by obtain ⟨b3, o3, z3, hE3, h3, _⟩ := Sl.getInt HX.out (Nat.lt_succ_self m); cases hE3; exact h3
      have hall : ∀ j, j < m → (w3.alloc (.cells #[.slice (some ⟨b, off, none⟩) m c] 22)).cell? ⟨b, off + j, none⟩ = some (.int .i64 ((limF xs j).val : Int)) := by
        intro j hj
        obtain ⟨b3, o3, z3, hE3, _, h4, _, h5⟩ := Sl.getInt HX.out (Nat.lt_succ_of_lt hj)
        cases hE3
        rw [limF_val HLIM.out h4]
        exact ((Below.box_ hB3.out _).cell (p := ⟨b, off + j, none⟩) hbw).trans h5
      have hm60 : m ≤ 60 := by have := H60.out; omega
      refine wpIn_rangeFunc_ownG rfl (by omega) (gf := 73) (lb := #[.pointer (some ⟨w3.heap.size, 0, none⟩)]) rfl trivial (enters_of Tryd.func73 (by kernel_rfl) rfl)
        (back_stops Fence.wide 2 trivial rfl (by omega) w3.heap.size w.heap.size b off m c xs (by omega) (w3.alloc (.cells #[.slice (some ⟨b, off, none⟩) m c] 22)) (Below.box_ hB3.out _).size (by simp) hbw (Boxed.new w3 _ _).cell hall)
        (fun h k => h.trans k) (KpB.book (Below.box_ hB3.out _).size) (Below.refl _ _) (fun _ => rfl)
        (fun pre W => (Bld w1.heap.size w1.heap.size (Lib.decDigits y ++ pre.flatMap (fun p => limb (p.2.val : Int))) W ∧ Boxed W w3.heap.size 22 (.slice (some ⟨b, off, none⟩) m c)) ∧ Below w.heap.size w W)
        (fun _ _ _ => False)
        (OwnFrom.and (Own.from (fun s X Y row hs hg hr => ⟨hs.1.own hg hr, boxed_own w3.heap.size 22 (fun _ => .slice (some ⟨b, off, none⟩) m c) s X Y row hs.2 hg hr⟩) _) (ownFrom_below (Nat.le_refl _) (Below.box_ hB3.out _).size))
        (fun _ _ _ _ _ hs _ _ => hs)
        ⟨⟨by rw [List.flatMap_nil, List.append_nil]; exact HBL3.out.below (Below.box _), Boxed.new w3 _ _⟩, Below.box_ hB3.out _⟩
        (fun x => { tmps := #[.slice (some ⟨b, off, none⟩) (m + 1) c, undef, .string ⟨#[]⟩, .pointer (some ⟨w1.heap.size, 0, none⟩), .int .i64 m, undef, .int .i64 (x.2.val : Int), .slice (some ⟨b, off, none⟩) (m + 1) c, .bool true, .bool false,
          .slice (some ⟨b, off, none⟩) (m + 1) c, .int .i64 ((m : Int) + 1), .bool false, .agg #[.pointer none, .slice none 0 0], .slice (some ⟨b, off, none⟩) (m + 1) c, .int .i64 ((m : Int) + 1), .int .i64 m, .slice (some ⟨b, off, none⟩) (m + 1) c, .int .i64 m,
          .pointer (some ⟨b, off + m, none⟩), .int .i64 y, .string ⟨(Lib.decDigits y).toArray⟩, .tuple #[.int .i64 (Lib.decDigits y).length, .nilIface], .slice (some ⟨b, off, none⟩) (m + 1) c, .int .i64 m, .slice (some ⟨b, off, none⟩) m c,
          .func (.func 73) #[] #[.pointer (some ⟨w3.heap.size, 0, none⟩)], .int .i64 (x.1 : Int), .int .i64 (x.2.val : Int), undef, undef, undef, undef, undef], defers := [] }) ?assign ?body ?done ?stop
      case assign =>
        intro l x W K hK
        gi_wp2
        exact hK
      case body =>
        rintro l pre x W ⟨⟨hbl, hbx⟩, hB⟩ hpl
        have HBL := hid hbl; have HBX := hid hbx; have HB := hid hB; have HPL := hid hpl
        clear hbl hbx hB hpl hall
        gi_wp2_with fail
        refine ⟨trivial, (CallsIn.inRound l (callsIn_wide.2 (impl_FormatNatInt x.2.val x.2.isLt W (HT.out.below HB.out)))).mono ?_⟩
        rintro _ Wa ⟨rfl, hba⟩
        have hda : (Lib.decDigits x.2.val).length ≤ 9 := dec_len 8 x.2.isLt
        gi_wp2_with fail
        refine ⟨trivial, (CallsIn.inRound l (callsIn_wide.2 (impl_PadZeros (Lib.decDigits x.2.val) hda Wa))).mono ?_⟩
        rintro _ Wb ⟨rfl, hbb⟩
        have hbab : Below W.heap.size W Wb := Below.next hba hbb
        have HBLb := hid (HBL.out.below hbab)
        have hgb : w3.heap.size < Wb.heap.size := by have := HBX.out.lt; have := hbab.size; omega
        have hlen : (Lib.decDigits y ++ pre.flatMap (fun p => limb (p.2.val : Int))).length + (pad9 (Lib.decDigits x.2.val)).length ≤ 140737488355328 := by
          have h1 := dec9 (x := (y : Int)) HY.out
          have h2 := limbs_len (r := pre.map (fun p => (p.2.val : Int))) (fun z hz => by obtain ⟨p, _, rfl⟩ := List.mem_map.1 hz; have := p.2.isLt; omega)
          rw [List.flatMap_map, List.length_map] at h2
          rw [List.length_append, h2, pad9_len hda]
          have := HPL.out
          simp at h1; omega
        have HLEN := hid hlen
        clear hlen hda hba hbb
        gi_wp2_with fail
        refine ⟨trivial, (CallsIn.inRound l (callsIn_wide.2 (lib_Write w1.heap.size w1.heap.size _ (pad9 (Lib.decDigits x.2.val)) Wb HBLb.out HLEN.out (by omega)))).mono ?_⟩
        rintro _ Wc ⟨rfl, hblc, hbc, hkc⟩
        have hKO : KeepsOthers W Wc := (keeps_below hbab).trans (keeps_write HBLb.out hbc hkc)
        have hBXb : Boxed Wb w3.heap.size 22 (.slice (some ⟨b, off, none⟩) m c) := by show Wb.heap[_]? = _; rw [hbab.block _ HBX.out.lt]; exact HBX.out
        have hBXc : Boxed Wc w3.heap.size 22 (.slice (some ⟨b, off, none⟩) m c) := hkc _ _ hBXb (by intro e; have e := Option.some.inj e; omega) (by rintro c' fz e; cases e)
        have hBc : Below w.heap.size W Wc := (hbab.mono HB.out.size).trans (hbc.mono hb1.size)
        gi_wp2
        refine ⟨hKO.from _, ⟨hBc, fun v hv => ?_⟩, ⟨?_, hBXc⟩, HB.out.trans hBc⟩
        · rw [HBX.out.cell] at hv; cases hv; exact hBXc.cell
        · rw [List.flatMap_append, ← List.append_assoc]
          simpa [limb] using hblc
      case done =>
        rintro D ys W hD rfl ⟨⟨hbl, _⟩, hB⟩ hK
        have hgw : w1.heap.size ≤ W.heap.size := by
          have h : w1.heap.size < W.heap.size := by rcases hbl with h | h <;> exact h.lt
          omega
        have HBL := hid hbl; have HB := hid hB; have HK := hid hK
        clear hbl hB hK
        gi_wp2_with fail
        refine ⟨trivial, (callsIn_wide.2 (lib_String w1.heap.size w1.heap.size _ W HBL.out hgw)).mono ?_⟩
        rintro _ Wd ⟨rfl, hbd, hkd⟩
        have hDg : w1.heap.size < D := by simp at hD; omega
        have hKd : Wd.heap[D]? = some (.deferred (some [])) := hkd _ _ HK.out (by intro e; have e := Option.some.inj e; omega) (by rintro c' fz e; cases e)
        have hBd : Below w.heap.size w Wd := HB.out.trans (hbd.mono hb1.size)
        have hE : Lib.decDigits y ++ (upto xs m m).flatMap (fun p => limb (p.2.val : Int)) = natTxtB xs := by
          unfold natTxtB
          rw [if_pos E.out, natTxt_last HL.out HXK.out, upto_limbs (by rw [HL.out]; omega) HLIM.out]
          simp
        rw [hE]
        gi_wp2
        refine ⟨by simp, .inl ⟨_, _, rfl, run_takeDeferred hKd, ?_⟩⟩
        exact ⟨_, results_tmp rfl _ _ _, rfl, hBd.trans (belowK_b (w := w) (Nat.le_refl _) Wd D _ _ (by have := hb1.size; omega) hKd rfl rfl)⟩
      case stop =>
        rintro D c pre W _ _ h _
        exact h.elim
end Go.Proofs.YthlpjpcnpcclhaaDoor.X
