/- OrderOf of the reference. -/
import Derived.Test.YthlpjpcnpcclhaaGreatXOrder
import Derived.Maps.AppendAt
namespace Go.Proofs.YthlpjpcnpcclhaaGreat.X
open Go.RowKit Go.XB Go.XN Go.XS
attribute [local go_sem] fillBy opAt deps depOf Region.wanted yielded
attribute [local simp] deps depOf MP.eq MP.agg MP.sl Facts
set_option linter.constructorNameAsVariable false

theorem add0 (g : Nat) (k j : Nat) : (⟨g, k, none⟩ : Addr).add j = ⟨g, k + j, none⟩ := by unfold Addr.add; split <;> simp_all
theorem row_cells_at {w : World} {base g n cap k : Nat} {S1 S2 : List Int} (h : Row w base g n cap (S1 ++ S2)) (hl : S1.length = k) : ∀ j u, (S2.map (.int .i64))[j]? = some u → w.cell? ((⟨g, k, none⟩ : Addr).add j) = some u := by
  intro j u hu
  rw [List.getElem?_map] at hu
  obtain ⟨x, hx, rfl⟩ := Option.map_eq_some_iff.1 hu
  rw [add0]
  exact (row_cell h (j := k + j) (x := x) (by rw [List.getElem?_append_right (by omega), show k + j - S1.length = j by omega]; exact hx)).2.1
theorem row_cells_pre {w : World} {base g n cap : Nat} {S1 S2 : List Int} (h : Row w base g n cap (S1 ++ S2)) : ∀ j u, (S1.map (.int .i64))[j]? = some u → w.cell? ((⟨g, 0, none⟩ : Addr).add j) = some u := by
  intro j u hu
  rw [List.getElem?_map] at hu
  obtain ⟨x, hx, rfl⟩ := Option.map_eq_some_iff.1 hu
  rw [add0, Nat.zero_add]
  exact (row_cell h (j := j) (x := x) (by rw [List.getElem?_append_left (List.getElem?_eq_some_iff.1 hx).1]; exact hx)).2.1
theorem rcmp_key {xs : List TRat} {j k : Nat} {z r : TRat} (hz : xs[j]? = some z) (hr : xs[k]? = some r) (vz : RatV z) (vr : RatV r) : rcmp z r = cmpOf xs k j := by
  unfold rcmp cmpOf keyOf
  rw [ratOkB_iff.2 vz, ratOkB_iff.2 vr]
  simp [List.getD_eq_getElem?_getD, hz, hr]

theorem cut_at {S : List Int} {p q : Int → Prop} {a : Nat} (ha : a ≤ S.length) (h1 : ∀ y, 0 < a → S[a - 1]? = some y → p y) (h2 : ∀ y, S[a]? = some y → q y) : ∃ S1 S2, S = S1 ++ S2 ∧ S1.length = a ∧ (∀ y, 0 < S1.length → S1[S1.length - 1]? = some y → p y) ∧ (∀ y, S2[0]? = some y → q y) := by
  have hl : (S.take a).length = a := by simp; omega
  refine ⟨S.take a, S.drop a, (List.take_append_drop a S).symm, hl, fun y h0 hy => ?_, fun y hy => h2 y (by simpa using hy)⟩
  rw [hl] at h0 hy
  refine h1 y h0 ?_
  rwa [List.getElem?_take_of_lt (by omega)] at hy

set_option maxHeartbeats 4000000 in
set_option maxRecDepth 10000 in
theorem spec_OrderOf (A : Option Addr) (n c : Nat) (xs : List TRat) (bs : List Nat) (w : World) (hx : Sl w A n c xs bs) (hn : n ≤ 1048576) :
    Calls Tryz.prog 40 #[.slice A n c] w (GivesSl w (orderOf xs)) := by
  have HL := hid hx.1
  have HX := hid hx
  obtain ⟨i0, hi, hz0, hz1, hz2⟩ := info_parts infoI
  clear hx
  cases hok : xs.all ratOkB
  · have E := hid (show orderOf xs = [] by unfold orderOf; rw [hok]; rfl)
    have OK := hid hok
    clear hok
    go_enter Tryz.func40, Tryz.ntmps40
    go_wp2_with fail
    have C := spec_l11Valid A n c xs _ (w.alloc (.cells #[] 3)) (HX.out.below (Below.box _))
    rw [OK.out] at C
    refine C.mono ?_
    clear C
    rintro _ w1 ⟨rfl, hb1⟩
    go_wp2
    go_ret
    rw [E.out]
    exact ⟨none, 0, 0, [], rfl, Sl.nil _, Own.nil _ _, by (repeat (first | (with_reducible exact Below.refl _ _) | ((with_reducible refine Below.set ?_ ?_ _); rotate_left; (simp <;> omega)) | (with_reducible refine Below.box_ ?_ _) | (with_reducible refine Below.next ?_ (by assumption))))⟩
  have V := hid (fun x (hm : x ∈ xs) => ratOkB_iff.1 (List.all_eq_true.1 hok x hm))
  have E := hid (show orderOf xs = (iota n).mergeSort (ordLe xs) by unfold orderOf; rw [hok, HL.out]; rfl)
  have OK := hid hok
  have HO := hid (ordLe_ord V.out)
  clear hok
  go_enter Tryz.func40, Tryz.ntmps40
  go_wp2_with fail
  have C := spec_l11Valid A n c xs _ (w.alloc (.cells #[] 3)) (HX.out.below (Below.box _))
  rw [OK.out] at C
  refine C.mono ?_
  clear C
  rintro _ w1 ⟨rfl, hb1⟩
  have R0 := hid (show Row w1 w.heap.size w.heap.size 0 0 [] from ownsRow_below (World.ownsRow_made w #[] 0 (Nat.le_refl _) (Nat.zero_le _) rfl) hb1)
  have B0 := hid (show Below w.heap.size w w1 by (repeat (first | (with_reducible exact Below.refl _ _) | ((with_reducible refine Below.set ?_ ?_ _); rotate_left; (simp <;> omega)) | (with_reducible refine Below.box_ ?_ _) | (with_reducible refine Below.next ?_ (by assumption)))))
  go_wp2_with fail
  go_loopg [3, 14] n (fun g v s wr => ∃ (k gB cap : Nat), k + g = n ∧ s = .int .i64 k ∧ v = .slice (some ⟨gB, 0, none⟩) k cap ∧ Hid (Row wr w.heap.size gB k cap ((iota k).mergeSort (ordLe xs))) ∧ Below w.heap.size w wr)
  case atStart => exact ⟨0, w.heap.size, 0, by omega, rfl, rfl, by show Row _ _ _ _ _ _; simpa [iota] using R0.out, B0.out⟩
  case round =>
    clear R0
    generalize wr = wo at *
    obtain ⟨k, gB, cap, hk, rfl, rfl, hR, hb⟩ := hrel
    have HB := hid hb
    rcases Nat.lt_or_ge k n with hkn | hkn
    · obtain ⟨be, offe, r, E1, q1, p1, E2, q2, p2, fy, rfl, hble, hr1, e0, e1, e2, hagr, hfr⟩ := TRat.elemB HX.out hb hkn
      have HR1 := hid hr1
      have HAR := hid hagr
      have hki : (k : Int) < n := by omega
      obtain ⟨g, rfl⟩ : ∃ g, gk = g + 1 := ⟨gk - 1, by omega⟩
      have hk' := hid (show k + 1 + g = n by omega)
      have hkn2 : k ≤ 1048576 := by omega
      have HKN := hid hkn
      have VR := hid (V.out r (List.mem_of_getElem? hr1))
      have hle : be < wo.heap.size := by have := hb.size; omega
      clear hr1 hk hkn hagr hfr
      go_upto_block 2 with fail
      go_cut [6] (fun s6 wx => (∃ (at_ : Nat) (S1 S2 : List Int), s6 = .int .i64 at_ ∧ Hid ((iota k).mergeSort (ordLe xs) = S1 ++ S2 ∧ S1.length = at_ ∧ at_ ≤ k ∧ (∀ y, 0 < S1.length → S1[S1.length - 1]? = some y → ordLe xs y k = true) ∧ (∀ y, S2[0]? = some y → ordLe xs k y = true))) ∧ Hid (Below wo.heap.size wo wx))
      case first =>
        go_wp2_with fail
        go_loopg [6] k (fun g2 s wr2 => ∃ at_ : Nat, at_ + g2 = k ∧ s = .int .i64 at_ ∧ Hid (∀ y, 0 < at_ → ((iota k).mergeSort (ordLe xs))[at_ - 1]? = some y → ordLe xs y k = true) ∧ Hid (Below (wo.heap.size + 1) (wo.alloc (.cells #[.bool r.num.neg, .slice E1 q1 p1, .slice E2 q2 p2] 43)) wr2))
        case atStart => exact ⟨0, by omega, rfl, fun y h => absurd h (Nat.lt_irrefl _), by show Below _ _ _; exact Below.refl _ _⟩
        case round =>
          obtain ⟨at_, hat, rfl, hq, hb2⟩ := hrel
          have B1 := hid (show Below wo.heap.size wo wr from Below.trans (Below.box _) (hb2.out.mono (by omega)))
          have BW := hid (show Below w.heap.size w wr from hb.trans (B1.out.mono hb.size))
          have RS := hid (hR.out.below B1.out)
          rcases Nat.lt_or_ge at_ k with hlt | hge
          · have hlt' : (at_ : Int) < k := by omega
            obtain ⟨gh, rfl⟩ : ∃ g', gk = g' + 1 := ⟨gk - 1, by omega⟩
            have hg' := hid (show at_ + 1 + gh = k by omega)
            have hrl := row_len RS.out
            obtain ⟨ji, hji⟩ : ∃ ji, ((iota k).mergeSort (ordLe xs))[at_]? = some ji := ⟨_, List.getElem?_eq_getElem (by omega)⟩
            obtain ⟨hgl, c1, f1⟩ := row_cell RS.out hji
            have hjm := iota_mem ((List.mergeSort_perm (iota k) (ordLe xs)).subset (List.mem_of_getElem? hji))
            obtain ⟨j, rfl⟩ : ∃ j : Nat, ji = j := ⟨ji.toNat, by omega⟩
            have hjk : j < k := by omega
            obtain ⟨be', offe', z, D1, u1, o1, D2, u2, o2, fz, hae, hble', hz1, d0, d1, d2, hagz, _⟩ := TRat.elemB HX.out BW.out (k := j) (by have := HKN.out; omega)
            injection hae with hae; injection hae with hae1 hae2 _
            subst hae1; subst hae2
            have hjn : (j : Int) < n := by have := HKN.out; omega
            have HZ := hid hagz
            have HRW := hid (HAR.out.below B1.out)
            have VZ := hid (V.out z (List.mem_of_getElem? hz1))
            have HE := hid (rcmp_key hz1 HR1.out VZ.out VR.out)
            have b0 : wr.cell? ⟨wo.heap.size, 0, none⟩ = some (.bool r.num.neg) := (hb2.out.cell (p := ⟨wo.heap.size, 0, none⟩) (Nat.lt_succ_self _)).trans (by go_simp)
            have b1 : wr.cell? ⟨wo.heap.size, 1, none⟩ = some (.slice E1 q1 p1) := (hb2.out.cell (p := ⟨wo.heap.size, 1, none⟩) (Nat.lt_succ_self _)).trans (by go_simp)
            have b2 : wr.cell? ⟨wo.heap.size, 2, none⟩ = some (.slice E2 q2 p2) := (hb2.out.cell (p := ⟨wo.heap.size, 2, none⟩) (Nat.lt_succ_self _)).trans (by go_simp)
            have HJI := hid hji
            have hkk2 := HKN.out
            have hbl2 : be < wr.heap.size := by have := BW.out.size; omega
            have hbl3 : wo.heap.size < wr.heap.size := by have := hb2.out.size; simp at this; omega
            have hsz : wo.heap.size + 1 ≤ wr.heap.size := by have := hb2.out.size; simpa using this
            have QE := hid (show 0 ≤ cmpOf xs k j → ∀ y, 0 < at_ + 1 → ((iota k).mergeSort (ordLe xs))[at_ + 1 - 1]? = some y → ordLe xs y k = true from fun h y _ hy => by
              rw [Nat.add_sub_cancel, HJI.out] at hy; cases hy; exact cmpOf_more (by omega) (by omega))
            have QX := hid (show cmpOf xs k j < 0 → ∃ S1 S2, (iota k).mergeSort (ordLe xs) = S1 ++ S2 ∧ S1.length = at_ ∧ (∀ y, 0 < S1.length → S1[S1.length - 1]? = some y → ordLe xs y k = true) ∧ (∀ y, S2[0]? = some y → ordLe xs k y = true) from fun h => cut_at (by omega) hq.out (fun y hy => by
              rw [HJI.out] at hy; cases hy; exact cmpOf_less V.out h))
            have HAK := hid (show at_ ≤ k by omega)
            clear hat hlt hji hjm hjk hagz hz1 hrl hb hkn2
            by_cases hl : cmpOf xs k j < 0
            · have hd0 : decide (0 ≤ cmpOf xs k j) = false := by simp; omega
              have hd1 : decide (cmpOf xs k j ≥ 0) = false := by simp; omega
              obtain ⟨S1, S2, hS⟩ := QX.out hl
              have HS := hid hS
              clear hl hS
              go_wp2_with fail
              refine wp_region_walk (by kernel_rfl) (by kernel_rfl) (by kernel_rfl) ?_
              iterate 13
                apply walkM_eq
                case h =>
                  intro yq zq wq hC hd
                  obtain ⟨hcq, hfq⟩ := bcell hC
                  simp at hd
                  refine ⟨by go_simp; done, ?_⟩
                  go_simp
                  first | (go_ints; exact rfl) | (go_ints; rw [if_pos (by omega)]; try exact rfl) | exact rfl | (rw [if_pos (by omega)]; try exact rfl)
              refine walkM_call (MP.eq (.int .i64 (cmpOf xs k j))) ?_ ?_
              · intro yq zq wq hC hd
                obtain ⟨hcq, hfq⟩ := bcell hC
                simp at hd
                refine ⟨by go_simp; done, ?_⟩
                apply Exists.intro
                apply Exists.intro
                constructor
                · go_simp
                  exact ⟨rfl, rfl⟩
                · exact gives_eq (by have C := spec_RatCmp _ _ z r _ _ wq (HZ.out.below hC) (HRW.out.below hC); rwa [HE.out] at C)
              iterate 2
                apply walkM_eq
                case h =>
                  intro yq zq wq hC hd
                  obtain ⟨hcq, hfq⟩ := bcell hC
                  simp at hd
                  refine ⟨by go_simp; done, ?_⟩
                  go_simp
                  first | (go_ints; exact rfl) | (go_ints; rw [if_pos (by omega)]; try exact rfl) | exact rfl | (rw [if_pos (by omega)]; try exact rfl)
              intro yq zq wz hC hd hdis0
              have hdis := hid hdis0
              clear hdis0
              simp at hd
              go_simp
              clear hd hdis
              go_wp2
              go_meet
              exact ⟨⟨at_, S1, S2, rfl, HS.out.1, HS.out.2.1, HAK.out, HS.out.2.2⟩, B1.out.trans (hC.mono B1.out.size)⟩
            · have hd0 : decide (0 ≤ cmpOf xs k j) = true := by simp; omega
              have hd1 : decide (cmpOf xs k j ≥ 0) = true := by simp; omega
              have QN := hid (QE.out (by omega))
              clear hl
              go_wp2_with fail
              refine wp_region_walk (by kernel_rfl) (by kernel_rfl) (by kernel_rfl) ?_
              iterate 13
                apply walkM_eq
                case h =>
                  intro yq zq wq hC hd
                  obtain ⟨hcq, hfq⟩ := bcell hC
                  simp at hd
                  refine ⟨by go_simp; done, ?_⟩
                  go_simp
                  first | (go_ints; exact rfl) | (go_ints; rw [if_pos (by omega)]; try exact rfl) | exact rfl | (rw [if_pos (by omega)]; try exact rfl)
              refine walkM_call (MP.eq (.int .i64 (cmpOf xs k j))) ?_ ?_
              · intro yq zq wq hC hd
                obtain ⟨hcq, hfq⟩ := bcell hC
                simp at hd
                refine ⟨by go_simp; done, ?_⟩
                apply Exists.intro
                apply Exists.intro
                constructor
                · go_simp
                  exact ⟨rfl, rfl⟩
                · exact gives_eq (by have C := spec_RatCmp _ _ z r _ _ wq (HZ.out.below hC) (HRW.out.below hC); rwa [HE.out] at C)
              iterate 2
                apply walkM_eq
                case h =>
                  intro yq zq wq hC hd
                  obtain ⟨hcq, hfq⟩ := bcell hC
                  simp at hd
                  refine ⟨by go_simp; done, ?_⟩
                  go_simp
                  first | (go_ints; exact rfl) | (go_ints; rw [if_pos (by omega)]; try exact rfl) | exact rfl | (rw [if_pos (by omega)]; try exact rfl)
              intro yq zq wz hC hd hdis0
              have hdis := hid hdis0
              clear hdis0
              simp at hd
              go_simp
              clear hd hdis
              go_wp2
              go_roundg gh
              case measure => omega
              case rel => exact ⟨at_ + 1, hg'.out, by go_num, QN.out, hb2.out.trans (hC.mono hsz)⟩
          · have hek : at_ = k := by omega
            subst hek
            have hge' : ¬ ((at_ : Int) < (at_ : Int)) := by omega
            obtain ⟨S1, S2, hS⟩ := cut_at (q := fun y => ordLe xs at_ y = true) (by rw [List.length_mergeSort, iota_len]; exact Nat.le_refl _) hq.out (fun y hy => by rw [List.getElem?_eq_none (by rw [List.length_mergeSort, iota_len]; exact Nat.le_refl _)] at hy; cases hy)
            have HS := hid hS
            clear hat hge hS hb
            go_wp2_with fail
            refine wp_region_walk (by kernel_rfl) (by kernel_rfl) (by kernel_rfl) ?_
            iterate 5
              apply walkM_eq
              case h =>
                intro yq zq wq hC hd
                obtain ⟨hcq, hfq⟩ := bcell hC
                simp at hd
                refine ⟨by go_simp; done, ?_⟩
                go_simp
                first | (go_ints; exact rfl) | (go_ints; rw [if_pos (by omega)]; try exact rfl) | exact rfl | (rw [if_pos (by omega)]; try exact rfl)
            iterate 10
              apply walkM_skip
              case h =>
                intro yq zq wq hC hd
                simp at hd
                go_simp
                done
            apply walkM_eq
            case h =>
              intro yq zq wq hC hd
              obtain ⟨hcq, hfq⟩ := bcell hC
              simp at hd
              refine ⟨by go_simp; done, ?_⟩
              go_simp
              first | (go_ints; exact rfl) | (go_ints; rw [if_pos (by omega)]; try exact rfl) | exact rfl | (rw [if_pos (by omega)]; try exact rfl)
            intro yq zq wz hC hd hdis0
            have hdis := hid hdis0
            clear hdis0
            simp at hd
            go_simp
            clear hd hdis
            go_wp2
            go_meet
            exact ⟨⟨at_, S1, S2, rfl, HS.out.1, HS.out.2.1, Nat.le_refl _, HS.out.2.2⟩, B1.out.trans (hC.mono B1.out.size)⟩
      case rest =>
        obtain ⟨⟨at_, S1, S2, rfl, hS⟩, hbs⟩ := hcut
        generalize wc = ws at *
        have RS := hid (show Row ws w.heap.size gB k cap (S1 ++ S2) by have := hR.out.below hbs.out; rwa [hS.out.1] at this)
        have BS := hid (hb.trans (hbs.out.mono hb.size))
        have hrl := row_len RS.out
        rw [List.length_append] at hrl
        have hkc : k ≤ cap := by
          rcases row_cases RS.out with ⟨h, _⟩ | ⟨g2, cap2, h, _, _, h3, _⟩
          · cases h
          · injection h with h _ h2; omega
        have ha1 := hS.out.2.1; have ha2 := hS.out.2.2.1
        have hac : (at_ : Int) ≤ cap := by omega
        have hak : (at_ : Int) ≤ k := by omega
        have LS1 := hid ha1
        have LS2 := hid (show S2.length = k - at_ by omega)
        have C3 := hid (show 0 + at_ ≤ maxLen by unfold maxLen; omega)
        have C4 := hid (show (0 + at_) * 8 ≤ 140737488355328 by omega)
        have C5 := hid (show at_ + 1 ≤ maxLen by unfold maxLen; omega)
        have C6 := hid (show (at_ + 1) * 8 ≤ 140737488355328 by omega)
        have C7 := hid (show at_ + 1 + (k - at_) ≤ maxLen by unfold maxLen; omega)
        have C8 := hid (show (at_ + 1 + (k - at_)) * 8 ≤ 140737488355328 by omega)
        have INS := hid (show (iota (k + 1)).mergeSort (ordLe xs) = S1 ++ (k : Int) :: S2 by rw [iota_succ]; exact insert_out HO.out hS.out.1 hS.out.2.2.2.1 hS.out.2.2.2.2)
        have BSZ := hid BS.out.size
        clear hrl ha1 ha2 hkc hb hkn2
        go_upto_region 11 with (at_builtin; (refine wpList_append_own _ rfl _ _ 31 rfl ws.heap.size 3 i0 (.int .i64 0) 1 8 Tryz.underlying31 hi hz0 hz1 hz2 rfl (by decide) _ 0 [] rfl (World.ownsRow_made ws #[] 0 (Nat.le_refl _) (Nat.zero_le _) rfl) ⟨gB, 0, none⟩ at_ cap (S1.map (.int .i64)) rfl (by rw [List.length_map, LS1.out, Nat.mul_one]) (row_cells_pre (RS.out.below (Below.box _))) (one_ints S1) C3.out C4.out (le_alloc (Nat.le_refl _) _) ?_); intro v3 w3 hown3 hgrow3 hnil3)
        have B3 := hid (show Below ws.heap.size ws w3 from ((Below.refl _ ws).alloc (Nat.le_refl _) _).grown hgrow3 (le_alloc (Nat.le_refl _) _) (own_base (World.ownsRow_made (e := 3) (size := 1) ws #[] 0 (Nat.le_refl _) (Nat.zero_le _) rfl)))
        have R3 : w3.ownsRow ws.heap.size 3 1 v3 at_ (S1.map (.int .i64)) := by have h := hown3; rw [Nat.zero_add] at h; exact h
        rcases row_cases R3 with ⟨e, _⟩ | ⟨g3, c3, rfl, _⟩
        · have := (hnil3.1 e).1; cases this
        have RA3 := hid (show (w3.alloc (.cells #[.int .i64 k] 3)).ownsRow ws.heap.size 3 1 (.slice (some ⟨g3, 0, none⟩) at_ c3) at_ (S1.map (.int .i64)) from ownsRow_below R3 (Below.box _))
        have OB3 := hid (own_base R3)
        have S3 := hid B3.out.size
        clear hown3 hgrow3 hnil3 R3
        go_upto_region 12 with (at_builtin; (refine wpList_append_own _ rfl _ _ 31 rfl ws.heap.size 3 i0 (.int .i64 0) 1 8 Tryz.underlying31 hi hz0 hz1 hz2 rfl (by decide) _ at_ (S1.map (.int .i64)) rfl RA3.out ⟨w3.heap.size, 0, none⟩ 1 1 [.int .i64 k] rfl rfl (cell_one_new w3 _ _) (one_ints [(k : Int)]) C5.out C6.out (le_alloc S3.out _) ?_); intro v5 w5 hown5 hgrow5 hnil5)
        have B5 := hid (show Below ws.heap.size ws w5 from (B3.out.alloc S3.out _).grown hgrow5 (le_alloc S3.out _) OB3.out)
        have R5 : w5.ownsRow ws.heap.size 3 1 v5 (at_ + 1) ((S1 ++ [(k : Int)]).map (.int .i64)) := by rw [List.map_append]; exact hown5
        rcases row_cases R5 with ⟨_, h0⟩ | ⟨g5, c5, rfl, _⟩
        · exfalso; omega
        have R5' := hid R5
        have OB5 := hid (own_base R5)
        have S5 := hid B5.out.size
        clear hown5 hgrow5 hnil5 R5
        by_cases hca : cap = at_
        · obtain rfl : at_ = cap := hca.symm
          have hz : S2.length = 0 := by have := LS2.out; have h2 := row_cases RS.out; rcases h2 with ⟨h, _⟩ | ⟨g2, cap2, h, _, _, h3, _⟩; (cases h); injection h with h _ h2; omega
          have CE := hid (fun (j : Nat) (u : Value) (hu : (S2.map (Value.int .i64))[j]? = some u) => (show w5.cell? ((⟨gB, 0, none⟩ : Addr).add j) = some u by rw [List.eq_nil_of_length_eq_zero hz] at hu; simp at hu))
          clear hz hca
          go_wp2_with (at_builtin; (refine wpList_append_own _ rfl _ _ 31 rfl ws.heap.size 3 i0 (.int .i64 0) 1 8 Tryz.underlying31 hi hz0 hz1 hz2 rfl (by decide) _ (at_ + 1) ((S1 ++ [(k : Int)]).map (.int .i64)) rfl R5'.out ⟨gB, 0, none⟩ (k - at_) _ (S2.map (.int .i64)) rfl (by rw [List.length_map, LS2.out, Nat.mul_one]) CE.out (one_ints S2) C7.out C8.out S5.out ?_); intro v7 w7 hown7 hgrow7 hnil7)
          have B7 := hid (show Below ws.heap.size ws w7 from B5.out.grown hgrow7 S5.out OB5.out)
          have R7 : w7.ownsRow ws.heap.size 3 1 v7 (k + 1) ((S1 ++ (k : Int) :: S2).map (.int .i64)) := by have h := hown7; rw [show at_ + 1 + (k - at_) = k + 1 by omega, ← List.map_append] at h; simpa using h
          rcases row_cases R7 with ⟨_, h0⟩ | ⟨g7, c7, rfl, _⟩
          · exfalso; omega
          have RF := hid (show Row w7 w.heap.size g7 (k + 1) c7 ((iota (k + 1)).mergeSort (ordLe xs)) by rw [INS.out]; exact ownsRow_base R7 BSZ.out)
          have BF := hid (BS.out.trans (B7.out.mono BSZ.out))
          clear hown7 hgrow7 hnil7 R7
          go_wp2_with fail
          go_roundg g
          case measure => omega
          case rel => exact ⟨k + 1, g7, c7, hk'.out, by go_num, rfl, RF.out, BF.out⟩
        · have hca' : ¬ at_ = cap := fun e => hca e.symm
          go_wp2_with (at_builtin; (refine wpList_append_own _ rfl _ _ 31 rfl ws.heap.size 3 i0 (.int .i64 0) 1 8 Tryz.underlying31 hi hz0 hz1 hz2 rfl (by decide) _ (at_ + 1) ((S1 ++ [(k : Int)]).map (.int .i64)) rfl R5'.out ⟨gB, at_, none⟩ (k - at_) (cap - at_) (S2.map (.int .i64)) rfl (by rw [List.length_map, LS2.out, Nat.mul_one]) (row_cells_at (RS.out.below B5.out) LS1.out) (one_ints S2) C7.out C8.out S5.out ?_); intro v7 w7 hown7 hgrow7 hnil7)
          have B7 := hid (show Below ws.heap.size ws w7 from B5.out.grown hgrow7 S5.out OB5.out)
          have R7 : w7.ownsRow ws.heap.size 3 1 v7 (k + 1) ((S1 ++ (k : Int) :: S2).map (.int .i64)) := by have h := hown7; rw [show at_ + 1 + (k - at_) = k + 1 by omega, ← List.map_append] at h; simpa using h
          rcases row_cases R7 with ⟨_, h0⟩ | ⟨g7, c7, rfl, _⟩
          · exfalso; omega
          have RF := hid (show Row w7 w.heap.size g7 (k + 1) c7 ((iota (k + 1)).mergeSort (ordLe xs)) by rw [INS.out]; exact ownsRow_base R7 BSZ.out)
          have BF := hid (BS.out.trans (B7.out.mono BSZ.out))
          clear hown7 hgrow7 hnil7 R7
          go_wp2_with fail
          go_roundg g
          case measure => omega
          case rel => exact ⟨k + 1, g7, c7, hk'.out, by go_num, rfl, RF.out, BF.out⟩
    · have hnk : ¬ ((k : Int) < n) := by omega
      have hke : k = n := by omega
      subst hke
      have RR := hid hR.out; have BB := hid hb
      clear hk hkn
      go_wp2
      go_ret
      rw [E.out]
      refine gives_row RR.out (by rw [List.length_mergeSort, iota_len]) (fun x hx => ?_) BB.out
      have := iota_mem (List.mem_mergeSort.1 hx)
      unfold I64; omega
end Go.Proofs.YthlpjpcnpcclhaaGreat.X
