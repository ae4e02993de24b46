/- The laws' small fractions: MakeParts, MakePart. -/
import Derived.Test.YtleegelljgnlpaaGreatXL02
import Derived.Test.YtleegelljgnlpaaGreatXRatMk
import Derived.Test.YtleegelljgnlpaaGreatXMkPl
import Derived.Test.YtleegelljgnlpaaGreatXPush0
import Derived.Test.YtleegelljgnlpaaGreatXStab2
namespace Go.XB
open Go.RowKit
theorem block_cells {w : World} {g : Nat} {arr : Array Value} {t : TypeId} (h : w.heap[g]? = some (.cells arr t)) : ∀ j u, arr.toList[j]? = some u → w.cell? ((⟨g, 0, none⟩ : Addr).add j) = some u := by
  intro j u hu
  have e : (⟨g, 0, none⟩ : Addr).add j = ⟨g, j, none⟩ := by unfold Addr.add; split <;> simp_all
  rw [e]
  exact (box_cell h (by simpa using hu)).1
end Go.XB
namespace Go.Proofs.YtleegelljgnlpaaGreat.X
open Go.RowKit Go.XB Go.XN Go.XS
attribute [local go_sem] fillBy opAt deps depOf Region.wanted yielded
attribute [local simp] deps depOf MP.eq MP.agg MP.sl Facts
set_option linter.constructorNameAsVariable false

theorem infoRt : (Tryz.prog.info? 29).map (fun i => (i.zero, i.size, i.bytes)) = some (some (.agg #[.bool false, .slice none 0 0, .slice none 0 0]), 3, 56) := by kernel_rfl
theorem push_ownR {w wr wa w8 : World} {gB g' k : Nat} {cells cs : List Value} {fss : List (List Nat)} {ps : List TRat} {pt : TRat} {z : List Nat} (hfil : Filled wr cells ps fss) (hlen : ps.length = k) (hcl : cells.length = k * 3) (how : Own w wr fss.flatten) (hnot : gB ∉ fss.flatten) (hb : Below w.heap.size w wr) (hgB : gB < wr.heap.size) (hbase : w.heap.size ≤ gB)
    (hC : Below wr.heap.size wr wa) (ha : Dat.at_ wa cs pt z) (hf : Free wa z) (hr : ∀ b ∈ z, wr.heap.size ≤ b) (hg : wa.grownBy w8 (some gB)) (hor : g' = gB ∨ g' = wa.heap.size) :
    Filled w8 (cells ++ cs) (ps ++ [pt]) (fss ++ [z]) ∧ Own w w8 (fss ++ [z]).flatten ∧ g' ∉ (fss ++ [z]).flatten ∧ Below w.heap.size w w8 ∧ (ps ++ [pt]).length = k + 1 := by
  have hsz := hC.size
  have hzl : ∀ b ∈ z, b < wa.heap.size := Dat.lt ha
  have hfl : ∀ b ∈ fss.flatten, b < wr.heap.size := how.lt
  have k1 : ∀ b ∈ fss.flatten, w8.heap[b]? = wr.heap[b]? := fun b hb1 => (hg.block b (by have := hfl b hb1; omega) (by intro e; injection e with e; exact hnot (e ▸ hb1))).trans (hC.block b (hfl b hb1))
  have k2 : ∀ b ∈ z, w8.heap[b]? = wa.heap[b]? := fun b hb1 => hg.block b (hzl b hb1) (by intro e; injection e with e; have := hr b hb1; omega)
  have hz : (fss ++ [z]).flatten = fss.flatten ++ z := by simp
  refine ⟨Filled.push (hfil.keep k1) (by rw [hcl, hlen]; rfl) (Dat.keep ha k2), ?_, ?_, ?_, by simp [hlen]⟩
  · rw [hz]
    refine Own.append ⟨how.1, fun b hb1 => ⟨(how.2 b hb1).1, by obtain ⟨cs, t, e⟩ := (how.2 b hb1).2; exact ⟨cs, t, (k1 b hb1).trans e⟩⟩⟩ ⟨hf.1, fun b hb1 => ⟨by have := hr b hb1; have := hb.size; omega, by obtain ⟨cs, t, e⟩ := hf.2 b hb1; exact ⟨cs, t, (k2 b hb1).trans e⟩⟩⟩ ?_
    exact apart_of_lt hfl hr
  · rw [hz]
    intro h
    rcases List.mem_append.1 h with h | h
    · rcases hor with h2 | h2
      · exact hnot (h2 ▸ h)
      · have := hfl _ h; omega
    · rcases hor with h2 | h2
      · have := hr _ h; omega
      · have := hzl _ h; omega
  · exact (Below.next hb hC).grown hg (by have := hb.size; omega) (fun k2 hk2 => by injection hk2 with h; subst h; exact hbase)
theorem push_doneR {w wr : World} {gB k cap : Nat} {cells : List Value} {fss : List (List Nat)} {ps : List TRat} (hown : wr.ownsRow w.heap.size 29 3 (.slice (some ⟨gB, 0, none⟩) k cap) k cells) (hfil : Filled wr cells ps fss) (hlen : ps.length = k) (how : Own w wr fss.flatten) (hnot : gB ∉ fss.flatten) (hb : Below w.heap.size w wr) : GivesSl w ps (.returned (.slice (some ⟨gB, 0, none⟩) k cap)) wr := by
  obtain ⟨A', c', bs', hv, hs, ho⟩ := hfil.sl (α := TRat) hown hlen
  refine ⟨A', k, c', bs', by rw [← hv], hs, own_of_row (n := k) (fss := fss) ?_ how, hb⟩
  rcases ho with ho | ⟨g, h1, h2, h3, h4⟩
  · exact .inl ho
  · refine .inr ⟨g, h2, h3, h4, fun hg => ?_⟩
    have e : gB = g := by simpa [Value.ownBlock] using h1
    exact hnot (e ▸ hg)

theorem Cur.keep {w w' : World} {g : Nat} {A : Option Addr} {n c : Nat} (h : Cur w g A n c) (hk : w'.heap[g]? = w.heap[g]?) : Cur w' g A n c := by
  obtain ⟨i, x, h1, h2, c0, c1, c2, f1, f2⟩ := h
  have cl : ∀ o, w'.cell? ⟨g, o, none⟩ = w.cell? ⟨g, o, none⟩ := fun o => World.cell?_of_block (a := ⟨g, o, none⟩) hk
  have fl : ∀ o, w'.frozen? ⟨g, o, none⟩ = w.frozen? ⟨g, o, none⟩ := fun o => World.frozen?_of_block (a := ⟨g, o, none⟩) hk
  exact ⟨i, x, h1, lt_same h2 hk, (cl _).trans c0, (cl _).trans c1, (cl _).trans c2, (fl _).trans f1, (fl _).trans f2⟩
theorem Cur.below {w w' : World} {g : Nat} {A : Option Addr} {n c : Nat} (h : Cur w g A n c) (hb : Below w.heap.size w w') : Cur w' g A n c := by
  have hl : g < w.heap.size := by obtain ⟨i, x, h1, h2, _⟩ := h; exact h2
  exact h.keep (hb.block g hl)
theorem Cur.lt {w : World} {g : Nat} {A : Option Addr} {n c : Nat} (h : Cur w g A n c) : g < w.heap.size := by obtain ⟨i, x, h1, h2, _⟩ := h; exact h2
/-- the parts made so far -/
def Us (us : List Int) (k : Nat) : Prop := us.length = k ∧ ∀ u ∈ us, 0 ≤ u ∧ u ≤ 10

set_option maxHeartbeats 4000000 in
set_option maxRecDepth 10000 in
theorem spec_MakeParts (A : Option Addr) (n c : Nat) (xs : List TByte) (bs : List Nat) (w : World) (hx : Sl w A n c xs bs) (hn : n ≤ 1048576) :
    Calls Tryz.prog 4 #[.slice A n c] w (fun e w' => ∃ us : List Int, (Small us ∧ 0 < us.length) ∧ GivesSl w (us.map hf) e w') := by
  have HX := hid hx
  have HG := hid (show w.heap.size ∉ bs from fun h => absurd (hx.lt _ h) (Nat.lt_irrefl _))
  obtain ⟨i0, hi, hz0, hz1, hz2⟩ := info_parts infoRt
  clear hx
  go_enter Tryz.func4, Tryz.ntmps4
  go_wp2_with fail
  refine (spec_l01New A n c xs bs w HX.out hn).mono ?_
  rintro _ w1 ⟨rfl, hc, hb1, hl1⟩
  have HC1 := hid hc; have HB1 := hid hb1
  clear hc
  go_wp2_with fail
  refine (spec_l01Below 6 (by decide) (by decide) w.heap.size A n c xs bs (w1.alloc (.cells #[] 29)) ((HX.out.below HB1.out).below (Below.box _)) hn (HC1.out.below (Below.box _)) HG.out).mono ?_
  rintro _ w2 ⟨k0, rfl, hk0, hc2, hg2⟩
  have hsz2 := hg2.size
  simp at hsz2
  have ROW2 := hid (show w2.ownsRow w.heap.size 29 3 (.slice (some ⟨w1.heap.size, 0, none⟩) 0 0) 0 [] from
    World.ownsRow.kept (row := some w.heap.size) (World.ownsRow_made w1 #[] 0 HB1.out.size (Nat.zero_le _) rfl) hg2 (by simp [Value.ownBlock]; omega))
  have HC2 := hid hc2
  have HB2 := hid (show Below w.heap.size w w2 from (Below.box_ HB1.out _).grown hg2 (by simp; omega) (fun k hk => by injection hk with h; subst h; exact Nat.le_refl _))
  have hk1 : (1 + k0).toNat ≤ 6 := by omega
  have hk2 : ((1 + k0).toNat : Int) = 1 + k0 := by omega
  have hk3 : 0 < (1 + k0).toNat := by omega
  clear hc2 hg2 hb1
  go_wp2_with fail
  go_loopg [4, 5] (1 + k0).toNat (fun g v s wr => ∃ (k gB cap : Nat) (cells : List Value) (fss : List (List Nat)) (us : List Int), k + g = (1 + k0).toNat ∧ s = .int .i64 (g : Int) ∧ v = .slice (some ⟨gB, 0, none⟩) k cap ∧ Hid (wr.ownsRow w.heap.size 29 3 (.slice (some ⟨gB, 0, none⟩) k cap) k cells) ∧ Hid (Filled wr cells (us.map hf) fss) ∧ Hid (Us us k) ∧ Hid (Own w wr fss.flatten) ∧ Hid (gB ∉ fss.flatten ∧ w.heap.size < gB ∧ w.heap.size ∉ fss.flatten) ∧ Hid (Cur wr w.heap.size A n c) ∧ Hid (Below w.heap.size w wr))
  case atStart => exact ⟨0, w1.heap.size, 0, [], [], [], by omega, by rw [hk2], rfl, ROW2.out, Filled.nil _ _, ⟨rfl, fun u hu => by simp at hu⟩, Own.nil _ _, ⟨by simp, hl1, by simp⟩, HC2.out, HB2.out⟩
  case round =>
    obtain ⟨k, gB, cap, cells, fss, us, hk, rfl, rfl, hrow, hfil, hus, how, hgB, hcur, hb⟩ := hrel
    rcases Nat.eq_zero_or_pos gk with h0 | h0
    · subst h0
      have hki : ¬ ((0 : Int) < ((0 : Nat) : Int)) := by decide
      have RES := hid (show (Small us ∧ 0 < us.length) from ⟨⟨by have := hus.out.1; omega, fun u hu => (hus.out.2 u hu).1, fun u hu => (hus.out.2 u hu).2⟩, by have := hus.out.1; omega⟩)
      clear hk hk1 hk2 hk3
      go_wp2
      go_ret
      exact ⟨us, RES.out, push_doneR hrow.out hfil.out (by rw [List.length_map]; exact hus.out.1) how.out hgB.out.1 hb.out⟩
    · obtain ⟨g, rfl⟩ : ∃ g, gk = g + 1 := ⟨gk - 1, by omega⟩
      have hki : (0 : Int) < ((g + 1 : Nat) : Int) := by omega
      have hk' := hid (show k + 1 + g = (1 + k0).toNat by omega)
      have hgs : ((g + 1 : Nat) : Int) - 1 = (g : Int) := by omega
      have hg6 : g ≤ 6 := by omega
      have C3 := hid (show k + 1 ≤ maxLen by unfold maxLen; omega)
      have C4 := hid (show (k + 1) * 56 ≤ 140737488355328 by omega)
      clear hk hk1 hk2 hk3
      go_wp2_with fail
      refine (spec_l01Below 6 (by decide) (by decide) w.heap.size A n c xs bs wr (HX.out.below hb.out) hn hcur.out HG.out).mono ?_
      rintro _ w3 ⟨a, rfl, ha, hc3, hg3⟩
      have HC3 := hid hc3
      have HX3 := hid ((HX.out.below hb.out).keep fun b hb1 => hg3.block b ((HX.out.below hb.out).lt b hb1) (by intro e; injection e with e; exact HG.out (e ▸ hb1)))
      clear hc3
      go_wp2_with fail
      refine (spec_l01Below 2 (by decide) (by decide) w.heap.size A n c xs bs w3 HX3.out hn HC3.out HG.out).mono ?_
      rintro _ w4 ⟨d, rfl, hd, hc4, hg4⟩
      have HC4 := hid hc4
      have G4 := hid (show wr.grownBy w4 (some w.heap.size) from hg3.trans hg4)
      obtain ⟨u, hu⟩ : ∃ u, 0 ≤ u ∧ u ≤ 10 ∧ mkR a (1 + d) = hf u := hf_of ha.1 (by omega) (by omega)
      have HU := hid hu
      clear hc4 hg3 hg4 hu
      go_wp2_with fail
      have C := spec_RatOf_small a (1 + d) ha.1 (by omega) (by omega) (by omega) w4
      rw [HU.out.2.2] at C
      refine C.mono ?_
      clear C
      rintro _ w5 ⟨v5, z5, rfl, ha5, ho5, hb5⟩
      obtain ⟨D1, nD1, cD1, d1, D2, nD2, cD2, d2, rfl, hz5, hs1, hs2⟩ := TRat.agg ha5
      have AT := hid (show Dat.at_ (w5.alloc (.cells #[.bool (hf u).num.neg, .slice D1 nD1 cD1, .slice D2 nD2 cD2] 29)) [.bool (hf u).num.neg, .slice D1 nD1 cD1, .slice D2 nD2 cD2] (hf u) z5 by
        rw [hz5]; exact TRat.shut (hs1.below (Below.box _)) (hs2.below (Below.box _)))
      have HF5 := hid (ho5.free.below (Below.box (.cells #[.bool (hf u).num.neg, .slice D1 nD1 cD1, .slice D2 nD2 cD2] 29)))
      have HR5 := hid (show ∀ b ∈ z5, w4.heap.size ≤ b from fun b hb => (ho5.2 b hb).1)
      have hrl : gB < wr.heap.size := (World.ownsRow.lt hrow.out _ rfl).2
      have hfl : ∀ b ∈ fss.flatten, b < wr.heap.size := how.out.lt
      have k4 : ∀ b ∈ fss.flatten, w4.heap[b]? = wr.heap[b]? := fun b hb1 => G4.out.block b (hfl b hb1) (by intro e; injection e with e; exact hgB.out.2.2 (e ▸ hb1))
      have FIL4 := hid (hfil.out.keep k4)
      have OWN4 := hid (show Own w w4 fss.flatten from ⟨how.out.1, fun b hb1 => ⟨(how.out.2 b hb1).1, by obtain ⟨cs, t, e⟩ := (how.out.2 b hb1).2; exact ⟨cs, t, (k4 b hb1).trans e⟩⟩⟩)
      have BW4 := hid (show Below w.heap.size w w4 from hb.out.grown G4.out hb.out.size (fun k hk => by injection hk with h; subst h; exact Nat.le_refl _))
      have ROW4 := hid (World.ownsRow.kept (row := some w.heap.size) hrow.out G4.out (by simp [Value.ownBlock]; have := hgB.out.2.1; omega))
      have BC := hid (show Below w4.heap.size w4 (w5.alloc (.cells #[.bool (hf u).num.neg, .slice D1 nD1 cD1, .slice D2 nD2 cD2] 29)) from hb5.trans ((Below.box _).mono hb5.size))
      have ROWL := hid (ownsRow_below ROW4.out BC.out)
      have CURL := hid (HC4.out.below BC.out)
      have hgr4 : gB < w4.heap.size := by have := G4.out.size; omega
      have hlL := BC.out.size
      have WL := hid (show w.heap.size ≤ (w5.alloc (.cells #[.bool (hf u).num.neg, .slice D1 nD1 cD1, .slice D2 nD2 cD2] 29)).heap.size by have := BW4.out.size; omega)
      clear ha5 ho5 hb5 hz5 hs1 hs2 k4 hfl hrl hlL
      go_wp2_with (at_builtin; refine wpList_push rfl _ _ 23 rfl w.heap.size 29 i0 (.agg #[.bool false, .slice none 0 0, .slice none 0 0]) 3 56 Tryz.underlying23 hi hz0 hz1 hz2 rfl (by decide) gB k cap cells (by first | rfl | (go_simp; done)) ROWL.out ⟨w5.heap.size, 0, none⟩ 1 1 [.bool (hf u).num.neg, .slice D1 nD1 cD1, .slice D2 nD2 cD2] (by first | rfl | (go_simp; done)) rfl (block_cells (heap_alloc_new w5 _)) (Dat.one AT.out) C3.out C4.out WL.out ?_; intro g' cap' w8 hown' hgrow' hor')
      have P := hid (push_ownR (k := k) FIL4.out (by rw [List.length_map]; exact hus.out.1) (by have := hrow.out.1; omega) OWN4.out hgB.out.1 BW4.out hgr4 (Nat.le_of_lt hgB.out.2.1) BC.out AT.out HF5.out HR5.out hgrow' hor')
      have OW := hid hown'
      have CUR8 := hid (CURL.out.keep (hgrow'.block _ CURL.out.lt (by intro e; injection e with e; have := hgB.out.2.1; omega)))
      have GB8 := hid (show w.heap.size < g' by
        have h1 := hgB.out.2.1
        have h2 := WL.out
        have h3 := hcur.out.lt
        have h4 := BC.out.size
        have h5 := G4.out.size
        rcases hor' with h | h
        · rw [h]; exact h1
        · rw [h]; omega)
      have NG := hid (show w.heap.size ∉ (fss ++ [z5]).flatten by
        intro h
        have e : (fss ++ [z5]).flatten = fss.flatten ++ z5 := by simp
        rw [e] at h
        rcases List.mem_append.1 h with h | h
        · exact hgB.out.2.2 h
        · have h1 := HR5.out _ h
          have h2 := HC4.out.lt
          omega)
      have MU := hid (show us.map hf ++ [hf u] = (us ++ [u]).map hf by simp)
      clear hown' hgrow' hor' hgr4
      generalize (cells ++ [.bool (hf u).num.neg, .slice D1 nD1 cD1, .slice D2 nD2 cD2] : List Value) = cells2 at OW P
      go_wp2_with fail
      go_roundg g
      case measure => omega
      case rel => exact ⟨k + 1, g', cap', cells2, fss ++ [z5], us ++ [u], hk'.out, by go_num, rfl, OW.out, (by show Filled _ _ _ _; rw [← MU.out]; exact P.out.1), ⟨by rw [List.length_append, hus.out.1]; rfl, fun x hx => by
        rcases List.mem_append.1 hx with hx | hx
        · exact hus.out.2 x hx
        · simp at hx; subst hx; exact ⟨HU.out.1, HU.out.2.1⟩⟩, P.out.2.1, ⟨P.out.2.2.1, GB8.out, NG.out⟩, CUR8.out, P.out.2.2.2.1⟩

set_option maxHeartbeats 2000000 in
set_option maxRecDepth 10000 in
theorem spec_MakePart (A : Option Addr) (n c : Nat) (xs : List TByte) (bs : List Nat) (w : World) (hx : Sl w A n c xs bs) (hn : n ≤ 1048576) :
    Calls Tryz.prog 5 #[.slice A n c] w (fun e w' => ∃ b : Int, (0 ≤ b ∧ b ≤ 5) ∧ GivesAgg w (mkR b 5) e w') := by
  have HX := hid hx
  have HG := hid (show w.heap.size + 1 ∉ bs from fun h => by have := hx.lt _ h; omega)
  clear hx
  go_enter Tryz.func5, Tryz.ntmps5
  go_wp2_with fail
  refine (spec_l01New A n c xs bs (w.alloc (.cells #[.bool false, .slice none 0 0, .slice none 0 0] 29)) (HX.out.below (Below.box _)) hn).mono ?_
  rintro _ w1 ⟨rfl, hc, hb1, hl1⟩
  have HC1 := hid hc; have HB1 := hid hb1
  simp at hl1
  obtain ⟨hc_w1, hf_w1⟩ := bcell hb1
  have hz0_w1 : w.heap.size < w1.heap.size := by have := hb1.size; (try simp at this); omega
  clear hc
  go_wp2_with fail
  have C := spec_l01Below 6 (by decide) (by decide) (w.heap.size + 1) A n c xs bs w1 ((HX.out.below (Below.box _)).below HB1.out) hn (by have := HC1.out; simpa using this) HG.out
  refine C.mono ?_
  clear C
  rintro _ w2 ⟨k0, rfl, hk0, hc2, hg2⟩
  have hsz2 := hg2.size
  have hzr : w.heap.size ≠ w.heap.size + 1 := by omega
  have r0 : w2.cell? ⟨w.heap.size, 0, none⟩ = some (.bool false) := (World.cell?_of_block (a := ⟨w.heap.size, 0, none⟩) (hg2.block _ hz0_w1 (by simp))).trans (by go_simp)
  have r1 : w2.cell? ⟨w.heap.size, 1, none⟩ = some (.slice none 0 0) := (World.cell?_of_block (a := ⟨w.heap.size, 1, none⟩) (hg2.block _ hz0_w1 (by simp))).trans (by go_simp)
  have r2 : w2.cell? ⟨w.heap.size, 2, none⟩ = some (.slice none 0 0) := (World.cell?_of_block (a := ⟨w.heap.size, 2, none⟩) (hg2.block _ hz0_w1 (by simp))).trans (by go_simp)
  have f0 : w2.frozen? ⟨w.heap.size, 0, none⟩ = false := (World.frozen?_of_block (a := ⟨w.heap.size, 0, none⟩) (hg2.block _ hz0_w1 (by simp))).trans (by go_simp)
  have f1 : w2.frozen? ⟨w.heap.size, 1, none⟩ = false := (World.frozen?_of_block (a := ⟨w.heap.size, 1, none⟩) (hg2.block _ hz0_w1 (by simp))).trans (by go_simp)
  have f2 : w2.frozen? ⟨w.heap.size, 2, none⟩ = false := (World.frozen?_of_block (a := ⟨w.heap.size, 2, none⟩) (hg2.block _ hz0_w1 (by simp))).trans (by go_simp)
  have HB2 := hid (show Below w.heap.size w w2 from (Below.next (Below.box _) HB1.out).grown hg2 (by omega) (fun k hk => by injection hk with h; subst h; simp))
  have hl2 : w.heap.size + 1 < w2.heap.size := by omega
  clear hc2 hg2 hc_w1 hf_w1 hb1
  go_wp2_with fail
  refine (spec_RatOf_small k0 5 hk0.1 (by omega) (by decide) (by decide) w2).mono ?_
  rintro _ w3 ⟨v3, z3, rfl, ha3, ho3, hb3⟩
  obtain ⟨D1, nD1, cD1, d1, D2, nD2, cD2, d2, rfl, hz3, _, _⟩ := TRat.agg ha3
  have HA := hid ha3; have HO := hid ho3
  obtain ⟨hc_w3, hf_w3⟩ := bcell hb3
  have hz0_w3 : w.heap.size < w3.heap.size := by have := hb3.size; omega
  have hl3 := hb3.size
  clear ha3 ho3 hz3
  have hlt : w.heap.size < w2.heap.size := by omega
  go_wp2
  refine bodyPost_ret (v := .agg #[.bool (mkR k0 5).num.neg, .slice D1 nD1 cD1, .slice D2 nD2 cD2]) (by simp [results, Tryz.results5, go_sem, *]) rfl ?_
  refine ⟨k0, ⟨hk0.1, by omega⟩, agg_fin (lo := w.heap.size + 1) HA.out HO.out.free (fun b hb => by have := (HO.out.2 b hb).1; omega) (by omega) ?_ ?_⟩
  · (repeat (first | (with_reducible exact Above.refl _ _) | ((with_reducible refine Above.set ?_ ?_ _); rotate_left; (simp <;> omega)) | (with_reducible refine Above.box ?_ _) | (with_reducible refine Above.below ?_ (by assumption))))
  · exact (((Below.next HB2.out hb3).setCell (p := ⟨w.heap.size, 0, none⟩) (Nat.le_refl _) _).setCell (p := ⟨w.heap.size, 1, none⟩) (Nat.le_refl _) _).setCell (p := ⟨w.heap.size, 2, none⟩) (Nat.le_refl _) _
end Go.Proofs.YtleegelljgnlpaaGreat.X
