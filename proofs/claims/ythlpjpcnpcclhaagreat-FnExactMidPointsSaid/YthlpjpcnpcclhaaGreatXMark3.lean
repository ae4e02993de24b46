/- markRatS with a bound of the count that it gives. -/
import Derived.Test.YthlpjpcnpcclhaaGreatXMark2
namespace Go.Proofs.YthlpjpcnpcclhaaGreat.X
open Go.RowKit Go.XB Go.XN
attribute [local go_sem] fillBy opAt deps depOf Region.wanted yielded
attribute [local simp] deps depOf MP.eq MP.agg MP.sl Facts
set_option linter.constructorNameAsVariable false

set_option maxHeartbeats 2000000 in
theorem laws_markRatS_le (A : Option Addr) (n c : Nat) (xs : List TRat) (bs : List Nat) (k : Int) (w : World) (hx : Sl w A n c xs bs) (hf : Free w bs) (hk0 : 0 ≤ k) (hk1 : k ≤ 1000000) (hsz : cntL TRat.cnt xs ≤ 1048576) :
    Calls Tryz.prog 21 #[.slice A n c, .int .i64 k] w (fun e w' => ∃ r : Int, e = .returned (.int .i64 r) ∧ 0 ≤ r ∧ r ≤ 4000000 ∧ Turns w w' bs) := by
  have HX := hid hx
  have HF := hid hf
  have HL := hid hx.1
  have hn : n ≤ 1048576 := by have := hx.1; unfold cntL at hsz; omega
  have SZ := hid hsz
  clear hx hf hsz
  go_enter Tryz.func21, Tryz.ntmps21
  go_wp2_with fail
  go_loopg [1, 5] n (fun g a s wr => ∃ (i : Nat) (r : Int) (ys : List TRat), i + g = n ∧ s = .int .i64 i ∧ a = .int .i64 r ∧ 0 ≤ r ∧ Hid (r ≤ k + (i + ((xs.take i).map TRat.cnt).sum : Nat)) ∧ Hid (Sl wr A n c ys bs ∧ Free wr bs ∧ Turns w wr bs ∧ ys.map TRat.cnt = xs.map TRat.cnt))
  case atStart => exact ⟨0, k, xs, by omega, rfl, rfl, hk0, by show k ≤ k + _; simp, HX.out, HF.out, Turns.refl _ _, rfl⟩
  case round =>
    obtain ⟨i, r, ys, hi, rfl, rfl, hr0, hr1, hr⟩ := hrel
    rcases Nat.lt_or_ge i n with hin | hin
    · obtain ⟨g, rfl⟩ : ∃ g, gk = g + 1 := ⟨gk - 1, by omega⟩
      have hk' := hid (show i + 1 + g = n by omega)
      have hn0 : 0 < n := by omega
      clear hi
      obtain ⟨b, off, _, rfl, _⟩ := hr.out.1.2.2.2.2 hn0
      obtain ⟨fs, hm, hfn, hbn, hbm, ⟨cs, y, hy, hc, hat⟩, hU⟩ := Sl.turn hr.out.1 hin
      obtain ⟨A1, n1, c1, s1, A2, n2, c2, s2, rfl, rfl, h1, h2⟩ := TRat.open_ hat
      have hnd := hr.out.2.1.1
      have hbn' := hbn hnd
      have HND := hid (hfn hnd)
      have YC := hid (show (xs.map TRat.cnt).set i (n1 + n2) = xs.map TRat.cnt by
        have e : n1 + n2 = y.cnt := by unfold TRat.cnt TBigInt.cnt; rw [h1.1, h2.1]
        have h := congrArg (fun l => l[i]?) hr.out.2.2.2
        simp only [List.getElem?_map, hy, Option.map_some] at h
        rw [e]
        apply List.ext_getElem?
        intro j
        by_cases hj : i = j
        · subst hj
          rw [List.getElem?_map, ← h]
          have hl : i < (xs.map TRat.cnt).length := by rw [List.length_map, HL.out]; exact hin
          exact List.getElem?_set_self hl
        · rw [List.getElem?_set_ne hj])
      have c0 : wr.cell? ⟨b, off + i * 3, none⟩ = some (.bool y.num.neg) := hc 0 _ rfl
      have c1' : wr.cell? ⟨b, off + i * 3 + 1, none⟩ = some (.slice A1 n1 c1) := hc 1 _ rfl
      have c2' : wr.cell? ⟨b, off + i * 3 + 2, none⟩ = some (.slice A2 n2 c2) := hc 2 _ rfl
      have f0 := Free.frozen hr.out.2.1 hbm (off + i * 3)
      have hbe : (i : Int) < n := by omega
      have hyi : (xs[i]?).map TRat.cnt = some y.cnt := by
        have h := congrArg (fun l => l[i]?) hr.out.2.2.2
        simp only [List.getElem?_map, hy, Option.map_some] at h
        exact h.symm
      have hsum := sum_take_bound hyi
      have hall := sum_take_all TRat.cnt xs (i + 1)
      have hlen := HL.out
      have hszz := SZ.out
      unfold cntL at hszz
      have hyc : y.cnt = n1 + n2 := by unfold TRat.cnt TBigInt.cnt; rw [h1.1, h2.1]
      have hr1' := hr1.out
      have hrb : r ≤ 3000000 := by omega
      have hn1 : n1 ≤ 1048576 := by omega
      have hn2 : n2 ≤ 1048576 := by omega
      have hR := hid (show r + 1 + n1 + n2 ≤ k + ((i + 1) + ((xs.take (i + 1)).map TRat.cnt).sum : Nat) by omega)
      have hm1 : ∀ g ∈ s1, g ∈ bs := fun g hg => hm g (List.mem_append_left _ hg)
      have hm2 : ∀ g ∈ s2, g ∈ bs := fun g hg => hm g (List.mem_append_right _ hg)
      have hb1 : b ∉ s1 := fun h => hbn' (List.mem_append_left _ h)
      have hb2 : b ∉ s2 := fun h => hbn' (List.mem_append_right _ h)
      have hnd12 : (s1 ++ s2).Nodup := HND.out
      have hap : ∀ g ∈ s1, g ∉ s2 := fun g h3 h4 => (List.nodup_append.1 hnd12).2.2 g h3 g h4 rfl
      have hap' : ∀ g ∈ s2, g ∉ s1 := fun g h3 h4 => hap g h4 h3
      have hbl : b < wr.heap.size := by
        obtain ⟨c', t', e'⟩ := hr.out.2.1.2 b hbm
        exact lt_of_get e'
      -- the three worlds: the sign is stored, then two slices are marked
      have kp : ∀ (v : Value) (g : Nat), g ≠ b → (wr.setCell ⟨b, off + i * 3, none⟩ v).heap[g]? = wr.heap[g]? := fun v g hg => Below.heap_setCell wr ⟨b, off + i * 3, none⟩ v g hg
      have S1 := hid (fun v : Value => h1.keep fun g hg => kp v g (fun e => hb1 (e ▸ hg)))
      have S2 := hid (fun v : Value => h2.keep fun g hg => kp v g (fun e => hb2 (e ▸ hg)))
      have fr1 : ∀ v : Value, Free (wr.setCell ⟨b, off + i * 3, none⟩ v) s1 := fun v => ⟨(List.nodup_append.1 hnd12).1, fun g hg => ((hr.out.2.1.setCell ⟨b, off + i * 3, none⟩ v).2 g (hm1 g hg))⟩
      have fr2 : ∀ v : Value, Free (wr.setCell ⟨b, off + i * 3, none⟩ v) s2 := fun v => ⟨(List.nodup_append.1 hnd12).2.1, fun g hg => ((hr.out.2.1.setCell ⟨b, off + i * 3, none⟩ v).2 g (hm2 g hg))⟩
      have FR1 := hid fr1; have FR2 := hid fr2
      have d1 := fun v : Value => World.cell?_setCell_same wr ⟨b, off + i * 3, none⟩ v c0
      have d2 := fun v : Value => (World.cell?_setCell_other wr ⟨b, off + i * 3, none⟩ ⟨b, off + i * 3 + 1, none⟩ v (by simp)).trans c1'
      have d3 := fun v : Value => (World.cell?_setCell_other wr ⟨b, off + i * 3, none⟩ ⟨b, off + i * 3 + 2, none⟩ v (by simp)).trans c2'
      have D1 := hid d1; have D2 := hid d2; have D3 := hid d3
      have HU := hid hU; have HNB := hid hbn'; have ND := hid hnd; have HB1 := hid hb1; have HB2 := hid hb2; have AP := hid hap; have AP' := hid hap'; have HM1 := hid hm1; have HM2 := hid hm2; have HBM := hid hbm; have KP := hid kp; have HBL := hid hbl
      have hk2 : 0 ≤ r + 1 := by omega
      have hk3 : r + 1 ≤ 1000000000000 := by omega
      have hk4 : 0 ≤ r + 1 + (n1 : Int) := by omega
      have hk5 : r + 1 + (n1 : Int) ≤ 1000000000000 := by omega
      clear hU hat h1 h2 hbn hc hm hyi hsum hall hlen hszz hyc hr1' hm1 hm2 hb1 hb2 hnd12 hap hap' kp fr1 fr2 d1 d2 d3 hnd hbn' hy hbm HND
      go_wp2_with fail
      refine (laws_markIntS A1 n1 c1 y.num.mag s1 (r + 1) _ (S1.out _) (FR1.out _) hk2 hk3 hn1).mono ?_
      rintro _ w2 ⟨rfl, hs1, hf1, ht1⟩
      have e2 := fun o => Turns.cell ht1 (b := b) (by simpa [World.setCell] using HBL.out) HB1.out o
      have e3 : w2.cell? ⟨b, off + i * 3 + 2, none⟩ = some (.slice A2 n2 c2) := (e2 _).trans (D3.out _)
      have e4 : w2.cell? ⟨b, off + i * 3 + 1, none⟩ = some (.slice A1 n1 c1) := (e2 _).trans (D2.out _)
      have e5 : w2.cell? ⟨b, off + i * 3, none⟩ = some (.bool (r % 3 == 0)) := (e2 _).trans (D1.out _)
      have HS1 := hid hs1; have HF1 := hid hf1; have HT1 := hid ht1; have E2 := hid e2
      have P2 := hid ((S2.out (.bool (r % 3 == 0))).touch ht1 AP'.out)
      have Q2 := hid ((FR2.out (.bool (r % 3 == 0))).touch ht1 AP'.out)
      have hbl2 : b < w2.heap.size := Nat.lt_of_lt_of_le (by simpa [World.setCell] using HBL.out) ht1.size
      have HBL2 := hid hbl2
      clear hs1 hf1 ht1 e2
      go_wp2_with fail
      refine (laws_markIntS A2 n2 c2 y.den s2 (r + 1 + n1) _ P2.out Q2.out hk4 hk5 hn2).mono ?_
      rintro _ w3 ⟨rfl, hs2, hf2, ht2⟩
      have HS2 := hid hs2; have HF2 := hid hf2; have HT2 := hid ht2
      clear hs2 hf2 ht2
      go_wp2_with fail
      go_roundg g
      case measure => omega
      case rel =>
        have e6 := fun o => Turns.cell HT2.out (b := b) HBL2.out HB2.out o
        have out : ∀ g, g < wr.heap.size → g ≠ b → g ∉ s1 ++ s2 → w3.heap[g]? = wr.heap[g]? := fun g hg hgb hgs =>
          (HT2.out.out g (Nat.lt_of_lt_of_le (by simpa [World.setCell] using hg) HT1.out.size) (fun h => hgs (List.mem_append_right _ h))).trans ((HT1.out.out g (by simpa [World.setCell] using hg) (fun h => hgs (List.mem_append_left _ h))).trans (KP.out _ g hgb))
        have frw : Free wr bs := hr.out.2.1
        have szs : wr.heap.size ≤ w3.heap.size := Nat.le_trans (by simpa [World.setCell] using HT1.out.size) HT2.out.size
        have T12 : Turns wr w3 bs := (((Turns.refl wr bs).set HBM.out _).trans (HT1.out.mono HM1.out)).trans (HT2.out.mono HM2.out)
        refine ⟨i + 1, r + 1 + n1 + n2, ys.set i ⟨⟨(r % 3 == 0), cnts (r + 1) n1⟩, cnts (r + 1 + n1) n2⟩, hk'.out, by go_num, rfl, by omega, hR.out, ?_, ?_, hr.out.2.2.1.trans T12, ?_⟩
        · refine HU.out w3 ⟨⟨(r % 3 == 0), cnts (r + 1) n1⟩, cnts (r + 1 + n1) n2⟩ [.bool (r % 3 == 0), .slice A1 n1 c1, .slice A2 n2 c2] ND.out (fun j u hu => ?_) (TRat.shut (x := (⟨⟨(r % 3 == 0), cnts (r + 1) n1⟩, cnts (r + 1 + n1) n2⟩ : TRat)) (HS1.out.touch HT2.out AP.out) HS2.out) (fun j hj => ?_) (fun g hg hgb hgs => out g (by obtain ⟨c', t', e'⟩ := frw.2 g hg; exact lt_of_get e') hgb hgs) szs
          · match j, hu with
            | 0, hu => simp at hu; subst hu; exact (e6 _).trans e5
            | 1, hu => simp at hu; subst hu; exact (e6 _).trans e4
            | 2, hu => simp at hu; subst hu; exact (e6 _).trans e3
          · refine (e6 _).trans ((E2.out _).trans (World.cell?_setCell_other wr ⟨b, off + i * 3, none⟩ ⟨b, off + j, none⟩ _ ?_))
            have h3 : Dat.sz TRat = 3 := rfl
            rw [h3] at hj
            intro e; injection e with _ e1 _; omega
        · refine ⟨ND.out, fun g hg => ?_⟩
          by_cases h1 : g ∈ s1
          · exact (HF1.out.touch HT2.out AP.out).2 g h1
          · by_cases h2 : g ∈ s2
            · exact HF2.out.2 g h2
            · by_cases hgb : g = b
              · subst hgb
                obtain ⟨c', t', e'⟩ := (frw.setCell ⟨g, off + i * 3, none⟩ (.bool (r % 3 == 0))).2 g hg
                exact ⟨c', t', (HT2.out.out g HBL2.out h2).trans ((HT1.out.out g (lt_of_get e') h1).trans e')⟩
              · obtain ⟨c', t', e'⟩ := frw.2 g hg
                exact ⟨c', t', (out g (lt_of_get e') hgb (fun h => (List.mem_append.1 h).elim h1 h2)).trans e'⟩
        · rw [List.map_set, hr.out.2.2.2]
          have : (⟨⟨(r % 3 == 0), cnts (r + 1) n1⟩, cnts (r + 1 + n1) n2⟩ : TRat).cnt = n1 + n2 := by unfold TRat.cnt TBigInt.cnt; rw [cnts_len, cnts_len]
          rw [this]
          exact YC.out
    · have hbe : ¬ ((i : Int) < n) := by omega
      have RB := hid (show r ≤ 4000000 by
        have hall := sum_take_all TRat.cnt xs i
        have hlen := HL.out
        have hszz := SZ.out
        unfold cntL at hszz
        have hr1' := hr1.out
        omega)
      clear hi hin
      go_wp2
      go_ret
      exact ⟨r, rfl, hr0, RB.out, hr.out.2.2.1⟩
end Go.Proofs.YthlpjpcnpcclhaaGreat.X
