/- The laws' marks, walked: markIntS, heldIntS, markRat, heldRat, markRatS. -/
import Derived.Test.YthlpjpcnpcclhaaGreatXMark
namespace Go.Proofs.YthlpjpcnpcclhaaGreat.X
open Go.RowKit Go.XB Go.XN
attribute [local go_sem] fillBy opAt deps depOf Region.wanted yielded
attribute [local simp] deps depOf MP.eq MP.agg MP.sl Facts
set_option linter.constructorNameAsVariable false

theorem cnts_step {k : Int} {xs : List Int} {i : Nat} (hi : i < xs.length) : (cnts k i ++ xs.drop i).set i (k + i) = cnts k (i + 1) ++ xs.drop (i + 1) := by
  have e : cnts k (i + 1) = cnts k i ++ [k + (i : Int)] := by simp [cnts, List.range_succ]
  rw [e, List.set_append_right _ _ (by rw [cnts_len]; exact Nat.le_refl _), cnts_len, Nat.sub_self, List.drop_eq_getElem_cons hi, List.set_cons_zero]
  simp

/-- what a call gives that fills a slice with marks -/
def Marks (w : World) (A : Option Addr) (n c : Nat) (k : Int) (bs : List Nat) (e : Ending) (w' : World) : Prop :=
  e = .returned (.int .i64 (k + n)) ∧ Sl w' A n c (cnts k n) bs ∧ Free w' bs ∧ Turns w w' bs

set_option maxHeartbeats 1000000 in
theorem laws_markIntS (A : Option Addr) (n c : Nat) (xs : List Int) (bs : List Nat) (k : Int) (w : World) (hx : Sl w A n c xs bs) (hf : Free w bs) (hk0 : 0 ≤ k) (hk1 : k ≤ 1000000000000) (hn : n ≤ 1048576) :
    Calls Tryz.prog 23 #[.slice A n c, .int .i64 k] w (Marks w A n c k bs) := by
  have HX := hid hx
  have HF := hid hf
  have HL := hid hx.1
  clear hx hf
  go_enter Tryz.func23, Tryz.ntmps23
  go_wp2_with fail
  go_loopg [1, 5] n (fun g a s wr => ∃ i : Nat, i + g = n ∧ s = .int .i64 i ∧ a = .int .i64 (k + i) ∧ Hid (Sl wr A n c (cnts k i ++ xs.drop i) bs ∧ Free wr bs ∧ Turns w wr bs))
  case atStart => exact ⟨0, by omega, rfl, by simp, by simpa [cnts] using HX.out, HF.out, Turns.refl _ _⟩
  case round =>
    obtain ⟨i, hi, rfl, rfl, hr⟩ := hrel
    rcases Nat.lt_or_ge i n with hin | hin
    · obtain ⟨b, off, x, rfl, hb, hx1, _, hc⟩ := Sl.getInt hr.out.1 hin
      obtain ⟨hs, hbm⟩ := Sl.setInt hr.out.1 hin (k + i) (by constructor <;> omega)
      rw [cnts_step (by rw [HL.out]; exact hin)] at hs
      have hfr := Free.frozen hr.out.2.1 hbm (off + i)
      have hbe : (i : Int) < n := by omega
      have R := hid (show Sl (wr.setCell ⟨b, off + i, none⟩ (.int .i64 (k + i))) (some ⟨b, off, none⟩) n c (cnts k (i + 1) ++ xs.drop (i + 1)) bs ∧ Free (wr.setCell ⟨b, off + i, none⟩ (.int .i64 (k + i))) bs ∧ Turns w (wr.setCell ⟨b, off + i, none⟩ (.int .i64 (k + i))) bs from ⟨hs, hr.out.2.1.setCell _ _, hr.out.2.2.set hbm _⟩)
      obtain ⟨g, rfl⟩ : ∃ g, gk = g + 1 := ⟨gk - 1, by omega⟩
      have hk' := hid (show i + 1 + g = n by omega)
      have hkb : k + i ≤ 2000000000000 := by omega
      have hkb0 : 0 ≤ k + i := by omega
      clear hx1 hs hi
      go_wp2_with fail
      go_roundg g
      case measure => omega
      case rel => exact ⟨i + 1, hk'.out, by go_num, by congr 1; omega, R.out⟩
    · have hbe : ¬ ((i : Int) < n) := by omega
      have hin' : i = n := by omega
      subst hin'
      have R := hid (show Sl wr A i c (cnts k i) bs by
        have := hr.out.1
        rwa [List.drop_of_length_le (by rw [HL.out]; exact Nat.le_refl _), List.append_nil] at this)
      clear hi hin
      go_wp2
      go_ret
      exact ⟨rfl, R.out, hr.out.2.1, hr.out.2.2⟩

set_option maxHeartbeats 1000000 in
theorem laws_heldIntS (A : Option Addr) (n c : Nat) (bs : List Nat) (k : Int) (w : World) (hx : Sl w A n c (cnts k n) bs) (hk0 : 0 ≤ k) (hk1 : k ≤ 1000000000000) (hn : n ≤ 1048576) :
    Calls Tryz.prog 24 #[.slice A n c, .int .i64 k] w (Gives w (.int .i64 (k + n))) := by
  have HX := hid hx
  clear hx
  go_enter Tryz.func24, Tryz.ntmps24
  go_wp2_with fail
  go_loopg [1, 5] n (fun g a s wr => ∃ i : Nat, i + g = n ∧ s = .int .i64 i ∧ a = .int .i64 (k + i) ∧ wr = w)
  case atStart => exact ⟨0, by omega, rfl, by simp, rfl⟩
  case round =>
    obtain ⟨i, hi, rfl, rfl, rfl⟩ := hrel
    rcases Nat.lt_or_ge i n with hin | hin
    · obtain ⟨b, off, x, rfl, hb, hx1, _, hc⟩ := Sl.getInt HX.out hin
      rw [cnts_get hin] at hx1
      obtain rfl := Option.some.inj hx1
      have hbe : (i : Int) < n := by omega
      obtain ⟨g, rfl⟩ : ∃ g, gk = g + 1 := ⟨gk - 1, by omega⟩
      have hk' := hid (show i + 1 + g = n by omega)
      have hkb : k + i ≤ 2000000000000 := by omega
      have hkb0 : 0 ≤ k + i := by omega
      clear hx1 hi
      go_wp2_with fail
      go_roundg g
      case measure => omega
      case rel => exact ⟨i + 1, hk'.out, by go_num, by congr 1; omega, rfl⟩
    · have hbe : ¬ ((i : Int) < n) := by omega
      have hin' : i = n := by omega
      subst hin'
      clear hi hin
      go_wp2
      go_ret
      exact ⟨rfl, Below.refl _ _⟩

set_option maxHeartbeats 1000000 in
theorem laws_markBigInt (neg : Bool) (A : Option Addr) (n c : Nat) (xs : List Int) (bs : List Nat) (k : Int) (w : World) (hx : Sl w A n c xs bs) (hf : Free w bs) (hk0 : 0 ≤ k) (hk1 : k ≤ 1000000000000) (hn : n ≤ 1048576) :
    Calls Tryz.prog 56 #[.agg #[.bool neg, .slice A n c], .int .i64 k] w (Marks w A n c k bs) := by
  have HX := hid hx
  have HF := hid hf
  clear hx hf
  go_enter Tryz.func56, Tryz.ntmps56
  go_wp2_with fail
  refine (laws_markIntS A n c xs bs k _ (HX.out.below (Below.box _)) (HF.out.below (Below.box _)) hk0 hk1 hn).mono ?_
  rintro _ w1 ⟨rfl, hs, hf, ht⟩
  go_wp2
  go_ret
  exact ⟨rfl, hs, hf, ((Below.box _).touch bs).trans ht⟩

/-- a fraction that is filled with marks -/
def MarksR (w : World) (A1 : Option Addr) (n1 c1 : Nat) (A2 : Option Addr) (n2 c2 : Nat) (k : Int) (s1 s2 : List Nat) (e : Ending) (w' : World) : Prop :=
  e = .returned (.int .i64 (k + n1 + n2)) ∧ (Sl w' A1 n1 c1 (cnts k n1) s1 ∧ Sl w' A2 n2 c2 (cnts (k + n1) n2) s2) ∧ Free w' (s1 ++ s2) ∧ Turns w w' (s1 ++ s2)

theorem Free.left {w : World} {a b : List Nat} (h : Free w (a ++ b)) : Free w a := ⟨(List.nodup_append.1 h.1).1, fun g hg => h.2 g (List.mem_append_left _ hg)⟩
theorem Free.right {w : World} {a b : List Nat} (h : Free w (a ++ b)) : Free w b := ⟨(List.nodup_append.1 h.1).2.1, fun g hg => h.2 g (List.mem_append_right _ hg)⟩
theorem Free.apart {w : World} {a b : List Nat} (h : Free w (a ++ b)) : (∀ g ∈ a, g ∉ b) ∧ ∀ g ∈ b, g ∉ a :=
  ⟨fun g h1 h2 => (List.nodup_append.1 h.1).2.2 g h1 g h2 rfl, fun g h1 h2 => (List.nodup_append.1 h.1).2.2 g h2 g h1 rfl⟩
theorem Free.both {w : World} {a b : List Nat} (h1 : Free w a) (h2 : Free w b) (hd : ∀ g ∈ a, g ∉ b) : Free w (a ++ b) :=
  ⟨List.nodup_append.2 ⟨h1.1, h2.1, fun x hx y hy e => hd x hx (e ▸ hy)⟩, fun g hg => by
    rcases List.mem_append.1 hg with hg | hg
    · exact h1.2 g hg
    · exact h2.2 g hg⟩

set_option maxHeartbeats 1000000 in
theorem laws_markRat (neg : Bool) (A1 : Option Addr) (n1 c1 : Nat) (A2 : Option Addr) (n2 c2 : Nat) (xs ys : List Int) (s1 s2 : List Nat) (k : Int) (w : World) (h1 : Sl w A1 n1 c1 xs s1) (h2 : Sl w A2 n2 c2 ys s2) (hf : Free w (s1 ++ s2)) (hk0 : 0 ≤ k) (hk1 : k ≤ 900000000000) (hn1 : n1 ≤ 1048576) (hn2 : n2 ≤ 1048576) :
    Calls Tryz.prog 22 #[.agg #[.bool neg, .slice A1 n1 c1, .slice A2 n2 c2], .int .i64 k] w (MarksR w A1 n1 c1 A2 n2 c2 k s1 s2) := by
  have H1 := hid h1; have H2 := hid h2; have HF := hid hf
  have AP := hid (Free.apart hf)
  have hk2 : k ≤ 1000000000000 := by omega
  have hk3 : 0 ≤ k + (n1 : Int) := by omega
  have hk4 : k + (n1 : Int) ≤ 1000000000000 := by omega
  have LT := hid (show ∀ g ∈ s1 ++ s2, g < w.heap.size from fun g hg => by obtain ⟨c, t, e⟩ := hf.2 g hg; exact lt_of_get e)
  clear h1 h2 hf
  go_enter Tryz.func22, Tryz.ntmps22
  go_wp2_with fail
  refine (laws_markBigInt neg A1 n1 c1 xs s1 k _ (H1.out.below (Below.box _)) ((Free.left HF.out).below (Below.box _)) hk0 hk2 hn1).mono ?_
  rintro _ w1 ⟨rfl, hs1, hf1, ht1⟩
  have hnb : w.heap.size ∉ s1 := fun h => by have := LT.out _ (List.mem_append_left _ h); omega
  have hcell := fun o => Turns.cell ht1 (b := w.heap.size) (by simp) hnb o
  have hfroz := fun o => Turns.frozen ht1 (b := w.heap.size) (by simp) hnb o
  have HS1 := hid hs1; have HF1 := hid hf1; have HT1 := hid ht1
  have H2' := hid ((H2.out.below (Below.box _)).touch ht1 AP.out.2)
  have HF2' := hid (((Free.right HF.out).below (Below.box _)).touch ht1 AP.out.2)
  clear hs1 hf1 ht1
  go_wp2_with fail
  refine (laws_markIntS A2 n2 c2 ys s2 (k + n1) _ H2'.out HF2'.out hk3 hk4 hn2).mono ?_
  rintro _ w2 ⟨rfl, hs2, hf2, ht2⟩
  go_wp2
  go_ret
  refine ⟨rfl, ⟨HS1.out.touch ht2 AP.out.1, hs2⟩, Free.both (HF1.out.touch ht2 AP.out.1) hf2 AP.out.1, ?_⟩
  exact (((Below.box _).touch _).trans (HT1.out.mono fun g hg => List.mem_append_left _ hg)).trans (ht2.mono fun g hg => List.mem_append_right _ hg)

theorem sum_take_bound {xs : List TRat} {i : Nat} {y : TRat} (h : (xs[i]?).map TRat.cnt = some y.cnt) : ((xs.take (i + 1)).map TRat.cnt).sum = ((xs.take i).map TRat.cnt).sum + y.cnt := by
  cases hx : xs[i]? with
  | none => rw [hx] at h; cases h
  | some x =>
    rw [hx] at h
    rw [sum_take_step TRat.cnt hx]
    have : x.cnt = y.cnt := by simpa using h
    omega

set_option maxHeartbeats 2000000 in
theorem laws_markRatS (A : Option Addr) (n c : Nat) (xs : List TRat) (bs : List Nat) (k : Int) (w : World) (hx : Sl w A n c xs bs) (hf : Free w bs) (hk0 : 0 ≤ k) (hk1 : k ≤ 1000000) (hsz : cntL TRat.cnt xs ≤ 1048576) :
    Calls Tryz.prog 21 #[.slice A n c, .int .i64 k] w (fun e w' => ∃ r : Int, e = .returned (.int .i64 r) ∧ 0 ≤ r ∧ Turns w w' bs) := by
  have HX := hid hx
  have HF := hid hf
  have HL := hid hx.1
  have hn : n ≤ 1048576 := by have := hx.1; unfold cntL at hsz; omega
  have SZ := hid hsz
  clear hx hf hsz
  go_enter Tryz.func21, Tryz.ntmps21
  go_wp2_with fail
  go_loopg [1, 5] n (fun g a s wr => ∃ (i : Nat) (r : Int) (ys : List TRat), i + g = n ∧ s = .int .i64 i ∧ a = .int .i64 r ∧ 0 ≤ r ∧ Hid (r ≤ k + (i + ((xs.take i).map TRat.cnt).sum : Nat)) ∧ Hid (Sl wr A n c ys bs ∧ Free wr bs ∧ Turns w wr bs ∧ ys.map TRat.cnt = xs.map TRat.cnt))
  case atStart => exact ⟨0, k, xs, by omega, rfl, rfl, hk0, by show k ≤ k + _; simp, HX.out, HF.out, Turns.refl _ _, rfl⟩
  case round =>
    obtain ⟨i, r, ys, hi, rfl, rfl, hr0, hr1, hr⟩ := hrel
    rcases Nat.lt_or_ge i n with hin | hin
    · obtain ⟨g, rfl⟩ : ∃ g, gk = g + 1 := ⟨gk - 1, by omega⟩
      have hk' := hid (show i + 1 + g = n by omega)
      have hn0 : 0 < n := by omega
      clear hi
      obtain ⟨b, off, _, rfl, _⟩ := hr.out.1.2.2.2.2 hn0
      obtain ⟨fs, hm, hfn, hbn, hbm, ⟨cs, y, hy, hc, hat⟩, hU⟩ := Sl.turn hr.out.1 hin
      obtain ⟨A1, n1, c1, s1, A2, n2, c2, s2, rfl, rfl, h1, h2⟩ := TRat.open_ hat
      have hnd := hr.out.2.1.1
      have hbn' := hbn hnd
      have HND := hid (hfn hnd)
      have YC := hid (show (xs.map TRat.cnt).set i (n1 + n2) = xs.map TRat.cnt by
        have e : n1 + n2 = y.cnt := by unfold TRat.cnt TBigInt.cnt; rw [h1.1, h2.1]
        have h := congrArg (fun l => l[i]?) hr.out.2.2.2
        simp only [List.getElem?_map, hy, Option.map_some] at h
        rw [e]
        apply List.ext_getElem?
        intro j
        by_cases hj : i = j
        · subst hj
          rw [List.getElem?_map, ← h]
          have hl : i < (xs.map TRat.cnt).length := by rw [List.length_map, HL.out]; exact hin
          exact List.getElem?_set_self hl
        · rw [List.getElem?_set_ne hj])
      have c0 : wr.cell? ⟨b, off + i * 3, none⟩ = some (.bool y.num.neg) := hc 0 _ rfl
      have c1' : wr.cell? ⟨b, off + i * 3 + 1, none⟩ = some (.slice A1 n1 c1) := hc 1 _ rfl
      have c2' : wr.cell? ⟨b, off + i * 3 + 2, none⟩ = some (.slice A2 n2 c2) := hc 2 _ rfl
      have f0 := Free.frozen hr.out.2.1 hbm (off + i * 3)
      have hbe : (i : Int) < n := by omega
      have hyi : (xs[i]?).map TRat.cnt = some y.cnt := by
        have h := congrArg (fun l => l[i]?) hr.out.2.2.2
        simp only [List.getElem?_map, hy, Option.map_some] at h
        exact h.symm
      have hsum := sum_take_bound hyi
      have hall := sum_take_all TRat.cnt xs (i + 1)
      have hlen := HL.out
      have hszz := SZ.out
      unfold cntL at hszz
      have hyc : y.cnt = n1 + n2 := by unfold TRat.cnt TBigInt.cnt; rw [h1.1, h2.1]
      have hr1' := hr1.out
      have hrb : r ≤ 3000000 := by omega
      have hn1 : n1 ≤ 1048576 := by omega
      have hn2 : n2 ≤ 1048576 := by omega
      have hR := hid (show r + 1 + n1 + n2 ≤ k + ((i + 1) + ((xs.take (i + 1)).map TRat.cnt).sum : Nat) by omega)
      have hm1 : ∀ g ∈ s1, g ∈ bs := fun g hg => hm g (List.mem_append_left _ hg)
      have hm2 : ∀ g ∈ s2, g ∈ bs := fun g hg => hm g (List.mem_append_right _ hg)
      have hb1 : b ∉ s1 := fun h => hbn' (List.mem_append_left _ h)
      have hb2 : b ∉ s2 := fun h => hbn' (List.mem_append_right _ h)
      have hnd12 : (s1 ++ s2).Nodup := HND.out
      have hap : ∀ g ∈ s1, g ∉ s2 := fun g h3 h4 => (List.nodup_append.1 hnd12).2.2 g h3 g h4 rfl
      have hap' : ∀ g ∈ s2, g ∉ s1 := fun g h3 h4 => hap g h4 h3
      have hbl : b < wr.heap.size := by
        obtain ⟨c', t', e'⟩ := hr.out.2.1.2 b hbm
        exact lt_of_get e'
      -- the three worlds: the sign is stored, then two slices are marked
      have kp : ∀ (v : Value) (g : Nat), g ≠ b → (wr.setCell ⟨b, off + i * 3, none⟩ v).heap[g]? = wr.heap[g]? := fun v g hg => Below.heap_setCell wr ⟨b, off + i * 3, none⟩ v g hg
      have S1 := hid (fun v : Value => h1.keep fun g hg => kp v g (fun e => hb1 (e ▸ hg)))
      have S2 := hid (fun v : Value => h2.keep fun g hg => kp v g (fun e => hb2 (e ▸ hg)))
      have fr1 : ∀ v : Value, Free (wr.setCell ⟨b, off + i * 3, none⟩ v) s1 := fun v => ⟨(List.nodup_append.1 hnd12).1, fun g hg => ((hr.out.2.1.setCell ⟨b, off + i * 3, none⟩ v).2 g (hm1 g hg))⟩
      have fr2 : ∀ v : Value, Free (wr.setCell ⟨b, off + i * 3, none⟩ v) s2 := fun v => ⟨(List.nodup_append.1 hnd12).2.1, fun g hg => ((hr.out.2.1.setCell ⟨b, off + i * 3, none⟩ v).2 g (hm2 g hg))⟩
      have FR1 := hid fr1; have FR2 := hid fr2
      have d1 := fun v : Value => World.cell?_setCell_same wr ⟨b, off + i * 3, none⟩ v c0
      have d2 := fun v : Value => (World.cell?_setCell_other wr ⟨b, off + i * 3, none⟩ ⟨b, off + i * 3 + 1, none⟩ v (by simp)).trans c1'
      have d3 := fun v : Value => (World.cell?_setCell_other wr ⟨b, off + i * 3, none⟩ ⟨b, off + i * 3 + 2, none⟩ v (by simp)).trans c2'
      have D1 := hid d1; have D2 := hid d2; have D3 := hid d3
      have HU := hid hU; have HNB := hid hbn'; have ND := hid hnd; have HB1 := hid hb1; have HB2 := hid hb2; have AP := hid hap; have AP' := hid hap'; have HM1 := hid hm1; have HM2 := hid hm2; have HBM := hid hbm; have KP := hid kp; have HBL := hid hbl
      have hk2 : 0 ≤ r + 1 := by omega
      have hk3 : r + 1 ≤ 1000000000000 := by omega
      have hk4 : 0 ≤ r + 1 + (n1 : Int) := by omega
      have hk5 : r + 1 + (n1 : Int) ≤ 1000000000000 := by omega
      clear hU hat h1 h2 hbn hc hm hyi hsum hall hlen hszz hyc hr1' hm1 hm2 hb1 hb2 hnd12 hap hap' kp fr1 fr2 d1 d2 d3 hnd hbn' hy hbm HND
      go_wp2_with fail
      refine (laws_markIntS A1 n1 c1 y.num.mag s1 (r + 1) _ (S1.out _) (FR1.out _) hk2 hk3 hn1).mono ?_
      rintro _ w2 ⟨rfl, hs1, hf1, ht1⟩
      have e2 := fun o => Turns.cell ht1 (b := b) (by simpa [World.setCell] using HBL.out) HB1.out o
      have e3 : w2.cell? ⟨b, off + i * 3 + 2, none⟩ = some (.slice A2 n2 c2) := (e2 _).trans (D3.out _)
      have e4 : w2.cell? ⟨b, off + i * 3 + 1, none⟩ = some (.slice A1 n1 c1) := (e2 _).trans (D2.out _)
      have e5 : w2.cell? ⟨b, off + i * 3, none⟩ = some (.bool (r % 3 == 0)) := (e2 _).trans (D1.out _)
      have HS1 := hid hs1; have HF1 := hid hf1; have HT1 := hid ht1; have E2 := hid e2
      have P2 := hid ((S2.out (.bool (r % 3 == 0))).touch ht1 AP'.out)
      have Q2 := hid ((FR2.out (.bool (r % 3 == 0))).touch ht1 AP'.out)
      have hbl2 : b < w2.heap.size := Nat.lt_of_lt_of_le (by simpa [World.setCell] using HBL.out) ht1.size
      have HBL2 := hid hbl2
      clear hs1 hf1 ht1 e2
      go_wp2_with fail
      refine (laws_markIntS A2 n2 c2 y.den s2 (r + 1 + n1) _ P2.out Q2.out hk4 hk5 hn2).mono ?_
      rintro _ w3 ⟨rfl, hs2, hf2, ht2⟩
      have HS2 := hid hs2; have HF2 := hid hf2; have HT2 := hid ht2
      clear hs2 hf2 ht2
      go_wp2_with fail
      go_roundg g
      case measure => omega
      case rel =>
        have e6 := fun o => Turns.cell HT2.out (b := b) HBL2.out HB2.out o
        have out : ∀ g, g < wr.heap.size → g ≠ b → g ∉ s1 ++ s2 → w3.heap[g]? = wr.heap[g]? := fun g hg hgb hgs =>
          (HT2.out.out g (Nat.lt_of_lt_of_le (by simpa [World.setCell] using hg) HT1.out.size) (fun h => hgs (List.mem_append_right _ h))).trans ((HT1.out.out g (by simpa [World.setCell] using hg) (fun h => hgs (List.mem_append_left _ h))).trans (KP.out _ g hgb))
        have frw : Free wr bs := hr.out.2.1
        have szs : wr.heap.size ≤ w3.heap.size := Nat.le_trans (by simpa [World.setCell] using HT1.out.size) HT2.out.size
        have T12 : Turns wr w3 bs := (((Turns.refl wr bs).set HBM.out _).trans (HT1.out.mono HM1.out)).trans (HT2.out.mono HM2.out)
        refine ⟨i + 1, r + 1 + n1 + n2, ys.set i ⟨⟨(r % 3 == 0), cnts (r + 1) n1⟩, cnts (r + 1 + n1) n2⟩, hk'.out, by go_num, rfl, by omega, hR.out, ?_, ?_, hr.out.2.2.1.trans T12, ?_⟩
        · refine HU.out w3 ⟨⟨(r % 3 == 0), cnts (r + 1) n1⟩, cnts (r + 1 + n1) n2⟩ [.bool (r % 3 == 0), .slice A1 n1 c1, .slice A2 n2 c2] ND.out (fun j u hu => ?_) (TRat.shut (x := (⟨⟨(r % 3 == 0), cnts (r + 1) n1⟩, cnts (r + 1 + n1) n2⟩ : TRat)) (HS1.out.touch HT2.out AP.out) HS2.out) (fun j hj => ?_) (fun g hg hgb hgs => out g (by obtain ⟨c', t', e'⟩ := frw.2 g hg; exact lt_of_get e') hgb hgs) szs
          · match j, hu with
            | 0, hu => simp at hu; subst hu; exact (e6 _).trans e5
            | 1, hu => simp at hu; subst hu; exact (e6 _).trans e4
            | 2, hu => simp at hu; subst hu; exact (e6 _).trans e3
          · refine (e6 _).trans ((E2.out _).trans (World.cell?_setCell_other wr ⟨b, off + i * 3, none⟩ ⟨b, off + j, none⟩ _ ?_))
            have h3 : Dat.sz TRat = 3 := rfl
            rw [h3] at hj
            intro e; injection e with _ e1 _; omega
        · refine ⟨ND.out, fun g hg => ?_⟩
          by_cases h1 : g ∈ s1
          · exact (HF1.out.touch HT2.out AP.out).2 g h1
          · by_cases h2 : g ∈ s2
            · exact HF2.out.2 g h2
            · by_cases hgb : g = b
              · subst hgb
                obtain ⟨c', t', e'⟩ := (frw.setCell ⟨g, off + i * 3, none⟩ (.bool (r % 3 == 0))).2 g hg
                exact ⟨c', t', (HT2.out.out g HBL2.out h2).trans ((HT1.out.out g (lt_of_get e') h1).trans e')⟩
              · obtain ⟨c', t', e'⟩ := frw.2 g hg
                exact ⟨c', t', (out g (lt_of_get e') hgb (fun h => (List.mem_append.1 h).elim h1 h2)).trans e'⟩
        · rw [List.map_set, hr.out.2.2.2]
          have : (⟨⟨(r % 3 == 0), cnts (r + 1) n1⟩, cnts (r + 1 + n1) n2⟩ : TRat).cnt = n1 + n2 := by unfold TRat.cnt TBigInt.cnt; rw [cnts_len, cnts_len]
          rw [this]
          exact YC.out
    · have hbe : ¬ ((i : Int) < n) := by omega
      clear hi hin
      go_wp2
      go_ret
      exact ⟨r, rfl, hr0, hr.out.2.2.1⟩
end Go.Proofs.YthlpjpcnpcclhaaGreat.X
