/- Part of a claim's proof: texts of this repository's wip,joined by prune.py,without the theorems that the claim does not reach. -/
import Derived.Test.YtpfipnankjeokaaGreatY16
import Derived.Test.YtpfipnankjeokaaGreatY21
import Derived.Test.YtpfipnankjeokaaGreatY20
import Derived.Test.YtpfipnankjeokaaGreatY13
/- MakePoint,MakeCoarse of the reference. -/
namespace Go.Proofs.YtpfipnankjeokaaGreat.X
open Go.RowKit Go.XB Go.XN
attribute [local go_sem] fillBy opAt deps depOf Region.wanted yielded
attribute [local simp] deps depOf MP.eq MP.agg MP.sl Facts
set_option linter.constructorNameAsVariable false
set_option maxHeartbeats 4000000 in
set_option maxRecDepth 10000 in
theorem spec_MakePoint2 (A : Option Addr) (n c : Nat) (xs : List TByte) (bs : List Nat) (w : World) (hx : Sl w A n c xs bs) (hn : n ≤ 1048576) :
  Calls Tryz.prog 6 #[.slice A n c, .int .i64 2] w (fun e w' => ∃ (x y q : Int) (v : Value) (s : List Nat),e = .returned v ∧ inD x y q ∧ Agg w' v (ptD x y q) s ∧ Below w.heap.size w w') := by
 have HX := hid hx; have HN := hid hn
 have HG := hid (show w.heap.size + 1 ∉ bs from fun h => by have := hx.lt _ h; omega)
 clear hx hn
 go_enter Tryz.func6,Tryz.ntmps6
 go_wp2_with fail
 have HB0 := hid (Below.box (w := w) (.cells #[.bool false, .slice none 0 0, .slice none 0 0, .bool false, .slice none 0 0, .slice none 0 0] 34))
 refine (spec_l31New 8 (by decide) A n c xs bs (w.alloc (.cells #[.bool false, .slice none 0 0, .slice none 0 0, .bool false, .slice none 0 0, .slice none 0 0] 34)) (HX.out.below HB0.out) HN.out).mono ?_
 rintro _ w1 ⟨rfl,hc1,hb1,hl1⟩
 rw [World.size_alloc] at hc1 hb1 hl1
 have HC1 := hid hc1; have HB1 := hid hb1
 have HX1 := hid (show Sl w1 A n c xs bs from (HX.out.below HB0.out).belowB hb1 (fun b hb => by have := HX.out.lt b hb; omega))
 have HR1 := hid (show w1.heap[w.heap.size]? = some (.cells #[.bool false, .slice none 0 0, .slice none 0 0, .bool false, .slice none 0 0, .slice none 0 0] 34) from (hb1.block _ (by omega)).trans (heap_alloc_new w _))
 clear hc1 hb1
 go_wp2_with fail
 refine (spec_l05Point (w.heap.size + 1) A n c xs bs w1 HX1.out HN.out HC1.out HG.out).mono ?_
 rintro _ w2 ⟨x,y,q,v,s,rfl,hin,ha,hgr,hrs⟩
 generalize hd : ptD x y q = d at ha
 obtain ⟨E1,nE1,cE1,u1,E2,nE2,cE2,u2,E4,nE4,cE4,u4,E5,nE5,cE5,u5,rfl,hzs, _, _, _, _⟩ := TPoint.agg ha
 have HA := hid ha; have HIN := hid hin; have HD := hid hd
 have HS := hid (show ∀ b ∈ s,b ≠ w.heap.size from fun b hb => by have := hrs b hb; omega)
 have HR2 := hid ((hgr.block w.heap.size (by omega) (by intro e; injection e with e; omega)).trans HR1.out)
 have HB2 := hid (show Below w.heap.size w w2 from ((HB0.out).trans (HB1.out.mono (by omega))).grown hgr (by omega) (fun k hk => by injection hk with h; omega))
 obtain ⟨r0,e0⟩ := box_cell HR2.out (j := 0) rfl
 obtain ⟨r1,e1⟩ := box_cell HR2.out (j := 1) rfl
 obtain ⟨r2,e2⟩ := box_cell HR2.out (j := 2) rfl
 obtain ⟨r3,e3⟩ := box_cell HR2.out (j := 3) rfl
 obtain ⟨r4,e4⟩ := box_cell HR2.out (j := 4) rfl
 obtain ⟨r5,e5⟩ := box_cell HR2.out (j := 5) rfl
 have hl2 : w.heap.size < w2.heap.size := lt_of_get HR2.out
 clear ha hin hd hgr hrs hzs
 go_wp2
 refine bodyPost_ret (v := .agg #[.bool d.x.num.neg, .slice E1 nE1 cE1, .slice E2 nE2 cE2, .bool d.y.num.neg, .slice E4 nE4 cE4, .slice E5 nE5 cE5]) (by simp [results,Tryz.results6,go_sem, *]) rfl ?_
 refine ⟨x,y,q, _,s,rfl,HIN.out, ?_,HB2.out.trans (below_set6 _ (Nat.le_refl _) _ _ _ _ _ _)⟩
 rw [HD.out]
 exact HA.out.keep (fun b hb => heap_setCells w.heap.size [.bool d.x.num.neg, .slice E1 nE1 cE1, .slice E2 nE2 cE2, .bool d.y.num.neg, .slice E4 nE4 cE4, .slice E5 nE5 cE5] w2 0 b (HS.out b hb))

set_option maxHeartbeats 4000000 in
set_option maxRecDepth 10000 in
theorem spec_MakeCoarse (A : Option Addr) (n c : Nat) (xs : List TByte) (bs : List Nat) (w : World) (hx : Sl w A n c xs bs) (hn : n ≤ 1048576) :
  Calls Tryz.prog 5 #[.slice A n c] w (fun e w' => ∃ (m : TMesh) (v : Value) (s : List Nat),e = .returned v ∧ IsCoarse m ∧ Agg w' v m s ∧ Below w.heap.size w w') := by
 have HX := hid hx; have HN := hid hn
 have HG := hid (show w.heap.size + 1 ∉ bs from fun h => by have := hx.lt _ h; omega)
 clear hx hn
 go_enter Tryz.func5,Tryz.ntmps5
 go_wp2_with fail
 have HB0 := hid (Below.box (w := w) (.cells #[.slice none 0 0, .slice none 0 0] 26))
 refine (spec_l01New A n c xs bs (w.alloc (.cells #[.slice none 0 0, .slice none 0 0] 26)) (HX.out.below HB0.out) HN.out).mono ?_
 rintro _ w1 ⟨rfl,hc1,hb1,hl1⟩
 rw [World.size_alloc] at hc1 hb1 hl1
 have HC1 := hid hc1; have HB1 := hid hb1
 have HX1 := hid (show Sl w1 A n c xs bs from (HX.out.below HB0.out).belowB hb1 (fun b hb => by have := HX.out.lt b hb; omega))
 have HR1 := hid (show w1.heap[w.heap.size]? = some (.cells #[.slice none 0 0, .slice none 0 0] 26) from (hb1.block _ (by omega)).trans (heap_alloc_new w _))
 clear hc1 hb1
 go_wp2_with fail
 refine (spec_l07Start (w.heap.size + 1) A n c xs bs w1 HX1.out HN.out HC1.out HG.out).mono ?_
 rintro _ w2 ⟨m,v,s,rfl,hin,ha,hgr,hrs⟩
 obtain ⟨A0,n0,c0,s0,A1,n1,c1,s1,rfl,hzs, _, _⟩ := TMesh.agg ha
 have HA := hid ha; have HIN := hid hin
 have HS := hid (show ∀ b ∈ s,b ≠ w.heap.size from fun b hb => by have := hrs b hb; omega)
 have HR2 := hid ((hgr.block w.heap.size (by omega) (by intro e; injection e with e; omega)).trans HR1.out)
 have HB2 := hid (show Below w.heap.size w w2 from ((HB0.out).trans (HB1.out.mono (by omega))).grown hgr (by omega) (fun k hk => by injection hk with h; omega))
 obtain ⟨r0,e0⟩ := box_cell HR2.out (j := 0) rfl
 obtain ⟨r1,e1⟩ := box_cell HR2.out (j := 1) rfl
 have hl2 : w.heap.size < w2.heap.size := lt_of_get HR2.out
 clear ha hin hgr hrs hzs
 go_wp2
 refine bodyPost_ret (v := .agg #[.slice A0 n0 c0, .slice A1 n1 c1]) (by simp [results,Tryz.results5,go_sem, *]) rfl ?_
 refine ⟨m, _,s,rfl,HIN.out,HA.out.keep (fun b hb => heap_setCells w.heap.size [.slice A0 n0 c0, .slice A1 n1 c1] w2 0 b (HS.out b hb)),HB2.out.trans (((Below.refl w.heap.size w2).setCell (p := ⟨w.heap.size,0,none⟩) (Nat.le_refl _) _).setCell (p := ⟨w.heap.size,1,none⟩) (Nat.le_refl _) _)⟩
end Go.Proofs.YtpfipnankjeokaaGreat.X

/- Fields on coarse meshes,reckoned over Q (plain). -/
namespace Go.Proofs.YtpfipnankjeokaaGreat.X
open Go.RowKit Go.XB Go.XN
def qbad : Q := ⟨0,0⟩
def _root_.Go.XN.Q.okN (q : Q) : Bool := match q.n,q.d with
 | n, .ofNat (d + 1) => Nat.blt (d + 1) (10 ^ 200) && Nat.blt n.natAbs (10 ^ 200)
 | _, _ => false
theorem okN_ok (q : Q) : q.okN = q.ok := by
 obtain ⟨n,d⟩ := q
 have hp : ((10 : Int) ^ 200) = ((10 ^ 200 : Nat) : Int) := by norm_cast
 rw [Bool.eq_iff_iff]
 unfold Q.okN Q.ok
 rw [hp]
 generalize (10 ^ 200 : Nat) = T
 match d with
 | .ofNat 0 => simp
 | .ofNat (d + 1) =>
  simp only [Bool.and_eq_true,Nat.blt_eq,decide_eq_true_eq,Int.ofNat_eq_natCast]
  omega
 | .negSucc d =>
  simp only [Bool.and_eq_true,decide_eq_true_eq]
  constructor
  ·intro h; cases h
  ·intro h; have := h.1; omega
def cadd (a b : Q) : Q := if a.okN && (b.okN && (qadd a b).okN) then qadd a b else qbad
def csub (a b : Q) : Q := if a.okN && (b.okN && (qsub a b).okN) then qsub a b else qbad
def cmul (a b : Q) : Q := if a.okN && (b.okN && (qmul a b).okN) then qmul a b else qbad
def cneg (a : Q) : Q := if a.okN then qneg a else qbad
def cdiv (a b : Q) : Q := if a.okN && (b.okN && (decide (0 < b.n) && (qmul a (qinv b)).okN)) then qmul a (qinv b) else qbad
theorem qbad_ok : qbad.ok = false := by decide
theorem cadd_ok {a b : Q} (h : (cadd a b).ok = true) : a.ok = true ∧ b.ok = true ∧ radd (toR a) (toR b) = toR (cadd a b) := by
 unfold cadd at h ⊢
 simp only [okN_ok] at h ⊢
 by_cases hc : (a.ok && (b.ok && (qadd a b).ok)) = true
 ·rw [if_pos hc]
  simp only [Bool.and_eq_true] at hc
  exact ⟨hc.1,hc.2.1,toR_add hc.1 hc.2.1 hc.2.2⟩
 ·rw [if_neg hc,qbad_ok] at h; cases h
theorem csub_ok {a b : Q} (h : (csub a b).ok = true) : a.ok = true ∧ b.ok = true ∧ rsub (toR a) (toR b) = toR (csub a b) := by
 unfold csub at h ⊢
 simp only [okN_ok] at h ⊢
 by_cases hc : (a.ok && (b.ok && (qsub a b).ok)) = true
 ·rw [if_pos hc]
  simp only [Bool.and_eq_true] at hc
  exact ⟨hc.1,hc.2.1,toR_sub hc.1 hc.2.1 hc.2.2⟩
 ·rw [if_neg hc,qbad_ok] at h; cases h
theorem cmul_ok {a b : Q} (h : (cmul a b).ok = true) : a.ok = true ∧ b.ok = true ∧ rmul (toR a) (toR b) = toR (cmul a b) := by
 unfold cmul at h ⊢
 simp only [okN_ok] at h ⊢
 by_cases hc : (a.ok && (b.ok && (qmul a b).ok)) = true
 ·rw [if_pos hc]
  simp only [Bool.and_eq_true] at hc
  exact ⟨hc.1,hc.2.1,toR_mul hc.1 hc.2.1 hc.2.2⟩
 ·rw [if_neg hc,qbad_ok] at h; cases h
theorem cneg_ok {a : Q} (h : (cneg a).ok = true) : a.ok = true ∧ negR (toR a) = toR (cneg a) := by
 unfold cneg at h ⊢
 simp only [okN_ok] at h ⊢
 by_cases hc : a.ok = true
 ·rw [if_pos hc]
  refine ⟨hc, ?_⟩
  rw [← toR_neg hc]
  unfold rneg negR
  rw [toR_ok hc]; rfl
 ·rw [if_neg hc,qbad_ok] at h; cases h
theorem cdiv_ok {a b : Q} (h : (cdiv a b).ok = true) : a.ok = true ∧ b.ok = true ∧ 0 < b.n ∧ rdiv (toR a) (toR b) = toR (cdiv a b) := by
 unfold cdiv at h ⊢
 simp only [okN_ok] at h ⊢
 by_cases hc : (a.ok && (b.ok && (decide (0 < b.n) && (qmul a (qinv b)).ok))) = true
 ·rw [if_pos hc]
  simp only [Bool.and_eq_true,decide_eq_true_eq] at hc
  exact ⟨hc.1,hc.2.1,hc.2.2.1,toR_div hc.1 hc.2.1 hc.2.2.1 hc.2.2.2⟩
 ·rw [if_neg hc,qbad_ok] at h; cases h
structure QP where
 x : Q
 y : Q
def QP.ok (p : QP) : Bool := p.x.ok && p.y.ok
def toP (p : QP) : TPoint := ⟨toR p.x,toR p.y⟩
theorem QP.ok_iff {p : QP} : p.ok = true ↔ p.x.ok = true ∧ p.y.ok = true := by unfold QP.ok; simp
theorem toP_ok {p : QP} (h : p.ok = true) : ptOkB (toP p) = true := by
 obtain ⟨h1,h2⟩ := QP.ok_iff.1 h
 show (ratOkB (toR p.x) && ratOkB (toR p.y)) = true
 rw [toR_ok h1,toR_ok h2]; rfl
theorem ifP_ok {p : TPoint} (h : ptOkB p = true) : ifP p = p := by unfold ifP; rw [h]; rfl
def pqadd (p q : QP) : QP := ⟨cadd p.x q.x,cadd p.y q.y⟩
def pqsub (p q : QP) : QP := ⟨csub p.x q.x,csub p.y q.y⟩
def pqscale (r : Q) (p : QP) : QP := ⟨cmul r p.x,cmul r p.y⟩
def qcross (p q : QP) : Q := csub (cmul p.x q.y) (cmul p.y q.x)
def qdarea (a b c : QP) : Q := qcross (pqsub b a) (pqsub c a)
def qinner (p q : QP) : Q := cadd (cmul p.x q.x) (cmul p.y q.y)
theorem pqadd_ok {p q : QP} (h : (pqadd p q).ok = true) : p.ok = true ∧ q.ok = true ∧ padd (toP p) (toP q) = toP (pqadd p q) := by
 obtain ⟨h1,h2⟩ := QP.ok_iff.1 h
 obtain ⟨a1,a2,a3⟩ := cadd_ok h1
 obtain ⟨b1,b2,b3⟩ := cadd_ok h2
 refine ⟨QP.ok_iff.2 ⟨a1,b1⟩,QP.ok_iff.2 ⟨a2,b2⟩, ?_⟩
 have e : (⟨radd (toP p).x (toP q).x,radd (toP p).y (toP q).y⟩ : TPoint) = toP (pqadd p q) := by
  show (⟨radd (toR p.x) (toR q.x),radd (toR p.y) (toR q.y)⟩ : TPoint) = _; rw [a3,b3]; rfl
 unfold padd; rw [e]; exact ifP_ok (toP_ok h)
theorem pqsub_ok {p q : QP} (h : (pqsub p q).ok = true) : p.ok = true ∧ q.ok = true ∧ psub (toP p) (toP q) = toP (pqsub p q) := by
 obtain ⟨h1,h2⟩ := QP.ok_iff.1 h
 obtain ⟨a1,a2,a3⟩ := csub_ok h1
 obtain ⟨b1,b2,b3⟩ := csub_ok h2
 refine ⟨QP.ok_iff.2 ⟨a1,b1⟩,QP.ok_iff.2 ⟨a2,b2⟩, ?_⟩
 have e : (⟨rsub (toP p).x (toP q).x,rsub (toP p).y (toP q).y⟩ : TPoint) = toP (pqsub p q) := by
  show (⟨rsub (toR p.x) (toR q.x),rsub (toR p.y) (toR q.y)⟩ : TPoint) = _; rw [a3,b3]; rfl
 unfold psub; rw [e]; exact ifP_ok (toP_ok h)
theorem pqscale_ok {r : Q} {p : QP} (h : (pqscale r p).ok = true) : r.ok = true ∧ p.ok = true ∧ pscale (toR r) (toP p) = toP (pqscale r p) := by
 obtain ⟨h1,h2⟩ := QP.ok_iff.1 h
 obtain ⟨a1,a2,a3⟩ := cmul_ok h1
 obtain ⟨b1,b2,b3⟩ := cmul_ok h2
 refine ⟨a1,QP.ok_iff.2 ⟨a2,b2⟩, ?_⟩
 have e : (⟨rmul (toR r) (toP p).x,rmul (toR r) (toP p).y⟩ : TPoint) = toP (pqscale r p) := by
  show (⟨rmul (toR r) (toR p.x),rmul (toR r) (toR p.y)⟩ : TPoint) = _; rw [a3,b3]; rfl
 unfold pscale; rw [e]; exact ifP_ok (toP_ok h)
theorem qcross_ok {p q : QP} (h : (qcross p q).ok = true) : p.ok = true ∧ q.ok = true ∧ cross (toP p) (toP q) = toR (qcross p q) := by
 obtain ⟨h1,h2,h3⟩ := csub_ok h
 obtain ⟨a1,a2,a3⟩ := cmul_ok h1
 obtain ⟨b1,b2,b3⟩ := cmul_ok h2
 refine ⟨QP.ok_iff.2 ⟨a1,b1⟩,QP.ok_iff.2 ⟨b2,a2⟩, ?_⟩
 show rsub (rmul (toR p.x) (toR q.y)) (rmul (toR p.y) (toR q.x)) = _
 rw [a3,b3]; exact h3
theorem qdarea_ok {a b c : QP} (h : (qdarea a b c).ok = true) : a.ok = true ∧ b.ok = true ∧ c.ok = true ∧ darea (toP a) (toP b) (toP c) = toR (qdarea a b c) := by
 obtain ⟨h1,h2,h3⟩ := qcross_ok h
 obtain ⟨a1,a2,a3⟩ := pqsub_ok h1
 obtain ⟨b1,b2,b3⟩ := pqsub_ok h2
 refine ⟨a2,a1,b1, ?_⟩
 unfold darea; rw [a3,b3]; exact h3
theorem qinner_ok {p q : QP} (h : (qinner p q).ok = true) : p.ok = true ∧ q.ok = true ∧ inner (toP p) (toP q) = toR (qinner p q) := by
 obtain ⟨h1,h2,h3⟩ := cadd_ok h
 obtain ⟨a1,a2,a3⟩ := cmul_ok h1
 obtain ⟨b1,b2,b3⟩ := cmul_ok h2
 refine ⟨QP.ok_iff.2 ⟨a1,b1⟩,QP.ok_iff.2 ⟨a2,b2⟩, ?_⟩
 show radd (rmul (toR p.x) (toR q.x)) (rmul (toR p.y) (toR q.y)) = _
 rw [a3,b3]; exact h3
def q12 : Q := ⟨1,2⟩
def q13 : Q := ⟨1,3⟩
def qmid (p q : QP) : QP := pqscale q12 (pqadd p q)
def qareaP (a b c : QP) : Q := cmul q12 (qdarea a b c)
def qcent (a b c : QP) : QP := pqscale q13 (pqadd (pqadd a b) c)
theorem qmid_ok {p q : QP} (h : (qmid p q).ok = true) : pmid (toP p) (toP q) = toP (qmid p q) := by
 obtain ⟨_,h2,h3⟩ := pqscale_ok h
 unfold pmid; rw [(pqadd_ok h2).2.2]; exact h3
theorem qareaP_ok {a b c : QP} (h : (qareaP a b c).ok = true) : areaP (toP a) (toP b) (toP c) = toR (qareaP a b c) := by
 obtain ⟨_,h2,h3⟩ := cmul_ok h
 unfold areaP; rw [(qdarea_ok h2).2.2.2]; exact h3
theorem qcent_ok {a b c : QP} (h : (qcent a b c).ok = true) : centP (toP a) (toP b) (toP c) = toP (qcent a b c) := by
 obtain ⟨_,h2,h3⟩ := pqscale_ok h
 obtain ⟨k1, _,k3⟩ := pqadd_ok h2
 unfold centP; rw [(pqadd_ok k1).2.2,k3]; exact h3
def qi (n : Int) : Q := ⟨n,1⟩
def qpt (x y : Int) : QP := ⟨qi x,qi y⟩
theorem rint_qi {n : Int} (h : -1000 ≤ n ∧ n ≤ 1000) : rint n = toR (qi n) := toR_int (by omega) (by omega)
theorem ptI_q {x y : Int} (hx : -1000 ≤ x ∧ x ≤ 1000) (hy : -1000 ≤ y ∧ y ≤ 1000) : ptI x y = toP (qpt x y) := by unfold ptI; rw [rint_qi hx,rint_qi hy]; rfl
def qfieldTo (l : List QP) (fs : List Q) (z : QP) : Nat → QP
 | 0 => qpt 0 0
 | k + 1 => pqadd (qfieldTo l fs z k) (pqscale (fs.getD k qbad) (pqsub z (l.getD k ⟨qbad,qbad⟩)))
def qfield (a b c : QP) (fs : List Q) (z : QP) : QP := pqscale (cdiv (qi 1) (qdarea a b c)) (qfieldTo [a,b,c] fs z 3)
theorem qfieldTo_ok {l : List QP} {fs : List Q} {z : QP} : ∀ k,(qfieldTo l fs z k).ok = true → fieldTo (l.map toP) (fs.map toR) (toP z) k = toP (qfieldTo l fs z k)
 | 0, _ => ptI_q (by decide) (by decide)
 | k + 1,h => by
  obtain ⟨h1,h2,h3⟩ := pqadd_ok (show (pqadd _ _).ok = true from h)
  obtain ⟨k1,k2,k3⟩ := pqscale_ok h2
  obtain ⟨m1,m2,m3⟩ := pqsub_ok k2
  have e1 : (fs.map toR).getD k zeroR = toR (fs.getD k qbad) := by
   rw [List.getD_eq_getElem?_getD,List.getD_eq_getElem?_getD,List.getElem?_map]
   cases hf : fs[k]? with
   | none => rw [List.getD_eq_getElem?_getD,hf] at k1; exact absurd k1 (by rw [Option.getD_none,qbad_ok]; decide)
   | some v => rfl
  have e2 : (l.map toP).getD k pt0 = toP (l.getD k ⟨qbad,qbad⟩) := by
   rw [List.getD_eq_getElem?_getD,List.getD_eq_getElem?_getD,List.getElem?_map]
   cases hf : l[k]? with
   | none => rw [List.getD_eq_getElem?_getD,hf] at m2; exact absurd (QP.ok_iff.1 m2).1 (by rw [Option.getD_none,qbad_ok]; decide)
   | some v => rfl
  rw [fieldTo,e1,e2,qfieldTo_ok k h1,m3,k3]
  exact h3
theorem qfield_ok {a b c : QP} {fs : List Q} {z : QP} (h : (qfield a b c fs z).ok = true) : (qdarea a b c).ok = true ∧ 0 < (qdarea a b c).n ∧ fieldP (toP a) (toP b) (toP c) (fs.map toR) (toP z) = toP (qfield a b c fs z) := by
 obtain ⟨h1,h2,h3⟩ := pqscale_ok h
 obtain ⟨k1,k2,k3,k4⟩ := cdiv_ok h1
 refine ⟨k2,k3, ?_⟩
 unfold fieldP
 rw [(qdarea_ok k2).2.2.2,rint_qi (by decide),k4]
 rw [show ([toP a,toP b,toP c] : List TPoint) = [a,b,c].map toP from rfl,qfieldTo_ok 3 h2]
 exact h3
def qsqTo (a b c : QP) (fs : List Q) (more : QP) : Nat → Q
 | 0 => qi 0
 | k + 1 => cadd (qsqTo a b c fs more k) (qinner (pqadd (qfield a b c fs ([qmid b c,qmid c a,qmid a b].getD k ⟨qbad,qbad⟩)) more) (pqadd (qfield a b c fs ([qmid b c,qmid c a,qmid a b].getD k ⟨qbad,qbad⟩)) more))
def qsqOver (a b c : QP) (fs : List Q) (more : QP) : Q := cmul (qareaP a b c) (cmul q13 (qsqTo a b c fs more 3))
theorem qsqTo_ok {a b c : QP} {fs : List Q} {more : QP} (hm : (qmid b c).ok = true ∧ (qmid c a).ok = true ∧ (qmid a b).ok = true) : ∀ k,k ≤ 3 → (qsqTo a b c fs more k).ok = true → sqTo (toP a) (toP b) (toP c) (fs.map toR) (toP more) k = toR (qsqTo a b c fs more k)
 | 0, _, _ => rint_qi (by decide)
 | k + 1,hk,h => by
  obtain ⟨h1,h2,h3⟩ := cadd_ok (show (cadd _ _).ok = true from h)
  obtain ⟨k1, _,k3⟩ := qinner_ok h2
  obtain ⟨m1,m2,m3⟩ := pqadd_ok k1
  have e : (mids3' (toP a) (toP b) (toP c)).getD k pt0 = toP ([qmid b c,qmid c a,qmid a b].getD k ⟨qbad,qbad⟩) := by
   unfold mids3'
   rw [qmid_ok hm.1,qmid_ok hm.2.1,qmid_ok hm.2.2]
   obtain rfl | rfl | rfl : k = 0 ∨ k = 1 ∨ k = 2 := by omega
   ·simp only [List.getD_cons_zero]
   ·simp only [List.getD_cons_zero,List.getD_cons_succ]
   ·simp only [List.getD_cons_zero,List.getD_cons_succ]
  rw [sqTo,e,(qfield_ok m1).2.2,m3,k3,qsqTo_ok hm k (by omega) h1]
  exact h3
theorem qsqOver_ok {a b c : QP} {fs : List Q} {more : QP} (hm : (qmid b c).ok = true ∧ (qmid c a).ok = true ∧ (qmid a b).ok = true) (h : (qsqOver a b c fs more).ok = true) : sqOver (toP a) (toP b) (toP c) (fs.map toR) (toP more) = toR (qsqOver a b c fs more) := by
 obtain ⟨h1,h2,h3⟩ := cmul_ok h
 obtain ⟨_,k2,k3⟩ := cmul_ok h2
 unfold sqOver
 rw [qareaP_ok h1,qsqTo_ok hm 3 (Nat.le_refl _) k2,show mkR 1 3 = toR q13 from rfl,k3]
 exact h3
end Go.Proofs.YtpfipnankjeokaaGreat.X

/- Fields on coarse meshes: the check of one triangle and what it shows (plain). -/
namespace Go.Proofs.YtpfipnankjeokaaGreat.X
open Go.RowKit Go.XB Go.XN
def pqAt (l : List QP) (i : Int) : QP := l.getD i.toNat ⟨qbad,qbad⟩
def qflowOf (es : List TEdge) (fq : List Q) (k a b : Int) : Q := if (es.getD (bsAt es (ekey a b)) edge0).left = k then fq.getD (bsAt es (ekey a b)) qbad else cneg (fq.getD (bsAt es (ekey a b)) qbad)
def qleftTo (es : List TEdge) (fq : List Q) (t : Int) : Nat → Q
 | 0 => qi 0
 | k + 1 => if (es.getD k edge0).left = t then cadd (qleftTo es fq t k) (fq.getD k qbad) else qleftTo es fq t k
def qrightTo (es : List TEdge) (fq : List Q) (t : Int) : Nat → Q
 | 0 => qi 0
 | k + 1 => if (es.getD k edge0).right = t then cadd (qrightTo es fq t k) (fq.getD k qbad) else qrightTo es fq t k
def qoutP (es : List TEdge) (fq : List Q) (t : Int) : Q := csub (qleftTo es fq t es.length) (qrightTo es fq t es.length)
theorem getD_toR {fq : List Q} {k : Nat} (h : (fq.getD k qbad).ok = true) : (fq.map toR).getD k zeroR = toR (fq.getD k qbad) := by
 rw [List.getD_eq_getElem?_getD,List.getD_eq_getElem?_getD,List.getElem?_map]
 cases hf : fq[k]? with
 | none => rw [List.getD_eq_getElem?_getD,hf] at h; exact absurd h (by rw [Option.getD_none,qbad_ok]; decide)
 | some v => rfl
theorem qflowOf_ok {es : List TEdge} {fq : List Q} {k a b : Int} (h : (qflowOf es fq k a b).ok = true) : flowOf es (fq.map toR) k a b = toR (qflowOf es fq k a b) := by
 unfold flowOf qflowOf at *
 split
 ·rename_i hc
  rw [if_pos hc] at h
  rw [getD_toR h]
 ·rename_i hc
  rw [if_neg hc] at h
  obtain ⟨h1,h2⟩ := cneg_ok h
  rw [getD_toR h1,h2]
theorem qleft_ok {es : List TEdge} {fq : List Q} {t : Int} : ∀ k,(qleftTo es fq t k).ok = true → leftTo es (fq.map toR) t k = toR (qleftTo es fq t k)
 | 0, _ => rint_qi (by decide)
 | k + 1,h => by
  unfold leftTo
  rw [qleftTo] at h ⊢
  split
  ·rename_i hc
   rw [if_pos hc] at h
   obtain ⟨h1,h2,h3⟩ := cadd_ok h
   rw [qleft_ok k h1,getD_toR h2,h3]
  ·rename_i hc
   rw [if_neg hc] at h
   exact qleft_ok k h
theorem qright_ok {es : List TEdge} {fq : List Q} {t : Int} : ∀ k,(qrightTo es fq t k).ok = true → rightTo es (fq.map toR) t k = toR (qrightTo es fq t k)
 | 0, _ => rint_qi (by decide)
 | k + 1,h => by
  unfold rightTo
  rw [qrightTo] at h ⊢
  split
  ·rename_i hc
   rw [if_pos hc] at h
   obtain ⟨h1,h2,h3⟩ := cadd_ok h
   rw [qright_ok k h1,getD_toR h2,h3]
  ·rename_i hc
   rw [if_neg hc] at h
   exact qright_ok k h
theorem qoutP_ok {es : List TEdge} {fq : List Q} {t : Int} (h : (qoutP es fq t).ok = true) : outP es (fq.map toR) t = toR (qoutP es fq t) := by
 obtain ⟨h1,h2,h3⟩ := csub_ok h
 unfold outP
 rw [qleft_ok _ h1,qright_ok _ h2]; exact h3
def qcflux (pts : List QP) (es : List TEdge) (d : QP) : List Q := es.map (fun e => qcross d (pqsub (pqAt pts e.b) (pqAt pts e.a)))
theorem ptAt_q {pts : List QP} {i : Int} (h : (pqAt pts i).ok = true) : ptAt (pts.map toP) i = toP (pqAt pts i) := by
 unfold ptAt pqAt at *
 rw [List.getD_eq_getElem?_getD,List.getD_eq_getElem?_getD,List.getElem?_map]
 cases hf : pts[i.toNat]? with
 | none => rw [List.getD_eq_getElem?_getD,hf] at h; exact absurd (QP.ok_iff.1 h).1 (by rw [Option.getD_none,qbad_ok]; decide)
 | some v => rfl
theorem qcflux_ok {pts : List QP} {m : TMesh} {d : QP} (hp : m.points = pts.map toP) (h : (qcflux pts (edgesL m.triangles) d).all Q.ok = true) : cflux m (toP d) = (qcflux pts (edgesL m.triangles) d).map toR := by
 unfold cflux qcflux at *
 rw [List.map_map]
 refine List.map_congr_left fun e he => ?_
 have h1 : (qcross d (pqsub (pqAt pts e.b) (pqAt pts e.a))).ok = true := List.all_eq_true.1 h _ (List.mem_map_of_mem he)
 obtain ⟨k1,k2,k3⟩ := qcross_ok h1
 obtain ⟨m1,m2,m3⟩ := pqsub_ok k2
 rw [hp,ptAt_q m1,ptAt_q m2,m3,k3]
 rfl
def _root_.Go.Proofs.YtpfipnankjeokaaGreat.X.QP.okN (p : QP) : Bool := p.x.okN && p.y.okN
theorem okN_fun : Q.okN = Q.ok := funext okN_ok
theorem QP.okN_ok (p : QP) : p.okN = p.ok := by unfold QP.okN QP.ok; rw [_root_.Go.Proofs.YtpfipnankjeokaaGreat.X.okN_ok, _root_.Go.Proofs.YtpfipnankjeokaaGreat.X.okN_ok]
def chkTri (pts : List QP) (es : List TEdge) (fq : List Q) (d : QP) (k a b c : Int) : Bool :=
 let A := pqAt pts a; let B := pqAt pts b; let C := pqAt pts c
 let fl := [qflowOf es fq k b c,qflowOf es fq k c a,qflowOf es fq k a b]
 let F := qfield A B C fl (qcent A B C)
 let S := qsqOver A B C fl (qpt 0 0)
 let T := cmul (qareaP A B C) (qinner d d)
 let O := qoutP es fq k
 bsIn es (ekey b c) && (bsIn es (ekey c a) && (bsIn es (ekey a b) && (fl.all Q.okN && (F.okN && (qeq F.x d.x && (qeq F.y d.y && ((qcent A B C).okN && (O.okN && (decide (O.n = 0) && (S.okN && (T.okN && (qeq S T && ((qmid B C).okN && ((qmid C A).okN && (qmid A B).okN))))))))))))))
structure TriGood (m : TMesh) (fs : List TRat) (d : TPoint) (k : Nat) (t : TTri) : Prop where
 si : sidesIn (edgesL m.triangles) t
 d1 : ratOkB (darea (ptAt m.points t.a) (ptAt m.points t.b) (ptAt m.points t.c)) = true
 d2 : (darea (ptAt m.points t.a) (ptAt m.points t.b) (ptAt m.points t.c)).num.mag ≠ []
 pr : properB [ptAt m.points t.a,ptAt m.points t.b,ptAt m.points t.c] = true
 co : ptOkB (centP (ptAt m.points t.a) (ptAt m.points t.b) (ptAt m.points t.c)) = true
 fa : fieldP (ptAt m.points t.a) (ptAt m.points t.b) (ptAt m.points t.c) (flowsL (edgesL m.triangles) fs k t) (centP (ptAt m.points t.a) (ptAt m.points t.b) (ptAt m.points t.c)) = d
 ou : rsign (outP (edgesL m.triangles) fs k) = 0
 sq : sqOver (ptAt m.points t.a) (ptAt m.points t.b) (ptAt m.points t.c) (flowsL (edgesL m.triangles) fs k t) (ptI 0 0) = rmul (areaP (ptAt m.points t.a) (ptAt m.points t.b) (ptAt m.points t.c)) (inner d d)
 mi : midsOf [ptAt m.points t.a,ptAt m.points t.b,ptAt m.points t.c] = mids3 (ptAt m.points t.a) (ptAt m.points t.b) (ptAt m.points t.c)
theorem tri_good {m : TMesh} {pts : List QP} {fq : List Q} {d : QP} {k : Nat} {t : TTri} (hp : m.points = pts.map toP) (hd : d.ok = true) (h : chkTri pts (edgesL m.triangles) fq d k t.a t.b t.c = true) : TriGood m (fq.map toR) (toP d) k t := by
 unfold chkTri at h
 simp only [QP.okN_ok,okN_fun] at h
 simp only [Bool.and_eq_true,decide_eq_true_eq] at h
 obtain ⟨s1,s2,s3,hfl,hF,hFx,hFy,hC,hO,hO0,hS,hT,hST,m1,m2,m3⟩ := h
 obtain ⟨f1,f2,f3⟩ := qfield_ok hF
 obtain ⟨a1,a2,a3,a4⟩ := qdarea_ok f1
 have eA := ptAt_q a1
 have eB := ptAt_q a2
 have eC := ptAt_q a3
 rw [← hp] at eA eB eC
 have hsg : rsign (toR (qdarea (pqAt pts t.a) (pqAt pts t.b) (pqAt pts t.c))) = 1 := by
  rw [toR_sign f1,sgn_pos1 f2]
 have hfl2 : flowsL (edgesL m.triangles) (fq.map toR) k t = [qflowOf (edgesL m.triangles) fq k t.b t.c,qflowOf (edgesL m.triangles) fq k t.c t.a,qflowOf (edgesL m.triangles) fq k t.a t.b].map toR := by
  have g := List.all_eq_true.1 hfl
  unfold flowsL
  rw [qflowOf_ok (g _ (by simp)),qflowOf_ok (g _ (by simp)),qflowOf_ok (g _ (by simp))]
  rfl
 have hpr : properB [ptAt m.points t.a,ptAt m.points t.b,ptAt m.points t.c] = true := by
  rw [eA,eB,eC]
  show ((ptOkB (toP (pqAt pts t.a)) && (ptOkB (toP (pqAt pts t.b)) && ptOkB (toP (pqAt pts t.c)))) && decide (0 < rsign (darea (toP (pqAt pts t.a)) (toP (pqAt pts t.b)) (toP (pqAt pts t.c))))) = true
  rw [toP_ok a1,toP_ok a2,toP_ok a3,a4,hsg]; rfl
 refine ⟨⟨s1,s2,s3⟩, ?_, ?_,hpr, ?_, ?_, ?_, ?_, ?_⟩
 ·rw [eA,eB,eC,a4]; exact toR_ok f1
 ·rw [eA,eB,eC,a4]
  intro e
  have V := toR_ok f1
  unfold rsign at hsg
  rw [V] at hsg
  have h0 : numv (toR (qdarea (pqAt pts t.a) (pqAt pts t.b) (pqAt pts t.c))) = 0 := by unfold numv ival; rw [e]; simp [val]
  unfold rsignV at hsg
  rw [h0] at hsg
  exact absurd hsg (by decide)
 ·rw [eA,eB,eC,qcent_ok hC]; exact toP_ok hC
 ·rw [eA,eB,eC,qcent_ok hC,hfl2,f3]
  obtain ⟨o1,o2⟩ := QP.ok_iff.1 hF
  obtain ⟨d1,d2⟩ := QP.ok_iff.1 hd
  unfold toP
  rw [toR_eq o1 d1 hFx,toR_eq o2 d2 hFy]
 ·rw [qoutP_ok hO,toR_sign hO,hO0]; rfl
 ·rw [eA,eB,eC,hfl2,ptI_q (by decide) (by decide),qsqOver_ok ⟨m1,m2,m3⟩ hS,toR_eq hS hT hST]
  obtain ⟨t1,t2,t3⟩ := cmul_ok hT
  rw [qareaP_ok t1,(qinner_ok t2).2.2]; exact t3.symm
 ·refine mids_good hpr ?_
  rw [eA,eB,eC]
  show ([pmid _ _,pmid _ _,pmid _ _] : List TPoint).all ptOkB = true
  rw [qmid_ok m1,qmid_ok m2,qmid_ok m3]
  simp [toP_ok m1,toP_ok m2,toP_ok m3]
end Go.Proofs.YtpfipnankjeokaaGreat.X

/- Fields on coarse meshes: the shapes and the drawn points,as numbers; the check of a mesh (plain). -/
namespace Go.Proofs.YtpfipnankjeokaaGreat.X
open Go.RowKit Go.XB Go.XN
def shp : Nat → List (Int × Int) × List (Int × Int × Int)
 | 0 => ([(0,0),(2,0),(2,2),(0,2),(1,1)], [(4,0,1),(4,1,2),(4,2,3),(4,3,0)])
 | 1 => ([(0,0),(2,0),(2,1),(0,2)], [(1,2,0),(3,0,2)])
 | _ => ([(0,0),(1,0),(2,0),(2,1),(1,1),(1,2),(0,2),(0,1)], [(1,4,0),(7,0,4),(3,4,2),(1,2,4),(7,4,6),(5,6,4)])
def shpPts (s : Nat) : List QP := (shp s).1.map (fun p => qpt p.1 p.2)
def shpXs (s : Nat) : List Int := (shp s).1.map (·.1)
def shpYs (s : Nat) : List Int := (shp s).1.map (·.2)
def shpTs (s : Nat) : List TTri := (shp s).2.map (fun t => ⟨t.1,t.2.1,t.2.2,0,0⟩)
def dQ (x y q : Int) : QP := ⟨if q = 0 then qi x else cadd (qi x) ⟨1,q⟩,qi y⟩
def chkMesh (s : Nat) (es : List TEdge) (x y q : Int) : Bool :=
 let fq := qcflux (shpPts s) es (dQ x y q)
 (dQ x y q).okN && (fq.all Q.okN && ((shpTs s).zipIdx.all fun (t,k) => chkTri (shpPts s) es fq (dQ x y q) k t.a t.b t.c))
def nine : List Int := [-4, -3, -2, -1,0,1,2,3,4]
def chkShape (s : Nat) : Bool := nine.all fun x => nine.all fun y => [0,2,3,4].all fun q => chkMesh s (edgesL (shpTs s)) x y q
end Go.Proofs.YtpfipnankjeokaaGreat.X

/- The kernel reckons shape 0 through. -/
namespace Go.Proofs.YtpfipnankjeokaaGreat.X
set_option maxRecDepth 100000 in
theorem chkS0 : chkShape 0 = true := by decide +kernel
end Go.Proofs.YtpfipnankjeokaaGreat.X

/- The kernel reckons shape 1 through. -/
namespace Go.Proofs.YtpfipnankjeokaaGreat.X
set_option maxRecDepth 100000 in
theorem chkS1 : chkShape 1 = true := by decide +kernel
end Go.Proofs.YtpfipnankjeokaaGreat.X

/- The kernel reckons shape 2 through. -/
namespace Go.Proofs.YtpfipnankjeokaaGreat.X
set_option maxRecDepth 100000 in
theorem chkS2 : chkShape 2 = true := by decide +kernel
end Go.Proofs.YtpfipnankjeokaaGreat.X

/- Fields on coarse meshes: all that the law asks (plain). -/
namespace Go.Proofs.YtpfipnankjeokaaGreat.X
open Go.RowKit Go.XB Go.XN
structure FieldsGood (m : TMesh) (d : TPoint) (xs ys : List Int) : Prop where
 mesh : MeshI m xs ys
 dok : ptOkB d = true
 ein : ∀ e ∈ edgesL m.triangles,(0 ≤ e.a ∧ e.a < m.points.length) ∧ (0 ≤ e.b ∧ e.b < m.points.length)
 den : (cflux m d).any denBad = false
 fok : (cflux m d).all ratOkB = true
 len : 0 < (cflux m d).length
 tri : ∀ (k : Nat) (t : TTri),m.triangles[k]? = some t → TriGood m (cflux m d) d k t
def triInB (n : Nat) (t : TTri) : Bool := (decide (0 ≤ t.a) && decide (t.a < n)) && ((decide (0 ≤ t.b) && decide (t.b < n)) && (decide (0 ≤ t.c) && decide (t.c < n)))
theorem triInB_iff {n : Nat} {t : TTri} (h : triInB n t = true) : triIn n t := by
 unfold triInB at h
 simp only [Bool.and_eq_true,decide_eq_true_eq] at h
 exact ⟨h.1,h.2.1,h.2.2⟩
def cleanB (xs ys : List Int) (a b : Int) (n : Nat) : Bool := (List.range n).all fun c => decide ((c : Int) = a) || (decide ((c : Int) = b) || !insideI xs ys a b c)
theorem cleanB_iff {xs ys : List Int} {a b : Int} {n : Nat} (h : cleanB xs ys a b n = true) : clean xs ys a b n := by
 intro c hc
 have := List.all_eq_true.1 h c (List.mem_range.2 hc)
 simp only [Bool.or_eq_true,decide_eq_true_eq,Bool.not_eq_true'] at this
 exact this
def meshB (xs ys : List Int) (n : Nat) (ts : List TTri) : Bool :=
 (xs.all fun x => decide (-100 ≤ x) && decide (x ≤ 100)) && ((ys.all fun x => decide (-100 ≤ x) && decide (x ≤ 100)) && (decide (3 ≤ n) && (decide (n ≤ 40) && (decide (1 ≤ ts.length) && (decide (ts.length ≤ 48) &&
 ((ts.all fun t => triInB n t && (inB 0 t.region 2 && (inB 0 t.level 60 && decide (0 < turnI xs ys t.a t.b t.c)))) &&
 (((List.range ts.length).all fun k => (List.range k).all fun j => sepI xs ys (ts.getD j ⟨0,0,0,0,0⟩) (ts.getD k ⟨0,0,0,0,0⟩) || sepI xs ys (ts.getD k ⟨0,0,0,0,0⟩) (ts.getD j ⟨0,0,0,0,0⟩)) &&
 (decide (usedTo n ts ts.length = List.replicate n true) &&
 ((ts.all fun t => cleanB xs ys t.a t.b n && (cleanB xs ys t.b t.c n && cleanB xs ys t.c t.a n)) &&
 ((edgesL ts).all fun e => (decide (0 ≤ e.a) && decide (e.a < n)) && (decide (0 ≤ e.b) && decide (e.b < n))))))))))))
theorem meshB_good {m : TMesh} {xs ys : List Int} {n : Nat} (hn : m.points.length = n) (hp : PtsI m.points xs ys) (hok : m.points.all ptOkB = true) (hnd : m.points.Nodup) (h : meshB xs ys n m.triangles = true) :
  MeshI m xs ys ∧ ∀ e ∈ edgesL m.triangles,(0 ≤ e.a ∧ e.a < m.points.length) ∧ (0 ≤ e.b ∧ e.b < m.points.length) := by
 subst hn
 unfold meshB at h
 simp only [Bool.and_eq_true,decide_eq_true_eq] at h
 obtain ⟨h1,h2,h3,h4,h5,h6,h7,h8,h9,h10,h11⟩ := h
 refine ⟨⟨hp, ?_, ?_,h3,h4,hok,hnd,h5,h6, ?_, ?_,h9, ?_⟩, ?_⟩
 ·intro x hx
  have := List.all_eq_true.1 h1 x hx
  simpa using this
 ·intro x hx
  have := List.all_eq_true.1 h2 x hx
  simpa using this
 ·intro t ht
  have := List.all_eq_true.1 h7 t ht
  simp only [Bool.and_eq_true,decide_eq_true_eq] at this
  exact ⟨triInB_iff this.1,this.2.1,this.2.2.1,this.2.2.2⟩
 ·intro k t j s hk hj hs
  have hkl := (List.getElem?_eq_some_iff.1 hk).1
  have := List.all_eq_true.1 (List.all_eq_true.1 h8 k (List.mem_range.2 hkl)) j (List.mem_range.2 hj)
  rw [List.getD_eq_getElem?_getD,List.getD_eq_getElem?_getD,hk,hs] at this
  simpa using this
 ·intro t ht
  have := List.all_eq_true.1 h10 t ht
  simp only [Bool.and_eq_true] at this
  exact ⟨cleanB_iff this.1,cleanB_iff this.2.1,cleanB_iff this.2.2⟩
 ·intro e he
  have := List.all_eq_true.1 h11 e he
  simpa using this
theorem rint_inj {a b : Int} (h : rint a = rint b) : a = b := by
 have h1 : ival (encI a) = ival (encI b) := congrArg (fun r => ival r.num) h
 rwa [ival_enc,ival_enc] at h1
theorem pts_facts {m : TMesh} (L : List (Int × Int)) (hm : m.points = L.map (fun p => ptI p.1 p.2)) (hL : ∀ p ∈ L,(-1000 ≤ p.1 ∧ p.1 ≤ 1000) ∧ (-1000 ≤ p.2 ∧ p.2 ≤ 1000)) (hnd : L.Nodup) :
  m.points.length = L.length ∧ PtsI m.points (L.map (·.1)) (L.map (·.2)) ∧ m.points.all ptOkB = true ∧ m.points.Nodup ∧ m.points = (L.map (fun p => qpt p.1 p.2)).map toP := by
 rw [hm]
 refine ⟨by simp,⟨by simp,by simp, ?_⟩, ?_, ?_, ?_⟩
 ·intro k p hk
  rw [List.getElem?_map] at hk
  obtain ⟨u,hu,rfl⟩ := Option.map_eq_some_iff.1 hk
  unfold at0
  simp [List.getD,hu]
 ·rw [List.all_eq_true]
  intro p hp
  obtain ⟨u,hu,rfl⟩ := List.mem_map.1 hp
  obtain ⟨h1,h2⟩ := hL u hu
  show (ratOkB (rint u.1) && ratOkB (rint u.2)) = true
  rw [ratOkB_iff.2 (rint_V (by omega) (by omega)),ratOkB_iff.2 (rint_V (by omega) (by omega))]; rfl
 ·refine List.Pairwise.map _ ?_ hnd
  intro a b hab e
  apply hab
  have e1 := rint_inj (congrArg TPoint.x e)
  have e2 := rint_inj (congrArg TPoint.y e)
  exact Prod.ext e1 e2
 ·rw [List.map_map]
  refine List.map_congr_left fun p hp => ?_
  obtain ⟨h1,h2⟩ := hL p hp
  exact ptI_q h1 h2
theorem mem_nine {x : Int} (h : -4 ≤ x ∧ x ≤ 4) : x ∈ nine := by
 have : x = -4 ∨ x = -3 ∨ x = -2 ∨ x = -1 ∨ x = 0 ∨ x = 1 ∨ x = 2 ∨ x = 3 ∨ x = 4 := by omega
 rcases this with rfl | rfl | rfl | rfl | rfl | rfl | rfl | rfl | rfl <;> decide
theorem chk_at {s : Nat} (h : chkShape s = true) {x y q : Int} (hd : inD x y q) : chkMesh s (edgesL (shpTs s)) x y q = true := by
 have h1 := List.all_eq_true.1 h x (mem_nine hd.1)
 have h2 := List.all_eq_true.1 h1 y (mem_nine hd.2.1)
 refine List.all_eq_true.1 h2 q ?_
 have : q = 0 ∨ q = 2 ∨ q = 3 ∨ q = 4 := by have := hd.2.2; omega
 rcases this with rfl | rfl | rfl | rfl <;> decide
theorem dQ_toP {x y q : Int} (hd : inD x y q) (h : (dQ x y q).ok = true) : toP (dQ x y q) = ptD x y q := by
 unfold dQ ptD toP
 by_cases hq : q = 0
 ·rw [if_pos hq]; subst hq
  rw [rint_qi (by have := hd.1; omega),rint_qi (by have := hd.2.1; omega)]; simp
 ·rw [if_neg hq,rint_qi (by have := hd.1; omega),rint_qi (by have := hd.2.1; omega)]
  have h1 := (QP.ok_iff.1 h).1
  unfold dQ at h1
  simp only [if_neg hq] at h1
  obtain ⟨_, _,h3⟩ := cadd_ok h1
  simp only [if_neg hq]
  rw [← h3]; rfl
theorem fields_good {m : TMesh} {x y q : Int} (s : Nat) (hc : chkShape s = true) (hd : inD x y q)
  (hm : m.points = (shp s).1.map (fun p => ptI p.1 p.2)) (hL : ∀ p ∈ (shp s).1,(-1000 ≤ p.1 ∧ p.1 ≤ 1000) ∧ (-1000 ≤ p.2 ∧ p.2 ≤ 1000)) (hnd : (shp s).1.Nodup)
  (he : edgesL m.triangles = edgesL (shpTs s)) (hel : 0 < (edgesL (shpTs s)).length) (ht : ∀ (k : Nat) (t : TTri),m.triangles[k]? = some t → ∃ t',(shpTs s)[k]? = some t' ∧ t'.a = t.a ∧ t'.b = t.b ∧ t'.c = t.c)
  (hB : meshB (shpXs s) (shpYs s) (shp s).1.length m.triangles = true) : FieldsGood m (ptD x y q) (shpXs s) (shpYs s) := by
 obtain ⟨p1,p2,p3,p4,p5⟩ := pts_facts _ hm hL hnd
 obtain ⟨g1,g2⟩ := meshB_good p1 p2 p3 p4 hB
 have hk := chk_at hc hd
 unfold chkMesh at hk
 simp only [QP.okN_ok,okN_fun] at hk
 simp only [Bool.and_eq_true] at hk
 obtain ⟨k1,k2,k3⟩ := hk
 have eD := dQ_toP hd k1
 have p5' : m.points = (shpPts s).map toP := p5
 have fl : cflux m (ptD x y q) = (qcflux (shpPts s) (edgesL m.triangles) (dQ x y q)).map toR := by
  rw [← eD]; exact qcflux_ok p5' (by rw [he]; exact k2)
 refine ⟨g1,by rw [← eD]; exact toP_ok k1,g2, ?_, ?_, ?_, ?_⟩
 ·rw [fl,he,List.any_eq_false]
  intro r hr
  obtain ⟨u,hu,rfl⟩ := List.mem_map.1 hr
  have V := toR_V (List.all_eq_true.1 k2 u hu)
  unfold denBad
  intro e
  have e2 : (toR u).den = [] := by simpa using e
  have := V.den0
  rw [e2] at this
  simp [val] at this
 ·rw [fl,he,List.all_eq_true]
  intro r hr
  obtain ⟨u,hu,rfl⟩ := List.mem_map.1 hr
  exact toR_ok (List.all_eq_true.1 k2 u hu)
 ·unfold cflux; rw [List.length_map,he]; exact hel
 ·intro k t hkt
  obtain ⟨t',h1,ha,hb,hcc⟩ := ht k t hkt
  have := List.all_eq_true.1 k3 (t',k) (List.mem_zipIdx_iff_getElem?.2 h1)
  rw [fl, ← eD]
  refine tri_good p5' k1 ?_
  rw [he, ← ha, ← hb, ← hcc]
  exact this
theorem coarse_good {m : TMesh} {x y q : Int} (hm : IsCoarse m) (hd : inD x y q) : ∃ xs ys,FieldsGood m (ptD x y q) xs ys := by
 rcases hm with ⟨r,hr,rfl⟩ | ⟨r,hr,rfl⟩ | rfl
 ·obtain rfl | rfl : r = 0 ∨ r = 1 := by omega
  ·exact ⟨_, _,fields_good 0 chkS0 hd rfl (by decide) (by decide) (by decide +kernel) (by decide +kernel) (fun k t h => by
    match k,h with
    | 0,h => cases h; exact ⟨_,rfl,rfl,rfl,rfl⟩
    | 1,h => cases h; exact ⟨_,rfl,rfl,rfl,rfl⟩
    | 2,h => cases h; exact ⟨_,rfl,rfl,rfl,rfl⟩
    | 3,h => cases h; exact ⟨_,rfl,rfl,rfl,rfl⟩) (by decide +kernel)⟩
  ·exact ⟨_, _,fields_good 0 chkS0 hd rfl (by decide) (by decide) (by decide +kernel) (by decide +kernel) (fun k t h => by
    match k,h with
    | 0,h => cases h; exact ⟨_,rfl,rfl,rfl,rfl⟩
    | 1,h => cases h; exact ⟨_,rfl,rfl,rfl,rfl⟩
    | 2,h => cases h; exact ⟨_,rfl,rfl,rfl,rfl⟩
    | 3,h => cases h; exact ⟨_,rfl,rfl,rfl,rfl⟩) (by decide +kernel)⟩
 ·obtain rfl | rfl | rfl : r = 0 ∨ r = 1 ∨ r = 2 := by omega
  ·exact ⟨_, _,fields_good 1 chkS1 hd rfl (by decide) (by decide) (by decide +kernel) (by decide +kernel) (fun k t h => by
    match k,h with
    | 0,h => cases h; exact ⟨_,rfl,rfl,rfl,rfl⟩
    | 1,h => cases h; exact ⟨_,rfl,rfl,rfl,rfl⟩) (by decide +kernel)⟩
  ·exact ⟨_, _,fields_good 1 chkS1 hd rfl (by decide) (by decide) (by decide +kernel) (by decide +kernel) (fun k t h => by
    match k,h with
    | 0,h => cases h; exact ⟨_,rfl,rfl,rfl,rfl⟩
    | 1,h => cases h; exact ⟨_,rfl,rfl,rfl,rfl⟩) (by decide +kernel)⟩
  ·exact ⟨_, _,fields_good 1 chkS1 hd rfl (by decide) (by decide) (by decide +kernel) (by decide +kernel) (fun k t h => by
    match k,h with
    | 0,h => cases h; exact ⟨_,rfl,rfl,rfl,rfl⟩
    | 1,h => cases h; exact ⟨_,rfl,rfl,rfl,rfl⟩) (by decide +kernel)⟩
 ·exact ⟨_, _,fields_good 2 chkS2 hd rfl (by decide) (by decide) (by decide +kernel) (by decide +kernel) (fun k t h => by
    match k,h with
    | 0,h => cases h; exact ⟨_,rfl,rfl,rfl,rfl⟩
    | 1,h => cases h; exact ⟨_,rfl,rfl,rfl,rfl⟩
    | 2,h => cases h; exact ⟨_,rfl,rfl,rfl,rfl⟩
    | 3,h => cases h; exact ⟨_,rfl,rfl,rfl,rfl⟩
    | 4,h => cases h; exact ⟨_,rfl,rfl,rfl,rfl⟩
    | 5,h => cases h; exact ⟨_,rfl,rfl,rfl,rfl⟩) (by decide +kernel)⟩
end Go.Proofs.YtpfipnankjeokaaGreat.X
