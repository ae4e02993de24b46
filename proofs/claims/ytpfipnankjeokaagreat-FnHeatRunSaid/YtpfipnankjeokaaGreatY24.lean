/- Part of a claim's proof: texts of this repository's wip,joined by prune.py,without the theorems that the claim does not reach. -/
import Derived.Test.YtpfipnankjeokaaGreatY20
import Derived.Test.YtpfipnankjeokaaGreatY23
import Derived.Test.YtpfipnankjeokaaGreatY3
set_option linter.constructorNameAsVariable false
namespace Go.Proofs.YtpfipnankjeokaaGreat.X
open Go.RowKit Go.XB Go.XN
def rowsTo (n : Nat) (ps : List Int) : Nat → List Int
 | 0 => List.replicate n (-1)
 | k + 1 => (rowsTo n ps k).set (ps.getD k 0).toNat k
theorem rowsTo_len (n : Nat) (ps : List Int) : ∀ k,(rowsTo n ps k).length = n
 | 0 => by simp [rowsTo]
 | k + 1 => by rw [rowsTo]; simp [rowsTo_len n ps k]
theorem rowsTo_lt (n : Nat) (ps : List Int) : ∀ k, ∀ x ∈ rowsTo n ps k, -1 ≤ x ∧ x < k
 | 0,x,h => by have := List.eq_of_mem_replicate (show x ∈ List.replicate n (-1) from h); omega
 | k + 1,x,h => by
  rw [rowsTo] at h
  rcases List.mem_or_eq_of_mem_set h with h | rfl
  ·have := rowsTo_lt n ps k x h; omega
  ·omega
def rowsL (m : TMesh) : List Int := rowsTo m.points.length (ptsOfL m false) (ptsOfL m false).length
theorem pickTo_mem (fs : List Bool) (bd : Bool) : ∀ k, ∀ x ∈ pickTo fs bd k,0 ≤ x ∧ x < k
 | 0,x,h => by simp [pickTo] at h
 | k + 1,x,h => by
  rw [pickTo] at h
  split at h
  ·rcases List.mem_append.1 h with h | h
   ·have := pickTo_mem fs bd k x h; omega
   ·simp at h; omega
  ·have := pickTo_mem fs bd k x h; omega
theorem ptsOfL_mem {m : TMesh} {bd : Bool} : ∀ x ∈ ptsOfL m bd,0 ≤ x ∧ x < m.points.length := fun x h => pickTo_mem _ _ _ x h
theorem ptsOfL_len (m : TMesh) (bd : Bool) : (ptsOfL m bd).length ≤ m.points.length := pickTo_len _ _ _
def GivesRows (w : World) (rs : List Int) (k : Nat) (e : Ending) (w' : World) : Prop :=
 ∃ g n bs,e = .returned (.tuple #[.slice (some ⟨g,0,none⟩) n n, .int .i64 k]) ∧ Sl w' (some ⟨g,0,none⟩) n n rs bs ∧ Own w w' bs ∧ Below w.heap.size w w'
attribute [local go_sem] fillBy opAt deps depOf Region.wanted yielded
attribute [local simp] deps depOf MP.eq MP.agg MP.sl MP.slbox Facts
theorem flat_ints (n : Nat) (x : Int) : (List.replicate n [Value.int .i64 x]).flatten = (List.replicate n x).map (.int .i64) := by
 induction n with
 | zero => rfl
 | succ n ih => rw [List.replicate_succ,List.flatten_cons,ih,List.replicate_succ]; rfl
set_option maxHeartbeats 8000000 in
set_option maxRecDepth 10000 in
theorem impl_rowsOf (v : Value) (m : TMesh) (b : List Nat) (w : World) (hx : Agg w v m b) (h40 : m.points.length ≤ 40) (h48 : m.triangles.length ≤ 48) (hes : EdgeIn m) :
  Calls Tryz.prog 148 #[v] w (GivesRows w (rowsL m) (ptsOfL m false).length) := by
 have HX := hid hx; have H48 := hid h48; have H40 := hid h40; have HES := hid hes
 obtain ⟨A0,n0,c0,s0,A1,n1,c1,s1,rfl,rfl,hs0,hs1⟩ := TMesh.agg hx
 have HL0 := hid hs0.1
 have hn40 : n0 ≤ 40 := by rw [← hs0.1]; exact h40
 have hn0i : (n0 : Int) ≤ 40 := by omega
 obtain ⟨ps,hps⟩ : ∃ ps,ptsOfL m false = ps := ⟨_,rfl⟩
 have RE := hid (show rowsL m = rowsTo n0 ps ps.length by unfold rowsL; rw [HL0.out,hps])
 have PM := hid (show ∀ x ∈ ps,0 ≤ x ∧ x < n0 by rw [← hps, ← HL0.out]; exact ptsOfL_mem)
 have hpl : ps.length ≤ n0 := by rw [← hps, ← HL0.out]; exact ptsOfL_len m false
 have HPS := hid hps
 rw [hps]
 clear hs0 hs1 hx h40 h48 hes hps
 go_enter Tryz.func148,Tryz.ntmps148
 go_wp2_with fail
 refine (repeat_I1 (w.heap.size + 1) n0 [.int .i64 (-1)] _ (by have := heap_alloc_new (w.alloc (.cells #[.slice A0 n0 c0, .slice A1 n1 c1] 26)) (.cells #[.int .i64 (-1)] 3); rwa [World.size_alloc] at this) rfl (by simp [Value.oneCell']) hn40).mono ?_
 rintro _ w1 ⟨rfl,hown1,hb1⟩
 obtain ⟨hc_w1,hf_w1⟩ := bcell hb1
 have hz0_w1 : w.heap.size < w1.heap.size := by have := hb1.size; (try simp at this); omega
 rw [flat_ints,show ((w.alloc (.cells #[.slice A0 n0 c0, .slice A1 n1 c1] 26)).alloc (.cells #[.int .i64 (-1)] 3)).heap.size = w.heap.size + 1 + 1 by simp] at hown1
 have HB1 := hid (show Below w.heap.size w w1 from Below.go)
 have IR1 := hid (show IRow w1 (w.heap.size + 1 + 1) (w.heap.size + 1 + 1) n0 (rowsTo n0 ps 0) from hown1)
 clear hown1
 go_wp2_with fail
 refine (impl_pointsOf _ m _ false _ (HX.out.below HB1.out) H40.out H48.out HES.out).mono ?_
 rw [HPS.out]
 rintro _ w2 ⟨E,nf,cE,eb,rfl,hse,hoe,hb2⟩
 have hw1 := hb1.size
 simp at hw1
 have HSE := hid hse
 have hnf : nf ≤ 40 := by rw [← hse.1]; omega
 have hnfi : (nf : Int) ≤ 40 := by omega
 have HNF := hid hse.1
 have hil := IR1.out.lt
 have HEB := hid (show w.heap.size + 1 + 1 ∉ eb from fun h => by have := (hoe.2 _ h).1; omega)
 have HB2 := hid (Below.next HB1.out hb2)
 have IR2 := hid (IR1.out.below hb2)
 clear hse hoe hb2 hb1 hc_w1 hf_w1 IR1
 go_wp2_with fail
 go_loopg [17] nf (fun g s wr => ∃ k : Nat,k + g = nf ∧ s = .int .i64 k ∧ Hid (IRow wr (w.heap.size + 1 + 1) (w.heap.size + 1 + 1) n0 (rowsTo n0 ps k)) ∧ Hid (Sl wr E nf cE ps eb) ∧ Below w.heap.size w wr)
 case atStart => exact ⟨0,by omega,rfl,IR2.out,HSE.out,HB2.out⟩
 case round =>
  clear IR2 HSE
  obtain ⟨k,hk,rfl,hir,HSE,hb⟩ := hrel
  have HB := hid hb
  have hlt := hir.out.lt
  rcases Nat.lt_or_ge k nf with hkn | hkn
  ·have hki : (k : Int) < nf := by omega
   have hki0 : (0 : Int) ≤ k := by omega
   obtain ⟨g,rfl⟩ : ∃ g,gk = g + 1 := ⟨gk - 1,by omega⟩
   have hk' := hid (show k + 1 + g = nf by omega)
   have hk1 : k + 1 ≤ nf := hkn
   obtain ⟨be,oe,x,rfl,hbl,hx1,hi64,e0⟩ := Sl.getInt HSE.out hkn
   obtain ⟨hx0,hxn⟩ := PM.out x (List.mem_of_getElem? hx1)
   have EX := hid (show ps.getD k 0 = x from getD_of hx1)
   have NX := hid (show rowsTo n0 ps (k + 1) = (rowsTo n0 ps k).set x.toNat k by rw [rowsTo,EX.out])
   obtain ⟨uc,uf⟩ := hir.out.cell (j := x.toNat) (f := (rowsTo n0 ps k).getD x.toNat 0) (by
    rw [List.getD_eq_getElem?_getD,List.getElem?_eq_getElem (by rw [rowsTo_len]; omega)]; rfl)
   have IRn := hid (show IRow (wr.setCell ⟨w.heap.size + 1 + 1,x.toNat,none⟩ (.int .i64 k)) (w.heap.size + 1 + 1) (w.heap.size + 1 + 1) n0 (rowsTo n0 ps (k + 1)) by rw [NX.out]; exact hir.out.set _ _)
   have SEn := hid (HSE.out.keep (w' := wr.setCell ⟨w.heap.size + 1 + 1,x.toNat,none⟩ (.int .i64 k)) (fun b hb => by
    have hbn : b ≠ w.heap.size + 1 + 1 := fun e => HEB.out (e ▸ hb)
    exact Below.heap_setCell _ _ _ b (by simpa using hbn)))
   have HBn := hid (show Below w.heap.size w (wr.setCell ⟨w.heap.size + 1 + 1,x.toNat,none⟩ (.int .i64 k)) from HB.out.setCell (p := ⟨w.heap.size + 1 + 1,x.toNat,none⟩) (by simp; omega) _)
   clear hk hkn hx1 hb hir HSE hi64
   go_wp2_with fail
   go_roundg g
   case measure => omega
   case rel => exact ⟨k + 1,hk'.out,by go_num,IRn,SEn,HBn.out⟩
  ·obtain rfl : k = nf := by omega
   have hii : ¬ ((k : Int) < k) := by omega
   have RL := hid (show rowsTo n0 ps k = rowsL m by rw [RE.out,HNF.out])
   obtain ⟨bs,hs1,hs2⟩ := hir.out.sl (fun x hx => by have := rowsTo_lt n0 ps k x hx; constructor <;> omega)
   have S1 := hid hs1; have S2 := hid (hs2 w (by omega))
   clear hk hkn HSE hir hb hs1 hs2
   go_wp2
   refine bodyPost_ret (v := .tuple #[.slice (some ⟨w.heap.size + 1 + 1,0,none⟩) n0 n0, .int .i64 k]) (by simp [results,Tryz.results148,go_sem, *]) rfl ?_
   refine ⟨_,n0,bs,by rw [HNF.out], ?_,S2.out,HB.out⟩
   rw [← RL.out]; exact S1.out
def GivesM (w : World) (M : List (List TRat)) (n : Nat) (e : Ending) (w' : World) : Prop := ∃ o cap gs,e = .returned (.slice (some ⟨o,0,none⟩) n cap) ∧ MSt w w' o n cap n gs M
theorem flat_rats {w : World} {n : Nat} {x : TRat} {cs : List Value} {bs : List Nat} (ha : Dat.at_ w cs x bs) : Filled w (List.replicate n cs).flatten (List.replicate n x) (List.replicate n bs) := by
 have hcl := Dat.len ha
 refine ⟨by simp,by rw [flat_len hcl]; simp,fun k y fs hy hf => ?_⟩
 have hk : k < n := by have := (List.getElem?_eq_some_iff.1 hy).1; simpa using this
 obtain rfl : y = x := List.eq_of_mem_replicate (List.mem_of_getElem? hy)
 obtain rfl : fs = bs := List.eq_of_mem_replicate (List.mem_of_getElem? hf)
 have e : ((List.replicate n cs).flatten.drop (k * Dat.sz TRat)).take (Dat.sz TRat) = cs := by
  obtain ⟨d,rfl⟩ : ∃ d,n = k + (1 + d) := ⟨n - k - 1,by omega⟩
  rw [flat_add,List.drop_append_of_le_length (by rw [flat_len hcl]; exact Nat.le_refl _),List.drop_of_length_le (by rw [flat_len hcl]; exact Nat.le_refl _),List.nil_append,flat_add,List.take_append_of_le_length (by rw [flat_len hcl]; omega)]
  simp only [List.replicate_one,List.flatten_cons,List.flatten_nil,List.append_nil]
  exact List.take_of_length_le (by omega)
 rw [e]; exact ha
theorem flat_mem_nat {bs : List Nat} {b : Nat} : ∀ {n},b ∈ (List.replicate n bs).flatten → b ∈ bs
 | 0,h => by simp at h
 | n + 1,h => by
  rw [List.replicate_succ,List.flatten_cons] at h
  rcases List.mem_append.1 h with h | h
  ·exact h
  ·exact flat_mem_nat h
theorem infoRw : (Tryz.prog.info? 36).map (fun i => (i.zero,i.size,i.bytes)) = some (some (.slice none 0 0),1,24) := by kernel_rfl
set_option maxHeartbeats 8000000 in
set_option maxRecDepth 10000 in
theorem impl_zeros (n : Nat) (w : World) (hn : n ≤ 40) : Calls Tryz.prog 153 #[.int .i64 n] w (GivesM w (List.replicate n (List.replicate n (rint 0))) n) := by
 obtain ⟨i0,hi,hz0,hz1,hz2⟩ := info_parts infoRw
 go_enter Tryz.func153,Tryz.ntmps153
 go_wp2_with fail
 have Z0 := hid (MSt.start (n := n) (Below.refl w.heap.size w))
 go_loopg [3,6] n (fun g s3 s wr => ∃ (i o cap : Nat) (gs : List (Nat × Nat)),i + g = n ∧ s = .int .i64 i ∧ s3 = .slice (some ⟨o,0,none⟩) i cap ∧ Hid (MSt w wr o i cap n gs (List.replicate i (List.replicate n (rint 0)))))
 case atStart => exact ⟨0,w.heap.size,0, [],by omega,rfl,rfl,Z0.out⟩
 case round =>
  clear Z0
  obtain ⟨i,o,cap,gs,hi3,rfl,rfl,HZ⟩ := hrel
  rcases Nat.lt_or_ge i n with hin | hin
  ·have hii : (i : Int) < n := by omega
   obtain ⟨g,rfl⟩ : ∃ g,gk = g + 1 := ⟨gk - 1,by omega⟩
   have hi' := hid (show i + 1 + g = n by omega)
   have C3 := hid (show i + 1 ≤ maxLen by unfold maxLen; omega)
   have C4 := hid (show (i + 1) * 24 ≤ 140737488355328 by omega)
   clear hi3 hin
   go_wp2_with fail
   refine (impl_RatFromInt 0 wr (by constructor <;> decide)).mono ?_
   rintro _ wa ⟨va,sa,rfl,ha,ho,hba⟩
   obtain ⟨G1,nG1,cG1,g1,G2,nG2,cG2,g2,rfl,z15, _, _⟩ := TRat.agg ha
   have AT := hid (rat_dat (ha.below (Below.box (.cells #[.bool (rint 0).num.neg, .slice G1 nG1 cG1, .slice G2 nG2 cG2] 32))))
   have HR := hid (show ∀ b ∈ sa,wr.heap.size ≤ b ∧ b < wa.heap.size from fun b hb => ⟨(ho.2 b hb).1,ha.lt b hb⟩)
   have HBa := hid hba
   clear ha ho z15 hba
   go_wp2_with fail
   refine (repeat_R1 wa.heap.size n [.bool (rint 0).num.neg, .slice G1 nG1 cG1, .slice G2 nG2 cG2] _ (heap_alloc_new wa _) rfl (Dat.one AT.out) hn).mono ?_
   rintro _ wb ⟨rfl,hown,hbb⟩
   rw [World.size_alloc] at hown
   have HR9 := hid (show RR (fun b => b < wr.heap.size ∨ b = wa.heap.size + 1) wb (wa.heap.size + 1) n n (List.replicate n (rint 0)) from
    ⟨_, _,ownsRow_zero hown,flat_rats (Dat.keep AT.out (fun b hb => hbb.block b (Dat.lt AT.out b hb))),by simp,fun b hb hbad => by
     have h5 := HR.out b (flat_mem_nat hb)
     rcases hbad with h6 | h6 <;> omega, .inr rfl⟩)
   have HBb := hid (Below.next (Below.next HBa.out (Below.box _)) hbb)
   have hwb := hid hbb.size
   have hwr := HZ.out.bl.size
   have HW := hid (show w.heap.size ≤ (wb.alloc (.cells #[.slice (some ⟨wa.heap.size + 1,0,none⟩) n n] 36)).heap.size by have := HBb.out.size; simp; omega)
   clear hown hbb AT
   go_wp2_with (at_builtin; refine wpList_push rfl _ _ 55 rfl w.heap.size 36 i0 (.slice none 0 0) 1 24 Tryz.underlying55 hi hz0 hz1 hz2 rfl (by decide) o i cap (gs.map fun g => .slice (some ⟨g.1,0,none⟩) n g.2) (by go_simp; done) (ownsRow_below HZ.out.ou (Below.next HBb.out (Below.box _))) ⟨wb.heap.size,0,none⟩ 1 1 [.slice (some ⟨wa.heap.size + 1,0,none⟩) n n] (by go_simp; done) rfl (block_cells (heap_alloc_new wb _)) (by simp [Value.oneCell']) C3.out C4.out HW.out ?_; intro g' cap' w8 hown' hgrow' hor')
   have HZ8 := hid (show MSt w w8 g' (i + 1) cap' n (gs ++ [(wa.heap.size + 1,n)]) (List.replicate (i + 1) (List.replicate n (rint 0))) by
    rw [List.replicate_succ']
    exact HZ.out.push (Below.next HBb.out (Below.box _)) ((HR9.out).below (Below.box _)) (by have := HBa.out.size; omega) hown' hgrow' hor')
   clear hown' hgrow' hor' HZ HR9
   go_wp2_with fail
   go_roundg g
   case measure => omega
   case rel => exact ⟨i + 1,g',cap', _,hi'.out,by go_num,rfl,HZ8⟩
  ·obtain rfl : i = n := by omega
   have hii : ¬ ((i : Int) < i) := by omega
   clear hi3 hin
   go_wp2
   go_ret
   exact ⟨o,cap,gs,rfl,HZ.out⟩
end Go.Proofs.YtpfipnankjeokaaGreat.X

namespace Go.XB
open Go.RowKit
theorem Sl.elemS {α : Type} [Dat α] {w : World} {A : Option Addr} {n c : Nat} {xs : List (List α)} {bs : List Nat} (h : Sl w A n c xs bs) {k : Nat} (hk : k < n) :
  ∃ (b off : Nat) (r : List α) (A1 : Option Addr) (n1 c1 : Nat) (fs : List Nat),A = some ⟨b,off,none⟩ ∧ b < w.heap.size ∧ xs[k]? = some r ∧ w.cell? ⟨b,off + k,none⟩ = some (.slice A1 n1 c1) ∧ Sl w A1 n1 c1 r fs ∧ ∀ g ∈ fs,g ∈ bs := by
 obtain ⟨b,off,x,cs,fs,hA,hb,hx,hc,ha,hg⟩ := Sl.getAt h hk
 obtain ⟨A1,n1,c1,rfl,hs⟩ := ha
 have := hc 0 _ rfl
 exact ⟨b,off,x,A1,n1,c1,fs,hA,hb,hx,by simpa [Dat.sz] using this,hs,hg⟩
end Go.XB
namespace Go.Proofs.YtpfipnankjeokaaGreat.X
open Go.RowKit Go.XB Go.XN
attribute [local go_sem] fillBy Go.XB.opAt deps depOf Region.wanted yielded
attribute [local simp] deps depOf MP.eq MP.agg MP.sl MP.slbox Facts
set_option maxHeartbeats 4000000 in
set_option maxRecDepth 10000 in
theorem impl_ifSquare (A : Option Addr) (n c : Nat) (M : List (List TRat)) (bs : List Nat) (w : World) (hx : Sl w A n c M bs) (h3 : ∀ r ∈ M,0 < r.length) (hall : ∀ r ∈ M,r.any denBad = false) :
  Calls Tryz.prog 178 #[.slice A n c] w (Gives w (.slice A n c)) := by
 have HX := hid hx; have H3 := hid h3; have HALL := hid hall
 have hml : n ≤ maxLen := Nat.le_trans hx.2.1 hx.2.2.1
 unfold maxLen at hml
 clear hx h3 hall
 go_enter Tryz.func178,Tryz.ntmps178
 go_wp2_with fail
 go_loopg [7] n (fun g s wr => ∃ i : Nat,i + g = n ∧ s = .int .i64 i ∧ Hid (Below w.heap.size w wr))
 case atStart => exact ⟨0,by omega,rfl,Below.refl _ _⟩
 case round =>
  obtain ⟨i,hi,rfl,HB⟩ := hrel
  rcases Nat.lt_or_ge i n with hin | hin
  ·have hii : (i : Int) < n := by omega
   obtain ⟨g,rfl⟩ : ∃ g,gk = g + 1 := ⟨gk - 1,by omega⟩
   have hi' := hid (show i + 1 + g = n by omega)
   have hi1 : i + 1 ≤ n := hin
   obtain ⟨be,oe,r,A1,n1,c1,fs,rfl,hbl,hr,he,hs, _⟩ := Sl.elemS (HX.out.below HB.out) hin
   have hr1 := H3.out r (List.mem_of_getElem? hr)
   have hn1 : 0 < n1 := by rw [← hs.1]; exact hr1
   have hne : ((n1 : Int) == 0) = false := by simp; omega
   have HAL := hid (HALL.out r (List.mem_of_getElem? hr))
   have HS := hid hs
   clear hi hin hr hs hr1
   go_wp2_with fail
   refine (impl_ifVector A1 n1 c1 r fs _ HS.out HAL.out).mono ?_
   rintro _ w1 ⟨rfl,hb1⟩
   have HB1 := hid (Below.next HB.out hb1)
   go_wp2_with fail
   go_roundg g
   case measure => omega
   case rel => exact ⟨i + 1,hi'.out,by go_num,HB1⟩
  ·obtain rfl : i = n := by omega
   have hii : ¬ ((i : Int) < i) := by omega
   clear hi hin
   go_wp2
   go_ret
   exact ⟨rfl,HB.out⟩
def massE (a b c : TPoint) (i j : Nat) : TRat := rdiv (areaP a b c) (rint (if i = j then 6 else 12))
def massRowTo (a b c : TPoint) (i : Nat) : Nat → List TRat
 | 0 => []
 | j + 1 => massRowTo a b c i j ++ [massE a b c i j]
def massTo (a b c : TPoint) : Nat → List (List TRat)
 | 0 => []
 | i + 1 => massTo a b c i ++ [massRowTo a b c i 3]
def massL (a b c : TPoint) : List (List TRat) := massTo a b c 3
theorem massRowTo_len (a b c : TPoint) (i : Nat) : ∀ j,(massRowTo a b c i j).length = j
 | 0 => rfl
 | j + 1 => by rw [massRowTo,List.length_append,massRowTo_len a b c i j]; rfl
theorem massTo_row (a b c : TPoint) : ∀ k, ∀ r ∈ massTo a b c k,r.length = 3
 | 0,r,h => by simp [massTo] at h
 | k + 1,r,h => by
  rw [massTo] at h
  rcases List.mem_append.1 h with h | h
  ·exact massTo_row a b c k r h
  ·simp at h; rw [h]; exact massRowTo_len a b c k 3
theorem massTo_len (a b c : TPoint) : ∀ k,(massTo a b c k).length = k
 | 0 => rfl
 | k + 1 => by rw [massTo,List.length_append,massTo_len a b c k]; rfl
theorem ratOk_int {n : Int} (h : -1000 ≤ n ∧ n ≤ 1000) : ratOkB (rint n) = true := ratOkB_iff.2 (rint_V (by omega) (by omega))
set_option maxHeartbeats 8000000 in
set_option maxRecDepth 10000 in
theorem impl_LocalMass (A : Option Addr) (c : Nat) (a1 b1 c1 : TPoint) (bs : List Nat) (w : World) (hx : Sl w A 3 c [a1,b1,c1] bs) (hp : properB [a1,b1,c1] = true) (ha : ratOkB (areaP a1 b1 c1) = true) (hall : ∀ r ∈ massL a1 b1 c1,r.any denBad = false) :
  Calls Tryz.prog 147 #[.slice A 3 c] w (GivesSl w (massL a1 b1 c1)) := by
 have HX := hid hx; have HA := hid ha; have HALL := hid hall
 have CP := impl_IsProper A 3 c [a1,b1,c1] bs w hx
 rw [hp] at CP
 have HCP := hid CP
 obtain ⟨i0,hi,hz0,hz1,hz2⟩ := info_parts infoRw
 obtain ⟨i1,gi,gz0,gz1,gz2⟩ := info_parts infoRt
 clear hx hp ha hall CP
 go_enter Tryz.func147,Tryz.ntmps147
 go_wp2_with fail
 refine HCP.out.mono ?_
 rintro _ w1 ⟨rfl,hb1⟩
 have HB1 := hid hb1
 clear hb1 HCP
 go_wp2_with fail
 have P0 := hid (Pend.start (α := List TRat) (e := 36) HB1.out)
 go_loopg [3,12] 3 (fun g s3 s wr => ∃ (i gB cap : Nat),i + g = 3 ∧ s = .int .i64 i ∧ s3 = .slice (some ⟨gB,0,none⟩) i cap ∧ Hid (Pend w w1 36 wr gB i cap (massTo a1 b1 c1 i)))
 case atStart => exact ⟨0,w1.heap.size,0,by omega,rfl,rfl,P0.out⟩
 case round =>
  clear P0
  obtain ⟨i,gB,cap,hik,rfl,rfl,HP⟩ := hrel
  rename World => w3
  rcases Nat.lt_or_ge i 3 with hin | hin
  ·have hii : (i : Int) < 3 := by omega
   obtain ⟨g,rfl⟩ : ∃ g,gk = g + 1 := ⟨gk - 1,by omega⟩
   have hi' := hid (show i + 1 + g = 3 by omega)
   have hi3 : i + 1 ≤ 3 := hin
   have C3 := hid (show i + 1 ≤ maxLen by unfold maxLen; omega)
   have C4 := hid (show (i + 1) * 24 ≤ 140737488355328 by omega)
   clear hik hin
   go_wp2_with fail
   have R0 := hid (Pend.start (α := TRat) (e := 32) (Below.refl w3.heap.size w3))
   go_loopg [5,16] 3 (fun g2 s5 s w4 => ∃ (j gR cR : Nat),j + g2 = 3 ∧ s = .int .i64 j ∧ s5 = .slice (some ⟨gR,0,none⟩) j cR ∧ Hid (Pend w3 w3 32 w4 gR j cR (massRowTo a1 b1 c1 i j)))
   case atStart => exact ⟨0,w3.heap.size,0,by omega,rfl,rfl,R0.out⟩
   case round =>
    clear R0
    obtain ⟨j,gR,cR,hjk,rfl,rfl,HR⟩ := hrel
    rcases Nat.lt_or_ge j 3 with hjn | hjn
    ·have hjj : (j : Int) < 3 := by omega
     obtain ⟨g2,rfl⟩ : ∃ g2,gk = g2 + 1 := ⟨gk - 1,by omega⟩
     have hj' := hid (show j + 1 + g2 = 3 by omega)
     have hj3 : j + 1 ≤ 3 := hjn
     have D3 := hid (show j + 1 ≤ maxLen by unfold maxLen; omega)
     have D4 := hid (show (j + 1) * 56 ≤ 140737488355328 by omega)
     have HB4 := hid (Below.next HP.out.bw HR.out.bw)
     clear hjk hjn
     obtain ⟨by_,hby,hbr,hbn⟩ : ∃ by_ : Int,by_ = (if i = j then 6 else 12) ∧ (-1000 ≤ by_ ∧ by_ ≤ 1000) ∧ (rint by_).num.mag ≠ [] := by
      refine ⟨_,rfl, ?_, ?_⟩
      ·split <;> omega
      ·split <;> decide
     have HBY := hid hby; have HBR := hid hbr; have HBN := hid hbn
     clear hby hbr hbn
     by_cases hij : i = j
     ·have hbe : ((i : Int) == (j : Int)) = true := by simp [hij]
      have e6 : by_ = 6 := by rw [HBY.out,if_pos hij]
      subst e6
      have NX := hid (show massRowTo a1 b1 c1 i (j + 1) = massRowTo a1 b1 c1 i j ++ [rdiv (areaP a1 b1 c1) (rint 6)] by rw [massRowTo,massE,if_pos hij])
      clear hij
      go_wp2_with fail
      refine (impl_area A c a1 b1 c1 bs wr (HX.out.below HB4.out)).mono ?_
      rintro _ wa ⟨va,sa,rfl,haa,hoa,hba⟩
      obtain ⟨P1,p1,q1,x1,P2,p2,q2,x2,rfl,hza, _, _⟩ := TRat.agg haa
      have HAA := hid haa; have HBA := hid hba
      clear haa hoa hba hza
      go_wp2_with fail
      refine (impl_RatFromInt 6 wa (by constructor <;> decide)).mono ?_
      rintro _ wb ⟨vb,sb,rfl,hab,hob,hbb⟩
      obtain ⟨Q1,k1,l1,y1,Q2,k2,l2,y2,rfl,hzb, _, _⟩ := TRat.agg hab
      have HAB := hid hab; have HBB := hid hbb
      clear hab hob hbb hzb
      go_wp2_with fail
      refine (impl_RatDiv _ _ (areaP a1 b1 c1) (rint 6) _ _ wb (HAA.out.below HBB.out) HAB.out HA.out (ratOk_int HBR.out) HBN.out).mono ?_
      rintro _ wc ⟨vc,sc,rfl,hac,hoc,hbc⟩
      obtain ⟨G1,nG1,cG1,z1,G2,nG2,cG2,z2,rfl,hzc, _, _⟩ := TRat.agg hac
      have AT := hid (rat_dat (hac.below (Below.box (.cells #[.bool (rdiv (areaP a1 b1 c1) (rint 6)).num.neg, .slice G1 nG1 cG1, .slice G2 nG2 cG2] 32))))
      have HF := hid ((hoc.below (Below.box (.cells #[.bool (rdiv (areaP a1 b1 c1) (rint 6)).num.neg, .slice G1 nG1 cG1, .slice G2 nG2 cG2] 32))).free)
      have HBr := hid (show Below wr.heap.size wr wb from Below.next HBA.out HBB.out)
      have HFR := hid (show ∀ b ∈ sc,wr.heap.size ≤ b from fun b hb => by have := (hoc.2 b hb).1; have := HBr.out.size; omega)
      have HBC := hid (Below.next HBr.out hbc)
      clear hac hoc hbc hzc
      go_wp2_with (at_builtin; refine wpList_pend rfl _ _ 36 rfl 32 i1 (.agg #[.bool false, .slice none 0 0, .slice none 0 0]) 56 Tryz.underlying36 gi gz0 gz1 gz2 rfl HR.out (Below.next HBC.out (Below.box _)) (by go_simp; done) ⟨wc.heap.size,0,none⟩ 1 [.bool (rdiv (areaP a1 b1 c1) (rint 6)).num.neg, .slice G1 nG1 cG1, .slice G2 nG2 cG2] (rdiv (areaP a1 b1 c1) (rint 6)) sc (by go_simp; done) (block_cells (heap_alloc_new wc _)) AT.out HF.out HFR.out D3.out D4.out ?_; intro g' cap' w8 hp' hgrow' hor')
      have HP8 := hid (show Pend w3 w3 32 w8 g' (j + 1) cap' (massRowTo a1 b1 c1 i (j + 1)) by rw [NX.out]; exact hp')
      clear hp' hgrow' hor' AT HF HR HFR
      go_wp2_with fail
      go_roundg g2
      case measure => omega
      case rel => exact ⟨j + 1,g',cap',hj'.out,by go_num,rfl,HP8⟩
     ·have hbe : ((i : Int) == (j : Int)) = false := by simp ; omega
      have e6 : by_ = 12 := by rw [HBY.out,if_neg hij]
      subst e6
      have NX := hid (show massRowTo a1 b1 c1 i (j + 1) = massRowTo a1 b1 c1 i j ++ [rdiv (areaP a1 b1 c1) (rint 12)] by rw [massRowTo,massE,if_neg hij])
      clear hij
      go_wp2_with fail
      refine (impl_area A c a1 b1 c1 bs wr (HX.out.below HB4.out)).mono ?_
      rintro _ wa ⟨va,sa,rfl,haa,hoa,hba⟩
      obtain ⟨P1,p1,q1,x1,P2,p2,q2,x2,rfl,hza, _, _⟩ := TRat.agg haa
      have HAA := hid haa; have HBA := hid hba
      clear haa hoa hba hza
      go_wp2_with fail
      refine (impl_RatFromInt 12 wa (by constructor <;> decide)).mono ?_
      rintro _ wb ⟨vb,sb,rfl,hab,hob,hbb⟩
      obtain ⟨Q1,k1,l1,y1,Q2,k2,l2,y2,rfl,hzb, _, _⟩ := TRat.agg hab
      have HAB := hid hab; have HBB := hid hbb
      clear hab hob hbb hzb
      go_wp2_with fail
      refine (impl_RatDiv _ _ (areaP a1 b1 c1) (rint 12) _ _ wb (HAA.out.below HBB.out) HAB.out HA.out (ratOk_int HBR.out) HBN.out).mono ?_
      rintro _ wc ⟨vc,sc,rfl,hac,hoc,hbc⟩
      obtain ⟨G1,nG1,cG1,z1,G2,nG2,cG2,z2,rfl,hzc, _, _⟩ := TRat.agg hac
      have AT := hid (rat_dat (hac.below (Below.box (.cells #[.bool (rdiv (areaP a1 b1 c1) (rint 12)).num.neg, .slice G1 nG1 cG1, .slice G2 nG2 cG2] 32))))
      have HF := hid ((hoc.below (Below.box (.cells #[.bool (rdiv (areaP a1 b1 c1) (rint 12)).num.neg, .slice G1 nG1 cG1, .slice G2 nG2 cG2] 32))).free)
      have HBr := hid (show Below wr.heap.size wr wb from Below.next HBA.out HBB.out)
      have HFR := hid (show ∀ b ∈ sc,wr.heap.size ≤ b from fun b hb => by have := (hoc.2 b hb).1; have := HBr.out.size; omega)
      have HBC := hid (Below.next HBr.out hbc)
      clear hac hoc hbc hzc
      go_wp2_with (at_builtin; refine wpList_pend rfl _ _ 36 rfl 32 i1 (.agg #[.bool false, .slice none 0 0, .slice none 0 0]) 56 Tryz.underlying36 gi gz0 gz1 gz2 rfl HR.out (Below.next HBC.out (Below.box _)) (by go_simp; done) ⟨wc.heap.size,0,none⟩ 1 [.bool (rdiv (areaP a1 b1 c1) (rint 12)).num.neg, .slice G1 nG1 cG1, .slice G2 nG2 cG2] (rdiv (areaP a1 b1 c1) (rint 12)) sc (by go_simp; done) (block_cells (heap_alloc_new wc _)) AT.out HF.out HFR.out D3.out D4.out ?_; intro g' cap' w8 hp' hgrow' hor')
      have HP8 := hid (show Pend w3 w3 32 w8 g' (j + 1) cap' (massRowTo a1 b1 c1 i (j + 1)) by rw [NX.out]; exact hp')
      clear hp' hgrow' hor' AT HF HR HFR
      go_wp2_with fail
      go_roundg g2
      case measure => omega
      case rel => exact ⟨j + 1,g',cap',hj'.out,by go_num,rfl,HP8⟩
    ·obtain rfl : j = 3 := by omega
     obtain ⟨A7,n7,c7,rb,e7,hs7,ho7,hb7⟩ := HR.out.done
     injection e7 with e7; injection e7 with e71 e72 e73
     subst e71; subst e72; subst e73
     have AT := hid (show Dat.at_ (α := List TRat) (wr.alloc (.cells #[.slice (some ⟨gR,0,none⟩) 3 cR] 36)) [.slice (some ⟨gR,0,none⟩) 3 cR] (massRowTo a1 b1 c1 i 3) rb from ⟨_, _, _,rfl,hs7.below (Below.box _)⟩)
     have HF := hid ((ho7.below (Below.box (.cells #[.slice (some ⟨gR,0,none⟩) 3 cR] 36))).free)
     have HFR := hid (show ∀ b ∈ rb,w3.heap.size ≤ b from fun b hb => (ho7.2 b hb).1)
     have HB7 := hid (show Below w3.heap.size w3 wr from hb7)
     clear hs7 ho7 hb7 hjk hjn HR
     go_wp2_with (at_builtin; refine wpList_pend (α := List TRat) rfl _ _ 55 rfl 36 i0 (.slice none 0 0) 24 Tryz.underlying55 hi hz0 hz1 hz2 rfl HP.out (Below.next HB7.out (Below.box _)) (by go_simp; done) ⟨wr.heap.size,0,none⟩ 1 [.slice (some ⟨gR,0,none⟩) 3 cR] (massRowTo a1 b1 c1 i 3) rb (by go_simp; done) (block_cells (heap_alloc_new wr _)) AT.out HF.out HFR.out C3.out C4.out ?_; intro g' cap' w8 hp' hgrow' hor')
     have HP8 := hid (show Pend w w1 36 w8 g' (i + 1) cap' (massTo a1 b1 c1 (i + 1)) from hp')
     clear hp' hgrow' hor' AT HF HP HFR
     go_wp2_with fail
     go_roundg g
     case measure => omega
     case rel => exact ⟨i + 1,g',cap',hi'.out,by go_num,rfl,HP8⟩
  ·obtain rfl : i = 3 := by omega
   obtain ⟨A7,n7,c7,rb,e7,hs7,ho7,hb7⟩ := HP.out.done
   injection e7 with e7; injection e7 with e71 e72 e73
   subst e71; subst e72; subst e73
   have HS := hid hs7; have HO := hid ho7; have HB := hid hb7
   clear hik hin hs7 ho7 hb7 HP
   go_wp2_with fail
   refine (impl_ifSquare _ 3 cap (massL a1 b1 c1) rb w3 HS.out (fun r hr => by rw [massTo_row a1 b1 c1 3 r hr]; decide) HALL.out).mono ?_
   rintro _ w9 ⟨rfl,hb9⟩
   have HB9 := hid hb9
   clear hb9
   go_wp2
   go_ret
   exact ⟨_, _, _,rb,rfl,HS.out.below HB9.out,HO.out.below HB9.out,Below.next HB.out HB9.out⟩
end Go.Proofs.YtpfipnankjeokaaGreat.X
