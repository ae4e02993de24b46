/- A part of the proof. -/
import Derived.Test.YtbhemnidcleaiaaGreatY14
import Derived.Test.YtbhemnidcleaiaaGreatY15
import Derived.Test.YtbhemnidcleaiaaGreatY12
import Derived.Test.YtbhemnidcleaiaaGreatY16
set_option linter.constructorNameAsVariable false
set_option maxHeartbeats 16000000
set_option maxRecDepth 10000
namespace Go.Proofs.YtbhemnidcleaiaaGreat.X
open Go.RowKit Go.XB Go.XN
def A6o (us:List Bool) (t:TTri):Nat→List Bool
 | 0=>us
 | 1=>us.set t.a.toNat true
 | 2=>(us.set t.a.toNat true).set t.b.toNat true
 | _=>((us.set t.a.toNat true).set t.b.toNat true).set t.c.toNat true
def A4p (n:Nat) (ts:List TTri):Nat→List Bool
 | 0=>List.replicate n false
 | k+1=>A6o (A4p n ts k) (ts.getD k ⟨0,0,0,0,0⟩) 3
theorem A9m (us:List Bool) (t:TTri) (i:Nat):(A6o us t i).length=us.length:=by
 unfold A6o;split<;>simp
theorem B0s (n:Nat) (ts:List TTri):∀ k,(A4p n ts k).length=n
 | 0=>by simp[A4p]
 | k+1=>by rw[A4p,A9m,B0s]
structure MeshI (m:TMesh) (xs ys:List Int):Prop where
 pts:D2s m.points xs ys
 sx:A5g xs
 sy:A5g ys
 n3:3≤m.points.length
 n40:m.points.length≤40
 ok:m.points.all A0r=true
 nd:m.points.Nodup
 t1:1≤m.triangles.length
 t48:m.triangles.length≤48
 tri:∀ t∈m.triangles,A8c m.points.length t∧inB 0 t.region 2=true∧inB 0 t.level 60=true∧0<A5e xs ys t.a t.b t.c
 sep:∀ (k:Nat) (t:TTri) (j:Nat) (s:TTri),m.triangles[k]?=some t→j<k→m.triangles[j]?=some s→B4m xs ys s t=true∨B4m xs ys t s=true
 used:A4p m.points.length m.triangles m.triangles.length=List.replicate m.points.length true
 noin:∀ t∈m.triangles,D5v xs ys m.points.length t
end Go.Proofs.YtbhemnidcleaiaaGreat.X
namespace Go.Proofs.YtbhemnidcleaiaaGreat.X
open Go.RowKit Go.XB Go.XN
attribute [local go_sem] O_ opAt P_ M_ Region.wanted yielded
attribute [local simp] P_ M_ MP.eq MP.agg MP.sl A0e
attribute [local go_sem] ix0 ix1 ix2

theorem C5v:(Tryz.prog.info? 4).map (fun i=>(i.zero,i.size,i.bytes))=some (some (.bool false),1,1):=by kernel_rfl
def BRow (w:World) (base g n:Nat) (fs:List Bool):Prop:=w.ownsRow base 4 1 (.slice (some ⟨g,0,none⟩) n n) n (fs.map .bool)
theorem B5q (n:Nat):(madeCells (Value.bool false).cells (n*1)).toList=(List.replicate n false).map .bool:=by
 rw[List.map_replicate]
 refine List.eq_replicate_iff.2 ⟨by simp[size_madeCells],fun b hb=>?_⟩
 simp only [madeCells,Array.toList_map,List.mem_map] at hb
 obtain ⟨a,_,rfl⟩:=hb
 have:(Value.bool false).cells=#[.bool false]:=rfl
 simp[this,Nat.mod_one]
theorem BRow.cell {w:World} {base g n:Nat} {fs:List Bool} (h:BRow w base g n fs) {j:Nat} {f:Bool} (hf:fs[j]?=some f):w.cell? ⟨g,j,none⟩=some (.bool f)∧w.frozen? ⟨g,j,none⟩=false:=by
 have hj:=(List.getElem?_eq_some_iff.1 hf).1
 have hn:fs.length=n*1:=by have:=h.1;simpa using this
 exact ⟨by rw[World.ownsRow.cellAt h j (by omega),List.getElem?_map,hf];rfl,World.ownsRow.frozenAt h j⟩
theorem BRow.lt {w:World} {base g n:Nat} {fs:List Bool} (h:BRow w base g n fs):g<w.heap.size:=(World.ownsRow.lt h _ rfl).2
theorem BRow.set {w:World} {base g n:Nat} {fs:List Bool} (h:BRow w base g n fs) (j:Nat) (f:Bool):BRow (w.setCell ⟨g,j,none⟩ (.bool f)) base g n (fs.set j f):=by
 unfold BRow;rw[List.map_set];exact (World.ownsRow.stored h j _).1
theorem BRow.below {w w':World} {base g n:Nat} {fs:List Bool} (h:BRow w base g n fs) (hb:Below w.heap.size w w'):BRow w' base g n fs:=J_ h hb

theorem C6g (g n:Nat) (w:World) (hc:∀ j,j<n→w.cell? ⟨g,j,none⟩=some (.bool true)) (hg:g<w.heap.size) (hn:n≤40) :
  Calls Tryz.prog 142 #[.slice (some ⟨g,0,none⟩) n n,.bool false] w (A0j w (.int .i64 (-1))):=by
 have HC:=A_ hc
 clear hc
 go_enter Tryz.func142,Tryz.ntmps142
 go_wp2_with fail
 go_loopg [8] n (fun g s wr=>∃ k:Nat,k+g=n∧s=.int .i64 k∧wr=w)
 case atStart=>exact ⟨0,by omega,rfl,rfl⟩
 case round =>
  obtain ⟨k,hk,rfl,rfl⟩:=hrel
  rcases Nat.lt_or_ge k n with hkn | hkn
  ·have hki:(k:Int)<n:=by omega
   have hk40:(k:Int)≤40:=by omega
   have hcell:=HC.o k hkn
   obtain ⟨g,rfl⟩:∃ g,gk=g+1:=⟨gk - 1,by omega⟩
   have hk':=A_ (show k+1+g=n by omega)
   clear hk hkn
   go_wp2_with fail
   go_roundg g
   case measure=>omega
   case rel=>exact ⟨k+1,hk'.o,by go_num,rfl⟩
  obtain rfl:k=n:=by omega
  have hki:¬ ((k:Int)<k):=by omega
  clear hk hkn
  go_wp2
  go_ret
  exact ⟨rfl,Below.refl _ _⟩
theorem C0g (g n:Nat) (w:World) (hc:∀ j,j<n→w.cell? ⟨g,j,none⟩=some (.bool true)) (hg:g<w.heap.size) (hn:n≤40) :
  Calls Tryz.prog 96 #[.slice (some ⟨g,0,none⟩) n n,.bool false] w (A0j w (.bool false)):=by
 have C:=A_ (C6g g n w hc hg hn)
 clear hc
 go_enter Tryz.func96,Tryz.ntmps96
 go_wp2_with fail
 refine C.o.mono ?_
 rintro _ w1 ⟨rfl,hb1⟩
 go_wp2
 go_ret
 exact ⟨rfl,hb1⟩

theorem B6p (v:Value) (m:TMesh) (b:List Nat) (xs ys:List Int) (w:World) (hx:Agg w v m b) (hm:MeshI m xs ys):Calls Tryz.prog 39 #[v] w (A0j w (.bool true)):=by
 obtain ⟨A0,n0,c0,s0,A1,n1,c1,s1,rfl,rfl,hs0,hs1⟩:=TMesh.agg hx
 have HS0:=A_ hs0;have HS1:=A_ hs1;have HM:=A_ hm
 have hl0:=hs0.1
 have hl1:=hs1.1
 have HL0:=A_ hl0;have HL1:=A_ hl1
 have hn3:3≤n0:=by rw[← hl0];exact hm.n3
 have hn40:n0≤40:=by rw[← hl0];exact hm.n40
 have hm1:1≤n1:=by rw[← hl1];exact hm.t1
 have hm48:n1≤48:=by rw[← hl1];exact hm.t48
 have hnc1:n1≤c1:=hs1.2.1
 have hn0i:(n0:Int)≤40:=by omega
 have hm48i:(n1:Int)≤48:=by omega
 have WT:=A_ (show inB 1 n1 48=true by unfold inB;simp;omega)
 obtain ⟨i0,hi,hz0,hz1,hz2⟩:=info_parts C5v
 have b2:=A_ (show i0.bytes*n0≤281474976710656 by rw[hz2];omega)
 have b3:=A_ (show n0≤maxLen by unfold maxLen;omega)
 clear hx hs0 hs1 hm hl0 hl1
 go_enter Tryz.func39,Tryz.ntmps39
 go_wp2_with fail
 refine (B9i A0 n0 c0 m.points s0 _ (HS0.o.below Below.go) HM.o.ok HM.o.nd hn3 hn40).mono ?_
 rintro _ w1 ⟨rfl,hb1⟩
 obtain ⟨hc_w1,hf_w1⟩:=C_ hb1
 have hz0_w1:w.heap.size<w1.heap.size:=N_ hb1
 have HB1:=A_ (show Below w.heap.size w w1 from Below.go)
 go_wp2_with fail
 have C:=A0z n1 1 48 w1
 rw[WT.o] at C
 refine C.mono ?_
 clear C
 rintro _ w2 ⟨rfl,hb2⟩
 obtain ⟨hc_w2,hf_w2⟩:=C_ hb2
 have hz0_w2:w.heap.size<w2.heap.size:=N_ hb2
 have HB2:=A_ (Below.next HB1.o hb2)
 go_wp2_with fail
 refine (C3i A0 n0 c0 m.points s0 xs ys w2 (HS0.o.below HB2.o) HM.o.pts HM.o.sx HM.o.sy hn40 (by omega)).mono ?_
 rintro _ w3 ⟨vp,rfl,hp,hb3⟩
 have HP:=A_ hp
 obtain ⟨A,cA,X,oX,cX,Y,oY,cY,bX,bY,rfl,hX,hY⟩:=hp
 clear hX hY
 obtain ⟨hc_w3,hf_w3⟩:=C_ hb3
 have hz0_w3:w.heap.size<w3.heap.size:=N_ hb3
 have HB3:=A_ (Below.next HB2.o hb3)
 have k0:w3.cell? ⟨w.heap.size,0,none⟩=some (.slice A0 n0 c0):=by go_simp
 have k1:w3.cell? ⟨w.heap.size,1,none⟩=some (.slice A1 n1 c1):=by go_simp
 clear hc_w1 hf_w1 hc_w2 hf_w2 hc_w3 hf_w3 hb1 hb2 hb3
 go_upto_region 4 with fail
 have hsW:w.heap.size≤(w3.alloc (.cells #[.slice A n0 cA,.slice (some ⟨X,oX,none⟩) n0 cX,.slice (some ⟨Y,oY,none⟩) n0 cY] 127)).heap.size:=by simp;omega
 go_upto_region 5 with (at_make;(refine wpList_make_full _ rfl _ _ 129 rfl w.heap.size 4 i0 (.bool false) 1 Tryz.underlying129 hi hz0 hz1 .i64 .i64 _ _ n0 rfl rfl rfl rfl b2.o b3.o hsW ?_);intro w4 hown4 hgrow4)
 rw[B5q] at hown4
 rw[World.size_alloc] at hown4
 have hb4:=(Below.refl (w3.heap.size+1) (w3.alloc (.cells #[.slice A n0 cA,.slice (some ⟨X,oX,none⟩) n0 cX,.slice (some ⟨Y,oY,none⟩) n0 cY] 127))).grown hgrow4 (by simp) (by intro k hk;cases hk)
 have BR4:=A_ (show BRow w4 w.heap.size (w3.heap.size+1) n0 (A4p n0 m.triangles 0) from hown4)
 have HB4:=A_ (show Below w3.heap.size w3 w4 from (Below.box _).trans (hb4.mono (by omega)))
 have p0:w4.cell? ⟨w3.heap.size,0,none⟩=some (.slice A n0 cA):=(hb4.cell (p:=⟨w3.heap.size,0,none⟩) (Nat.lt_succ_self _)).trans (by go_simp)
 have p1:w4.cell? ⟨w3.heap.size,1,none⟩=some (.slice (some ⟨X,oX,none⟩) n0 cX):=(hb4.cell (p:=⟨w3.heap.size,1,none⟩) (Nat.lt_succ_self _)).trans (by go_simp)
 have p2:w4.cell? ⟨w3.heap.size,2,none⟩=some (.slice (some ⟨Y,oY,none⟩) n0 cY):=(hb4.cell (p:=⟨w3.heap.size,2,none⟩) (Nat.lt_succ_self _)).trans (by go_simp)
 have j0:w4.cell? ⟨w.heap.size,0,none⟩=some (.slice A0 n0 c0):=(HB4.o.cell (p:=⟨w.heap.size,0,none⟩) hz0_w3).trans k0
 have j1:w4.cell? ⟨w.heap.size,1,none⟩=some (.slice A1 n1 c1):=(HB4.o.cell (p:=⟨w.heap.size,1,none⟩) hz0_w3).trans k1
 have hw34:w3.heap.size+1<w4.heap.size:=BR4.o.lt
 have hzw4:w.heap.size<w4.heap.size:=by omega
 clear hown4 hgrow4 hb4
 go_wp2_with fail
 go_loopg [32] n1 (fun g s wr=>∃ k:Nat,k+g=n1∧s=.int .i64 k∧Hid (BRow wr w.heap.size (w3.heap.size+1) n0 (A4p n0 m.triangles k))∧Below w3.heap.size w3 wr∧(wr.cell? ⟨w3.heap.size,0,none⟩=some (.slice A n0 cA)∧wr.cell? ⟨w3.heap.size,1,none⟩=some (.slice (some ⟨X,oX,none⟩) n0 cX)∧wr.cell? ⟨w3.heap.size,2,none⟩=some (.slice (some ⟨Y,oY,none⟩) n0 cY)))
 case atStart=>exact ⟨0,by omega,rfl,BR4.o,HB4.o,⟨p0,p1,p2⟩⟩
 case round =>
  clear p0 p1 p2 j0 j1
  obtain ⟨k,hk,rfl,hbr,hb,⟨p0,p1,p2⟩⟩:=hrel
  have HB:=A_ hb
  have HBW:=A_ (Below.next HB3.o hb)
  have HPr:=A_ (HP.o.below hb)
  have j0:wr.cell? ⟨w.heap.size,0,none⟩=some (.slice A0 n0 c0):=(hb.cell (p:=⟨w.heap.size,0,none⟩) hz0_w3).trans k0
  have j1:wr.cell? ⟨w.heap.size,1,none⟩=some (.slice A1 n1 c1):=(hb.cell (p:=⟨w.heap.size,1,none⟩) hz0_w3).trans k1
  have hwr:w3.heap.size+1<wr.heap.size:=hbr.o.lt
  have hzr0:w.heap.size<wr.heap.size:=by omega
  have hzr1:w3.heap.size<wr.heap.size:=by omega
  rcases Nat.lt_or_ge k n1 with hkn | hkn
  ·rename World=>wo
   have hki:(k:Int)<n1:=by omega
   have hki0:(0:Int)≤k:=by omega
   have hk48:(k:Int)≤48:=by omega
   have hkc:(k:Int)≤c1:=by omega
   obtain ⟨be,of,t,hA,hbl,hx1,e0,e1,e2,e3,e4,hag⟩:=TTri.elemA (HS1.o.below HBW.o) hkn
   subst hA
   have HAG:=A_ hag
   have HAT0:=A_ (show ∀ W:World,Agg W (.agg #[.int .i64 t.a,.int .i64 t.b,.int .i64 t.c,.int .i64 t.region,.int .i64 t.level]) t [] from fun W=>by
    obtain ⟨_,_,i1,i2,i3,i4,i5⟩:=TTri.agg hag
    exact TTri.mkAgg i1 i2 i3 i4 i5)
   have TK:=A_ hx1
   have HT:=A_ (HM.o.tri t (List.mem_of_getElem? hx1))
   have IT:=A_ (show A8c n0 t by have:=HT.o.1;rwa [HL0.o] at this)
   have UN:=A_ (show A6o (A4p n0 m.triangles k) t 3=A4p n0 m.triangles (k+1) by
    rw[A4p,List.getD_eq_getElem?_getD,hx1];rfl)
   obtain ⟨g,rfl⟩:∃ g,gk=g+1:=⟨gk - 1,by omega⟩
   have hk':=A_ (show k+1+g=n1 by omega)
   clear hk hkn hx1 hag hb
   go_wp2_with fail
   refine (B6s _ n0 xs ys _ t _ (wo.alloc (.cells #[.int .i64 t.a,.int .i64 t.b,.int .i64 t.c,.int .i64 t.region,.int .i64 t.level] 93)) (HPr.o.below (Below.box _)) HM.o.sx HM.o.sy hn40 (HAG.o.below (Below.box _)) IT.o HT.o.2.1 HT.o.2.2.1 HT.o.2.2.2).mono ?_
   rintro _ w5 ⟨rfl,hb5⟩
   obtain ⟨hc_w5,hf_w5⟩:=C_ hb5
   have HB5:=A_ (show Below wo.heap.size wo w5 from Below.trans (Below.box _) (hb5.mono (by simp)))
   have hs5:wo.heap.size<w5.heap.size:=by have:=hb5.size;simp at this;omega
   go_wp2_with fail
   refine (A4c _ t _ w5 (HAG.o.below HB5.o)).mono ?_
   rintro _ w6 ⟨rfl,hb6⟩
   obtain ⟨hc_w6,hf_w6⟩:=C_ hb6
   have HB6:=A_ (Below.next HB5.o hb6)
   have hs6:wo.heap.size<w6.heap.size:=by have:=hb6.size;omega
   have hs60:w.heap.size<w6.heap.size:=by omega
   have hs61:w3.heap.size<w6.heap.size:=by omega
   have hs50:w.heap.size<w5.heap.size:=by omega
   have hs51:w3.heap.size<w5.heap.size:=by omega
   go_wp2_with fail
   go_loopg [43] 3 (fun g s wr=>∃ i:Nat,i+g=3∧s=.int .i64 i∧Hid (BRow wr w.heap.size (w3.heap.size+1) n0 (A6o (A4p n0 m.triangles k) t i))∧Below w3.heap.size w3 wr∧wo.heap.size<wr.heap.size∧(wr.cell? ⟨w3.heap.size,0,none⟩=some (.slice A n0 cA)∧wr.cell? ⟨w3.heap.size,1,none⟩=some (.slice (some ⟨X,oX,none⟩) n0 cX)∧wr.cell? ⟨w3.heap.size,2,none⟩=some (.slice (some ⟨Y,oY,none⟩) n0 cY)∧wr.cell? ⟨wo.heap.size,0,none⟩=some (.int .i64 t.a)∧wr.cell? ⟨wo.heap.size,1,none⟩=some (.int .i64 t.b)∧wr.cell? ⟨wo.heap.size,2,none⟩=some (.int .i64 t.c)∧wr.cell? ⟨wo.heap.size,3,none⟩=some (.int .i64 t.region)∧wr.cell? ⟨wo.heap.size,4,none⟩=some (.int .i64 t.level)))
   case atStart=>exact ⟨0,rfl,rfl,hbr.o.below HB6.o,Below.next HB.o HB6.o,hs6,⟨by go_simp,by go_simp,by go_simp,by go_simp,by go_simp,by go_simp,by go_simp,by go_simp⟩⟩
   case round =>
   clear hc_w5 hf_w5 hc_w6 hf_w6 p0 p1 p2
   obtain ⟨i,hi2,rfl,hbr2,hb2,hwo,⟨p0,p1,p2,t0,t1,t2,t3,t4⟩⟩:=hrel
   have HB2':=A_ hb2
   obtain rfl | rfl | rfl | rfl:i=0∨i=1∨i=2∨i=3:=by omega
   ·obtain rfl:gk=2+1:=by omega
    have h0:=IT.o.1.1
    have h1:=IT.o.1.2
    have hcell:=hbr2.o.cell (j:=t.a.toNat) (f:=(A6o (A4p n0 m.triangles k) t 0).getD t.a.toNat false) (by
     rw[List.getD_eq_getElem?_getD,List.getElem?_eq_getElem (by rw[A9m,B0s];omega)];rfl)
    obtain ⟨uc,uf⟩:=hcell
    have BR3:=A_ (show BRow (wr.setCell ⟨w3.heap.size+1,t.a.toNat,none⟩ (.bool true)) w.heap.size (w3.heap.size+1) n0 (A6o (A4p n0 m.triangles k) t (0+1)) from hbr2.o.set _ _)
    have HB3:=A_ (show Below w3.heap.size w3 (wr.setCell ⟨w3.heap.size+1,t.a.toNat,none⟩ (.bool true)) from hb2.setCell (p:=⟨w3.heap.size+1,t.a.toNat,none⟩) (show w3.heap.size≤w3.heap.size+1 by omega) _)
    have hlt:=hbr2.o.lt
    clear hi2
    go_wp2_with fail
    go_roundg 2
    case measure=>omega
    case rel=>exact ⟨0+1,rfl,by go_num,BR3.o,HB3.o,by simpa using hwo,⟨by go_simp,by go_simp,by go_simp,by go_simp,by go_simp,by go_simp,by go_simp,by go_simp⟩⟩
   ·obtain rfl:gk=1+1:=by omega
    have h0:=IT.o.2.1.1
    have h1:=IT.o.2.1.2
    have hcell:=hbr2.o.cell (j:=t.b.toNat) (f:=(A6o (A4p n0 m.triangles k) t 1).getD t.b.toNat false) (by
     rw[List.getD_eq_getElem?_getD,List.getElem?_eq_getElem (by rw[A9m,B0s];omega)];rfl)
    obtain ⟨uc,uf⟩:=hcell
    have BR3:=A_ (show BRow (wr.setCell ⟨w3.heap.size+1,t.b.toNat,none⟩ (.bool true)) w.heap.size (w3.heap.size+1) n0 (A6o (A4p n0 m.triangles k) t (1+1)) from hbr2.o.set _ _)
    have HB3:=A_ (show Below w3.heap.size w3 (wr.setCell ⟨w3.heap.size+1,t.b.toNat,none⟩ (.bool true)) from hb2.setCell (p:=⟨w3.heap.size+1,t.b.toNat,none⟩) (show w3.heap.size≤w3.heap.size+1 by omega) _)
    have hlt:=hbr2.o.lt
    clear hi2
    go_wp2_with fail
    go_roundg 1
    case measure=>omega
    case rel=>exact ⟨1+1,rfl,by go_num,BR3.o,HB3.o,by simpa using hwo,⟨by go_simp,by go_simp,by go_simp,by go_simp,by go_simp,by go_simp,by go_simp,by go_simp⟩⟩
   ·obtain rfl:gk=0+1:=by omega
    have h0:=IT.o.2.2.1
    have h1:=IT.o.2.2.2
    have hcell:=hbr2.o.cell (j:=t.c.toNat) (f:=(A6o (A4p n0 m.triangles k) t 2).getD t.c.toNat false) (by
     rw[List.getD_eq_getElem?_getD,List.getElem?_eq_getElem (by rw[A9m,B0s];omega)];rfl)
    obtain ⟨uc,uf⟩:=hcell
    have BR3:=A_ (show BRow (wr.setCell ⟨w3.heap.size+1,t.c.toNat,none⟩ (.bool true)) w.heap.size (w3.heap.size+1) n0 (A6o (A4p n0 m.triangles k) t (2+1)) from hbr2.o.set _ _)
    have HB3:=A_ (show Below w3.heap.size w3 (wr.setCell ⟨w3.heap.size+1,t.c.toNat,none⟩ (.bool true)) from hb2.setCell (p:=⟨w3.heap.size+1,t.c.toNat,none⟩) (show w3.heap.size≤w3.heap.size+1 by omega) _)
    have hlt:=hbr2.o.lt
    clear hi2
    go_wp2_with fail
    go_roundg 0
    case measure=>omega
    case rel=>exact ⟨2+1,rfl,by go_num,BR3.o,HB3.o,by simpa using hwo,⟨by go_simp,by go_simp,by go_simp,by go_simp,by go_simp,by go_simp,by go_simp,by go_simp⟩⟩
   clear hi2
   have q0:wr.cell? ⟨w.heap.size,0,none⟩=some (.slice A0 n0 c0):=(hb2.cell (p:=⟨w.heap.size,0,none⟩) hz0_w3).trans k0
   have q1:wr.cell? ⟨w.heap.size,1,none⟩=some (.slice (some ⟨be,of,none⟩) n1 c1):=(hb2.cell (p:=⟨w.heap.size,1,none⟩) hz0_w3).trans k1
   have hq0:w.heap.size<wr.heap.size:=by have:=hbr2.o.lt;omega
   have BR5:=A_ (show BRow wr w.heap.size (w3.heap.size+1) n0 (A4p n0 m.triangles (k+1)) by rw[← UN.o];exact hbr2.o)
   clear j0 j1 hbr hbr2
   go_wp2_with fail
   go_loopg [55] k (fun g s wr=>∃ j:Nat,j+g=k∧s=.int .i64 j∧Hid (BRow wr w.heap.size (w3.heap.size+1) n0 (A4p n0 m.triangles (k+1)))∧Below w3.heap.size w3 wr∧wo.heap.size<wr.heap.size∧(wr.cell? ⟨w3.heap.size,0,none⟩=some (.slice A n0 cA)∧wr.cell? ⟨w3.heap.size,1,none⟩=some (.slice (some ⟨X,oX,none⟩) n0 cX)∧wr.cell? ⟨w3.heap.size,2,none⟩=some (.slice (some ⟨Y,oY,none⟩) n0 cY)∧wr.cell? ⟨wo.heap.size,0,none⟩=some (.int .i64 t.a)∧wr.cell? ⟨wo.heap.size,1,none⟩=some (.int .i64 t.b)∧wr.cell? ⟨wo.heap.size,2,none⟩=some (.int .i64 t.c)∧wr.cell? ⟨wo.heap.size,3,none⟩=some (.int .i64 t.region)∧wr.cell? ⟨wo.heap.size,4,none⟩=some (.int .i64 t.level)))
   case atStart=>exact ⟨0,by omega,rfl,BR5.o,HB2'.o,hwo,⟨p0,p1,p2,t0,t1,t2,t3,t4⟩⟩
   case round =>
    clear p0 p1 p2 t0 t1 t2 t3 t4 q0 q1 hq0 hwo
    obtain ⟨j,hj,rfl,hbr3,hb3,hwo,⟨p0,p1,p2,t0,t1,t2,t3,t4⟩⟩:=hrel
    have HBj:=A_ hb3
    have HBWj:=A_ (Below.next HB3.o hb3)
    have hq3:w3.heap.size<wr.heap.size:=by have:=hbr3.o.lt;omega
    rcases Nat.lt_or_ge j k with hjk | hjk
    ·have hji:(j:Int)<k:=by omega
     have hjn:j<n1:=by omega
     obtain ⟨be',of',s,hA',hbl',hx2,u0,u1,u2,u3,u4,hagS⟩:=TTri.elemA (HS1.o.below HBWj.o) hjn
     cases hA'
     have HAS:=A_ hagS
     have SP:=A_ (HM.o.sep k t j s TK.o hjk hx2)
     have IS:=A_ (show A8c n0 s by have:=(HM.o.tri s (List.mem_of_getElem? hx2)).1;rwa [HL0.o] at this)
     obtain ⟨g',rfl⟩:∃ g',gk=g'+1:=⟨gk - 1,by omega⟩
     have hj':=A_ (show j+1+g'=k by omega)
     have hsep1:=B2d _ n0 xs ys (.agg #[.int .i64 s.a,.int .i64 s.b,.int .i64 s.c,.int .i64 s.region,.int .i64 s.level]) (.agg #[.int .i64 t.a,.int .i64 t.b,.int .i64 t.c,.int .i64 t.region,.int .i64 t.level]) s t _ _ (wr.alloc (.cells #[.int .i64 s.a,.int .i64 s.b,.int .i64 s.c,.int .i64 s.region,.int .i64 s.level] 93)) ((HP.o.below HBj.o).below (Below.box _)) HM.o.sx HM.o.sy (HAS.o.below (Below.box _)) (HAT0.o _) IS.o IT.o
     have S1:=A_ hsep1
     clear hj hjk hx2 hagS hsep1
     cases hs1:B4m xs ys s t
     ·have SF:=A_ hs1
      have ST:=A_ (show B4m xs ys t s=true from (SP.o).resolve_left (by rw[hs1];simp))
      clear hs1
      go_wp2_with fail
      have C:=S1.o
      rw[SF.o] at C
      refine C.mono ?_
      clear C
      rintro _ w8 ⟨rfl,hb8⟩
      obtain ⟨hc_w8,hf_w8⟩:=C_ hb8
      have HB8:=A_ (show Below wr.heap.size wr w8 from Below.trans (Below.box _) (hb8.mono (by simp)))
      have hs8:wr.heap.size<w8.heap.size:=by have:=hb8.size;simp at this;omega
      have hs80:w3.heap.size<w8.heap.size:=by omega
      have hs81:wo.heap.size<w8.heap.size:=by omega
      go_wp2_with fail
      have C:=B2d _ n0 xs ys (.agg #[.int .i64 t.a,.int .i64 t.b,.int .i64 t.c,.int .i64 t.region,.int .i64 t.level]) (.agg #[.int .i64 s.a,.int .i64 s.b,.int .i64 s.c,.int .i64 s.region,.int .i64 s.level]) t s _ _ w8 ((HP.o.below HBj.o).below HB8.o) HM.o.sx HM.o.sy (HAT0.o _) (HAS.o.below HB8.o) IT.o IS.o
      rw[ST.o] at C
      refine C.mono ?_
      clear C
      rintro _ w9 ⟨rfl,hb9⟩
      obtain ⟨hc_w9,hf_w9⟩:=C_ hb9
      have HB9:=A_ (Below.next HB8.o hb9)
      have hs9:w8.heap.size≤w9.heap.size:=hb9.size
      go_wp2_with fail
      go_roundg g'
      case measure=>omega
      case rel=>exact ⟨j+1,hj'.o,by go_num,hbr3.o.below HB9.o,Below.next HBj.o HB9.o,by omega,⟨by go_simp,by go_simp,by go_simp,by go_simp,by go_simp,by go_simp,by go_simp,by go_simp⟩⟩
     have SF:=A_ hs1
     clear hs1
     go_wp2_with fail
     have C:=S1.o
     rw[SF.o] at C
     refine C.mono ?_
     clear C
     rintro _ w8 ⟨rfl,hb8⟩
     obtain ⟨hc_w8,hf_w8⟩:=C_ hb8
     have HB8:=A_ (show Below wr.heap.size wr w8 from Below.trans (Below.box _) (hb8.mono (by simp)))
     have hs8:wr.heap.size<w8.heap.size:=by have:=hb8.size;simp at this;omega
     go_wp2_with fail
     go_roundg g'
     case measure=>omega
     case rel=>exact ⟨j+1,hj'.o,by go_num,hbr3.o.below HB8.o,Below.next HBj.o HB8.o,by omega,⟨by go_simp,by go_simp,by go_simp,by go_simp,by go_simp,by go_simp,by go_simp,by go_simp⟩⟩
    obtain rfl:j=k:=by omega
    have hji:¬ ((j:Int)<j):=by omega
    clear hj hjk
    go_wp2_with fail
    go_roundg g
    case measure=>omega
    case rel=>exact ⟨j+1,hk'.o,by go_num,hbr3.o,HBj.o,⟨p0,p1,p2⟩⟩
  obtain rfl:k=n1:=by omega
  have hki:¬ ((k:Int)<k):=by omega
  have BT:=A_ (show BRow wr w.heap.size (w3.heap.size+1) n0 (List.replicate n0 true) by
   have h1:=HM.o.used
   rw[HL0.o,HL1.o] at h1
   rw[← h1];exact hbr.o)
  have CB:=A_ (C0g (w3.heap.size+1) n0 wr (fun j hj=>(BT.o.cell (j:=j) (f:=true) (by rw[List.getElem?_replicate,if_pos hj])).1) BT.o.lt hn40)
  clear hk hkn hb hbr
  go_wp2_with fail
  refine CB.o.mono ?_
  rintro _ w5 ⟨rfl,hb5⟩
  obtain ⟨hc_w5,hf_w5⟩:=C_ hb5
  have hz5:w.heap.size<w5.heap.size:=by have:=hb5.size;omega
  have hz6:w3.heap.size<w5.heap.size:=by have:=hb5.size;omega
  have HB5:=A_ (Below.next HBW.o hb5)
  go_wp2_with fail
  refine (B9c _ n0 xs ys A1 k c1 m.triangles s1 w5 (HPr.o.below hb5) HM.o.sx HM.o.sy hn40 (HS1.o.below HB5.o) hm48 (fun t ht=>by have:=(HM.o.tri t ht).1;rwa [HL0.o] at this) (fun t ht=>by have:=HM.o.noin t ht;rwa [HL0.o] at this)).mono ?_
  rintro _ w6 ⟨rfl,hb6⟩
  go_wp2
  go_ret
  exact ⟨rfl,Below.next HB5.o hb6⟩
end Go.Proofs.YtbhemnidcleaiaaGreat.X
namespace Go.Proofs.YtbhemnidcleaiaaGreat.X
open Go.RowKit Go.XB Go.XN
def pt0:TPoint:=⟨A1j,A1j⟩
def A0c (ps:List TPoint) (i:Int):TPoint:=ps.getD i.toNat pt0
def B2g (ps:List TPoint) (t:TTri):List TPoint:=[A0c ps t.a,A0c ps t.b,A0c ps t.c]
section
variable {α:Type} [Dat α]
theorem B2m {w wr wa w8:World} {gB g' k:Nat} {cells cs:List Value} {fss:List (List Nat)} {ps:List α} {pt:α} {z:List Nat} (hfil:Filled wr cells ps fss) (hlen:ps.length=k) (hcl:cells.length=k*Dat.sz α) (how:Own w wr fss.flatten) (hnot:gB∉fss.flatten) (hb:Below w.heap.size w wr) (hgB:gB<wr.heap.size) (hbase:w.heap.size≤gB)
  (hC:Below wr.heap.size wr wa) (ha:Dat.at_ wa cs pt z) (hf:Free wa z) (hr:∀ b∈z,wr.heap.size≤b) (hg:wa.grownBy w8 (some gB)) (hor:g'=gB∨g'=wa.heap.size) :
  Filled w8 (cells++cs) (ps++[pt]) (fss++[z])∧Own w w8 (fss++[z]).flatten∧g'∉(fss++[z]).flatten∧Below w.heap.size w w8∧(ps++[pt]).length=k+1:=by
 have hsz:=hC.size
 have hzl:∀ b∈z,b<wa.heap.size:=Dat.lt ha
 have hfl:∀ b∈fss.flatten,b<wr.heap.size:=how.lt
 have k1:∀ b∈fss.flatten,w8.heap[b]?=wr.heap[b]?:=fun b hb1=>(hg.block b (by have:=hfl b hb1;omega) (by intro e;injection e with e;exact hnot (e ▸ hb1))).trans (hC.block b (hfl b hb1))
 have k2:∀ b∈z,w8.heap[b]?=wa.heap[b]?:=fun b hb1=>hg.block b (hzl b hb1) (by intro e;injection e with e;have:=hr b hb1;omega)
 have hz:(fss++[z]).flatten=fss.flatten++z:=by simp
 refine ⟨Filled.push (hfil.keep k1) (by rw[hcl,hlen]) (Dat.keep ha k2),?_,?_,?_,by simp[hlen]⟩
 ·rw[hz]
  refine Own.append ⟨how.1,fun b hb1=>⟨(how.2 b hb1).1,by obtain ⟨cs,t,e⟩:=(how.2 b hb1).2;exact ⟨cs,t,(k1 b hb1).trans e⟩⟩⟩ ⟨hf.1,fun b hb1=>⟨by have:=hr b hb1;have:=hb.size;omega,by obtain ⟨cs,t,e⟩:=hf.2 b hb1;exact ⟨cs,t,(k2 b hb1).trans e⟩⟩⟩ ?_
  exact A6d hfl hr
 ·rw[hz]
  intro h
  rcases List.mem_append.1 h with h | h
  ·rcases hor with h2 | h2
   ·exact hnot (h2 ▸ h)
   have:=hfl _ h;omega
  rcases hor with h2 | h2
  ·have:=hr _ h;omega
  have:=hzl _ h;omega
 exact (Below.next hb hC).grown hg (by have:=hb.size;omega) (fun k2 hk2=>by injection hk2 with h;subst h;exact hbase)
theorem B8a {w wr:World} {base gB k cap:Nat} {e:TypeId} {cells:List Value} {fss:List (List Nat)} {ps:List α} (hown:wr.ownsRow base e (Dat.sz α) (.slice (some ⟨gB,0,none⟩) k cap) k cells) (hbase:w.heap.size≤base) (hfil:Filled wr cells ps fss) (hlen:ps.length=k) (how:Own w wr fss.flatten) (hnot:gB∉fss.flatten) (hb:Below w.heap.size w wr):A2t w ps (.returned (.slice (some ⟨gB,0,none⟩) k cap)) wr:=by
 obtain ⟨A',c',bs',hv,hs,ho⟩:=hfil.sl (α:=α) hown hlen
 refine ⟨A',k,c',bs',by rw[← hv],hs,B8s (n:=k) (fss:=fss) ?_ how,hb⟩
 rcases ho with ho | ⟨g,h1,h2,h3,h4⟩
 ·exact .inl ho
 refine .inr ⟨g,h2,Nat.le_trans hbase h3,h4,fun hg=>?_⟩
 have e:gB=g:=by simpa [Value.ownBlock] using h1
 exact hnot (e ▸ hg)
end
attribute [local go_sem] O_ opAt P_ M_ Region.wanted yielded
attribute [local simp] P_ M_ MP.eq MP.agg MP.sl A0e
attribute [local go_sem] ix0 ix1 ix2
theorem D2w:(Tryz.prog.info? 38).map (fun i=>(i.zero,i.size,i.bytes))=some (some (.agg #[.bool false,.slice none 0 0,.slice none 0 0,.bool false,.slice none 0 0,.slice none 0 0]),6,112):=by kernel_rfl
theorem B2h {ps:List TPoint} {i:Nat} {x:TPoint} (h:ps[i]?=some x) {j:Int} (hj:j.toNat=i):A0c ps j=x:=by
 unfold A0c;rw[hj];simp[List.getD,h]

theorem B5b (v:Value) (m:TMesh) (b:List Nat) (k:Nat) (t:TTri) (w:World) (hx:Agg w v m b) (hk:m.triangles[k]?=some t) (it:A8c m.points.length t) (hall:m.points.all A0r=true) (h40:m.points.length≤40) (h48:m.triangles.length≤48) :
  Calls Tryz.prog 90 #[v,.int .i64 k] w (A2t w (B2g m.points t)):=by
 obtain ⟨A0,n0,c0,s0,A1,n1,c1,s1,rfl,rfl,hs0,hs1⟩:=TMesh.agg hx
 have HS0:=A_ hs0
 obtain ⟨i0,hi,hz0,hz1,hz2⟩:=info_parts D2w
 have hkn:k<n1:=by rw[← hs1.1];exact (List.getElem?_eq_some_iff.1 hk).1
 have hn40:n0≤40:=by rw[← hs0.1];exact h40
 have hn48:n1≤48:=by rw[← hs1.1];exact h48
 have IT:=A_ (show A8c n0 t by rw[← hs0.1];exact it)
 have ALL:=A_ hall
 have HL0:=A_ hs0.1
 obtain ⟨be,of,t',rfl,hbl,hx1,e0,e1,e2,e3,e4,hag⟩:=TTri.elemA hs1 hkn
 obtain rfl:t=t':=by rw[hk] at hx1;exact Option.some.inj hx1
 have HAG:=A_ hag
 have hki:(k:Int)<n1:=by omega
 have hk48:(n1:Int)≤48:=by omega
 have hn40i:(n0:Int)≤40:=by omega
 have WK:=A_ (show inB 0 (k:Int) ((n1:Int) - 1)=true by unfold inB;simp;omega)
 have IN0:=A_ (show inB 0 t.a ((n0:Int) - 1)=true by unfold inB;have:=IT.o.1;simp;omega)
 have IN1:=A_ (show inB 0 t.b ((n0:Int) - 1)=true by unfold inB;have:=IT.o.2.1;simp;omega)
 have IN2:=A_ (show inB 0 t.c ((n0:Int) - 1)=true by unfold inB;have:=IT.o.2.2;simp;omega)
 clear hx hk it hall h40 h48 hs0 hs1 hag hx1
 go_enter Tryz.func90,Tryz.ntmps90
 go_wp2_with fail
 have C:=A0z k 0 ((n1:Int) - 1) (w.alloc (.cells #[.slice A0 n0 c0,.slice (some ⟨be,of,none⟩) n1 c1] 26))
 rw[WK.o] at C
 refine C.mono ?_
 clear C
 rintro _ w1 ⟨rfl,hb1⟩
 obtain ⟨hc_w1,hf_w1⟩:=C_ hb1
 have hz0_w1:w.heap.size<w1.heap.size:=N_ hb1
 have HB1:=A_ (show Below w.heap.size w w1 from Below.go)
 have hbl1:be<w1.heap.size:=by have:=HB1.o.size;omega
 have W1:=A_ (show w.heap.size+1≤w1.heap.size by omega)
 go_wp2_with fail
 have RB:=A_ (World.ownsRow_made (base:=w.heap.size+1) (e:=38) (size:=6) w1 #[] 0 W1.o (Nat.zero_le _) rfl)
 refine (A4c _ t _ (w1.alloc (.cells #[] 38)) (HAG.o.below (HB1.o.alloc HB1.o.size _))).mono ?_
 rintro _ w2 ⟨rfl,hb2⟩
 obtain ⟨hc_w2,hf_w2⟩:=C_ hb2
 have HB12:=A_ (show Below w1.heap.size w1 w2 from Below.trans (Below.box _) (hb2.mono (by simp)))
 have HB2:=A_ (Below.next HB1.o HB12.o)
 have hz2':w.heap.size<w2.heap.size:=by have:=HB12.o.size;omega
 have R2:=A_ (J_ RB.o hb2)
 go_wp2_with fail
 go_loopg [5,22] 3 (fun g s5 s wr=>∃ (i gB cap:Nat) (cells:List Value) (fss:List (List Nat)),i+g=3∧s=.int .i64 i∧s5=.slice (some ⟨gB,0,none⟩) i cap∧Hid (wr.ownsRow (w.heap.size+1) 38 6 (.slice (some ⟨gB,0,none⟩) i cap) i cells)∧Hid (Filled wr cells ((B2g m.points t).take i) fss)∧Hid (((B2g m.points t).take i).length=i)∧Hid (Own w wr fss.flatten)∧Hid (gB∉fss.flatten)∧Below w.heap.size w wr∧(wr.cell? ⟨w.heap.size,0,none⟩=some (.slice A0 n0 c0)∧w.heap.size<wr.heap.size))
 case atStart=>exact ⟨0,w1.heap.size,0,[],[],rfl,rfl,rfl,R2.o,Filled.nil _ _,rfl,Own.nil _ _,(show w1.heap.size∉([]:List (List Nat)).flatten by simp),HB2.o,⟨by go_simp,hz2'⟩⟩
 case round =>
  clear hc_w1 hf_w1 hc_w2 hf_w2
  obtain ⟨i,gB,cap,cells,fss,hi3,rfl,rfl,hown,hfil,hlen,how,hnot,hb,⟨q0,hzr⟩⟩:=hrel
  have HB:=A_ hb
  obtain rfl | rfl | rfl | rfl:i=0∨i=1∨i=2∨i=3:=by omega
  ·obtain rfl:gk=2+1:=by omega
   obtain ⟨be2,of2,x,D1,nD1,cD1,d1,D2,nD2,cD2,d2,D4,nD4,cD4,d4,D5,nD5,cD5,d5,rfl,hbl2,hx2,p0,p1,p2,p3,p4,p5,hag2⟩:=TPoint.elemA (HS0.o.below hb) (show t.a.toNat<n0 by have:=IT.o.1;omega)
   have HAG2:=A_ hag2
   have PX:=A_ (B2h hx2 rfl)
   have OK:=A_ (show A0r x=true from List.all_eq_true.1 ALL.o x (List.mem_of_getElem? hx2))
   have ht0:=IT.o.1.1
   have ht1:=IT.o.1.2
   have C3:=A_ (show 0+1≤maxLen by decide)
   have C4:=A_ (show (0+1)*112≤140737488355328 by decide)
   clear hi3 hx2 hag2 hb
   go_wp2_with fail
   have C:=A0z t.a 0 ((n0:Int) - 1) wr
   rw[IN0.o] at C
   refine C.mono ?_
   clear C
   rintro _ w3 ⟨rfl,hb3⟩
   obtain ⟨hc_w3,hf_w3⟩:=C_ hb3
   have HB3:=A_ hb3
   go_wp2_with fail
   refine (A8p _ x _ w3 (HAG2.o.below HB3.o) OK.o).mono ?_
   rintro _ w4 ⟨v4,s4,rfl,ha4,ho4,hb4⟩
   obtain ⟨E1,nE1,cE1,u1,E2,nE2,cE2,u2,E4,nE4,cE4,u4,E5,nE5,cE5,u5,rfl,z4,k1,k2,k4,k5⟩:=TPoint.agg ha4
   have HA4:=A_ (show Dat.at_ w4 [.bool x.x.num.neg,.slice E1 nE1 cE1,.slice E2 nE2 cE2,.bool x.y.num.neg,.slice E4 nE4 cE4,.slice E5 nE5 cE5] x s4 by rw[z4];exact TPoint.shut k1 k2 k4 k5)
   have HF4:=A_ ho4.free
   have HR4:=A_ (show ∀ b∈s4,wr.heap.size≤b from fun b hb=>Nat.le_trans HB3.o.size (ho4.2 b hb).1)
   have HB4:=A_ (Below.next HB3.o hb4)
   have q4:w4.cell? ⟨w.heap.size,0,none⟩=some (.slice (some ⟨be2,of2,none⟩) n0 c0):=(HB4.o.cell (p:=⟨w.heap.size,0,none⟩) hzr).trans q0
   clear hc_w3 hf_w3 hb3 ha4 ho4 hb4 z4 k1 k2 k4 k5
   have hownA:=J_ hown.o HB4.o
   have W4:=A_ (show w.heap.size+1≤w4.heap.size by have:=HB4.o.size;omega)
   have hz4:w.heap.size<w4.heap.size:=by have:=W4.o;omega
   go_wp2_with (at_builtin;refine A1f rfl _ _ 23 rfl (w.heap.size+1) 38 i0 (.agg #[.bool false,.slice none 0 0,.slice none 0 0,.bool false,.slice none 0 0,.slice none 0 0]) 6 112 Tryz.underlying23 hi hz0 hz1 hz2 rfl (by decide) gB 0 cap cells (by go_simp;done) (hownA.alloc _) ⟨w4.heap.size,0,none⟩ 1 1 [.bool x.x.num.neg,.slice E1 nE1 cE1,.slice E2 nE2 cE2,.bool x.y.num.neg,.slice E4 nE4 cE4,.slice E5 nE5 cE5] (by go_simp;done) rfl (A0k (heap_alloc_new _ _)) (Dat.one HA4.o) C3.o C4.o (A0p W4.o _) ?_;intro g' cap' w8 hown' hgrow' hor')
   have hgB:=World.ownsRow.lt hown.o _ rfl
   have P:=A_ (B2m (w:=w) (wr:=wr) (g':=g') hfil.o hlen.o hown.o.1 how.o hnot.o HB.o hgB.2 (by have:=hgB.1;simp at this;omega) (HB4.o.alloc HB4.o.size _) (Dat.keep HA4.o (fun g hg=>Below.heap_alloc _ _ _ (Dat.lt HA4.o g hg))) (HF4.o.below (Below.box _)) HR4.o hgrow' hor')
   have OW:=A_ hown'
   have Q8:=A_ (show w8.cell? ⟨w.heap.size,0,none⟩=some (.slice (some ⟨be2,of2,none⟩) n0 c0) from (World.cell?_of_block (a:=⟨w.heap.size,0,none⟩) (hgrow'.block w.heap.size (by simp;have:=W4.o;omega) (by intro e;injection e with e;have h9:w.heap.size+1≤gB:=hgB.1;omega))).trans (by go_simp))
   have L8:=A_ (show w.heap.size<w8.heap.size by have:=hgrow'.size;simp at this;have:=W4.o;omega)
   clear hown' hgrow' hor' hownA hgB
   generalize (cells++[.bool x.x.num.neg,.slice E1 nE1 cE1,.slice E2 nE2 cE2,.bool x.y.num.neg,.slice E4 nE4 cE4,.slice E5 nE5 cE5]:List Value)=cells2 at OW P
   go_wp2_with fail
   go_roundg 2
   case measure=>omega
   case rel=>exact ⟨0+1,g',cap',cells2,(fss++[s4]:List (List Nat)),rfl,by go_num,rfl,OW.o,(show Filled w8 _ ((B2g m.points t).take (0+1)) _ by have h9:=P.o.1;rw[← PX.o] at h9;exact h9),rfl,P.o.2.1,P.o.2.2.1,P.o.2.2.2.1,⟨Q8.o,L8.o⟩⟩
  ·obtain rfl:gk=1+1:=by omega
   obtain ⟨be2,of2,x,D1,nD1,cD1,d1,D2,nD2,cD2,d2,D4,nD4,cD4,d4,D5,nD5,cD5,d5,rfl,hbl2,hx2,p0,p1,p2,p3,p4,p5,hag2⟩:=TPoint.elemA (HS0.o.below hb) (show t.b.toNat<n0 by have:=IT.o.2.1;omega)
   have HAG2:=A_ hag2
   have PX:=A_ (B2h hx2 rfl)
   have OK:=A_ (show A0r x=true from List.all_eq_true.1 ALL.o x (List.mem_of_getElem? hx2))
   have ht0:=IT.o.2.1.1
   have ht1:=IT.o.2.1.2
   have C3:=A_ (show 1+1≤maxLen by decide)
   have C4:=A_ (show (1+1)*112≤140737488355328 by decide)
   clear hi3 hx2 hag2 hb
   go_wp2_with fail
   have C:=A0z t.b 0 ((n0:Int) - 1) wr
   rw[IN1.o] at C
   refine C.mono ?_
   clear C
   rintro _ w3 ⟨rfl,hb3⟩
   obtain ⟨hc_w3,hf_w3⟩:=C_ hb3
   have HB3:=A_ hb3
   go_wp2_with fail
   refine (A8p _ x _ w3 (HAG2.o.below HB3.o) OK.o).mono ?_
   rintro _ w4 ⟨v4,s4,rfl,ha4,ho4,hb4⟩
   obtain ⟨E1,nE1,cE1,u1,E2,nE2,cE2,u2,E4,nE4,cE4,u4,E5,nE5,cE5,u5,rfl,z4,k1,k2,k4,k5⟩:=TPoint.agg ha4
   have HA4:=A_ (show Dat.at_ w4 [.bool x.x.num.neg,.slice E1 nE1 cE1,.slice E2 nE2 cE2,.bool x.y.num.neg,.slice E4 nE4 cE4,.slice E5 nE5 cE5] x s4 by rw[z4];exact TPoint.shut k1 k2 k4 k5)
   have HF4:=A_ ho4.free
   have HR4:=A_ (show ∀ b∈s4,wr.heap.size≤b from fun b hb=>Nat.le_trans HB3.o.size (ho4.2 b hb).1)
   have HB4:=A_ (Below.next HB3.o hb4)
   have q4:w4.cell? ⟨w.heap.size,0,none⟩=some (.slice (some ⟨be2,of2,none⟩) n0 c0):=(HB4.o.cell (p:=⟨w.heap.size,0,none⟩) hzr).trans q0
   clear hc_w3 hf_w3 hb3 ha4 ho4 hb4 z4 k1 k2 k4 k5
   have hownA:=J_ hown.o HB4.o
   have W4:=A_ (show w.heap.size+1≤w4.heap.size by have:=HB4.o.size;omega)
   have hz4:w.heap.size<w4.heap.size:=by have:=W4.o;omega
   go_wp2_with (at_builtin;refine A1f rfl _ _ 23 rfl (w.heap.size+1) 38 i0 (.agg #[.bool false,.slice none 0 0,.slice none 0 0,.bool false,.slice none 0 0,.slice none 0 0]) 6 112 Tryz.underlying23 hi hz0 hz1 hz2 rfl (by decide) gB 1 cap cells (by go_simp;done) (hownA.alloc _) ⟨w4.heap.size,0,none⟩ 1 1 [.bool x.x.num.neg,.slice E1 nE1 cE1,.slice E2 nE2 cE2,.bool x.y.num.neg,.slice E4 nE4 cE4,.slice E5 nE5 cE5] (by go_simp;done) rfl (A0k (heap_alloc_new _ _)) (Dat.one HA4.o) C3.o C4.o (A0p W4.o _) ?_;intro g' cap' w8 hown' hgrow' hor')
   have hgB:=World.ownsRow.lt hown.o _ rfl
   have P:=A_ (B2m (w:=w) (wr:=wr) (g':=g') hfil.o hlen.o hown.o.1 how.o hnot.o HB.o hgB.2 (by have:=hgB.1;simp at this;omega) (HB4.o.alloc HB4.o.size _) (Dat.keep HA4.o (fun g hg=>Below.heap_alloc _ _ _ (Dat.lt HA4.o g hg))) (HF4.o.below (Below.box _)) HR4.o hgrow' hor')
   have OW:=A_ hown'
   have Q8:=A_ (show w8.cell? ⟨w.heap.size,0,none⟩=some (.slice (some ⟨be2,of2,none⟩) n0 c0) from (World.cell?_of_block (a:=⟨w.heap.size,0,none⟩) (hgrow'.block w.heap.size (by simp;have:=W4.o;omega) (by intro e;injection e with e;have h9:w.heap.size+1≤gB:=hgB.1;omega))).trans (by go_simp))
   have L8:=A_ (show w.heap.size<w8.heap.size by have:=hgrow'.size;simp at this;have:=W4.o;omega)
   clear hown' hgrow' hor' hownA hgB
   generalize (cells++[.bool x.x.num.neg,.slice E1 nE1 cE1,.slice E2 nE2 cE2,.bool x.y.num.neg,.slice E4 nE4 cE4,.slice E5 nE5 cE5]:List Value)=cells2 at OW P
   go_wp2_with fail
   go_roundg 1
   case measure=>omega
   case rel=>exact ⟨1+1,g',cap',cells2,(fss++[s4]:List (List Nat)),rfl,by go_num,rfl,OW.o,(show Filled w8 _ ((B2g m.points t).take (1+1)) _ by have h9:=P.o.1;rw[← PX.o] at h9;exact h9),rfl,P.o.2.1,P.o.2.2.1,P.o.2.2.2.1,⟨Q8.o,L8.o⟩⟩
  ·obtain rfl:gk=0+1:=by omega
   obtain ⟨be2,of2,x,D1,nD1,cD1,d1,D2,nD2,cD2,d2,D4,nD4,cD4,d4,D5,nD5,cD5,d5,rfl,hbl2,hx2,p0,p1,p2,p3,p4,p5,hag2⟩:=TPoint.elemA (HS0.o.below hb) (show t.c.toNat<n0 by have:=IT.o.2.2;omega)
   have HAG2:=A_ hag2
   have PX:=A_ (B2h hx2 rfl)
   have OK:=A_ (show A0r x=true from List.all_eq_true.1 ALL.o x (List.mem_of_getElem? hx2))
   have ht0:=IT.o.2.2.1
   have ht1:=IT.o.2.2.2
   have C3:=A_ (show 2+1≤maxLen by decide)
   have C4:=A_ (show (2+1)*112≤140737488355328 by decide)
   clear hi3 hx2 hag2 hb
   go_wp2_with fail
   have C:=A0z t.c 0 ((n0:Int) - 1) wr
   rw[IN2.o] at C
   refine C.mono ?_
   clear C
   rintro _ w3 ⟨rfl,hb3⟩
   obtain ⟨hc_w3,hf_w3⟩:=C_ hb3
   have HB3:=A_ hb3
   go_wp2_with fail
   refine (A8p _ x _ w3 (HAG2.o.below HB3.o) OK.o).mono ?_
   rintro _ w4 ⟨v4,s4,rfl,ha4,ho4,hb4⟩
   obtain ⟨E1,nE1,cE1,u1,E2,nE2,cE2,u2,E4,nE4,cE4,u4,E5,nE5,cE5,u5,rfl,z4,k1,k2,k4,k5⟩:=TPoint.agg ha4
   have HA4:=A_ (show Dat.at_ w4 [.bool x.x.num.neg,.slice E1 nE1 cE1,.slice E2 nE2 cE2,.bool x.y.num.neg,.slice E4 nE4 cE4,.slice E5 nE5 cE5] x s4 by rw[z4];exact TPoint.shut k1 k2 k4 k5)
   have HF4:=A_ ho4.free
   have HR4:=A_ (show ∀ b∈s4,wr.heap.size≤b from fun b hb=>Nat.le_trans HB3.o.size (ho4.2 b hb).1)
   have HB4:=A_ (Below.next HB3.o hb4)
   have q4:w4.cell? ⟨w.heap.size,0,none⟩=some (.slice (some ⟨be2,of2,none⟩) n0 c0):=(HB4.o.cell (p:=⟨w.heap.size,0,none⟩) hzr).trans q0
   clear hc_w3 hf_w3 hb3 ha4 ho4 hb4 z4 k1 k2 k4 k5
   have hownA:=J_ hown.o HB4.o
   have W4:=A_ (show w.heap.size+1≤w4.heap.size by have:=HB4.o.size;omega)
   have hz4:w.heap.size<w4.heap.size:=by have:=W4.o;omega
   go_wp2_with (at_builtin;refine A1f rfl _ _ 23 rfl (w.heap.size+1) 38 i0 (.agg #[.bool false,.slice none 0 0,.slice none 0 0,.bool false,.slice none 0 0,.slice none 0 0]) 6 112 Tryz.underlying23 hi hz0 hz1 hz2 rfl (by decide) gB 2 cap cells (by go_simp;done) (hownA.alloc _) ⟨w4.heap.size,0,none⟩ 1 1 [.bool x.x.num.neg,.slice E1 nE1 cE1,.slice E2 nE2 cE2,.bool x.y.num.neg,.slice E4 nE4 cE4,.slice E5 nE5 cE5] (by go_simp;done) rfl (A0k (heap_alloc_new _ _)) (Dat.one HA4.o) C3.o C4.o (A0p W4.o _) ?_;intro g' cap' w8 hown' hgrow' hor')
   have hgB:=World.ownsRow.lt hown.o _ rfl
   have P:=A_ (B2m (w:=w) (wr:=wr) (g':=g') hfil.o hlen.o hown.o.1 how.o hnot.o HB.o hgB.2 (by have:=hgB.1;simp at this;omega) (HB4.o.alloc HB4.o.size _) (Dat.keep HA4.o (fun g hg=>Below.heap_alloc _ _ _ (Dat.lt HA4.o g hg))) (HF4.o.below (Below.box _)) HR4.o hgrow' hor')
   have OW:=A_ hown'
   have Q8:=A_ (show w8.cell? ⟨w.heap.size,0,none⟩=some (.slice (some ⟨be2,of2,none⟩) n0 c0) from (World.cell?_of_block (a:=⟨w.heap.size,0,none⟩) (hgrow'.block w.heap.size (by simp;have:=W4.o;omega) (by intro e;injection e with e;have h9:w.heap.size+1≤gB:=hgB.1;omega))).trans (by go_simp))
   have L8:=A_ (show w.heap.size<w8.heap.size by have:=hgrow'.size;simp at this;have:=W4.o;omega)
   clear hown' hgrow' hor' hownA hgB
   generalize (cells++[.bool x.x.num.neg,.slice E1 nE1 cE1,.slice E2 nE2 cE2,.bool x.y.num.neg,.slice E4 nE4 cE4,.slice E5 nE5 cE5]:List Value)=cells2 at OW P
   go_wp2_with fail
   go_roundg 0
   case measure=>omega
   case rel=>exact ⟨2+1,g',cap',cells2,(fss++[s4]:List (List Nat)),rfl,by go_num,rfl,OW.o,(show Filled w8 _ ((B2g m.points t).take (2+1)) _ by have h9:=P.o.1;rw[← PX.o] at h9;exact h9),rfl,P.o.2.1,P.o.2.2.1,P.o.2.2.2.1,⟨Q8.o,L8.o⟩⟩
  clear hi3 hb
  go_wp2
  go_ret
  exact B8a hown.o (Nat.le_succ _) hfil.o hlen.o how.o hnot.o HB.o
end Go.Proofs.YtbhemnidcleaiaaGreat.X
namespace Go.Proofs.YtbhemnidcleaiaaGreat.X
open Go.RowKit Go.XB Go.XN
def C6w (l:List TPoint) (fs:List TRat) (z:TPoint):Nat→TPoint
 | 0=>V_ 0 0
 | k+1=>A9b (C6w l fs z k) (A2q (fs.getD k A1j) (A2h z (l.getD k pt0)))
def C9e (a b c:TPoint) (fs:List TRat) (z:TPoint):TPoint:=A2q (A3g (A1y 1) (A0i a b c)) (C6w [a,b,c] fs z 3)
theorem C5l {w w':World} {b:Nat} {o:Obj} (h:w.heap[b]?=some o) (hb:Below w.heap.size w w'):w'.heap[b]?=some o:=(hb.block b (E_ h)).trans h
attribute [local go_sem] O_ opAt P_ M_ Region.wanted yielded
attribute [local simp] P_ M_ MP.eq MP.agg MP.sl A0e
end Go.Proofs.YtbhemnidcleaiaaGreat.X
namespace Go.Proofs.YtbhemnidcleaiaaGreat.X
open Go.RowKit Go.XB Go.XN
def D6w (r:TRat):TRat:=⟨Q_ (-L_ r),r.den⟩
def C5s (es:List TEdge) (fs:List TRat) (k a b:Int):TRat:=if (es.getD (B4z es (C8y a b)) A8r).left=k then fs.getD (B4z es (C8y a b)) A1j else D6w (fs.getD (B4z es (C8y a b)) A1j)
def D6u (es:List TEdge) (fs:List TRat) (k:Int) (t:TTri):List TRat:=[C5s es fs k t.b t.c,C5s es fs k t.c t.a,C5s es fs k t.a t.b]
def D6j (es:List TEdge) (t:TTri):Prop:=B3o es (C8y t.b t.c)=true∧B3o es (C8y t.c t.a)=true∧B3o es (C8y t.a t.b)=true
attribute [local go_sem] O_ opAt P_ M_ Region.wanted yielded
attribute [local simp] P_ M_ MP.eq MP.agg MP.sl A0e
attribute [local go_sem] ix0 ix1 ix2
theorem A7i {w:World} {y:TRat} {u0 u1 u2:Value} {b:List Nat} (h:Agg w (.agg #[u0,u1,u2]) y b):Dat.at_ w [u0,u1,u2] y b:=by
 obtain ⟨cs,he,hd⟩:=h
 have e2:cs=[u0,u1,u2]:=by have:=congrArg (fun v=>match v with | .agg c=>c.toList | _=>[]) he;simpa using this.symm
 rw[← e2];exact hd
theorem B9z:(Tryz.prog.info? 35).map (fun i=>(i.zero,i.size,i.bytes))=some (some (.agg #[.bool false,.slice none 0 0,.slice none 0 0]),3,56):=by kernel_rfl
end Go.Proofs.YtbhemnidcleaiaaGreat.X
namespace Go.Proofs.YtbhemnidcleaiaaGreat.X
open Go.RowKit Go.XB Go.XN
def D7c (m:TMesh) (d:TPoint):List TRat:=(A2m m.triangles).map (fun e=>B2t d (A2h (A0c m.points e.b) (A0c m.points e.a)))
attribute [local go_sem] O_ opAt P_ M_ Region.wanted yielded
attribute [local simp] P_ M_ MP.eq MP.agg MP.sl MP.slbox A0e
theorem B5i:A5r 81:=fun a w=>by kernel_rfl
def A9u (x:TRat):Bool:=x.den.isEmpty
theorem B6t (v:Value) (x:TRat) (b:List Nat) (w:World) (hx:Agg w v x b):Calls Tryz.prog 81 #[v] w (A0j w (.bool (A9u x))):=by
 have HX:=A_ hx
 obtain ⟨A1,n1,c1,s1,A2,n2,c2,s2,rfl,rfl,hs1,hs2⟩:=TRat.agg hx
 clear hs1 hs2 hx
 go_enter Tryz.func81,Tryz.ntmps81
 go_wp2_with fail
 refine (A5h _ x _ _ (Agg.below HX.o Below.go)).mono ?_
 rintro _ w1 ⟨rfl,hb1⟩
 go_wp2
 go_ret
 exact ⟨by unfold A9u;simp,Below.go⟩
theorem B3b (A:Option Addr) (n c:Nat) (xs:List TRat) (bs:List Nat) (w:World) (hx:Sl w A n c xs bs) (hall:xs.any A9u=false) :
  Calls Tryz.prog 35 #[.slice A n c] w (A0j w (.slice A n c)):=by
 have HX:=A_ hx;have HA:=A_ hall
 clear hx hall
 go_enter Tryz.func35,Tryz.ntmps35
 go_wp2_with fail
 have C:=A9y 81 B5i A n c xs bs w A9u HX.o (fun v x b w _ h=>B6t v x b w h)
 rw[HA.o] at C
 refine C.mono ?_
 clear C
 rintro _ w1 ⟨rfl,hb1⟩
 go_wp2
 go_ret
 exact ⟨rfl,hb1⟩

end Go.Proofs.YtbhemnidcleaiaaGreat.X
namespace Go.Proofs.YtbhemnidcleaiaaGreat.X
open Go.RowKit Go.XB Go.XN
def C6n (es:List TEdge) (fs:List TRat) (t:Int):Nat→TRat
 | 0=>A1y 0
 | k+1=>if (es.getD k A8r).left=t then A2d (C6n es fs t k) (fs.getD k A1j) else C6n es fs t k
def C1n (es:List TEdge) (fs:List TRat) (t:Int):Nat→TRat
 | 0=>A1y 0
 | k+1=>if (es.getD k A8r).right=t then A2d (C1n es fs t k) (fs.getD k A1j) else C1n es fs t k
def D7h (es:List TEdge) (fs:List TRat) (t:Int):TRat:=A0u (C6n es fs t es.length) (C1n es fs t es.length)
theorem A5k {w:World} {g:Nat} {v0 v1 v2:Value} (b:Nat) (h:b≠g):(((w.setCell ⟨g,0,none⟩ v0).setCell ⟨g,1,none⟩ v1).setCell ⟨g,2,none⟩ v2).heap[b]?=w.heap[b]?:=A0b g [v0,v1,v2] w 0 b h
def RBox (w:World) (g:Nat) (x:TRat) (P1:Option Addr) (n1 m1:Nat) (P2:Option Addr) (n2 m2:Nat):Prop:=g<w.heap.size∧(w.cell? ⟨g,0,none⟩=some (.bool x.num.neg)∧w.cell? ⟨g,1,none⟩=some (.slice P1 n1 m1)∧w.cell? ⟨g,2,none⟩=some (.slice P2 n2 m2))∧(w.frozen? ⟨g,0,none⟩=false∧w.frozen? ⟨g,1,none⟩=false∧w.frozen? ⟨g,2,none⟩=false)
theorem RBox.keep {w w':World} {g:Nat} {x:TRat} {P1:Option Addr} {n1 m1:Nat} {P2:Option Addr} {n2 m2:Nat} (h:RBox w g x P1 n1 m1 P2 n2 m2) (hk:w'.heap[g]?=w.heap[g]?) (hs:w.heap.size≤w'.heap.size):RBox w' g x P1 n1 m1 P2 n2 m2:=by
 obtain ⟨h0,⟨h1,h2,h3⟩,⟨h4,h5,h6⟩⟩:=h
 exact ⟨by omega,⟨(World.cell?_of_block hk).trans h1,(World.cell?_of_block hk).trans h2,(World.cell?_of_block hk).trans h3⟩,⟨(World.frozen?_of_block hk).trans h4,(World.frozen?_of_block hk).trans h5,(World.frozen?_of_block hk).trans h6⟩⟩
theorem RBox.below {w w':World} {g:Nat} {x:TRat} {P1:Option Addr} {n1 m1:Nat} {P2:Option Addr} {n2 m2:Nat} (h:RBox w g x P1 n1 m1 P2 n2 m2) (hb:Below w.heap.size w w'):RBox w' g x P1 n1 m1 P2 n2 m2:=h.keep (hb.block g h.1) hb.size
attribute [local go_sem] O_ opAt P_ M_ Region.wanted yielded
attribute [local simp] P_ M_ MP.eq MP.agg MP.sl A0e
theorem RBox.set {w:World} {g:Nat} {x y:TRat} {P1:Option Addr} {n1 m1:Nat} {P2:Option Addr} {n2 m2:Nat} {Q1:Option Addr} {k1 l1:Nat} {Q2:Option Addr} {k2 l2:Nat} (h:RBox w g x P1 n1 m1 P2 n2 m2) :
  RBox (((w.setCell ⟨g,0,none⟩ (.bool y.num.neg)).setCell ⟨g,1,none⟩ (.slice Q1 k1 l1)).setCell ⟨g,2,none⟩ (.slice Q2 k2 l2)) g y Q1 k1 l1 Q2 k2 l2:=by
 obtain ⟨h0,⟨h1,h2,h3⟩,⟨h4,h5,h6⟩⟩:=h
 exact ⟨by simpa using h0,⟨by go_simp,by go_simp,by go_simp⟩,⟨by go_simp,by go_simp,by go_simp⟩⟩

structure OutSt (w U:World) (ga gb:Nat) (E:Option Addr) (nf cE:Nat) (es:List TEdge) (eb:List Nat) (lx:TRat) (P1:Option Addr) (p1 q1:Nat) (P2:Option Addr) (p2 q2:Nat) (rl:List Nat) (rx:TRat) (Q1:Option Addr) (k1 l1:Nat) (Q2:Option Addr) (k2 l2:Nat) (rr:List Nat):Prop where
 bl:Below w.heap.size w U
 ra:RBox U ga lx P1 p1 q1 P2 p2 q2
 rb:RBox U gb rx Q1 k1 l1 Q2 k2 l2
 al:Agg U (.agg #[.bool lx.num.neg,.slice P1 p1 q1,.slice P2 p2 q2]) lx rl
 ar:Agg U (.agg #[.bool rx.num.neg,.slice Q1 k1 l1,.slice Q2 k2 l2]) rx rr
 dl:∀ b∈rl,b≠ga∧b≠gb
 dr:∀ b∈rr,b≠ga∧b≠gb
 se:Sl U E nf cE es eb
 de:∀ b∈eb,b≠ga∧b≠gb
 res:U.heap[w.heap.size+1]?=some (.cells #[.bool false,.slice none 0 0,.slice none 0 0] 35)
 na:w.heap.size+2≤ga
 nb:w.heap.size+2≤gb
 ne:ga≠gb
end Go.Proofs.YtbhemnidcleaiaaGreat.X
namespace Go.Proofs.YtbhemnidcleaiaaGreat.X
open Go.RowKit Go.XB Go.XN
def D0j (a b c:TPoint):List TPoint:=[B4o b c,B4o c a,B4o a b]
def D6i (a b c:TPoint) (fs:List TRat) (more:TPoint):Nat→TRat
 | 0=>A1y 0
 | k+1=>A2d (D6i a b c fs more k) (A9c (A9b (C9e a b c fs ((D0j a b c).getD k pt0)) more) (A9b (C9e a b c fs ((D0j a b c).getD k pt0)) more))
def D6s (a b c:TPoint) (fs:List TRat) (more:TPoint):TRat:=A1c (B1z a b c) (A1c (mkR 1 3) (D6i a b c fs more 3))
attribute [local go_sem] O_ opAt P_ M_ Region.wanted yielded
attribute [local simp] P_ M_ MP.eq MP.agg MP.sl A0e

end Go.Proofs.YtbhemnidcleaiaaGreat.X
namespace Go.Proofs.YtbhemnidcleaiaaGreat.X
open Go.RowKit Go.XB Go.XN
structure FluxI (m:TMesh) (xs ys:List Int) (fs:List TRat):Prop where
 mesh:MeshI m xs ys
 len:fs.length=(A2m m.triangles).length
 ok:fs.all S_=true
attribute [local go_sem] O_ opAt P_ M_ Region.wanted yielded
attribute [local simp] P_ M_ MP.eq MP.agg MP.sl A0e
theorem A5x (A:Option Addr) (n c:Nat) (xs:List TRat) (bs:List Nat) (w:World) (hx:Sl w A n c xs bs) (hok:xs.all S_=true) :
  Calls Tryz.prog 44 #[.slice A n c,.int .i64 n] w (A0j w (.bool true)):=by
 have HX:=A_ hx;have HO:=A_ hok
 clear hx hok
 go_enter Tryz.func44,Tryz.ntmps44
 go_wp2_with fail
 have C:=A1r A n c xs bs w HX.o
 rw[HO.o] at C
 refine C.mono ?_
 clear C
 rintro _ w1 ⟨rfl,hb1⟩
 go_wp2
 go_ret
 exact ⟨rfl,hb1⟩
end Go.Proofs.YtbhemnidcleaiaaGreat.X

namespace Go.XB
open Go.RowKit Go.Proofs.YtbhemnidcleaiaaGreat.X
section
variable {α:Type} [Dat α]
def Pend (w wb:World) (e:TypeId) (wr:World) (gB i cap:Nat) (ps:List α):Prop :=
 ∃ cells fss,wr.ownsRow wb.heap.size e (Dat.sz α) (.slice (some ⟨gB,0,none⟩) i cap) i cells∧Filled wr cells ps fss∧ps.length=i∧Own w wr fss.flatten∧gB∉fss.flatten∧w.heap.size≤wb.heap.size∧Below w.heap.size w wr∧Below wb.heap.size wb wr
variable {w wb wr wa:World} {e:TypeId} {gB i cap:Nat} {ps:List α}
theorem Pend.start (hw:Below w.heap.size w wb):Pend (α:=α) w wb e (wb.alloc (.cells #[] e)) wb.heap.size 0 0 [] :=
 ⟨[],[],World.ownsRow_made wb #[] 0 (Nat.le_refl _) (Nat.zero_le _) (by simp),Filled.nil _ _,rfl,Own.nil _ _,by simp,hw.size,Below.next hw (Below.box _),Below.box _⟩
theorem Pend.below (h:Pend w wb e wr gB i cap ps) (hb:Below wr.heap.size wr wa):Pend w wb e wa gB i cap ps:=by
 obtain ⟨cells,fss,h1,h2,h3,h4,h5,h6,h7,h8⟩:=h
 exact ⟨cells,fss,J_ h1 hb,h2.below hb,h3,h4.below hb,h5,h6,Below.next h7 hb,Below.trans h8 (hb.mono h8.size)⟩
theorem Pend.bw (h:Pend w wb e wr gB i cap ps):Below w.heap.size w wr:=by obtain ⟨_,_,_,_,_,_,_,_,h,_⟩:=h;exact h
theorem Pend.bb (h:Pend w wb e wr gB i cap ps):Below wb.heap.size wb wr:=by obtain ⟨_,_,_,_,_,_,_,_,_,h⟩:=h;exact h
theorem Pend.done (h:Pend w wb e wr gB i cap ps):A2t w ps (.returned (.slice (some ⟨gB,0,none⟩) i cap)) wr:=by
 obtain ⟨cells,fss,h1,h2,h3,h4,h5,h6,h7,h8⟩:=h
 exact B8a h1 h6 h2 h3 h4 h5 h7
theorem Sl.pushed {β:Type} [Dat β] {A:Option Addr} {n c:Nat} {xs:List β} {bs:List Nat} {w8:World} {g':Nat} (h:Sl wr A n c xs bs) (hC:Below wr.heap.size wr wa) (hg:wa.grownBy w8 (some gB)) (hor:g'=gB∨g'=wa.heap.size) (hn:gB∉bs):Sl w8 A n c xs bs∧g'∉bs :=
 ⟨(h.below hC).keep (fun b hb=>hg.block b (by have:=h.lt b hb;have:=hC.size;omega) (by intro e;injection e with e;exact hn (e ▸ hb))),fun hb=>hor.elim (fun e=>hn (e ▸ hb)) (fun e=>by have:=h.lt _ hb;have:=hC.size;omega)⟩
end
end Go.XB
namespace Go
open Go.RowKit Go.XB Go.Proofs.YtbhemnidcleaiaaGreat.X
theorem A4t {P:Program} {α:Type} [Dat α] {w wb wr wa:World} {gB k cap:Nat} {ps:List α} {ops:Array Oper} {rest:List Oper} {o:Oper} {a:Act} {Q:Exit→Act→World→Prop} (hgd:o.guard=none) (s x:Operand) (t:TypeId)
  (ho:o.op=.call { callee:=.builtin .append,args:=#[s,x],argTypes:=#[t,t] })
  (e:TypeId) (i:TypeInfo) (z:Value) (bytes:Nat) (ht:P.underlying t=some (.slice e)) (hi:P.info? e=some i) (hz:i.zero=some z)
  (hsize:i.size=Dat.sz α) (hby:i.bytes=bytes) (hzs:z.cells.size=Dat.sz α) (hp:Pend w wb e wr gB k cap ps) (hC:Below wr.heap.size wr wa) (hs:a.eval s=.slice (some ⟨gB,0,none⟩) k cap)
  (ad:Addr) (c:Nat) (cs:List Value) (pt:α) (zb:List Nat) (hx:a.eval x=.slice (some ad) 1 c) (hnews:∀ j u,cs[j]?=some u→wa.cell? (ad.add j)=some u)
  (ha:Dat.at_ wa cs pt zb) (hf:Free wa zb) (hr:∀ b∈zb,wr.heap.size≤b) (h63:k+1≤maxLen) (hbytes:(k+1)*bytes≤140737488355328)
  (h:∀ g' cap' w8,Pend w wb e w8 g' (k+1) cap' (ps++[pt])→wa.grownBy w8 (some gB)→(g'=gB∨g'=wa.heap.size)→wpList P ops Q rest (a.put o.dst (.slice (some ⟨g',0,none⟩) (k+1) cap')) w8):wpList P ops Q (o::rest) a wa:=by
 obtain ⟨cells,fss,h1,h2,h3,h4,h5,h6,h7,h8⟩:=hp
 have hl:=World.ownsRow.lt h1 _ rfl
 have hsz:=hC.size
 have hwb:wb.heap.size≤wa.heap.size:=by have:=h8.size;omega
 refine A1f hgd s x t ho wb.heap.size e i z (Dat.sz α) bytes ht hi hz hsize hby hzs Dat.pos gB k cap cells hs (J_ h1 hC) ad 1 c cs hx (by rw[Nat.one_mul];exact Dat.len ha) hnews (Dat.one ha) h63 hbytes hwb ?_
 intro g' cap' w8 hown hg hor
 refine h g' cap' w8 ?_ hg hor
 obtain ⟨p1,p2,p3,p4,p5⟩:=B2m (w:=w) (g':=g') h2 h3 h1.1 h4 h5 h7 hl.2 (Nat.le_trans h6 hl.1) hC ha hf hr hg hor
 exact ⟨_,_,hown,p1,p5,p2,p3,h6,p4,(h8.trans (hC.mono h8.size)).grown hg hwb (fun k2 hk2=>by injection hk2 with h;subst h;exact hl.1)⟩
end Go
namespace Go.Proofs.YtbhemnidcleaiaaGreat.X
open Go.RowKit Go.XB Go.XN
attribute [local go_sem] O_ opAt P_ M_ Region.wanted yielded
attribute [local simp] P_ M_ MP.eq MP.agg MP.sl MP.slbox A0e
end Go.Proofs.YtbhemnidcleaiaaGreat.X
namespace Go.Proofs.YtbhemnidcleaiaaGreat.X
open Go.RowKit Go.XB Go.XN
def C9t (x:TRat):Prop:=x.num.mag.length≤24∧x.den.length≤24
theorem D0x {x:TRat} (h:S_ x=true):C9t x:=⟨(ratOkB_iff.1 h).num24,(ratOkB_iff.1 h).den24⟩
theorem C8h {xs:List TRat} (h:xs.all S_=true):∀ x∈xs,C9t x:=fun x hx=>D0x (List.all_eq_true.1 h x hx)
def D7f (us:List TRat) (r:TRat) (vs:List TRat):List TRat:=List.zipWith (fun x y=>A2d x (A1c r y)) us vs
def C7j (us vs:List TRat):Nat→TRat
 | 0=>A1y 0
 | n+1=>A2d (C7j us vs n) (A1c (us.getD n A1j) (vs.getD n A1j))
def D6o (us vs:List TRat):TRat:=C7j us vs us.length
theorem A5l {α:Type} {l:List α} {n:Nat} {d x:α} (h:l[n]?=some x):l.getD n d=x:=by simp[List.getD,h]
attribute [local go_sem] O_ opAt P_ M_ Region.wanted yielded
attribute [local simp] P_ M_ MP.eq MP.agg MP.sl MP.slbox A0e
end Go.Proofs.YtbhemnidcleaiaaGreat.X
namespace Go.Proofs.YtbhemnidcleaiaaGreat.X
open Go.RowKit Go.XB Go.XN
structure AccSt (w U:World) (g r0:Nat) (x:TRat) (P1:Option Addr) (p1 q1:Nat) (P2:Option Addr) (p2 q2:Nat) (rl:List Nat):Prop where
 bl:Below w.heap.size w U
 rb:RBox U g x P1 p1 q1 P2 p2 q2
 ag:Agg U (.agg #[.bool x.num.neg,.slice P1 p1 q1,.slice P2 p2 q2]) x rl
 ow:Own w U rl
 dl:g∉rl∧r0∉rl
 rs:U.heap[r0]?=some (.cells #[.bool false,.slice none 0 0,.slice none 0 0] 35)
 lo:w.heap.size≤r0∧r0<g
section
variable {w U U':World} {g r0:Nat} {x y:TRat} {P1:Option Addr} {p1 q1:Nat} {P2:Option Addr} {p2 q2:Nat} {rl ry:List Nat} {O1:Option Addr} {o1 u1:Nat} {O2:Option Addr} {o2 u2:Nat}
theorem AccSt.below (h:AccSt w U g r0 x P1 p1 q1 P2 p2 q2 rl) (hb:Below U.heap.size U U'):AccSt w U' g r0 x P1 p1 q1 P2 p2 q2 rl :=
 ⟨Below.next h.bl hb,h.rb.below hb,h.ag.below hb,h.ow.below hb,h.dl,C5l h.rs hb,h.lo⟩
theorem AccSt.set (h:AccSt w U g r0 x P1 p1 q1 P2 p2 q2 rl) (ha:Agg U (.agg #[.bool y.num.neg,.slice O1 o1 u1,.slice O2 o2 u2]) y ry) (ho:Own w U ry) (hd:g∉ry∧r0∉ry) :
  AccSt w (((U.setCell ⟨g,0,none⟩ (.bool y.num.neg)).setCell ⟨g,1,none⟩ (.slice O1 o1 u1)).setCell ⟨g,2,none⟩ (.slice O2 o2 u2)) g r0 y O1 o1 u1 O2 o2 u2 ry:=by
 have hw:w.heap.size≤g:=by have:=h.lo;omega
 refine ⟨((h.bl.setCell (p:=⟨g,0,none⟩) hw _).setCell (p:=⟨g,1,none⟩) hw _).setCell (p:=⟨g,2,none⟩) hw _,h.rb.set,ha.keep (fun b hb=>A5k b (fun e=>hd.1 (e ▸ hb))),⟨ho.1,fun b hb=>⟨(ho.2 b hb).1,?_⟩⟩,hd,(A5k _ (by have:=h.lo;omega)).trans h.rs,h.lo⟩
 obtain ⟨cs,t,e⟩:=(ho.2 b hb).2
 exact ⟨cs,t,(A5k (g:=g) b (fun e'=>hd.1 (e' ▸ hb))).trans e⟩
theorem AccSt.o (h:AccSt w U g r0 x P1 p1 q1 P2 p2 q2 rl) :
  X_ w x (.returned (.agg #[.bool x.num.neg,.slice P1 p1 q1,.slice P2 p2 q2])) (((U.setCell ⟨r0,0,none⟩ (.bool x.num.neg)).setCell ⟨r0,1,none⟩ (.slice P1 p1 q1)).setCell ⟨r0,2,none⟩ (.slice P2 p2 q2)):=by
 have hw:w.heap.size≤r0:=h.lo.1
 refine ⟨_,rl,rfl,h.ag.keep (fun b hb=>A5k b (fun e=>h.dl.2 (e ▸ hb))),⟨h.ow.1,fun b hb=>⟨(h.ow.2 b hb).1,?_⟩⟩,((h.bl.setCell (p:=⟨r0,0,none⟩) hw _).setCell (p:=⟨r0,1,none⟩) hw _).setCell (p:=⟨r0,2,none⟩) hw _⟩
 obtain ⟨cs,t,e⟩:=(h.ow.2 b hb).2
 exact ⟨cs,t,(A5k (g:=r0) b (fun e'=>h.dl.2 (e' ▸ hb))).trans e⟩
theorem C9s {w U:World} {lo:Nat} {rl:List Nat} (h:Free U rl) (hr:∀ b∈rl,lo≤b) (hl:w.heap.size≤lo):Own w U rl:=⟨h.1,fun b hb=>⟨Nat.le_trans hl (hr b hb),h.2 b hb⟩⟩
end
attribute [local go_sem] O_ opAt P_ M_ Region.wanted yielded
attribute [local simp] P_ M_ MP.eq MP.agg MP.sl MP.slbox A0e
end Go.Proofs.YtbhemnidcleaiaaGreat.X
namespace Go.Proofs.YtbhemnidcleaiaaGreat.X
open Go.RowKit Go.XB Go.XN
structure ProbI (p:TProblem) (xs ys:List Int):Prop where
 mesh:MeshI p.mesh xs ys
 dl:p.diffusion.length=3
 dok:p.diffusion.all S_=true
 dpos:∀ r∈p.diffusion,0<L_ r
 sl:p.source.length=3
 sok:p.source.all S_=true
 reg:∀ t∈p.mesh.triangles,0≤t.region∧t.region<3
attribute [local go_sem] O_ opAt P_ M_ Region.wanted yielded
attribute [local simp] P_ M_ MP.eq MP.agg MP.sl MP.slbox A0e
theorem B0e:A5r 191:=fun a w=>by kernel_rfl
theorem B0z (v:Value) (x:TRat) (b:List Nat) (w:World) (hx:Agg w v x b) (ho:S_ x=true) (hp:0<L_ x):Calls Tryz.prog 191 #[v] w (A0j w (.bool false)):=by
 have HX:=A_ hx;have VR:=A_ (ratOkB_iff.1 ho)
 have E:=A_ (show B5z x=1 by unfold B5z sgn;rw[if_neg (by omega),if_pos hp])
 obtain ⟨A1,n1,c1,s1,A2,n2,c2,s2,rfl,rfl,hs1,hs2⟩:=TRat.agg hx
 clear hs1 hs2 hx ho hp
 go_enter Tryz.func191,Tryz.ntmps191
 go_wp2_with fail
 have C:=C0r _ x _ _ (HX.o.below (Below.box (.cells #[.bool x.num.neg,.slice A1 n1 c1,.slice A2 n2 c2] 35))) VR.o.mag (A8n VR.o.num)
 rw[E.o] at C
 refine C.mono ?_
 clear C
 rintro _ w1 ⟨rfl,hb1⟩
 go_wp2
 go_ret
 exact ⟨rfl,Below.trans (Below.box _) (hb1.mono (by simp))⟩
theorem B1q (v:Value) (p:TProblem) (b:List Nat) (xs ys:List Int) (w:World) (hx:Agg w v p b) (hp:ProbI p xs ys):Calls Tryz.prog 129 #[v] w (A0j w (.bool true)):=by
 have HX:=A_ hx;have HP:=A_ hp
 obtain ⟨A0,n0,c0,s0,A1,n1,c1,s1,A2,n2,c2,s2,A3,n3,c3,s3,rfl,rfl,hs0,hs1,hs2,hs3⟩:=TProblem.agg hx
 have H2:=A_ hs2;have H3:=A_ hs3
 obtain rfl:3=n2:=by rw[← hs2.1];exact hp.dl.symm
 obtain rfl:3=n3:=by rw[← hs3.1];exact hp.sl.symm
 clear hs0 hs1 hs2 hs3 hx hp
 go_enter Tryz.func129,Tryz.ntmps129
 go_wp2_with fail
 refine (A5x A2 3 c2 p.diffusion s2 _ (H2.o.below Below.go) HP.o.dok).mono ?_
 rintro _ w1 ⟨rfl,hb1⟩
 obtain ⟨hc_w1,hf_w1⟩:=C_ hb1
 have hz0_w1:w.heap.size<w1.heap.size:=N_ hb1
 have HB1:=A_ (show Below w.heap.size w w1 from Below.go)
 go_wp2_with fail
 refine (A5x A3 3 c3 p.source s3 w1 (H3.o.below HB1.o) HP.o.sok).mono ?_
 rintro _ w2 ⟨rfl,hb2⟩
 obtain ⟨hc_w2,hf_w2⟩:=C_ hb2
 have hz0_w2:w.heap.size<w2.heap.size:=N_ hb2
 have HB2:=A_ (Below.next HB1.o hb2)
 go_wp2_with fail
 have C:=A9y 191 B0e A2 3 c2 p.diffusion s2 w2 (fun _=>false) (H2.o.below HB2.o) (fun v x b w hm h=>B0z v x b w h (List.all_eq_true.1 HP.o.dok x hm) (HP.o.dpos x hm))
 rw[show p.diffusion.any (fun _=>false)=false by simp] at C
 refine C.mono ?_
 clear C
 rintro _ w3 ⟨rfl,hb3⟩
 go_wp2
 go_ret
 exact ⟨rfl,Below.next HB2.o hb3⟩
theorem B8q (v:Value) (p:TProblem) (b:List Nat) (xs ys:List Int) (w:World) (hx:Agg w v p b) (hp:ProbI p xs ys):Calls Tryz.prog 72 #[v] w (A0j w (.bool true)):=by
 have HX:=A_ hx;have HP:=A_ hp
 obtain ⟨A0,n0,c0,s0,A1,n1,c1,s1,A2,n2,c2,s2,A3,n3,c3,s3,rfl,rfl,hs0,hs1,hs2,hs3⟩:=TProblem.agg hx
 have HM:=A_ (TMesh.mkAgg (x:=p.mesh) hs0 hs1)
 clear hs0 hs1 hs2 hs3 hx hp
 go_enter Tryz.func72,Tryz.ntmps72
 go_wp2_with fail
 refine (B1q _ p _ xs ys _ (HX.o.below Below.go) HP.o).mono ?_
 rintro _ w1 ⟨rfl,hb1⟩
 obtain ⟨hc_w1,hf_w1⟩:=C_ hb1
 have hz0_w1:w.heap.size<w1.heap.size:=N_ hb1
 have HB1:=A_ (show Below w.heap.size w w1 from Below.go)
 go_wp2_with fail
 refine (B6p _ p.mesh _ xs ys w1 (HM.o.below HB1.o) HP.o.mesh).mono ?_
 rintro _ w2 ⟨rfl,hb2⟩
 go_wp2
 go_ret
 exact ⟨rfl,Below.next HB1.o hb2⟩
theorem A9z (v:Value) (p:TProblem) (b:List Nat) (xs ys:List Int) (B:Option Addr) (m d:Nat) (us:List TRat) (ds:List Nat) (w:World) (hx:Agg w v p b) (hp:ProbI p xs ys) (hu:Sl w B m d us ds) (huo:us.all S_=true) (hm:m=p.mesh.points.length):Calls Tryz.prog 31 #[v,.slice B m d] w (A0j w (.bool true)):=by
 have HX:=A_ hx;have HP:=A_ hp;have HU:=A_ hu;have HUO:=A_ huo
 obtain ⟨A0,n0,c0,s0,A1,n1,c1,s1,A2,n2,c2,s2,A3,n3,c3,s3,rfl,rfl,hs0,hs1,hs2,hs3⟩:=TProblem.agg hx
 obtain rfl:m=n0:=by rw[hm];exact hs0.1
 clear hs0 hs1 hs2 hs3 hx hp hu huo hm
 go_enter Tryz.func31,Tryz.ntmps31
 go_wp2_with fail
 refine (A5x B m d us ds _ (HU.o.below Below.go) HUO.o).mono ?_
 rintro _ w1 ⟨rfl,hb1⟩
 obtain ⟨hc_w1,hf_w1⟩:=C_ hb1
 have hz0_w1:w.heap.size<w1.heap.size:=N_ hb1
 have HB1:=A_ (show Below w.heap.size w w1 from Below.go)
 go_wp2_with fail
 refine (B8q _ p _ xs ys w1 (HX.o.below HB1.o) HP.o).mono ?_
 rintro _ w2 ⟨rfl,hb2⟩
 go_wp2
 go_ret
 exact ⟨rfl,Below.next HB1.o hb2⟩
theorem B2e (v:Value) (p:TProblem) (b:List Nat) (k:Nat) (t:TTri) (w:World) (hx:Agg w v p b) (hk:p.mesh.triangles[k]?=some t) (hl:p.diffusion.length=3) (hr:0≤t.region∧t.region<3) :
  Calls Tryz.prog 80 #[v,.int .i64 k] w (C6a w (p.diffusion.getD t.region.toNat A1j)):=by
 have HX:=A_ hx
 obtain ⟨A0,n0,c0,s0,A1,n1,c1,s1,A2,n2,c2,s2,A3,n3,c3,s3,rfl,rfl,hs0,hs1,hs2,hs3⟩:=TProblem.agg hx
 have hkn:k<n1:=by rw[← hs1.1];exact (List.getElem?_eq_some_iff.1 hk).1
 have hml:n1≤maxLen:=Nat.le_trans hs1.2.1 hs1.2.2.1
 unfold maxLen at hml
 obtain rfl:3=n2:=by rw[← hs2.1];exact hl.symm
 obtain ⟨hr0,hr1⟩:=hr
 obtain ⟨be,oe,x,rfl,hbl,hx1,e0,e1,e2,e3,e4,_⟩:=TTri.elemA hs1 hkn
 obtain rfl:x=t:=by rw[hk] at hx1;exact (Option.some.inj hx1).symm
 obtain ⟨j,hj⟩:∃ j:Nat,x.region=j:=⟨x.region.toNat,by omega⟩
 have hj3:j<3:=by omega
 have hki:(k:Int)<n1:=by omega
 obtain ⟨bf,of,y,D1,nD1,cD1,d1,D2,nD2,cD2,d2,rfl,hblf,hy,f0,f1,f2,hag⟩:=TRat.elemA hs2 hj3
 have E:=A_ (show p.diffusion.getD x.region.toNat A1j=y by rw[hj];exact A5l hy)
 have HAG:=A_ hag
 have hb2:be<w.heap.size+1+1:=by omega
 have hf2:bf<w.heap.size+1+1:=by omega
 rw[hj] at e3 hr0 hr1
 clear hs0 hs1 hs2 hs3 hx hk hl hx1 hy hag hj
 go_enter Tryz.func80,Tryz.ntmps80
 go_wp2_with fail
 refine Z_ (by simp) ?_
 dsimp only [List.dropLast,List.getLast,List.length]
 iterate 11
  refine D_ _ ?_
 intro yq zq wa hC hd (hdis:Hid _)
 simp at hd
 go_simp
 have HBa:=A_ (show Below w.heap.size w wa from Below.go)
 obtain ⟨hc_wa,hf_wa⟩:=C_ hC
 have hz0_wa:w.heap.size<wa.heap.size:=N_ hC
 have hz1_wa:w.heap.size+1<wa.heap.size:=N_ hC
 clear hd hdis
 go_wp2
 refine bodyPost_ret (v:=.agg #[.bool y.num.neg,.slice D1 nD1 cD1,.slice D2 nD2 cD2]) (by simp[results,Tryz.results80,go_sem, *]) rfl ?_
 refine ⟨_,d1++d2,rfl,?_,Below.go⟩
 rw[E.o]
 exact HAG.o.below Below.go
end Go.Proofs.YtbhemnidcleaiaaGreat.X
namespace Go.Proofs.YtbhemnidcleaiaaGreat.X
open Go.RowKit Go.XB Go.XN
attribute [local go_sem] O_ opAt P_ M_ Region.wanted yielded
attribute [local simp] P_ M_ MP.eq MP.agg MP.sl A0e
theorem C9k (w:World) (base:Nat) (a b c:Int) (hb:base≤w.heap.size):(w.alloc (.cells #[.int .i64 a,.int .i64 b,.int .i64 c] 3)).ownsRow base 3 1 (.slice (some ⟨w.heap.size,0,none⟩) 3 3) 3 ([a,b,c].map (.int .i64)) :=
 ⟨by simp,.inr ⟨w.heap.size,3,#[.int .i64 a,.int .i64 b,.int .i64 c],rfl,hb,heap_alloc_new w _,Nat.le_refl _,by decide,rfl,by simp⟩⟩
theorem B6c (v:Value) (t:TTri) (b:List Nat) (w:World) (hx:Agg w v t b) (hi:I64 t.a∧I64 t.b∧I64 t.c) :
  Calls Tryz.prog 230 #[v] w (fun e w'=>e=.returned (.slice (some ⟨w.heap.size+1,0,none⟩) 3 3)∧(∃ bs,Sl w' (some ⟨w.heap.size+1,0,none⟩) 3 3 [t.a,t.b,t.c] bs)∧Below w.heap.size w w'):=by
 obtain ⟨rfl,_⟩:=TTri.agg hx
 have HI:=A_ hi
 clear hx hi
 have R:=A_ (C9k (w.alloc (.cells #[.int .i64 t.a,.int .i64 t.b,.int .i64 t.c,.int .i64 t.region,.int .i64 t.level] 93)) w.heap.size t.a t.b t.c (by simp))
 go_enter Tryz.func230,Tryz.ntmps230
 go_wp2
 go_ret
 refine ⟨rfl,?_,(Below.box _).alloc (by simp) _⟩
 have R':=R.o
 rw[World.size_alloc] at R'
 exact A5a R' (fun x hx=>by
  have:=HI.o
  simp at hx
  rcases hx with rfl | rfl | rfl
  ·exact this.1
  ·exact this.2.1
  exact this.2.2)
def ptK (ps:List TPoint) (i:Int):TPoint:=ps.getD i.toNat ⟨A1j,A1j⟩
def B0x (ps:List TPoint) (t:TTri):List TPoint:=[ptK ps t.a,ptK ps t.b,ptK ps t.c]
theorem C1y (v:Value) (m:TMesh) (b:List Nat) (k:Nat) (t:TTri) (w:World) (hx:Agg w v m b) (hk:m.triangles[k]?=some t) (it:(0≤t.a∧t.a<m.points.length)∧(0≤t.b∧t.b<m.points.length)∧(0≤t.c∧t.c<m.points.length)) (hall:m.points.all A0r=true) (h40:m.points.length≤40) (h48:m.triangles.length≤48) :
  Calls Tryz.prog 237 #[v,.int .i64 k] w (B7j w (B0x m.points t)):=by
 obtain ⟨A0,n0,c0,s0,A1,n1,c1,s1,rfl,rfl,hs0,hs1⟩:=TMesh.agg hx
 have HS0:=A_ hs0
 obtain ⟨i0,hi,hz0,hz1,hz2⟩:=info_parts C2k
 have hkn:k<n1:=by rw[← hs1.1];exact (List.getElem?_eq_some_iff.1 hk).1
 have hn40:n0≤40:=by rw[← hs0.1];exact h40
 have hn48:n1≤48:=by rw[← hs1.1];exact h48
 have IT:=A_ (show ∀ x∈[t.a,t.b,t.c],0≤x∧x<n0 by
  intro x hx;have:=hs0.1;simp at hx;rcases hx with rfl | rfl | rfl<;>omega)
 have ALL:=A_ hall
 obtain ⟨be,of,t',rfl,hbl,hx1,e0,e1,e2,e3,e4,hag⟩:=TTri.elemA hs1 hkn
 obtain rfl:t=t':=by rw[hk] at hx1;exact Option.some.inj hx1
 have HAG:=A_ hag
 have T64:=A_ (show I64 t.a∧I64 t.b∧I64 t.c from ⟨(TTri.agg hag).2.2.1,(TTri.agg hag).2.2.2.1,(TTri.agg hag).2.2.2.2.1⟩)
 have hki:(k:Int)<n1:=by omega
 have hk48:(n1:Int)≤48:=by omega
 have hn40i:(n0:Int)≤40:=by omega
 have WK:=A_ (show inB 0 (k:Int) ((n1:Int) - 1)=true by unfold inB;simp;omega)
 clear hx hk it hall h40 h48 hs0 hs1 hag hx1
 go_enter Tryz.func237,Tryz.ntmps237
 go_wp2_with fail
 have C:=A4g k 0 ((n1:Int) - 1) (w.alloc (.cells #[.slice A0 n0 c0,.slice (some ⟨be,of,none⟩) n1 c1] 26))
 rw[WK.o] at C
 refine C.mono ?_
 clear C
 rintro _ w1 ⟨rfl,hb1⟩
 obtain ⟨hc_w1,hf_w1⟩:=C_ hb1
 have hz0_w1:w.heap.size<w1.heap.size:=N_ hb1
 have HB1:=A_ (show Below w.heap.size w w1 from Below.go)
 have hbl1:be<w1.heap.size:=by have:=HB1.o.size;omega
 have W1:=A_ (show w.heap.size≤w1.heap.size by omega)
 go_wp2_with fail
 have P1:=A_ (show PC (α:=TPoint) w 38 (w1.alloc (.cells #[] 38)) w1.heap.size 0 0 ((B0x m.points t).take 0) [] from PC.start W1.o)
 refine (B6c _ t _ (w1.alloc (.cells #[] 38)) (HAG.o.below (HB1.o.alloc HB1.o.size _)) T64.o).mono ?_
 rintro _ w2 ⟨rfl,⟨bT,hT⟩,hb2⟩
 rw[World.size_alloc] at hT
 have HT:=A_ hT
 have HB12:=A_ (show Below w1.heap.size w1 w2 from Below.trans (Below.box _) (hb2.mono (by simp)))
 have HB2:=A_ (Below.next HB1.o HB12.o)
 have hz2':w.heap.size<w2.heap.size:=by have:=HB12.o.size;omega
 have P2:=A_ (P1.o.below hb2)
 have q0:w2.cell? ⟨w.heap.size,0,none⟩=some (.slice A0 n0 c0):=(HB12.o.cell (p:=⟨w.heap.size,0,none⟩) (by omega)).trans (by go_simp)
 clear P1 hT hb2
 go_wp2_with fail
 have TC:=A_ (show ∀ (j:Nat) (x:Int),[t.a,t.b,t.c][j]?=some x→w2.cell? ⟨w1.heap.size+1+1,j,none⟩=some (.int .i64 x) from fun j x hj=>by
  obtain ⟨bq,oq,y,hAq,_,hj2,_,ej⟩:=Sl.getInt HT.o (k:=j) (by have:=(List.getElem?_eq_some_iff.1 hj).1;simpa using this)
  cases hAq
  rw[Nat.zero_add] at ej
  rw[hj] at hj2
  cases hj2
  exact ej)
 have TL:=A_ (show w1.heap.size+1+1<w2.heap.size by
  obtain ⟨bq,oq,y,hAq,hl,_⟩:=Sl.getInt HT.o (k:=0) (by decide)
  cases hAq
  exact hl)
 go_loopg [5,23] 3 (fun g s5 s wr=>∃ (i gB cap:Nat) (zs:List Nat),i+g=3∧s=.int .i64 i∧s5=.slice (some ⟨gB,0,none⟩) i cap∧Hid (PC w 38 wr gB i cap ((B0x m.points t).take i) zs)∧Hid (w.heap.size<gB∧gB≠w1.heap.size+1+1∧w1.heap.size+1+1<wr.heap.size)∧Hid (Below w.heap.size w wr)∧Hid (∀ (j:Nat) (x:Int),[t.a,t.b,t.c][j]?=some x→wr.cell? ⟨w1.heap.size+1+1,j,none⟩=some (.int .i64 x))∧Hid (wr.cell? ⟨w.heap.size,0,none⟩=some (.slice A0 n0 c0))∧Hid (w.heap.size<wr.heap.size))
 case atStart=>exact ⟨0,w1.heap.size,0,[],rfl,rfl,rfl,P2.o,(show w.heap.size<w1.heap.size∧w1.heap.size≠w1.heap.size+1+1∧w1.heap.size+1+1<w2.heap.size from ⟨by omega,by omega,TL.o⟩),HB2.o,TC.o,q0,hz2'⟩
 case round =>
  clear P2 HT q0 hz2' TC TL
  obtain ⟨i,gB,cap,zs,hi3,rfl,rfl,HP,HGB,HB,HTr,hq0,hzr⟩:=hrel
  have q0:=hq0.o
  have hzw:=hzr.o
  clear hq0
  rcases Nat.lt_or_ge i 3 with hin | hin
  ·have hii:(i:Int)<3:=by omega
   have hi0:(0:Int)≤i:=by omega
   obtain ⟨g,rfl⟩:∃ g,gk=g+1:=⟨gk - 1,by omega⟩
   have hi':=A_ (show i+1+g=3 by omega)
   have C3:=A_ (show i+1≤maxLen by unfold maxLen;omega)
   have C4:=A_ (show (i+1)*112≤140737488355328 by omega)
   obtain ⟨j,hj⟩:∃ x,[t.a,t.b,t.c][i]?=some x:=⟨_,List.getElem?_eq_getElem hin⟩
   have ej:=HTr.o i j hj
   have hTl:=HGB.o.2.2
   have hjr:=IT.o j (List.mem_of_getElem? hj)
   have hj0:=hjr.1
   have hj1:=hjr.2
   have WJ:=A_ (show inB 0 j ((n0:Int) - 1)=true by unfold inB;simp;omega)
   have hjj:j.toNat<n0:=by omega
   obtain ⟨be2,of2,x,D1,nD1,cD1,d1,D2,nD2,cD2,d2,D4,nD4,cD4,d4,D5,nD5,cD5,d5,rfl,hbl2,hx2,p0,p1,p2,p3,p4,p5,hag2⟩:=TPoint.elemA (HS0.o.below HB.o) hjj
   have HAG2:=A_ hag2
   have OX:=A_ (List.all_eq_true.1 ALL.o x (List.mem_of_getElem? hx2))
   have TK:=A_ (show (B0x m.points t).take (i+1)=(B0x m.points t).take i++[x] from take_step (by
    have e:B0x m.points t=[t.a,t.b,t.c].map (ptK m.points):=rfl
    rw[e,List.getElem?_map,hj]
    show some (ptK m.points j)=some x
    unfold ptK
    rw[List.getD_eq_getElem?_getD,hx2];rfl))
   clear hi3 hin hag2 hx2 hj hjr
   go_wp2_with fail
   have C:=A4g j 0 ((n0:Int) - 1) wr
   rw[WJ.o] at C
   refine C.mono ?_
   clear C
   rintro _ w3 ⟨rfl,hb3⟩
   obtain ⟨hc_w3,hf_w3⟩:=C_ hb3
   have HB3:=A_ hb3
   go_wp2_with fail
   refine (B4j _ x _ w3 (HAG2.o.below HB3.o) OX.o).mono ?_
   rintro _ w4 ⟨v2,s2,rfl,ha2,hn2,hb2⟩
   obtain ⟨E1,nE1,cE1,u1,E2,nE2,cE2,u2,E4,nE4,cE4,u4,E5,nE5,cE5,u5,rfl,z2,k1,k2,k4,k5⟩:=TPoint.agg ha2
   have AT2:=A_ (show Dat.at_ (w4.alloc (.cells #[.bool x.x.num.neg,.slice E1 nE1 cE1,.slice E2 nE2 cE2,.bool x.y.num.neg,.slice E4 nE4 cE4,.slice E5 nE5 cE5] 38)) [.bool x.x.num.neg,.slice E1 nE1 cE1,.slice E2 nE2 cE2,.bool x.y.num.neg,.slice E4 nE4 cE4,.slice E5 nE5 cE5] x s2 by
    rw[z2]
    exact TPoint.shut (k1.below (Below.box _)) (k2.below (Below.box _)) (k4.below (Below.box _)) (k5.below (Below.box _)))
   have B2:=A_ (show Below wr.heap.size wr (w4.alloc (.cells #[.bool x.x.num.neg,.slice E1 nE1 cE1,.slice E2 nE2 cE2,.bool x.y.num.neg,.slice E4 nE4 cE4,.slice E5 nE5 cE5] 38)) from Below.next (Below.next HB3.o hb2) (Below.box _))
   have HP2:=A_ (HP.o.below B2.o)
   have HBN:=A_ (Below.next HB.o B2.o)
   have hgl:=HP.o.lt
   have HR2:=A_ (show ∀ b∈s2,w.heap.size≤b∧b≠gB from fun b hb=>by have:=hn2 b hb;have:=HB3.o.size;omega)
   have HT4:=A_ (show ∀ (j:Nat) (y:Int),[t.a,t.b,t.c][j]?=some y→(w4.alloc (.cells #[.bool x.x.num.neg,.slice E1 nE1 cE1,.slice E2 nE2 cE2,.bool x.y.num.neg,.slice E4 nE4 cE4,.slice E5 nE5 cE5] 38)).cell? ⟨w1.heap.size+1+1,j,none⟩=some (.int .i64 y) from fun j y hj=>(B2.o.cell (p:=⟨w1.heap.size+1+1,j,none⟩) hTl).trans (HTr.o j y hj))
   have Q4:=A_ ((B2.o.cell (p:=⟨w.heap.size,0,none⟩) hzw).trans q0)
   clear ha2 hn2 hb2 z2 k1 k2 k4 k5
   go_wp2_with (at_builtin;refine A7f rfl _ _ 23 rfl 38 i0 (.agg #[.bool false,.slice none 0 0,.slice none 0 0,.bool false,.slice none 0 0,.slice none 0 0]) 112 Tryz.underlying23 hi hz0 hz1 hz2 rfl HP2.o HBN.o.size (by go_simp;done) ⟨w4.heap.size,0,none⟩ 1 [.bool x.x.num.neg,.slice E1 nE1 cE1,.slice E2 nE2 cE2,.bool x.y.num.neg,.slice E4 nE4 cE4,.slice E5 nE5 cE5] x s2 (by go_simp;done) (A0k (heap_alloc_new w4 _)) AT2.o HR2.o C3.o C4.o ?_;intro gB' cap' w5 hp5 hgr5 hor5)
   have T5:=A_ (show ∀ (j:Nat) (y:Int),[t.a,t.b,t.c][j]?=some y→w5.cell? ⟨w1.heap.size+1+1,j,none⟩=some (.int .i64 y) from fun j y hj=>(World.cell?_of_block (a:=⟨w1.heap.size+1+1,j,none⟩) (hgr5.block _ (Nat.lt_of_lt_of_le hTl B2.o.size) (by intro e;injection e with e;exact HGB.o.2.1 e.symm))).trans (HT4.o j y hj))
   have Q5:=A_ (show w5.cell? ⟨w.heap.size,0,none⟩=some (.slice (some ⟨be2,of2,none⟩) n0 c0) from (World.cell?_of_block (a:=⟨w.heap.size,0,none⟩) (hgr5.block _ (Nat.lt_of_lt_of_le hzw B2.o.size) (by intro e;injection e with e;exact absurd e (Nat.ne_of_lt HGB.o.1)))).trans Q4.o)
   have Z5:=A_ (show w.heap.size<w5.heap.size from Nat.lt_of_lt_of_le hzw (Nat.le_trans B2.o.size hgr5.size))
   have G5:=A_ (show w.heap.size<gB'∧gB'≠w1.heap.size+1+1∧w1.heap.size+1+1<w5.heap.size by
    have h1:=HGB.o;have h2:=B2.o.size;have h3:=hgr5.size
    rcases hor5 with h | h<;>omega)
   have HP5:=A_ (show PC w 38 w5 gB' (i+1) cap' ((B0x m.points t).take (i+1)) (zs++s2) by rw[TK.o];exact hp5)
   have HB5:=A_ (HBN.o.grown hgr5 HBN.o.size (fun k hk=>by injection hk with h;omega))
   clear hp5 hgr5 hor5 HP2 HBN B2 AT2 HR2 HT4 Q4
   go_wp2_with fail
   go_roundg g
   case measure=>omega
   case rel=>exact ⟨i+1,gB',cap',zs++s2,hi'.o,by go_simp,rfl,HP5,G5,HB5,T5,Q5,Z5⟩
  have h3:i=3:=by omega
  subst h3
  go_wp2_with fail
  obtain ⟨bK,sK,oK⟩:=HP.o.sl
  refine bodyPost_ret (v:=.slice (some ⟨gB,0,none⟩) 3 cap) (by simp[results,Tryz.results237,go_sem, *]) rfl ?_
  exact ⟨_,3,cap,bK,rfl,sK,oK,HB.o⟩
end Go.Proofs.YtbhemnidcleaiaaGreat.X
