/- A part of the proof. -/
import Derived.Test.YtbhemnidcleaiaaGreatY12
import Derived.Test.YtbhemnidcleaiaaGreatY4
import Derived.Test.YtbhemnidcleaiaaGreatY13
set_option linter.constructorNameAsVariable false
set_option maxHeartbeats 16000000
set_option maxRecDepth 10000
namespace Go.XB
open Go.RowKit
theorem Sl.first {α:Type} [Dat α] {w:World} {A:Option Addr} {n c:Nat} {xs:List α} {bs:List Nat} (h:Sl w A n c xs bs) {k:Nat} (hk:k≤n):∃ bs',Sl w A k c (xs.take k) bs':=by
 obtain ⟨h1,h2,h3,h4,h5⟩:=h
 rcases Nat.eq_zero_or_pos k with h0 | h0
 ·subst h0
  exact ⟨[],by simp,Nat.zero_le _,h3,fun _=>rfl,fun h=>absurd h (by omega)⟩
 obtain ⟨b,off,bss,hA,hbs,hl,hb,he⟩:=h5 (by omega)
 refine ⟨b::(bss.take k).flatten,by simp;omega,by omega,h3,fun h=>absurd h (by omega),fun _=>⟨b,off,bss.take k,hA,rfl,by simp[hl],hb,fun j x fs hx hf=>?_⟩⟩
 rw[List.getElem?_take] at hx hf
 split at hx
 ·rename_i hj
  rw[if_pos hj] at hf
  exact he j x fs hx hf
 cases hx
theorem D5m {α:Type} {p:α→Bool} {xs:List α} {k:Nat} {x:α} (h:xs.all p=true) (hx:xs[k]?=some x):p x=true:=List.all_eq_true.1 h x (List.mem_of_getElem? hx)
theorem C8a {α:Type} [DecidableEq α] {xs:List α} {k:Nat} {x:α} (h:xs.Nodup) (hx:xs[k]?=some x):(xs.take k).any (fun y=>decide (x=y))=false:=by
 rw[List.any_eq_false]
 intro y hy
 obtain ⟨j,hj⟩:=List.mem_iff_getElem?.1 hy
 rw[List.getElem?_take] at hj
 split at hj
 ·rename_i hjk
  have h1:=List.getElem?_eq_some_iff.1 hx
  have h2:=List.getElem?_eq_some_iff.1 hj
  obtain ⟨l1,e1⟩:=h1
  obtain ⟨l2,e2⟩:=h2
  have:=List.pairwise_iff_getElem.1 h j k l2 l1 hjk
  rw[e1,e2] at this
  simp
  exact fun e=>this e.symm
 cases hj
end Go.XB
namespace Go.Proofs.YtbhemnidcleaiaaGreat.X
open Go.RowKit Go.XB Go.XN
attribute [local go_sem] O_ opAt P_ M_ Region.wanted yielded
attribute [local simp] P_ M_ MP.eq MP.agg MP.sl A0e

theorem C4v (f:Nat) (hf:A5r f) (cv:Value) (A:Option Addr) (n c:Nat) (xs:List TPoint) (bs:List Nat) (w:World) (p:TPoint→Bool) (hx:Sl w A n c xs bs)
  (hp:∀ (v:Value) (x:TPoint) (b:List Nat) (w':World),Below w.heap.size w w'→x∈xs→Agg w' v x b→Calls Tryz.prog f #[v,cv] w' (A0j w' (.bool (p x)))) :
  Calls Tryz.prog 195 #[.slice A n c,.func (.func f) #[] #[cv]] w (B4s w (xs.any p)):=by
 have HL:=A_ hx.1
 have HX:=A_ hx
 have HP:=A_ hp
 unfold A5r at hf
 have hm:n≤maxLen:=Nat.le_trans hx.2.1 hx.2.2.1
 unfold maxLen at hm
 clear hx hp
 go_enter Tryz.func195,Tryz.ntmps195
 go_wp2_with fail
 go_loopg [8] n (fun g s8 wr=>∃ k:Nat,k+g=n∧s8=.int .i64 k∧Hid ((xs.take k).any p=false)∧Below w.heap.size w wr)
 case atStart=>exact ⟨0,by omega,rfl,by show (xs.take 0).any p=false;simp,Below.refl _ _⟩
 case round =>
  obtain ⟨k,hk,rfl,ha,hb⟩:=hrel
  have HB:=A_ hb
  rcases Nat.lt_or_ge k n with hkn | hkn
  ·obtain ⟨be,offe,x,A1,m1,d1,s1,A2,m2,d2,s2,A4,m4,d4,s4,A5,m5,d5,s5,rfl,hble,hx1,e0,e1,e2,e3,e4,e5,hag⟩:=TPoint.elemA (Sl.below HX.o hb) hkn
   have HX1:=A_ hx1
   have HAG:=A_ hag
   have hki:(k:Int)<n:=by omega
   obtain ⟨g,rfl⟩:∃ g,gk=g+1:=⟨gk - 1,by omega⟩
   have hk':=A_ (show k+1+g=n by omega)
   have hkj:k+1≤n:=hkn
   clear hx1 hk hkn hag
   go_wp2_with fail
   refine (HP.o _ x _ wr HB.o (List.mem_of_getElem? HX1.o) HAG.o).mono ?_
   rintro _ w1 ⟨rfl,hb1⟩
   have hb2:=Below.next hb hb1
   cases hpx:p x
   ·have r1:=A_ (B2c HX1.o ha.o hpx)
    clear hpx
    go_wp2_with fail
    go_roundg g
    case measure=>omega
    case rel=>exact ⟨k+1,hk'.o,by go_num,r1,hb2⟩
   have r1:=A_ (C1j HX1.o hpx)
   clear hpx
   go_wp2
   go_ret
   exact ⟨k,rfl,by rw[r1.o];simp,hb2⟩
  have e:=A_ (show xs.any p=false by
   have:=ha.o
   rwa [List.take_of_length_le (by rw[HL.o];omega)] at this)
  have hki:¬ ((k:Int)<n):=by omega
  clear hk hkn
  go_wp2
  go_ret
  exact ⟨-1,rfl,by rw[e.o];rfl,hb⟩

theorem C0e (f:Nat) (hf:A5r f) (cv:Value) (A:Option Addr) (n c:Nat) (xs:List TPoint) (bs:List Nat) (w:World) (p:TPoint→Bool) (hx:Sl w A n c xs bs)
  (hp:∀ (v:Value) (x:TPoint) (b:List Nat) (w':World),Below w.heap.size w w'→x∈xs→Agg w' v x b→Calls Tryz.prog f #[v,cv] w' (A0j w' (.bool (p x)))) :
  Calls Tryz.prog 139 #[.slice A n c,.func (.func f) #[] #[cv]] w (A0j w (.bool (xs.any p))):=by
 have HX:=A_ hx
 have HP:=A_ hp
 have HF:=A_ hf
 clear hx hp hf
 go_enter Tryz.func139,Tryz.ntmps139
 go_wp2_with fail
 refine (C4v f HF.o cv A n c xs bs _ p HX.o HP.o).mono ?_
 rintro _ w1 ⟨r,rfl,e,hb1⟩
 have E:=A_ e
 clear e
 go_wp2
 go_ret
 exact ⟨R_ E.o,hb1⟩

theorem A9q:A5r 140:=fun a w=>by kernel_rfl
theorem B5n (v:Value) (x:TPoint) (b:List Nat) (g:Nat) (u0 u1 u2 u3 u4 u5:Value) (y:TPoint) (by_:List Nat) (w:World) (hx:Agg w v x b) (hg:w.heap[g]?=some (.cells #[u0,u1,u2,u3,u4,u5] 38)) (hy:Agg w (.agg #[u0,u1,u2,u3,u4,u5]) y by_) :
  Calls Tryz.prog 140 #[v,.pointer (some ⟨g,0,none⟩)] w (A0j w (.bool (decide (y=x)))):=by
 have HX:=A_ hx;have HY:=A_ hy
 obtain ⟨A1,nA1,cA1,s1,A2,nA2,cA2,s2,A4,nA4,cA4,s4,A5,nA5,cA5,s5,rfl,rfl,hs1,hs2,hs4,hs5⟩:=TPoint.agg hx
 have c0:=(B_ hg (j:=0) (v:=u0) rfl).1
 have c1:=(B_ hg (j:=1) (v:=u1) rfl).1
 have c2:=(B_ hg (j:=2) (v:=u2) rfl).1
 have c3:=(B_ hg (j:=3) (v:=u3) rfl).1
 have c4:=(B_ hg (j:=4) (v:=u4) rfl).1
 have c5:=(B_ hg (j:=5) (v:=u5) rfl).1
 have hgl:g<w.heap.size:=E_ hg
 clear hs1 hs2 hs4 hs5 hx hy hg
 go_enter Tryz.func140,Tryz.ntmps140
 go_wp2_with fail
 refine (B2b _ _ y x _ _ _ (HY.o.below Below.go) (HX.o.below Below.go)).mono ?_
 rintro _ w1 ⟨rfl,hb1⟩
 go_wp2
 go_ret
 exact ⟨rfl,Below.go⟩

theorem B9i (A:Option Addr) (n c:Nat) (xs:List TPoint) (bs:List Nat) (w:World) (hx:Sl w A n c xs bs) (hall:xs.all A0r=true) (hnd:xs.Nodup) (h3:3≤n) (h40:n≤40) :
  Calls Tryz.prog 92 #[.slice A n c] w (A0j w (.bool true)):=by
 have HX:=A_ hx;have HALL:=A_ hall;have HND:=A_ hnd
 have hnc:n≤c:=hx.2.1
 have KN:=A9q
 unfold A5r at KN
 have HW:=A_ (show inB 3 n 40=true by unfold inB;simp;omega)
 clear hx hall hnd
 go_enter Tryz.func92,Tryz.ntmps92
 go_wp2_with fail
 go_loopg [7] n (fun g s wr=>∃ k:Nat,k+g=n∧s=.int .i64 k∧Below w.heap.size w wr)
 case atStart=>exact ⟨0,by omega,rfl,Below.refl _ _⟩
 case round =>
  obtain ⟨k,hk,rfl,hb⟩:=hrel
  rcases Nat.lt_or_ge k n with hkn | hkn
  ·obtain ⟨be,of,x,D1,nD1,cD1,d1,D2,nD2,cD2,d2,D4,nD4,cD4,d4,D5,nD5,cD5,d5,hA,hbl,hx1,d0,d1_,d2_,d3_,d4_,d5_,hag⟩:=TPoint.elemA (HX.o.below hb) hkn
   subst hA
   obtain ⟨ps,hps⟩:=(HX.o.below hb).first (Nat.le_of_lt hkn)
   have HPS:=A_ hps
   have NA:=A_ (C8a HND.o hx1)
   have OK:=A_ (D5m HALL.o hx1)
   have HAG:=A_ hag
   have hki:(k:Int)<n:=by omega
   have hki0:(0:Int)≤k:=by omega
   have hkc:(k:Int)≤c:=by omega
   obtain ⟨g,rfl⟩:∃ g,gk=g+1:=⟨gk - 1,by omega⟩
   have hk':=A_ (show k+1+g=n by omega)
   have hk41:(k:Int)≤40:=by omega
   have HB:=A_ hb
   clear hx1 hk hkn hag hps
   go_wp2_with fail
   have C:=A9i _ x _ (wr.alloc (.cells #[.bool x.x.num.neg,.slice D1 nD1 cD1,.slice D2 nD2 cD2,.bool x.y.num.neg,.slice D4 nD4 cD4,.slice D5 nD5 cD5] 38)) (HAG.o.below (Below.box _))
   rw[OK.o] at C
   refine C.mono ?_
   clear C
   rintro _ w1 ⟨rfl,hb1⟩
   have HB1:=A_ hb1
   have HW1:=A_ (show Below wr.heap.size wr w1 from Below.trans (Below.box _) (hb1.mono (by simp)))
   have HG:=A_ (show w1.heap[wr.heap.size]?=some (.cells #[.bool x.x.num.neg,.slice D1 nD1 cD1,.slice D2 nD2 cD2,.bool x.y.num.neg,.slice D4 nD4 cD4,.slice D5 nD5 cD5] 38) from (hb1.block _ (by simp)).trans (heap_alloc_new wr _))
   clear hb1
   go_wp2_with fail
   have C:=C0e 140 A9q (.pointer (some ⟨wr.heap.size,0,none⟩)) (some ⟨be,of,none⟩) k c _ ps w1 (fun y=>decide (x=y)) (HPS.o.below HW1.o) (fun v y b w' hb' _ ha=>B5n v y b wr.heap.size _ _ _ _ _ _ x _ w' ha ((hb'.block _ (E_ HG.o)).trans HG.o) ((HAG.o.below HW1.o).below hb'))
   rw[NA.o] at C
   refine C.mono ?_
   clear C
   rintro _ w2 ⟨rfl,hb2⟩
   go_wp2_with fail
   go_roundg g
   case measure=>omega
   case rel=>exact ⟨k+1,hk'.o,by go_num,Below.next (Below.next HB.o HW1.o) hb2⟩
  obtain rfl:k=n:=by omega
  have HB:=A_ hb
  clear hk hkn
  go_wp2_with fail
  have C:=A0z k 3 40 wr
  rw[HW.o] at C
  refine C.mono ?_
  clear C
  rintro _ w1 ⟨rfl,hb1⟩
  go_wp2
  go_ret
  exact ⟨rfl,Below.next HB.o hb1⟩
end Go.Proofs.YtbhemnidcleaiaaGreat.X

namespace Go.XN
open Go.XB
def A9c (p q:TPoint):TRat:=A2d (A1c p.x q.x) (A1c p.y q.y)
def B1z (a b c:TPoint):TRat:=A1c (mkR 1 2) (A0i a b c)
def D6z (a b c:TPoint):TPoint:=A2q (mkR 1 3) (A9b (A9b a b) c)
def V_ (x y:Int):TPoint:=⟨A1y x,A1y y⟩
end Go.XN
namespace Go.Proofs.YtbhemnidcleaiaaGreat.X
open Go.RowKit Go.XB Go.XN
attribute [local go_sem] O_ opAt P_ M_ Region.wanted yielded
attribute [local simp] P_ M_ MP.eq MP.agg MP.sl A0e

theorem D1j {w0 w1 w2:World} {x:TPoint} {u0 u1 u2 u3 u4 u5:Value} {b1 b2:List Nat} (h1:Agg w1 (.agg #[u0,u1,u2]) x.x b1) (o1:Own w0 w1 b1) (h12:Below w1.heap.size w1 w2) (h2:Agg w2 (.agg #[u3,u4,u5]) x.y b2) (o2:Own w1 w2 b2) (hw2:w0.heap.size≤w1.heap.size) :
  Agg w2 (.agg #[u0,u1,u2,u3,u4,u5]) x (b1++b2)∧Free w2 (b1++b2)∧∀ b∈b1++b2,w0.heap.size≤b :=
 ⟨A5o (h1.below h12) h2,Free.join (o1.free.below h12) o2.free (fun b hb hb2=>by have:=o1.lt b hb;have:=(o2.2 b hb2).1;omega),fun b hb=>by
  rcases List.mem_append.1 hb with h | h
  ·exact (o1.2 b h).1
  have:=(o2.2 b h).1;omega⟩

theorem B4u (x y:Int) (w:World) (hx:I64 x) (hy:I64 y):Calls Tryz.prog 17 #[.int .i64 x,.int .i64 y] w (X_ w (V_ x y)):=by
 have HX:=A_ hx;have HY:=A_ hy
 clear hx hy
 go_enter Tryz.func17,Tryz.ntmps17
 go_wp2_with fail
 refine (A2k x _ HX.o).mono ?_
 rintro _ w1 ⟨v1,s1,rfl,ha1,ho1,hb1⟩
 obtain ⟨B1,nB1,cB1,B1_,B2,nB2,cB2,B2_,rfl,hz1,_,_⟩:=TRat.agg ha1
 have HA1:=A_ ha1;have HO1:=A_ ho1
 clear ha1 ho1 hz1
 obtain ⟨hc_w1,hf_w1⟩:=C_ hb1
 have hz0_w1:w.heap.size<w1.heap.size:=N_ hb1
 go_wp2_with fail
 refine (A2k y _ HY.o).mono ?_
 rintro _ w2 ⟨v2,s2,rfl,ha2,ho2,hb2⟩
 obtain ⟨D1,nD1,cD1,D1_,D2,nD2,cD2,D2_,rfl,hz2,_,_⟩:=TRat.agg ha2
 have J:=A_ (D1j (x:=V_ x y) HA1.o HO1.o hb2 ha2 ho2 (by have:=hb1.size;exact this))
 clear ha2 ho2 hz2
 obtain ⟨hc_w2,hf_w2⟩:=C_ hb2
 have hz0_w2:w.heap.size<w2.heap.size:=N_ hb2
 go_wp2
 refine bodyPost_ret (v:=.agg #[.bool (A1y x).num.neg,.slice B1 nB1 cB1,.slice B2 nB2 cB2,.bool (A1y y).num.neg,.slice D1 nD1 cD1,.slice D2 nD2 cD2]) (by simp[results,Tryz.results17,go_sem, *]) rfl ?_
 refine A0o (lo:=w.heap.size+1) J.o.1 J.o.2.1 (fun b hb=>by have:=J.o.2.2 b hb;(try simp at this);omega) (by omega) ?_ ?_
 ·exact Above.go
 exact Below.go

theorem A1b (x y:Int) (w:World) (hx:I64 x) (hy:I64 y):Calls Tryz.prog 148 #[.int .i64 x,.int .i64 y] w (X_ w (V_ x y)):=by
 have HX:=A_ hx;have HY:=A_ hy
 clear hx hy
 go_enter Tryz.func148,Tryz.ntmps148
 go_wp2_with fail
 refine (A7u x _ HX.o).mono ?_
 rintro _ w1 ⟨v1,s1,rfl,ha1,ho1,hb1⟩
 obtain ⟨B1,nB1,cB1,B1_,B2,nB2,cB2,B2_,rfl,hz1,_,_⟩:=TRat.agg ha1
 have HA1:=A_ ha1;have HO1:=A_ ho1
 clear ha1 ho1 hz1
 obtain ⟨hc_w1,hf_w1⟩:=C_ hb1
 have hz0_w1:w.heap.size<w1.heap.size:=N_ hb1
 go_wp2_with fail
 refine (A7u y _ HY.o).mono ?_
 rintro _ w2 ⟨v2,s2,rfl,ha2,ho2,hb2⟩
 obtain ⟨D1,nD1,cD1,D1_,D2,nD2,cD2,D2_,rfl,hz2,_,_⟩:=TRat.agg ha2
 have J:=A_ (D1j (x:=V_ x y) HA1.o HO1.o hb2 ha2 ho2 (by have:=hb1.size;exact this))
 clear ha2 ho2 hz2
 obtain ⟨hc_w2,hf_w2⟩:=C_ hb2
 have hz0_w2:w.heap.size<w2.heap.size:=N_ hb2
 go_wp2
 refine bodyPost_ret (v:=.agg #[.bool (A1y x).num.neg,.slice B1 nB1 cB1,.slice B2 nB2 cB2,.bool (A1y y).num.neg,.slice D1 nD1 cD1,.slice D2 nD2 cD2]) (by simp[results,Tryz.results148,go_sem, *]) rfl ?_
 refine A0o (lo:=w.heap.size+1) J.o.1 J.o.2.1 (fun b hb=>by have:=J.o.2.2 b hb;(try simp at this);omega) (by omega) ?_ ?_
 ·exact Above.go
 exact Below.go

theorem C5t (v1 v2:Value) (p q:TPoint) (b1 b2:List Nat) (w:World) (hx:Agg w v1 p b1) (hy:Agg w v2 q b2) :
  Calls Tryz.prog 91 #[v1,v2] w (X_ w (A9c p q)):=by
 have HX:=A_ hx;have HY:=A_ hy
 obtain ⟨A1,nA1,cA1,s1,A2,nA2,cA2,s2,A4,nA4,cA4,s4,A5,nA5,cA5,s5,rfl,rfl,hs1,hs2,hs4,hs5⟩:=TPoint.agg hx
 obtain ⟨B1,nB1,cB1,t1,B2,nB2,cB2,t2,B4,nB4,cB4,t4,B5,nB5,cB5,t5,rfl,rfl,ht1,ht2,ht4,ht5⟩:=TPoint.agg hy
 have P1:=A_ (TRat.mkAgg (x:=p.x) hs1 hs2);have P2:=A_ (TRat.mkAgg (x:=p.y) hs4 hs5)
 have Q1:=A_ (TRat.mkAgg (x:=q.x) ht1 ht2);have Q2:=A_ (TRat.mkAgg (x:=q.y) ht4 ht5)
 clear hs1 hs2 hs4 hs5 ht1 ht2 ht4 ht5 hx hy HX HY
 go_enter Tryz.func91,Tryz.ntmps91
 go_wp2_with fail
 refine A0m 10 (by kernel_rfl) (by kernel_rfl) (by kernel_rfl) (by kernel_rfl) (by kernel_rfl) ?_
 simp only [List.take_succ_cons,List.take_zero,List.drop_succ_cons,List.drop_zero]
 iterate 4
  refine D_ _ ?_
 refine F_ (MP.agg (A1c p.x q.x)) ?_ ?_
 ·intro yq zq wq hC hd
  obtain ⟨hcq,hfq⟩:=C_ hC
  simp at hd
  refine H_ ?_
  exact K_ (A3l _ _ p.x q.x _ _ wq (P1.o.below Below.go) (Q1.o.below Below.go))
 iterate 4
  refine D_ _ ?_
 refine F_ (MP.agg (A1c p.y q.y)) ?_ ?_
 ·intro yq zq wq hC hd
  obtain ⟨hcq,hfq⟩:=C_ hC
  simp at hd
  refine H_ ?_
  exact K_ (A3l _ _ p.y q.y _ _ wq (P2.o.below Below.go) (Q2.o.below Below.go))
 intro yq zq wa hC hd (hdis:Hid _)
 simp at hd
 have q4:=hd.2.2.2.2.1
 have q9:=hd.2.2.2.2.2.2.2.2.2
 have H4:=A_ q4.1.1;have H9:=A_ q9.1.1
 clear hd hdis q4 q9
 obtain ⟨hc_wa,hf_wa⟩:=C_ hC
 have hz0_wa:w.heap.size<wa.heap.size:=N_ hC
 have hz1_wa:w.heap.size+1<wa.heap.size:=N_ hC
 have hz2_wa:w.heap.size+1+1<wa.heap.size:=N_ hC
 go_wp2_with fail
 refine (A7l _ _ (A1c p.x q.x) (A1c p.y q.y) _ _ wa H4.o H9.o).mono ?_
 rintro _ wb ⟨vb,sb,rfl,hab,hob,hb⟩
 obtain ⟨D1,nD1,cD1,D1_,D2,nD2,cD2,D2_,rfl,hzb,_,_⟩:=TRat.agg hab
 have HAb:=A_ hab;have HOb:=A_ hob
 clear hab hob hzb
 obtain ⟨hc_wb,hf_wb⟩:=C_ hb
 have hz0_wb:w.heap.size<wb.heap.size:=N_ hb
 have hz1_wb:w.heap.size+1<wb.heap.size:=N_ hb
 have hz2_wb:w.heap.size+1+1<wb.heap.size:=N_ hb
 go_wp2
 refine bodyPost_ret (v:=.agg #[.bool (A2d (A1c p.x q.x) (A1c p.y q.y)).num.neg,.slice D1 nD1 cD1,.slice D2 nD2 cD2]) (by simp[results,Tryz.results91,go_sem, *]) rfl ?_
 refine A0o (lo:=w.heap.size+3) HAb.o HOb.o.free (fun b hb=>by have:=(HOb.o.2 b hb).1;(try simp at this);omega) (by omega) ?_ ?_
 ·exact Above.go
 exact Below.go

theorem C8j (A:Option Addr) (c:Nat) (a1 b1 c1:TPoint) (bs:List Nat) (w:World) (hx:Sl w A 3 c [a1,b1,c1] bs) :
  Calls Tryz.prog 89 #[.slice A 3 c] w (X_ w (B1z a1 b1 c1)):=by
 have HX:=A_ hx
 obtain ⟨be0,of0,a2,P1,nP1,cP1,p1,P2,nP2,cP2,p2,P4,nP4,cP4,p4,P5,nP5,cP5,p5,hA0,hbl0,hx0,Pe0,Pe1,Pe2,Pe3,Pe4,Pe5,hg0⟩:=TPoint.elemA HX.o (show 0<3 by decide)
 obtain ⟨be1,of1,b2,Q1,nQ1,cQ1,q1,Q2,nQ2,cQ2,q2,Q4,nQ4,cQ4,q4,Q5,nQ5,cQ5,q5,hA1,hbl1,hx1,Qe0,Qe1,Qe2,Qe3,Qe4,Qe5,hg1⟩:=TPoint.elemA HX.o (show 1<3 by decide)
 obtain ⟨be2,of2,c2,R1,nR1,cR1,r1,R2,nR2,cR2,r2,R4,nR4,cR4,r4,R5,nR5,cR5,r5,hA2,hbl2,hx2,Re0,Re1,Re2,Re3,Re4,Re5,hg2⟩:=TPoint.elemA HX.o (show 2<3 by decide)
 subst hA0
 injection hA1 with hA1;injection hA1 with h1 h2 _;subst h1;subst h2
 injection hA2 with hA2;injection hA2 with h1 h2 _;subst h1;subst h2
 simp at hx0 hx1 hx2
 subst hx0;subst hx1;subst hx2
 simp at Pe0 Pe1 Pe2 Pe3 Pe4 Pe5 Qe0 Qe1 Qe2 Qe3 Qe4 Qe5 Re0 Re1 Re2 Re3 Re4 Re5
 have HA:=A_ hg0;have HB:=A_ hg1;have HC:=A_ hg2
 clear hbl1 hbl2 hg0 hg1 hg2 hx
 go_enter Tryz.func89,Tryz.ntmps89
 go_wp2_with fail
 refine A0m 11 (by kernel_rfl) (by kernel_rfl) (by kernel_rfl) (by kernel_rfl) (by kernel_rfl) ?_
 simp only [List.take_succ_cons,List.take_zero,List.drop_succ_cons,List.drop_zero]
 refine F_ (MP.agg (mkR 1 2)) ?_ ?_
 ·intro yq zq wq hC hd
  obtain ⟨hcq,hfq⟩:=C_ hC
  simp at hd
  refine H_ ?_
  exact K_ (C8b wq)
 iterate 9
  refine D_ _ ?_
 refine F_ (MP.agg (A0i a1 b1 c1)) ?_ ?_
 ·intro yq zq wq hC hd
  obtain ⟨hcq,hfq⟩:=C_ hC
  simp at hd
  refine H_ ?_
  exact K_ (A7x _ _ _ a1 b1 c1 _ _ _ wq (HA.o.below Below.go) (HB.o.below Below.go) (HC.o.below Below.go))
 intro yq zq wa hC hd (hdis:Hid _)
 simp at hd
 have q4:=hd.1
 have q9:=hd.2.2.2.2.2.2.2.2.2.2
 have H4:=A_ q4.1.1;have H9:=A_ q9.1.1
 clear hd hdis q4 q9
 obtain ⟨hc_wa,hf_wa⟩:=C_ hC
 have hz0_wa:w.heap.size<wa.heap.size:=N_ hC
 go_wp2_with fail
 refine (A3l _ _ (mkR 1 2) (A0i a1 b1 c1) _ _ wa H4.o H9.o).mono ?_
 rintro _ wb ⟨vb,sb,rfl,hab,hob,hb⟩
 obtain ⟨D1,nD1,cD1,D1_,D2,nD2,cD2,D2_,rfl,hzb,_,_⟩:=TRat.agg hab
 have HAb:=A_ hab;have HOb:=A_ hob
 clear hab hob hzb
 obtain ⟨hc_wb,hf_wb⟩:=C_ hb
 have hz0_wb:w.heap.size<wb.heap.size:=N_ hb
 go_wp2
 refine bodyPost_ret (v:=.agg #[.bool (A1c (mkR 1 2) (A0i a1 b1 c1)).num.neg,.slice D1 nD1 cD1,.slice D2 nD2 cD2]) (by simp[results,Tryz.results89,go_sem, *]) rfl ?_
 refine A0o (lo:=w.heap.size+1) HAb.o HOb.o.free (fun b hb=>by have:=(HOb.o.2 b hb).1;(try simp at this);omega) (by omega) ?_ ?_
 ·exact Above.go
 exact Below.go

end Go.Proofs.YtbhemnidcleaiaaGreat.X
namespace Go.Proofs.YtbhemnidcleaiaaGreat.X
open Go.RowKit Go.XB Go.XN
def D7q (ps:List TPoint) (xs ys:List Int):Prop:=ps.length=xs.length∧ps.length=ys.length∧∀ (k:Nat) (p:TPoint),ps[k]?=some p→p=V_ (at0 xs k) (at0 ys k)
theorem C1g {xs:List Int} (h:A5g xs) (k:Int):-100≤at0 xs k∧at0 xs k≤100:=by
 unfold at0
 by_cases hk:k.toNat<xs.length
 ·rw[List.getD_eq_getElem?_getD,List.getElem?_eq_getElem hk]
  exact h _ (List.getElem_mem hk)
 rw[List.getD_eq_getElem?_getD,List.getElem?_eq_none (by omega)]
 decide
theorem C2s {xs:List Int} {k:Nat} (hk:k<xs.length):xs.take (k+1)=xs.take k++[at0 xs k]:=by
 rw[List.take_add_one]
 unfold at0
 simp[List.getD,List.getElem?_eq_getElem hk]
end Go.Proofs.YtbhemnidcleaiaaGreat.X
namespace Go.Proofs.YtbhemnidcleaiaaGreat.X
open Go.RowKit Go.XB Go.XN
attribute [local go_sem] O_ opAt P_ M_ Region.wanted yielded
attribute [local simp] P_ M_ MP.eq MP.agg MP.sl A0e

theorem A8h {w w':World} {b:Nat} {o:Obj} (h:w.heap[b]?=some o) (hb:Below w.heap.size w w'):w'.heap[b]?=some o:=(hb.block b (E_ h)).trans h
theorem C5b (w:World) (g o:Nat) (v:Value):w.grownBy (w.setCell ⟨g,o,none⟩ v) (some g) :=
 ⟨rfl,rfl,rfl,by simp,fun k _ hne=>Below.heap_setCell w ⟨g,o,none⟩ v k (fun e=>hne (by rw[e]))⟩
theorem A3k {w:World} {base g n cap:Nat} {e:TypeId} {xs:List Value} {b o:Nat} {v:Value} (h:w.ownsRow base e 1 (.slice (some ⟨g,0,none⟩) n cap) n xs) (hb:b<base):(w.setCell ⟨b,o,none⟩ v).ownsRow base e 1 (.slice (some ⟨g,0,none⟩) n cap) n xs :=
 h.kept (C5b w b o v) (.inr (by have h1:base≤g:=(World.ownsRow.lt h _ rfl).1;simp[Value.ownBlock];omega))
theorem C4u {a b n c:Nat} (h:a≠b):(Value.slice (some ⟨b,0,none⟩) n c).ownBlock≠some a:=by simp[Value.ownBlock];exact fun e=>h e.symm
theorem C7o (x:Int):∀ u∈([.int .i64 x]:List Value),u.oneCell'=true:=by intro u hu;simp at hu;subst hu;rfl
def D0m (w:World) (n:Nat) (xs ys:List Int) (e:Ending) (w':World):Prop:=∃ v,e=.returned v∧Plc w' v n xs ys∧Below w.heap.size w w'

end Go.Proofs.YtbhemnidcleaiaaGreat.X
namespace Go.Proofs.YtbhemnidcleaiaaGreat.X
open Go.RowKit Go.XB Go.XN
def D124 (s:Int):Prop:=s=1∨s=2∨s=4
def C7x (s d:Int):Int:=s / Int.gcd s d*d
def D6e:TPoint:=⟨⟨⟨false,[]⟩,[]⟩,⟨⟨false,[]⟩,[]⟩⟩
def B6w (ps:List TPoint):Nat→Int
 | 0=>1
 | k+1=>C7x (C7x (B6w ps k) (I_ (ps.getD k D6e).x)) (I_ (ps.getD k D6e).y)
structure CoS (r:TRat) (a S:Int):Prop where
 sm:A1t r=true
 li:Lims r.num.mag
 ne:NegOk r.num
 dn:D124 (I_ r)
 nu:-1000≤L_ r∧L_ r≤1000
 eq:a=L_ r*(S / I_ r)
def D2s (ps:List TPoint) (xs ys:List Int):Prop:=ps.length=xs.length∧ps.length=ys.length∧∀ (k:Nat) (p:TPoint),ps[k]?=some p→CoS p.x (at0 xs k) (B6w ps ps.length)∧CoS p.y (at0 ys k) (B6w ps ps.length)
theorem C1r {s d:Int} (hs:D124 s) (hd:D124 d):D124 (C7x s d):=by
 unfold D124
 rcases hs with rfl | rfl | rfl<;>rcases hd with rfl | rfl | rfl<;>decide
theorem C3n {s d:Int} (hs:D124 s) (hd:D124 d):∃ g q,((Int.gcd s d:Nat):Int)=g∧¬ g=0∧IntKind.i64.wrap (s.tdiv g)=q∧IntKind.i64.wrap (q*d)=C7x s d:=by
 rcases hs with rfl | rfl | rfl<;>rcases hd with rfl | rfl | rfl<;>exact ⟨_,_,rfl,by decide,rfl,by decide⟩
theorem C3t {S d n a:Int} (hS:D124 S) (hd:D124 d) (hn:-1000≤n∧n≤1000) (e:a=n*(S / d)):∃ q,¬ d=0∧IntKind.i64.wrap (S.tdiv d)=q∧IntKind.i64.wrap (n*q)=a:=by
 have h:∃ q:Int,¬ d=0∧IntKind.i64.wrap (S.tdiv d)=q∧S / d=q∧(q=0∨q=1∨q=2∨q=4):=by
  rcases hS with rfl | rfl | rfl<;>rcases hd with rfl | rfl | rfl<;>exact ⟨_,by decide,rfl,by decide,by decide⟩
 obtain ⟨q,h0,h1,h2,h3⟩:=h
 refine ⟨q,h0,h1,?_⟩
 rw[e,h2,IntWalk.i64_in]
 rcases h3 with rfl | rfl | rfl | rfl<;>omega
theorem D124.small {s:Int} (h:D124 s):0≤s∧s≤4:=by rcases h with rfl | rfl | rfl<;>decide
theorem D3x {ps:List TPoint} (h:∀ (k:Nat) (p:TPoint),ps[k]?=some p→D124 (I_ p.x)∧D124 (I_ p.y)):∀ k,k≤ps.length→D124 (B6w ps k)
 | 0,_=>.inl rfl
 | k+1,hk=>by
  have h1:ps[k]?=some (ps[k]'(by omega)):=List.getElem?_eq_getElem (by omega)
  have h2:=h k _ h1
  rw[B6w,List.getD_eq_getElem?_getD,h1]
  exact C1r (C1r (D3x h k (by omega)) h2.1) h2.2
end Go.Proofs.YtbhemnidcleaiaaGreat.X
namespace Go.Proofs.YtbhemnidcleaiaaGreat.X
open Go.RowKit Go.XB Go.XN
attribute [local go_sem] O_ opAt P_ M_ Region.wanted yielded
attribute [local simp] P_ M_ MP.eq MP.agg MP.sl A0e

theorem C3i (A:Option Addr) (n c:Nat) (ps:List TPoint) (bs:List Nat) (xs ys:List Int) (w:World) (hx:Sl w A n c ps bs) (hps:D2s ps xs ys) (hsx:A5g xs) (hsy:A5g ys) (hn:n≤40) (hn0:0<n) :
  Calls Tryz.prog 93 #[.slice A n c] w (D0m w n xs ys):=by
 have HX:=A_ hx;have HP:=A_ hps;have HSX:=A_ hsx;have HSY:=A_ hsy
 have HLX:=A_ (show xs.length=n from hps.1.symm.trans hx.1)
 have HLY:=A_ (show ys.length=n from hps.2.1.symm.trans hx.1)
 have HDN:=A_ (show ∀ k,k≤n→D124 (B6w ps k) from fun k hk=>D3x (fun j p hj=>⟨(hps.2.2 j p hj).1.dn,(hps.2.2 j p hj).2.dn⟩) k (by rw[hx.1];exact hk))
 have HLP:=A_ hx.1
 have HS0:=A_ (show (1:Int)=B6w ps 0 from rfl)
 obtain ⟨i0,hi,hz0,hz1,hz2⟩:=info_parts D3i
 clear hx hps hsx hsy
 go_enter Tryz.func93,Tryz.ntmps93
 go_wp2_with fail
 go_loopg [4,23] n (fun g s4 s wr=>∃ (k:Nat) (sh:Int),k+g=n∧s4=.int .i64 sh∧s=.int .i64 k∧Hid (sh=B6w ps k)∧Below w.heap.size w wr∧Hid (wr.heap[w.heap.size]?=some (.cells #[.slice none 0 0,.slice none 0 0,.slice none 0 0] 127))∧Hid (wr.heap[w.heap.size+1]?=some (.cells #[.slice A n c,.slice none 0 0,.slice none 0 0] 127)))
 case atStart =>
  refine ⟨0,1,by omega,rfl,rfl,HS0.o,Below.go,?_,?_⟩
  ·exact (Below.heap_alloc _ _ _ (by simp)).trans (heap_alloc_new w _)
  have:=heap_alloc_new (w.alloc (.cells #[.slice none 0 0,.slice none 0 0,.slice none 0 0] 127)) (.cells #[.slice A n c,.slice none 0 0,.slice none 0 0] 127)
  rw[World.size_alloc] at this
  exact this
 case round =>
  obtain ⟨k,s0,hk,rfl,rfl,hsh,hb,hh0,hh1⟩:=hrel
  have HB:=A_ hb
  rcases Nat.lt_or_ge k n with hkn | hkn
  ·rename World=>wr0
   have hki:(k:Int)<n:=by omega
   have hk40:(k:Int)≤40:=by omega
   obtain ⟨g,rfl⟩:∃ g,gk=g+1:=⟨gk - 1,by omega⟩
   have hk':=A_ (show k+1+g=n by omega)
   obtain ⟨be,of,x,D1,nD1,cD1,d1,D2,nD2,cD2,d2,D4,nD4,cD4,d4,D5,nD5,cD5,d5,hA,hbl,hx1,d0,d1_,d2_,d3_,d4_,d5_,hag⟩:=TPoint.elemA (HX.o.below hb) hkn
   subst hA
   obtain ⟨p1,p2,_,hpx,hpy⟩:=D5y hag
   have PX:=A_ hpx;have PY:=A_ hpy
   obtain ⟨cx,cy⟩:=HP.o.2.2 k x hx1
   obtain ⟨s1,hs1⟩:∃ s,C7x s0 (I_ x.x)=s:=⟨_,rfl⟩
   obtain ⟨s2,hs2⟩:∃ s,C7x s1 (I_ x.y)=s:=⟨_,rfl⟩
   have d0_:D124 s0:=by rw[hsh.o];exact HDN.o k (by omega)
   have d1_:D124 s1:=by rw[← hs1];exact C1r d0_ cx.dn
   have d2_:D124 s2:=by rw[← hs2];exact C1r d1_ cy.dn
   have SH2:=A_ (show s2=B6w ps (k+1) by rw[B6w,List.getD_eq_getElem?_getD,hx1,← hs2,← hs1,hsh.o];rfl)
   obtain ⟨g1,q1,G1,g10,hq1,hm1⟩:=C3n d0_ cx.dn
   obtain ⟨g2,q2,G2,g20,hq2,hm2⟩:=C3n d1_ cy.dn
   rw[hs1] at hm1
   rw[hs2] at hm2
   have e0:0≤s0∧s0≤9223372036854775807:=by have:=d0_.small;omega
   have e1:0≤s1∧s1≤9223372036854775807:=by have:=d1_.small;omega
   have u1:s1≤268435456:=by have:=d1_.small;omega
   have u2:s2≤268435456:=by have:=d2_.small;omega
   obtain ⟨dx,hdx⟩:∃ d,I_ x.x=d:=⟨_,rfl⟩
   obtain ⟨dy,hdy⟩:∃ d,I_ x.y=d:=⟨_,rfl⟩
   obtain ⟨nx,hnx⟩:∃ d,L_ x.x=d:=⟨_,rfl⟩
   obtain ⟨ny,hny⟩:∃ d,L_ x.y=d:=⟨_,rfl⟩
   rw[hdx] at G1 hm1
   rw[hdy] at G2 hm2
   have f1:0≤dx∧dx≤9223372036854775807:=by have:=cx.dn.small;omega
   have f2:0≤dy∧dy≤9223372036854775807:=by have:=cy.dn.small;omega
   have EE:=A_ (And.intro e0 (And.intro e1 (And.intro f1 f2)))
   have GG1:=A_ G1
   have GG2:=A_ G2
   have SX:=A_ (show A1t x.x=true∧Lims x.x.num.mag∧NegOk x.x.num∧L_ x.x=nx∧I_ x.x=dx from ⟨cx.sm,cx.li,cx.ne,hnx,hdx⟩)
   have SY:=A_ (show A1t x.y=true∧Lims x.y.num.mag∧NegOk x.y.num∧L_ x.y=ny∧I_ x.y=dy from ⟨cy.sm,cy.li,cy.ne,hny,hdy⟩)
   clear hk hkn hx1 hag hpx hpy hb cx cy hs1 hs2 d0_ d1_ d2_ hdx hdy hnx hny e0 e1 f1 f2 G1 G2 hsh
   go_wp2_with fail
   go_loopg [4,33] 2 (fun g s4 s wr2=>∃ (i:Nat) (v:Int),i+g=2∧s4=.int .i64 v∧s=.int .i64 i∧Hid ((i=0∧v=s0)∨(i=1∧v=s1)∨(i=2∧v=s2))∧Below ((wr0.alloc (.cells #[.bool x.x.num.neg,.slice D1 nD1 cD1,.slice D2 nD2 cD2,.bool x.y.num.neg,.slice D4 nD4 cD4,.slice D5 nD5 cD5] 38)).alloc (.cells #[.bool x.x.num.neg,.slice D1 nD1 cD1,.slice D2 nD2 cD2,.bool x.y.num.neg,.slice D4 nD4 cD4,.slice D5 nD5 cD5] 35)).heap.size ((wr0.alloc (.cells #[.bool x.x.num.neg,.slice D1 nD1 cD1,.slice D2 nD2 cD2,.bool x.y.num.neg,.slice D4 nD4 cD4,.slice D5 nD5 cD5] 38)).alloc (.cells #[.bool x.x.num.neg,.slice D1 nD1 cD1,.slice D2 nD2 cD2,.bool x.y.num.neg,.slice D4 nD4 cD4,.slice D5 nD5 cD5] 35)) wr2)
   case atStart=>exact ⟨0,s0,rfl,rfl,rfl,.inl ⟨rfl,rfl⟩,Below.refl _ _⟩
   case round =>
    obtain ⟨i,v4,hi2,rfl,rfl,hv4,hbi⟩:=hrel
    have HBi:=A_ (show Below wr0.heap.size wr0 wr from Below.trans ((Below.box _).alloc (by simp) _) (hbi.mono (by simp;omega)))
    obtain ⟨hc_i,hf_i⟩:=C_ hbi
    have hsz0:wr0.heap.size+1<wr.heap.size:=by have:=hbi.size;simp at this;omega
    obtain ⟨rfl,rfl⟩ | ⟨rfl,rfl⟩ | ⟨rfl,rfl⟩:=hv4.o
    all_goals clear hv4
    ·obtain rfl:gk=1+1:=by omega
     clear hi2
     go_wp2_with fail
     have C:=A0s _ x.x _ (wr.alloc (.cells #[.bool x.x.num.neg,.slice D1 nD1 cD1,.slice D2 nD2 cD2] 35)) ((PX.o.below HBi.o).below (Below.box _))
     rw[SX.o.1] at C
     refine C.mono ?_
     clear C
     rintro _ w1 ⟨rfl,hb1⟩
     obtain ⟨hc_w1,hf_w1⟩:=C_ hb1
     have HB1:=A_ (show Below wr.heap.size wr w1 from Below.trans (Below.box _) (hb1.mono (by simp)))
     go_wp2_with fail
     have C:=A4f _ x.x _ w1 ((PX.o.below HBi.o).below HB1.o) SX.o.1 SX.o.2.1 SX.o.2.2.1
     rw[SX.o.2.2.2.1,SX.o.2.2.2.2] at C
     refine C.mono ?_
     clear C
     rintro _ w2 ⟨rfl,hb2⟩
     have HB2:=A_ (Below.next HB1.o hb2)
     go_wp2_with fail
     have C:=B0c v4 dx w2 EE.o.1.1 EE.o.2.2.1.1 EE.o.1.2 EE.o.2.2.1.2
     rw[GG1.o] at C
     refine C.mono ?_
     clear C
     rintro _ w3 ⟨rfl,hb3⟩
     have HB3:=A_ (Below.next HB2.o hb3)
     go_wp2_with fail
     go_roundg 1
     case measure=>omega
     case rel=>exact ⟨0+1,s1,rfl,by go_num,by go_num,.inr (.inl ⟨rfl,rfl⟩),hbi.trans (HB3.o.mono hbi.size)⟩
    ·obtain rfl:gk=0+1:=by omega
     clear hi2
     go_wp2_with fail
     have C:=A0s _ x.y _ (wr.alloc (.cells #[.bool x.y.num.neg,.slice D4 nD4 cD4,.slice D5 nD5 cD5] 35)) ((PY.o.below HBi.o).below (Below.box _))
     rw[SY.o.1] at C
     refine C.mono ?_
     clear C
     rintro _ w1 ⟨rfl,hb1⟩
     obtain ⟨hc_w1,hf_w1⟩:=C_ hb1
     have HB1:=A_ (show Below wr.heap.size wr w1 from Below.trans (Below.box _) (hb1.mono (by simp)))
     go_wp2_with fail
     have C:=A4f _ x.y _ w1 ((PY.o.below HBi.o).below HB1.o) SY.o.1 SY.o.2.1 SY.o.2.2.1
     rw[SY.o.2.2.2.1,SY.o.2.2.2.2] at C
     refine C.mono ?_
     clear C
     rintro _ w2 ⟨rfl,hb2⟩
     have HB2:=A_ (Below.next HB1.o hb2)
     go_wp2_with fail
     have C:=B0c v4 dy w2 EE.o.2.1.1 EE.o.2.2.2.1 EE.o.2.1.2 EE.o.2.2.2.2
     rw[GG2.o] at C
     refine C.mono ?_
     clear C
     rintro _ w3 ⟨rfl,hb3⟩
     have HB3:=A_ (Below.next HB2.o hb3)
     go_wp2_with fail
     go_roundg 0
     case measure=>omega
     case rel=>exact ⟨1+1,s2,rfl,by go_num,by go_num,.inr (.inr ⟨rfl,rfl⟩),hbi.trans (HB3.o.mono hbi.size)⟩
    clear hi2
    go_wp2_with fail
    go_roundg g
    case measure=>omega
    case rel=>exact ⟨k+1,v4,hk'.o,rfl,by go_num,SH2.o,Below.next HB.o HBi.o,A8h hh0.o HBi.o,A8h hh1.o HBi.o⟩
  obtain rfl:k=n:=by omega
  have hki:¬ ((k:Int)<k):=by omega
  have DS:=A_ (show D124 s0 by rw[hsh.o];exact HDN.o k (Nat.le_refl _))
  have ES:=A_ (show B6w ps ps.length=s0 by rw[HLP.o,hsh.o])
  clear hk hkn hb hsh
  go_wp2_with fail
  have R0:=A_ (show ((wr.alloc (.cells #[] 3)).alloc (.cells #[] 3)).ownsRow (w.heap.size+2) 3 1 (.slice (some ⟨wr.heap.size,0,none⟩) 0 0) 0 [] from J_ (World.ownsRow_made wr #[] 0 (by have:=E_ hh1.o;omega) (Nat.zero_le _) rfl) (Below.box _))
  have R1:=A_ (show ((wr.alloc (.cells #[] 3)).alloc (.cells #[] 3)).ownsRow (w.heap.size+2) 3 1 (.slice (some ⟨wr.heap.size+1,0,none⟩) 0 0) 0 [] from by have:=World.ownsRow_made (base:=w.heap.size+2) (e:=3) (size:=1) (wr.alloc (.cells #[] 3)) #[] 0 (by have:=E_ hh1.o;simp;omega) (Nat.zero_le _) rfl;rw[World.size_alloc] at this;exact this)
  go_loopg [11,12,62] k (fun g s11 s12 s wr=>∃ (j gX cX gY cY:Nat),j+g=k∧s11=.slice (some ⟨gX,0,none⟩) j cX∧s12=.slice (some ⟨gY,0,none⟩) j cY∧s=.int .i64 j∧Hid (wr.ownsRow (w.heap.size+2) 3 1 (.slice (some ⟨gX,0,none⟩) j cX) j ((xs.take j).map (.int .i64)))∧Hid (wr.ownsRow (w.heap.size+2) 3 1 (.slice (some ⟨gY,0,none⟩) j cY) j ((ys.take j).map (.int .i64)))∧Hid (gX≠gY)∧Below w.heap.size w wr∧Hid (wr.heap[w.heap.size]?=some (.cells #[.slice none 0 0,.slice none 0 0,.slice none 0 0] 127))∧Hid (wr.heap[w.heap.size+1]?=some (.cells #[.slice A k c,.slice none 0 0,.slice none 0 0] 127)))
  case atStart=>exact ⟨0,wr.heap.size,0,wr.heap.size+1,0,by omega,rfl,rfl,rfl,R0.o,R1.o,(show wr.heap.size≠wr.heap.size+1 by omega),Below.next HB.o ((Below.box _).alloc (by simp) _),A8h hh0.o ((Below.box _).alloc (by simp) _),A8h hh1.o ((Below.box _).alloc (by simp) _)⟩
  case round =>
   clear hh0 hh1 R0 R1 HB
   obtain ⟨j,gX,cX,gY,cY,hj,rfl,rfl,rfl,hrx,hry,hne,hb,hh0,hh1⟩:=hrel
   have HB:=A_ hb
   rcases Nat.lt_or_ge j k with hjk | hjk
   ·have hji:(j:Int)<k:=by omega
    have hj40:(j:Int)≤40:=by omega
    obtain ⟨g,rfl⟩:∃ g,gk=g+1:=⟨gk - 1,by omega⟩
    have hj':=A_ (show j+1+g=k by omega)
    obtain ⟨be,of,x,D1,nD1,cD1,d1,D2,nD2,cD2,d2,D4,nD4,cD4,d4,D5,nD5,cD5,d5,hA,hbl,hx1,d0,d1_,d2_,d3_,d4_,d5_,hag⟩:=TPoint.elemA (HX.o.below hb) hjk
    subst hA
    obtain ⟨p1,p2,_,hpx,hpy⟩:=D5y hag
    have PX:=A_ hpx;have PY:=A_ hpy
    obtain ⟨cx,cy⟩:=HP.o.2.2 j x hx1
    rw[ES.o] at cx cy
    have TX:=A_ (C2s (xs:=xs) (k:=j) (by rw[HLX.o];exact hjk))
    have TY:=A_ (C2s (xs:=ys) (k:=j) (by rw[HLY.o];exact hjk))
    have ba:=C1g HSX.o (j:Int)
    have bb:=C1g HSY.o (j:Int)
    obtain ⟨a,ha⟩:∃ a,at0 xs (j:Int)=a:=⟨_,rfl⟩
    obtain ⟨b,hbq⟩:∃ b,at0 ys (j:Int)=b:=⟨_,rfl⟩
    rw[ha] at TX ba
    rw[hbq] at TY bb
    obtain ⟨dx,hdx⟩:∃ d,I_ x.x=d:=⟨_,rfl⟩
    obtain ⟨dy,hdy⟩:∃ d,I_ x.y=d:=⟨_,rfl⟩
    obtain ⟨nx,hnx⟩:∃ d,L_ x.x=d:=⟨_,rfl⟩
    obtain ⟨ny,hny⟩:∃ d,L_ x.y=d:=⟨_,rfl⟩
    obtain ⟨qx,hdx0,hqx,hmx⟩:=C3t DS.o cx.dn cx.nu cx.eq
    obtain ⟨qy,hdy0,hqy,hmy⟩:=C3t DS.o cy.dn cy.nu cy.eq
    rw[ha,hnx] at hmx
    rw[hbq,hny] at hmy
    rw[hdx] at hdx0 hqx
    rw[hdy] at hdy0 hqy
    have SX:=A_ (show A1t x.x=true∧Lims x.x.num.mag∧NegOk x.x.num∧L_ x.x=nx∧I_ x.x=dx from ⟨cx.sm,cx.li,cx.ne,hnx,hdx⟩)
    have SY:=A_ (show A1t x.y=true∧Lims x.y.num.mag∧NegOk x.y.num∧L_ x.y=ny∧I_ x.y=dy from ⟨cy.sm,cy.li,cy.ne,hny,hdy⟩)
    have WX:=A_ (show inB (-536870912) a 536870912=true by unfold inB;simp;omega)
    have WY:=A_ (show inB (-536870912) b 536870912=true by unfold inB;simp;omega)
    have C3:=A_ (show j+1≤maxLen by unfold maxLen;omega)
    have C4:=A_ (show (j+1)*8≤140737488355328 by omega)
    clear hj hjk hx1 hag hpx hpy ha hbq hb cx cy hdx hdy hnx hny
    go_wp2_with fail
    have C:=A4f _ x.x _ (wr.alloc (.cells #[.bool x.x.num.neg,.slice D1 nD1 cD1,.slice D2 nD2 cD2,.bool x.y.num.neg,.slice D4 nD4 cD4,.slice D5 nD5 cD5] 38)) (PX.o.below (Below.box _)) SX.o.1 SX.o.2.1 SX.o.2.2.1
    rw[SX.o.2.2.2.1,SX.o.2.2.2.2] at C
    refine C.mono ?_
    clear C
    rintro _ w1 ⟨rfl,hb1⟩
    obtain ⟨hc_w1,hf_w1⟩:=C_ hb1
    have HB1:=A_ (show Below wr.heap.size wr w1 from Below.trans (Below.box _) (hb1.mono (by simp)))
    go_wp2_with fail
    have C:=A4f _ x.y _ w1 (PY.o.below HB1.o) SY.o.1 SY.o.2.1 SY.o.2.2.1
    rw[SY.o.2.2.2.1,SY.o.2.2.2.2] at C
    refine C.mono ?_
    clear C
    rintro _ w2 ⟨rfl,hb2⟩
    have HB2:=A_ (Below.next HB1.o hb2)
    go_wp2_with fail
    refine A0l ?_
    iterate 12
     refine D_ _ ?_
    intro yq zq w3 hC hd (hdis:Hid _)
    simp at hd
    go_simp
    clear hd hdis
    have HB3:=A_ (Below.next HB2.o hC)
    go_wp2_with fail
    have C:=A0z a (-536870912) 536870912 w3
    rw[WX.o] at C
    refine C.mono ?_
    clear C
    rintro _ w4 ⟨rfl,hb4⟩
    have HB4:=A_ (Below.next HB3.o hb4)
    go_wp2_with fail
    have C:=A0z b (-536870912) 536870912 w4
    rw[WY.o] at C
    refine C.mono ?_
    clear C
    rintro _ w5 ⟨rfl,hb5⟩
    have HB5:=A_ (Below.next HB4.o hb5)
    clear hb1 hc_w1 hf_w1 hb2 hC hb4 hb5
    have hownX:=J_ hrx.o HB5.o
    have HY5:=A_ (J_ hry.o HB5.o)
    have W5:=A_ (show w.heap.size+2≤w5.heap.size by have:=E_ hh1.o;have:=HB5.o.size;omega)
    go_wp2_with (first | (at_builtin;refine A1f rfl _ _ 31 rfl (w.heap.size+2) 3 i0 (.int .i64 0) 1 8 Tryz.underlying31 hi hz0 hz1 hz2 rfl (by decide) gY j cY ((ys.take j).map (.int .i64)) (by go_simp;done) (((HY5.o.alloc (.cells #[.int .i64 a] 3)).kept hgX (.inr (C4u hne.o))).alloc _) ⟨w6.heap.size,0,none⟩ 1 1 [.int .i64 b] (by go_simp;done) rfl (cell_one_new _ _ _) (C7o _) C3.o C4.o (A0p (Nat.le_trans (A0p W5.o _) hgX.size) _) ?_;intro gY' cY' w7 hownY' hgY horY) | (at_builtin;refine A1f rfl _ _ 31 rfl (w.heap.size+2) 3 i0 (.int .i64 0) 1 8 Tryz.underlying31 hi hz0 hz1 hz2 rfl (by decide) gX j cX ((xs.take j).map (.int .i64)) (by go_simp;done) (hownX.alloc _) ⟨w5.heap.size,0,none⟩ 1 1 [.int .i64 a] (by go_simp;done) rfl (cell_one_new _ _ _) (C7o _) C3.o C4.o (A0p W5.o _) ?_;intro gX' cX' w6 hownX' hgX horX))
    have HX6:=A_ hownX';have HG6:=A_ hgX;have OR6:=A_ horX
    have hownY:=(HY5.o.alloc (.cells #[.int .i64 a] 3)).kept hgX (.inr (C4u hne.o))
    have W6:=A_ (show w.heap.size+2≤w6.heap.size by have:=hgX.size;simp at this;have:=W5.o;omega)
    clear hownX' hgX horX hownX
    have hY6:=A_ hownY
    have xlt:w.heap.size+2≤gX'∧gX'<w6.heap.size:=World.ownsRow.lt HX6.o _ rfl
    have ylt:w.heap.size+2≤gY∧gY<w6.heap.size:=World.ownsRow.lt hY6.o _ rfl
    have ylt5:w.heap.size+2≤gY∧gY<w5.heap.size:=World.ownsRow.lt HY5.o _ rfl
    have xlt0:w.heap.size+2≤gX∧gX<wr.heap.size:=World.ownsRow.lt hrx.o _ rfl
    have NE:=A_ (show gX'≠gY' by
     rcases OR6.o with h | h<;>rcases horY with h2 | h2
     ·rw[h,h2];exact hne.o
     ·have:=xlt.2;simp at h2;omega
     ·rw[h2,h];simp;have:=ylt5.2;omega
     have:=xlt.2;simp at h2;omega)
    have HX7:=A_ (show w7.ownsRow (w.heap.size+2) 3 1 (.slice (some ⟨gX',0,none⟩) (j+1) cX') (j+1) ((xs.take (j+1)).map (.int .i64)) by
     have h1:=(HX6.o.alloc (.cells #[.int .i64 b] 3)).kept hgY (.inr (C4u (fun e=>by
      rcases OR6.o with h | h
      ·exact hne.o (h.symm.trans e.symm)
      simp at h;have h9:gY<w5.heap.size:=ylt5.2;omega)))
     rw[TX.o,List.map_append];exact h1)
    have HY7:=A_ (show w7.ownsRow (w.heap.size+2) 3 1 (.slice (some ⟨gY',0,none⟩) (j+1) cY') (j+1) ((ys.take (j+1)).map (.int .i64)) by
     rw[TY.o,List.map_append];exact hownY')
    have HB7:=A_ (show Below (w.heap.size+2) w5 w7 from
     ((((Below.refl _ _).alloc W5.o _).grown HG6.o (A0p W5.o _) (fun k2 hk2=>by injection hk2 with h;omega)).alloc W6.o _).grown hgY (A0p W6.o _) (fun k2 hk2=>by injection hk2 with h;omega))
    clear hownY' hgY horY hownY xlt ylt ylt5 xlt0
    go_wp2_with fail
    go_roundg g
    case measure=>omega
    case rel=>exact ⟨j+1,gX',cX',gY',cY',hj'.o,rfl,rfl,by go_num,HX7.o,HY7.o,NE.o,(Below.next HB.o HB5.o).trans (HB7.o.mono (by omega)),(HB7.o.block _ (by omega)).trans (A8h hh0.o HB5.o),(HB7.o.block _ (by omega)).trans (A8h hh1.o HB5.o)⟩
   obtain rfl:j=k:=by omega
   have hji:¬ ((j:Int)<j):=by omega
   have HXF:=A_ (show wr.ownsRow (w.heap.size+2) 3 1 (.slice (some ⟨gX,0,none⟩) j cX) j (xs.map (.int .i64)) by have:=hrx.o;rwa [List.take_of_length_le (by rw[HLX.o];exact Nat.le_refl _)] at this)
   have HYF:=A_ (show wr.ownsRow (w.heap.size+2) 3 1 (.slice (some ⟨gY,0,none⟩) j cY) j (ys.map (.int .i64)) by have:=hry.o;rwa [List.take_of_length_le (by rw[HLY.o];exact Nat.le_refl _)] at this)
   have hl1:w.heap.size+1<wr.heap.size:=E_ hh1.o
   have hl0:w.heap.size<wr.heap.size:=by omega
   obtain ⟨a0,f0⟩:=B_ hh0.o (j:=0) rfl
   obtain ⟨a1,f1⟩:=B_ hh0.o (j:=1) rfl
   obtain ⟨a2,f2⟩:=B_ hh0.o (j:=2) rfl
   obtain ⟨b0,e0⟩:=B_ hh1.o (j:=0) rfl
   obtain ⟨b1,e1⟩:=B_ hh1.o (j:=1) rfl
   obtain ⟨b2,e2⟩:=B_ hh1.o (j:=2) rfl
   clear hj hjk hb
   go_wp2
   refine bodyPost_ret (v:=.agg #[.slice A j c,.slice (some ⟨gX,0,none⟩) j cX,.slice (some ⟨gY,0,none⟩) j cY]) (by simp[results,Tryz.results93,go_sem, *]) rfl ?_
   obtain ⟨bx,hx8⟩:=A5a (A3k (A3k (A3k (A3k (A3k HXF.o (show w.heap.size+1<w.heap.size+2 by omega)) (show w.heap.size+1<w.heap.size+2 by omega)) (show w.heap.size<w.heap.size+2 by omega)) (show w.heap.size<w.heap.size+2 by omega)) (show w.heap.size<w.heap.size+2 by omega)) (fun x hx=>by have:=HSX.o x hx;constructor<;>omega)
   obtain ⟨by_,hy8⟩:=A5a (A3k (A3k (A3k (A3k (A3k HYF.o (show w.heap.size+1<w.heap.size+2 by omega)) (show w.heap.size+1<w.heap.size+2 by omega)) (show w.heap.size<w.heap.size+2 by omega)) (show w.heap.size<w.heap.size+2 by omega)) (show w.heap.size<w.heap.size+2 by omega)) (fun x hx=>by have:=HSY.o x hx;constructor<;>omega)
   refine ⟨_,rfl,⟨A,c,gX,0,cX,gY,0,cY,bx,by_,rfl,hx8,hy8⟩,?_⟩
   have hbb:=HB.o
   exact Below.go

theorem A8p (v:Value) (p:TPoint) (b:List Nat) (w:World) (hx:Agg w v p b) (ok:A0r p=true) :
  Calls Tryz.prog 137 #[v] w (X_ w p):=by
 have ok2:S_ p.x=true∧S_ p.y=true:=by simpa [A0r] using ok
 have VX:=A_ (ratOkB_iff.1 ok2.1);have VY:=A_ (ratOkB_iff.1 ok2.2)
 obtain ⟨A1,nA1,cA1,s1,A2,nA2,cA2,s2,A4,nA4,cA4,s4,A5,nA5,cA5,s5,rfl,rfl,hs1,hs2,hs4,hs5⟩:=TPoint.agg hx
 have P1:=A_ (TRat.mkAgg (x:=p.x) hs1 hs2);have P2:=A_ (TRat.mkAgg (x:=p.y) hs4 hs5)
 clear hs1 hs2 hs4 hs5 hx ok ok2
 go_enter Tryz.func137,Tryz.ntmps137
 go_wp2_with fail
 refine A0m 6 (by kernel_rfl) (by kernel_rfl) (by kernel_rfl) (by kernel_rfl) (by kernel_rfl) ?_
 simp only [List.take_succ_cons,List.take_zero,List.drop_succ_cons,List.drop_zero]
 iterate 2
  refine D_ _ ?_
 refine F_ (MP.agg p.x) ?_ ?_
 ·intro yq zq wq hC hd
  obtain ⟨hcq,hfq⟩:=C_ hC
  simp at hd
  refine H_ ?_
  exact K_ (B1a _ p.x _ wq (P1.o.below Below.go) (by have:=VX.o.num24;omega) (by have:=VX.o.den24;omega))
 iterate 2
  refine D_ _ ?_
 refine F_ (MP.agg p.y) ?_ ?_
 ·intro yq zq wq hC hd
  obtain ⟨hcq,hfq⟩:=C_ hC
  simp at hd
  refine H_ ?_
  exact K_ (B1a _ p.y _ wq (P2.o.below Below.go) (by have:=VY.o.num24;omega) (by have:=VY.o.den24;omega))
 intro yq zq wa hC hd (hdis:Hid _)
 simp at hd
 have q4:=hd.2.2.1
 have q9:=hd.2.2.2.2.2
 obtain ⟨⟨ha4,hf4⟩,hr4⟩:=q4
 obtain ⟨⟨ha9,hf9⟩,hr9⟩:=q9
 obtain ⟨D1,nD1,cD1,d1,D2,nD2,cD2,d2,e4,z4,_,_⟩:=TRat.agg ha4
 obtain ⟨D4,nD4,cD4,d4,D5,nD5,cD5,d5,e9,z9,_,_⟩:=TRat.agg ha9
 rw[e4] at ha4
 rw[e9] at ha9
 have HAb:=A_ (A5o (x:=p) ha4 ha9)
 have HF:=A_ (Free.join hf4 hf9 (hdis.o 2 5 (by decide) (by decide) (by decide)))
 have HR:=A_ (show ∀ b∈zq 2++zq 5,w.heap.size+2≤b from fun b hb=>by
  rcases List.mem_append.1 hb with h | h
  ·have:=(hr4 b h).1;(try simp at this);omega
  have:=(hr9 b h).1;(try simp at this);omega)
 clear hd hdis ha4 hf4 hr4 ha9 hf9 hr9 z4 z9
 generalize zq 2++zq 5=zs at *
 obtain ⟨hc_wa,hf_wa⟩:=C_ hC
 have hz0_wa:w.heap.size<wa.heap.size:=N_ hC
 have hz1_wa:w.heap.size+1<wa.heap.size:=N_ hC
 go_wp2
 refine bodyPost_ret (v:=.agg #[.bool p.x.num.neg,.slice D1 nD1 cD1,.slice D2 nD2 cD2,.bool p.y.num.neg,.slice D4 nD4 cD4,.slice D5 nD5 cD5]) (by simp[results,Tryz.results137,go_sem, *]) rfl ?_
 refine A0o (lo:=w.heap.size+2) HAb.o HF.o HR.o (by omega) ?_ ?_
 ·exact Above.go
 exact Below.go

theorem A9r (v1 v2:Value) (r s:TRat) (b1 b2:List Nat) (w:World) (hx:Agg w v1 r b1) (hy:Agg w v2 s b2) (hr:S_ r=true) (hs:S_ s=true) (h0:s.num.mag≠[]) :
  Calls Tryz.prog 162 #[v1,v2] w (X_ w (A3g r s)):=by
 have HX:=A_ hx;have HY:=A_ hy
 have E:=A_ (show A1c r ⟨⟨s.num.neg,s.den⟩,s.num.mag⟩=A3g r s by
  unfold A3g;rw[hr,hs]
  cases h:s.num.mag with
  | nil=>exact absurd h h0
  | cons _ _=>rfl)
 have AR:=A_ (show [r,s].all S_=true by simp[hr,hs])
 obtain ⟨A1,nA1,cA1,s1,A2,nA2,cA2,s2,rfl,rfl,hs1,hs2⟩:=TRat.agg hx
 obtain ⟨B1,nB1,cB1,t1,B2,nB2,cB2,t2,rfl,rfl,ht1,ht2⟩:=TRat.agg hy
 have hnb:(((nB1:Nat):Int)==0)=false:=by
  have:=ht1.1
  cases h:s.num.mag with
  | nil=>exact absurd h h0
  | cons _ _=>rw[h] at this;simp at this;simp;omega
 have QI:=A_ (TRat.mkAgg (x:=(⟨⟨s.num.neg,s.den⟩,s.num.mag⟩:TRat)) ht2 ht1)
 clear hs1 hs2 ht1 ht2 hx hy hr hs h0
 go_enter Tryz.func162,Tryz.ntmps162
 go_wp2_with fail
 have C:=A1r (some ⟨w.heap.size+3,0,none⟩) 2 2 [r,s] _ ((((w.alloc (.cells #[.bool r.num.neg,.slice A1 nA1 cA1,.slice A2 nA2 cA2] 35)).alloc (.cells #[.bool s.num.neg,.slice B1 nB1 cB1,.slice B2 nB2 cB2] 35)).alloc (.cells #[.bool false,.slice none 0 0,.slice none 0 0] 35)).alloc (.cells #[.bool r.num.neg,.slice A1 nA1 cA1,.slice A2 nA2 cA2,.bool s.num.neg,.slice B1 nB1 cB1,.slice B2 nB2 cB2] 35)) (A7v (Agg.below HX.o Below.go) (Agg.below HY.o Below.go) (by simp) (by go_simp) (by go_simp) (by go_simp) (by go_simp) (by go_simp) (by go_simp))
 rw[AR.o] at C
 refine C.mono ?_
 clear C
 rintro _ w1 ⟨rfl,hb1⟩
 obtain ⟨hc_w1,hf_w1⟩:=C_ hb1
 have hz0_w1:w.heap.size<w1.heap.size:=N_ hb1
 have hz1_w1:w.heap.size+1<w1.heap.size:=N_ hb1
 have hz2_w1:w.heap.size+1+1<w1.heap.size:=N_ hb1
 go_wp2_with fail
 refine (A3l _ _ r ⟨⟨s.num.neg,s.den⟩,s.num.mag⟩ _ _ w1 (Agg.below HX.o Below.go) (Agg.below QI.o Below.go)).mono ?_
 rintro _ wb ⟨vb,sb,rfl,hab,hob,hb⟩
 obtain ⟨D1,nD1,cD1,D1_,D2,nD2,cD2,D2_,rfl,hzb,_,_⟩:=TRat.agg hab
 have HAb:=A_ hab;have HOb:=A_ hob
 clear hab hob hzb
 obtain ⟨hc_wb,hf_wb⟩:=C_ hb
 have hz0_wb:w.heap.size<wb.heap.size:=N_ hb
 have hz1_wb:w.heap.size+1<wb.heap.size:=N_ hb
 have hz2_wb:w.heap.size+1+1<wb.heap.size:=N_ hb
 go_wp2
 refine bodyPost_ret (v:=.agg #[.bool (A1c r ⟨⟨s.num.neg,s.den⟩,s.num.mag⟩).num.neg,.slice D1 nD1 cD1,.slice D2 nD2 cD2]) (by simp[results,Tryz.results162,go_sem, *]) rfl ?_
 rw[← E.o]
 refine A0o (lo:=w.heap.size+3) HAb.o HOb.o.free (fun b hb=>by have:=(HOb.o.2 b hb).1;(try simp at this);omega) (by omega) ?_ ?_
 ·exact Above.go
 exact Below.go
end Go.Proofs.YtbhemnidcleaiaaGreat.X
namespace Go.Proofs.YtbhemnidcleaiaaGreat.X
open Go.RowKit Go.XB Go.XN
theorem C2k:(Tryz.prog.info? 38).map (fun i=>(i.zero,i.size,i.bytes))=some (some (.agg #[.bool false,.slice none 0 0,.slice none 0 0,.bool false,.slice none 0 0,.slice none 0 0]),6,112):=by kernel_rfl
attribute [local go_sem] O_ opAt P_ M_ Region.wanted yielded
attribute [local simp] P_ M_ MP.eq MP.agg MP.sl A0e
theorem C6m (v1 v2:Value) (p q:TPoint) (b1 b2:List Nat) (w:World) (hx:Agg w v1 p b1) (hy:Agg w v2 q b2) :
  Calls Tryz.prog 288 #[v1,v2] w (X_ w (A9c p q)):=by
 have HX:=A_ hx;have HY:=A_ hy
 obtain ⟨A1,nA1,cA1,s1,A2,nA2,cA2,s2,A4,nA4,cA4,s4,A5,nA5,cA5,s5,rfl,rfl,hs1,hs2,hs4,hs5⟩:=TPoint.agg hx
 obtain ⟨B1,nB1,cB1,t1,B2,nB2,cB2,t2,B4,nB4,cB4,t4,B5,nB5,cB5,t5,rfl,rfl,ht1,ht2,ht4,ht5⟩:=TPoint.agg hy
 have P1:=A_ (TRat.mkAgg (x:=p.x) hs1 hs2);have P2:=A_ (TRat.mkAgg (x:=p.y) hs4 hs5)
 have Q1:=A_ (TRat.mkAgg (x:=q.x) ht1 ht2);have Q2:=A_ (TRat.mkAgg (x:=q.y) ht4 ht5)
 clear hs1 hs2 hs4 hs5 ht1 ht2 ht4 ht5 hx hy HX HY
 go_enter Tryz.func288,Tryz.ntmps288
 go_wp2_with fail
 refine A0m 10 (by kernel_rfl) (by kernel_rfl) (by kernel_rfl) (by kernel_rfl) (by kernel_rfl) ?_
 simp only [List.take_succ_cons,List.take_zero,List.drop_succ_cons,List.drop_zero]
 iterate 4
  refine D_ _ ?_
 refine F_ (MP.agg (A1c p.x q.x)) ?_ ?_
 ·intro yq zq wq hC hd
  obtain ⟨hcq,hfq⟩:=C_ hC
  simp at hd
  refine H_ ?_
  exact K_ (A6e _ _ p.x q.x _ _ wq (P1.o.below Below.go) (Q1.o.below Below.go))
 iterate 4
  refine D_ _ ?_
 refine F_ (MP.agg (A1c p.y q.y)) ?_ ?_
 ·intro yq zq wq hC hd
  obtain ⟨hcq,hfq⟩:=C_ hC
  simp at hd
  refine H_ ?_
  exact K_ (A6e _ _ p.y q.y _ _ wq (P2.o.below Below.go) (Q2.o.below Below.go))
 intro yq zq wa hC hd (hdis:Hid _)
 simp at hd
 have q4:=hd.2.2.2.2.1
 have q9:=hd.2.2.2.2.2.2.2.2.2
 have H4:=A_ q4.1.1;have H9:=A_ q9.1.1
 clear hd hdis q4 q9
 obtain ⟨hc_wa,hf_wa⟩:=C_ hC
 have hz0_wa:w.heap.size<wa.heap.size:=N_ hC
 have hz1_wa:w.heap.size+1<wa.heap.size:=N_ hC
 have hz2_wa:w.heap.size+1+1<wa.heap.size:=N_ hC
 go_wp2_with fail
 refine (B1v _ _ (A1c p.x q.x) (A1c p.y q.y) _ _ wa H4.o H9.o).mono ?_
 rintro _ wb ⟨vb,sb,rfl,hab,hob,hb⟩
 obtain ⟨D1,nD1,cD1,d1,D2,nD2,cD2,d2,rfl,hzb,_,_⟩:=TRat.agg hab
 have HA:=A_ hab;have HO:=A_ hob
 clear hab hob hzb
 obtain ⟨hc_wb,hf_wb⟩:=C_ hb
 have hz0_wb:w.heap.size<wb.heap.size:=N_ hb
 have hz1_wb:w.heap.size+1<wb.heap.size:=N_ hb
 have hz2_wb:w.heap.size+1+1<wb.heap.size:=N_ hb
 go_wp2
 refine bodyPost_ret (v:=.agg #[.bool (A2d (A1c p.x q.x) (A1c p.y q.y)).num.neg,.slice D1 nD1 cD1,.slice D2 nD2 cD2]) (by simp[results,Tryz.results288,go_sem, *]) rfl ?_
 refine A0o (lo:=w.heap.size+3) HA.o HO.o.free (fun b hb=>by have:=(HO.o.2 b hb).1;(try simp at this);omega) (by omega) ?_ ?_
 ·exact Above.go
 exact Below.go

def C2b {α:Type} [Dat α] (w:World) (x:α) (e:Ending) (w':World):Prop:=∃ v s,e=.returned v∧Agg w' v x s∧(∀ b∈s,w.heap.size≤b)∧Below w.heap.size w w'
def B7j {α:Type} [Dat α] (w:World) (xs:List α) (e:Ending) (w':World):Prop:=∃ A n c s,e=.returned (.slice A n c)∧Sl w' A n c xs s∧(∀ b∈s,w.heap.size≤b)∧Below w.heap.size w w'
theorem B4j (v:Value) (p:TPoint) (b:List Nat) (w:World) (hx:Agg w v p b) (ok:A0r p=true) :
  Calls Tryz.prog 232 #[v] w (C2b w p):=by
 obtain ⟨A1,nA1,cA1,s1,A2,nA2,cA2,s2,A4,nA4,cA4,s4,A5,nA5,cA5,s5,rfl,rfl,hs1,hs2,hs4,hs5⟩:=TPoint.agg hx
 have P1:=A_ (TRat.mkAgg (x:=p.x) hs1 hs2);have P2:=A_ (TRat.mkAgg (x:=p.y) hs4 hs5)
 have V:RatV p.x∧RatV p.y:=by unfold A0r at ok;simp only [Bool.and_eq_true] at ok;exact ⟨ratOkB_iff.1 ok.1,ratOkB_iff.1 ok.2⟩
 have LN:=A_ (And.intro (Nat.le_trans V.1.num24 (show 24≤1048576 by decide)) (And.intro (Nat.le_trans V.1.den24 (show 24≤1048576 by decide)) (And.intro (Nat.le_trans V.2.num24 (show 24≤1048576 by decide)) (Nat.le_trans V.2.den24 (show 24≤1048576 by decide)))))
 clear hs1 hs2 hs4 hs5 hx V ok
 go_enter Tryz.func232,Tryz.ntmps232
 go_wp2_with fail
 refine A0m 6 (by kernel_rfl) (by kernel_rfl) (by kernel_rfl) (by kernel_rfl) (by kernel_rfl) ?_
 simp only [List.take_succ_cons,List.take_zero,List.drop_succ_cons,List.drop_zero]
 iterate 2
  refine D_ _ ?_
 refine F_ (MP.agg p.x) ?_ ?_
 ·intro yq zq wq hC hd
  obtain ⟨hcq,hfq⟩:=C_ hC
  simp at hd
  refine H_ ?_
  exact K_ (B4v _ p.x _ wq (P1.o.below Below.go) LN.o.1 LN.o.2.1)
 iterate 2
  refine D_ _ ?_
 refine F_ (MP.agg p.y) ?_ ?_
 ·intro yq zq wq hC hd
  obtain ⟨hcq,hfq⟩:=C_ hC
  simp at hd
  refine H_ ?_
  exact K_ (B4v _ p.y _ wq (P2.o.below Below.go) LN.o.2.2.1 LN.o.2.2.2)
 intro yq zq wa hC hd (hdis:Hid _)
 simp at hd
 have q2:=hd.2.2.1
 have q5:=hd.2.2.2.2.2
 obtain ⟨⟨ha2,hf2⟩,hr2⟩:=q2
 obtain ⟨⟨ha5,hf5⟩,hr5⟩:=q5
 obtain ⟨D1,nD1,cD1,d1,D2,nD2,cD2,d2,e2,z2,_,_⟩:=TRat.agg ha2
 obtain ⟨D4,nD4,cD4,d4,D5,nD5,cD5,d5,e5,z5,_,_⟩:=TRat.agg ha5
 rw[e2] at ha2
 rw[e5] at ha5
 have HA:=A_ (A5o (x:=p) ha2 ha5)
 have HR:=A_ (show ∀ b∈zq 2++zq 5,w.heap.size+2≤b from fun b hb=>by
  rcases List.mem_append.1 hb with h | h
  ·have:=(hr2 b h).1;(try simp at this);omega
  have:=(hr5 b h).1;(try simp at this);omega)
 clear hd hdis ha2 hf2 hr2 ha5 hf5 hr5 z2 z5
 generalize zq 2++zq 5=zs at *
 obtain ⟨hc_wa,hf_wa⟩:=C_ hC
 have hz0_wa:w.heap.size<wa.heap.size:=N_ hC
 have hz1_wa:w.heap.size+1<wa.heap.size:=N_ hC
 go_wp2
 refine bodyPost_ret (v:=.agg #[.bool p.x.num.neg,.slice D1 nD1 cD1,.slice D2 nD2 cD2,.bool p.y.num.neg,.slice D4 nD4 cD4,.slice D5 nD5 cD5]) (by simp[results,Tryz.results232,go_sem, *]) rfl ?_
 refine ⟨_,zs,rfl,HA.o.keep (fun b hb=>A0b (w.heap.size+1) [.bool p.x.num.neg,.slice D1 nD1 cD1,.slice D2 nD2 cD2,.bool p.y.num.neg,.slice D4 nD4 cD4,.slice D5 nD5 cD5] wa 0 b (by have:=HR.o b hb;omega)),fun b hb=>by have:=HR.o b hb;omega,?_⟩
 exact Below.go

end Go.Proofs.YtbhemnidcleaiaaGreat.X
