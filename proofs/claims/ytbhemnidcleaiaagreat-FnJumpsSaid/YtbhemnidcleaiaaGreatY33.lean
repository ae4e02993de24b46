/- A part of the proof. -/
import Derived.Test.YtbhemnidcleaiaaGreatY31
import Derived.Test.YtbhemnidcleaiaaGreatY14
import Derived.Test.YtbhemnidcleaiaaGreatY2
import Derived.Test.YtbhemnidcleaiaaGreatY22
import Derived.Test.YtbhemnidcleaiaaGreatY32
import Derived.Test.YtbhemnidcleaiaaGreatY13
import Derived.Test.YtbhemnidcleaiaaGreatY4
import Derived.Test.YtbhemnidcleaiaaGreatY17
set_option linter.constructorNameAsVariable false
set_option maxHeartbeats 16000000
set_option maxRecDepth 10000
namespace Go.XB
open Go.RowKit Go.Proofs.YtbhemnidcleaiaaGreat.X
theorem D1y {W:World} {g:Nat} {t:TypeId} {a b:TPoint} {b1 b2:List Nat} {u0 u1 u2 u3 u4 u5 u6 u7 u8 u9 u10 u11:Value} (h1:Dat.at_ W [u0,u1,u2,u3,u4,u5] a b1) (h2:Dat.at_ W [u6,u7,u8,u9,u10,u11] b b2)
  (hc:W.heap[g]?=some (.cells #[u0,u1,u2,u3,u4,u5,u6,u7,u8,u9,u10,u11] t)) :
  Sl W (some ⟨g,0,none⟩) 2 2 [a,b] (g::(b1++b2)):=by
 refine ⟨rfl,Nat.le_refl _,by decide,fun h=>absurd h (by decide),fun _=>⟨g,0,[b1,b2],rfl,by simp,rfl,E_ hc,fun k x fs hx hf=>?_⟩⟩
 match k,hx,hf with
 | 0,hx,hf =>
  simp at hx hf;subst hx;subst hf
  refine ⟨_,fun j u hu=>?_,h1⟩
  have hj:=(List.getElem?_eq_some_iff.1 hu).1
  simp at hj
  have hcj:=A0k hc j u (by
   obtain rfl | rfl | rfl | rfl | rfl | rfl:j=0∨j=1∨j=2∨j=3∨j=4∨j=5:=by omega
   all_goals (simp at hu ⊢;exact hu))
  rw[D1q] at hcj
  simpa using hcj
 | 1,hx,hf =>
  simp at hx hf;subst hx;subst hf
  refine ⟨_,fun j u hu=>?_,h2⟩
  have hj:=(List.getElem?_eq_some_iff.1 hu).1
  simp at hj
  have hcj:=A0k hc (6+j) u (by
   obtain rfl | rfl | rfl | rfl | rfl | rfl:j=0∨j=1∨j=2∨j=3∨j=4∨j=5:=by omega
   all_goals (simp at hu ⊢;exact hu))
  rw[D1q] at hcj
  change W.cell? ⟨g,0+(1*6+j),none⟩=some u
  simpa using hcj
end Go.XB
namespace Go.Proofs.YtbhemnidcleaiaaGreat.X
open Go.RowKit Go.XB Go.XN
attribute [local go_sem] O_ Go.XB.opAt P_ M_ Region.wanted yielded
attribute [local simp] P_ M_ MP.eq MP.agg MP.sl MP.box A0e
theorem D5n {p:TPoint} {x:SBox} (h:A3a p.x x.left<0):B5o p x=true:=by unfold B5o;simp[h]
theorem D4e {p:TPoint} {x:SBox} (h:0<A3a p.x x.right):B5o p x=true:=by unfold B5o;simp[h]
theorem D4z {p:TPoint} {x:SBox} (h:A3a p.y x.low<0):B5o p x=true:=by unfold B5o;simp[h]
theorem D4y {p:TPoint} {x:SBox} (h:0<A3a p.y x.high):B5o p x=true:=by unfold B5o;simp[h]
theorem D4v {p:TPoint} {x:SBox} (h1:¬ A3a p.x x.left<0) (h2:¬ 0<A3a p.x x.right) (h3:¬ A3a p.y x.low<0) (h4:¬ 0<A3a p.y x.high):B5o p x=false:=by unfold B5o;simp only [decide_eq_false h1,decide_eq_false h2,decide_eq_false h3,decide_eq_false h4];rfl
theorem A9h {p a b:TPoint} (h:B5o p (C1v a [a,b])=true):false=A6a p a b:=by unfold A6a;rw[h];rfl
theorem C5z {p a b:TPoint} (h:B5o p (C1v a [a,b])=false):A6a p a b=D3o p a b:=by unfold A6a;rw[h];rfl
theorem B8g (v0 v1 v2:Value) (p a b:TPoint) (s0 s1 s2:List Nat) (w:World) (hp:Agg w v0 p s0) (ha:Agg w v1 a s1) (hb:Agg w v2 b s2) :
  Calls Tryz.prog 242 #[v0,v1,v2] w (A0j w (.bool (A6a p a b))):=by
 have HP:=A_ hp;have HA:=A_ ha;have HB:=A_ hb
 obtain ⟨P1,nP1,cP1,sP1,P2,nP2,cP2,sP2,P4,nP4,cP4,sP4,P5,nP5,cP5,sP5,rfl,rfl,hP1,hP2,hP4,hP5⟩:=TPoint.agg hp
 obtain ⟨A1,nA1,cA1,sA1,A2,nA2,cA2,sA2,A4,nA4,cA4,sA4,A5,nA5,cA5,sA5,rfl,rfl,hA1,hA2,hA4,hA5⟩:=TPoint.agg ha
 obtain ⟨B1,nB1,cB1,sB1,B2,nB2,cB2,sB2,B4,nB4,cB4,sB4,B5,nB5,cB5,sB5,rfl,rfl,hB1,hB2,hB4,hB5⟩:=TPoint.agg hb
 have PX:=A_ (TRat.mkAgg (x:=p.x) hP1 hP2);have PY:=A_ (TRat.mkAgg (x:=p.y) hP4 hP5)
 have DA:=A_ (TPoint.shut (x:=a) hA1 hA2 hA4 hA5);have DB:=A_ (TPoint.shut (x:=b) hB1 hB2 hB4 hB5)
 clear hP1 hP2 hP4 hP5 hA1 hA2 hA4 hA5 hB1 hB2 hB4 hB5 hp ha hb
 obtain ⟨W0,hW0⟩:∃ W0,W0=((w.alloc (.cells #[.bool p.x.num.neg,.slice P1 nP1 cP1,.slice P2 nP2 cP2,.bool p.y.num.neg,.slice P4 nP4 cP4,.slice P5 nP5 cP5] 38)).alloc (.cells #[.bool a.x.num.neg,.slice A1 nA1 cA1,.slice A2 nA2 cA2,.bool a.y.num.neg,.slice A4 nA4 cA4,.slice A5 nA5 cA5] 38)).alloc (.cells #[.bool b.x.num.neg,.slice B1 nB1 cB1,.slice B2 nB2 cB2,.bool b.y.num.neg,.slice B4 nB4 cB4,.slice B5 nB5 cB5] 38):=⟨_,rfl⟩
 have BW0:=A_ (show Below w.heap.size w W0 by rw[hW0];exact ((Below.box _).alloc (by simp) _).alloc (by simp;omega) _)
 have K0:=A_ (show W0.heap[w.heap.size]?=some (.cells #[.bool p.x.num.neg,.slice P1 nP1 cP1,.slice P2 nP2 cP2,.bool p.y.num.neg,.slice P4 nP4 cP4,.slice P5 nP5 cP5] 38) by rw[hW0];exact A0d (A0d (heap_alloc_new w _) (Below.box _)) (Below.box _))
 have K1:=A_ (show W0.heap[w.heap.size+1]?=some (.cells #[.bool a.x.num.neg,.slice A1 nA1 cA1,.slice A2 nA2 cA2,.bool a.y.num.neg,.slice A4 nA4 cA4,.slice A5 nA5 cA5] 38) by
  rw[hW0];have:=A0d (heap_alloc_new (w.alloc (.cells #[.bool p.x.num.neg,.slice P1 nP1 cP1,.slice P2 nP2 cP2,.bool p.y.num.neg,.slice P4 nP4 cP4,.slice P5 nP5 cP5] 38)) (.cells #[.bool a.x.num.neg,.slice A1 nA1 cA1,.slice A2 nA2 cA2,.bool a.y.num.neg,.slice A4 nA4 cA4,.slice A5 nA5 cA5] 38)) (Below.box (.cells #[.bool b.x.num.neg,.slice B1 nB1 cB1,.slice B2 nB2 cB2,.bool b.y.num.neg,.slice B4 nB4 cB4,.slice B5 nB5 cB5] 38));rwa [World.size_alloc] at this)
 have K2:=A_ (show W0.heap[w.heap.size+2]?=some (.cells #[.bool b.x.num.neg,.slice B1 nB1 cB1,.slice B2 nB2 cB2,.bool b.y.num.neg,.slice B4 nB4 cB4,.slice B5 nB5 cB5] 38) by
  rw[hW0];have:=heap_alloc_new ((w.alloc (.cells #[.bool p.x.num.neg,.slice P1 nP1 cP1,.slice P2 nP2 cP2,.bool p.y.num.neg,.slice P4 nP4 cP4,.slice P5 nP5 cP5] 38)).alloc (.cells #[.bool a.x.num.neg,.slice A1 nA1 cA1,.slice A2 nA2 cA2,.bool a.y.num.neg,.slice A4 nA4 cA4,.slice A5 nA5 cA5] 38)) (.cells #[.bool b.x.num.neg,.slice B1 nB1 cB1,.slice B2 nB2 cB2,.bool b.y.num.neg,.slice B4 nB4 cB4,.slice B5 nB5 cB5] 38);rwa [World.size_alloc,World.size_alloc] at this)
 have Z0:=A_ (show W0.heap.size=w.heap.size+3 by rw[hW0];simp)
 go_enter Tryz.func242,Tryz.ntmps242
 go_upto_region 1 with fail
 rw[← hW0]
 clear hW0
 have hz0:w.heap.size+2<W0.heap.size:=by have:=Z0.o;omega
 have hz1:w.heap.size+1<W0.heap.size:=by omega
 have hz2:w.heap.size<W0.heap.size:=by omega
 obtain ⟨y10,-⟩:=B_ K1.o (j:=0) rfl
 obtain ⟨y11,-⟩:=B_ K1.o (j:=1) rfl
 obtain ⟨y12,-⟩:=B_ K1.o (j:=2) rfl
 obtain ⟨y13,-⟩:=B_ K1.o (j:=3) rfl
 obtain ⟨y14,-⟩:=B_ K1.o (j:=4) rfl
 obtain ⟨y15,-⟩:=B_ K1.o (j:=5) rfl
 obtain ⟨y20,-⟩:=B_ K2.o (j:=0) rfl
 obtain ⟨y21,-⟩:=B_ K2.o (j:=1) rfl
 obtain ⟨y22,-⟩:=B_ K2.o (j:=2) rfl
 obtain ⟨y23,-⟩:=B_ K2.o (j:=3) rfl
 obtain ⟨y24,-⟩:=B_ K2.o (j:=4) rfl
 obtain ⟨y25,-⟩:=B_ K2.o (j:=5) rfl
 simp at y10 y11 y12 y13 y14 y15 y20 y21 y22 y23 y24 y25
 have SL:=A_ (D1y (a:=a) (b:=b) (W:=W0.alloc (.cells #[.bool a.x.num.neg,.slice A1 nA1 cA1,.slice A2 nA2 cA2,.bool a.y.num.neg,.slice A4 nA4 cA4,.slice A5 nA5 cA5,.bool b.x.num.neg,.slice B1 nB1 cB1,.slice B2 nB2 cB2,.bool b.y.num.neg,.slice B4 nB4 cB4,.slice B5 nB5 cB5] 38)) (DA.o |> fun h=>Dat.keep h (fun g hg=>(BW0.o.alloc BW0.o.size _).block g (Dat.lt h g hg))) (DB.o |> fun h=>Dat.keep h (fun g hg=>(BW0.o.alloc BW0.o.size _).block g (Dat.lt h g hg))) (heap_alloc_new W0 _))
 go_wp2_with fail
 refine (B2w _ 2 2 [a,b] _ _ SL.o a rfl (by decide)).mono ?_
 rintro _ w1 ⟨v,s,rfl,hag,hbs,hb1⟩
 obtain ⟨bx,hbx⟩:∃ bx,C1v a [a,b]=bx:=⟨_,rfl⟩
 rw[hbx] at hag
 have HBX:=A_ hbx
 obtain ⟨X1,xn1,xc1,xs1,X2,xn2,xc2,xs2,X4,xn4,xc4,xs4,X5,xn5,xc5,xs5,X7,xn7,xc7,xs7,X8,xn8,xc8,xs8,X10,xn10,xc10,xs10,X11,xn11,xc11,xs11,rfl,rfl,g1,g2,g4,g5,g7,g8,g10,g11⟩:=SBox.agg hag
 have Q0:=A_ (TRat.mkAgg (x:=bx.left) g1 g2);have Q1:=A_ (TRat.mkAgg (x:=bx.right) g4 g5);have Q2:=A_ (TRat.mkAgg (x:=bx.low) g7 g8);have Q3:=A_ (TRat.mkAgg (x:=bx.high) g10 g11)
 have HB01:=A_ (show Below W0.heap.size W0 w1 from Below.trans (Below.box _) (hb1.mono (by simp)))
 clear hag hbs hb1 g1 g2 g4 g5 g7 g8 g10 g11 hbx SL
 go_upto_region 2 with fail
 obtain ⟨W1,hW1⟩:∃ W1,W1=w1.alloc (.cells #[.bool bx.left.num.neg,.slice X1 xn1 xc1,.slice X2 xn2 xc2,.bool bx.right.num.neg,.slice X4 xn4 xc4,.slice X5 xn5 xc5,.bool bx.low.num.neg,.slice X7 xn7 xc7,.slice X8 xn8 xc8,.bool bx.high.num.neg,.slice X10 xn10 xc10,.slice X11 xn11 xc11] 237):=⟨_,rfl⟩
 have KX:=A_ (show W1.heap[w1.heap.size]?=some (.cells #[.bool bx.left.num.neg,.slice X1 xn1 xc1,.slice X2 xn2 xc2,.bool bx.right.num.neg,.slice X4 xn4 xc4,.slice X5 xn5 xc5,.bool bx.low.num.neg,.slice X7 xn7 xc7,.slice X8 xn8 xc8,.bool bx.high.num.neg,.slice X10 xn10 xc10,.slice X11 xn11 xc11] 237) by rw[hW1];exact heap_alloc_new w1 _)
 have BX:=A_ (show Below w1.heap.size w1 W1 by rw[hW1];exact Below.box _)
 rw[← hW1]
 clear hW1 y10 y11 y12 y13 y14 y15 y20 y21 y22 y23 y24 y25
 have HB0:=A_ (show Below w.heap.size w W1 from Below.next (Below.next BW0.o HB01.o) BX.o)
 have L0:=A_ (A0d (A0d K0.o HB01.o) BX.o);have L1:=A_ (A0d (A0d K1.o HB01.o) BX.o);have L2:=A_ (A0d (A0d K2.o HB01.o) BX.o)
 have HV0:=A_ (Below.refl W1.heap.size W1)
 clear K0 K1 K2 HB01
 have HQ0:W1.heap[w.heap.size]?=_:=L0.o
 have HR0:W1.heap[w1.heap.size]?=_:=KX.o
 obtain ⟨a00,-⟩:=B_ HQ0 (j:=0) rfl
 obtain ⟨a01,-⟩:=B_ HQ0 (j:=1) rfl
 obtain ⟨a02,-⟩:=B_ HQ0 (j:=2) rfl
 obtain ⟨b00,-⟩:=B_ HR0 (j:=0) rfl
 obtain ⟨b01,-⟩:=B_ HR0 (j:=1) rfl
 obtain ⟨b02,-⟩:=B_ HR0 (j:=2) rfl
 simp at a00 b00 a01 b01 a02 b02
 have lq0:w.heap.size<W1.heap.size:=E_ HQ0
 have lr0:w1.heap.size<W1.heap.size:=E_ HR0
 clear HQ0 HR0
 go_wp2_with fail
 refine (A2i _ _ p.x bx.left _ _ W1 (PX.o.below (Below.next HB0.o HV0.o)) (Q0.o.below (Below.next BX.o HV0.o))).mono ?_
 rintro _ U1 ⟨rfl,hbU⟩
 have HV1:=A_ (HV0.o.trans (hbU.mono HV0.o.size))
 clear hbU lq0 lr0 a00 b00 a01 b01 a02 b02
 by_cases t0:A3a p.x bx.left<0
 ·have HO:=A_ (A9h (by rw[HBX.o];exact D5n t0))
  have HN:=A_ (Below.next HB0.o HV1.o)
  go_wp2
  go_ret
  exact ⟨R_ HO.o,HN.o⟩
 have HQ1:U1.heap[w.heap.size]?=_:=(HV1.o.block _ (E_ L0.o)).trans L0.o
 have HR1:U1.heap[w1.heap.size]?=_:=(HV1.o.block _ (E_ KX.o)).trans KX.o
 obtain ⟨a10,-⟩:=B_ HQ1 (j:=0) rfl
 obtain ⟨a11,-⟩:=B_ HQ1 (j:=1) rfl
 obtain ⟨a12,-⟩:=B_ HQ1 (j:=2) rfl
 obtain ⟨b10,-⟩:=B_ HR1 (j:=3) rfl
 obtain ⟨b11,-⟩:=B_ HR1 (j:=4) rfl
 obtain ⟨b12,-⟩:=B_ HR1 (j:=5) rfl
 simp at a10 b10 a11 b11 a12 b12
 have lq1:w.heap.size<U1.heap.size:=E_ HQ1
 have lr1:w1.heap.size<U1.heap.size:=E_ HR1
 clear HQ1 HR1
 go_wp2_with fail
 refine (A2i _ _ p.x bx.right _ _ U1 (PX.o.below (Below.next HB0.o HV1.o)) (Q1.o.below (Below.next BX.o HV1.o))).mono ?_
 rintro _ U2 ⟨rfl,hbU⟩
 have HV2:=A_ (HV1.o.trans (hbU.mono HV1.o.size))
 clear hbU lq1 lr1 a10 b10 a11 b11 a12 b12
 by_cases t1:0<A3a p.x bx.right
 ·have HO:=A_ (A9h (by rw[HBX.o];exact D4e t1))
  have t':A3a p.x bx.right > 0:=t1
  have HN:=A_ (Below.next HB0.o HV2.o)
  go_wp2
  go_ret
  exact ⟨R_ HO.o,HN.o⟩
 have t1':¬ (A3a p.x bx.right > 0):=t1
 have HQ2:U2.heap[w.heap.size]?=_:=(HV2.o.block _ (E_ L0.o)).trans L0.o
 have HR2:U2.heap[w1.heap.size]?=_:=(HV2.o.block _ (E_ KX.o)).trans KX.o
 obtain ⟨a20,-⟩:=B_ HQ2 (j:=3) rfl
 obtain ⟨a21,-⟩:=B_ HQ2 (j:=4) rfl
 obtain ⟨a22,-⟩:=B_ HQ2 (j:=5) rfl
 obtain ⟨b20,-⟩:=B_ HR2 (j:=6) rfl
 obtain ⟨b21,-⟩:=B_ HR2 (j:=7) rfl
 obtain ⟨b22,-⟩:=B_ HR2 (j:=8) rfl
 simp at a20 b20 a21 b21 a22 b22
 have lq2:w.heap.size<U2.heap.size:=E_ HQ2
 have lr2:w1.heap.size<U2.heap.size:=E_ HR2
 clear HQ2 HR2
 go_wp2_with fail
 refine (A2i _ _ p.y bx.low _ _ U2 (PY.o.below (Below.next HB0.o HV2.o)) (Q2.o.below (Below.next BX.o HV2.o))).mono ?_
 rintro _ U3 ⟨rfl,hbU⟩
 have HV3:=A_ (HV2.o.trans (hbU.mono HV2.o.size))
 clear hbU lq2 lr2 a20 b20 a21 b21 a22 b22
 by_cases t2:A3a p.y bx.low<0
 ·have HO:=A_ (A9h (by rw[HBX.o];exact D4z t2))
  have HN:=A_ (Below.next HB0.o HV3.o)
  go_wp2
  go_ret
  exact ⟨R_ HO.o,HN.o⟩
 have HQ3:U3.heap[w.heap.size]?=_:=(HV3.o.block _ (E_ L0.o)).trans L0.o
 have HR3:U3.heap[w1.heap.size]?=_:=(HV3.o.block _ (E_ KX.o)).trans KX.o
 obtain ⟨a30,-⟩:=B_ HQ3 (j:=3) rfl
 obtain ⟨a31,-⟩:=B_ HQ3 (j:=4) rfl
 obtain ⟨a32,-⟩:=B_ HQ3 (j:=5) rfl
 obtain ⟨b30,-⟩:=B_ HR3 (j:=9) rfl
 obtain ⟨b31,-⟩:=B_ HR3 (j:=10) rfl
 obtain ⟨b32,-⟩:=B_ HR3 (j:=11) rfl
 simp at a30 b30 a31 b31 a32 b32
 have lq3:w.heap.size<U3.heap.size:=E_ HQ3
 have lr3:w1.heap.size<U3.heap.size:=E_ HR3
 clear HQ3 HR3
 go_wp2_with fail
 refine (A2i _ _ p.y bx.high _ _ U3 (PY.o.below (Below.next HB0.o HV3.o)) (Q3.o.below (Below.next BX.o HV3.o))).mono ?_
 rintro _ U4 ⟨rfl,hbU⟩
 have HV4:=A_ (HV3.o.trans (hbU.mono HV3.o.size))
 clear hbU lq3 lr3 a30 b30 a31 b31 a32 b32
 by_cases t3:0<A3a p.y bx.high
 ·have HO:=A_ (A9h (by rw[HBX.o];exact D4y t3))
  have t':A3a p.y bx.high > 0:=t3
  have HN:=A_ (Below.next HB0.o HV4.o)
  go_wp2
  go_ret
  exact ⟨R_ HO.o,HN.o⟩
 have t3':¬ (A3a p.y bx.high > 0):=t3
 have OI:=A_ (C5z (p:=p) (a:=a) (b:=b) (by rw[HBX.o];exact D4v (by omega) (by omega) (by omega) (by omega)))
 have N0:=A_ (Below.next HB0.o HV4.o)
 have HQ0:U4.heap[w.heap.size]?=_:=(HV4.o.block _ (E_ L0.o)).trans L0.o
 obtain ⟨a00,-⟩:=B_ HQ0 (j:=0) rfl
 obtain ⟨a01,-⟩:=B_ HQ0 (j:=1) rfl
 obtain ⟨a02,-⟩:=B_ HQ0 (j:=2) rfl
 obtain ⟨a03,-⟩:=B_ HQ0 (j:=3) rfl
 obtain ⟨a04,-⟩:=B_ HQ0 (j:=4) rfl
 obtain ⟨a05,-⟩:=B_ HQ0 (j:=5) rfl
 have HQ1:U4.heap[w.heap.size+1]?=_:=(HV4.o.block _ (E_ L1.o)).trans L1.o
 obtain ⟨a10,-⟩:=B_ HQ1 (j:=0) rfl
 obtain ⟨a11,-⟩:=B_ HQ1 (j:=1) rfl
 obtain ⟨a12,-⟩:=B_ HQ1 (j:=2) rfl
 obtain ⟨a13,-⟩:=B_ HQ1 (j:=3) rfl
 obtain ⟨a14,-⟩:=B_ HQ1 (j:=4) rfl
 obtain ⟨a15,-⟩:=B_ HQ1 (j:=5) rfl
 have HQ2:U4.heap[w.heap.size+2]?=_:=(HV4.o.block _ (E_ L2.o)).trans L2.o
 obtain ⟨a20,-⟩:=B_ HQ2 (j:=0) rfl
 obtain ⟨a21,-⟩:=B_ HQ2 (j:=1) rfl
 obtain ⟨a22,-⟩:=B_ HQ2 (j:=2) rfl
 obtain ⟨a23,-⟩:=B_ HQ2 (j:=3) rfl
 obtain ⟨a24,-⟩:=B_ HQ2 (j:=4) rfl
 obtain ⟨a25,-⟩:=B_ HQ2 (j:=5) rfl
 simp at a00 a01 a02 a03 a04 a05 a10 a11 a12 a13 a14 a15 a20 a21 a22 a23 a24 a25
 have lq0:w.heap.size<U4.heap.size:=E_ HQ0
 have lq1:w.heap.size+1<U4.heap.size:=E_ HQ1
 have lq2:w.heap.size+2<U4.heap.size:=E_ HQ2
 clear HQ0 HQ1 HQ2
 go_upto_region 4 with fail
 go_cut [8] (fun s8 wx=>∃ (w2:World) (D1:Option Addr) (nD1 cD1:Nat) (D2:Option Addr) (nD2 cD2:Nat) (sd:List Nat),s8=.pointer (some ⟨w2.heap.size,0,none⟩)∧Hid (Below U4.heap.size U4 w2)∧Hid (wx.heap[w2.heap.size]?=some (.cells #[.bool (A0i a b p).num.neg,.slice D1 nD1 cD1,.slice D2 nD2 cD2] 35))∧Hid (Agg w2 (.agg #[.bool (A0i a b p).num.neg,.slice D1 nD1 cD1,.slice D2 nD2 cD2]) (A0i a b p) sd)∧Hid (Below w2.heap.size w2 wx))
 case first =>
  go_wp2_with fail
  refine (A7q _ _ _ a b p _ _ _ U4 (HA.o.below N0.o) (HB.o.below N0.o) (HP.o.below N0.o)).mono ?_
  rintro _ w2 ⟨vd,sd,rfl,had,hod,hb2⟩
  obtain ⟨D1,nD1,cD1,d1,D2,nD2,cD2,d2,rfl,hzd,-,-⟩:=TRat.agg had
  have HD:=A_ had
  have HB2:=A_ hb2
  have KD:=A_ (heap_alloc_new w2 (.cells #[.bool (A0i a b p).num.neg,.slice D1 nD1 cD1,.slice D2 nD2 cD2] 35))
  have BD:=A_ (Below.box (w:=w2) (.cells #[.bool (A0i a b p).num.neg,.slice D1 nD1 cD1,.slice D2 nD2 cD2] 35))
  clear had hod hzd hb2
  go_wp2_with fail
  go_meet
  exact ⟨w2,D1,nD1,cD1,D2,nD2,cD2,sd,rfl,HB2,KD,HD,BD⟩
 case rest =>
 obtain ⟨w2,D1,nD1,cD1,D2,nD2,cD2,sd,rfl,HB2,KD,HD,BD⟩:=hcut
 obtain ⟨W3,hW3⟩:∃ x,x=wc:=⟨_,rfl⟩
 rw[← hW3] at KD BD
 rw[← hW3]
 clear hW3 t0 t1 t2 t3 t1' t3' a00 a01 a02 a03 a04 a05 a10 a11 a12 a13 a14 a15 a20 a21 a22 a23 a24 a25
 rename (∀ (a:Act) (w:World),Code.wp _ _ _ a w→_)=>hK
 refine hK _ _ ?_
 clear hK
 go_upto_region 5 with fail
 have BU:=A_ (Below.trans HB2.o (BD.o.mono HB2.o.size))
 have N1:=A_ (Below.next N0.o BU.o)
 have HQ0:W3.heap[w.heap.size]?=_:=(BU.o.block _ lq0).trans ((HV4.o.block _ (E_ L0.o)).trans L0.o)
 obtain ⟨a00,-⟩:=B_ HQ0 (j:=0) rfl
 obtain ⟨a01,-⟩:=B_ HQ0 (j:=1) rfl
 obtain ⟨a02,-⟩:=B_ HQ0 (j:=2) rfl
 obtain ⟨a03,-⟩:=B_ HQ0 (j:=3) rfl
 obtain ⟨a04,-⟩:=B_ HQ0 (j:=4) rfl
 obtain ⟨a05,-⟩:=B_ HQ0 (j:=5) rfl
 have HQ1:W3.heap[w.heap.size+1]?=_:=(BU.o.block _ lq1).trans ((HV4.o.block _ (E_ L1.o)).trans L1.o)
 obtain ⟨a10,-⟩:=B_ HQ1 (j:=0) rfl
 obtain ⟨a11,-⟩:=B_ HQ1 (j:=1) rfl
 obtain ⟨a12,-⟩:=B_ HQ1 (j:=2) rfl
 obtain ⟨a13,-⟩:=B_ HQ1 (j:=3) rfl
 obtain ⟨a14,-⟩:=B_ HQ1 (j:=4) rfl
 obtain ⟨a15,-⟩:=B_ HQ1 (j:=5) rfl
 have HQ2:W3.heap[w.heap.size+2]?=_:=(BU.o.block _ lq2).trans ((HV4.o.block _ (E_ L2.o)).trans L2.o)
 obtain ⟨a20,-⟩:=B_ HQ2 (j:=0) rfl
 obtain ⟨a21,-⟩:=B_ HQ2 (j:=1) rfl
 obtain ⟨a22,-⟩:=B_ HQ2 (j:=2) rfl
 obtain ⟨a23,-⟩:=B_ HQ2 (j:=3) rfl
 obtain ⟨a24,-⟩:=B_ HQ2 (j:=4) rfl
 obtain ⟨a25,-⟩:=B_ HQ2 (j:=5) rfl
 simp at a00 a01 a02 a03 a04 a05 a10 a11 a12 a13 a14 a15 a20 a21 a22 a23 a24 a25
 have lp0:w.heap.size<W3.heap.size:=E_ HQ0
 have lp1:w.heap.size+1<W3.heap.size:=E_ HQ1
 have lp2:w.heap.size+2<W3.heap.size:=E_ HQ2
 clear HQ0 HQ1 HQ2 lq0 lq1 lq2
 refine Z_ (by simp) ?_
 dsimp only [List.dropLast,List.getLast,List.length]
 iterate 2
  refine D_ _ ?_
 refine F_ (MP.agg (A2h a p)) ?_ ?_
 ·intro yq zq wq hC hd
  obtain ⟨hcq,hfq⟩:=C_ hC
  simp at hd
  refine H_ ?_
  exact K_ (A4l _ _ a p _ _ wq ((HA.o.below N1.o).below hC) ((HP.o.below N1.o).below hC))
 iterate 2
  refine D_ _ ?_
 refine F_ (MP.agg (A2h b p)) ?_ ?_
 ·intro yq zq wq hC hd
  obtain ⟨hcq,hfq⟩:=C_ hC
  simp at hd
  refine H_ ?_
  exact K_ (A4l _ _ b p _ _ wq ((HB.o.below N1.o).below hC) ((HP.o.below N1.o).below hC))
 refine F_ (MP.agg (A9c (A2h a p) (A2h b p))) ?_ ?_
 ·intro yq zq wq hC hd
  obtain ⟨hcq,hfq⟩:=C_ hC
  simp at hd
  refine H_ ?_
  obtain ⟨h1,h2,_⟩:=hd
  exact K_ (C6m _ _ (A2h a p) (A2h b p) _ _ wq (by first | exact h1.1 | exact h1) (by first | exact h2.1 | exact h2))
 refine A1z #[.bool false,.slice none 0 0,.slice none 0 0] 35 ?_ ?_
 ·intro yq zq wq hC hd
  refine ⟨by go_simp;done,?_⟩
  go_simp
 intro yq zq wa hC hd (hdis:Hid _)
 simp at hd
 have q6:=hd.2.2.2.2.2.2.1
 have q7:=hd.2.2.2.2.2.2.2
 obtain ⟨⟨ha6,hf6⟩,hr6⟩:=q6
 obtain ⟨⟨gn,e7,z7,hgn⟩,hr7⟩:=q7
 obtain ⟨nr,hnr⟩:∃ nr,A9c (A2h a p) (A2h b p)=nr:=⟨_,rfl⟩
 obtain ⟨dr,hdr⟩:∃ dr,A0i a b p=dr:=⟨_,rfl⟩
 rw[hnr] at ha6
 rw[hdr] at KD HD
 have EL:=A_ (show D3o p a b=(!S_ dr || (decide (A2s dr=0)&&(!S_ nr || decide (A2s nr<0)))) by unfold D3o;rw[hnr,hdr])
 obtain ⟨M1,nM1,cM1,m1,M2,nM2,cM2,m2,e6,hz6,-,-⟩:=TRat.agg ha6
 rw[e6] at ha6
 have hdd:=hdis.o 6 7 (by decide) (by decide) (by decide)
 rw[z7] at hdd hr7
 have hgnl:=E_ hgn
 have hgn1:W3.heap.size≤gn:=(hr7 gn (by simp)).1
 have hgnn:gn∉zq 6:=fun h=>hdd gn h (by simp)
 obtain ⟨d0,f0⟩:=B_ hgn (j:=0) rfl
 obtain ⟨d1',f1⟩:=B_ hgn (j:=1) rfl
 obtain ⟨d2',f2⟩:=B_ hgn (j:=2) rfl
 obtain ⟨W4,hW4⟩:∃ W4,W4=(((wa.setCell ⟨gn,0,none⟩ (.bool nr.num.neg)).setCell ⟨gn,1,none⟩ (.slice M1 nM1 cM1)).setCell ⟨gn,2,none⟩ (.slice M2 nM2 cM2)):=⟨_,rfl⟩
 have hlow:=BU.o.size
 have hd3:w2.heap.size<W3.heap.size:=E_ KD.o
 have KE:∀ b,b≠gn→W4.heap[b]?=wa.heap[b]?:=fun b hb=>by rw[hW4];exact A0b gn [.bool nr.num.neg,.slice M1 nM1 cM1,.slice M2 nM2 cM2] wa 0 b hb
 have N2:=A_ (show Below w.heap.size w W4 by
  rw[hW4];exact (((Below.next N1.o hC).setCell (p:=⟨gn,0,none⟩) (show w.heap.size≤gn by have:=N1.o.size;omega) _).setCell (p:=⟨gn,1,none⟩) (show w.heap.size≤gn by have:=N1.o.size;omega) _).setCell (p:=⟨gn,2,none⟩) (show w.heap.size≤gn by have:=N1.o.size;omega) _)
 have AN:=A_ (ha6.keep (w':=W4) (fun b hb=>KE b (fun e=>hgnn (e ▸ hb))))
 have KN:=A_ (show W4.heap[gn]?=some (.cells #[.bool nr.num.neg,.slice M1 nM1 cM1,.slice M2 nM2 cM2] 35) by rw[hW4];exact A8w (A8w (A8w hgn)))
 have KD4:=A_ ((KE _ (by omega)).trans (A0d KD.o hC))
 have AD:=A_ ((HD.o.below (Below.trans BD.o (hC.mono BD.o.size))).keep (w':=W4) (fun b hb=>KE b (by have:=HD.o.lt b hb;have:=BD.o.size;omega)))
 have HW4:=A_ hW4
 clear hW4 lp0 lp1 lp2 hz0 hz1 hz2 hd3 hgn1 hnr hdr hd hdis hf6 hr6 hr7 hgn hdd hz6 z7 hC KE ha6 hgnn hlow a00 a01 a02 a03 a04 a05 a10 a11 a12 a13 a14 a15 a20 a21 a22 a23 a24 a25
 go_upto_region 6 with fail
 rw[← HW4.o]
 clear HW4 d0 d1' d2' f0 f1 f2 e6 e7 hgnl
 obtain ⟨x0,-⟩:=B_ KN.o (j:=0) rfl
 obtain ⟨x1,-⟩:=B_ KN.o (j:=1) rfl
 obtain ⟨x2,-⟩:=B_ KN.o (j:=2) rfl
 obtain ⟨y0,-⟩:=B_ KD4.o (j:=0) rfl
 obtain ⟨y1,-⟩:=B_ KD4.o (j:=1) rfl
 obtain ⟨y2,-⟩:=B_ KD4.o (j:=2) rfl
 simp at x0 x1 x2 y0 y1 y2
 have lx:gn<W4.heap.size:=E_ KN.o
 have ly:w2.heap.size<W4.heap.size:=E_ KD4.o
 go_wp2_with fail
 refine (A0n _ dr _ W4 AD.o).mono ?_
 rintro _ R1 ⟨rfl,hR1⟩
 obtain ⟨hc_R1,hf_R1⟩:=C_ hR1
 have hs1:=hR1.size
 have lx1:gn<R1.heap.size:=by omega
 have ly1:w2.heap.size<R1.heap.size:=by omega
 have HR1:=A_ hR1
 have NR1:=A_ (Below.next N2.o hR1)
 clear hR1 hs1
 cases hq:S_ dr
 ·have HO:=A_ (show true=A6a p a b by rw[OI.o,EL.o,hq];rfl)
  clear hq
  go_wp2
  go_ret
  exact ⟨R_ HO.o,NR1.o⟩
 have HQ:=A_ hq
 clear hq
 go_wp2_with fail
 refine (A8f _ dr _ R1 (AD.o.below HR1.o)).mono ?_
 rintro _ R2 ⟨rfl,hR2⟩
 obtain ⟨hc_R2,hf_R2⟩:=C_ hR2
 have hs2:=hR2.size
 have lx2:gn<R2.heap.size:=by omega
 have HR2:=A_ hR2
 have NR2:=A_ (Below.next NR1.o hR2)
 clear hR2 hs2
 cases hq2:(A2s dr==0)
 ·have HO:=A_ (show false=A6a p a b by rw[OI.o,EL.o,HQ.o,show decide (A2s dr=0)=false by simpa using hq2];rfl)
  go_wp2
  go_ret
  exact ⟨R_ HO.o,NR2.o⟩
 have HQ2:=A_ (show decide (A2s dr=0)=true by simpa using hq2)
 go_wp2_with fail
 refine (A0n _ nr _ R2 ((AN.o.below HR1.o).below HR2.o)).mono ?_
 rintro _ R3 ⟨rfl,hR3⟩
 obtain ⟨hc_R3,hf_R3⟩:=C_ hR3
 have hs3:=hR3.size
 have lx3:gn<R3.heap.size:=by omega
 have HR3:=A_ hR3
 have NR3:=A_ (Below.next NR2.o hR3)
 clear hR3 hs3
 cases hq3:S_ nr
 ·have HO:=A_ (show true=A6a p a b by rw[OI.o,EL.o,HQ.o,HQ2.o,hq3];rfl)
  clear hq3
  go_wp2
  go_ret
  exact ⟨R_ HO.o,NR3.o⟩
 have HQ3:=A_ hq3
 clear hq3
 go_wp2_with fail
 refine (A8f _ nr _ R3 (((AN.o.below HR1.o).below HR2.o).below HR3.o)).mono ?_
 rintro _ R4 ⟨rfl,hR4⟩
 have NR4:=A_ (Below.next NR3.o hR4)
 have HO:=A_ (show decide (A2s nr<0)=A6a p a b by rw[OI.o,EL.o,HQ.o,HQ2.o,HQ3.o];rfl)
 clear hR4
 go_wp2
 go_ret
 exact ⟨R_ HO.o,NR4.o⟩
end Go.Proofs.YtbhemnidcleaiaaGreat.X
namespace Go.Proofs.YtbhemnidcleaiaaGreat.X
open Go.RowKit Go.XB Go.XN
def pk3 (a b c:TPoint) (i:Nat):TPoint:=[a,b,c].getD (i % 3) ⟨A1j,A1j⟩
theorem C5m {a b c:TPoint} {m:List TPoint} {i:Nat} (hi:i<3) (h:A3e (pk3 a b c i) (pk3 a b c (i+1)) m=true):true=A5c a b c m:=by
 unfold A5c
 obtain rfl | rfl | rfl:i=0∨i=1∨i=2:=by omega
 ·rw[show A3e a b m=true from h];rfl
 ·rw[show A3e b c m=true from h];simp
 rw[show A3e c a m=true from h];simp
theorem C8t {a b c:TPoint} {m:List TPoint} (h:∀ i,i<3→A3e (pk3 a b c i) (pk3 a b c (i+1)) m=false):false=A5c a b c m:=by
 unfold A5c
 rw[show A3e a b m=false from h 0 (by decide),show A3e b c m=false from h 1 (by decide),show A3e c a m=false from h 2 (by decide)];rfl
theorem C3y {x y z:TPoint} {m:List TPoint} {k:Nat} (h:m[k]?=some z):A3e x y (m.take (k+1))=(A3e x y (m.take k)&&decide (A2s (A0i x y z)≤0)):=by
 unfold A3e
 rw[take_step h,List.all_append]
 simp
attribute [local go_sem] O_ Go.XB.opAt P_ M_ Region.wanted yielded
attribute [local simp] P_ M_ MP.eq MP.agg MP.sl MP.box A0e
theorem B3a (A:Option Addr) (cA:Nat) (a b c:TPoint) (sA:List Nat) (B:Option Addr) (cB:Nat) (m:List TPoint) (sB:List Nat) (w:World) (hx:Sl w A 3 cA [a,b,c] sA) (hy:Sl w B 3 cB m sB) :
  Calls Tryz.prog 287 #[.slice A 3 cA,.slice B 3 cB] w (A0j w (.bool (A5c a b c m))):=by
 have HX:=A_ hx;have HY:=A_ hy
 clear hx hy
 go_enter Tryz.func287,Tryz.ntmps287
 go_wp2_with fail
 go_loopg [12] 3 (fun g s wr=>∃ i:Nat,i+g=3∧s=.int .i64 i∧Hid (∀ j,j<i→A3e (pk3 a b c j) (pk3 a b c (j+1)) m=false)∧Hid (Below w.heap.size w wr))
 case atStart=>exact ⟨0,rfl,rfl,(show ∀ j,j<0→A3e (pk3 a b c j) (pk3 a b c (j+1)) m=false from fun j h=>absurd h (Nat.not_lt_zero _)),Below.refl _ _⟩
 case round =>
  obtain ⟨i,hi,rfl,HN,HB⟩:=hrel
  rcases Nat.lt_or_ge i 3 with hi3 | hi3
  ·obtain ⟨g,rfl⟩:∃ g,gk=g+1:=⟨gk - 1,by omega⟩
   have hi':=A_ (show i+1+g=3 by omega)
   have hii:(i:Int)<3:=by omega
   have hii0:(0:Int)≤i:=by omega
   obtain ⟨j,hj⟩:∃ j,j=(i+1) % 3:=⟨_,rfl⟩
   have hj3:j<3:=by omega
   have hji:(j:Int)<3:=by omega
   have hj0:(0:Int)≤j:=by omega
   have hwi:IntKind.i64.wrap ((i:Int)+1)=(i:Int)+1:=by rw[IntKind.wrap_i64];omega
   have hwj:IntKind.i64.wrap (j:Int)=(j:Int):=by rw[IntKind.wrap_i64];omega
   have hm1:Int.tmod ((i:Int)+1) 3=j:=by rw[Int.tmod_eq_emod_of_nonneg (by omega)];omega
   obtain ⟨be,of,x,X1,nX1,cX1,sX1,X2,nX2,cX2,sX2,X4,nX4,cX4,sX4,X5,nX5,cX5,sX5,rfl,hbl,hx1,e0,e1,e2,e3,e4,e5,hag⟩:=TPoint.elemA (HX.o.below HB.o) hi3
   obtain ⟨be',of',y,Y1,nY1,cY1,sY1,Y2,nY2,cY2,sY2,Y4,nY4,cY4,sY4,Y5,nY5,cY5,sY5,hA',hbl',hy1,f0,f1,f2,f3,f4,f5,hbg⟩:=TPoint.elemA (HX.o.below HB.o) hj3
   injection hA' with hA';injection hA' with t1 t2 _;subst t1;subst t2
   have HAG:=A_ hag;have HBG:=A_ hbg
   have EX:=A_ (show pk3 a b c i=x by unfold pk3;rw[Nat.mod_eq_of_lt hi3,List.getD_eq_getElem?_getD,hx1];rfl)
   have EY:=A_ (show pk3 a b c (i+1)=y by unfold pk3;rw[← hj,List.getD_eq_getElem?_getD,hy1];rfl)
   have HI3:=A_ hi3
   clear hi hi3 hx1 hy1 hag hbg hj hbl'
   go_upto_region 4 with fail
   obtain ⟨W0,hW0⟩:∃ W,W=wr.alloc (.cells #[.bool x.x.num.neg,.slice X1 nX1 cX1,.slice X2 nX2 cX2,.bool x.y.num.neg,.slice X4 nX4 cX4,.slice X5 nX5 cX5] 38):=⟨_,rfl⟩
   have K0:=A_ (show W0.heap[wr.heap.size]?=some (.cells #[.bool x.x.num.neg,.slice X1 nX1 cX1,.slice X2 nX2 cX2,.bool x.y.num.neg,.slice X4 nX4 cX4,.slice X5 nX5 cX5] 38) by rw[hW0];exact heap_alloc_new wr _)
   have B0:=A_ (show Below wr.heap.size wr W0 by rw[hW0];exact Below.box _)
   rw[← hW0]
   clear hW0 e0 e1 e2 e3 e4 e5
   have N0:=A_ (Below.next HB.o B0.o)
   have R0:=A_ (Below.refl W0.heap.size W0)
   go_wp2_with fail
   go_loopg [7,19] 3 (fun g s7 s wi=>∃ k:Nat,k+g=3∧s=.int .i64 k∧s7=.bool (A3e x y (m.take k))∧Hid (Below W0.heap.size W0 wi))
   case atStart=>exact ⟨0,rfl,rfl,rfl,R0.o⟩
   case round =>
   obtain ⟨k,hk,rfl,rfl,HBi⟩:=hrel
   rename World=>wi
   clear R0
   rcases Nat.lt_or_ge k 3 with hk3 | hk3
   ·obtain ⟨gh,rfl⟩:∃ gh,gk=gh+1:=⟨gk - 1,by omega⟩
    have hk':=A_ (show k+1+gh=3 by omega)
    have hki:(k:Int)<3:=by omega
    have hki0:(0:Int)≤k:=by omega
    have BI:=A_ (Below.trans B0.o (HBi.o.mono B0.o.size))
    have NI:=A_ (Below.next HB.o BI.o)
    obtain ⟨bz,oz,z,Z1,nZ1,cZ1,sZ1,Z2,nZ2,cZ2,sZ2,Z4,nZ4,cZ4,sZ4,Z5,nZ5,cZ5,sZ5,rfl,hbz,hz1,z0,z1,z2,z3,z4,z5,hzg⟩:=TPoint.elemA (HY.o.below NI.o) hk3
    have HZG:=A_ hzg
    have ST:=A_ (C3y (x:=x) (y:=y) hz1)
    clear hk hk3 hzg hz1
    go_upto_region 8 with fail
    obtain ⟨W1,hW1⟩:∃ W,W=wi.alloc (.cells #[.bool z.x.num.neg,.slice Z1 nZ1 cZ1,.slice Z2 nZ2 cZ2,.bool z.y.num.neg,.slice Z4 nZ4 cZ4,.slice Z5 nZ5 cZ5] 38):=⟨_,rfl⟩
    have K1:=A_ (show W1.heap[wi.heap.size]?=some (.cells #[.bool z.x.num.neg,.slice Z1 nZ1 cZ1,.slice Z2 nZ2 cZ2,.bool z.y.num.neg,.slice Z4 nZ4 cZ4,.slice Z5 nZ5 cZ5] 38) by rw[hW1];exact heap_alloc_new wi _)
    have B1:=A_ (show Below wi.heap.size wi W1 by rw[hW1];exact Below.box _)
    rw[← hW1]
    clear hW1 z0 z1 z2 z3 z4 z5
    have BI1:=A_ (Below.next BI.o B1.o)
    have BI0:=A_ (Below.next HBi.o B1.o)
    have K01:=A_ ((BI0.o.block _ (E_ K0.o)).trans K0.o)
    obtain ⟨a0,_⟩:=B_ K01.o (j:=0) rfl
    obtain ⟨d0,_⟩:=B_ K1.o (j:=0) rfl
    obtain ⟨a1,_⟩:=B_ K01.o (j:=1) rfl
    obtain ⟨d1,_⟩:=B_ K1.o (j:=1) rfl
    obtain ⟨a2,_⟩:=B_ K01.o (j:=2) rfl
    obtain ⟨d2,_⟩:=B_ K1.o (j:=2) rfl
    obtain ⟨a3,_⟩:=B_ K01.o (j:=3) rfl
    obtain ⟨d3,_⟩:=B_ K1.o (j:=3) rfl
    obtain ⟨a4,_⟩:=B_ K01.o (j:=4) rfl
    obtain ⟨d4,_⟩:=B_ K1.o (j:=4) rfl
    obtain ⟨a5,_⟩:=B_ K01.o (j:=5) rfl
    obtain ⟨d5,_⟩:=B_ K1.o (j:=5) rfl
    simp at a0 d0 a1 d1 a2 d2 a3 d3 a4 d4 a5 d5
    have g0:W1.cell? ⟨be,of+j*6,none⟩=some (.bool y.x.num.neg):=(BI1.o.cell (p:=⟨be,_,none⟩) hbl).trans f0
    have g1:W1.cell? ⟨be,of+j*6+1,none⟩=some (.slice Y1 nY1 cY1):=(BI1.o.cell (p:=⟨be,_,none⟩) hbl).trans f1
    have g2:W1.cell? ⟨be,of+j*6+2,none⟩=some (.slice Y2 nY2 cY2):=(BI1.o.cell (p:=⟨be,_,none⟩) hbl).trans f2
    have g3:W1.cell? ⟨be,of+j*6+3,none⟩=some (.bool y.y.num.neg):=(BI1.o.cell (p:=⟨be,_,none⟩) hbl).trans f3
    have g4:W1.cell? ⟨be,of+j*6+4,none⟩=some (.slice Y4 nY4 cY4):=(BI1.o.cell (p:=⟨be,_,none⟩) hbl).trans f4
    have g5:W1.cell? ⟨be,of+j*6+5,none⟩=some (.slice Y5 nY5 cY5):=(BI1.o.cell (p:=⟨be,_,none⟩) hbl).trans f5
    have la:wr.heap.size<W1.heap.size:=E_ K01.o
    have ld:wi.heap.size<W1.heap.size:=E_ K1.o
    have lb:be<W1.heap.size:=by have:=BI1.o.size;omega
    cases hq:A3e x y (m.take k)
    ·have SN:=A_ (show false=A3e x y (m.take (k+1)) by rw[ST.o,hq];rfl)
     clear hq
     refine Z_ (by simp) ?_
     dsimp only [List.dropLast,List.getLast,List.length]
     iterate 2
      refine D_ _ ?_
     iterate 11
      apply A2g
      case h =>
       intro yq zq wq hC hd
       simp at hd
       go_simp
       first | done | (simp[undef];done)
     refine D_ _ ?_
     intro yq zq wa hC hd (hdis:Hid _)
     simp at hd
     have BN:=A_ (Below.next BI0.o hC)
     go_simp
     clear hd hdis
     go_wp2_with fail
     go_roundg gh
     case measure=>omega
     case rel=>exact ⟨k+1,hk'.o,by go_simp,by rw[SN.o],BN.o⟩
    have SN:=A_ (show decide (A2s (A0i x y z)≤0)=A3e x y (m.take (k+1)) by rw[ST.o,hq];simp)
    clear hq
    refine Z_ (by simp) ?_
    dsimp only [List.dropLast,List.getLast,List.length]
    iterate 10
     refine D_ _ ?_
    refine F_ (MP.agg (A0i x y z)) ?_ ?_
    ·intro yq zq wq hC hd
     obtain ⟨hcq,hfq⟩:=C_ hC
     simp at hd
     refine H_ ?_
     exact K_ (A7q _ _ _ x y z _ _ _ wq ((HAG.o.below BI1.o).below hC) ((HBG.o.below BI1.o).below hC) ((HZG.o.below B1.o).below hC))
    refine F_ (MP.eq (.int .i64 (A2s (A0i x y z)))) ?_ ?_
    ·intro yq zq wq hC hd
     obtain ⟨hcq,hfq⟩:=C_ hC
     simp at hd
     refine H_ ?_
     exact A0t (A8f _ (A0i x y z) _ wq (by first | exact hd.1.1 | exact hd.1))
    iterate 2
     refine D_ _ ?_
    intro yq zq wa hC hd (hdis:Hid _)
    simp at hd
    have BN:=A_ (Below.next BI0.o hC)
    have q13:=hd.2.2.2.2.2.2.2.2.2.2.2.2.2
    have e13:=q13.1.1
    rw[SN.o] at e13
    clear hd hdis q13
    go_wp2_with fail
    go_roundg gh
    case measure=>omega
    case rel=>exact ⟨k+1,hk'.o,by go_simp,rfl,BN.o⟩
   obtain rfl:k=3:=by omega
   have HT:=A_ (show A3e x y (m.take 3)=A3e x y m by rw[List.take_of_length_le (by rw[HY.o.1];exact Nat.le_refl _)])
   have NI:=A_ (Below.next N0.o HBi.o)
   clear hk hk3
   cases hq:A3e x y (m.take 3)
   ·have HN':=A_ (show ∀ j,j<i+1→A3e (pk3 a b c j) (pk3 a b c (j+1)) m=false from fun j hj=>by
     rcases Nat.lt_or_ge j i with h | h
     ·exact HN.o j h
     obtain rfl:j=i:=by omega
     rw[EX.o,EY.o,← HT.o,hq])
    go_wp2_with fail
    go_roundg g
    case measure=>omega
    case rel=>exact ⟨i+1,hi'.o,by go_simp,HN'.o,NI.o⟩
   ·have HO:=A_ (C5m HI3.o (by rw[EX.o,EY.o,← HT.o,hq]))
    clear hq
    go_wp2
    go_ret
    exact ⟨R_ HO.o,NI.o⟩
  obtain rfl:i=3:=by omega
  have HO:=A_ (C8t (a:=a) (b:=b) (c:=c) (m:=m) HN.o)
  clear hi hi3
  go_wp2
  go_ret
  exact ⟨R_ HO.o,HB.o⟩
theorem C1m (A:Option Addr) (cA:Nat) (a b c:TPoint) (sA:List Nat) (B:Option Addr) (cB:Nat) (a' b' c':TPoint) (sB:List Nat) (w:World) (hx:Sl w A 3 cA [a,b,c] sA) (hy:Sl w B 3 cB [a',b',c'] sB) (pl:A3v [a,b,c]=true) (pm:A3v [a',b',c']=true) :
  Calls Tryz.prog 241 #[.slice A 3 cA,.slice B 3 cB] w (A0j w (.bool (!A5c a b c [a',b',c']&&!A5c a' b' c' [a,b,c]))):=by
 have HX:=A_ hx;have HY:=A_ hy;have PL:=A_ pl;have PM:=A_ pm
 clear hx hy pl pm
 go_enter Tryz.func241,Tryz.ntmps241
 go_wp2_with fail
 have C:=A9v A 3 cA _ sA w HX.o
 rw[PL.o] at C
 refine C.mono ?_
 clear C
 rintro _ w1 ⟨rfl,hb1⟩
 have HB1:=A_ hb1
 clear hb1
 go_wp2_with fail
 have C:=A9v B 3 cB _ sB w1 (HY.o.below HB1.o)
 rw[PM.o] at C
 refine C.mono ?_
 clear C
 rintro _ w2 ⟨rfl,hb2⟩
 have HB2:=A_ (Below.next HB1.o hb2)
 clear hb2
 go_wp2_with fail
 refine (B3a A cA a b c sA B cB _ sB w2 (HX.o.below HB2.o) (HY.o.below HB2.o)).mono ?_
 rintro _ w3 ⟨rfl,hb3⟩
 have HB3:=A_ (Below.next HB2.o hb3)
 clear hb3
 cases h1:A5c a b c [a',b',c']
 ·have H1:=A_ h1
  go_wp2_with fail
  refine (B3a B cB a' b' c' sB A cA _ sA w3 (HY.o.below HB3.o) (HX.o.below HB3.o)).mono ?_
  rintro _ w4 ⟨rfl,hb4⟩
  have HB4:=A_ (Below.next HB3.o hb4)
  clear hb4 h1
  go_wp2
  go_ret
  exact ⟨R_ (by rw[H1.o];simp),HB4.o⟩
 have H1:=A_ h1
 clear h1
 go_wp2
 go_ret
 exact ⟨R_ (by rw[H1.o];simp),HB3.o⟩
end Go.Proofs.YtbhemnidcleaiaaGreat.X
namespace Go.Proofs.YtbhemnidcleaiaaGreat.X
open Go.RowKit Go.XB Go.XN
def B2x (ts:List TTri) (k:Nat):List Int:=(ts.take k).flatMap fun t=>[t.a,t.b,t.c]
theorem C5w {ts:List TTri} {k:Nat} {t:TTri} (h:ts[k]?=some t):B2x ts (k+1)=B2x ts k++[t.a,t.b,t.c]:=by
 unfold B2x
 rw[take_step h,List.flatMap_append];simp
theorem C9m {α:Type} {xs:List α} (h:xs.Nodup) {i j:Nat} {x y:α} (hx:xs[i]?=some x) (hy:xs[j]?=some y) (hne:j<i):x≠y:=by
 intro e
 subst e
 obtain ⟨h1,e1⟩:=List.getElem?_eq_some_iff.1 hx
 obtain ⟨h2,e2⟩:=List.getElem?_eq_some_iff.1 hy
 exact (List.pairwise_iff_getElem.1 h) j i h2 h1 hne (e2.trans e1.symm)
attribute [local go_sem] O_ Go.XB.opAt P_ M_ Region.wanted yielded
attribute [local simp] P_ M_ MP.eq MP.agg MP.sl MP.box A0e
theorem B8w (v:Value) (m:TMesh) (b:List Nat) (w:World) (hx:Agg w v m b) (hok:m.points.all A0r=true) (hnd:m.points.Nodup) (hus:∀ i,i<m.points.length→(C1c m).contains (i:Int)=true) (h3:3≤m.points.length) (h40:m.points.length≤40) (h48:m.triangles.length≤48) :
  Calls Tryz.prog 236 #[v] w (A0j w (.bool true)):=by
 obtain ⟨A0,n0,c0,s0,A1,n1,c1,s1,rfl,rfl,hs0,hs1⟩:=TMesh.agg hx
 have HP:=A_ hs0;have HS:=A_ hs1
 have OK:=A_ hok;have ND:=A_ hnd;have US:=A_ hus
 have HL0:=A_ hs0.1;have HL1:=A_ hs1.1
 have hn0:n0≤40:=by rw[← hs0.1];exact h40
 have hn03:3≤n0:=by rw[← hs0.1];exact h3
 have hn1:n1≤48:=by rw[← hs1.1];exact h48
 have hn0i:(n0:Int)≤40:=by omega
 have hn1i:(n1:Int)≤48:=by omega
 have hcp:n0≤c0:=hs0.2.1
 have WN:=A_ (show inB 3 (n0:Int) 40=true by unfold inB;simp;omega)
 obtain ⟨i0,hi,hz0,hz1,hz2⟩:=info_parts A5v
 clear hx hs0 hs1 hok hnd hus h3 h40 h48
 have B00:=A_ (show Below w.heap.size w ((w.alloc (.cells #[.slice A0 n0 c0,.slice A1 n1 c1] 26)).alloc (.cells #[] 3)) from (Below.box _).alloc (by simp) _)
 have R00:=A_ (show ((w.alloc (.cells #[.slice A0 n0 c0,.slice A1 n1 c1] 26)).alloc (.cells #[] 3)).ownsRow w.heap.size 3 1 (.slice (some ⟨w.heap.size+1,0,none⟩) 0 0) 0 ((B2x m.triangles 0).map (.int .i64)) by
  have:=World.ownsRow_made (base:=w.heap.size) (e:=3) (size:=1) (w.alloc (.cells #[.slice A0 n0 c0,.slice A1 n1 c1] 26)) #[] 0 (by simp) (Nat.zero_le _) rfl
  rw[World.size_alloc] at this
  exact this)
 have K00:=A_ (show ((w.alloc (.cells #[.slice A0 n0 c0,.slice A1 n1 c1] 26)).alloc (.cells #[] 3)).heap[w.heap.size]?=some (.cells #[.slice A0 n0 c0,.slice A1 n1 c1] 26) from A0d (heap_alloc_new w _) (Below.box _))
 go_enter Tryz.func236,Tryz.ntmps236
 go_wp2_with fail
 go_loopg [3,14] n1 (fun g s3 s14 wr=>∃ (k gB cap L:Nat),k+g=n1∧s14=.int .i64 k∧s3=.slice (some ⟨gB,0,none⟩) L cap∧L≤3*k∧Hid (wr.ownsRow w.heap.size 3 1 (.slice (some ⟨gB,0,none⟩) L cap) L ((B2x m.triangles k).map (.int .i64)))∧Hid (∀ x∈B2x m.triangles k,I64 x)∧Hid (w.heap.size<gB)∧Hid (Below w.heap.size w wr)∧Hid (wr.heap[w.heap.size]?=some (.cells #[.slice A0 n0 c0,.slice A1 n1 c1] 26)))
 case atStart=>exact ⟨0,w.heap.size+1,0,0,by omega,rfl,rfl,Nat.le_refl _,R00.o,(show ∀ x∈([]:List Int),I64 x from fun x hx=>by cases hx),Nat.lt_succ_self w.heap.size,B00.o,K00.o⟩
 case round =>
  clear R00 B00 K00
  obtain ⟨k,gB,cap,L,hk,rfl,rfl,hL,HR,HI,HG,HB,HK⟩:=hrel
  rcases Nat.lt_or_ge k n1 with hkn | hkn
  ·obtain ⟨g,rfl⟩:∃ g,gk=g+1:=⟨gk - 1,by omega⟩
   have hk':=A_ (show k+1+g=n1 by omega)
   have hki:(k:Int)<n1:=by omega
   have hki0:(0:Int)≤k:=by omega
   have hL':=A_ (show L+3≤3*(k+1) by omega)
   have C3:=A_ (show L+3≤maxLen by unfold maxLen;omega)
   have C4:=A_ (show (L+3)*8≤140737488355328 by omega)
   obtain ⟨be,of,t,rfl,hbl,hx1,e0,e1,e2,e3,e4,hag⟩:=TTri.elemA (HS.o.below HB.o) hkn
   have ITT:=A_ (show I64 t.a∧I64 t.b∧I64 t.c from by obtain ⟨_,_,i1,i2,i3,_,_⟩:=TTri.agg hag;exact ⟨i1,i2,i3⟩)
   have NX:=A_ (C5w hx1)
   clear hk hkn hx1 hag hL
   go_upto_region 5 with fail
   obtain ⟨W,hW⟩:∃ W,W=wr.alloc (.cells #[.int .i64 t.a,.int .i64 t.b,.int .i64 t.c,.int .i64 t.region,.int .i64 t.level] 93):=⟨_,rfl⟩
   have KT:=A_ (show W.heap[wr.heap.size]?=some (.cells #[.int .i64 t.a,.int .i64 t.b,.int .i64 t.c,.int .i64 t.region,.int .i64 t.level] 93) by rw[hW];exact heap_alloc_new wr _)
   have BT:=A_ (show Below wr.heap.size wr W by rw[hW];exact Below.box _)
   rw[← hW]
   clear hW e0 e1 e2 e3 e4
   obtain ⟨x0,-⟩:=B_ KT.o (j:=0) rfl
   obtain ⟨x1,-⟩:=B_ KT.o (j:=1) rfl
   obtain ⟨x2,-⟩:=B_ KT.o (j:=2) rfl
   simp at x0 x1 x2
   have lt_:wr.heap.size<W.heap.size:=E_ KT.o
   have RW:=A_ (J_ HR.o BT.o)
   have BWW:=A_ (Below.next HB.o BT.o)
   have hbase:w.heap.size≤W.heap.size:=BWW.o.size
   have KM:=A_ (A0d HK.o BT.o)
   go_wp2_with (at_builtin;refine A1f rfl _ _ 31 rfl w.heap.size 3 i0 (.int .i64 0) 1 8 Tryz.underlying31 hi hz0 hz1 hz2 rfl (by decide) gB L cap _ (by go_simp;done) (RW.o.alloc _) ⟨W.heap.size,0,none⟩ 3 3 [.int .i64 t.a,.int .i64 t.b,.int .i64 t.c] (by go_simp;done) rfl (A0k (heap_alloc_new W _)) (fun u hu=>by simp at hu;rcases hu with rfl | rfl | rfl<;>rfl) C3.o C4.o (A0p hbase _) ?_;intro g2 cap2 w3 hown hgr hor)
   have hgB:w.heap.size≤gB:=(World.ownsRow.lt HR.o _ rfl).1
   have BW3:=A_ ((BWW.o.alloc BWW.o.size (.cells #[.int .i64 t.a,.int .i64 t.b,.int .i64 t.c] 3)).grown hgr (by simp;omega) (fun k2 hk2=>by injection hk2 with h;omega))
   have R3:=A_ (show w3.ownsRow w.heap.size 3 1 (.slice (some ⟨g2,0,none⟩) (L+3) cap2) (L+3) ((B2x m.triangles (k+1)).map (.int .i64)) by rw[NX.o,List.map_append];exact hown)
   have I3:=A_ (show ∀ x∈B2x m.triangles (k+1),I64 x from fun x hx=>by
    rw[NX.o] at hx
    rcases List.mem_append.1 hx with h | h
    ·exact HI.o x h
    have:=ITT.o
    simp at h
    rcases h with rfl | rfl | rfl
    ·exact this.1
    ·exact this.2.1
    exact this.2.2)
   have G3:=A_ (show w.heap.size<g2 by have:=HG.o;have:=BT.o.size;rcases hor with h | h<;>(try simp at h)<;>omega)
   have K3:=A_ ((hgr.block w.heap.size (by simp;omega) (by intro e;injection e with e;have:=HG.o;omega)).trans (A0d KM.o (Below.box _)))
   clear hown hgr hor RW KM KT BT hgB
   go_wp2_with fail
   go_roundg g
   case measure=>omega
   case rel=>exact ⟨k+1,g2,cap2,L+3,hk'.o,by go_simp,rfl,hL'.o,R3.o,I3.o,G3.o,BW3.o,K3.o⟩
  obtain rfl:k=n1:=by omega
  obtain ⟨bsU,hU⟩:=A5a HR.o HI.o
  rw[show B2x m.triangles k=C1c m by unfold B2x C1c;rw[List.take_of_length_le (by rw[HL1.o];exact Nat.le_refl _)]] at hU
  have HU:=A_ hU
  have hL1000:=A_ (show L≤1000 by omega)
  obtain ⟨W1,hW1⟩:∃ W,W=wr:=⟨_,rfl⟩
  obtain ⟨y0,-⟩:=B_ HK.o (j:=0) rfl
  simp at y0
  have lw:w.heap.size<wr.heap.size:=E_ HK.o
  have R0:=A_ (Below.refl wr.heap.size wr)
  clear hk hkn hU HR HI HG hW1
  go_wp2_with fail
  go_loopg [31] n0 (fun g s wi=>∃ i:Nat,i+g=n0∧s=.int .i64 i∧Hid (Below wr.heap.size wr wi))
  case atStart=>exact ⟨0,by omega,rfl,R0.o⟩
  case round =>
  clear R0 y0
  obtain ⟨i,hi2,rfl,HBi⟩:=hrel
  rename World=>wi
  have NI:=A_ (Below.next HB.o HBi.o)
  rcases Nat.lt_or_ge i n0 with hin | hin
  ·obtain ⟨g,rfl⟩:∃ g,gk=g+1:=⟨gk - 1,by omega⟩
   have hi':=A_ (show i+1+g=n0 by omega)
   have hii:(i:Int)<n0:=by omega
   have hii0:(0:Int)≤i:=by omega
   have hic:(i:Int)≤c0:=by omega
   obtain ⟨be,of,x,X1,nX1,cX1,p1,X2,nX2,cX2,p2,X4,nX4,cX4,p4,X5,nX5,cX5,p5,rfl,hbl,hx1,e0,e1,e2,e3,e4,e5,hag⟩:=TPoint.elemA (HP.o.below NI.o) hin
   have HAG:=A_ hag
   have XI:=A_ hx1
   have OX:=A_ (List.all_eq_true.1 OK.o x (List.mem_of_getElem? hx1))
   have UX:=A_ (US.o i (by rw[HL0.o];exact hin))
   have IN:=A_ hin
   clear hi2 hin hx1 hag
   go_upto_region 10 with fail
   obtain ⟨W,hW⟩:∃ W,W=wi.alloc (.cells #[.bool x.x.num.neg,.slice X1 nX1 cX1,.slice X2 nX2 cX2,.bool x.y.num.neg,.slice X4 nX4 cX4,.slice X5 nX5 cX5] 38):=⟨_,rfl⟩
   have KX:=A_ (show W.heap[wi.heap.size]?=some (.cells #[.bool x.x.num.neg,.slice X1 nX1 cX1,.slice X2 nX2 cX2,.bool x.y.num.neg,.slice X4 nX4 cX4,.slice X5 nX5 cX5] 38) by rw[hW];exact heap_alloc_new wi _)
   have BX:=A_ (show Below wi.heap.size wi W by rw[hW];exact Below.box _)
   rw[← hW]
   clear hW e0 e1 e2 e3 e4 e5
   obtain ⟨x0,-⟩:=B_ KX.o (j:=0) rfl
   obtain ⟨x1,-⟩:=B_ KX.o (j:=1) rfl
   obtain ⟨x2,-⟩:=B_ KX.o (j:=2) rfl
   obtain ⟨x3,-⟩:=B_ KX.o (j:=3) rfl
   obtain ⟨x4,-⟩:=B_ KX.o (j:=4) rfl
   obtain ⟨x5,-⟩:=B_ KX.o (j:=5) rfl
   simp at x0 x1 x2 x3 x4 x5
   have lx:wi.heap.size<W.heap.size:=E_ KX.o
   go_wp2_with fail
   have C:=A0x _ x _ W (HAG.o.below BX.o)
   rw[OX.o] at C
   refine C.mono ?_
   clear C
   rintro _ u1 ⟨rfl,hb1⟩
   have HB1:=A_ (Below.next BX.o hb1)
   have KU1:=A_ hb1
   clear hb1
   go_wp2_with fail
   have C:=C4m (some ⟨gB,0,none⟩) L cap (C1c m) bsU i u1 ((HU.o.below HBi.o).below HB1.o) hL1000.o
   rw[UX.o] at C
   refine C.mono ?_
   clear C
   rintro _ u2 ⟨rfl,hb2⟩
   have HB2:=A_ (Below.next HB1.o hb2)
   have KU:=A_ (Below.next KU1.o hb2)
   clear hb2 x0 x1 x2 x3 x4 x5
   have KM:=A_ (A0d (A0d HK.o HBi.o) HB2.o)
   obtain ⟨y0,-⟩:=B_ KM.o (j:=0) rfl
   simp at y0
   have lm:w.heap.size<u2.heap.size:=E_ KM.o
   have NU:=A_ (Below.next NI.o HB2.o)
   have KX2:=A_ (show u2.heap[wi.heap.size]?=some (.cells #[.bool x.x.num.neg,.slice X1 nX1 cX1,.slice X2 nX2 cX2,.bool x.y.num.neg,.slice X4 nX4 cX4,.slice X5 nX5 cX5] 38) from (KU.o.block _ lx).trans KX.o)
   have R0:=A_ (Below.refl u2.heap.size u2)
   clear KX lx
   go_wp2_with fail
   go_loopg [50] i (fun g s wj=>∃ j:Nat,j+g=i∧s=.int .i64 j∧Hid (Below u2.heap.size u2 wj))
   case atStart=>exact ⟨0,by omega,rfl,R0.o⟩
   case round =>
   clear R0 y0 lm
   obtain ⟨j,hj2,rfl,HBj⟩:=hrel
   rename World=>wj
   have NJ:=A_ (Below.next NU.o HBj.o)
   rcases Nat.lt_or_ge j i with hji | hji
   ·obtain ⟨gh,rfl⟩:∃ gh,gk=gh+1:=⟨gk - 1,by omega⟩
    have hj':=A_ (show j+1+gh=i by omega)
    have hjii:(j:Int)<i:=by omega
    have hjj0:(0:Int)≤j:=by omega
    obtain ⟨be',of',q,Q1,nQ1,cQ1,q1,Q2,nQ2,cQ2,q2,Q4,nQ4,cQ4,q4,Q5,nQ5,cQ5,q5,hA',hblq,hq1,f0,f1,f2,f3,f4,f5,hqg⟩:=TPoint.elemA (HP.o.below NJ.o) (show j<n0 by have:=IN.o;omega)
    injection hA' with hA';injection hA' with t1 t2 _;subst t1;subst t2
    have HQG:=A_ hqg
    have NE:=A_ (show decide (x=q)=false from decide_eq_false (C9m ND.o XI.o hq1 hji))
    clear hj2 hji hq1 hqg
    go_upto_region 15 with fail
    obtain ⟨V,hV⟩:∃ V,V=wj.alloc (.cells #[.bool q.x.num.neg,.slice Q1 nQ1 cQ1,.slice Q2 nQ2 cQ2,.bool q.y.num.neg,.slice Q4 nQ4 cQ4,.slice Q5 nQ5 cQ5] 38):=⟨_,rfl⟩
    have KQ:=A_ (show V.heap[wj.heap.size]?=some (.cells #[.bool q.x.num.neg,.slice Q1 nQ1 cQ1,.slice Q2 nQ2 cQ2,.bool q.y.num.neg,.slice Q4 nQ4 cQ4,.slice Q5 nQ5 cQ5] 38) by rw[hV];exact heap_alloc_new wj _)
    have BV:=A_ (show Below wj.heap.size wj V by rw[hV];exact Below.box _)
    rw[← hV]
    clear hV f0 f1 f2 f3 f4 f5
    have KXV:=A_ (A0d (A0d KX2.o HBj.o) BV.o)
    obtain ⟨x0,-⟩:=B_ KXV.o (j:=0) rfl
    obtain ⟨z0,-⟩:=B_ KQ.o (j:=0) rfl
    obtain ⟨x1,-⟩:=B_ KXV.o (j:=1) rfl
    obtain ⟨z1,-⟩:=B_ KQ.o (j:=1) rfl
    obtain ⟨x2,-⟩:=B_ KXV.o (j:=2) rfl
    obtain ⟨z2,-⟩:=B_ KQ.o (j:=2) rfl
    obtain ⟨x3,-⟩:=B_ KXV.o (j:=3) rfl
    obtain ⟨z3,-⟩:=B_ KQ.o (j:=3) rfl
    obtain ⟨x4,-⟩:=B_ KXV.o (j:=4) rfl
    obtain ⟨z4,-⟩:=B_ KQ.o (j:=4) rfl
    obtain ⟨x5,-⟩:=B_ KXV.o (j:=5) rfl
    obtain ⟨z5,-⟩:=B_ KQ.o (j:=5) rfl
    simp at x0 z0 x1 z1 x2 z2 x3 z3 x4 z4 x5 z5
    have lq:wj.heap.size<V.heap.size:=E_ KQ.o
    have lx:wi.heap.size<V.heap.size:=E_ KXV.o
    have AX:=A_ (((HAG.o.below HB2.o).below HBj.o).below BV.o)
    go_wp2_with fail
    have C:=B8v _ _ x q _ _ V AX.o (HQG.o.below BV.o)
    rw[NE.o] at C
    refine C.mono ?_
    clear C
    rintro _ u3 ⟨rfl,hb3⟩
    have HB3:=A_ (Below.next (Below.next HBj.o BV.o) hb3)
    clear hb3 x0 z0 x1 z1 x2 z2 x3 z3 x4 z4 x5 z5
    go_wp2_with fail
    go_roundg gh
    case measure=>omega
    case rel=>exact ⟨j+1,hj'.o,by go_simp,HB3.o⟩
   obtain rfl:j=i:=by omega
   have BN:=A_ (Below.next (Below.next HBi.o HB2.o) HBj.o)
   have hii9:¬ ((j:Int)<j):=by omega
   clear hj2 hji
   go_wp2_with fail
   go_roundg g
   case measure=>omega
   case rel=>exact ⟨j+1,hi'.o,by go_simp,BN.o⟩
  obtain rfl:i=n0:=by omega
  have hii:¬ ((i:Int)<i):=by omega
  have K1:=A_ (A0d HK.o HBi.o)
  obtain ⟨y0,-⟩:=B_ K1.o (j:=0) rfl
  simp at y0
  have lw:w.heap.size<wi.heap.size:=E_ K1.o
  clear hi2 hin
  go_wp2_with fail
  have C:=A4g i 3 40 wi
  rw[WN.o] at C
  refine C.mono ?_
  clear C
  rintro _ w9 ⟨rfl,hb9⟩
  have N9:=A_ (Below.next NI.o hb9)
  clear hb9
  go_wp2
  go_ret
  exact ⟨rfl,N9.o⟩
end Go.Proofs.YtbhemnidcleaiaaGreat.X
namespace Go.Proofs.YtbhemnidcleaiaaGreat.X
open Go.RowKit Go.XB Go.XN
theorem D1r:(Tryz.prog.info? 23).map (fun i=>(i.zero,i.size,i.bytes))=some (some (.slice none 0 0),1,24):=by kernel_rfl
theorem D2a:(Tryz.prog.info? 237).map (fun i=>(i.zero,i.size,i.bytes))=some (some (.agg #[.bool false,.slice none 0 0,.slice none 0 0,.bool false,.slice none 0 0,.slice none 0 0,.bool false,.slice none 0 0,.slice none 0 0,.bool false,.slice none 0 0,.slice none 0 0]),12,224):=by kernel_rfl
structure STri (m:TMesh) (k:Nat) (t:TTri):Prop where
 it:(0≤t.a∧t.a<m.points.length)∧(0≤t.b∧t.b<m.points.length)∧(0≤t.c∧t.c<m.points.length)
 pr:A3v (A8g m t)=true
 rg:inB 0 t.region 2=true
 lv:inB 0 t.level 60=true
 fr:∀ s∈m.triangles.take k,C7f m s t=true
 cl:∀ i,i<3→∀ p∈m.points,A6a p (pk3 (A0c m.points t.a) (A0c m.points t.b) (A0c m.points t.c) i) (pk3 (A0c m.points t.a) (A0c m.points t.b) (A0c m.points t.c) (i+1))=false
theorem D3l {m:TMesh} {k:Nat} {t:TTri} (h:C9d m k t=true):STri m k t:=by
 unfold C9d at h
 simp only [Bool.and_eq_true,List.all_eq_true] at h
 obtain ⟨h1,h2,h3,h4,h5,h6,h7,h8,h9,h10⟩:=h
 have inb:∀ x:Int,inB 0 x ((m.points.length:Int) - 1)=true→0≤x∧x<m.points.length:=fun x hx=>by unfold inB at hx;simp at hx;omega
 have cln:∀ a b:Int,B7q m a b=true→∀ p∈m.points,A6a p (A0c m.points a) (A0c m.points b)=false:=fun a b hc p hp=>by
  unfold B7q at hc
  have:=List.all_eq_true.1 hc p hp
  simpa using this
 refine ⟨⟨inb _ h1,inb _ h2,inb _ h3⟩,h4,h5,h6,h7,fun i hi p hp=>?_⟩
 obtain rfl | rfl | rfl:i=0∨i=1∨i=2:=by omega
 ·exact cln _ _ h8 p hp
 ·exact cln _ _ h9 p hp
 exact cln _ _ h10 p hp
structure SMesh (m:TMesh):Prop where
 t1:1≤m.triangles.length
 t48:m.triangles.length≤48
 n3:3≤m.points.length
 n40:m.points.length≤40
 ok:m.points.all A0r=true
 us:∀ i,i<m.points.length→(C1c m).contains (i:Int)=true
 nd:m.points.Nodup
 tri:∀ k t,m.triangles[k]?=some t→STri m k t
theorem D1d {m:TMesh} (h:C2d m=true):SMesh m:=by
 unfold C2d at h
 simp only [Bool.and_eq_true,decide_eq_true_eq] at h
 obtain ⟨⟨h1,h2⟩,⟨h3,h4⟩,h5,h6,h7,h8⟩:=h
 refine ⟨h1,h2,h3,h4,h5,fun i hi=>List.all_eq_true.1 h6 i (List.mem_range.2 hi),h7,fun k t hk=>D3l ?_⟩
 have:=List.all_eq_true.1 h8 (t,k) (by rw[List.mem_zipIdx_iff_getElem?];simpa using hk)
 exact this
theorem D1e {m:TMesh} {s t:TTri} (h:C7f m s t=true) (hf:B3i (B5t m t) (B5t m s)=false):(!A5c (A0c m.points t.a) (A0c m.points t.b) (A0c m.points t.c) (A8g m s)&&!A5c (A0c m.points s.a) (A0c m.points s.b) (A0c m.points s.c) (A8g m t))=false:=by
 unfold C7f at h
 rw[hf] at h
 revert h
 cases A5c (A0c m.points t.a) (A0c m.points t.b) (A0c m.points t.c) (A8g m s)<;>cases A5c (A0c m.points s.a) (A0c m.points s.b) (A0c m.points s.c) (A8g m t)<;>simp
theorem B2v {α β:Type} {xs:List α} {f:α→β} {k:Nat} {x:α} (h:xs[k]?=some x):(xs.take (k+1)).map f=(xs.take k).map f++[f x]:=by
 rw[take_step h,List.map_append];rfl
attribute [local go_sem] O_ Go.XB.opAt P_ M_ Region.wanted yielded
attribute [local simp] P_ M_ MP.eq MP.agg MP.sl MP.box A0e
theorem C2t (v:Value) (m:TMesh) (b:List Nat) (w:World) (hx:Agg w v m b) (hm:SMesh m):Calls Tryz.prog 183 #[v] w (A0j w (.bool true)):=by
 have HXM:=A_ hx
 obtain ⟨A0,n0,c0,s0,A1,n1,c1,s1,rfl,hbs,hs0,hs1⟩:=TMesh.agg hx
 have HP:=A_ hs0;have HS:=A_ hs1;have HM:=A_ hm
 have HL0:=A_ hs0.1;have HL1:=A_ hs1.1
 have hn0:n0≤40:=by rw[← hs0.1];exact hm.n40
 have hn1:n1≤48:=by rw[← hs1.1];exact hm.t48
 have hn11:1≤n1:=by rw[← hs1.1];exact hm.t1
 have hn0i:(n0:Int)≤40:=by omega
 have hn1i:(n1:Int)≤48:=by omega
 have WN:=A_ (show inB 1 (n1:Int) 48=true by unfold inB;simp;omega)
 obtain ⟨i0,hi,hz0,hz1,hz2⟩:=info_parts D1r
 obtain ⟨j0,ji,jz0,jz1,jz2⟩:=info_parts D2a
 clear hx hbs hs0 hs1 hm
 go_enter Tryz.func183,Tryz.ntmps183
 go_upto_region 1 with fail
 obtain ⟨W0,hW0⟩:∃ W,W=w.alloc (.cells #[.slice A0 n0 c0,.slice A1 n1 c1] 26):=⟨_,rfl⟩
 have K0:=A_ (show W0.heap[w.heap.size]?=some (.cells #[.slice A0 n0 c0,.slice A1 n1 c1] 26) by rw[hW0];exact heap_alloc_new w _)
 have B0:=A_ (show Below w.heap.size w W0 by rw[hW0];exact Below.box _)
 rw[← hW0]
 clear hW0
 obtain ⟨y0,-⟩:=B_ K0.o (j:=0) rfl
 obtain ⟨y1,-⟩:=B_ K0.o (j:=1) rfl
 simp at y0 y1
 have lw0:w.heap.size<W0.heap.size:=E_ K0.o
 go_wp2_with fail
 have C:=A4g n1 1 48 W0
 rw[WN.o] at C
 refine C.mono ?_
 clear C
 rintro _ w1 ⟨rfl,hb1⟩
 have K1:=A_ (A0d K0.o hb1)
 have B1:=A_ (Below.next B0.o hb1)
 clear hb1 y0 y1 lw0
 obtain ⟨y0,-⟩:=B_ K1.o (j:=0) rfl
 obtain ⟨y1,-⟩:=B_ K1.o (j:=1) rfl
 simp at y0 y1
 have lw1:w.heap.size<w1.heap.size:=E_ K1.o
 go_wp2_with fail
 refine (B8w _ m _ w1 (HXM.o.below B1.o) HM.o.ok HM.o.nd HM.o.us HM.o.n3 HM.o.n40 HM.o.t48).mono ?_
 rintro _ w2 ⟨rfl,hb2⟩
 have K2:=A_ (A0d K1.o hb2)
 have B2:=A_ (Below.next B1.o hb2)
 clear hb2 y0 y1 lw1
 have PA0:=A_ (show PC (α:=List TPoint) w 23 ((w2.alloc (.cells #[] 23)).alloc (.cells #[] 237)) w2.heap.size 0 0 ((m.triangles.take 0).map (A8g m)) [] from (PC.start (α:=List TPoint) B2.o.size).below (Below.box _))
 have PB0:=A_ (show PC (α:=SBox) w 237 ((w2.alloc (.cells #[] 23)).alloc (.cells #[] 237)) (w2.heap.size+1) 0 0 ((m.triangles.take 0).map (B5t m)) [] by
  have:=PC.start (α:=SBox) (w:=w) (e:=237) (w2:=w2.alloc (.cells #[] 23)) (by simp;have:=B2.o.size;omega)
  rw[World.size_alloc] at this
  exact this)
 have KK0:=A_ (A0d (A0d K2.o (Below.box (.cells #[] 23))) (Below.box (.cells #[] 237)))
 have BB0:=A_ (show Below w.heap.size w ((w2.alloc (.cells #[] 23)).alloc (.cells #[] 237)) from Below.next (Below.next B2.o (Below.box _)) (Below.box _))
 have GG0:=A_ (show w2.heap.size≠w2.heap.size+1∧w2.heap.size∉([]:List Nat)∧w2.heap.size+1∉([]:List Nat)∧w.heap.size<w2.heap.size∧w.heap.size<w2.heap.size+1 from ⟨by omega,by simp,by simp,E_ K2.o,Nat.lt_succ_of_lt (E_ K2.o)⟩)
 obtain ⟨y0,-⟩:=B_ K2.o (j:=0) rfl
 obtain ⟨y1,-⟩:=B_ K2.o (j:=1) rfl
 simp at y0 y1
 have lw2:w.heap.size<w2.heap.size:=E_ K2.o
 go_wp2_with fail
 go_loopg [3,4,29] n1 (fun g s3 s4 s29 wr=>∃ (k gA cA gB cB:Nat) (zA zB:List Nat),k+g=n1∧s29=.int .i64 k∧s3=.slice (some ⟨gA,0,none⟩) k cA∧s4=.slice (some ⟨gB,0,none⟩) k cB∧Hid (PC (α:=List TPoint) w 23 wr gA k cA ((m.triangles.take k).map (A8g m)) zA)∧Hid (PC (α:=SBox) w 237 wr gB k cB ((m.triangles.take k).map (B5t m)) zB)∧Hid (gA≠gB∧gA∉zB∧gB∉zA∧w.heap.size<gA∧w.heap.size<gB)∧Hid (Below w.heap.size w wr)∧Hid (wr.heap[w.heap.size]?=some (.cells #[.slice A0 n0 c0,.slice A1 n1 c1] 26)))
 case atStart=>exact ⟨0,w2.heap.size,0,w2.heap.size+1,0,[],[],by omega,rfl,rfl,by go_simp,PA0.o,PB0.o,GG0.o,BB0.o,KK0.o⟩
 case round =>
  clear PA0 PB0 GG0 BB0 KK0 y0 y1 lw2 K0 K1 K2 B0 B1 B2
  obtain ⟨k,gA,cA,gB,cB,zA,zB,hk,rfl,rfl,rfl,HPA,HPB,HG,HB,HK⟩:=hrel
  rcases Nat.lt_or_ge k n1 with hkn | hkn
  ·obtain ⟨g,rfl⟩:∃ g,gk=g+1:=⟨gk - 1,by omega⟩
   have hk':=A_ (show k+1+g=n1 by omega)
   have hki:(k:Int)<n1:=by omega
   have hki0:(0:Int)≤k:=by omega
   have C3:=A_ (show k+1≤maxLen by unfold maxLen;omega)
   have C4:=A_ (show (k+1)*24≤140737488355328 by omega)
   have C5:=A_ (show (k+1)*224≤140737488355328 by omega)
   obtain ⟨be,of,t,rfl,hbl,hx1,e0,e1,e2,e3,e4,hag⟩:=TTri.elemA (HS.o.below HB.o) hkn
   have HT:=A_ (HM.o.tri k t hx1)
   have HTK:=A_ hx1
   have NXA:=A_ (B2v (f:=A8g m) hx1)
   have NXB:=A_ (B2v (f:=B5t m) hx1)
   clear hk hkn hx1 hag
   go_upto_region 8 with fail
   obtain ⟨V0,hV0⟩:∃ W,W=wr.alloc (.cells #[.int .i64 t.a,.int .i64 t.b,.int .i64 t.c,.int .i64 t.region,.int .i64 t.level] 93):=⟨_,rfl⟩
   have KT:=A_ (show V0.heap[wr.heap.size]?=some (.cells #[.int .i64 t.a,.int .i64 t.b,.int .i64 t.c,.int .i64 t.region,.int .i64 t.level] 93) by rw[hV0];exact heap_alloc_new wr _)
   have BV0:=A_ (show Below wr.heap.size wr V0 by rw[hV0];exact Below.box _)
   rw[← hV0]
   clear hV0 e0 e1 e2 e3 e4
   have KM0:=A_ (A0d HK.o BV0.o)
   have NV0:=A_ (Below.next HB.o BV0.o)
   obtain ⟨y0,-⟩:=B_ KM0.o (j:=0) rfl
   obtain ⟨y1,-⟩:=B_ KM0.o (j:=1) rfl
   simp at y0 y1
   have lm0:w.heap.size<V0.heap.size:=E_ KM0.o
   go_wp2_with fail
   refine (C1y _ m _ k t V0 (HXM.o.below NV0.o) HTK.o HT.o.it HM.o.ok HM.o.n40 HM.o.t48).mono ?_
   rintro _ V1 ⟨lA,ln,lc,lb,rfl,hsl,hnl,hb1⟩
   obtain rfl:3=ln:=hsl.1
   have HLL:=A_ (show Sl V1 lA 3 lc (A8g m t) lb from hsl)
   have HNL:=A_ hnl
   have BV1:=A_ (Below.next BV0.o hb1)
   have KT1:=A_ (A0d KT.o hb1)
   have sv0:=BV0.o.size
   clear hsl hnl hb1 y0 y1 lm0
   go_wp2_with fail
   have C:=A9v lA 3 lc (A8g m t) lb V1 HLL.o
   rw[HT.o.pr] at C
   refine C.mono ?_
   clear C
   rintro _ V2 ⟨rfl,hb2⟩
   have KT2:=A_ (A0d KT1.o hb2)
   have BV2:=A_ (Below.next BV1.o hb2)
   have HL2:=A_ (HLL.o.below hb2)
   clear hb2
   obtain ⟨x3,-⟩:=B_ KT2.o (j:=3) rfl
   obtain ⟨x4,-⟩:=B_ KT2.o (j:=4) rfl
   simp at x3 x4
   have lt2:wr.heap.size<V2.heap.size:=E_ KT2.o
   go_wp2_with fail
   have C:=A4g t.region 0 2 V2
   rw[HT.o.rg] at C
   refine C.mono ?_
   clear C
   rintro _ V3 ⟨rfl,hb3⟩
   obtain ⟨hc3,hf3⟩:=C_ hb3
   have BV3:=A_ (Below.next BV2.o hb3)
   have HL3:=A_ (HL2.o.below hb3)
   have hs3:=hb3.size
   have lt3:wr.heap.size<V3.heap.size:=by omega
   clear hb3
   go_wp2_with fail
   have C:=A4g t.level 0 60 V3
   rw[HT.o.lv] at C
   refine C.mono ?_
   clear C
   rintro _ V4 ⟨rfl,hb4⟩
   have BV4:=A_ (Below.next BV3.o hb4)
   have HL4:=A_ (HL3.o.below hb4)
   clear hb4 hc3 hf3 hs3 lt3 lt2 x3 x4
   go_wp2_with fail
   refine (B2w lA 3 lc (A8g m t) lb V4 HL4.o (A0c m.points t.a) rfl (by decide)).mono ?_
   rintro _ V5 ⟨vb,sb,rfl,hagb,hsb,hb5⟩
   obtain ⟨bx,hbx⟩:∃ bx,B5t m t=bx:=⟨_,rfl⟩
   rw[show C1v (A0c m.points t.a) (A8g m t)=bx from hbx] at hagb
   have EBX:=A_ hbx
   obtain ⟨X1,nX1,cX1,sX1,X2,nX2,cX2,sX2,X4,nX4,cX4,sX4,X5,nX5,cX5,sX5,X7,nX7,cX7,sX7,X8,nX8,cX8,sX8,X10,nX10,cX10,sX10,X11,nX11,cX11,sX11,rfl,rfl,g1,g2,g4,g5,g7,g8,g10,g11⟩:=SBox.agg hagb
   have AB:=A_ (SBox.mkAgg (x:=bx) g1 g2 g4 g5 g7 g8 g10 g11)
   have SB:=A_ hsb
   have BV5:=A_ (Below.next BV4.o hb5)
   have HL5:=A_ (HL4.o.below hb5)
   clear hagb hsb hb5 hbx g1 g2 g4 g5 g7 g8 g10 g11
   go_upto_region 12 with fail
   obtain ⟨W1,hW1⟩:∃ W,W=V5.alloc (.cells #[.bool bx.left.num.neg,.slice X1 nX1 cX1,.slice X2 nX2 cX2,.bool bx.right.num.neg,.slice X4 nX4 cX4,.slice X5 nX5 cX5,.bool bx.low.num.neg,.slice X7 nX7 cX7,.slice X8 nX8 cX8,.bool bx.high.num.neg,.slice X10 nX10 cX10,.slice X11 nX11 cX11] 237):=⟨_,rfl⟩
   have KB:=A_ (show W1.heap[V5.heap.size]?=some (.cells #[.bool bx.left.num.neg,.slice X1 nX1 cX1,.slice X2 nX2 cX2,.bool bx.right.num.neg,.slice X4 nX4 cX4,.slice X5 nX5 cX5,.bool bx.low.num.neg,.slice X7 nX7 cX7,.slice X8 nX8 cX8,.bool bx.high.num.neg,.slice X10 nX10 cX10,.slice X11 nX11 cX11] 237) by rw[hW1];exact heap_alloc_new V5 _)
   have BW1:=A_ (show Below V5.heap.size V5 W1 by rw[hW1];exact Below.box _)
   rw[← hW1]
   clear hW1
   have NW1:=A_ (show Below wr.heap.size wr W1 from Below.next BV5.o BW1.o)
   have HLW:=A_ (HL5.o.below BW1.o)
   have ABW:=A_ (AB.o.below BW1.o)
   have PAW:=A_ (HPA.o.below NW1.o)
   have PBW:=A_ (HPB.o.below NW1.o)
   have NWW:=A_ (Below.next HB.o NW1.o)
   have KMW:=A_ (A0d HK.o NW1.o)
   obtain ⟨bsA,hsA,-⟩:=PAW.o.sl
   obtain ⟨bsB,hsB,-⟩:=PBW.o.sl
   have HSA:=A_ hsA;have HSB:=A_ hsB
   have R0:=A_ (Below.refl W1.heap.size W1)
   have LKN:=A_ (show k≤n1 by omega)
   clear hsA hsB KT KT1 KT2 KM0
   go_wp2_with fail
   go_loopg [56] k (fun g s wi=>∃ i:Nat,i+g=k∧s=.int .i64 i∧Hid (Below W1.heap.size W1 wi))
   case atStart=>exact ⟨0,by omega,rfl,R0.o⟩
   case round =>
   clear R0
   obtain ⟨i,hi2,rfl,HBi⟩:=hrel
   rename World=>wi
   rcases Nat.lt_or_ge i k with hik | hik
   ·obtain ⟨gh,rfl⟩:∃ gh,gk=gh+1:=⟨gk - 1,by omega⟩
    have hi':=A_ (show i+1+gh=k by omega)
    have hiki:(i:Int)<k:=by omega
    have hik0:(0:Int)≤i:=by omega
    obtain ⟨s,hs⟩:∃ s,m.triangles[i]?=some s:=⟨_,List.getElem?_eq_getElem (by rw[HL1.o];have:=LKN.o;omega)⟩
    have FR:=A_ (HT.o.fr s (List.mem_of_getElem? (i:=i) (by rw[List.getElem?_take_of_lt hik];exact hs)))
    have TS:=A_ (HM.o.tri i s hs)
    have GS1:((m.triangles.take k).map (A8g m))[i]?=some (A8g m s):=by rw[List.getElem?_map,List.getElem?_take_of_lt hik,hs];rfl
    have GS2:((m.triangles.take k).map (B5t m))[i]?=some (B5t m s):=by rw[List.getElem?_map,List.getElem?_take_of_lt hik,hs];rfl
    obtain ⟨ba,oa,l0,cs,fs,hA',hba,hl0,hcs,hat,-⟩:=Sl.getAt (HSA.o.below HBi.o) hik
    cases hA'
    obtain rfl:A8g m s=l0:=by rw[GS1] at hl0;exact Option.some.inj hl0
    obtain ⟨Ao,no,co,rfl,hso⟩:=hat
    obtain rfl:3=no:=hso.1
    have eo:wi.cell? ⟨gA,i,none⟩=some (.slice Ao 3 co):=by
     have:=hcs 0 _ rfl
     change wi.cell? ⟨gA,0+(i*1+0),none⟩=_ at this
     simpa using this
    have HSO:=A_ hso
    obtain ⟨bb,ob,y,Y1,nY1,cY1,sY1,Y2,nY2,cY2,sY2,Y4,nY4,cY4,sY4,Y5,nY5,cY5,sY5,Y7,nY7,cY7,sY7,Y8,nY8,cY8,sY8,Y10,nY10,cY10,sY10,Y11,nY11,cY11,sY11,hB',hbb,hy0,f0,f1,f2,f3,f4,f5,f6,f7,f8,f9,f10,f11,hyg⟩:=SBox.elemA (HSB.o.below HBi.o) hik
    cases hB'
    obtain rfl:B5t m s=y:=by rw[GS2] at hy0;exact Option.some.inj hy0
    obtain ⟨by_,hby⟩:∃ y,B5t m s=y:=⟨_,rfl⟩
    rw[hby] at hyg f0 f3 f6 f9
    simp only [Nat.zero_add] at f0 f1 f2 f3 f4 f5 f6 f7 f8 f9 f10 f11
    have HYG:=A_ hyg
    have FF:=A_ (show B3i bx by_=false→(!A5c (A0c m.points t.a) (A0c m.points t.b) (A0c m.points t.c) (A8g m s)&&!A5c (A0c m.points s.a) (A0c m.points s.b) (A0c m.points s.c) (A8g m t))=false from fun hf=>D1e FR.o (by rw[EBX.o,hby];exact hf))
    have KBi:=A_ (A0d KB.o HBi.o)
    clear hi2 hik hs GS1 GS2 hl0 hcs hso hy0 hyg hby
    go_upto_region 15 with fail
    obtain ⟨d0,-⟩:=B_ KBi.o (j:=0) rfl
    obtain ⟨d1,-⟩:=B_ KBi.o (j:=1) rfl
    obtain ⟨d2,-⟩:=B_ KBi.o (j:=2) rfl
    obtain ⟨d3,-⟩:=B_ KBi.o (j:=3) rfl
    obtain ⟨d4,-⟩:=B_ KBi.o (j:=4) rfl
    obtain ⟨d5,-⟩:=B_ KBi.o (j:=5) rfl
    obtain ⟨d6,-⟩:=B_ KBi.o (j:=6) rfl
    obtain ⟨d7,-⟩:=B_ KBi.o (j:=7) rfl
    obtain ⟨d8,-⟩:=B_ KBi.o (j:=8) rfl
    obtain ⟨d9,-⟩:=B_ KBi.o (j:=9) rfl
    obtain ⟨d10,-⟩:=B_ KBi.o (j:=10) rfl
    obtain ⟨d11,-⟩:=B_ KBi.o (j:=11) rfl
    simp at d0 d1 d2 d3 d4 d5 d6 d7 d8 d9 d10 d11
    have lb5:V5.heap.size<wi.heap.size:=E_ KBi.o
    cases hf:B3i bx by_
    ·have HF:=A_ hf
     clear hf
     refine A0l ?_
     iterate 5
      refine D_ _ ?_
     refine F_ (MP.eq (.bool false)) ?_ ?_
     ·intro yq zq wq hC hd
      obtain ⟨hcq,hfq⟩:=C_ hC
      simp at hd
      refine H_ ?_
      have C:=B6a _ _ bx by_ _ _ wq ((ABW.o.below HBi.o).below hC) (HYG.o.below hC)
      rw[HF.o] at C
      exact A0t C
     iterate 4
      refine D_ _ ?_
     refine F_ (MP.eq (.bool false)) ?_ ?_
     ·intro yq zq wq hC hd
      obtain ⟨hcq,hfq⟩:=C_ hC
      simp at hd
      refine H_ ?_
      have C:=C1m lA lc _ _ _ lb Ao co _ _ _ _ wq ((HLW.o.below HBi.o).below hC) (HSO.o.below hC) HT.o.pr TS.o.pr
      rw[show (!A5c (A0c m.points t.a) (A0c m.points t.b) (A0c m.points t.c) [A0c m.points s.a,A0c m.points s.b,A0c m.points s.c]&&!A5c (A0c m.points s.a) (A0c m.points s.b) (A0c m.points s.c) [A0c m.points t.a,A0c m.points t.b,A0c m.points t.c])=false from FF.o HF.o] at C
      exact A0t C
     refine D_ _ ?_
     intro yq zq wa hC hd (hdis:Hid _)
     simp at hd
     have BN:=A_ (Below.next HBi.o hC)
     go_simp
     clear hd hdis
     go_wp2_with fail
     go_roundg gh
     case measure=>omega
     case rel=>exact ⟨i+1,hi'.o,by go_simp,BN.o⟩
    have HF:=A_ hf
    clear hf
    refine A0l ?_
    iterate 5
     refine D_ _ ?_
    refine F_ (MP.eq (.bool true)) ?_ ?_
    ·intro yq zq wq hC hd
     obtain ⟨hcq,hfq⟩:=C_ hC
     simp at hd
     refine H_ ?_
     have C:=B6a _ _ bx by_ _ _ wq ((ABW.o.below HBi.o).below hC) (HYG.o.below hC)
     rw[HF.o] at C
     exact A0t C
    iterate 2
     refine D_ _ ?_
    iterate 3
     apply A2g
     case h =>
      intro yq zq wq hC hd
      simp at hd
      go_simp
      first | done | (simp[undef];done)
    refine D_ _ ?_
    intro yq zq wa hC hd (hdis:Hid _)
    simp at hd
    have BN:=A_ (Below.next HBi.o hC)
    go_simp
    clear hd hdis
    go_wp2_with fail
    go_roundg gh
    case measure=>omega
    case rel=>exact ⟨i+1,hi'.o,by go_simp,BN.o⟩
   obtain rfl:k=i:=by omega
   have hii9:¬ ((k:Int)<k):=by omega
   have R0:=A_ HBi.o
   clear hi2 hik
   go_wp2_with fail
   go_loopg [76] 3 (fun g s wi=>∃ i:Nat,i+g=3∧s=.int .i64 i∧Hid (Below W1.heap.size W1 wi))
   case atStart=>exact ⟨0,rfl,rfl,R0.o⟩
   case round =>
   clear R0 HBi
   clear wi
   obtain ⟨i,hi2,rfl,HBi⟩:=hrel
   rename World=>wi
   rcases Nat.lt_or_ge i 3 with hi3 | hi3
   ·obtain ⟨gh,rfl⟩:∃ gh,gk=gh+1:=⟨gk - 1,by omega⟩
    have hi':=A_ (show i+1+gh=3 by omega)
    have hii:(i:Int)<3:=by omega
    have hii0:(0:Int)≤i:=by omega
    have HI3:=A_ hi3
    have KMi:=A_ (A0d KMW.o HBi.o)
    obtain ⟨y0,-⟩:=B_ KMi.o (j:=0) rfl
    simp at y0
    have lm:w.heap.size<wi.heap.size:=E_ KMi.o
    have R0:=A_ HBi.o
    clear hi2 hi3 KMi
    go_wp2_with fail
    go_loopg [82] n0 (fun g s wj=>∃ q:Nat,q+g=n0∧s=.int .i64 q∧Hid (Below W1.heap.size W1 wj))
    case atStart=>exact ⟨0,by omega,rfl,R0.o⟩
    case round =>
    clear R0 y0 lm
    obtain ⟨q,hq2,rfl,HBj⟩:=hrel
    rename World=>wj
    have NJ:=A_ (Below.next NWW.o HBj.o)
    rcases Nat.lt_or_ge q n0 with hqn | hqn
    ·obtain ⟨gj,rfl⟩:∃ gj,gk=gj+1:=⟨gk - 1,by omega⟩
     have hq':=A_ (show q+1+gj=n0 by omega)
     have hqi:(q:Int)<n0:=by omega
     have hq0:(0:Int)≤q:=by omega
     obtain ⟨j,hj⟩:∃ j,j=(i+1) % 3:=⟨_,rfl⟩
     have hj3:j<3:=by omega
     have hji:(j:Int)<3:=by omega
     have hj0:(0:Int)≤j:=by omega
     have hi3:=HI3.o
     have hwi:IntKind.i64.wrap ((i:Int)+1)=(i:Int)+1:=by rw[IntKind.wrap_i64];omega
     have hwj:IntKind.i64.wrap (j:Int)=(j:Int):=by rw[IntKind.wrap_i64];omega
     have hm1:Int.tmod ((i:Int)+1) 3=j:=by rw[Int.tmod_eq_emod_of_nonneg (by omega)];omega
     obtain ⟨bp,op,x,P1,nP1,cP1,sP1,P2,nP2,cP2,sP2,P4,nP4,cP4,sP4,P5,nP5,cP5,sP5,rfl,hbp,hx1,e0,e1,e2,e3,e4,e5,hag⟩:=TPoint.elemA (HP.o.below NJ.o) hqn
     obtain ⟨bl,ol,u,Q1,nQ1,cQ1,sQ1,Q2,nQ2,cQ2,sQ2,Q4,nQ4,cQ4,sQ4,Q5,nQ5,cQ5,sQ5,rfl,hbl1,hu1,f0,f1,f2,f3,f4,f5,hug⟩:=TPoint.elemA (HLW.o.below HBj.o) hi3
     obtain ⟨bl',ol',z,R1,nR1,cR1,sR1,R2,nR2,cR2,sR2,R4,nR4,cR4,sR4,R5,nR5,cR5,sR5,hA',hbl2,hz1,g0,g1,g2,g3,g4,g5,hzg⟩:=TPoint.elemA (HLW.o.below HBj.o) hj3
     injection hA' with hA';injection hA' with t1 t2 _;subst t1;subst t2
     have CL:=A_ (HT.o.cl i hi3 x (List.mem_of_getElem? hx1))
     rw[show pk3 (A0c m.points t.a) (A0c m.points t.b) (A0c m.points t.c) i=u by unfold pk3;rw[Nat.mod_eq_of_lt hi3,List.getD_eq_getElem?_getD,show [A0c m.points t.a,A0c m.points t.b,A0c m.points t.c][i]?=some u from hu1];rfl,
      show pk3 (A0c m.points t.a) (A0c m.points t.b) (A0c m.points t.c) (i+1)=z by unfold pk3;rw[← hj,List.getD_eq_getElem?_getD,show [A0c m.points t.a,A0c m.points t.b,A0c m.points t.c][j]?=some z from hz1];rfl] at CL
     have HAG:=A_ hag;have HUG:=A_ hug;have HZG:=A_ hzg
     clear hq2 hqn hx1 hu1 hz1 hag hug hzg hj hbl2 hi3
     go_upto_region 24 with fail
     obtain ⟨X0,hX0⟩:∃ W,W=wj.alloc (.cells #[.bool x.x.num.neg,.slice P1 nP1 cP1,.slice P2 nP2 cP2,.bool x.y.num.neg,.slice P4 nP4 cP4,.slice P5 nP5 cP5] 38):=⟨_,rfl⟩
     have KX:=A_ (show X0.heap[wj.heap.size]?=some (.cells #[.bool x.x.num.neg,.slice P1 nP1 cP1,.slice P2 nP2 cP2,.bool x.y.num.neg,.slice P4 nP4 cP4,.slice P5 nP5 cP5] 38) by rw[hX0];exact heap_alloc_new wj _)
     have BX:=A_ (show Below wj.heap.size wj X0 by rw[hX0];exact Below.box _)
     rw[← hX0]
     clear hX0 e0 e1 e2 e3 e4 e5
     obtain ⟨x0,-⟩:=B_ KX.o (j:=0) rfl
     obtain ⟨x1,-⟩:=B_ KX.o (j:=1) rfl
     obtain ⟨x2,-⟩:=B_ KX.o (j:=2) rfl
     obtain ⟨x3,-⟩:=B_ KX.o (j:=3) rfl
     obtain ⟨x4,-⟩:=B_ KX.o (j:=4) rfl
     obtain ⟨x5,-⟩:=B_ KX.o (j:=5) rfl
     simp at x0 x1 x2 x3 x4 x5
     have lx:wj.heap.size<X0.heap.size:=E_ KX.o
     have lbl:bl<X0.heap.size:=by have:=BX.o.size;omega
     have r0:X0.cell? ⟨bl,ol+i*6,none⟩=some (.bool u.x.num.neg):=(BX.o.cell (p:=⟨bl,_,none⟩) hbl1).trans f0
     have r1:X0.cell? ⟨bl,ol+i*6+1,none⟩=some (.slice Q1 nQ1 cQ1):=(BX.o.cell (p:=⟨bl,_,none⟩) hbl1).trans f1
     have r2:X0.cell? ⟨bl,ol+i*6+2,none⟩=some (.slice Q2 nQ2 cQ2):=(BX.o.cell (p:=⟨bl,_,none⟩) hbl1).trans f2
     have r3:X0.cell? ⟨bl,ol+i*6+3,none⟩=some (.bool u.y.num.neg):=(BX.o.cell (p:=⟨bl,_,none⟩) hbl1).trans f3
     have r4:X0.cell? ⟨bl,ol+i*6+4,none⟩=some (.slice Q4 nQ4 cQ4):=(BX.o.cell (p:=⟨bl,_,none⟩) hbl1).trans f4
     have r5:X0.cell? ⟨bl,ol+i*6+5,none⟩=some (.slice Q5 nQ5 cQ5):=(BX.o.cell (p:=⟨bl,_,none⟩) hbl1).trans f5
     have v0:X0.cell? ⟨bl,ol+j*6,none⟩=some (.bool z.x.num.neg):=(BX.o.cell (p:=⟨bl,_,none⟩) hbl1).trans g0
     have v1:X0.cell? ⟨bl,ol+j*6+1,none⟩=some (.slice R1 nR1 cR1):=(BX.o.cell (p:=⟨bl,_,none⟩) hbl1).trans g1
     have v2:X0.cell? ⟨bl,ol+j*6+2,none⟩=some (.slice R2 nR2 cR2):=(BX.o.cell (p:=⟨bl,_,none⟩) hbl1).trans g2
     have v3:X0.cell? ⟨bl,ol+j*6+3,none⟩=some (.bool z.y.num.neg):=(BX.o.cell (p:=⟨bl,_,none⟩) hbl1).trans g3
     have v4:X0.cell? ⟨bl,ol+j*6+4,none⟩=some (.slice R4 nR4 cR4):=(BX.o.cell (p:=⟨bl,_,none⟩) hbl1).trans g4
     have v5:X0.cell? ⟨bl,ol+j*6+5,none⟩=some (.slice R5 nR5 cR5):=(BX.o.cell (p:=⟨bl,_,none⟩) hbl1).trans g5
     clear f0 f1 f2 f3 f4 f5 g0 g1 g2 g3 g4 g5
     refine A0l ?_
     iterate 11
      refine D_ _ ?_
     refine F_ (MP.eq (.bool false)) ?_ ?_
     ·intro yq zq wq hC hd
      obtain ⟨hcq,hfq⟩:=C_ hC
      simp at hd
      refine H_ ?_
      have C:=B8g _ _ _ x u z _ _ _ wq ((HAG.o.below BX.o).below hC) ((HUG.o.below BX.o).below hC) ((HZG.o.below BX.o).below hC)
      rw[CL.o] at C
      exact A0t C
     intro yq zq wa hC hd (hdis:Hid _)
     simp at hd
     have BN:=A_ (Below.next (Below.next HBj.o BX.o) hC)
     go_simp
     clear hd hdis
     go_wp2_with fail
     go_roundg gj
     case measure=>omega
     case rel=>exact ⟨q+1,hq'.o,by go_simp,BN.o⟩
    obtain rfl:q=n0:=by omega
    have hii8:¬ ((q:Int)<q):=by omega
    clear hq2 hqn
    go_wp2_with fail
    go_roundg gh
    case measure=>omega
    case rel=>exact ⟨i+1,hi'.o,by go_simp,HBj.o⟩
   obtain rfl:i=3:=by omega
   clear hi2 hi3
   have HPAi:=A_ (PAW.o.below HBi.o)
   have HPBi:=A_ (PBW.o.below HBi.o)
   have NI:=A_ (Below.next NWW.o HBi.o)
   have ATL:=A_ (show Dat.at_ (wi.alloc (.cells #[.slice lA 3 lc] 23)) [.slice lA 3 lc] (A8g m t) lb from ⟨lA,3,lc,rfl,(HLW.o.below HBi.o).below (Below.box _)⟩)
   have GA1:=HPA.o.lt;have GB1:=HPB.o.lt
   have LBL:=A_ (show ∀ b∈lb,wr.heap.size≤b from fun b hb=>by have:=HNL.o b hb;have:=sv0;omega)
   have WR0:=HB.o.size
   have LBR:=A_ (show ∀ b∈lb,w.heap.size≤b∧b≠gA from fun b hb=>by have:=LBL.o b hb;omega)
   have LBT:=A_ (show ∀ b∈lb,b<W1.heap.size from HLW.o.lt)
   have hwi:wr.heap.size≤wi.heap.size:=by have:=NW1.o.size;have:=HBi.o.size;omega
   have HPAe:=A_ (HPAi.o.below (Below.box (.cells #[.slice lA 3 lc] 23)))
   have hwe:w.heap.size≤(wi.alloc (.cells #[.slice lA 3 lc] 23)).heap.size:=by simp;omega
   go_upto_region 29 with (at_builtin;refine A7f (α:=List TPoint) rfl _ _ 234 rfl 23 i0 (.slice none 0 0) 24 Tryz.underlying234 hi hz0 hz1 hz2 rfl HPAe.o hwe (by go_simp;done) ⟨wi.heap.size,0,none⟩ 1 [.slice lA 3 lc] (A8g m t) lb (by go_simp;done) (A0k (heap_alloc_new wi _)) ATL.o LBR.o C3.o C4.o ?_;intro gA' cA' w3 hpA hgrA horA)
   have hsA3:=hgrA.size
   have hs3:wi.heap.size+1≤w3.heap.size:=by simpa using hsA3
   have hv5:=BW1.o.size
   have hw1i:=HBi.o.size
   have hgne:gA≠gB:=HG.o.1
   have KBe:=A_ (A0d (A0d KB.o HBi.o) (Below.box (.cells #[.slice lA 3 lc] 23)))
   have hv5r:wr.heap.size≤V5.heap.size:=BV5.o.size
   have KB3:=A_ ((hgrA.block V5.heap.size (by have:=E_ KBe.o;exact this) (by intro e;injection e with e;omega)).trans KBe.o)
   have KMe:=A_ (A0d (A0d KMW.o HBi.o) (Below.box (.cells #[.slice lA 3 lc] 23)))
   have hgAw:w.heap.size<gA:=HG.o.2.2.2.1
   have hgBw:w.heap.size<gB:=HG.o.2.2.2.2
   have KM3:=A_ ((hgrA.block w.heap.size (by have:=E_ KMe.o;exact this) (by intro e;injection e with e;omega)).trans KMe.o)
   have PB3:=A_ ((HPBi.o.below (Below.box (.cells #[.slice lA 3 lc] 23))).keep hgrA hgne HG.o.2.1)
   have PA3:=A_ hpA
   have NB3:=A_ ((NI.o.alloc NI.o.size (.cells #[.slice lA 3 lc] 23)).grown hgrA (by have:=NI.o.size;simp;omega) (fun k2 hk2=>by injection hk2 with h;omega))
   have ABe:=A_ ((ABW.o.below HBi.o).below (Below.box (.cells #[.slice lA 3 lc] 23)))
   have AB3:=A_ (ABe.o.keep (w':=w3) (fun b hb=>hgrA.block b (ABe.o.lt b hb) (by intro e;injection e with e;have:=LBL.o b (SB.o b hb);omega)))
   have HOA:=A_ (show gA'=gA∨gA'=wi.heap.size+1 by simpa using horA)
   obtain ⟨AC1,ac2,AC3⟩:=AB3.o
   have ac4:AC1=[.bool bx.left.num.neg,.slice X1 nX1 cX1,.slice X2 nX2 cX2,.bool bx.right.num.neg,.slice X4 nX4 cX4,.slice X5 nX5 cX5,.bool bx.low.num.neg,.slice X7 nX7 cX7,.slice X8 nX8 cX8,.bool bx.high.num.neg,.slice X10 nX10 cX10,.slice X11 nX11 cX11]:=by
    have:=congrArg (fun v=>match v with | .agg c=>c.toList | _=>[]) ac2
    simpa using this.symm
   rw[ac4] at AC3
   have AT3:=A_ (Dat.keep AC3 (fun b hb=>(Below.box (w:=w3) (.cells #[.bool bx.left.num.neg,.slice X1 nX1 cX1,.slice X2 nX2 cX2,.bool bx.right.num.neg,.slice X4 nX4 cX4,.slice X5 nX5 cX5,.bool bx.low.num.neg,.slice X7 nX7 cX7,.slice X8 nX8 cX8,.bool bx.high.num.neg,.slice X10 nX10 cX10,.slice X11 nX11 cX11] 237)).block b (Dat.lt AC3 b hb)))
   have SBR:=A_ (show ∀ b∈_,w.heap.size≤b∧b≠gB from fun b hb=>by have:=LBL.o b (SB.o b hb);omega)
   clear ac2 ac4 AC3 hpA hgrA horA hsA3
   clear AC1
   obtain ⟨d0,-⟩:=B_ KB3.o (j:=0) rfl
   obtain ⟨d1,-⟩:=B_ KB3.o (j:=1) rfl
   obtain ⟨d2,-⟩:=B_ KB3.o (j:=2) rfl
   obtain ⟨d3,-⟩:=B_ KB3.o (j:=3) rfl
   obtain ⟨d4,-⟩:=B_ KB3.o (j:=4) rfl
   obtain ⟨d5,-⟩:=B_ KB3.o (j:=5) rfl
   obtain ⟨d6,-⟩:=B_ KB3.o (j:=6) rfl
   obtain ⟨d7,-⟩:=B_ KB3.o (j:=7) rfl
   obtain ⟨d8,-⟩:=B_ KB3.o (j:=8) rfl
   obtain ⟨d9,-⟩:=B_ KB3.o (j:=9) rfl
   obtain ⟨d10,-⟩:=B_ KB3.o (j:=10) rfl
   obtain ⟨d11,-⟩:=B_ KB3.o (j:=11) rfl
   simp at d0 d1 d2 d3 d4 d5 d6 d7 d8 d9 d10 d11
   have l5:V5.heap.size<w3.heap.size:=E_ KB3.o
   have PBe:=A_ (PB3.o.below (Below.box (.cells #[.bool bx.left.num.neg,.slice X1 nX1 cX1,.slice X2 nX2 cX2,.bool bx.right.num.neg,.slice X4 nX4 cX4,.slice X5 nX5 cX5,.bool bx.low.num.neg,.slice X7 nX7 cX7,.slice X8 nX8 cX8,.bool bx.high.num.neg,.slice X10 nX10 cX10,.slice X11 nX11 cX11] 237)))
   have hwf:w.heap.size≤(w3.alloc (.cells #[.bool bx.left.num.neg,.slice X1 nX1 cX1,.slice X2 nX2 cX2,.bool bx.right.num.neg,.slice X4 nX4 cX4,.slice X5 nX5 cX5,.bool bx.low.num.neg,.slice X7 nX7 cX7,.slice X8 nX8 cX8,.bool bx.high.num.neg,.slice X10 nX10 cX10,.slice X11 nX11 cX11] 237)).heap.size:=by simp;omega
   go_wp2_with (at_builtin;refine A7f (α:=SBox) rfl _ _ 235 rfl 237 j0 (.agg #[.bool false,.slice none 0 0,.slice none 0 0,.bool false,.slice none 0 0,.slice none 0 0,.bool false,.slice none 0 0,.slice none 0 0,.bool false,.slice none 0 0,.slice none 0 0]) 224 Tryz.underlying235 ji jz0 jz1 jz2 rfl PBe.o hwf (by go_simp;done) ⟨w3.heap.size,0,none⟩ 1 [.bool bx.left.num.neg,.slice X1 nX1 cX1,.slice X2 nX2 cX2,.bool bx.right.num.neg,.slice X4 nX4 cX4,.slice X5 nX5 cX5,.bool bx.low.num.neg,.slice X7 nX7 cX7,.slice X8 nX8 cX8,.bool bx.high.num.neg,.slice X10 nX10 cX10,.slice X11 nX11 cX11] bx _ (by go_simp;done) (A0k (heap_alloc_new w3 _)) AT3.o SBR.o C3.o C5.o ?_;intro gB' cB' w4 hpB hgrB horB)
   have hsB4:w3.heap.size+1≤w4.heap.size:=by have:=hgrB.size;simpa using this
   have HOB:gB'=gB∨gB'=w3.heap.size+1:=by simpa using horB
   have hoa:=HOA.o
   have gA3:=PA3.o.lt
   have zA3:=HPA.o.zlt;have zB3:=HPB.o.zlt
   have nlb:∀ x,x∈lb→wr.heap.size≤x∧x<W1.heap.size:=fun x hx=>⟨LBL.o x hx,LBT.o x hx⟩
   have PB4:=A_ (show PC (α:=SBox) w 237 w4 gB' (k+1) cB' ((m.triangles.take (k+1)).map (B5t m)) _ by rw[NXB.o,EBX.o];exact hpB)
   have gBA:gB≠gA':=by rcases hoa with h | h<;>omega
   have PA4:=A_ (show PC (α:=List TPoint) w 23 w4 gA' (k+1) cA' ((m.triangles.take (k+1)).map (A8g m)) (zA++lb) by
    rw[NXA.o]
    refine (PA3.o.below (Below.box _)).keep hgrB gBA ?_
    intro hm
    rcases List.mem_append.1 hm with h | h
    ·exact HG.o.2.2.1 h
    have:=nlb _ h;omega)
   have NB4:=A_ ((NB3.o.alloc NB3.o.size (.cells #[.bool bx.left.num.neg,.slice X1 nX1 cX1,.slice X2 nX2 cX2,.bool bx.right.num.neg,.slice X4 nX4 cX4,.slice X5 nX5 cX5,.bool bx.low.num.neg,.slice X7 nX7 cX7,.slice X8 nX8 cX8,.bool bx.high.num.neg,.slice X10 nX10 cX10,.slice X11 nX11 cX11] 237)).grown hgrB (by have:=NB3.o.size;simp;omega) (fun k2 hk2=>by injection hk2 with h;omega))
   have KM4:=A_ ((hgrB.block w.heap.size (by have:=E_ KM3.o;simp;omega) (by intro e;injection e with e;omega)).trans (A0d KM3.o (Below.box _)))
   have HG4:=A_ (show gA'≠gB'∧gA'∉zB++_∧gB'∉zA++lb∧w.heap.size<gA'∧w.heap.size<gB' from by
    refine ⟨by rcases hoa with h | h<;>rcases HOB with h2 | h2<;>omega,?_,?_,by rcases hoa with h | h<;>omega,by rcases HOB with h2 | h2<;>omega⟩
    ·intro hm
     rcases List.mem_append.1 hm with h | h
     ·rcases hoa with h1 | h1
      ·exact HG.o.2.1 (h1 ▸ h)
      have:=(zB3 _ h).2;omega
     have:=nlb _ (SB.o _ h);rcases hoa with h1 | h1<;>omega
    intro hm
    rcases List.mem_append.1 hm with h | h
    ·rcases HOB with h1 | h1
     ·exact HG.o.2.2.1 (h1 ▸ h)
     have:=(zA3 _ h).2;omega
    have:=nlb _ h;rcases HOB with h1 | h1<;>omega)
   clear hpB hgrB horB HOB hoa gA3 zA3 zB3 nlb gBA d0 d1 d2 d3 d4 d5 d6 d7 d8 d9 d10 d11
   go_wp2_with fail
   go_roundg g
   case measure=>omega
   case rel=>exact ⟨k+1,gA',cA',gB',cB',zA++lb,_,hk'.o,by go_simp,rfl,rfl,PA4.o,PB4.o,HG4.o,NB4.o,KM4.o⟩
  obtain rfl:k=n1:=by omega
  have hii:¬ ((k:Int)<k):=by omega
  clear hk hkn
  go_wp2
  go_ret
  exact ⟨rfl,HB.o⟩
end Go.Proofs.YtbhemnidcleaiaaGreat.X
