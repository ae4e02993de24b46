/- A part of the proof. -/
import Derived.Test.YtbhemnidcleaiaaGreatY17
import Derived.Test.YtbhemnidcleaiaaGreatY2
import Derived.Deep.RegionHeld3
set_option linter.constructorNameAsVariable false
set_option maxHeartbeats 16000000
set_option maxRecDepth 10000
namespace Go.XB
open Go.RowKit
def MP.eqS {α:Type} [Dat α] (v:Value) (x:α):MP:=⟨fun u bs w=>u=v∧bs=[]∧∃ s,Agg w u x s,fun u bs w w' hb h=>by
 obtain ⟨h1,h2,s,hs⟩:=h;exact ⟨h1,h2,s,hs.below hb⟩⟩
end Go.XB
namespace Go.Proofs.YtbhemnidcleaiaaGreat.X
open Go.RowKit Go.XB Go.XN
def c3 (a b c:TPoint) (i:Nat):TPoint:=[a,b,c].getD (i % 3) pt0
def B8n (a b c:TPoint) (i:Nat):TPoint:=⟨A0u (c3 a b c (i+1)).y (c3 a b c (i+2)).y,A0u (c3 a b c (i+2)).x (c3 a b c (i+1)).x⟩
def A3i (a b c:TPoint) (i:Nat):TPoint:=⟨A3g (B8n a b c i).x (A0i a b c),A3g (B8n a b c i).y (A0i a b c)⟩
def B3y (a b c:TPoint):Nat→List TPoint
 | 0=>[]
 | k+1=>B3y a b c k++[A3i a b c k]
def C4a (a b c:TPoint):List TPoint:=B3y a b c 3
theorem B9e (a b c:TPoint):∀ k,(B3y a b c k).length=k
 | 0=>rfl
 | k+1=>by rw[B3y,List.length_append,B9e a b c k];rfl
theorem C6z {w:World} {y:TPoint} {u0 u1 u2 u3 u4 u5:Value} {b:List Nat} (h:Agg w (.agg #[u0,u1,u2,u3,u4,u5]) y b):Dat.at_ w [u0,u1,u2,u3,u4,u5] y b:=by
 obtain ⟨cs,he,hd⟩:=h
 have e2:cs=[u0,u1,u2,u3,u4,u5]:=by have:=congrArg (fun v=>match v with | .agg c=>c.toList | _=>[]) he;simpa using this.symm
 rw[← e2];exact hd
theorem ptX {w:World} {x:TPoint} {u0 u1 u2 u3 u4 u5:Value} {b:List Nat} (h:Agg w (.agg #[u0,u1,u2,u3,u4,u5]) x b):∃ b1,Agg w (.agg #[u0,u1,u2]) x.x b1∧∀ g∈b1,g∈b:=by
 obtain ⟨A1,nA1,cA1,s1,A2,nA2,cA2,s2,A4,nA4,cA4,s4,A5,nA5,cA5,s5,e,rfl,h1,h2,h4,h5⟩:=TPoint.agg h
 injection e with e
 simp at e
 obtain ⟨rfl,rfl,rfl,_⟩:=e
 exact ⟨_,TRat.mkAgg h1 h2,fun g hg=>by simp at hg ⊢;rcases hg with h | h<;>simp[h]⟩
theorem ptY {w:World} {x:TPoint} {u0 u1 u2 u3 u4 u5:Value} {b:List Nat} (h:Agg w (.agg #[u0,u1,u2,u3,u4,u5]) x b):∃ b1,Agg w (.agg #[u3,u4,u5]) x.y b1∧∀ g∈b1,g∈b:=by
 obtain ⟨A1,nA1,cA1,s1,A2,nA2,cA2,s2,A4,nA4,cA4,s4,A5,nA5,cA5,s5,e,rfl,h1,h2,h4,h5⟩:=TPoint.agg h
 injection e with e
 simp at e
 obtain ⟨_,_,_,rfl,rfl,rfl⟩:=e
 exact ⟨_,TRat.mkAgg h4 h5,fun g hg=>by simp at hg ⊢;rcases hg with h | h<;>simp[h]⟩
theorem C6x {p q:TRat} (h:A0r ⟨p,q⟩=true):S_ p=true:=by
 unfold A0r at h;simp at h;exact h.1
theorem C7p {p q:TRat} (h:A0r ⟨p,q⟩=true):S_ q=true:=by
 unfold A0r at h;simp at h;exact h.2
theorem B5j {p:TRat} (h:S_ p=true):(!p.den.isEmpty)=true:=by
 have:=(ratOkB_iff.1 h).den0
 cases hd:p.den with
 | nil=>rw[hd] at this;exact absurd this (by decide)
 | cons a l=>rfl
structure GradOk (a b c:TPoint):Prop where
 pr:A3v [a,b,c]=true
 d:S_ (A0i a b c)=true
 d0:(A0i a b c).num.mag≠[]
 s:∀ i,i<3→A0r (B8n a b c i)=true
 g:∀ i,i<3→A0r (A3i a b c i)=true
attribute [local go_sem] O_ Go.XB.opAt P_ M_ Region.wanted yielded
attribute [local simp] P_ M_ MP.eq MP.agg MP.sl MP.slbox MP.box MP.eqS A0e
theorem B7u (A:Option Addr) (c:Nat) (a1 b1 c1:TPoint) (bs:List Nat) (w:World) (hx:Sl w A 3 c [a1,b1,c1] bs) (hg:GradOk a1 b1 c1) :
  Calls Tryz.prog 145 #[.slice A 3 c] w (A2t w (C4a a1 b1 c1)):=by
 have HX:=A_ hx;have HG:=A_ hg
 obtain ⟨i0,hi,hz0,hz1,hz2⟩:=info_parts D4w
 obtain ⟨be0,of0,a2,P1,nP1,cP1,p1,P2,nP2,cP2,p2,P4,nP4,cP4,p4,P5,nP5,cP5,p5,hA0,hbl0,hx0,Pe0,Pe1,Pe2,Pe3,Pe4,Pe5,hg0⟩:=TPoint.elemA HX.o (show 0<3 by decide)
 obtain ⟨be1,of1,b2,Q1,nQ1,cQ1,q1,Q2,nQ2,cQ2,q2,Q4,nQ4,cQ4,q4,Q5,nQ5,cQ5,q5,hA1,hbl1,hx1,Qe0,Qe1,Qe2,Qe3,Qe4,Qe5,hg1⟩:=TPoint.elemA HX.o (show 1<3 by decide)
 obtain ⟨be2,of2,c2,R1,nR1,cR1,r1,R2,nR2,cR2,r2,R4,nR4,cR4,r4,R5,nR5,cR5,r5,hA2,hbl2,hx2,Re0,Re1,Re2,Re3,Re4,Re5,hg2⟩:=TPoint.elemA HX.o (show 2<3 by decide)
 subst hA0
 injection hA1 with hA1;injection hA1 with h1 h2 _;subst h1;subst h2
 injection hA2 with hA2;injection hA2 with h1 h2 _;subst h1;subst h2
 simp at hx0 hx1 hx2
 subst hx0;subst hx1;subst hx2
 simp at Pe0 Pe1 Pe2 Pe3 Pe4 Pe5 Qe0 Qe1 Qe2 Qe3 Qe4 Qe5 Re0 Re1 Re2 Re3 Re4 Re5
 have HA:=A_ hg0;have HB:=A_ hg1;have HC:=A_ hg2
 clear hbl1 hbl2 hg0 hg1 hg2 hx hg
 go_enter Tryz.func145,Tryz.ntmps145
 go_wp2_with fail
 have CP:=B2u (some ⟨be0,of0,none⟩) 3 c [a1,b1,c1] bs w HX.o
 rw[HG.o.pr] at CP
 refine CP.mono ?_
 clear CP
 rintro _ w1 ⟨rfl,hb1⟩
 obtain ⟨hc_w1,hf_w1⟩:=C_ hb1
 have HB1:=A_ hb1
 have hbe1:be0<w1.heap.size:=by have:=hb1.size;omega
 clear hb1
 go_wp2_with fail
 refine Z_ (by simp) ?_
 dsimp only [List.dropLast,List.getLast,List.length]
 iterate 9
  refine D_ _ ?_
 refine F_ (MP.agg (A0i a1 b1 c1)) ?_ ?_
 ·intro yq zq wq hC hd
  obtain ⟨hcq,hfq⟩:=C_ hC
  simp at hd
  refine H_ ?_
  exact K_ (A7x _ _ _ a1 b1 c1 _ _ _ wq ((HA.o.below HB1.o).below Below.go) ((HB.o.below HB1.o).below Below.go) ((HC.o.below HB1.o).below Below.go))
 refine A1z #[.bool false,.slice none 0 0,.slice none 0 0] 35 ?_ ?_
 ·intro yq zq wq hC hd
  refine ⟨by go_simp;done,?_⟩
  go_simp
 intro yq zq wa hC hd (hdis:Hid _)
 simp at hd
 have q9:=hd.2.2.2.2.2.2.2.2.2.1
 have q10:=hd.2.2.2.2.2.2.2.2.2.2
 obtain ⟨⟨ha9,hf9⟩,hr9⟩:=q9
 obtain ⟨⟨gd,e10,z10,hgd⟩,hr10⟩:=q10
 obtain ⟨V1,nV1,cV1,v1,V2,nV2,cV2,v2,e9,hz9,_,_⟩:=TRat.agg ha9
 rw[e9] at ha9
 have hdd:=hdis.o 9 10 (by decide) (by decide) (by decide)
 rw[z10] at hdd hr10
 have hgdl:=E_ hgd
 have hgd1:w1.heap.size≤gd:=(hr10 gd (by simp)).1
 have hgn:gd∉zq 9:=fun h=>hdd gd h (by simp)
 obtain ⟨d0,f0⟩:=B_ hgd (j:=0) rfl
 obtain ⟨d1,f1⟩:=B_ hgd (j:=1) rfl
 obtain ⟨d2,f2⟩:=B_ hgd (j:=2) rfl
 obtain ⟨W2,hW2⟩:∃ W2,W2=(((wa.setCell ⟨gd,0,none⟩ (.bool (A0i a1 b1 c1).num.neg)).setCell ⟨gd,1,none⟩ (.slice V1 nV1 cV1)).setCell ⟨gd,2,none⟩ (.slice V2 nV2 cV2)):=⟨_,rfl⟩
 have hlow:=HB1.o.size
 have BW2:=A_ (show Below w.heap.size w W2 by
  rw[hW2]
  exact ((((Below.next HB1.o hC)).setCell (p:=⟨gd,0,none⟩) (by simp;omega) _).setCell (p:=⟨gd,1,none⟩) (by simp;omega) _).setCell (p:=⟨gd,2,none⟩) (by simp;omega) _)
 have AG2:=A_ (show Agg W2 (.agg #[.bool (A0i a1 b1 c1).num.neg,.slice V1 nV1 cV1,.slice V2 nV2 cV2]) (A0i a1 b1 c1) (zq 9) by
  rw[hW2];exact ha9.keep (fun b hb=>A5k b (fun e=>hgn (e ▸ hb))))
 have CL2:=A_ (show W2.cell? ⟨gd,0,none⟩=some (.bool (A0i a1 b1 c1).num.neg)∧W2.cell? ⟨gd,1,none⟩=some (.slice V1 nV1 cV1)∧W2.cell? ⟨gd,2,none⟩=some (.slice V2 nV2 cV2)∧gd<W2.heap.size by
  rw[hW2];refine ⟨by go_simp,by go_simp,by go_simp,by simp[World.setCell];exact hgdl⟩)
 have hW2':=A_ hW2
 have SZ2:=A_ (show wa.heap.size=W2.heap.size by rw[hW2];simp[World.setCell])
 generalize zq 9=z9 at *
 clear hd hdis ha9 hf9 hr9 hr10 hgd hdd hz9 hC hW2 hgn
 go_wp2_with fail
 rw[← hW2'.o]
 have P0:=A_ (Pend.start (α:=TPoint) (e:=38) BW2.o)
 clear Re1 Re2 Re4 Re5 Re0 Re3 Pe0 Pe1 Pe2 Pe3 Pe4 Pe5 Qe0 Qe1 Qe2 Qe3 Qe4 Qe5 HA HB HC hbe1
 clear hW2' hgdl hgd1 d0 d1 d2 f0 f1 f2 hc_w1 hf_w1
 go_loopg [4,25] 3 (fun g s4 s wr=>∃ (k gB cap:Nat),k+g=3∧s=.int .i64 k∧s4=.slice (some ⟨gB,0,none⟩) k cap∧Hid (Pend w W2 38 wr gB k cap (B3y a1 b1 c1 k)))
 case atStart=>exact ⟨0,W2.heap.size,0,by omega,rfl,by rw[SZ2.o],P0.o⟩
 case round =>
  clear P0
  obtain ⟨k,gB,cap,hk,rfl,rfl,HP⟩:=hrel
  have HBW:=A_ HP.o.bw
  have HBB:=A_ HP.o.bb
  rcases Nat.lt_or_ge k 3 with hk3 | hk3
  ·have hki:(k:Int)<3:=by omega
   have hki0:(0:Int)≤k:=by omega
   obtain ⟨g,rfl⟩:∃ g,gk=g+1:=⟨gk - 1,by omega⟩
   have hk':=A_ (show k+1+g=3 by omega)
   obtain ⟨j1,hj1⟩:∃ j1,j1=(k+1) % 3:=⟨_,rfl⟩
   obtain ⟨j2,hj2⟩:∃ j2,j2=(k+2) % 3:=⟨_,rfl⟩
   have hj13:j1<3:=by omega
   have hj23:j2<3:=by omega
   have hj1i:(j1:Int)<3:=by omega
   have hj2i:(j2:Int)<3:=by omega
   have hj1n:(0:Int)≤j1:=by omega
   have hj2n:(0:Int)≤j2:=by omega
   have hwk1:IntKind.i64.wrap ((k:Int)+1)=(k:Int)+1:=by rw[IntKind.wrap_i64];omega
   have hwk2:IntKind.i64.wrap ((k:Int)+2)=(k:Int)+2:=by rw[IntKind.wrap_i64];omega
   have hwj1:IntKind.i64.wrap (j1:Int)=(j1:Int):=by rw[IntKind.wrap_i64];omega
   have hwj2:IntKind.i64.wrap (j2:Int)=(j2:Int):=by rw[IntKind.wrap_i64];omega
   have hm1:Int.tmod ((k:Int)+1) 3=j1:=by rw[Int.tmod_eq_emod_of_nonneg (by omega)];omega
   have hm2:Int.tmod ((k:Int)+2) 3=j2:=by rw[Int.tmod_eq_emod_of_nonneg (by omega)];omega
   obtain ⟨bj,oj,x,J1,nJ1,cJ1,jj1,J2,nJ2,cJ2,jj2,J4,nJ4,cJ4,jj4,J5,nJ5,cJ5,jj5,hAj,hblj,hxj,Je0,Je1,Je2,Je3,Je4,Je5,hgj⟩:=TPoint.elemA (HX.o.below HBW.o) hj13
   obtain ⟨bk,ok,y,K1,nK1,cK1,kk1,K2,nK2,cK2,kk2,K4,nK4,cK4,kk4,K5,nK5,cK5,kk5,hAk,hblk,hxk,Ke0,Ke1,Ke2,Ke3,Ke4,Ke5,hgk⟩:=TPoint.elemA (HX.o.below HBW.o) hj23
   injection hAj with hAj;injection hAj with h1 h2 _;subst h1;subst h2
   injection hAk with hAk;injection hAk with h1 h2 _;subst h1;subst h2
   have HGJ:=A_ hgj;have HGK:=A_ hgk
   have EX:=A_ (show c3 a1 b1 c1 (k+1)=x by unfold c3;rw[← hj1];exact A5l hxj)
   have EY:=A_ (show c3 a1 b1 c1 (k+2)=y by unfold c3;rw[← hj2];exact A5l hxk)
   have HJ1:=A_ hj1;have HJ2:=A_ hj2
   clear hk hxj hxk hgj hgk hj1 hj2 hblk
   have hgr:gd<wr.heap.size:=by have:=CL2.o.2.2.2;have:=HBB.o.size;omega
   have m0:wr.cell? ⟨gd,0,none⟩=some (.bool (A0i a1 b1 c1).num.neg):=(HBB.o.cell (p:=⟨gd,0,none⟩) CL2.o.2.2.2).trans CL2.o.1
   have m1:wr.cell? ⟨gd,1,none⟩=some (.slice V1 nV1 cV1):=(HBB.o.cell (p:=⟨gd,1,none⟩) CL2.o.2.2.2).trans CL2.o.2.1
   have m2:wr.cell? ⟨gd,2,none⟩=some (.slice V2 nV2 cV2):=(HBB.o.cell (p:=⟨gd,2,none⟩) CL2.o.2.2.2).trans CL2.o.2.2.1
   have AGR:=A_ (AG2.o.below HBB.o)
   obtain ⟨xb1,xp1,_⟩:=ptX HGJ.o
   obtain ⟨xb2,xp2,_⟩:=ptY HGJ.o
   obtain ⟨yb1,yp1,_⟩:=ptX HGK.o
   obtain ⟨yb2,yp2,_⟩:=ptY HGK.o
   have XP1:=A_ xp1;have XP2:=A_ xp2;have YP1:=A_ yp1;have YP2:=A_ yp2
   have EN:=A_ (show B8n a1 b1 c1 k=⟨A0u x.y y.y,A0u y.x x.x⟩ by unfold B8n;rw[EX.o,EY.o])
   have EG:=A_ (show A3i a1 b1 c1 k=⟨A3g (A0u x.y y.y) (A0i a1 b1 c1),A3g (A0u y.x x.x) (A0i a1 b1 c1)⟩ by unfold A3i;rw[EN.o])
   have ON:=HG.o.s k hk3
   rw[EN.o] at ON
   have O1:=A_ (C6x ON);have O2:=A_ (C7p ON)
   have og:=HG.o.g k hk3
   have OG:=A_ og
   have OX:=A_ (show S_ (A3i a1 b1 c1 k).x=true from C6x (q:=(A3i a1 b1 c1 k).y) og);have OY:=A_ (show S_ (A3i a1 b1 c1 k).y=true from C7p (p:=(A3i a1 b1 c1 k).x) og)
   clear og
   clear ON xp1 xp2 yp1 yp2
   go_wp2_with fail
   go_region_held3 (fun w'=>w'.cell? ⟨be0,of0+j1*6,none⟩=some (.bool x.x.num.neg)∧w'.cell? ⟨be0,of0+j1*6+1,none⟩=some (.slice J1 nJ1 cJ1)∧w'.cell? ⟨be0,of0+j1*6+2,none⟩=some (.slice J2 nJ2 cJ2)∧w'.cell? ⟨be0,of0+j1*6+3,none⟩=some (.bool x.y.num.neg)∧w'.cell? ⟨be0,of0+j1*6+4,none⟩=some (.slice J4 nJ4 cJ4)∧w'.cell? ⟨be0,of0+j1*6+5,none⟩=some (.slice J5 nJ5 cJ5)∧w'.cell? ⟨be0,of0+j2*6,none⟩=some (.bool y.x.num.neg)∧w'.cell? ⟨be0,of0+j2*6+1,none⟩=some (.slice K1 nK1 cK1)∧w'.cell? ⟨be0,of0+j2*6+2,none⟩=some (.slice K2 nK2 cK2)∧w'.cell? ⟨be0,of0+j2*6+3,none⟩=some (.bool y.y.num.neg)∧w'.cell? ⟨be0,of0+j2*6+4,none⟩=some (.slice K4 nK4 cK4)∧w'.cell? ⟨be0,of0+j2*6+5,none⟩=some (.slice K5 nK5 cK5)) ((go_simp;done)) (fail)
   ·rename_i hh
    clear hh
    obtain ⟨Wd,hWd⟩:∃ Wd,Wd=((wr.alloc (.cells #[.bool x.x.num.neg,.slice J1 nJ1 cJ1,.slice J2 nJ2 cJ2,.bool x.y.num.neg,.slice J4 nJ4 cJ4,.slice J5 nJ5 cJ5] 38)).alloc (.cells #[.bool y.x.num.neg,.slice K1 nK1 cK1,.slice K2 nK2 cK2,.bool y.y.num.neg,.slice K4 nK4 cK4,.slice K5 nK5 cK5] 38)).drew:=⟨_,rfl⟩
    have HWd:=A_ (show Below wr.heap.size wr Wd by rw[hWd];exact Below.drew (Below.next (Below.box _) (Below.box _)))
    have hz6:wr.heap.size<Wd.heap.size:=by rw[hWd];show _<((wr.alloc _).alloc _).heap.size;simp<;>omega
    have hz7:wr.heap.size+1<Wd.heap.size:=by rw[hWd];show _<((wr.alloc _).alloc _).heap.size;simp<;>omega
    have jd0:Wd.cell? ⟨wr.heap.size,0,none⟩=some (.bool x.x.num.neg):=by rw[hWd];go_simp
    have jd1:Wd.cell? ⟨wr.heap.size,1,none⟩=some (.slice J1 nJ1 cJ1):=by rw[hWd];go_simp
    have jd2:Wd.cell? ⟨wr.heap.size,2,none⟩=some (.slice J2 nJ2 cJ2):=by rw[hWd];go_simp
    have jd3:Wd.cell? ⟨wr.heap.size,3,none⟩=some (.bool x.y.num.neg):=by rw[hWd];go_simp
    have jd4:Wd.cell? ⟨wr.heap.size,4,none⟩=some (.slice J4 nJ4 cJ4):=by rw[hWd];go_simp
    have jd5:Wd.cell? ⟨wr.heap.size,5,none⟩=some (.slice J5 nJ5 cJ5):=by rw[hWd];go_simp
    have kd0:Wd.cell? ⟨wr.heap.size+1,0,none⟩=some (.bool y.x.num.neg):=by rw[hWd];go_simp
    have kd1:Wd.cell? ⟨wr.heap.size+1,1,none⟩=some (.slice K1 nK1 cK1):=by rw[hWd];go_simp
    have kd2:Wd.cell? ⟨wr.heap.size+1,2,none⟩=some (.slice K2 nK2 cK2):=by rw[hWd];go_simp
    have kd3:Wd.cell? ⟨wr.heap.size+1,3,none⟩=some (.bool y.y.num.neg):=by rw[hWd];go_simp
    have kd4:Wd.cell? ⟨wr.heap.size+1,4,none⟩=some (.slice K4 nK4 cK4):=by rw[hWd];go_simp
    have kd5:Wd.cell? ⟨wr.heap.size+1,5,none⟩=some (.slice K5 nK5 cK5):=by rw[hWd];go_simp
    rw[← hWd]
    have hgl:gd<Wd.heap.size:=by have:=HWd.o.size;omega
    have l0:Wd.cell? ⟨gd,0,none⟩=some (.bool (A0i a1 b1 c1).num.neg):=(HWd.o.cell (p:=⟨gd,0,none⟩) hgr).trans m0
    have l1:Wd.cell? ⟨gd,1,none⟩=some (.slice V1 nV1 cV1):=(HWd.o.cell (p:=⟨gd,1,none⟩) hgr).trans m1
    have l2:Wd.cell? ⟨gd,2,none⟩=some (.slice V2 nV2 cV2):=(HWd.o.cell (p:=⟨gd,2,none⟩) hgr).trans m2
    clear hWd m0 m1 m2
    go_wp2_with fail
    refine Z_ (by simp) ?_
    dsimp only [List.dropLast,List.getLast,List.length]
    iterate 4
     refine D_ _ ?_
    refine F_ (MP.agg (A0u x.y y.y)) ?_ ?_
    ·intro yq zq wq hC hd
     obtain ⟨hcq,hfq⟩:=C_ hC
     simp at hd
     refine H_ ?_
     exact K_ (A3z _ _ x.y y.y _ _ wq (XP2.o.below (Below.next HWd.o hC)) (YP2.o.below (Below.next HWd.o hC)))
    refine D_ _ ?_
    refine F_ (MP.agg (A3g (A0u x.y y.y) (A0i a1 b1 c1))) ?_ ?_
    ·intro yq zq wq hC hd
     obtain ⟨hcq,hfq⟩:=C_ hC
     simp at hd
     refine H_ ?_
     obtain ⟨t1,_⟩:=hd
     exact K_ (A9r _ _ (A0u x.y y.y) (A0i a1 b1 c1) _ _ wq t1.1 (AGR.o.below (Below.next HWd.o hC)) O1.o HG.o.d HG.o.d0)
    iterate 4
     refine D_ _ ?_
    refine F_ (MP.agg (A0u y.x x.x)) ?_ ?_
    ·intro yq zq wq hC hd
     obtain ⟨hcq,hfq⟩:=C_ hC
     simp at hd
     refine H_ ?_
     exact K_ (A3z _ _ y.x x.x _ _ wq (YP1.o.below (Below.next HWd.o hC)) (XP1.o.below (Below.next HWd.o hC)))
    refine D_ _ ?_
    refine F_ (MP.agg (A3g (A0u y.x x.x) (A0i a1 b1 c1))) ?_ ?_
    ·intro yq zq wq hC hd
     obtain ⟨hcq,hfq⟩:=C_ hC
     simp at hd
     refine H_ ?_
     obtain ⟨t1,_⟩:=hd
     exact K_ (A9r _ _ (A0u y.x x.x) (A0i a1 b1 c1) _ _ wq t1.1 (AGR.o.below (Below.next HWd.o hC)) O2.o HG.o.d HG.o.d0)
    refine B4c (fun y'=>MP.eqS (.agg ((y' 6).cells++(y' 13).cells)) (A3i a1 b1 c1 k)) (by intro y y' h;simp[P_,M_] at h;simp[h]) ?_ ?_
    ·intro yq zq wq hC hd
     simp at hd
     obtain ⟨⟨h6,_⟩,h13,_⟩:=hd
     obtain ⟨D1,nD1,cD1,d1,D2,nD2,cD2,d2,e6,z6,_,_⟩:=TRat.agg h6
     obtain ⟨D4,nD4,cD4,d4,D5,nD5,cD5,d5,e13,z13,_,_⟩:=TRat.agg h13
     rw[e6] at h6
     rw[e13] at h13
     have HJN:=A_ (show Agg wq (.agg #[.bool (A3g (A0u x.y y.y) (A0i a1 b1 c1)).num.neg,.slice D1 nD1 cD1,.slice D2 nD2 cD2,.bool (A3g (A0u y.x x.x) (A0i a1 b1 c1)).num.neg,.slice D4 nD4 cD4,.slice D5 nD5 cD5]) (A3i a1 b1 c1 k) (zq 6++zq 13) by rw[EG.o];exact A5o (x:=⟨_,_⟩) h6 h13)
     clear h6 h13 z6 z13
     refine ⟨by go_simp;done,.agg #[.bool (A3g (A0u x.y y.y) (A0i a1 b1 c1)).num.neg,.slice D1 nD1 cD1,.slice D2 nD2 cD2,.bool (A3g (A0u y.x x.x) (A0i a1 b1 c1)).num.neg,.slice D4 nD4 cD4,.slice D5 nD5 cD5],wq,?_,Below.refl _ _,[],⟨by rw[e6,e13];rfl,rfl,_,HJN.o⟩,by simp⟩
     go_simp
    refine A2a (fun y'=>MP.eqS (y' 14) (A3i a1 b1 c1 k)) (by intro y y' h;simp[P_,M_] at h;simp[h]) ?_ ?_
    ·intro yq zq wq hC hd
     obtain ⟨hcq,hfq⟩:=C_ hC
     simp at hd
     obtain ⟨⟨h14,h14z,s14,h14a⟩,h13,_⟩:=hd
     have HJN:=A_ h14a
     have C:=A6v (yq 14) (A3i a1 b1 c1 k) _ wq h14a ((B5j OX.o).trans OX.o.symm) ((B5j OY.o).trans OY.o.symm)
     rw[OG.o] at C
     have HCC:=A_ C
     clear h14 h14a h13 C
     refine H_ ?_
     exact HCC.o.mono (fun e w' ⟨he,hb⟩=>⟨yq 14,he,hb,[],⟨rfl,rfl,_,HJN.o.below hb⟩,by simp⟩)
    refine A1z #[.bool false,.slice none 0 0,.slice none 0 0,.bool false,.slice none 0 0,.slice none 0 0] 38 ?_ ?_
    ·intro yq zq wq hC hd
     refine ⟨by go_simp;done,?_⟩
     go_simp
    intro yq zq wb hC hd (hdis:Hid _)
    simp at hd
    have q6:=hd.2.2.2.2.2.2.1
    have q13:=hd.2.2.2.2.2.2.2.2.2.2.2.2.2.1
    have q14:=hd.2.2.2.2.2.2.2.2.2.2.2.2.2.2.1
    have q15:=hd.2.2.2.2.2.2.2.2.2.2.2.2.2.2.2.1
    have q16:=hd.2.2.2.2.2.2.2.2.2.2.2.2.2.2.2.2
    obtain ⟨⟨ha6,hf6⟩,hr6⟩:=q6
    obtain ⟨⟨ha13,hf13⟩,hr13⟩:=q13
    obtain ⟨⟨e14,z14,_⟩,_⟩:=q14
    obtain ⟨⟨e15,z15,_⟩,_⟩:=q15
    obtain ⟨⟨g8,e16,z16,hg8⟩,hr16⟩:=q16
    obtain ⟨D1,nD1,cD1,d1,D2,nD2,cD2,d2,e6,z6,_,_⟩:=TRat.agg ha6
    obtain ⟨D4,nD4,cD4,d4,D5,nD5,cD5,d5,e13,z13,_,_⟩:=TRat.agg ha13
    rw[e6] at ha6
    rw[e13] at ha13
    have ee:yq 15=.agg #[.bool (A3g (A0u x.y y.y) (A0i a1 b1 c1)).num.neg,.slice D1 nD1 cD1,.slice D2 nD2 cD2,.bool (A3g (A0u y.x x.x) (A0i a1 b1 c1)).num.neg,.slice D4 nD4 cD4,.slice D5 nD5 cD5]:=by rw[e15,e14,e6,e13];rfl
    have hn6:g8∉zq 6:=fun h=>(hdis.o 6 16 (by decide) (by decide) (by decide)) g8 h (by rw[z16];simp)
    have hn13:g8∉zq 13:=fun h=>(hdis.o 13 16 (by decide) (by decide) (by decide)) g8 h (by rw[z16];simp)
    have hfj:=Free.join hf6 hf13 (hdis.o 6 13 (by decide) (by decide) (by decide))
    have hpj:Agg wb (.agg #[.bool (A3g (A0u x.y y.y) (A0i a1 b1 c1)).num.neg,.slice D1 nD1 cD1,.slice D2 nD2 cD2,.bool (A3g (A0u y.x x.x) (A0i a1 b1 c1)).num.neg,.slice D4 nD4 cD4,.slice D5 nD5 cD5]) (A3i a1 b1 c1 k) (zq 6++zq 13):=by rw[EG.o];exact A5o (x:=⟨_,_⟩) ha6 ha13
    have hrj:∀ b∈zq 6++zq 13,wr.heap.size≤b:=fun b hb=>by
     have:=HWd.o.size
     rcases List.mem_append.1 hb with h | h
     ·have:=(hr6 b h).1;omega
     have:=(hr13 b h).1;omega
    have hnj:g8∉zq 6++zq 13:=fun h=>(List.mem_append.1 h).elim hn6 hn13
    have hg8w:wr.heap.size≤g8:=by have:=(hr16 g8 (by rw[z16];simp)).1;have:=HWd.o.size;omega
    have hg8l:=E_ hg8
    obtain ⟨d0,f0⟩:=B_ hg8 (j:=0) rfl
    obtain ⟨d1,f1⟩:=B_ hg8 (j:=1) rfl
    obtain ⟨d2,f2⟩:=B_ hg8 (j:=2) rfl
    obtain ⟨d3,f3⟩:=B_ hg8 (j:=3) rfl
    obtain ⟨d4,f4⟩:=B_ hg8 (j:=4) rfl
    obtain ⟨d5,f5⟩:=B_ hg8 (j:=5) rfl
    obtain ⟨W8,hW8⟩:∃ W8,W8=((((((wb.setCell ⟨g8,0,none⟩ (.bool (A3g (A0u x.y y.y) (A0i a1 b1 c1)).num.neg)).setCell ⟨g8,1,none⟩ (.slice D1 nD1 cD1)).setCell ⟨g8,2,none⟩ (.slice D2 nD2 cD2)).setCell ⟨g8,3,none⟩ (.bool (A3g (A0u y.x x.x) (A0i a1 b1 c1)).num.neg)).setCell ⟨g8,4,none⟩ (.slice D4 nD4 cD4)).setCell ⟨g8,5,none⟩ (.slice D5 nD5 cD5)):=⟨_,rfl⟩
    have hkeep:∀ b,b≠g8→W8.heap[b]?=wb.heap[b]?:=fun b hb=>by rw[hW8];exact A0b g8 [.bool (A3g (A0u x.y y.y) (A0i a1 b1 c1)).num.neg,.slice D1 nD1 cD1,.slice D2 nD2 cD2,.bool (A3g (A0u y.x x.x) (A0i a1 b1 c1)).num.neg,.slice D4 nD4 cD4,.slice D5 nD5 cD5] wb 0 b hb
    have HB8:=A_ (show Below wr.heap.size wr W8 by rw[hW8];exact Below.trans (Below.next HWd.o hC) ((((((Below.refl wr.heap.size wb).setCell (p:=⟨g8,0,none⟩) hg8w _).setCell (p:=⟨g8,1,none⟩) hg8w _).setCell (p:=⟨g8,2,none⟩) hg8w _).setCell (p:=⟨g8,3,none⟩) hg8w _).setCell (p:=⟨g8,4,none⟩) hg8w _ |>.setCell (p:=⟨g8,5,none⟩) hg8w _))
    have PJ:=A_ (hpj.keep (fun b hb=>hkeep b (fun e=>hnj (e ▸ hb))))
    have FJ:=A_ (show Free W8 (zq 6++zq 13) from ⟨hfj.1,fun b hb=>by obtain ⟨cs,t,e⟩:=hfj.2 b hb;exact ⟨cs,t,(hkeep b (fun e'=>hnj (e' ▸ hb))).trans e⟩⟩)
    have RJ:=A_ hrj
    have hsz8:g8<W8.heap.size:=by rw[hW8];simp[World.setCell];exact hg8l
    have k0:W8.cell? ⟨g8,0,none⟩=some (.bool (A3g (A0u x.y y.y) (A0i a1 b1 c1)).num.neg):=by rw[hW8];go_simp
    have k1:W8.cell? ⟨g8,1,none⟩=some (.slice D1 nD1 cD1):=by rw[hW8];go_simp
    have k2:W8.cell? ⟨g8,2,none⟩=some (.slice D2 nD2 cD2):=by rw[hW8];go_simp
    have k3:W8.cell? ⟨g8,3,none⟩=some (.bool (A3g (A0u y.x x.x) (A0i a1 b1 c1)).num.neg):=by rw[hW8];go_simp
    have k4:W8.cell? ⟨g8,4,none⟩=some (.slice D4 nD4 cD4):=by rw[hW8];go_simp
    have k5:W8.cell? ⟨g8,5,none⟩=some (.slice D5 nD5 cD5):=by rw[hW8];go_simp
    have HW8:=A_ hW8
    generalize zq 6++zq 13=zs at *
    clear hd hdis ha6 hf6 hr6 ha13 hf13 hr13 e14 e15 z14 z15 z16 hr16 hn6 hn13 hfj hpj hrj hnj hkeep hC hW8 hg8 z6 z13
    go_wp2_with fail
    rw[← HW8.o]
    obtain ⟨xb,xg,_⟩:=ptX PJ.o
    have C:=A5h _ (A3i a1 b1 c1 k).x _ W8 xg
    rw[B5j OX.o] at C
    refine C.mono ?_
    clear C xg
    rintro _ w9 ⟨rfl,hb9⟩
    obtain ⟨hc_w9,hf_w9⟩:=C_ hb9
    have hsz9:g8<w9.heap.size:=by have:=hb9.size;omega
    have HB9:=A_ (Below.next HB8.o hb9)
    have SIX:=A_ (show Below W8.heap.size W8 (w9.alloc (.cells #[.bool (A3g (A0u x.y y.y) (A0i a1 b1 c1)).num.neg,.slice D1 nD1 cD1,.slice D2 nD2 cD2,.bool (A3g (A0u y.x x.x) (A0i a1 b1 c1)).num.neg,.slice D4 nD4 cD4,.slice D5 nD5 cD5] 38)) from Below.next hb9 (Below.box _))
    have AT:=A_ (C6z (PJ.o.below SIX.o))
    have FA:=A_ (FJ.o.below SIX.o)
    have C3:=A_ (show k+1≤maxLen by unfold maxLen;omega)
    have C4:=A_ (show (k+1)*112≤140737488355328 by omega)
    clear hb9 PJ FJ SIX
    go_wp2_with (at_builtin;refine A4t rfl _ _ 23 rfl 38 i0 (.agg #[.bool false,.slice none 0 0,.slice none 0 0,.bool false,.slice none 0 0,.slice none 0 0]) 112 Tryz.underlying23 hi hz0 hz1 hz2 rfl HP.o (Below.next HB9.o (Below.box _)) (by go_simp;done) ⟨w9.heap.size,0,none⟩ 1 [.bool (A3g (A0u x.y y.y) (A0i a1 b1 c1)).num.neg,.slice D1 nD1 cD1,.slice D2 nD2 cD2,.bool (A3g (A0u y.x x.x) (A0i a1 b1 c1)).num.neg,.slice D4 nD4 cD4,.slice D5 nD5 cD5] (A3i a1 b1 c1 k) zs (by go_simp;done) (A0k (heap_alloc_new w9 _)) AT.o FA.o RJ.o C3.o C4.o ?_;intro g' cap' w7 hp' hgrow' hor')
    have HP8:=A_ (show Pend w W2 38 w7 g' (k+1) cap' (B3y a1 b1 c1 (k+1)) from hp')
    clear hp' hgrow' hor' AT FA RJ HP
    go_wp2_with fail
    go_roundg g
    case measure=>omega
    case rel=>exact ⟨k+1,g',cap',hk'.o,by go_num,rfl,HP8⟩
   rename_i hh
   clear hh
   obtain ⟨Wd,hWd⟩:∃ Wd,Wd=((wr.alloc (.cells #[.bool y.x.num.neg,.slice K1 nK1 cK1,.slice K2 nK2 cK2,.bool y.y.num.neg,.slice K4 nK4 cK4,.slice K5 nK5 cK5] 38)).alloc (.cells #[.bool x.x.num.neg,.slice J1 nJ1 cJ1,.slice J2 nJ2 cJ2,.bool x.y.num.neg,.slice J4 nJ4 cJ4,.slice J5 nJ5 cJ5] 38)).drew:=⟨_,rfl⟩
   have HWd:=A_ (show Below wr.heap.size wr Wd by rw[hWd];exact Below.drew (Below.next (Below.box _) (Below.box _)))
   have hz6:wr.heap.size+1<Wd.heap.size:=by rw[hWd];show _<((wr.alloc _).alloc _).heap.size;simp<;>omega
   have hz7:wr.heap.size<Wd.heap.size:=by rw[hWd];show _<((wr.alloc _).alloc _).heap.size;simp<;>omega
   have jd0:Wd.cell? ⟨wr.heap.size+1,0,none⟩=some (.bool x.x.num.neg):=by rw[hWd];go_simp
   have jd1:Wd.cell? ⟨wr.heap.size+1,1,none⟩=some (.slice J1 nJ1 cJ1):=by rw[hWd];go_simp
   have jd2:Wd.cell? ⟨wr.heap.size+1,2,none⟩=some (.slice J2 nJ2 cJ2):=by rw[hWd];go_simp
   have jd3:Wd.cell? ⟨wr.heap.size+1,3,none⟩=some (.bool x.y.num.neg):=by rw[hWd];go_simp
   have jd4:Wd.cell? ⟨wr.heap.size+1,4,none⟩=some (.slice J4 nJ4 cJ4):=by rw[hWd];go_simp
   have jd5:Wd.cell? ⟨wr.heap.size+1,5,none⟩=some (.slice J5 nJ5 cJ5):=by rw[hWd];go_simp
   have kd0:Wd.cell? ⟨wr.heap.size,0,none⟩=some (.bool y.x.num.neg):=by rw[hWd];go_simp
   have kd1:Wd.cell? ⟨wr.heap.size,1,none⟩=some (.slice K1 nK1 cK1):=by rw[hWd];go_simp
   have kd2:Wd.cell? ⟨wr.heap.size,2,none⟩=some (.slice K2 nK2 cK2):=by rw[hWd];go_simp
   have kd3:Wd.cell? ⟨wr.heap.size,3,none⟩=some (.bool y.y.num.neg):=by rw[hWd];go_simp
   have kd4:Wd.cell? ⟨wr.heap.size,4,none⟩=some (.slice K4 nK4 cK4):=by rw[hWd];go_simp
   have kd5:Wd.cell? ⟨wr.heap.size,5,none⟩=some (.slice K5 nK5 cK5):=by rw[hWd];go_simp
   rw[← hWd]
   have hgl:gd<Wd.heap.size:=by have:=HWd.o.size;omega
   have l0:Wd.cell? ⟨gd,0,none⟩=some (.bool (A0i a1 b1 c1).num.neg):=(HWd.o.cell (p:=⟨gd,0,none⟩) hgr).trans m0
   have l1:Wd.cell? ⟨gd,1,none⟩=some (.slice V1 nV1 cV1):=(HWd.o.cell (p:=⟨gd,1,none⟩) hgr).trans m1
   have l2:Wd.cell? ⟨gd,2,none⟩=some (.slice V2 nV2 cV2):=(HWd.o.cell (p:=⟨gd,2,none⟩) hgr).trans m2
   clear hWd m0 m1 m2
   go_wp2_with fail
   refine Z_ (by simp) ?_
   dsimp only [List.dropLast,List.getLast,List.length]
   iterate 4
    refine D_ _ ?_
   refine F_ (MP.agg (A0u x.y y.y)) ?_ ?_
   ·intro yq zq wq hC hd
    obtain ⟨hcq,hfq⟩:=C_ hC
    simp at hd
    refine H_ ?_
    exact K_ (A3z _ _ x.y y.y _ _ wq (XP2.o.below (Below.next HWd.o hC)) (YP2.o.below (Below.next HWd.o hC)))
   refine D_ _ ?_
   refine F_ (MP.agg (A3g (A0u x.y y.y) (A0i a1 b1 c1))) ?_ ?_
   ·intro yq zq wq hC hd
    obtain ⟨hcq,hfq⟩:=C_ hC
    simp at hd
    refine H_ ?_
    obtain ⟨t1,_⟩:=hd
    exact K_ (A9r _ _ (A0u x.y y.y) (A0i a1 b1 c1) _ _ wq t1.1 (AGR.o.below (Below.next HWd.o hC)) O1.o HG.o.d HG.o.d0)
   iterate 4
    refine D_ _ ?_
   refine F_ (MP.agg (A0u y.x x.x)) ?_ ?_
   ·intro yq zq wq hC hd
    obtain ⟨hcq,hfq⟩:=C_ hC
    simp at hd
    refine H_ ?_
    exact K_ (A3z _ _ y.x x.x _ _ wq (YP1.o.below (Below.next HWd.o hC)) (XP1.o.below (Below.next HWd.o hC)))
   refine D_ _ ?_
   refine F_ (MP.agg (A3g (A0u y.x x.x) (A0i a1 b1 c1))) ?_ ?_
   ·intro yq zq wq hC hd
    obtain ⟨hcq,hfq⟩:=C_ hC
    simp at hd
    refine H_ ?_
    obtain ⟨t1,_⟩:=hd
    exact K_ (A9r _ _ (A0u y.x x.x) (A0i a1 b1 c1) _ _ wq t1.1 (AGR.o.below (Below.next HWd.o hC)) O2.o HG.o.d HG.o.d0)
   refine B4c (fun y'=>MP.eqS (.agg ((y' 6).cells++(y' 13).cells)) (A3i a1 b1 c1 k)) (by intro y y' h;simp[P_,M_] at h;simp[h]) ?_ ?_
   ·intro yq zq wq hC hd
    simp at hd
    obtain ⟨⟨h6,_⟩,h13,_⟩:=hd
    obtain ⟨D1,nD1,cD1,d1,D2,nD2,cD2,d2,e6,z6,_,_⟩:=TRat.agg h6
    obtain ⟨D4,nD4,cD4,d4,D5,nD5,cD5,d5,e13,z13,_,_⟩:=TRat.agg h13
    rw[e6] at h6
    rw[e13] at h13
    have HJN:=A_ (show Agg wq (.agg #[.bool (A3g (A0u x.y y.y) (A0i a1 b1 c1)).num.neg,.slice D1 nD1 cD1,.slice D2 nD2 cD2,.bool (A3g (A0u y.x x.x) (A0i a1 b1 c1)).num.neg,.slice D4 nD4 cD4,.slice D5 nD5 cD5]) (A3i a1 b1 c1 k) (zq 6++zq 13) by rw[EG.o];exact A5o (x:=⟨_,_⟩) h6 h13)
    clear h6 h13 z6 z13
    refine ⟨by go_simp;done,.agg #[.bool (A3g (A0u x.y y.y) (A0i a1 b1 c1)).num.neg,.slice D1 nD1 cD1,.slice D2 nD2 cD2,.bool (A3g (A0u y.x x.x) (A0i a1 b1 c1)).num.neg,.slice D4 nD4 cD4,.slice D5 nD5 cD5],wq,?_,Below.refl _ _,[],⟨by rw[e6,e13];rfl,rfl,_,HJN.o⟩,by simp⟩
    go_simp
   refine A2a (fun y'=>MP.eqS (y' 14) (A3i a1 b1 c1 k)) (by intro y y' h;simp[P_,M_] at h;simp[h]) ?_ ?_
   ·intro yq zq wq hC hd
    obtain ⟨hcq,hfq⟩:=C_ hC
    simp at hd
    obtain ⟨⟨h14,h14z,s14,h14a⟩,h13,_⟩:=hd
    have HJN:=A_ h14a
    have C:=A6v (yq 14) (A3i a1 b1 c1 k) _ wq h14a ((B5j OX.o).trans OX.o.symm) ((B5j OY.o).trans OY.o.symm)
    rw[OG.o] at C
    have HCC:=A_ C
    clear h14 h14a h13 C
    refine H_ ?_
    exact HCC.o.mono (fun e w' ⟨he,hb⟩=>⟨yq 14,he,hb,[],⟨rfl,rfl,_,HJN.o.below hb⟩,by simp⟩)
   refine A1z #[.bool false,.slice none 0 0,.slice none 0 0,.bool false,.slice none 0 0,.slice none 0 0] 38 ?_ ?_
   ·intro yq zq wq hC hd
    refine ⟨by go_simp;done,?_⟩
    go_simp
   intro yq zq wb hC hd (hdis:Hid _)
   simp at hd
   have q6:=hd.2.2.2.2.2.2.1
   have q13:=hd.2.2.2.2.2.2.2.2.2.2.2.2.2.1
   have q14:=hd.2.2.2.2.2.2.2.2.2.2.2.2.2.2.1
   have q15:=hd.2.2.2.2.2.2.2.2.2.2.2.2.2.2.2.1
   have q16:=hd.2.2.2.2.2.2.2.2.2.2.2.2.2.2.2.2
   obtain ⟨⟨ha6,hf6⟩,hr6⟩:=q6
   obtain ⟨⟨ha13,hf13⟩,hr13⟩:=q13
   obtain ⟨⟨e14,z14,_⟩,_⟩:=q14
   obtain ⟨⟨e15,z15,_⟩,_⟩:=q15
   obtain ⟨⟨g8,e16,z16,hg8⟩,hr16⟩:=q16
   obtain ⟨D1,nD1,cD1,d1,D2,nD2,cD2,d2,e6,z6,_,_⟩:=TRat.agg ha6
   obtain ⟨D4,nD4,cD4,d4,D5,nD5,cD5,d5,e13,z13,_,_⟩:=TRat.agg ha13
   rw[e6] at ha6
   rw[e13] at ha13
   have ee:yq 15=.agg #[.bool (A3g (A0u x.y y.y) (A0i a1 b1 c1)).num.neg,.slice D1 nD1 cD1,.slice D2 nD2 cD2,.bool (A3g (A0u y.x x.x) (A0i a1 b1 c1)).num.neg,.slice D4 nD4 cD4,.slice D5 nD5 cD5]:=by rw[e15,e14,e6,e13];rfl
   have hn6:g8∉zq 6:=fun h=>(hdis.o 6 16 (by decide) (by decide) (by decide)) g8 h (by rw[z16];simp)
   have hn13:g8∉zq 13:=fun h=>(hdis.o 13 16 (by decide) (by decide) (by decide)) g8 h (by rw[z16];simp)
   have hfj:=Free.join hf6 hf13 (hdis.o 6 13 (by decide) (by decide) (by decide))
   have hpj:Agg wb (.agg #[.bool (A3g (A0u x.y y.y) (A0i a1 b1 c1)).num.neg,.slice D1 nD1 cD1,.slice D2 nD2 cD2,.bool (A3g (A0u y.x x.x) (A0i a1 b1 c1)).num.neg,.slice D4 nD4 cD4,.slice D5 nD5 cD5]) (A3i a1 b1 c1 k) (zq 6++zq 13):=by rw[EG.o];exact A5o (x:=⟨_,_⟩) ha6 ha13
   have hrj:∀ b∈zq 6++zq 13,wr.heap.size≤b:=fun b hb=>by
    have:=HWd.o.size
    rcases List.mem_append.1 hb with h | h
    ·have:=(hr6 b h).1;omega
    have:=(hr13 b h).1;omega
   have hnj:g8∉zq 6++zq 13:=fun h=>(List.mem_append.1 h).elim hn6 hn13
   have hg8w:wr.heap.size≤g8:=by have:=(hr16 g8 (by rw[z16];simp)).1;have:=HWd.o.size;omega
   have hg8l:=E_ hg8
   obtain ⟨d0,f0⟩:=B_ hg8 (j:=0) rfl
   obtain ⟨d1,f1⟩:=B_ hg8 (j:=1) rfl
   obtain ⟨d2,f2⟩:=B_ hg8 (j:=2) rfl
   obtain ⟨d3,f3⟩:=B_ hg8 (j:=3) rfl
   obtain ⟨d4,f4⟩:=B_ hg8 (j:=4) rfl
   obtain ⟨d5,f5⟩:=B_ hg8 (j:=5) rfl
   obtain ⟨W8,hW8⟩:∃ W8,W8=((((((wb.setCell ⟨g8,0,none⟩ (.bool (A3g (A0u x.y y.y) (A0i a1 b1 c1)).num.neg)).setCell ⟨g8,1,none⟩ (.slice D1 nD1 cD1)).setCell ⟨g8,2,none⟩ (.slice D2 nD2 cD2)).setCell ⟨g8,3,none⟩ (.bool (A3g (A0u y.x x.x) (A0i a1 b1 c1)).num.neg)).setCell ⟨g8,4,none⟩ (.slice D4 nD4 cD4)).setCell ⟨g8,5,none⟩ (.slice D5 nD5 cD5)):=⟨_,rfl⟩
   have hkeep:∀ b,b≠g8→W8.heap[b]?=wb.heap[b]?:=fun b hb=>by rw[hW8];exact A0b g8 [.bool (A3g (A0u x.y y.y) (A0i a1 b1 c1)).num.neg,.slice D1 nD1 cD1,.slice D2 nD2 cD2,.bool (A3g (A0u y.x x.x) (A0i a1 b1 c1)).num.neg,.slice D4 nD4 cD4,.slice D5 nD5 cD5] wb 0 b hb
   have HB8:=A_ (show Below wr.heap.size wr W8 by rw[hW8];exact Below.trans (Below.next HWd.o hC) ((((((Below.refl wr.heap.size wb).setCell (p:=⟨g8,0,none⟩) hg8w _).setCell (p:=⟨g8,1,none⟩) hg8w _).setCell (p:=⟨g8,2,none⟩) hg8w _).setCell (p:=⟨g8,3,none⟩) hg8w _).setCell (p:=⟨g8,4,none⟩) hg8w _ |>.setCell (p:=⟨g8,5,none⟩) hg8w _))
   have PJ:=A_ (hpj.keep (fun b hb=>hkeep b (fun e=>hnj (e ▸ hb))))
   have FJ:=A_ (show Free W8 (zq 6++zq 13) from ⟨hfj.1,fun b hb=>by obtain ⟨cs,t,e⟩:=hfj.2 b hb;exact ⟨cs,t,(hkeep b (fun e'=>hnj (e' ▸ hb))).trans e⟩⟩)
   have RJ:=A_ hrj
   have hsz8:g8<W8.heap.size:=by rw[hW8];simp[World.setCell];exact hg8l
   have k0:W8.cell? ⟨g8,0,none⟩=some (.bool (A3g (A0u x.y y.y) (A0i a1 b1 c1)).num.neg):=by rw[hW8];go_simp
   have k1:W8.cell? ⟨g8,1,none⟩=some (.slice D1 nD1 cD1):=by rw[hW8];go_simp
   have k2:W8.cell? ⟨g8,2,none⟩=some (.slice D2 nD2 cD2):=by rw[hW8];go_simp
   have k3:W8.cell? ⟨g8,3,none⟩=some (.bool (A3g (A0u y.x x.x) (A0i a1 b1 c1)).num.neg):=by rw[hW8];go_simp
   have k4:W8.cell? ⟨g8,4,none⟩=some (.slice D4 nD4 cD4):=by rw[hW8];go_simp
   have k5:W8.cell? ⟨g8,5,none⟩=some (.slice D5 nD5 cD5):=by rw[hW8];go_simp
   have HW8:=A_ hW8
   generalize zq 6++zq 13=zs at *
   clear hd hdis ha6 hf6 hr6 ha13 hf13 hr13 e14 e15 z14 z15 z16 hr16 hn6 hn13 hfj hpj hrj hnj hkeep hC hW8 hg8 z6 z13
   go_wp2_with fail
   rw[← HW8.o]
   obtain ⟨xb,xg,_⟩:=ptX PJ.o
   have C:=A5h _ (A3i a1 b1 c1 k).x _ W8 xg
   rw[B5j OX.o] at C
   refine C.mono ?_
   clear C xg
   rintro _ w9 ⟨rfl,hb9⟩
   obtain ⟨hc_w9,hf_w9⟩:=C_ hb9
   have hsz9:g8<w9.heap.size:=by have:=hb9.size;omega
   have HB9:=A_ (Below.next HB8.o hb9)
   have SIX:=A_ (show Below W8.heap.size W8 (w9.alloc (.cells #[.bool (A3g (A0u x.y y.y) (A0i a1 b1 c1)).num.neg,.slice D1 nD1 cD1,.slice D2 nD2 cD2,.bool (A3g (A0u y.x x.x) (A0i a1 b1 c1)).num.neg,.slice D4 nD4 cD4,.slice D5 nD5 cD5] 38)) from Below.next hb9 (Below.box _))
   have AT:=A_ (C6z (PJ.o.below SIX.o))
   have FA:=A_ (FJ.o.below SIX.o)
   have C3:=A_ (show k+1≤maxLen by unfold maxLen;omega)
   have C4:=A_ (show (k+1)*112≤140737488355328 by omega)
   clear hb9 PJ FJ SIX
   go_wp2_with (at_builtin;refine A4t rfl _ _ 23 rfl 38 i0 (.agg #[.bool false,.slice none 0 0,.slice none 0 0,.bool false,.slice none 0 0,.slice none 0 0]) 112 Tryz.underlying23 hi hz0 hz1 hz2 rfl HP.o (Below.next HB9.o (Below.box _)) (by go_simp;done) ⟨w9.heap.size,0,none⟩ 1 [.bool (A3g (A0u x.y y.y) (A0i a1 b1 c1)).num.neg,.slice D1 nD1 cD1,.slice D2 nD2 cD2,.bool (A3g (A0u y.x x.x) (A0i a1 b1 c1)).num.neg,.slice D4 nD4 cD4,.slice D5 nD5 cD5] (A3i a1 b1 c1 k) zs (by go_simp;done) (A0k (heap_alloc_new w9 _)) AT.o FA.o RJ.o C3.o C4.o ?_;intro g' cap' w7 hp' hgrow' hor')
   have HP8:=A_ (show Pend w W2 38 w7 g' (k+1) cap' (B3y a1 b1 c1 (k+1)) from hp')
   clear hp' hgrow' hor' AT FA RJ HP
   go_wp2_with fail
   go_roundg g
   case measure=>omega
   case rel=>exact ⟨k+1,g',cap',hk'.o,by go_num,rfl,HP8⟩
  obtain rfl:k=3:=by omega
  clear hk hk3
  go_wp2
  go_ret
  exact HP.o.done
end Go.Proofs.YtbhemnidcleaiaaGreat.X
namespace Go.Proofs.YtbhemnidcleaiaaGreat.X
open Go.RowKit Go.XB Go.XN
def D4x (a b c:Int):Nat→Int
 | 0=>a
 | 1=>b
 | _=>c
theorem ixv (a b c:Int) (i:Nat) (h:i<3) (w:World):Sem.run Tryz.prog (Instr.index 111 (.agg #[.int .i64 a,.int .i64 b,.int .i64 c]) (.int .i64 (i:Int))) w=.ok (.int .i64 (D4x a b c i)) w:=by
 obtain rfl | rfl | rfl:i=0∨i=1∨i=2:=by omega
 ·kernel_rfl
 ·kernel_rfl
 kernel_rfl
def B8e (us:List TRat) (i:Int):TRat:=us.getD i.toNat A1j
def A4v (us:List TRat) (t:TTri):List TRat:=[B8e us t.a,B8e us t.b,B8e us t.c]
theorem C5a (us:List TRat) (t:TTri) {i:Nat} (h:i<3):(A4v us t)[i]?=some (B8e us (D4x t.a t.b t.c i)):=by
 obtain rfl | rfl | rfl:i=0∨i=1∨i=2:=by omega
 ·rfl
 ·rfl
 rfl
def B0k (a b c:TPoint) (vs:List TRat):Nat→TPoint
 | 0=>V_ 0 0
 | k+1=>A9b (B0k a b c vs k) (A2q (vs.getD k A1j) (A3i a b c k))
def B9b {α:Type} [Dat α] (w:World) (x:α) (e:Ending) (w':World):Prop:=∃ v s,e=.returned v∧Agg w' v x s∧(∀ b∈s,w.heap.size≤b)∧Below w.heap.size w w'
def _root_.Go.XB.MP.aggN {α:Type} [Dat α] (x:α):MP:=⟨fun v bs w=>Agg w v x bs,fun _ _ _ _ hb h=>h.below hb⟩
theorem B3t {α:Type} [Dat α] {P:Program} {f:FuncId} {args:Array Value} {w:World} {x:α} (h:Calls P f args w (B9b w x)) :
  Calls P f args w fun e w'=>∃ u,e=.returned u∧Below w.heap.size w w'∧∃ bs,(MP.aggN x).p u bs w'∧∀ b∈bs,w.heap.size≤b∧b<w'.heap.size :=
 h.mono fun _ _ ⟨v,s,he,ha,hn,hb⟩=>⟨v,he,hb,s,ha,fun b hm=>⟨hn b hm,ha.lt b hm⟩⟩
structure AccPt (w U:World) (g r0:Nat) (x:TPoint) (cs:List Value) (s:List Nat):Prop where
 bl:Below w.heap.size w U
 bx:U.heap[g]?=some (.cells cs.toArray 38)
 at_:Dat.at_ U cs x s
 nw:∀ b∈s,w.heap.size≤b∧b≠g∧b≠r0
 rs:U.heap[r0]?=some (.cells #[.bool false,.slice none 0 0,.slice none 0 0,.bool false,.slice none 0 0,.slice none 0 0] 38)
 lo:w.heap.size≤r0∧r0<g
theorem A0v {w w':World} {b:Nat} {o:Obj} (h:w.heap[b]?=some o) (hb:Below w.heap.size w w'):w'.heap[b]?=some o:=(hb.block b (E_ h)).trans h
theorem A5p {w:World} {b j:Nat} {cs:Array Value} {t:TypeId} {v:Value} (h:w.heap[b]?=some (.cells cs t)):(w.setCell ⟨b,j,none⟩ v).heap[b]?=some (.cells (cs.setIfInBounds j v) t):=by
 have hlt:=lt_of_block h
 have h':w.heap[b]=.cells cs t (0,0):=by simpa [Array.getElem?_eq_getElem hlt] using h
 show (w.heap.modify b _)[b]?=_
 rw[Array.getElem?_eq_getElem (by simpa using hlt),Array.getElem_modify_self,h']
 rfl
theorem AccPt.below {w U U':World} {g r0:Nat} {x:TPoint} {cs:List Value} {s:List Nat} (h:AccPt w U g r0 x cs s) (hb:Below U.heap.size U U'):AccPt w U' g r0 x cs s :=
 ⟨Below.next h.bl hb,A0v h.bx hb,Dat.keep h.at_ (fun b hb2=>hb.block b (Dat.lt h.at_ b hb2)),h.nw,A0v h.rs hb,h.lo⟩
theorem AccPt.set {w U:World} {g r0:Nat} {x y:TPoint} {a0 a1 a2 a3 a4 a5 v0 v1 v2 v3 v4 v5:Value} {s r:List Nat} (h:AccPt w U g r0 x [a0,a1,a2,a3,a4,a5] s) (ha:Dat.at_ U [v0,v1,v2,v3,v4,v5] y r) (hr:∀ b∈r,w.heap.size≤b∧b≠g∧b≠r0) :
  AccPt w ((((((U.setCell ⟨g,0,none⟩ v0).setCell ⟨g,1,none⟩ v1).setCell ⟨g,2,none⟩ v2).setCell ⟨g,3,none⟩ v3).setCell ⟨g,4,none⟩ v4).setCell ⟨g,5,none⟩ v5) g r0 y [v0,v1,v2,v3,v4,v5] r:=by
 have hw:w.heap.size≤g:=by have:=h.lo;omega
 have K:∀ b,b≠g→((((((U.setCell ⟨g,0,none⟩ v0).setCell ⟨g,1,none⟩ v1).setCell ⟨g,2,none⟩ v2).setCell ⟨g,3,none⟩ v3).setCell ⟨g,4,none⟩ v4).setCell ⟨g,5,none⟩ v5).heap[b]?=U.heap[b]?:=fun b hb=>A0b g [v0,v1,v2,v3,v4,v5] U 0 b hb
 exact ⟨(((((h.bl.setCell (p:=⟨g,0,none⟩) hw _).setCell (p:=⟨g,1,none⟩) hw _).setCell (p:=⟨g,2,none⟩) hw _).setCell (p:=⟨g,3,none⟩) hw _).setCell (p:=⟨g,4,none⟩) hw _).setCell (p:=⟨g,5,none⟩) hw _,
  A5p (A5p (A5p (A5p (A5p (A5p h.bx))))),Dat.keep ha (fun b hb=>K b (hr b hb).2.1),hr,(K r0 (by have:=h.lo;omega)).trans h.rs,h.lo⟩
theorem AccPt.o {w U:World} {g r0:Nat} {x:TPoint} {v0 v1 v2 v3 v4 v5:Value} {s:List Nat} (h:AccPt w U g r0 x [v0,v1,v2,v3,v4,v5] s) :
  B9b w x (.returned (.agg #[v0,v1,v2,v3,v4,v5])) ((((((U.setCell ⟨r0,0,none⟩ v0).setCell ⟨r0,1,none⟩ v1).setCell ⟨r0,2,none⟩ v2).setCell ⟨r0,3,none⟩ v3).setCell ⟨r0,4,none⟩ v4).setCell ⟨r0,5,none⟩ v5):=by
 have hw:w.heap.size≤r0:=h.lo.1
 exact ⟨_,s,rfl,⟨_,rfl,Dat.keep h.at_ (fun b hb=>A0b r0 [v0,v1,v2,v3,v4,v5] U 0 b (h.nw b hb).2.2)⟩,fun b hb=>(h.nw b hb).1,
  (((((h.bl.setCell (p:=⟨r0,0,none⟩) hw _).setCell (p:=⟨r0,1,none⟩) hw _).setCell (p:=⟨r0,2,none⟩) hw _).setCell (p:=⟨r0,3,none⟩) hw _).setCell (p:=⟨r0,4,none⟩) hw _).setCell (p:=⟨r0,5,none⟩) hw _⟩
attribute [local go_sem] O_ Go.XB.opAt P_ M_ Region.wanted yielded
attribute [local go_sem] ixv
attribute [local simp] P_ M_ MP.eq MP.agg MP.aggS MP.sl MP.slbox MP.box A0e
theorem B7y (A:Option Addr) (c:Nat) (l:List TPoint) (bs:List Nat) (B:Option Addr) (d:Nat) (us:List TRat) (ds:List Nat) (w:World) (hx:Sl w A 3 c l bs) (hu:Sl w B 3 d us ds) (hp:A3v l=true) (ho:us.all S_=true) :
  Calls Tryz.prog 144 #[.slice A 3 c,.slice B 3 d] w (A0j w (.bool true)):=by
 have HX:=A_ hx;have HU:=A_ hu;have HP:=A_ hp;have HO:=A_ ho
 clear hx hu hp ho
 go_enter Tryz.func144,Tryz.ntmps144
 go_wp2_with fail
 have CP:=B2u A 3 c l bs w HX.o
 rw[HP.o] at CP
 refine CP.mono ?_
 clear CP
 rintro _ w1 ⟨rfl,hb1⟩
 have HB1:=A_ hb1
 go_wp2_with fail
 refine (A5x B 3 d us ds w1 (HU.o.below HB1.o) HO.o).mono ?_
 rintro _ w2 ⟨rfl,hb2⟩
 go_wp2
 go_ret
 exact ⟨rfl,Below.next HB1.o hb2⟩
theorem B4k (v:Value) (m:TMesh) (b:List Nat) (B:Option Addr) (n d:Nat) (us:List TRat) (ds:List Nat) (k:Nat) (t:TTri) (w:World) (hx:Agg w v m b) (hu:Sl w B n d us ds) (hk:m.triangles[k]?=some t) (it:A8c n t) (hl:∀ x∈us,C9t x) (h40:n≤40) (h48:m.triangles.length≤48) :
  Calls Tryz.prog 100 #[v,.slice B n d,.int .i64 k] w (A2t w (A4v us t)):=by
 obtain ⟨A0,n0,c0,s0,A1,n1,c1,s1,rfl,rfl,hs0,hs1⟩:=TMesh.agg hx
 have HU:=A_ hu;have LM:=A_ hl;have IT:=A_ it
 have hkn:k<n1:=by rw[← hs1.1];exact (List.getElem?_eq_some_iff.1 hk).1
 have hn48:n1≤48:=by rw[← hs1.1];exact h48
 obtain ⟨i0,hi,hz0,hz1,hz2⟩:=info_parts B9z
 obtain ⟨be,of,t',rfl,hbl,hx1,e0,e1,e2,e3,e4,hag⟩:=TTri.elemA hs1 hkn
 obtain rfl:t=t':=by rw[hk] at hx1;exact Option.some.inj hx1
 have HAG:=A_ hag
 have hki:(k:Int)<n1:=by omega
 have hki0:(0:Int)≤k:=by omega
 have hk48:(n1:Int)≤48:=by omega
 have h40i:(n:Int)≤40:=by omega
 have WK:=A_ (show inB 0 (k:Int) ((n1:Int) - 1)=true by unfold inB;simp;omega)
 clear hx hu hk it hl hs0 hs1 hag hx1
 go_enter Tryz.func100,Tryz.ntmps100
 go_wp2_with fail
 have C:=A0z k 0 ((n1:Int) - 1) (w.alloc (.cells #[.slice A0 n0 c0,.slice (some ⟨be,of,none⟩) n1 c1] 26))
 rw[WK.o] at C
 refine C.mono ?_
 clear C
 rintro _ w1 ⟨rfl,hb1⟩
 obtain ⟨hc_w1,hf_w1⟩:=C_ hb1
 have hz0_w1:w.heap.size<w1.heap.size:=N_ hb1
 have HB1:=A_ (show Below w.heap.size w w1 from Below.go)
 have hbl1:be<w1.heap.size:=by have:=HB1.o.size;omega
 go_wp2_with fail
 have P0:=A_ (Pend.start (α:=TRat) (e:=35) HB1.o)
 refine (A4c _ t _ (w1.alloc (.cells #[] 35)) (HAG.o.below (HB1.o.alloc HB1.o.size _))).mono ?_
 rintro _ w2 ⟨rfl,hb2⟩
 have P2:=A_ (P0.o.below hb2)
 clear P0 hb2
 go_wp2_with fail
 go_loopg [7,24] 3 (fun g s3 s wr=>∃ (i gB cap:Nat),i+g=3∧s=.int .i64 i∧s3=.slice (some ⟨gB,0,none⟩) i cap∧Hid (Pend w w1 35 wr gB i cap ((A4v us t).take i)))
 case atStart=>exact ⟨0,w1.heap.size,0,rfl,rfl,rfl,P2.o⟩
 case round =>
  clear P2
  obtain ⟨i,gB,cap,hi3,rfl,rfl,HP⟩:=hrel
  have HBW:=A_ HP.o.bw
  rcases Nat.lt_or_ge i 3 with hin | hin
  ·have hii:(i:Int)<3:=by omega
   have hii0:(0:Int)≤i:=by omega
   obtain ⟨g,rfl⟩:∃ g,gk=g+1:=⟨gk - 1,by omega⟩
   have hi':=A_ (show i+1+g=3 by omega)
   have C3:=A_ (show i+1≤maxLen by unfold maxLen;omega)
   have C4:=A_ (show (i+1)*56≤140737488355328 by omega)
   obtain ⟨q,hq⟩:∃ q,D4x t.a t.b t.c i=q:=⟨_,rfl⟩
   have hq01:0≤q∧q<n:=by
    have:=IT.o
    rw[← hq]
    obtain rfl | rfl | rfl:i=0∨i=1∨i=2:=by omega
    ·exact this.1
    ·exact this.2.1
    exact this.2.2
   obtain ⟨hq0,hq1⟩:=hq01
   have NX0:=C5a us t hin
   rw[hq] at NX0
   have QQ:=A_ hq
   have hi3':i<3:=hin
   have WQ:=A_ (show inB 0 q ((n:Int) - 1)=true by unfold inB;simp;omega)
   have hqn:q.toNat<n:=by omega
   obtain ⟨bu,ou,x,A1',n1',c1',s1',A2',n2',c2',s2',rfl,hblu,hxu,f0,f1,f2,hbg⟩:=TRat.elemA (HU.o.below HBW.o) hqn
   have LX:=A_ (LM.o x (List.mem_of_getElem? hxu))
   have NX:=A_ (show (A4v us t).take (i+1)=(A4v us t).take i++[x] from take_step (by rw[NX0];unfold B8e;rw[A5l hxu]))
   have HBG:=A_ hbg
   clear hi3 hin hbg hxu NX0 hq
   go_wp2_with fail
   rw[QQ.o]
   have C:=A0z q 0 ((n:Int) - 1) wr
   rw[WQ.o] at C
   refine C.mono ?_
   clear C
   rintro _ w3 ⟨rfl,hb3⟩
   obtain ⟨hc_w3,hf_w3⟩:=C_ hb3
   have HB3:=A_ hb3
   have hbl3:bu<w3.heap.size:=by have:=hb3.size;omega
   clear hb3
   go_wp2_with fail
   refine (B1a _ x _ w3 (HBG.o.below HB3.o) (Nat.le_trans LX.o.1 (by decide)) (Nat.le_trans LX.o.2 (by decide))).mono ?_
   rintro _ wa ⟨va,sa,rfl,ha,ho,hba⟩
   obtain ⟨G1,nG1,cG1,g1,G2,nG2,cG2,g2,rfl,z15,_,_⟩:=TRat.agg ha
   have AT:=A_ (A7i (ha.below (Below.box (.cells #[.bool x.num.neg,.slice G1 nG1 cG1,.slice G2 nG2 cG2] 35))))
   have HF:=A_ ((ho.below (Below.box (.cells #[.bool x.num.neg,.slice G1 nG1 cG1,.slice G2 nG2 cG2] 35))).free)
   have HR:=A_ (show ∀ b∈sa,wr.heap.size≤b from fun b hb=>by have:=(ho.2 b hb).1;have:=HB3.o.size;omega)
   have HBa:=A_ (show Below wr.heap.size wr wa from Below.next HB3.o hba)
   clear ha ho z15 hba
   go_wp2_with (at_builtin;refine A4t rfl _ _ 27 rfl 35 i0 (.agg #[.bool false,.slice none 0 0,.slice none 0 0]) 56 Tryz.underlying27 hi hz0 hz1 hz2 rfl HP.o (Below.next HBa.o (Below.box _)) (by go_simp;done) ⟨wa.heap.size,0,none⟩ 1 [.bool x.num.neg,.slice G1 nG1 cG1,.slice G2 nG2 cG2] x sa (by go_simp;done) (A0k (heap_alloc_new wa _)) AT.o HF.o HR.o C3.o C4.o ?_;intro g' cap' w8 hp' hgrow' hor')
   have HP8:=A_ (show Pend w w1 35 w8 g' (i+1) cap' ((A4v us t).take (i+1)) by rw[NX.o];exact hp')
   clear hp' hgrow' hor' AT HF HR HP
   go_wp2_with fail
   go_roundg g
   case measure=>omega
   case rel=>exact ⟨i+1,g',cap',hi'.o,by go_num,rfl,HP8⟩
  obtain rfl:i=3:=by omega
  clear hi3 hin
  go_wp2
  go_ret
  exact HP.o.done
end Go.Proofs.YtbhemnidcleaiaaGreat.X
namespace Go.Proofs.YtbhemnidcleaiaaGreat.X
open Go.RowKit Go.XB Go.XN
theorem D1a (a b c:TPoint) {k:Nat} (h:k<3):(C4a a b c)[k]?=some (A3i a b c k):=by
 obtain rfl | rfl | rfl:k=0∨k=1∨k=2:=by omega
 ·rfl
 ·rfl
 rfl
theorem C5n {us:List TRat} {t:TTri} {n:Nat} (hn:us.length=n) (it:A8c n t) (h:us.all S_=true):(A4v us t).all S_=true:=by
 have K:∀ j:Int,0≤j→j<n→S_ (B8e us j)=true:=fun j h0 h1=>by
  obtain ⟨x,hx⟩:∃ x,us[j.toNat]?=some x:=⟨_,List.getElem?_eq_getElem (by omega)⟩
  unfold B8e
  rw[A5l hx]
  exact List.all_eq_true.1 h x (List.mem_of_getElem? hx)
 unfold A4v
 simp only [List.all_cons,List.all_nil,Bool.and_true,Bool.and_eq_true]
 exact ⟨K _ it.1.1 it.1.2,K _ it.2.1.1 it.2.1.2,K _ it.2.2.1 it.2.2.2⟩
attribute [local go_sem] O_ Go.XB.opAt P_ M_ Region.wanted yielded
attribute [local simp] P_ M_ MP.eq MP.agg MP.aggS MP.aggN MP.sl MP.slbox MP.box A0e
theorem B4b (A:Option Addr) (cA:Nat) (a1 b1 c1:TPoint) (sA:List Nat) (B:Option Addr) (cB:Nat) (us:List TRat) (sB:List Nat) (w:World) (hx:Sl w A 3 cA [a1,b1,c1] sA) (hu:Sl w B 3 cB us sB) (hg:GradOk a1 b1 c1) (ho:us.all S_=true) :
  Calls Tryz.prog 99 #[.slice A 3 cA,.slice B 3 cB] w (B9b w (B0k a1 b1 c1 us 3)):=by
 have HX:=A_ hx;have HU:=A_ hu;have HG:=A_ hg;have HO:=A_ ho
 clear hx hu hg ho
 go_enter Tryz.func99,Tryz.ntmps99
 go_wp2_with fail
 refine (B7y A cA _ sA B cB us sB _ (HX.o.below Below.go) (HU.o.below Below.go) HG.o.pr HO.o).mono ?_
 rintro _ w1 ⟨rfl,hb1⟩
 obtain ⟨hc_w1,hf_w1⟩:=C_ hb1
 have hz0_w1:w.heap.size<w1.heap.size:=N_ hb1
 have HB1:=A_ (show Below w.heap.size w w1 from Below.go)
 have RS1:=A_ (show w1.heap[w.heap.size]?=some (.cells #[.bool false,.slice none 0 0,.slice none 0 0,.bool false,.slice none 0 0,.slice none 0 0] 38) from A0v (heap_alloc_new w _) hb1)
 clear hb1
 go_wp2_with fail
 refine (B4u 0 0 w1 (by constructor<;>decide) (by constructor<;>decide)).mono ?_
 rintro _ w2 ⟨v2,s2,rfl,ha2,ho2,hb2⟩
 obtain ⟨D1,nD1,cD1,d1,D2,nD2,cD2,d2,D4,nD4,cD4,d4,D5,nD5,cD5,d5,rfl,hz2,_,_,_,_⟩:=TPoint.agg ha2
 have HB2:=A_ hb2
 have AT2:=A_ (C6z ha2)
 have OW2:=A_ (show ∀ b∈s2,w1.heap.size≤b∧b<w2.heap.size from fun b hb=>⟨(ho2.2 b hb).1,ha2.lt b hb⟩)
 clear ha2 ho2 hb2 hz2 hc_w1 hf_w1
 go_upto_region 4 with fail
 obtain ⟨w3,hw3⟩:∃ w3,w3=w2.alloc (.cells #[.bool (V_ 0 0).x.num.neg,.slice D1 nD1 cD1,.slice D2 nD2 cD2,.bool (V_ 0 0).y.num.neg,.slice D4 nD4 cD4,.slice D5 nD5 cD5] 38):=⟨_,rfl⟩
 have B3:=A_ (show Below w2.heap.size w2 w3 by rw[hw3];exact Below.box _)
 have hw12:=HB2.o.size
 have P3:=A_ (show AccPt w w3 w2.heap.size w.heap.size (B0k a1 b1 c1 us 0) [.bool (V_ 0 0).x.num.neg,.slice D1 nD1 cD1,.slice D2 nD2 cD2,.bool (V_ 0 0).y.num.neg,.slice D4 nD4 cD4,.slice D5 nD5 cD5] s2 from
  ⟨Below.next (Below.next HB1.o HB2.o) B3.o,by rw[hw3];exact heap_alloc_new w2 _,Dat.keep AT2.o (fun b hb=>B3.o.block b (OW2.o b hb).2),fun b hb=>by have:=OW2.o b hb;omega,A0v (A0v RS1.o HB2.o) B3.o,by omega⟩)
 rw[← hw3]
 clear hw3 hz0_w1 RS1
 have N3:=A_ P3.o.bl
 go_wp2_with fail
 refine (B7u A cA a1 b1 c1 sA w3 (HX.o.below N3.o) HG.o).mono ?_
 rintro _ w4 ⟨E,nE,cE,eb,rfl,hse,hoe,hb4⟩
 obtain rfl:3=nE:=by rw[← hse.1];exact (B9e a1 b1 c1 3).symm
 have HSE:=A_ hse
 have P4:=A_ (P3.o.below hb4)
 have B4:=A_ (Below.refl w4.heap.size w4)
 have hg4:w2.heap.size<w4.heap.size:=E_ P4.o.bx
 have EBN:=A_ (show ∀ b∈eb,b≠w2.heap.size from fun b hb=>by have h1:=(hoe.2 b hb).1;have h2:=E_ P3.o.bx;omega)
 generalize w2.heap.size=gp at *
 clear hse hoe hb4 P3 AT2 OW2 B3 HB2 hw12
 go_wp2_with fail
 go_loopg [17] 3 (fun g s wr=>∃ (k:Nat) (V1:Option Addr) (m1 q1:Nat) (V2:Option Addr) (m2 q2:Nat) (V4:Option Addr) (m4 q4:Nat) (V5:Option Addr) (m5 q5:Nat) (r:List Nat),k+g=3∧s=.int .i64 k∧Hid (AccPt w wr gp w.heap.size (B0k a1 b1 c1 us k) [.bool (B0k a1 b1 c1 us k).x.num.neg,.slice V1 m1 q1,.slice V2 m2 q2,.bool (B0k a1 b1 c1 us k).y.num.neg,.slice V4 m4 q4,.slice V5 m5 q5] r)∧Hid (Below w4.heap.size w4 wr∨True)∧Hid (Sl wr E 3 cE (C4a a1 b1 c1) eb))
 case atStart=>exact ⟨0,D1,nD1,cD1,D2,nD2,cD2,D4,nD4,cD4,D5,nD5,cD5,s2,rfl,rfl,P4.o,.inr trivial,HSE.o⟩
 case round =>
  clear P4 B4 hg4 HSE
  obtain ⟨k,V1,m1,q1,V2,m2,q2,V4,m4,q4,V5,m5,q5,r,hk,rfl,HP,_,HSE⟩:=hrel
  rcases Nat.lt_or_ge k 3 with hk3 | hk3
  ·obtain ⟨g,rfl⟩:∃ g,gk=g+1:=⟨gk - 1,by omega⟩
   have hk':=A_ (show k+1+g=3 by omega)
   have hki:(k:Int)<3:=by omega
   have hki0:(0:Int)≤k:=by omega
   have BLr:=A_ HP.o.bl
   obtain ⟨be,oe,x,X1,nX1,cX1,x1,X2,nX2,cX2,x2,X4,nX4,cX4,x4,X5,nX5,cX5,x5,rfl,hbl,hx1,e0,e1,e2,e3,e4,e5,hag⟩:=TPoint.elemA HSE.o hk3
   obtain rfl:x=A3i a1 b1 c1 k:=by rw[D1a a1 b1 c1 hk3] at hx1;exact (Option.some.inj hx1).symm
   obtain ⟨bu,ou,u,U1,nU1,cU1,u1,U2,nU2,cU2,u2,rfl,hblu,hux,f0,f1,f2,hug⟩:=TRat.elemA (HU.o.below BLr.o) hk3
   have NX:=A_ (show B0k a1 b1 c1 us (k+1)=A9b (B0k a1 b1 c1 us k) (A2q u (A3i a1 b1 c1 k)) by rw[B0k,A5l hux])
   obtain ⟨gx,hgx⟩:∃ gx,A3i a1 b1 c1 k=gx:=⟨_,rfl⟩
   obtain ⟨acc,hacc⟩:∃ acc,B0k a1 b1 c1 us k=acc:=⟨_,rfl⟩
   rw[hgx] at hag NX e0 e3
   rw[hacc] at HP NX
   have HAG:=A_ hag;have HUG:=A_ hug
   clear hk hk3 hx1 hag hux hug hgx hacc
   go_upto_region 7 with fail
   obtain ⟨W1,hW1⟩:∃ W,W=wr.alloc (.cells #[.bool gx.x.num.neg,.slice X1 nX1 cX1,.slice X2 nX2 cX2,.bool gx.y.num.neg,.slice X4 nX4 cX4,.slice X5 nX5 cX5] 38):=⟨_,rfl⟩
   have K1:=A_ (show W1.heap[wr.heap.size]?=some (.cells #[.bool gx.x.num.neg,.slice X1 nX1 cX1,.slice X2 nX2 cX2,.bool gx.y.num.neg,.slice X4 nX4 cX4,.slice X5 nX5 cX5] 38) by rw[hW1];exact heap_alloc_new wr _)
   have B1:=A_ (show Below wr.heap.size wr W1 by rw[hW1];exact Below.box _)
   rw[← hW1]
   clear hW1 e0 e1 e2 e3 e4 e5
   have P1:=A_ (HP.o.below B1.o)
   have AC1:=A_ (show Agg W1 (.agg #[.bool acc.x.num.neg,.slice V1 m1 q1,.slice V2 m2 q2,.bool acc.y.num.neg,.slice V4 m4 q4,.slice V5 m5 q5]) acc r from ⟨_,rfl,P1.o.at_⟩)
   have UG1:=A_ (HUG.o.below B1.o)
   obtain ⟨y0,y0'⟩:=B_ P1.o.bx (j:=0) rfl
   obtain ⟨y1,y1'⟩:=B_ P1.o.bx (j:=1) rfl
   obtain ⟨y2,y2'⟩:=B_ P1.o.bx (j:=2) rfl
   obtain ⟨y3,y3'⟩:=B_ P1.o.bx (j:=3) rfl
   obtain ⟨y4,y4'⟩:=B_ P1.o.bx (j:=4) rfl
   obtain ⟨y5,y5'⟩:=B_ P1.o.bx (j:=5) rfl
   obtain ⟨z0,_⟩:=B_ K1.o (j:=0) rfl
   obtain ⟨z1,_⟩:=B_ K1.o (j:=1) rfl
   obtain ⟨z2,_⟩:=B_ K1.o (j:=2) rfl
   obtain ⟨z3,_⟩:=B_ K1.o (j:=3) rfl
   obtain ⟨z4,_⟩:=B_ K1.o (j:=4) rfl
   obtain ⟨z5,_⟩:=B_ K1.o (j:=5) rfl
   simp at y0 y1 y2 y3 y4 y5 z0 z1 z2 z3 z4 z5
   have g0:W1.cell? ⟨bu,ou+k*3,none⟩=some (.bool u.num.neg):=(B1.o.cell (p:=⟨bu,_,none⟩) hblu).trans f0
   have g1:W1.cell? ⟨bu,ou+k*3+1,none⟩=some (.slice U1 nU1 cU1):=(B1.o.cell (p:=⟨bu,_,none⟩) hblu).trans f1
   have g2:W1.cell? ⟨bu,ou+k*3+2,none⟩=some (.slice U2 nU2 cU2):=(B1.o.cell (p:=⟨bu,_,none⟩) hblu).trans f2
   have lz:wr.heap.size<W1.heap.size:=E_ K1.o
   have ly:gp<W1.heap.size:=E_ P1.o.bx
   have lu:bu<W1.heap.size:=by omega
   clear f0 f1 f2
   refine Z_ (by simp) ?_
   dsimp only [List.dropLast,List.getLast,List.length]
   iterate 6
    refine D_ _ ?_
   refine F_ (MP.agg (A2q u gx)) ?_ ?_
   ·intro yq zq wq hC hd
    obtain ⟨hcq,hfq⟩:=C_ hC
    simp at hd
    refine H_ ?_
    exact K_ (B1e _ _ u gx _ _ wq (UG1.o.below hC) ((HAG.o.below B1.o).below hC))
   refine F_ (MP.agg (A9b acc (A2q u gx))) ?_ ?_
   ·intro yq zq wq hC hd
    obtain ⟨hcq,hfq⟩:=C_ hC
    simp at hd
    refine H_ ?_
    exact K_ (B9l _ _ acc (A2q u gx) _ _ wq (AC1.o.below hC) (by obtain ⟨_,t⟩:=hd;first | exact t | exact t.1 | exact t.1.1))
   intro yq zq wa hC hd (hdis:Hid _)
   simp at hd
   have q7:=hd.2.2.2.2.2.2.2
   obtain ⟨⟨ha7,hf7⟩,hr7⟩:=q7
   rw[← NX.o] at ha7
   obtain ⟨G1,nG1,cG1,w1',G2,nG2,cG2,w2',G4,nG4,cG4,w4',G5,nG5,cG5,w5',y7,hz7,_,_,_,_⟩:=TPoint.agg ha7
   rw[y7] at ha7
   have P2:=A_ (P1.o.below hC)
   have hgr:gp<wr.heap.size:=E_ HP.o.bx
   have hlo:=HP.o.lo
   have S2:=A_ (P2.o.set (C6z ha7) (fun b hb=>by have:=(hr7 b hb).1;have:=B1.o.size;omega))
   have SE2:=A_ (((HSE.o.below B1.o).below hC).keep (fun b hb=>A0b gp [.bool (B0k a1 b1 c1 us (k+1)).x.num.neg,.slice G1 nG1 cG1,.slice G2 nG2 cG2,.bool (B0k a1 b1 c1 us (k+1)).y.num.neg,.slice G4 nG4 cG4,.slice G5 nG5 cG5] wa 0 b (EBN.o b hb)))
   obtain ⟨t0,t0'⟩:=B_ P2.o.bx (j:=0) rfl
   obtain ⟨t1,t1'⟩:=B_ P2.o.bx (j:=1) rfl
   obtain ⟨t2,t2'⟩:=B_ P2.o.bx (j:=2) rfl
   obtain ⟨t3,t3'⟩:=B_ P2.o.bx (j:=3) rfl
   obtain ⟨t4,t4'⟩:=B_ P2.o.bx (j:=4) rfl
   obtain ⟨t5,t5'⟩:=B_ P2.o.bx (j:=5) rfl
   simp at t0 t1 t2 t3 t4 t5
   have lga:gp<wa.heap.size:=E_ P2.o.bx
   generalize zq 7=r7 at *
   clear hd hdis ha7 hf7 hr7 hz7 hC P1 P2 AC1 UG1 HP HSE K1 B1 y0 y0' y1 y1' y2 y2' y3 y3' y4 y4' y5 y5' z0 z1 z2 z3 z4 z5 g0 g1 g2
   go_wp2_with fail
   go_roundg g
   case measure=>omega
   case rel=>exact ⟨k+1,G1,nG1,cG1,G2,nG2,cG2,G4,nG4,cG4,G5,nG5,cG5,r7,hk'.o,by go_simp,S2.o,.inr trivial,SE2.o⟩
  obtain rfl:k=3:=by omega
  have HOUT:=A_ HP.o.o
  obtain ⟨y0,y0'⟩:=B_ HP.o.bx (j:=0) rfl
  obtain ⟨y1,y1'⟩:=B_ HP.o.bx (j:=1) rfl
  obtain ⟨y2,y2'⟩:=B_ HP.o.bx (j:=2) rfl
  obtain ⟨y3,y3'⟩:=B_ HP.o.bx (j:=3) rfl
  obtain ⟨y4,y4'⟩:=B_ HP.o.bx (j:=4) rfl
  obtain ⟨y5,y5'⟩:=B_ HP.o.bx (j:=5) rfl
  obtain ⟨r0,r0'⟩:=B_ HP.o.rs (j:=0) rfl
  obtain ⟨r1,r1'⟩:=B_ HP.o.rs (j:=1) rfl
  obtain ⟨r2,r2'⟩:=B_ HP.o.rs (j:=2) rfl
  obtain ⟨r3,r3'⟩:=B_ HP.o.rs (j:=3) rfl
  obtain ⟨r4,r4'⟩:=B_ HP.o.rs (j:=4) rfl
  obtain ⟨r5,r5'⟩:=B_ HP.o.rs (j:=5) rfl
  simp at y0 y1 y2 y3 y4 y5 r0 r1 r2 r3 r4 r5
  have ly:gp<wr.heap.size:=E_ HP.o.bx
  have lw:w.heap.size<wr.heap.size:=E_ HP.o.rs
  clear HP HSE hk hk3
  go_wp2
  refine bodyPost_ret (v:=.agg #[.bool (B0k a1 b1 c1 us 3).x.num.neg,.slice V1 m1 q1,.slice V2 m2 q2,.bool (B0k a1 b1 c1 us 3).y.num.neg,.slice V4 m4 q4,.slice V5 m5 q5]) (by simp[results,Tryz.results99,go_sem, *]) rfl ?_
  exact HOUT.o
theorem A9s (v:Value) (m:TMesh) (b:List Nat) (B:Option Addr) (n d:Nat) (us:List TRat) (ds:List Nat) (k:Nat) (t:TTri) (w:World) (hx:Agg w v m b) (hu:Sl w B n d us ds) (hk:m.triangles[k]?=some t) (it:A8c m.points.length t) (hn:n=m.points.length)
  (hg:GradOk (A0c m.points t.a) (A0c m.points t.b) (A0c m.points t.c)) (ho:us.all S_=true) (hall:m.points.all A0r=true) (h40:m.points.length≤40) (h48:m.triangles.length≤48) :
  Calls Tryz.prog 45 #[v,.slice B n d,.int .i64 k] w (B9b w (B0k (A0c m.points t.a) (A0c m.points t.b) (A0c m.points t.c) (A4v us t) 3)):=by
 have HX:=A_ hx;have HU:=A_ hu;have HK:=A_ hk;have IT:=A_ it;have HG:=A_ hg;have HO:=A_ ho;have ALL:=A_ hall;have H40:=A_ h40;have H48:=A_ h48;have HN:=A_ hn
 have TO:=A_ (C5n (us:=us) (t:=t) hu.1 (by rw[hn];exact it) ho)
 have LM:=A_ (C8h ho)
 obtain ⟨A0,n0,c0,s0,A1,n1,c1,s1,rfl,rfl,hs0,hs1⟩:=TMesh.agg hx
 clear hs0 hs1 hx hu hk it hg ho hall h40 h48 hn
 go_enter Tryz.func45,Tryz.ntmps45
 go_upto_region 1 with fail
 obtain ⟨W,hW⟩:∃ W,W=(w.alloc (.cells #[.slice A0 n0 c0,.slice A1 n1 c1] 26)).alloc (.cells #[.bool false,.slice none 0 0,.slice none 0 0,.bool false,.slice none 0 0,.slice none 0 0] 38):=⟨_,rfl⟩
 have BW:=A_ (show Below w.heap.size w W by rw[hW];exact (Below.box _).alloc (by simp) _)
 have K0:=A_ (show W.heap[w.heap.size]?=some (.cells #[.slice A0 n0 c0,.slice A1 n1 c1] 26) by rw[hW];exact A0v (heap_alloc_new w _) (Below.box _))
 have K1:=A_ (show W.heap[w.heap.size+1]?=some (.cells #[.bool false,.slice none 0 0,.slice none 0 0,.bool false,.slice none 0 0,.slice none 0 0] 38) by
  rw[hW];have:=heap_alloc_new (w.alloc (.cells #[.slice A0 n0 c0,.slice A1 n1 c1] 26)) (.cells #[.bool false,.slice none 0 0,.slice none 0 0,.bool false,.slice none 0 0,.slice none 0 0] 38);rwa [World.size_alloc] at this)
 have ZW:=A_ (show W.heap.size=w.heap.size+2 by rw[hW];simp)
 rw[← hW]
 clear hW
 obtain ⟨e0,_⟩:=B_ K0.o (j:=0) rfl
 obtain ⟨e1,_⟩:=B_ K0.o (j:=1) rfl
 simp at e0 e1
 have l0:w.heap.size<W.heap.size:=E_ K0.o
 have l1:w.heap.size+1<W.heap.size:=E_ K1.o
 refine Z_ (by simp) ?_
 dsimp only [List.dropLast,List.getLast,List.length]
 iterate 2
  refine D_ _ ?_
 refine F_ (MP.sl (B2g m.points t)) ?_ ?_
 ·intro yq zq wq hC hd
  obtain ⟨hcq,hfq⟩:=C_ hC
  simp at hd
  refine H_ ?_
  exact A0q (B5b _ m _ k t wq ((HX.o.below BW.o).below hC) HK.o IT.o ALL.o H40.o H48.o)
 iterate 3
  refine D_ _ ?_
 refine F_ (MP.sl (A4v us t)) ?_ ?_
 ·intro yq zq wq hC hd
  obtain ⟨hcq,hfq⟩:=C_ hC
  simp at hd
  refine H_ ?_
  exact A0q (B4k _ m _ B n d us ds k t wq ((HX.o.below BW.o).below hC) ((HU.o.below BW.o).below hC) HK.o (by rw[HN.o];exact IT.o) LM.o (by rw[HN.o];exact H40.o) H48.o)
 refine F_ (MP.aggN (B0k (A0c m.points t.a) (A0c m.points t.b) (A0c m.points t.c) (A4v us t) 3)) ?_ ?_
 ·intro yq zq wq hC hd
  obtain ⟨hcq,hfq⟩:=C_ hC
  simp at hd
  obtain ⟨⟨⟨C,nC,cC,eC,hC1⟩,_⟩,⟨D,nD,cD,eD,hD1⟩,_⟩:=hd
  obtain rfl:3=nC:=hC1.1
  obtain rfl:3=nD:=hD1.1
  refine H_ ?_
  exact B3t (B4b C cC _ _ _ _ D cD _ _ wq hC1 hD1 HG.o TO.o)
 intro yq zq wa hC hd (hdis:Hid _)
 simp at hd
 have q7:=hd.2.2.2.2.2.2.2
 obtain ⟨ha,hr⟩:=q7
 generalize B0k (A0c m.points t.a) (A0c m.points t.b) (A0c m.points t.c) (A4v us t) 3=out at *
 obtain ⟨E1,nE1,cE1,u1,E2,nE2,cE2,u2,E4,nE4,cE4,u4,E5,nE5,cE5,u5,y8,z8,_,_,_,_⟩:=TPoint.agg ha
 rw[y8] at ha
 have HA:=A_ ha
 have HR:=A_ (show ∀ b∈zq 7,w.heap.size+2≤b from fun b hb=>by have:=(hr b hb).1;have:=ZW.o;omega)
 have KA:=A_ (A0v K1.o hC)
 have HBW:=A_ (Below.next BW.o hC)
 obtain ⟨d0,d0'⟩:=B_ KA.o (j:=0) rfl
 obtain ⟨d1,d1'⟩:=B_ KA.o (j:=1) rfl
 obtain ⟨d2,d2'⟩:=B_ KA.o (j:=2) rfl
 obtain ⟨d3,d3'⟩:=B_ KA.o (j:=3) rfl
 obtain ⟨d4,d4'⟩:=B_ KA.o (j:=4) rfl
 obtain ⟨d5,d5'⟩:=B_ KA.o (j:=5) rfl
 simp at d0 d1 d2 d3 d4 d5
 have la:w.heap.size+1<wa.heap.size:=E_ KA.o
 generalize zq 7=r8 at *
 clear hd hdis ha hr z8 hC e0 e1 l0 l1
 go_wp2
 refine bodyPost_ret (v:=.agg #[.bool out.x.num.neg,.slice E1 nE1 cE1,.slice E2 nE2 cE2,.bool out.y.num.neg,.slice E4 nE4 cE4,.slice E5 nE5 cE5]) (by simp[results,Tryz.results45,go_sem, *]) rfl ?_
 refine ⟨_,r8,rfl,HA.o.keep (fun b hb=>A0b (w.heap.size+1) [.bool out.x.num.neg,.slice E1 nE1 cE1,.slice E2 nE2 cE2,.bool out.y.num.neg,.slice E4 nE4 cE4,.slice E5 nE5 cE5] wa 0 b (by have:=HR.o b hb;omega)),fun b hb=>by have:=HR.o b hb;omega,?_⟩
 exact (((((HBW.o.setCell (p:=⟨w.heap.size+1,0,none⟩) (Nat.le_succ _) _).setCell (p:=⟨w.heap.size+1,1,none⟩) (Nat.le_succ _) _).setCell (p:=⟨w.heap.size+1,2,none⟩) (Nat.le_succ _) _).setCell (p:=⟨w.heap.size+1,3,none⟩) (Nat.le_succ _) _).setCell (p:=⟨w.heap.size+1,4,none⟩) (Nat.le_succ _) _).setCell (p:=⟨w.heap.size+1,5,none⟩) (Nat.le_succ _) _
end Go.Proofs.YtbhemnidcleaiaaGreat.X
namespace Go.Proofs.YtbhemnidcleaiaaGreat.X
open Go.RowKit Go.XB Go.XN
structure LinD (p:TProblem) (us:List TRat):Prop where
 tri:∀ t∈p.mesh.triangles,A8c p.mesh.points.length t∧(0≤t.region∧t.region<3)∧GradOk (A0c p.mesh.points t.a) (A0c p.mesh.points t.b) (A0c p.mesh.points t.c)
 ok:p.mesh.points.all A0r=true
 n40:p.mesh.points.length≤40
 t48:p.mesh.triangles.length≤48
 dl:p.diffusion.length=3
 ul:us.length=p.mesh.points.length
 uo:us.all S_=true
def grT (p:TProblem) (us:List TRat) (t:TTri):TPoint:=B0k (A0c p.mesh.points t.a) (A0c p.mesh.points t.b) (A0c p.mesh.points t.c) (A4v us t) 3
def B6y (p:TProblem) (t:TTri):TRat:=p.diffusion.getD t.region.toNat A1j
def leT (p:TProblem) (us:List TRat) (t:TTri):TRat:=A1c (A1c (B6y p t) (B1z (A0c p.mesh.points t.a) (A0c p.mesh.points t.b) (A0c p.mesh.points t.c))) (A9c (grT p us t) (grT p us t))
def owT (p:TProblem) (us:List TRat) (t:TTri) (d:TPoint):TRat:=B2t (A2q (B6y p t) (grT p us t)) d
attribute [local go_sem] O_ Go.XB.opAt P_ M_ Region.wanted yielded
attribute [local simp] P_ M_ MP.eq MP.agg MP.aggS MP.aggN MP.sl MP.slbox MP.box A0e
theorem B0f (v:Value) (p:TProblem) (b:List Nat) (B:Option Addr) (n d:Nat) (us:List TRat) (ds:List Nat) (k:Nat) (t:TTri) (w:World) (hx:Agg w v p b) (hu:Sl w B n d us ds) (hl:LinD p us) (hk:p.mesh.triangles[k]?=some t) :
  Calls Tryz.prog 38 #[v,.slice B n d,.int .i64 k] w (X_ w (leT p us t)):=by
 have HX:=A_ hx;have HU:=A_ hu;have HL:=A_ hl;have HK:=A_ hk
 have HT:=A_ (hl.tri t (List.mem_of_getElem? hk))
 have HN:=A_ (show n=p.mesh.points.length by rw[← hl.ul];exact hu.1.symm)
 obtain ⟨A0,n0,c0,s0,A1,n1,c1,s1,A2,n2,c2,s2,A3,n3,c3,s3,rfl,rfl,hs0,hs1,hs2,hs3⟩:=TProblem.agg hx
 have HMA:=A_ (TMesh.mkAgg (x:=p.mesh) hs0 hs1)
 clear hs0 hs1 hs2 hs3 hx hu hl hk
 go_enter Tryz.func38,Tryz.ntmps38
 go_upto_region 1 with fail
 obtain ⟨W,hW⟩:∃ W,W=(w.alloc (.cells #[.slice A0 n0 c0,.slice A1 n1 c1,.slice A2 n2 c2,.slice A3 n3 c3] 29)).alloc (.cells #[.bool false,.slice none 0 0,.slice none 0 0] 35):=⟨_,rfl⟩
 have BW:=A_ (show Below w.heap.size w W by rw[hW];exact (Below.box _).alloc (by simp) _)
 have K0:=A_ (show W.heap[w.heap.size]?=some (.cells #[.slice A0 n0 c0,.slice A1 n1 c1,.slice A2 n2 c2,.slice A3 n3 c3] 29) by rw[hW];exact A0v (heap_alloc_new w _) (Below.box _))
 have K1:=A_ (show W.heap[w.heap.size+1]?=some (.cells #[.bool false,.slice none 0 0,.slice none 0 0] 35) by
  rw[hW];have:=heap_alloc_new (w.alloc (.cells #[.slice A0 n0 c0,.slice A1 n1 c1,.slice A2 n2 c2,.slice A3 n3 c3] 29)) (.cells #[.bool false,.slice none 0 0,.slice none 0 0] 35);rwa [World.size_alloc] at this)
 have ZW:=A_ (show W.heap.size=w.heap.size+2 by rw[hW];simp)
 rw[← hW]
 clear hW
 obtain ⟨e0,_⟩:=B_ K0.o (j:=0) rfl
 obtain ⟨e1,_⟩:=B_ K0.o (j:=1) rfl
 simp at e0 e1
 have l0:w.heap.size<W.heap.size:=E_ K0.o
 go_wp2_with fail
 refine (A9s _ p.mesh _ B n d us ds k t W (HMA.o.below BW.o) (HU.o.below BW.o) HK.o HT.o.1 HN.o HT.o.2.2 HL.o.uo HL.o.ok HL.o.n40 HL.o.t48).mono ?_
 rintro _ w1 ⟨v1,s1',rfl,ha1,hn1,hb1⟩
 obtain ⟨g,hg⟩:∃ g,grT p us t=g:=⟨_,rfl⟩
 rw[show B0k (A0c p.mesh.points t.a) (A0c p.mesh.points t.b) (A0c p.mesh.points t.c) (A4v us t) 3=g from hg] at ha1
 have LE:=A_ (show leT p us t=A1c (A1c (B6y p t) (B1z (A0c p.mesh.points t.a) (A0c p.mesh.points t.b) (A0c p.mesh.points t.c))) (A9c g g) by rw[leT,hg])
 obtain ⟨E1,nE1,cE1,u1,E2,nE2,cE2,u2,E4,nE4,cE4,u4,E5,nE5,cE5,u5,rfl,z8,_,_,_,_⟩:=TPoint.agg ha1
 have HA1:=A_ ha1;have HB1:=A_ hb1
 clear ha1 hn1 hb1 z8 e0 e1 l0 hg
 go_upto_region 2 with fail
 obtain ⟨W1,hW1⟩:∃ W1,W1=w1.alloc (.cells #[.bool g.x.num.neg,.slice E1 nE1 cE1,.slice E2 nE2 cE2,.bool g.y.num.neg,.slice E4 nE4 cE4,.slice E5 nE5 cE5] 38):=⟨_,rfl⟩
 have BX:=A_ (show Below w1.heap.size w1 W1 by rw[hW1];exact Below.box _)
 have KG:=A_ (show W1.heap[w1.heap.size]?=some (.cells #[.bool g.x.num.neg,.slice E1 nE1 cE1,.slice E2 nE2 cE2,.bool g.y.num.neg,.slice E4 nE4 cE4,.slice E5 nE5 cE5] 38) by rw[hW1];exact heap_alloc_new w1 _)
 rw[← hW1]
 clear hW1
 have BW1:=A_ (Below.next (Below.next BW.o HB1.o) BX.o)
 have K01:=A_ (A0v (A0v K0.o HB1.o) BX.o)
 have K11:=A_ (A0v (A0v K1.o HB1.o) BX.o)
 have AG:=A_ (HA1.o.below BX.o)
 obtain ⟨e0,_⟩:=B_ K01.o (j:=0) rfl
 obtain ⟨e1,_⟩:=B_ K01.o (j:=1) rfl
 obtain ⟨e2,_⟩:=B_ K01.o (j:=2) rfl
 obtain ⟨e3,_⟩:=B_ K01.o (j:=3) rfl
 obtain ⟨y0,_⟩:=B_ KG.o (j:=0) rfl
 obtain ⟨y1,_⟩:=B_ KG.o (j:=1) rfl
 obtain ⟨y2,_⟩:=B_ KG.o (j:=2) rfl
 obtain ⟨y3,_⟩:=B_ KG.o (j:=3) rfl
 obtain ⟨y4,_⟩:=B_ KG.o (j:=4) rfl
 obtain ⟨y5,_⟩:=B_ KG.o (j:=5) rfl
 simp at e0 e1 e2 e3 y0 y1 y2 y3 y4 y5
 have l0:w.heap.size<W1.heap.size:=E_ K01.o
 have lg:w1.heap.size<W1.heap.size:=E_ KG.o
 have lw:w.heap.size+2≤W1.heap.size:=by have:=ZW.o;have:=HB1.o.size;have:=BX.o.size;omega
 refine Z_ (by simp) ?_
 dsimp only [List.dropLast,List.getLast,List.length]
 iterate 2
  refine D_ _ ?_
 refine F_ (MP.aggS (B6y p t)) ?_ ?_
 ·intro yq zq wq hC hd
  obtain ⟨hcq,hfq⟩:=C_ hC
  simp at hd
  refine H_ ?_
  exact B3g (B2e _ p _ k t wq ((HX.o.below BW1.o).below hC) HK.o HL.o.dl HT.o.2.1)
 iterate 3
  refine D_ _ ?_
 refine F_ (MP.sl (B2g p.mesh.points t)) ?_ ?_
 ·intro yq zq wq hC hd
  obtain ⟨hcq,hfq⟩:=C_ hC
  simp at hd
  refine H_ ?_
  exact A0q (B5b _ p.mesh _ k t wq ((HMA.o.below BW1.o).below hC) HK.o HT.o.1 HL.o.ok HL.o.n40 HL.o.t48)
 refine F_ (MP.agg (B1z (A0c p.mesh.points t.a) (A0c p.mesh.points t.b) (A0c p.mesh.points t.c))) ?_ ?_
 ·intro yq zq wq hC hd
  obtain ⟨hcq,hfq⟩:=C_ hC
  simp at hd
  obtain ⟨⟨C,nC,cC,eC,hC1⟩,_⟩:=hd
  obtain rfl:3=nC:=hC1.1
  refine H_ ?_
  exact K_ (C8j C cC _ _ _ _ wq hC1)
 refine F_ (MP.agg (A1c (B6y p t) (B1z (A0c p.mesh.points t.a) (A0c p.mesh.points t.b) (A0c p.mesh.points t.c)))) ?_ ?_
 ·intro yq zq wq hC hd
  obtain ⟨hcq,hfq⟩:=C_ hC
  simp at hd
  refine H_ ?_
  obtain ⟨⟨_,s4,t1⟩,t2⟩:=hd
  exact K_ (A3l _ _ (B6y p t) _ _ _ wq t1 (by first | exact t2.1 | exact t2.1.1))
 iterate 2
  refine D_ _ ?_
 refine F_ (MP.agg (A9c g g)) ?_ ?_
 ·intro yq zq wq hC hd
  obtain ⟨hcq,hfq⟩:=C_ hC
  simp at hd
  refine H_ ?_
  exact K_ (C5t _ _ g g _ _ wq (AG.o.below hC) (AG.o.below hC))
 refine F_ (MP.agg (leT p us t)) ?_ ?_
 ·intro yq zq wq hC hd
  obtain ⟨hcq,hfq⟩:=C_ hC
  simp at hd
  refine H_ ?_
  rw[LE.o]
  obtain ⟨t1,t2⟩:=hd
  exact K_ (A3l _ _ _ (A9c g g) _ _ wq t1.1 (by first | exact t2.1 | exact t2.1.1))
 intro yq zq wa hC hd (hdis:Hid _)
 simp at hd
 have q12:=hd.2.2.2.2.2.2.2.2.2.2.2.2
 obtain ⟨⟨ha,hf⟩,hr⟩:=q12
 generalize leT p us t=out at *
 obtain ⟨D1,nD1,cD1,d1,D2,nD2,cD2,d2,y9,z9,_,_⟩:=TRat.agg ha
 rw[y9] at ha
 have HA:=A_ ha;have HF:=A_ hf
 have HR:=A_ (show ∀ b∈zq 12,w.heap.size+2≤b from fun b hb=>by have:=(hr b hb).1;omega)
 have KA:=A_ (A0v K11.o hC)
 have hbw:=Below.next BW1.o hC
 obtain ⟨x0,x0'⟩:=B_ KA.o (j:=0) rfl
 obtain ⟨x1,x1'⟩:=B_ KA.o (j:=1) rfl
 obtain ⟨x2,x2'⟩:=B_ KA.o (j:=2) rfl
 simp at x0 x1 x2
 have la:w.heap.size+1<wa.heap.size:=E_ KA.o
 generalize zq 12=r8 at *
 clear hd hdis ha hf hr z9 hC e0 e1 e2 e3 y0 y1 y2 y3 y4 y5
 go_wp2
 refine bodyPost_ret (v:=.agg #[.bool out.num.neg,.slice D1 nD1 cD1,.slice D2 nD2 cD2]) (by simp[results,Tryz.results38,go_sem, *]) rfl ?_
 refine A0o (lo:=w.heap.size+2) HA.o HF.o HR.o (by omega) ?_ ?_
 ·exact Above.go
 exact Below.go
theorem B5e (v:Value) (p:TProblem) (b:List Nat) (B:Option Addr) (n d:Nat) (us:List TRat) (ds:List Nat) (k:Nat) (t:TTri) (vd:Value) (dd:TPoint) (bd:List Nat) (w:World) (hx:Agg w v p b) (hu:Sl w B n d us ds) (hl:LinD p us) (hk:p.mesh.triangles[k]?=some t) (hd0:Agg w vd dd bd) :
  Calls Tryz.prog 34 #[v,.slice B n d,.int .i64 k,vd] w (X_ w (owT p us t dd)):=by
 have HX:=A_ hx;have HU:=A_ hu;have HL:=A_ hl;have HK:=A_ hk;have HD:=A_ hd0
 have HT:=A_ (hl.tri t (List.mem_of_getElem? hk))
 have HN:=A_ (show n=p.mesh.points.length by rw[← hl.ul];exact hu.1.symm)
 obtain ⟨A0,n0,c0,s0,A1,n1,c1,s1,A2,n2,c2,s2,A3,n3,c3,s3,rfl,rfl,hs0,hs1,hs2,hs3⟩:=TProblem.agg hx
 obtain ⟨Q1,nQ1,cQ1,r1,Q2,nQ2,cQ2,r2,Q4,nQ4,cQ4,r4,Q5,nQ5,cQ5,r5,rfl,rfl,_,_,_,_⟩:=TPoint.agg hd0
 have HMA:=A_ (TMesh.mkAgg (x:=p.mesh) hs0 hs1)
 clear hs0 hs1 hs2 hs3 hx hu hl hk hd0
 go_enter Tryz.func34,Tryz.ntmps34
 go_upto_region 1 with fail
 obtain ⟨W,hW⟩:∃ W,W=((w.alloc (.cells #[.slice A0 n0 c0,.slice A1 n1 c1,.slice A2 n2 c2,.slice A3 n3 c3] 29)).alloc (.cells #[.bool dd.x.num.neg,.slice Q1 nQ1 cQ1,.slice Q2 nQ2 cQ2,.bool dd.y.num.neg,.slice Q4 nQ4 cQ4,.slice Q5 nQ5 cQ5] 38)).alloc (.cells #[.bool false,.slice none 0 0,.slice none 0 0] 35):=⟨_,rfl⟩
 have BW:=A_ (show Below w.heap.size w W by rw[hW];exact ((Below.box _).alloc (by simp) _).alloc (by simp;omega) _)
 have K0:=A_ (show W.heap[w.heap.size]?=some (.cells #[.slice A0 n0 c0,.slice A1 n1 c1,.slice A2 n2 c2,.slice A3 n3 c3] 29) by rw[hW];exact A0v (A0v (heap_alloc_new w _) (Below.box _)) (Below.box _))
 have KD:=A_ (show W.heap[w.heap.size+1]?=some (.cells #[.bool dd.x.num.neg,.slice Q1 nQ1 cQ1,.slice Q2 nQ2 cQ2,.bool dd.y.num.neg,.slice Q4 nQ4 cQ4,.slice Q5 nQ5 cQ5] 38) by
  rw[hW];have:=A0v (heap_alloc_new (w.alloc (.cells #[.slice A0 n0 c0,.slice A1 n1 c1,.slice A2 n2 c2,.slice A3 n3 c3] 29)) (.cells #[.bool dd.x.num.neg,.slice Q1 nQ1 cQ1,.slice Q2 nQ2 cQ2,.bool dd.y.num.neg,.slice Q4 nQ4 cQ4,.slice Q5 nQ5 cQ5] 38)) (Below.box (.cells #[.bool false,.slice none 0 0,.slice none 0 0] 35));rwa [World.size_alloc] at this)
 have K1:=A_ (show W.heap[w.heap.size+2]?=some (.cells #[.bool false,.slice none 0 0,.slice none 0 0] 35) by
  rw[hW];have:=heap_alloc_new ((w.alloc (.cells #[.slice A0 n0 c0,.slice A1 n1 c1,.slice A2 n2 c2,.slice A3 n3 c3] 29)).alloc (.cells #[.bool dd.x.num.neg,.slice Q1 nQ1 cQ1,.slice Q2 nQ2 cQ2,.bool dd.y.num.neg,.slice Q4 nQ4 cQ4,.slice Q5 nQ5 cQ5] 38)) (.cells #[.bool false,.slice none 0 0,.slice none 0 0] 35);rwa [World.size_alloc,World.size_alloc] at this)
 have ZW:=A_ (show W.heap.size=w.heap.size+3 by rw[hW];simp)
 rw[← hW]
 clear hW
 obtain ⟨e0,_⟩:=B_ K0.o (j:=0) rfl
 obtain ⟨e1,_⟩:=B_ K0.o (j:=1) rfl
 obtain ⟨e2,_⟩:=B_ K0.o (j:=2) rfl
 obtain ⟨e3,_⟩:=B_ K0.o (j:=3) rfl
 obtain ⟨y0,_⟩:=B_ KD.o (j:=0) rfl
 obtain ⟨y1,_⟩:=B_ KD.o (j:=1) rfl
 obtain ⟨y2,_⟩:=B_ KD.o (j:=2) rfl
 obtain ⟨y3,_⟩:=B_ KD.o (j:=3) rfl
 obtain ⟨y4,_⟩:=B_ KD.o (j:=4) rfl
 obtain ⟨y5,_⟩:=B_ KD.o (j:=5) rfl
 simp at e0 e1 e2 e3 y0 y1 y2 y3 y4 y5
 have l0:w.heap.size<W.heap.size:=E_ K0.o
 have l1:w.heap.size+1<W.heap.size:=E_ KD.o
 have HDW:=A_ (HD.o.below BW.o)
 refine Z_ (by simp) ?_
 dsimp only [List.dropLast,List.getLast,List.length]
 iterate 2
  refine D_ _ ?_
 refine F_ (MP.aggS (B6y p t)) ?_ ?_
 ·intro yq zq wq hC hd
  obtain ⟨hcq,hfq⟩:=C_ hC
  simp at hd
  refine H_ ?_
  exact B3g (B2e _ p _ k t wq ((HX.o.below BW.o).below hC) HK.o HL.o.dl HT.o.2.1)
 iterate 4
  refine D_ _ ?_
 refine F_ (MP.aggN (grT p us t)) ?_ ?_
 ·intro yq zq wq hC hd
  obtain ⟨hcq,hfq⟩:=C_ hC
  simp at hd
  refine H_ ?_
  exact B3t (A9s _ p.mesh _ B n d us ds k t wq ((HMA.o.below BW.o).below hC) ((HU.o.below BW.o).below hC) HK.o HT.o.1 HN.o HT.o.2.2 HL.o.uo HL.o.ok HL.o.n40 HL.o.t48)
 refine F_ (MP.agg (A2q (B6y p t) (grT p us t))) ?_ ?_
 ·intro yq zq wq hC hd
  obtain ⟨hcq,hfq⟩:=C_ hC
  simp at hd
  refine H_ ?_
  obtain ⟨⟨_,s4,t1⟩,t2⟩:=hd
  exact K_ (B1e _ _ (B6y p t) (grT p us t) _ _ wq t1 (by first | exact t2 | exact t2.1))
 refine D_ _ ?_
 refine F_ (MP.agg (owT p us t dd)) ?_ ?_
 ·intro yq zq wq hC hd
  obtain ⟨hcq,hfq⟩:=C_ hC
  simp at hd
  refine H_ ?_
  obtain ⟨t1,_⟩:=hd
  exact K_ (B7v _ _ (A2q (B6y p t) (grT p us t)) dd _ _ wq t1.1 (HDW.o.below hC))
 intro yq zq wa hC hd (hdis:Hid _)
 simp at hd
 have q10:=hd.2.2.2.2.2.2.2.2.2.2
 obtain ⟨⟨ha,hf⟩,hr⟩:=q10
 generalize owT p us t dd=out at *
 obtain ⟨D1,nD1,cD1,d1,D2,nD2,cD2,d2,y9,z9,_,_⟩:=TRat.agg ha
 rw[y9] at ha
 have HA:=A_ ha;have HF:=A_ hf
 have HR:=A_ (show ∀ b∈zq 10,w.heap.size+3≤b from fun b hb=>by have:=(hr b hb).1;have:=ZW.o;omega)
 have KA:=A_ (A0v K1.o hC)
 have hbw:=Below.next BW.o hC
 obtain ⟨x0,x0'⟩:=B_ KA.o (j:=0) rfl
 obtain ⟨x1,x1'⟩:=B_ KA.o (j:=1) rfl
 obtain ⟨x2,x2'⟩:=B_ KA.o (j:=2) rfl
 simp at x0 x1 x2
 have la:w.heap.size+2<wa.heap.size:=E_ KA.o
 generalize zq 10=r8 at *
 clear hd hdis ha hf hr z9 hC e0 e1 e2 e3 y0 y1 y2 y3 y4 y5
 go_wp2
 refine bodyPost_ret (v:=.agg #[.bool out.num.neg,.slice D1 nD1 cD1,.slice D2 nD2 cD2]) (by simp[results,Tryz.results34,go_sem, *]) rfl ?_
 refine A0o (lo:=w.heap.size+3) HA.o HF.o HR.o (by omega) ?_ ?_
 ·exact Above.go
 exact Below.go
end Go.Proofs.YtbhemnidcleaiaaGreat.X
namespace Go.Proofs.YtbhemnidcleaiaaGreat.X
open Go.RowKit Go.XB Go.XN
def B5h (p:TProblem) (us:List TRat):Nat→List TRat
 | 0=>[]
 | k+1=>B5h p us k++[leT p us (p.mesh.triangles.getD k ⟨0,0,0,0,0⟩)]
def leL (p:TProblem) (us:List TRat):List TRat:=B5h p us p.mesh.triangles.length
attribute [local go_sem] O_ Go.XB.opAt P_ M_ Region.wanted yielded
attribute [local simp] P_ M_ MP.eq MP.agg MP.aggS MP.aggN MP.sl MP.slbox MP.box A0e
theorem C1q (v:Value) (m:TMesh) (b:List Nat) (xs ys:List Int) (w:World) (hx:Agg w v m b) (hm:MeshI m xs ys) :
  Calls Tryz.prog 11 #[v] w (A2t w (A2m m.triangles)):=by
 have HX:=A_ hx;have HM:=A_ hm
 obtain ⟨A0,n0,c0,s0,A1,n1,c1,s1,rfl,rfl,hs0,hs1⟩:=TMesh.agg hx
 clear hs0 hs1 hx hm
 go_enter Tryz.func11,Tryz.ntmps11
 go_wp2_with fail
 refine (B6p _ m _ xs ys _ (HX.o.below Below.go) HM.o).mono ?_
 rintro _ w1 ⟨rfl,hb1⟩
 obtain ⟨hc_w1,hf_w1⟩:=C_ hb1
 have hz0_w1:w.heap.size<w1.heap.size:=N_ hb1
 have HB1:=A_ (show Below w.heap.size w w1 from Below.go)
 go_wp2_with fail
 refine (B9f _ m _ w1 (HX.o.below HB1.o) HM.o.t48).mono ?_
 rintro _ w2 ⟨E,nE,cE,eb,rfl,hse,hoe,hb2⟩
 have HSE:=A_ hse;have HOE:=A_ (hoe.older HB1.o.size)
 have HB2:=A_ (Below.next HB1.o hb2)
 clear hse hoe
 go_wp2
 go_ret
 exact ⟨E,nE,cE,eb,rfl,HSE.o,HOE.o,HB2.o⟩
theorem B6z (v:Value) (p:TProblem) (b:List Nat) (B:Option Addr) (n d:Nat) (us:List TRat) (ds:List Nat) (k:Nat) (t:TTri) (w:World) (hx:Agg w v p.mesh b) (hu:Sl w B n d us ds) (hl:LinD p us) (hk:p.mesh.triangles[k]?=some t) :
  Calls Tryz.prog 16 #[v,.slice B n d,.int .i64 k] w (B9b w (grT p us t)):=by
 have HX:=A_ hx;have HU:=A_ hu;have HL:=A_ hl;have HK:=A_ hk
 have HT:=A_ (hl.tri t (List.mem_of_getElem? hk))
 have HN:=A_ (show n=p.mesh.points.length by rw[← hl.ul];exact hu.1.symm)
 obtain ⟨A0,n0,c0,s0,A1,n1,c1,s1,rfl,rfl,hs0,hs1⟩:=TMesh.agg hx
 obtain rfl:n=n0:=by rw[HN.o];exact hs0.1
 have hkn:k<n1:=by rw[← hs1.1];exact (List.getElem?_eq_some_iff.1 hk).1
 have hn1:n1≤48:=by rw[← hs1.1];exact hl.t48
 have hn1i:(n1:Int)≤48:=by omega
 have WK:=A_ (show inB 0 (k:Int) ((n1:Int) - 1)=true by unfold inB;simp;omega)
 clear hs0 hs1 hx hu hl hk
 go_enter Tryz.func16,Tryz.ntmps16
 go_upto_region 1 with fail
 obtain ⟨W,hW⟩:∃ W,W=(w.alloc (.cells #[.slice A0 n c0,.slice A1 n1 c1] 26)).alloc (.cells #[.bool false,.slice none 0 0,.slice none 0 0,.bool false,.slice none 0 0,.slice none 0 0] 38):=⟨_,rfl⟩
 have BW:=A_ (show Below w.heap.size w W by rw[hW];exact (Below.box _).alloc (by simp) _)
 have K0:=A_ (show W.heap[w.heap.size]?=some (.cells #[.slice A0 n c0,.slice A1 n1 c1] 26) by rw[hW];exact A0v (heap_alloc_new w _) (Below.box _))
 have K1:=A_ (show W.heap[w.heap.size+1]?=some (.cells #[.bool false,.slice none 0 0,.slice none 0 0,.bool false,.slice none 0 0,.slice none 0 0] 38) by
  rw[hW];have:=heap_alloc_new (w.alloc (.cells #[.slice A0 n c0,.slice A1 n1 c1] 26)) (.cells #[.bool false,.slice none 0 0,.slice none 0 0,.bool false,.slice none 0 0,.slice none 0 0] 38);rwa [World.size_alloc] at this)
 have ZW:=A_ (show W.heap.size=w.heap.size+2 by rw[hW];simp)
 rw[← hW]
 clear hW
 obtain ⟨e0,-⟩:=B_ K0.o (j:=0) rfl
 obtain ⟨e1,-⟩:=B_ K0.o (j:=1) rfl
 simp at e0 e1
 have l0:w.heap.size<W.heap.size:=E_ K0.o
 go_wp2_with fail
 have C:=A0z k 0 ((n1:Int) - 1) W
 rw[WK.o] at C
 refine C.mono ?_
 clear C
 rintro _ w1 ⟨rfl,hb1⟩
 have K01:=A_ (A0v K0.o hb1);have K11:=A_ (A0v K1.o hb1)
 have B1:=A_ (Below.next BW.o hb1)
 have hs1:=hb1.size
 clear e0 e1 l0 hb1
 obtain ⟨e0,-⟩:=B_ K01.o (j:=0) rfl
 obtain ⟨e1,-⟩:=B_ K01.o (j:=1) rfl
 simp at e0 e1
 have l0:w.heap.size<w1.heap.size:=E_ K01.o
 go_wp2_with fail
 refine (A5x B n d us ds w1 (HU.o.below B1.o) HL.o.uo).mono ?_
 rintro _ w2 ⟨rfl,hb2⟩
 have K02:=A_ (A0v K01.o hb2);have K12:=A_ (A0v K11.o hb2)
 have B2:=A_ (Below.next B1.o hb2)
 have ZW2:=A_ (show w.heap.size+2≤w2.heap.size by have:=hb2.size;have:=ZW.o;omega)
 clear e0 e1 l0 hb2 hs1
 obtain ⟨e0,-⟩:=B_ K02.o (j:=0) rfl
 obtain ⟨e1,-⟩:=B_ K02.o (j:=1) rfl
 simp at e0 e1
 have l0:w.heap.size<w2.heap.size:=E_ K02.o
 go_wp2_with fail
 refine (A9s _ p.mesh _ B n d us ds k t w2 (HX.o.below B2.o) (HU.o.below B2.o) HK.o HT.o.1 HN.o HT.o.2.2 HL.o.uo HL.o.ok HL.o.n40 HL.o.t48).mono ?_
 rintro _ w3 ⟨v3,s3,rfl,ha,hn3,hb3⟩
 rw[show B0k (A0c p.mesh.points t.a) (A0c p.mesh.points t.b) (A0c p.mesh.points t.c) (A4v us t) 3=grT p us t from rfl] at ha
 generalize grT p us t=out at *
 obtain ⟨E1,nE1,cE1,u1,E2,nE2,cE2,u2,E4,nE4,cE4,u4,E5,nE5,cE5,u5,rfl,z8,_,_,_,_⟩:=TPoint.agg ha
 have HA:=A_ ha
 have HR:=A_ (show ∀ b∈s3,w.heap.size+2≤b from fun b hb=>by have:=hn3 b hb;have:=ZW2.o;omega)
 have KA:=A_ (A0v K12.o hb3)
 have HBW:=A_ (Below.next B2.o hb3)
 obtain ⟨d0,d0'⟩:=B_ KA.o (j:=0) rfl
 obtain ⟨d1,d1'⟩:=B_ KA.o (j:=1) rfl
 obtain ⟨d2,d2'⟩:=B_ KA.o (j:=2) rfl
 obtain ⟨d3,d3'⟩:=B_ KA.o (j:=3) rfl
 obtain ⟨d4,d4'⟩:=B_ KA.o (j:=4) rfl
 obtain ⟨d5,d5'⟩:=B_ KA.o (j:=5) rfl
 simp at d0 d1 d2 d3 d4 d5
 have la:w.heap.size+1<w3.heap.size:=E_ KA.o
 clear ha hn3 hb3 z8 e0 e1 l0
 go_wp2
 refine bodyPost_ret (v:=.agg #[.bool out.x.num.neg,.slice E1 nE1 cE1,.slice E2 nE2 cE2,.bool out.y.num.neg,.slice E4 nE4 cE4,.slice E5 nE5 cE5]) (by simp[results,Tryz.results16,go_sem, *]) rfl ?_
 refine ⟨_,s3,rfl,HA.o.keep (fun b hb=>A0b (w.heap.size+1) [.bool out.x.num.neg,.slice E1 nE1 cE1,.slice E2 nE2 cE2,.bool out.y.num.neg,.slice E4 nE4 cE4,.slice E5 nE5 cE5] w3 0 b (by have:=HR.o b hb;omega)),fun b hb=>by have:=HR.o b hb;omega,?_⟩
 exact (((((HBW.o.setCell (p:=⟨w.heap.size+1,0,none⟩) (Nat.le_succ _) _).setCell (p:=⟨w.heap.size+1,1,none⟩) (Nat.le_succ _) _).setCell (p:=⟨w.heap.size+1,2,none⟩) (Nat.le_succ _) _).setCell (p:=⟨w.heap.size+1,3,none⟩) (Nat.le_succ _) _).setCell (p:=⟨w.heap.size+1,4,none⟩) (Nat.le_succ _) _).setCell (p:=⟨w.heap.size+1,5,none⟩) (Nat.le_succ _) _
theorem B3s (v:Value) (p:TProblem) (b:List Nat) (xs ys:List Int) (B:Option Addr) (n d:Nat) (us:List TRat) (ds:List Nat) (w:World) (hx:Agg w v p b) (hp:ProbI p xs ys) (hu:Sl w B n d us ds) (hl:LinD p us) (hok:(leL p us).any A9u=false) :
  Calls Tryz.prog 10 #[v,.slice B n d] w (A2t w (leL p us)):=by
 have HX:=A_ hx;have HU:=A_ hu;have HL:=A_ hl;have HPB:=A_ hp;have HOK:=A_ hok
 have HN:=A_ (show n=p.mesh.points.length by rw[← hl.ul];exact hu.1.symm)
 obtain ⟨A0,n0,c0,s0,A1,n1,c1,s1,A2,n2,c2,s2,A3,n3,c3,s3,rfl,rfl,hs0,hs1,hs2,hs3⟩:=TProblem.agg hx
 have HT1:=A_ hs1.1
 have hn1:n1≤48:=by rw[← hs1.1];exact hl.t48
 have hn1i:(n1:Int)≤48:=by omega
 obtain ⟨i0,hi,hz0,hz1,hz2⟩:=info_parts B9z
 clear hs0 hs1 hs2 hs3 hx hu hl hp hok
 go_enter Tryz.func10,Tryz.ntmps10
 go_wp2_with fail
 refine (A9z _ p _ xs ys B n d us ds _ (HX.o.below Below.go) HPB.o (HU.o.below Below.go) HL.o.uo HN.o).mono ?_
 rintro _ w1 ⟨rfl,hb1⟩
 have K1:=A_ (A0v (heap_alloc_new w (.cells #[.slice A0 n0 c0,.slice A1 n1 c1,.slice A2 n2 c2,.slice A3 n3 c3] 29)) hb1)
 have HB1:=A_ (show Below w.heap.size w w1 from Below.go)
 obtain ⟨e0,-⟩:=B_ K1.o (j:=0) rfl
 obtain ⟨e1,-⟩:=B_ K1.o (j:=1) rfl
 obtain ⟨e2,-⟩:=B_ K1.o (j:=2) rfl
 obtain ⟨e3,-⟩:=B_ K1.o (j:=3) rfl
 simp at e0 e1 e2 e3
 have l0:w.heap.size<w1.heap.size:=E_ K1.o
 have P0:=A_ (Pend.start (α:=TRat) (e:=35) HB1.o)
 clear hb1
 go_wp2_with fail
 go_loopg [5,16] n1 (fun g s3 s wr=>∃ (i gB cap:Nat),i+g=n1∧s=.int .i64 i∧s3=.slice (some ⟨gB,0,none⟩) i cap∧Hid (Pend w w1 35 wr gB i cap (B5h p us i)))
 case atStart=>exact ⟨0,w1.heap.size,0,by omega,rfl,rfl,P0.o⟩
 case round =>
  clear P0 e0 e1 e2 e3 l0
  obtain ⟨i,gB,cap,hi3,rfl,rfl,HP⟩:=hrel
  have HBW:=A_ HP.o.bw
  have KR:=A_ (A0v K1.o HP.o.bb)
  rcases Nat.lt_or_ge i n1 with hin | hin
  ·have hii:(i:Int)<n1:=by omega
   have hii0:(0:Int)≤i:=by omega
   obtain ⟨g,rfl⟩:∃ g,gk=g+1:=⟨gk - 1,by omega⟩
   have hi':=A_ (show i+1+g=n1 by omega)
   have hi1:i+1≤n1:=hin
   have C3:=A_ (show i+1≤maxLen by unfold maxLen;omega)
   have C4:=A_ (show (i+1)*56≤140737488355328 by omega)
   obtain ⟨t,ht⟩:∃ t,p.mesh.triangles[i]?=some t:=⟨_,List.getElem?_eq_getElem (by rw[HT1.o];exact hin)⟩
   have HK:=A_ ht
   have NX:=A_ (show B5h p us (i+1)=B5h p us i++[leT p us t] by rw[B5h,A5l ht])
   obtain ⟨e0,-⟩:=B_ KR.o (j:=0) rfl
   obtain ⟨e1,-⟩:=B_ KR.o (j:=1) rfl
   obtain ⟨e2,-⟩:=B_ KR.o (j:=2) rfl
   obtain ⟨e3,-⟩:=B_ KR.o (j:=3) rfl
   simp at e0 e1 e2 e3
   have l0:w.heap.size<wr.heap.size:=E_ KR.o
   clear hi3 hin ht
   go_wp2_with fail
   refine (B0f _ p _ B n d us ds i t wr (HX.o.below HBW.o) (HU.o.below HBW.o) HL.o HK.o).mono ?_
   rintro _ wa ⟨va,sa,rfl,ha,ho,hba⟩
   obtain ⟨x,hxq⟩:∃ x,leT p us t=x:=⟨_,rfl⟩
   rw[hxq] at ha NX
   obtain ⟨G1,nG1,cG1,g1,G2,nG2,cG2,g2,rfl,z15,_,_⟩:=TRat.agg ha
   have AT:=A_ (A7i (ha.below (Below.box (.cells #[.bool x.num.neg,.slice G1 nG1 cG1,.slice G2 nG2 cG2] 35))))
   have HF:=A_ ((ho.below (Below.box (.cells #[.bool x.num.neg,.slice G1 nG1 cG1,.slice G2 nG2 cG2] 35))).free)
   have HR:=A_ (show ∀ b∈sa,wr.heap.size≤b from fun b hb=>(ho.2 b hb).1)
   have HBa:=A_ hba
   clear ha ho z15 hba hxq e0 e1 e2 e3 l0
   go_wp2_with (at_builtin;refine A4t rfl _ _ 27 rfl 35 i0 (.agg #[.bool false,.slice none 0 0,.slice none 0 0]) 56 Tryz.underlying27 hi hz0 hz1 hz2 rfl HP.o (Below.next HBa.o (Below.box _)) (by go_simp;done) ⟨wa.heap.size,0,none⟩ 1 [.bool x.num.neg,.slice G1 nG1 cG1,.slice G2 nG2 cG2] x sa (by go_simp;done) (A0k (heap_alloc_new wa _)) AT.o HF.o HR.o C3.o C4.o ?_;intro g' cap' w8 hp' hgrow' hor')
   have HP8:=A_ (show Pend w w1 35 w8 g' (i+1) cap' (B5h p us (i+1)) by rw[NX.o];exact hp')
   clear hp' hgrow' hor' AT HF HR HP
   go_wp2_with fail
   go_roundg g
   case measure=>omega
   case rel=>exact ⟨i+1,g',cap',hi'.o,by go_num,rfl,HP8⟩
  obtain rfl:n1=i:=by omega
  have hii:¬ ((n1:Int)<n1):=by omega
  obtain ⟨A6,n6,c6,b6,e6,hs6,ho6,hb6⟩:=HP.o.done
  have LE:=A_ (show B5h p us n1=leL p us by unfold leL;rw[HT1.o])
  rw[LE.o] at hs6
  have H6:=A_ hs6;have O6:=A_ ho6;have B6:=A_ hb6
  injection e6 with e6
  injection e6 with q1 q2 q3
  subst q1;subst q2;subst q3
  clear hs6 ho6 hb6 hi3 hin
  go_wp2_with fail
  refine (B3b _ _ _ _ b6 wr H6.o HOK.o).mono ?_
  rintro _ w7 ⟨rfl,hb7⟩
  have HB7:=A_ hb7
  clear hb7
  go_wp2
  go_ret
  exact ⟨_,_,_,b6,rfl,H6.o.below HB7.o,O6.o.below HB7.o,Below.next B6.o HB7.o⟩
end Go.Proofs.YtbhemnidcleaiaaGreat.X
