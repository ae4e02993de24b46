/- FnJumps: for every input,on a mesh refined at most twice a linear function has no jumps and its local energies add up to the energy: the law returns true,and its argument reads as before. No condition. -/
import Derived.Test.YtbhemnidcleaiaaGreatY2
import Derived.Test.YtbhemnidcleaiaaGreatY4
import Derived.Test.YtbhemnidcleaiaaGreatY37
import Derived.Test.YtbhemnidcleaiaaGreatY22
import Derived.Test.YtbhemnidcleaiaaGreatY11
import Derived.Test.YtbhemnidcleaiaaGreatY14
import Derived.WalkLawsBesides
import Derived.ProofKit
import Derived.OpenShut
set_option maxHeartbeats 16000000
set_option maxRecDepth 10000
namespace Go.Proofs.YtbhemnidcleaiaaGreat.fnJumps
open Go.ChangeShapes Go.WideShapes Go.ChangeAt Go.RowKit Go.XB Go.XN Go.Proofs.YtbhemnidcleaiaaGreat.X
attribute [local go_sem] O_ Go.XB.opAt P_ M_ Region.wanted yielded
attribute [local simp] P_ M_ MP.eq MP.agg MP.aggN MP.sl A0e
set_option linter.constructorNameAsVariable false
theorem oTByte:Opens Tryz.prog 5 TByte:=fun enc w fuel cs y h=>by
 obtain ⟨n,rfl,_,hn⟩:=DataW.trod_int Tryz.underlying5 h
 exact ⟨⟨n⟩,[],rfl,rfl,by
  simp[Lit.wf,IntKind.min,IntKind.max,IntKind.signed,IntKind.bits] at hn
  show 0≤n∧n<256
  omega⟩
theorem oLTByte:Opens Tryz.prog 22 (List TByte):=Opens.slice Tryz.underlying22 (by kernel_rfl) oTByte

theorem sign0 {r:TRat} (h1:r.num.mag=[]) (h2:r.num.neg=false):A2s r=0:=by
 unfold A2s B5z L_ A0f
 simp[h1,h2,G_,sgn]

theorem walk (A0:Option Addr) (n0 c0:Nat) (x0:List TByte) (b0:List Nat) (w:World) (h0:Sl w A0 n0 c0 x0 b0) :
  Calls Tryz.prog 3 #[.slice A0 n0 c0] w (A0j w (.bool true)):=by
 have H0:=A_ h0
 have hm0:n0≤maxLen:=Nat.le_trans h0.2.1 h0.2.2.1
 unfold maxLen at hm0
 clear h0
 by_cases hbig:(1048576:Int)<n0
 ·go_enter Tryz.func3,Tryz.ntmps3
  go_wp2
  go_ret
  exact ⟨rfl,Below.refl _ _⟩
 have hn:n0≤1048576:=by omega
 go_enter Tryz.func3,Tryz.ntmps3
 go_wp2_with fail
 refine (B5s _ _ _ x0 _ w H0.o hn).mono ?_
 rintro _ w1 ⟨p,v1,s1,rfl,hp,ha1,hb1⟩
 obtain ⟨m,ks,fs⟩:=p
 have HR:=A_ (show A6x m from hp.1)
 have PI:=A_ (D0z HR.o hp.2)
 have BW1:=A_ hb1
 obtain ⟨P,nP,cP,sP,T,nT,cT,sT,K,nK,cK,sK,F,nF,cF,sF,rfl,hz,hsP,hsT,hsK,hsF⟩:=TProblem.agg ha1
 have HP1:=A_ (show Sl w1 P nP cP m.points sP from hsP)
 have HT1:=A_ (show Sl w1 T nT cT m.triangles sT from hsT)
 have HF1:=A_ (show Sl w1 F nF cF fs sF from hsF)
 clear hp ha1 hb1 hz hsP hsT hsK hsF
 go_upto_region 4 with fail
 obtain ⟨w2,hw2⟩:∃ x,x=w1.alloc (.cells #[.slice P nP cP,.slice T nT cT,.slice K nK cK,.slice F nF cF] 29):=⟨_,rfl⟩
 have HB2:=A_ (show Below w1.heap.size w1 w2 by rw[hw2];exact Below.box _)
 have KX2:=A_ (show w2.heap[w1.heap.size]?=some (.cells #[.slice P nP cP,.slice T nT cT,.slice K nK cK,.slice F nF cF] 29) by rw[hw2];exact heap_alloc_new w1 _)
 rw[← hw2]
 clear hw2
 go_wp2_with fail
 refine (A2k 2 w2 (by constructor<;>decide)).mono ?_
 rintro _ wa ⟨va,sa,rfl,haa,hoa,hba⟩
 obtain ⟨D1,e1,f1,d1,D2,e2,f2,d2,rfl,-,-,-⟩:=TRat.agg haa
 have HBa:=A_ hba;have HAa:=A_ haa;have HOa:=A_ hoa
 clear haa hoa hba
 go_wp2_with fail
 refine (A2k 2 wa (by constructor<;>decide)).mono ?_
 rintro _ wb ⟨vb,sb,rfl,hab,hob,hbb⟩
 obtain ⟨D3,e3,f3,d3,D4,e4,f4,d4,rfl,-,-,-⟩:=TRat.agg hab
 have HBb:=A_ hbb;have HAb:=A_ hab;have HOb:=A_ hob
 clear hab hob hbb
 go_wp2_with fail
 refine (A2k 2 wb (by constructor<;>decide)).mono ?_
 rintro _ wc ⟨vc,sc,rfl,hac,hoc,hbc⟩
 obtain ⟨D5,e5,f5,d5,D6,e6,f6,d6,rfl,-,-,-⟩:=TRat.agg hac
 have HBc:=A_ hbc;have HAc:=A_ hac;have HOc:=A_ hoc
 have KXc:=A_ (A0v (A0v (A0v KX2.o HBa.o) HBb.o) hbc)
 clear hac hoc hbc
 obtain ⟨z0,z0'⟩:=B_ KXc.o (j:=0) rfl
 obtain ⟨z1,z1'⟩:=B_ KXc.o (j:=1) rfl
 obtain ⟨z2,z2'⟩:=B_ KXc.o (j:=2) rfl
 obtain ⟨z3,z3'⟩:=B_ KXc.o (j:=3) rfl
 have lx:w1.heap.size<wc.heap.size:=E_ KXc.o
 go_upto_region 5 with fail
 obtain ⟨w5,hw5⟩:∃ x,x=(wc.setCell ⟨w1.heap.size,2,none⟩ (.slice (some ⟨wc.heap.size,0,none⟩) 3 3)).alloc (.cells #[.bool (A1y 2).num.neg,.slice D1 e1 f1,.slice D2 e2 f2,.bool (A1y 2).num.neg,.slice D3 e3 f3,.slice D4 e4 f4,.bool (A1y 2).num.neg,.slice D5 e5 f5,.slice D6 e6 f6] 35):=⟨_,rfl⟩
 have SC:(wc.setCell ⟨w1.heap.size,2,none⟩ (.slice (some ⟨wc.heap.size,0,none⟩) 3 3)).heap.size=wc.heap.size:=by simp[World.setCell]
 have KK:=A_ (show ∀ b,b<wc.heap.size→b≠w1.heap.size→w5.heap[b]?=wc.heap[b]? from fun b hb hn=>by
  rw[hw5];exact ((Below.box _).block b (by rw[SC];exact hb)).trans (A0b w1.heap.size [.slice (some ⟨wc.heap.size,0,none⟩) 3 3] wc 2 b hn))
 have KX5:=A_ (show w5.heap[w1.heap.size]?=some (.cells #[.slice P nP cP,.slice T nT cT,.slice (some ⟨wc.heap.size,0,none⟩) 3 3,.slice F nF cF] 29) by
  rw[hw5];exact A0v (A5p KXc.o) (Below.box _))
 have KD5:=A_ (show w5.heap[wc.heap.size]?=some (.cells #[.bool (A1y 2).num.neg,.slice D1 e1 f1,.slice D2 e2 f2,.bool (A1y 2).num.neg,.slice D3 e3 f3,.slice D4 e4 f4,.bool (A1y 2).num.neg,.slice D5 e5 f5,.slice D6 e6 f6] 35) by
  rw[hw5];have:=heap_alloc_new (wc.setCell ⟨w1.heap.size,2,none⟩ (.slice (some ⟨wc.heap.size,0,none⟩) 3 3)) (.cells #[.bool (A1y 2).num.neg,.slice D1 e1 f1,.slice D2 e2 f2,.bool (A1y 2).num.neg,.slice D3 e3 f3,.slice D4 e4 f4,.bool (A1y 2).num.neg,.slice D5 e5 f5,.slice D6 e6 f6] 35);rwa [SC] at this)
 have HB5:=A_ (show Below w1.heap.size w1 w5 by
  rw[hw5];exact Below.next ((Below.next (Below.next (Below.next HB2.o HBa.o) HBb.o) HBc.o).setCell (p:=⟨w1.heap.size,2,none⟩) (Nat.le_refl _) _) (Below.box _))
 rw[← hw5]
 have L12:=A_ (show w1.heap.size<w2.heap.size from E_ KX2.o)
 have QA:=A_ ((HAa.o.below HBb.o).below HBc.o)
 have QB:=A_ (HAb.o.below HBc.o)
 have SA:=A_ (show ∀ b∈sa,w5.heap[b]?=wc.heap[b]? from fun b hb=>KK.o b (by have:=(HOa.o.2 b hb).2;obtain ⟨cs,t,h⟩:=this;have:=E_ h;have:=HBb.o.size;have:=HBc.o.size;omega) (by have:=(HOa.o.2 b hb).1;have:=L12.o;omega))
 have SB:=A_ (show ∀ b∈sb,w5.heap[b]?=wc.heap[b]? from fun b hb=>KK.o b (by have:=(HOb.o.2 b hb).2;obtain ⟨cs,t,h⟩:=this;have:=E_ h;have:=HBc.o.size;omega) (by have:=(HOb.o.2 b hb).1;have:=HBa.o.size;have:=L12.o;omega))
 have SCC:=A_ (show ∀ b∈sc,w5.heap[b]?=wc.heap[b]? from fun b hb=>KK.o b (by have:=(HOc.o.2 b hb).2;obtain ⟨cs,t,h⟩:=this;exact E_ h) (by have:=(HOc.o.2 b hb).1;have:=HBa.o.size;have:=HBb.o.size;have:=L12.o;omega))
 have HD5:=A_ (show Sl w5 (some ⟨wc.heap.size,0,none⟩) 3 3 dif2 _ from D0a (A7i (QA.o.keep SA.o)) (A7i (QB.o.keep SB.o)) (A7i (HAc.o.keep SCC.o)) KD5.o)
 clear hw5 SC z0 z0' z1 z1' z2 z2' z3 z3' lx SA SB SCC QA QB
 go_upto_region 6 with fail
 have hPn:=A_ (show m.points.length=nP from HP1.o.1)
 have hnP:nP≤40:=by rw[← HP1.o.1];exact PI.o.mesh.n40
 have hnPi:(nP:Int)≤40:=by omega
 obtain ⟨i0,hi,hz0,hz1,hz2⟩:=info_parts B9z
 have HP5:=A_ (HP1.o.below HB5.o)
 have P0:=A_ (Pend.start (α:=TRat) (e:=35) HB5.o)
 obtain ⟨y0,-⟩:=B_ (A0v KX5.o (Below.box (.cells #[] 35))) (j:=0) rfl
 simp at y0
 have l5:w1.heap.size<(w5.alloc (.cells #[] 35)).heap.size:=E_ (A0v KX5.o (Below.box _))
 go_wp2_with fail
 go_loopg [4,26] nP (fun g s3 s wr=>∃ (i gB cap:Nat),i+g=nP∧s=.int .i64 i∧s3=.slice (some ⟨gB,0,none⟩) i cap∧Hid (Pend w1 w5 35 wr gB i cap ((A5b m).take i)))
 case atStart=>exact ⟨0,w5.heap.size,0,by omega,rfl,rfl,P0.o⟩
 case round =>
  clear P0 y0 l5
  obtain ⟨i,gB,cap,hi3,rfl,rfl,HP⟩:=hrel
  have HBW:=A_ HP.o.bw
  rcases Nat.lt_or_ge i nP with hin | hin
  ·have hii:(i:Int)<nP:=by omega
   have hii0:(0:Int)≤i:=by omega
   obtain ⟨g,rfl⟩:∃ g,gk=g+1:=⟨gk - 1,by omega⟩
   have hi':=A_ (show i+1+g=nP by omega)
   have C3:=A_ (show i+1≤maxLen by unfold maxLen;omega)
   have C4:=A_ (show (i+1)*56≤140737488355328 by omega)
   obtain ⟨be,oe,q,E1,nE1,cE1,u1,E2,nE2,cE2,u2,E4,nE4,cE4,u4,E5,nE5,cE5,u5,hAq,hbl,hxq,a0,a1,a2,a3,a4,a5,q1,q2,q4,q5,-⟩:=TPoint.elem (HP1.o.below HBW.o) hin
   have NX:=A_ (show (A5b m).take (i+1)=(A5b m).take i++[A0u q.x q.y] from take_step (by unfold A5b;rw[List.getElem?_map,hxq];rfl))
   subst hAq
   have QX:=A_ (TRat.mkAgg (x:=q.x) q1 q2)
   have QY:=A_ (TRat.mkAgg (x:=q.y) q4 q5)
   clear hi3 hin hxq q1 q2 q4 q5
   go_upto_region 9 with fail
   obtain ⟨W8,hW8⟩:∃ x,x=wr.alloc (.cells #[.bool q.x.num.neg,.slice E1 nE1 cE1,.slice E2 nE2 cE2,.bool q.y.num.neg,.slice E4 nE4 cE4,.slice E5 nE5 cE5] 38):=⟨_,rfl⟩
   have B8:=A_ (show Below wr.heap.size wr W8 by rw[hW8];exact Below.box _)
   have KQ:=A_ (show W8.heap[wr.heap.size]?=some (.cells #[.bool q.x.num.neg,.slice E1 nE1 cE1,.slice E2 nE2 cE2,.bool q.y.num.neg,.slice E4 nE4 cE4,.slice E5 nE5 cE5] 38) by rw[hW8];exact heap_alloc_new wr _)
   rw[← hW8]
   clear hW8 a0 a1 a2 a3 a4 a5
   obtain ⟨a0,-⟩:=B_ KQ.o (j:=0) rfl
   obtain ⟨a1,-⟩:=B_ KQ.o (j:=1) rfl
   obtain ⟨a2,-⟩:=B_ KQ.o (j:=2) rfl
   obtain ⟨a3,-⟩:=B_ KQ.o (j:=3) rfl
   obtain ⟨a4,-⟩:=B_ KQ.o (j:=4) rfl
   obtain ⟨a5,-⟩:=B_ KQ.o (j:=5) rfl
   have lq:wr.heap.size<W8.heap.size:=E_ KQ.o
   go_wp2_with fail
   refine (A3z _ _ q.x q.y _ _ W8 (QX.o.below B8.o) (QY.o.below B8.o)).mono ?_
   rintro _ wa9 ⟨va9,sa9,rfl,ha,ho,hba9⟩
   obtain ⟨x,hxe⟩:∃ x,A0u q.x q.y=x:=⟨_,rfl⟩
   rw[hxe] at ha NX
   obtain ⟨G1,nG1,cG1,g1,G2,nG2,cG2,g2,rfl,z15,-,-⟩:=TRat.agg ha
   have AT:=A_ (A7i (ha.below (Below.box (.cells #[.bool x.num.neg,.slice G1 nG1 cG1,.slice G2 nG2 cG2] 35))))
   have HF:=A_ ((ho.below (Below.box (.cells #[.bool x.num.neg,.slice G1 nG1 cG1,.slice G2 nG2 cG2] 35))).free)
   have HR9:=A_ (show ∀ b∈sa9,wr.heap.size≤b from fun b hb=>by have:=(ho.2 b hb).1;have:=B8.o.size;omega)
   have HB9:=A_ (Below.next (Below.next B8.o hba9) (Below.box (.cells #[.bool x.num.neg,.slice G1 nG1 cG1,.slice G2 nG2 cG2] 35)))
   clear ha ho z15 hba9 hxe a0 a1 a2 a3 a4 a5 lq hbl
   go_wp2_with (at_builtin;refine A4t rfl _ _ 27 rfl 35 i0 (.agg #[.bool false,.slice none 0 0,.slice none 0 0]) 56 Tryz.underlying27 hi hz0 hz1 hz2 rfl HP.o HB9.o (by go_simp;done) ⟨wa9.heap.size,0,none⟩ 1 [.bool x.num.neg,.slice G1 nG1 cG1,.slice G2 nG2 cG2] x sa9 (by go_simp;done) (A0k (heap_alloc_new wa9 _)) AT.o HF.o HR9.o C3.o C4.o ?_;intro g' cap' w8 hp' hgrow' hor')
   have HP8:=A_ (show Pend w1 w5 35 w8 g' (i+1) cap' ((A5b m).take (i+1)) by rw[NX.o];exact hp')
   clear hp' hgrow' hor' AT HF HR9 HP HB9
   go_wp2_with fail
   go_roundg g
   case measure=>omega
   case rel=>exact ⟨i+1,g',cap',hi'.o,by go_num,rfl,HP8⟩
  obtain rfl:nP=i:=by omega
  have hii:¬ ((nP:Int)<nP):=by omega
  obtain ⟨A6,n6,c6,b6,e6,hs6,ho6,hb6⟩:=HP.o.done
  have LE:=A_ (show (A5b m).take nP=A5b m from List.take_of_length_le (by unfold A5b;rw[List.length_map];exact Nat.le_of_eq hPn.o))
  rw[LE.o] at hs6
  have HU:=A_ hs6
  injection e6 with e6
  injection e6 with q1 q2 q3
  subst q1;subst q2;subst q3
  have KXr:=A_ (A0v KX5.o HP.o.bb)
  have HPr:=A_ (HP1.o.below HBW.o)
  have HTr:=A_ (HT1.o.below HBW.o)
  have HFr:=A_ (HF1.o.below HBW.o)
  have HDr:=A_ (HD5.o.below HP.o.bb)
  have HA:=A_ (TProblem.mkAgg (x:=⟨m,dif2,fs⟩) HPr.o HTr.o HDr.o HFr.o)
  have HMA:=A_ (TMesh.mkAgg (x:=m) HPr.o HTr.o)
  have HNT:=A_ (show m.triangles.length=nT from HT1.o.1)
  obtain ⟨z0,-⟩:=B_ KXr.o (j:=0) rfl
  obtain ⟨z1,-⟩:=B_ KXr.o (j:=1) rfl
  obtain ⟨z2,-⟩:=B_ KXr.o (j:=2) rfl
  obtain ⟨z3,-⟩:=B_ KXr.o (j:=3) rfl
  have lx:w1.heap.size<wr.heap.size:=E_ KXr.o
  clear hs6 ho6 hb6 hi3 hin HP LE HPr HTr HFr HDr
  go_wp2_with fail
  refine (C2h _ ⟨m,dif2,fs⟩ _ (xsS m) (ysS m) _ _ _ (A5b m) _ wr HA.o PI.o HU.o (B7i HR.o fs) (D0e HR.o) (D5l HR.o fs)).mono ?_
  rintro _ wj ⟨J,nJ,cJ,bJ,rfl,hsJ,hoJ,hbj⟩
  have HJ:=A_ hsJ
  have HNJ:=A_ (show (A2m m.triangles).length=nJ by rw[← D4i m fs (A5b m)];exact hsJ.1)
  have hnJ:nJ≤144:=by rw[← HNJ.o];unfold A2m;have:=A9n m.triangles m.triangles.length;have:=(show m.triangles.length≤48 from PI.o.mesh.t48);omega
  have hpJ:0<nJ:=by rw[← HNJ.o];exact D1i HR.o
  have hnJi:(nJ:Int)≤144:=by omega
  have hpJi:(0:Int)<nJ:=by omega
  have KXj:=A_ (A0v KXr.o hbj)
  have HAj:=A_ (HA.o.below hbj);have HMj:=A_ (HMA.o.below hbj);have HUj:=A_ (HU.o.below hbj)
  have HBj:=A_ (Below.next HBW.o hbj)
  clear hsJ hoJ hbj z0 z1 z2 z3 lx HA HMA HU KXr
  go_wp2_with fail
  go_loopg [44] nJ (fun g s wr2=>∃ i:Nat,i+g=nJ∧s=.int .i64 i∧Hid (Below wj.heap.size wj wr2))
  case atStart=>exact ⟨0,by omega,rfl,Below.refl _ _⟩
  case round =>
   obtain ⟨k,hk,rfl,HB⟩:=hrel
   have HW:=A_ (Below.next HBj.o HB.o)
   rcases Nat.lt_or_ge k nJ with hkn | hkn
   ·have hki:(k:Int)<nJ:=by omega
    have hk0:(0:Int)≤k:=by omega
    obtain ⟨g,rfl⟩:∃ g,gk=g+1:=⟨gk - 1,by omega⟩
    have hk':=A_ (show k+1+g=nJ by omega)
    obtain ⟨be,oe,x,E1,nE1,cE1,u1,E2,nE2,cE2,u2,hAx,hbl,hx1,a0,a1,a2,hagx⟩:=TRat.elemA (HJ.o.below HB.o) hkn
    have HX0:=A_ (sign0 (C1p HR.o fs x (List.mem_of_getElem? hx1)).2.1 (C1p HR.o fs x (List.mem_of_getElem? hx1)).2.2)
    have HGX:=A_ hagx
    subst hAx
    clear hk hkn hx1 hagx
    go_upto_region 15 with fail
    obtain ⟨W14,hW14⟩:∃ y,y=wr.alloc (.cells #[.bool x.num.neg,.slice E1 nE1 cE1,.slice E2 nE2 cE2] 35):=⟨_,rfl⟩
    have B14:=A_ (show Below wr.heap.size wr W14 by rw[hW14];exact Below.box _)
    have K14:=A_ (show W14.heap[wr.heap.size]?=some (.cells #[.bool x.num.neg,.slice E1 nE1 cE1,.slice E2 nE2 cE2] 35) by rw[hW14];exact heap_alloc_new wr _)
    rw[← hW14]
    clear hW14 a0 a1 a2
    obtain ⟨a0,-⟩:=B_ K14.o (j:=0) rfl
    obtain ⟨a1,-⟩:=B_ K14.o (j:=1) rfl
    obtain ⟨a2,-⟩:=B_ K14.o (j:=2) rfl
    have lq:wr.heap.size<W14.heap.size:=E_ K14.o
    go_wp2_with fail
    have C9:=B4y _ x _ W14 (HGX.o.below B14.o)
    rw[HX0.o] at C9
    refine C9.mono ?_
    clear C9
    rintro _ w15 ⟨rfl,hb15⟩
    have HB15:=A_ (Below.next HB.o (Below.next B14.o hb15))
    clear hb15 a0 a1 a2 lq hbl
    go_wp2_with fail
    go_roundg g
    case measure=>omega
    case rel=>exact ⟨k+1,hk'.o,by go_num,HB15⟩
   obtain rfl:nJ=k:=by omega
   have hki:¬ ((nJ:Int)<nJ):=by omega
   have KX2':=A_ (A0v KXj.o HB.o)
   obtain ⟨z0,-⟩:=B_ KX2'.o (j:=0) rfl
   obtain ⟨z1,-⟩:=B_ KX2'.o (j:=1) rfl
   obtain ⟨z2,-⟩:=B_ KX2'.o (j:=2) rfl
   obtain ⟨z3,-⟩:=B_ KX2'.o (j:=3) rfl
   have lx:w1.heap.size<wr.heap.size:=E_ KX2'.o
   have HAk:=A_ (HAj.o.below HB.o);have HMk:=A_ (HMj.o.below HB.o);have HUk:=A_ (HUj.o.below HB.o)
   clear hk hkn
   go_wp2_with fail
   refine (B3s _ ⟨m,dif2,fs⟩ _ (xsS m) (ysS m) _ _ _ (A5b m) _ wr HAk.o PI.o HUk.o (B7i HR.o fs) (D5b HR.o fs)).mono ?_
   rintro _ wl ⟨L,nL,cL,bL,rfl,hsL,hoL,hbl⟩
   have HL:=A_ hsL
   obtain rfl:nT=nL:=by rw[← HNT.o,← D5j m fs (A5b m)];exact hsL.1
   have KXl:=A_ (A0v KX2'.o hbl)
   have HAl:=A_ (HAk.o.below hbl);have HMl:=A_ (HMk.o.below hbl);have HUl:=A_ (HUk.o.below hbl)
   have HWl:=A_ (Below.next HW.o hbl)
   obtain ⟨t0,ht0⟩:∃ t,m.triangles[0]?=some t:=⟨_,List.getElem?_eq_getElem PI.o.mesh.t1⟩
   have HT0:=A_ ht0
   have HG0:=A_ (C4s HR.o fs (List.mem_of_getElem? ht0))
   clear hsL hoL hbl z0 z1 z2 z3 lx HAk HMk HUk KX2' ht0
   obtain ⟨z0,-⟩:=B_ KXl.o (j:=0) rfl
   obtain ⟨z1,-⟩:=B_ KXl.o (j:=1) rfl
   obtain ⟨z2,-⟩:=B_ KXl.o (j:=2) rfl
   obtain ⟨z3,-⟩:=B_ KXl.o (j:=3) rfl
   simp at z0 z1 z2 z3
   have lx:w1.heap.size<wl.heap.size:=E_ KXl.o
   go_wp2_with fail
   refine A0l ?_
   iterate 4
    refine D_ _ ?_
   refine F_ (MP.sl (A2m m.triangles)) ?_ ?_
   ·intro yq zq wq hC hd
    obtain ⟨hcq,hfq⟩:=C_ hC
    simp at hd
    refine H_ ?_
    exact A0q (C1q _ m _ (xsS m) (ysS m) wq (HMl.o.below hC) PI.o.mesh)
   refine A3r (.int .i64 nJ) ?_ ?_
   ·intro yq zq wq hC hd
    obtain ⟨hcq,hfq⟩:=C_ hC
    simp at hd
    obtain ⟨⟨M,nM,cM,eM,hM⟩,_⟩:=hd
    obtain rfl:nJ=nM:=by rw[← HNJ.o];exact hM.1
    refine ⟨by go_simp;done,?_⟩
    go_simp
   iterate 17
    refine D_ _ ?_
   refine F_ (MP.agg (B3l (leL ⟨m,dif2,fs⟩ (A5b m)))) ?_ ?_
   ·intro yq zq wq hC hd
    obtain ⟨hcq,hfq⟩:=C_ hC
    simp at hd
    refine H_ ?_
    exact K_ (C5d _ _ _ _ _ wq (HL.o.below hC))
   iterate 2
    refine D_ _ ?_
   refine F_ (MP.agg (enL ⟨m,dif2,fs⟩ (A5b m))) ?_ ?_
   ·intro yq zq wq hC hd
    obtain ⟨hcq,hfq⟩:=C_ hC
    simp at hd
    refine H_ ?_
    exact K_ (C0d _ ⟨m,dif2,fs⟩ _ (xsS m) (ysS m) _ _ _ (A5b m) _ wq (HAl.o.below hC) PI.o (HUl.o.below hC) (B7i HR.o fs))
   refine F_ (MP.eq (.bool true)) ?_ ?_
   ·intro yq zq wq hC hd
    obtain ⟨hcq,hfq⟩:=C_ hC
    simp at hd
    refine H_ ?_
    exact A0t (by have C9:=A4z _ _ (B3l (leL ⟨m,dif2,fs⟩ (A5b m))) (enL ⟨m,dif2,fs⟩ (A5b m)) _ _ wq (by first | exact hd.1.1 | exact hd.1) (by first | exact hd.2.1.1 | exact hd.2.1);rw[decide_eq_true (D2u _ _)] at C9;exact C9)
   iterate 5
    refine D_ _ ?_
   refine F_ (MP.aggN (grT ⟨m,dif2,fs⟩ (A5b m) t0)) ?_ ?_
   ·intro yq zq wq hC hd
    obtain ⟨hcq,hfq⟩:=C_ hC
    simp at hd
    refine H_ ?_
    exact B3t (B6z _ ⟨m,dif2,fs⟩ _ _ _ _ (A5b m) _ 0 t0 wq (HMl.o.below hC) (HUl.o.below hC) (B7i HR.o fs) HT0.o)
   refine F_ (MP.agg (V_ 1 (-1))) ?_ ?_
   ·intro yq zq wq hC hd
    obtain ⟨hcq,hfq⟩:=C_ hC
    simp at hd
    refine H_ ?_
    exact K_ (B4u 1 (-1) wq (by constructor<;>decide) (by constructor<;>decide))
   refine F_ (MP.eq (.bool true)) ?_ ?_
   ·intro yq zq wq hC hd
    obtain ⟨hcq,hfq⟩:=C_ hC
    simp at hd
    refine H_ ?_
    exact A0t (by have C9:=B2b _ _ (grT ⟨m,dif2,fs⟩ (A5b m) t0) (V_ 1 (-1)) _ _ wq (by first | exact hd.1.1 | exact hd.1) (by first | exact hd.2.1.1 | exact hd.2.1);rw[decide_eq_true HG0.o] at C9;exact C9)
   iterate 2
    refine D_ _ ?_
   intro yq zq wa hC hd (hdis:Hid _)
   simp at hd
   go_simp
   go_wp2_with fail
   go_ret
   exact ⟨by simp,Below.next (Below.next BW1.o HWl.o) hC⟩

theorem own:ownKnob Tryz.prog.godebug=none:=by kernel_rfl
theorem laidOut:laidOutB Tryz.prog=true:=by kernel_rfl

set_option maxRecDepth 100000 in
theorem lifted (os:Os) (started:os.Started) (H:Type) (enc:TypeId×Value→H) :
  ReturnsInHanded {} Tryz.checked os 3 .any (Rows.fnJumpsSpec.pre6 enc Tryz.prog Tryz.f3 Rows.fnJumpsRow.domain false) (Rows.fnJumpsSpec.post enc Tryz.prog Tryz.f3 false true false false):=by
 refine returnsInHanded_of_change (C:=Tryz.checked) own started (by kernel_rfl) Tryz.func3
  (ChangeSpec.witness6 (enc:=enc) (C:=Tryz.checked) false ⟨#[],#[.slice none 0 0],[]⟩ 8 (by kernel_rfl) (by kernel_rfl) (by kernel_rfl) (by kernel_rfl)) ?_
 intro W base args ds gs before hval0 hW hcnd _
 have hval:∀ (j:Nat) t v,Tryz.f3.params[j]?=some t→args[j]?=some v→Value.okWide Tryz.prog W .any base t v:=hval0
 have hW':=hW
 obtain ⟨p,q,hA0,hV,rfl,hfz,hnd⟩:=hW
 have hA:DataW.TrodAll enc Tryz.prog W 0 (fun _=>true) true Tryz.f3.params.toList args.toList ds p:=hA0
 rw[Tryz.params3] at hA hval
 obtain ⟨v0,vs0,d0,ds0,p0,q0,hargs,rfl,rfl,h0,r0⟩:=trodAll_cons hA
 obtain ⟨rfl,rfl,rfl⟩:=trodAll_nil r0
 obtain rfl:args=#[v0]:=by cases args;simp_all
 obtain ⟨rfl,rfl⟩:=trodVars_none hV
 clear hA0 hval0
 simp only [List.append_nil] at hW'
 obtain ⟨A0,n0,c0,x0,b0,rfl,g0⟩:=Opens.sl oLTByte Tryz.underlying22 (hval 0 22 v0 rfl rfl) h0
 refine (walk _ _ _ x0 b0 W g0).mono fun e W' ⟨he,hB⟩=>?_
 subst he
 have l0:∀ x∈p0,x.block<W.heap.size:=fun x hx=>hW'.lt x (by simp[hx])
 refine ⟨_,rfl,_,_,_,[],p0,[],hW',trodAll_cons_mk (shut_bool Tryz.underlying4 _) trodAll_mk0,?_,rfl,hB.frame _,fun h=>by cases h⟩
 have ha:=trodAll_cons_mk (Below.trod laidOut (by kernel_rfl) (of_decide_eq_true (by kernel_rfl)) h0 hB l0) trodAll_mk0
 simp only [List.append_nil] at ha
 exact ha

theorem proved:Rows.FnJumpsSaid :=
 OpenClaim.holds_of_wide 3 Tryz.f3 rfl rfl rfl rfl rfl rfl rfl ⟨rfl,rfl,rfl,rfl,rfl⟩ rfl rfl rfl rfl rfl (by kernel_rfl) Tryz.func3 (by kernel_rfl)
  (of_decide_eq_true (by kernel_rfl)) (by unfold Func.isWrapper;first | (rw[if_pos (by decide +kernel)];kernel_rfl) | (rw[if_neg (by decide +kernel)];exact ⟨rfl,rfl⟩))
  (fun os started H enc _=>lifted os started H enc)
#print axioms proved
end Go.Proofs.YtbhemnidcleaiaaGreat.fnJumps
