/- FnAnyFlux: for every input,the bounds of a coarse problem by its own flux and by that flux and a constant one are at least the improvement by a finer mesh,no indicator is negative,and the indicators add up to the bound: the law returns true,and its argument reads as before. No condition. -/
import Derived.Test.YtjcanieccnljfaaGreatY47
import Derived.OpenShut
set_option maxHeartbeats 16000000
set_option maxRecDepth 10000
namespace Go.XB
open Go.RowKit Go.Proofs.YtjcanieccnljfaaGreat.X
def MP.pt:MP:=⟨fun v bs w=>bs=[]∧∃ x y q s,inD x y q∧Agg w v (ptD x y q) s,fun _ _ _ _ hb h=>by
 obtain ⟨e,x,y,q,s,h1,h2⟩:=h;exact ⟨e,x,y,q,s,h1,h2.below hb⟩⟩
def MP.cf (N:Nat) (m:TMesh):MP:=⟨fun v bs w=>bs=[]∧∃ x y q gV cap n,inD x y q∧v=.slice (some ⟨gV,0,none⟩) n cap∧N≤gV∧RR (fun b=>b<N∨b=gV) w gV n cap (A4w m (ptD x y q)),fun _ _ _ _ hb h=>by
 obtain ⟨e,x,y,q,gV,cap,n,h1,h2,h3,h4⟩:=h;exact ⟨e,x,y,q,gV,cap,n,h1,h2,h3,h4.below hb⟩⟩
end Go.XB
namespace Go.Proofs.YtjcanieccnljfaaGreat.fnAnyFlux
open Go.ChangeShapes Go.WideShapes Go.ChangeAt Go.RowKit Go.XB Go.XN Go.Proofs.YtjcanieccnljfaaGreat.X
/-- the fluxes added in place,up to the k-th -/
def addTo (cf fl:List TRat):Nat→List TRat
 | 0=>cf
 | k+1=>(addTo cf fl k).set k (A0k ((addTo cf fl k).getD k A0h) (fl.getD k A0h))
theorem addTo_len (cf fl:List TRat):∀ k,(addTo cf fl k).length=cf.length
 | 0=>rfl
 | k+1=>by rw[addTo,List.length_set,addTo_len cf fl k]
theorem addTo_get (cf fl:List TRat):∀ k i,i<cf.length→(addTo cf fl k).getD i A0h=if i<k then A0k (cf.getD i A0h) (fl.getD i A0h) else cf.getD i A0h
 | 0,i,_=>by rw[if_neg (by omega)];rfl
 | k+1,i,hi=>by
  have ih:=addTo_get cf fl k
  have hl:=addTo_len cf fl k
  rw[addTo]
  by_cases e:k=i
  ·subst e
   rw[if_pos (by omega),ih k hi,if_neg (by omega)]
   simp only [List.getD_eq_getElem?_getD]
   rw[List.getElem?_set_self (by omega)];rfl
  have h1:=ih i hi
  simp only [List.getD_eq_getElem?_getD] at h1 ⊢
  rw[List.getElem?_set_ne e,h1]
  by_cases h:i<k
  ·rw[if_pos h,if_pos (by omega)]
  rw[if_neg h,if_neg (by omega)]
theorem addTo_all {cf fl:List TRat} (h:cf.length=fl.length):addTo cf fl cf.length=List.zipWith A0k cf fl:=by
 refine List.ext_getElem (by rw[addTo_len,List.length_zipWith];omega) fun i h1 h2=>?_
 have hi:i<cf.length:=by rw[addTo_len] at h1;exact h1
 have e:=addTo_get cf fl cf.length i hi
 rw[if_pos hi] at e
 simp only [List.getD_eq_getElem?_getD] at e
 rw[List.getElem?_eq_getElem h1,List.getElem?_eq_getElem hi,List.getElem?_eq_getElem (show i<fl.length by omega)] at e
 rw[List.getElem_zipWith]
 exact e
attribute [local go_sem] L_ Go.XB.opAt N_ M_ Region.wanted yielded
attribute [local simp] N_ M_ MP.eq MP.agg MP.sl MP.pt MP.cf A0r
set_option linter.constructorNameAsVariable false

theorem oTByte:Opens Tryz.prog 5 TByte:=fun enc w fuel cs y h=>by
 obtain ⟨n,rfl,_,hn⟩:=DataW.trod_int Tryz.underlying5 h
 exact ⟨⟨n⟩,[],rfl,rfl,by
  simp[Lit.wf,IntKind.min,IntKind.max,IntKind.signed,IntKind.bits] at hn
  show 0≤n∧n<256
  omega⟩
theorem oLTByte:Opens Tryz.prog 22 (List TByte):=Opens.slice Tryz.underlying22 (by kernel_rfl) oTByte

theorem walk (A0:Option Addr) (n0 c0:Nat) (x0:List TByte) (b0:List Nat) (w:World) (h0:Sl w A0 n0 c0 x0 b0) :
  Calls Tryz.prog 3 #[.slice A0 n0 c0] w (A0b w (.bool true)):=by
 have H0:=A_ h0
 have hm0:n0≤maxLen:=Nat.le_trans h0.2.1 h0.2.2.1
 unfold maxLen at hm0
 clear h0
 by_cases hbig:(1048576:Int)<n0
 ·go_enter Tryz.func3,Tryz.ntmps3
  go_wp2
  go_ret
  exact ⟨rfl,Below.refl _ _⟩
 have hn:n0≤1048576:=by omega
 have HN:=A_ hn
 go_enter Tryz.func3,Tryz.ntmps3
 go_wp2_with fail
 refine (B4b _ _ _ x0 _ w H0.o hn).mono ?_
 rintro _ w1 ⟨p,v1,s1,rfl,hp,ha1,hb1⟩
 have HP:=A_ hp;have HA1:=A_ ha1;have BW1:=A_ hb1
 obtain ⟨P,nP,cP,sP,T,nT,cT,sT,K,nK,cK,sK,F0,nF0,cF0,sF0,rfl,hz,hsP,hsT,hsK,hsF⟩:=TProblem.agg ha1
 have HMA:=A_ (TMesh.mkAgg (x:=p.mesh) hsP hsT)
 have HNT:=A_ hsT.1
 obtain ⟨R0,xs,ys,xs0,ys0,hA0⟩:=D2i hp (x:=0) (y:=0) (q:=0) ⟨by omega,by omega,.inl rfl⟩
 have ISO:=A_ hA0.iso
 clear hp ha1 hb1 hz hsP hsT hsK hsF hA0
 go_upto_region 4 with fail
 refine Code.new fun w2 NW=>?_
 obtain ⟨gP,hgP⟩:∃ g,w1.heap.size=g:=⟨_,rfl⟩
 have B2:=A_ NW.o.b;have J2:=A_ NW.o.k
 rw[hgP] at J2 ⊢
 clear NW hgP
 obtain ⟨p0_,pf_,hp_⟩:=bx J2.o
 go_wp2_with fail
 refine (B9m _ p _ xs ys w2 (HA1.o.below B2.o) ISO.o.sol).mono ?_
 rintro _ w3 ⟨U,nU,cU,uU,rfl,hU,-,hb3⟩
 have HU:=A_ hU;have B3:=A_ (Below.next B2.o hb3);have J3:=A_ (A0z J2.o hb3)
 clear hU hb3 p0_ pf_ hp_
 obtain ⟨p0_,pf_,hp_⟩:=bx J3.o
 go_wp2_with fail
 refine (B7p _ p _ xs ys U nU cU (A8r p) uU w3 (HA1.o.below B3.o) HU.o ISO.o).mono ?_
 rintro _ w4 ⟨F,nF,cF,bF,rfl,hF,-,hb4⟩
 have HF:=A_ hF;have HU4:=A_ (HU.o.below hb4);have B4:=A_ (Below.next B3.o hb4);have J4:=A_ (A0z J3.o hb4)
 clear hF hb4 p0_ pf_ hp_ HU
 obtain ⟨e0,-⟩:=B_ J4.o (j:=0) rfl
 obtain ⟨e1,-⟩:=B_ J4.o (j:=1) rfl
 simp at e0 e1
 have l0:gP<w4.heap.size:=E_ J4.o
 go_wp2_with fail
 refine W_ 5 (by kernel_rfl) (by kernel_rfl) (by kernel_rfl) (by kernel_rfl) (by kernel_rfl) ?_
 simp only [List.take_succ_cons,List.take_zero,List.drop_succ_cons,List.drop_zero]
 iterate 3
  refine C_ _ ?_
 refine D_ (MP.pt) ?_ ?_
 ·intro yq zq wq hC hd
  obtain ⟨hcq,hfq⟩:=F_ hC
  simp at hd
  refine G_ ?_
  exact (C5s A0 n0 c0 x0 b0 wq (H0.o.below (Below.next BW1.o (Below.next B4.o hC))) HN.o).mono fun _ _ ⟨x,y,q,v,s,he,hin,ha,hb⟩=>⟨v,he,hb,[],⟨rfl,x,y,q,s,hin,ha⟩,fun b hb=>by cases hb⟩
 refine D_ (MP.cf w4.heap.size p.mesh) ?_ ?_
 ·intro yq zq wq hC hd
  obtain ⟨hcq,hfq⟩:=F_ hC
  simp at hd
  refine G_ ?_
  obtain ⟨_,_,x,y,q,hin,s,ha⟩:=hd
  obtain ⟨R',xs',ys',_,_,hA⟩:=D2i HP.o hin
  exact (C0f _ p.mesh _ xs' ys' _ (ptD x y q) s wq (HMA.o.below (Below.next B4.o hC)) hA.iso.sol.md.mesh ha hA.pt hA.iso.sol.md.es hA.cfd).mono fun _ _ ⟨n,gV,cap,he,hr,hlo,hb⟩ =>
   ⟨_,he,hb,[],⟨rfl,x,y,q,gV,cap,n,hin,rfl,Nat.le_trans hC.size hlo,hr.weaken (fun b _ h=>h.imp (fun h=>Nat.lt_of_lt_of_le h hC.size) id) (.inr rfl)⟩,fun b hb=>by cases hb⟩
 intro yq zq w6 hC hd (hdis:Hid _)
 simp at hd
 have q4:=hd.2.2.2.2
 obtain ⟨⟨-,x,y,q,hin,gV,cap,n,e8,hlo,hrr⟩,-⟩:=q4
 obtain ⟨R,xs',ys',xf,yf,hA⟩:=D2i HP.o hin
 have HA:=A_ hA
 have V0:=A_ (show VSt w4 w6 gV n cap (A4w p.mesh (ptD x y q)) from ⟨hrr,hlo,hC⟩)
 obtain rfl:n=nF:=by rw[← hrr.len,← HF.o.1];exact hA.cfl
 have hfl:(A4w p.mesh (ptD x y q)).length=n:=hrr.len
 have hn40:n≤40:=by rw[← HF.o.1];exact hA.b1.fi.len ▸ hA.iso.flux.ne
 have hn40i:(n:Int)≤40:=by omega
 obtain ⟨cf,hcf⟩:∃ cf,A4w p.mesh (ptD x y q)=cf:=⟨_,rfl⟩
 obtain ⟨fl,hfle⟩:∃ fl,A4i p (A8r p)=fl:=⟨_,rfl⟩
 rw[hcf] at V0 hfl
 have EC:=A_ hcf;have EF:=A_ hfle;have HCL:=A_ hfl
 rw[hfle] at HF
 have HF6:=A_ (HF.o.below hC)
 have hFl:=A_ HF.o.1
 clear hd hdis hrr hA hin e0 e1 l0 hcf hfle hfl hC
 go_wp2_with fail
 go_loopg [55] n (fun g s wr=>∃ k:Nat,k+g=n∧s=.int .i64 k∧Hid (VSt w4 wr gV n cap (addTo cf fl k)))
 case atStart=>exact ⟨0,by omega,rfl,V0.o⟩
 case round =>
  clear V0 HF6
  obtain ⟨k,hk,rfl,HV⟩:=hrel
  rename World=>wr
  have HFr:=A_ (HF.o.below HV.o.kp)
  rcases Nat.lt_or_ge k n with hkn | hkn
  ·have hki:(k:Int)<n:=by omega
   have hk0:(0:Int)≤k:=by omega
   obtain ⟨g,rfl⟩:∃ g,gk=g+1:=⟨gk - 1,by omega⟩
   have hk':=A_ (show k+1+g=n by omega)
   have LT1:=A_ hkn
   obtain ⟨xi,P1,Pn1,Pc1,P2,Pn2,Pc2,Pf,hxi,Pu0,Pu1,Pu2,-,-,-,hagxi,-,-⟩:=HV.o.rr.elem hkn
   have hgV3:=HV.o.rr.lt
   obtain ⟨bf,of,r,D1,nD1,cD1,d1,D2,nD2,cD2,d2,rfl,hbf,hr1,f0,f1,f2,hagr⟩:=TRat.elemA HFr.o hkn
   have NY:=A_ (show addTo cf fl (k+1)=(addTo cf fl k).set k (A0k xi r) by rw[addTo,A0e hxi,A0e hr1])
   have AI:=A_ hagxi;have HR:=A_ hagr
   clear hxi hagxi hr1 hagr hk hkn
   go_wp2_with fail
   refine X_ (by simp) ?_
   dsimp only [List.dropLast,List.getLast,List.length]
   iterate 10
    refine C_ _ ?_
   refine D_ (MP.agg (A0k xi r)) ?_ ?_
   ·intro yq zq wq hC hd
    obtain ⟨hcq,hfq⟩:=F_ hC
    simp at hd
    refine G_ ?_
    exact H_ (A0x _ _ xi r _ _ wq (AI.o.below hC) (HR.o.below hC))
   refine C_ _ ?_
   intro yq zq wa hC hd (hdis:Hid _)
   simp at hd
   have q1:=hd.2.2.2.2.2.2.2.2.2.2.1
   have q2:=hd.2.2.2.2.2.2.2.2.2.2.2
   have e2':=q2.1.1
   obtain ⟨⟨ha9,hf9⟩,hr9⟩:=q1
   obtain ⟨O1,p1,o1,_,O2,p2,o2,_,e9,hz9,_,_⟩:=TRat.agg ha9
   rw[e9] at ha9
   obtain ⟨_,_,_,_,_,_,_,_,_,k0,k1,k2,k3,k4,k5,_,_,hgla⟩:=(HV.o.below hC).rr.elem LT1.o
   have Sn:=A_ (HV.o.set hC LT1.o ha9 hr9)
   generalize zq 10=zz at *
   clear hd hdis q2 ha9 hf9 hr9 hz9 hC Pu0 Pu1 Pu2 hgV3 f0 f1 f2 hbf
   go_wp2_with fail
   go_roundg g
   case measure=>omega
   case rel=>exact ⟨k+1,hk'.o,by go_num,by rw[NY.o];exact Sn.o⟩
  obtain rfl:k=n:=by omega
  have hki:¬ ((k:Int)<k):=by omega
  obtain ⟨bV,hsV,-⟩:=HV.o.rr.sl
  have EZ:addTo cf fl k=List.zipWith A0k cf fl:=by rw[← HCL.o];exact addTo_all (by rw[HCL.o,hFl.o])
  rw[EZ] at hsV
  have HSV:=A_ hsV
  have B9:=A_ (Below.next B4.o HV.o.kp)
  have J9:=A_ (A0z J4.o HV.o.kp);have HU9:=A_ (HU4.o.below HV.o.kp)
  have IB1:=A_ (show BdD p xs' ys' (A8r p) fl by rw[← EF.o];exact HA.o.b1)
  have IB2:=A_ (show BdD p xs' ys' (A8r p) (List.zipWith A0k cf fl) by rw[← EF.o,← EC.o];exact HA.o.b2)
  have IC1:=A_ HA.o.c1;have IC2:=A_ HA.o.c2;have INN:=A_ HA.o.nn
  rw[EC.o,EF.o] at IC1
  rw[EF.o] at IC2 INN
  obtain ⟨TR,hTR⟩:∃ TR,A3t (enL (A1z p R) (A8r (A1z p R))) (enL p (A8r p))=TR:=⟨_,rfl⟩
  obtain ⟨TB,hTB⟩:∃ TB,A8v (C3k p (A8r p) fl)=TB:=⟨_,rfl⟩
  obtain ⟨TD,hTD⟩:∃ TD,A8v (C3k p (A8r p) (List.zipWith A0k cf fl))=TD:=⟨_,rfl⟩
  rw[hTR,hTD] at IC1
  rw[hTR,hTB] at IC2
  have ER:=A_ hTR;have EB:=A_ hTB;have ED:=A_ hTD
  have OR:=A_ (show J_ TR=true by rw[← hTR];exact HA.o.imp.ok)
  have OB:=A_ (show J_ TB=true by rw[← hTB];exact IB1.o.sm)
  have OD:=A_ (show J_ TD=true by rw[← hTD];exact IB2.o.sm)
  obtain ⟨p0_,pf_,hp_⟩:=bx J9.o
  clear hk hkn hsV EZ HV hTR hTB hTD
  go_wp2_with fail
  refine (C2f _ p _ xs' ys' U nU cU (A8r p) uU F k cF fl bF wr (HA1.o.below B9.o) HU9.o HFr.o IB1.o).mono ?_
  rw[EB.o]
  rintro _ w10 ⟨vb,sb,rfl,hb,hb10⟩
  obtain ⟨Q1,nQ1,cQ1,_,Q2,nQ2,cQ2,_,rfl,-,-,-⟩:=TRat.agg hb
  have TB0:=A_ hb;have B10:=A_ (Below.next B9.o hb10);have J10:=A_ (A0z J9.o hb10);have HU10:=A_ (HU9.o.below hb10);have HF10:=A_ (HFr.o.below hb10);have HV10:=A_ (HSV.o.below hb10)
  clear hb hb10 p0_ pf_ hp_ J9 HU9 HFr HSV B9
  go_upto_region 15 with fail
  obtain ⟨gb,hgb⟩:∃ g,w10.heap.size=g:=⟨_,rfl⟩
  refine Code.new fun w11 NW=>?_
  have B11:=A_ (Below.next B10.o NW.o.b);have J11:=A_ (A0z J10.o NW.o.b);have HU11:=A_ (HU10.o.below NW.o.b);have HF11:=A_ (HF10.o.below NW.o.b);have HV11:=A_ (HV10.o.below NW.o.b);have KB11:=A_ NW.o.k;have TB1:=A_ (TB0.o.below NW.o.b)
  rw[hgb] at KB11 ⊢
  clear NW hgb B10 J10 HU10 HF10 HV10 TB0
  obtain ⟨p0_,pf_,hp_⟩:=bx J11.o
  go_wp2_with fail
  refine (C2f _ p _ xs' ys' U nU cU (A8r p) uU (some ⟨gV,0,none⟩) k cap (List.zipWith A0k cf fl) bV w11 (HA1.o.below B11.o) HU11.o HV11.o IB2.o).mono ?_
  rw[ED.o]
  rintro _ w12 ⟨vd,sd,rfl,hd,hb12⟩
  obtain ⟨E1,nE1,cE1,_,E2,nE2,cE2,_,rfl,-,-,-⟩:=TRat.agg hd
  have TD0:=A_ hd;have B12:=A_ (Below.next B11.o hb12);have J12:=A_ (A0z J11.o hb12);have HU12:=A_ (HU11.o.below hb12);have HF12:=A_ (HF11.o.below hb12);have KB12:=A_ (A0z KB11.o hb12);have TB2:=A_ (TB1.o.below hb12)
  clear hd hb12 p0_ pf_ hp_ B11 J11 HU11 HF11 HV11 KB11 TB1
  go_upto_region 16 with fail
  obtain ⟨gd,hgd⟩:∃ g,w12.heap.size=g:=⟨_,rfl⟩
  refine Code.new fun w13 NW=>?_
  have B13:=A_ (Below.next B12.o NW.o.b);have J13:=A_ (A0z J12.o NW.o.b);have HU13:=A_ (HU12.o.below NW.o.b);have HF13:=A_ (HF12.o.below NW.o.b);have KB13:=A_ (A0z KB12.o NW.o.b);have TB3:=A_ (TB2.o.below NW.o.b);have KD13:=A_ NW.o.k;have TD1:=A_ (TD0.o.below NW.o.b)
  rw[hgd] at KD13 ⊢
  clear NW hgd B12 J12 HU12 HF12 KB12 TB2 TD0
  obtain ⟨p0_,pf_,hp_⟩:=bx J13.o
  go_wp2_with fail
  refine (C0d _ p _ R xs' ys' xf yf w13 (HA1.o.below B13.o) HA.o.imp).mono ?_
  rw[ER.o]
  rintro _ w14 ⟨vr,sr,rfl,hr,hb14⟩
  obtain ⟨G1,nG1,cG1,_,G2,nG2,cG2,_,rfl,-,-,-⟩:=TRat.agg hr
  have TR0:=A_ hr;have B14:=A_ (Below.next B13.o hb14);have J14:=A_ (A0z J13.o hb14);have HU14:=A_ (HU13.o.below hb14);have HF14:=A_ (HF13.o.below hb14);have KB14:=A_ (A0z KB13.o hb14);have TB4:=A_ (TB3.o.below hb14);have KD14:=A_ (A0z KD13.o hb14);have TD2:=A_ (TD1.o.below hb14)
  clear hr hb14 p0_ pf_ hp_ B13 J13 HU13 HF13 KB13 TB3 KD13 TD1
  go_upto_region 17 with fail
  obtain ⟨gr,hgr⟩:∃ g,w14.heap.size=g:=⟨_,rfl⟩
  refine Code.new fun w15 NW=>?_
  have B15:=A_ (Below.next B14.o NW.o.b);have J15:=A_ (A0z J14.o NW.o.b);have HU15:=A_ (HU14.o.below NW.o.b);have HF15:=A_ (HF14.o.below NW.o.b);have KB15:=A_ (A0z KB14.o NW.o.b);have TB5:=A_ (TB4.o.below NW.o.b);have KD15:=A_ (A0z KD14.o NW.o.b);have TD3:=A_ (TD2.o.below NW.o.b);have KR15:=A_ NW.o.k;have TR1:=A_ (TR0.o.below NW.o.b)
  rw[hgr] at KR15 ⊢
  clear NW hgr B14 J14 HU14 HF14 KB14 TB4 KD14 TD2 TR0
  obtain ⟨p0_,pf_,hp_⟩:=bx J15.o
  go_wp2_with fail
  refine (C2g _ p _ xs' ys' U nU cU (A8r p) uU F k cF fl bF w15 (HA1.o.below B15.o) HU15.o HF15.o IB1.o).mono ?_
  obtain ⟨IL,hIL⟩:∃ IL,C3k p (A8r p) fl=IL:=⟨_,rfl⟩
  have EI:=A_ hIL
  rw[hIL]
  rintro _ w16 ⟨I,nI,cI,bI,rfl,hI,-,hb16⟩
  have HI:=A_ hI;have B16:=A_ (Below.next B15.o hb16);have J16:=A_ (A0z J15.o hb16);have KB16:=A_ (A0z KB15.o hb16);have TB6:=A_ (TB5.o.below hb16);have KD16:=A_ (A0z KD15.o hb16);have TD4:=A_ (TD3.o.below hb16);have KR16:=A_ (A0z KR15.o hb16);have TR2:=A_ (TR1.o.below hb16)
  have NI:nI=nT:=by rw[← hI.1,← hIL,D3z];exact HNT.o
  have hnI:nI≤48:=by rw[NI,← HNT.o];exact HA.o.b1.ind.lin.t48
  have hnIi:(nI:Int)≤48:=by omega
  have HNI:=A_ NI
  rw[hIL] at INN EB
  clear hI hb16 p0_ pf_ hp_ B15 J15 HU15 HF15 KB15 TB5 KD15 TD3 KR15 TR1 hIL NI
  go_wp2_with fail
  go_loopg [96] nI (fun g s wz=>∃ j:Nat,j+g=nI∧s=.int .i64 j∧Hid (Below w16.heap.size w16 wz))
  case atStart=>exact ⟨0,by omega,rfl,Below.refl _ _⟩
  case round =>
   obtain ⟨j,hj,rfl,BZ⟩:=hrel
   rename World=>wz
   rcases Nat.lt_or_ge j nI with hjn | hjn
   ·have hji:(j:Int)<nI:=by omega
    obtain ⟨g,rfl⟩:∃ g,gk=g+1:=⟨gk - 1,by omega⟩
    have hj':=A_ (show j+1+g=nI by omega)
    obtain ⟨bf,of,r,D1,nD1,cD1,d1,D2,nD2,cD2,d2,rfl,hbf,hr1,f0,f1,f2,hagr⟩:=TRat.elemA (HI.o.below BZ.o) hjn
    have HR:=A_ hagr
    have SG:=INN.o r (List.mem_of_getElem? hr1)
    clear hagr hr1 hj hjn
    go_upto_region 21 with fail
    refine Code.new fun wy NW=>?_
    have BY:=A_ NW.o.b;have KY:=A_ NW.o.k
    clear NW f0 f1 f2 hbf
    obtain ⟨y0,y0f,l1⟩:=bx KY.o
    go_wp2_with fail
    refine (B8u _ r _ wy (HR.o.below BY.o)).mono ?_
    rintro _ wu ⟨rfl,hbu⟩
    have BU:=A_ (Below.next BY.o hbu)
    have hsg:¬ (A9m r<0):=by omega
    clear hbu y0 y0f l1
    go_wp2_with fail
    go_roundg g
    case measure=>omega
    case rel=>exact ⟨j+1,hj'.o,by go_num,Below.next BZ.o BU.o⟩
   obtain rfl:j=nI:=by omega
   have hji:¬ ((j:Int)<j):=by omega
   have TBz:=A_ (TB6.o.below BZ.o);have TDz:=A_ (TD4.o.below BZ.o);have TRz:=A_ (TR2.o.below BZ.o);have HIz:=A_ (HI.o.below BZ.o)
   have Jz:=A_ (A0z J16.o BZ.o);have KBz:=A_ (A0z KB16.o BZ.o);have KDz:=A_ (A0z KD16.o BZ.o);have KRz:=A_ (A0z KR16.o BZ.o)
   have hc1:=IC1.o
   have hc2:=IC2.o
   obtain rfl:j=nT:=HNI.o
   obtain ⟨b0_,bf_,bl_⟩:=bx KBz.o
   obtain ⟨d0_,df_,dl_⟩:=bx KDz.o
   obtain ⟨r0_,rf_,rl_⟩:=bx KRz.o
   obtain ⟨p0_,pf_,hp_⟩:=bx Jz.o
   obtain ⟨c1,hC1⟩:∃ c,D2m TD TR=c:=⟨_,rfl⟩
   obtain ⟨c2,hC2⟩:∃ c,D2m TB TR=c:=⟨_,rfl⟩
   rw[hC1] at hc1
   rw[hC2] at hc2
   have HC1:=A_ hC1;have HC2:=A_ hC2
   have BW:=A_ (Below.next BW1.o (Below.next B16.o BZ.o))
   clear hj hjn hC1 hC2 J16 KB16 KD16 KR16 TB6 TD4 TR2 B16
   go_wp2_with fail
   refine A0g ?_
   iterate 10
    refine C_ _ ?_
   refine D_ (MP.eq (.int .i64 c1)) ?_ ?_
   ·intro yq zq wq hC hd
    obtain ⟨hcq,hfq⟩:=F_ hC
    simp at hd
    refine G_ ?_
    exact A0i (by have C:=C5g _ _ TD TR _ _ wq (TDz.o.below hC) (TRz.o.below hC) OD.o OR.o;rw[HC1.o] at C;exact C)
   iterate 5
    refine C_ _ ?_
   refine D_ (MP.eq (.int .i64 c2)) ?_ ?_
   ·intro yq zq wq hC hd
    obtain ⟨hcq,hfq⟩:=F_ hC
    simp at hd
    refine G_ ?_
    exact A0i (by have C:=C5g _ _ TB TR _ _ wq (TBz.o.below hC) (TRz.o.below hC) OB.o OR.o;rw[HC2.o] at C;exact C)
   iterate 4
    refine C_ _ ?_
   refine D_ (MP.agg TB) ?_ ?_
   ·intro yq zq wq hC hd
    obtain ⟨hcq,hfq⟩:=F_ hC
    simp at hd
    refine G_ ?_
    exact H_ (by have C:=E3e I j cI IL bI wq (HIz.o.below hC);rw[EB.o] at C;exact C)
   refine C_ _ ?_
   refine D_ (MP.eq (.bool true)) ?_ ?_
   ·intro yq zq wq hC hd
    obtain ⟨hcq,hfq⟩:=F_ hC
    simp at hd
    refine G_ ?_
    exact A0i (by have C9:=A2s _ _ TB TB _ _ wq (by first | exact hd.1.1 | exact hd.1 | exact hd.2.1.1) (TBz.o.below hC);rw[decide_eq_true rfl] at C9;exact C9)
   iterate 11
    refine C_ _ ?_
   intro yq zq wa hC hd (hdis:Hid _)
   simp at hd
   go_simp
   go_wp2_with fail
   go_ret
   exact ⟨by simp,Below.next BW.o hC⟩

theorem own:ownKnob Tryz.prog.godebug=none:=by kernel_rfl
theorem laidOut:laidOutB Tryz.prog=true:=by kernel_rfl

set_option maxRecDepth 100000 in
theorem lifted (os:Os) (started:os.Started) (H:Type) (enc:TypeId×Value→H) :
  ReturnsInHanded {} Tryz.checked os 3 .any (Rows.fnAnyFluxSpec.pre6 enc Tryz.prog Tryz.f3 Rows.fnAnyFluxRow.domain false) (Rows.fnAnyFluxSpec.post enc Tryz.prog Tryz.f3 false true false false):=by
 refine returnsInHanded_of_change (C:=Tryz.checked) own started (by kernel_rfl) Tryz.func3
  (ChangeSpec.witness6 (enc:=enc) (C:=Tryz.checked) false ⟨#[],#[.slice none 0 0],[]⟩ 8 (by kernel_rfl) (by kernel_rfl) (by kernel_rfl) (by kernel_rfl)) ?_
 intro W base args ds gs before hval0 hW hcnd _
 have hval:∀ (j:Nat) t v,Tryz.f3.params[j]?=some t→args[j]?=some v→Value.okWide Tryz.prog W .any base t v:=hval0
 have hW':=hW
 obtain ⟨p,q,hA0,hV,rfl,hfz,hnd⟩:=hW
 have hA:DataW.TrodAll enc Tryz.prog W 0 (fun _=>true) true Tryz.f3.params.toList args.toList ds p:=hA0
 rw[Tryz.params3] at hA hval
 obtain ⟨v0,vs0,d0,ds0,p0,q0,hargs,rfl,rfl,h0,r0⟩:=trodAll_cons hA
 obtain ⟨rfl,rfl,rfl⟩:=trodAll_nil r0
 obtain rfl:args=#[v0]:=by cases args;simp_all
 obtain ⟨rfl,rfl⟩:=trodVars_none hV
 clear hA0 hval0
 simp only [List.append_nil] at hW'
 obtain ⟨A0,n0,c0,x0,b0,rfl,g0⟩:=Opens.sl oLTByte Tryz.underlying22 (hval 0 22 v0 rfl rfl) h0
 refine (walk _ _ _ x0 b0 W g0).mono fun e W' ⟨he,hB⟩=>?_
 subst he
 have l0:∀ x∈p0,x.block<W.heap.size:=fun x hx=>hW'.lt x (by simp[hx])
 refine ⟨_,rfl,_,_,_,[],p0,[],hW',trodAll_cons_mk (shut_bool Tryz.underlying4 _) trodAll_mk0,?_,rfl,hB.frame _,fun h=>by cases h⟩
 have ha:=trodAll_cons_mk (Below.trod laidOut (by kernel_rfl) (of_decide_eq_true (by kernel_rfl)) h0 hB l0) trodAll_mk0
 simp only [List.append_nil] at ha
 exact ha

theorem proved:Rows.FnAnyFluxSaid :=
 OpenClaim.holds_of_wide 3 Tryz.f3 rfl rfl rfl rfl rfl rfl rfl ⟨rfl,rfl,rfl,rfl,rfl⟩ rfl rfl rfl rfl rfl (by kernel_rfl) Tryz.func3 (by kernel_rfl)
  (of_decide_eq_true (by kernel_rfl)) (by unfold Func.isWrapper;first | (rw[if_pos (by decide +kernel)];kernel_rfl) | (rw[if_neg (by decide +kernel)];exact ⟨rfl,rfl⟩))
  (fun os started H enc _=>lifted os started H enc)
#print axioms proved
end Go.Proofs.YtjcanieccnljfaaGreat.fnAnyFlux
