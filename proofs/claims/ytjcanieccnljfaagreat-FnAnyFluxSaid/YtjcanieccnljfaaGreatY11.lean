/- A part of the proof. -/
import Derived.Test.YtjcanieccnljfaaGreatY10
set_option linter.constructorNameAsVariable false
set_option maxHeartbeats 16000000
set_option maxRecDepth 10000
open Bool renaming and_eq_true→DJ,false→AH,true→AF
open Go renaming Addr→AJ,Calls→BL,Value→AU,World→AD,bodyPost_ret→CK,maxLen→BS,results→CO
open Go.Obj renaming cells→BG
open Go.Value renaming agg→BJ,bool→J,int→N,slice→QX
open Go.XB.Agg renaming below→IE
open Go.XB.Below renaming box→BP,next→BH
open Go.XB.MP renaming agg→CH
open Go.XB.Sl renaming below→BN
open Go.XB.TBigInt renaming agg→FZ,mkAgg→FV
open Go.XB.TPoint renaming agg→EW
open Go.XB.TRat renaming agg→CF,mkAgg→FK
open Int renaming gcd→CQ,le_of_lt→JJ,mul_comm→MF,mul_pos→GW
open List renaming append_assoc→GG,dropLast→DN,drop_succ_cons→GU,drop_zero→FF,getLast→DO,length→DQ,mem_append→DV,take_succ_cons→GT,take_zero→FM
open Nat renaming le_refl→CE,le_trans→CJ
open Option renaming none→I,some→QZ
namespace Go.Proofs.YtjcanieccnljfaaGreat.X
open Go.RowKit Go.XB Go.XN Proofs.Tryz
attribute [local go_sem] L_ opAt N_ M_ Region.wanted yielded
attribute [local simp] N_ M_ MP.eq MP.agg MP.sl A0r
theorem C6o {α:Type} [Dat α] {w:AD} {g:Nat} {A:Option AJ} {n c:Nat} {xs:List α} {bs:List Nat} (h:Sl w A n c xs bs) (hf:Free w bs) (hg:∀ b∈bs,b≠g) (u0 u1:AU) :
  Sl ((w.setCell ⟨g,0,I⟩ u0).setCell ⟨g,1,I⟩ u1) A n c xs bs/\Free ((w.setCell ⟨g,0,I⟩ u0).setCell ⟨g,1,I⟩ u1) bs :=
 have hk:∀ b∈bs,((w.setCell ⟨g,0,I⟩ u0).setCell ⟨g,1,I⟩ u1).1[b]?=w.1[b]?:=λb hb =>
  (Below.heap_setCell _ ⟨g,1,I⟩ u1 b (hg b hb)).trans (Below.heap_setCell w ⟨g,0,I⟩ u0 b (hg b hb))
 ⟨h.keep hk,hf.1,λb hb=>by obtain⟨cs,t,e⟩:=hf.2 b hb;exact⟨cs,t,(hk b hb).trans e⟩⟩

theorem D5u (v1 v2:AU) (r s:TRat) (b1 b2:List Nat) (w:AD) (cz:Agg w v1 r b1) (cA:Agg w v2 s b2) (ch:RatV r) (vs:RatV s) :
  BL prog 146 #[v1,v2] w (A0c w (mkR (R_ r*T_ s+R_ s*T_ r) (T_ r*T_ s))):=by
 obtain⟨a5,n1,be,dL,aK,n2,aL,dM,rfl,rfl,a2,a3⟩:=CF cz;obtain⟨a6,a4,c3,dN,aN,aM,aO,dO,rfl,rfl,cw,cx⟩:=CF cA;have bl:=A_ a2;have aP:=A_ a3;have bm:=A_ cw;have aS:=A_ cx;have D:=A_ ch;have E:=A_ vs;have a1:=A_ (ch.denD vs);clear a2 a3 cw cx cz cA ch vs;by_cases O:r.2=[1]/\s.2=[1]
 ·have R1:=A_ (by simp[O.1]:decide (r.2=[1])=AF)
  have bP:=A_ (by simp[O.2]:decide (s.2=[1])=AF);have cj:=A_ (show R_ r*T_ s+R_ s*T_ r=R_ r+R_ s/\T_ r*T_ s=val [1] by unfold T_;rw[O.1,O.2];have:val [1]=1:=rfl;rw[this];omega);clear O;go_enter func146,ntmps146;go_wp2_with fail;have C:=B5y aK n2 aL r.2 _ (((w.alloc (BG #[J r.1.1,QX a5 n1 be,QX aK n2 aL] 39)).alloc (BG #[J s.1.1,QX a6 a4 c3,QX aN aM aO] 39)).alloc (BG #[J AH,QX I 0 0,QX I 0 0] 39)) (BN aP Below.go);rw[R1.o]at C;refine C.mono ?_;clear C;rintro _ Y ⟨rfl,aq⟩;obtain⟨cs,ct⟩:=F_ aq;have cB:w.1.size<Y.1.size:=ltg aq;have cD:w.1.size+1<Y.1.size:=ltg aq;have cE:w.1.size+1+1<Y.1.size:=ltg aq;go_wp2_with fail;have C:=B5y aN aM aO s.2 _ Y (BN aS Below.go);rw[bP.o]at C;refine C.mono ?_;clear C;rintro _ bk ⟨rfl,br⟩;obtain⟨dp,dt⟩:=F_ br;have dx:w.1.size<bk.1.size:=ltg br;have dB:w.1.size+1<bk.1.size:=ltg br;have dH:w.1.size+1+1<bk.1.size:=ltg br;go_wp2_with fail;have cp:Bw w bk:=Below.go;refine(B8w _ _ r.1 s.num _ _ bk (FV (BN bl cp)) (FV (BN bm cp)) D.mag E.mag (CJ D.num24 dE) (CJ E.num24 dE)).mono ?_;rintro _ w3 ⟨dT,dQ,rfl,cq,cu,bt⟩;obtain⟨H,m1,bp,dk,rfl,aI,cy⟩:=FZ cq;have cm:=A_ cy;have dm:=A_ cu;clear cq cu aI cy;obtain⟨dq,du⟩:=F_ bt;have dy:w.1.size<w3.1.size:=ltg bt;have dD:w.1.size+1<w3.1.size:=ltg bt;have dI:w.1.size+1+1<w3.1.size:=ltg bt;go_wp2_with fail;obtain⟨dh,b3,_⟩:=E9c (w3.alloc (BG #[J (A0f (A0q r.1+A0q s.1)).neg,QX H m1 bp] 37)) [1] (by simp[BS]) (by simp[I64]);rw[show(w3.alloc (BG #[J (A0f (A0q r.1+A0q s.1)).neg,QX H m1 bp] 37)).1.size=w3.1.size+1 by simp]at b3;have C:=D5l (A0f (A0q r.1+A0q s.1)).neg H (QZ ⟨w3.1.size+1,0,I⟩) m1 1 bp 1 (A0f (A0q r.1+A0q s.1)).mag [1] dk dh ((w3.alloc (BG #[J (A0f (A0q r.1+A0q s.1)).neg,QX H m1 bp] 37)).alloc (BG #[N .i64 1] 3)) (BN (BN cm.o (BP _)) (BP _)) b3 (A7g _) ⟨Lims.one dE dE,dE⟩ dE (by rw[<-cm.o.1];exact CJ (C3t (E5v D.numlt E.numlt)) dE) dE;rw[show C8r (A0f (A0q r.1+A0q s.1)).neg (A0f (A0q r.1+A0q s.1)).mag=R_ r+R_ s from A5m _,<-cj.o.1,<-cj.o.2]at C;refine C.mono ?_;clear C b3;rintro _ ci ⟨dU,cG,rfl,bV,cv,af⟩;obtain⟨P1,di,cL,dR,P2,dj,cM,dS,rfl,aI,_,_⟩:=CF bV;have aT:=A_ bV;have ck:=A_ cv;have bc:=A_ (by omega:w.1.size+3<=w3.1.size);clear bV cv aI;obtain⟨dr,dv⟩:=F_ af;have dz:w.1.size<ci.1.size:=by have:=af.size;simp at this;omega
  have dF:w.1.size+1<ci.1.size:=by have:=af.size;simp at this;omega
  have dJ:w.1.size+1+1<ci.1.size:=by have:=af.size;simp at this;omega
  have cF:w.1.size+1+1<w3.1.size+1+1:=oS;go_wp2;refine CK (v:=BJ #[J (mkR (R_ r*T_ s+R_ s*T_ r) (T_ r*T_ s)).1.1,QX P1 di cL,QX P2 dj cM]) (by simp[CO,results146,go_sem, *]) rfl ?_;refine A1s (lo:=w.1.size+3) aT ck.free (λT O=>by have:=(ck.range T O).1;have:=bc.o;simp at *;omega) oS ?_ ?_;·exact Above.go
  exact Below.go
 have cn:=A_ (by rw[<-bl.o.1];have:=D.num24;omega:n1<=1048576);have bn:=A_ (by rw[<-aP.o.1];have:=D.den24;omega:n2<=1048576);have co:=A_ (by rw[<-bm.o.1];have:=E.num24;omega:a4<=1048576);have bo:=A_ (by rw[<-aS.o.1];have:=E.den24;omega:aM<=1048576);by_cases bi:r.2=[1]
 ·have R1:=A_ (by simp[bi]:decide (r.2=[1])=AF)
  have bP:=A_ (by simp;intro ah;exact O ⟨bi,ah⟩:decide (s.2=[1])=AH);clear O bi;go_enter func146,ntmps146;go_wp2_with fail;have C:=B5y aK n2 aL r.2 _ (((w.alloc (BG #[J r.1.1,QX a5 n1 be,QX aK n2 aL] 39)).alloc (BG #[J s.1.1,QX a6 a4 c3,QX aN aM aO] 39)).alloc (BG #[J AH,QX I 0 0,QX I 0 0] 39)) (BN aP Below.go);rw[R1.o]at C;refine C.mono ?_;clear C;rintro _ w0 ⟨rfl,bq⟩;obtain⟨dn,ds⟩:=F_ bq;have dw:w.1.size<w0.1.size:=ltg bq;have dA:w.1.size+1<w0.1.size:=ltg bq;have dG:w.1.size+1+1<w0.1.size:=ltg bq;go_wp2_with fail;have C:=B5y aN aM aO s.2 _ w0 (BN aS Below.go);rw[bP.o]at C;refine C.mono ?_;clear C;rintro _ Y ⟨rfl,aq⟩;obtain⟨cs,ct⟩:=F_ aq;have cB:w.1.size<Y.1.size:=ltg aq;have cD:w.1.size+1<Y.1.size:=ltg aq;have cE:w.1.size+1+1<Y.1.size:=ltg aq;go_wp2_with fail;refine X_ sI ?_;dsimp only[DN,DO,DQ];iterate 8 refine C_ _ ?_
  refine D_ (MP.sl (dig (val r.1.2*val s.2).toNat)) ?_ ?_;·intro W X G b h;obtain⟨aC,aD⟩:=F_ b;simp at h;refine G_ ?_;exact A1c ((B5m a5 aN n1 aM be aO r.1.2 s.2 _ _ G (BN bl Below.go) (BN aS Below.go) D.mag.1 E.2.1 cn bo).mono λ_ _ ah=>A8n (A0j _).1.i64 ah)
  refine D_ (CH (A0f (R_ r*T_ s))) ?_ ?_;·intro W X G b h;obtain⟨aC,aD⟩:=F_ b;simp at h;refine G_ ?_;obtain⟨_,⟨A,n,c,e,an⟩,_⟩:=h;rw[e];have C:=B0u r.1.1 A n c _ _ G an (A0j _) (by rw[<-an.1];exact CJ (C6f D.mag.1 E.2.1 D.num24 E.den24) dE);rw[E5a D.o.mag.1 E.o.2.1 an.1]at C;exact H_ C
  refine A1p #[J AH,QX I 0 0] 37 ?_ ?_;·intro W X G b h;refine⟨gD,?_⟩;go_simp
  intro W X wa b h (ai:Hid _);simp at h;have aJ:=h.2.2.2.2.2.2.2.2.2.1;have aY:=h.2.2.2.2.2.2.2.2.2.2;obtain⟨⟨aA,aj⟩,aG⟩:=aJ;obtain⟨H,Z,aa,bv,az,ap,aH⟩:=FZ aA;obtain⟨⟨g,aV,ao,ak⟩,aF⟩:=aY;have aE:∀ T∈bv,T≠g:=λT O e=>by have:=ai.o 9 10 dE dE dE T (by rw[ap];exact O);rw[ao]at this;simp at this;exact this e
  rw[ap]at aj aG;have al:Y.1.size<=g/\g<wa.1.size:=by have:=aF g (by rw[ao];simp);omega
  have am:=al.1;obtain⟨au,aQ⟩:=B_ ak (j:=0) rfl;obtain⟨aw,aR⟩:=B_ ak (j:=1) rfl;obtain⟨k1,k2⟩:=C6o aH aj aE (J (A0f (R_ r*T_ s)).neg) (QX H Z aa);have bE:=A_ k1;clear h ai aH aj aG aF ak aE k1 k2 aA ap ao;have af:Bw w ((wa.setCell ⟨g,0,I⟩ (J (A0f (R_ r*T_ s)).neg)).setCell ⟨g,1,I⟩ (QX H Z aa)):=Below.go
  have ay:((wa.setCell ⟨g,0,I⟩ (J (A0f (R_ r*T_ s)).neg)).setCell ⟨g,1,I⟩ (QX H Z aa)).cell? ⟨g,1,I⟩=QZ (QX H Z aa) :=
   AD.cell?_setCell_same _ _ _ ((AD.cell?_setCell_other wa ⟨g,0,I⟩ ⟨g,1,I⟩ _ sI).trans aw)
  have ax:((wa.setCell ⟨g,0,I⟩ (J (A0f (R_ r*T_ s)).neg)).setCell ⟨g,1,I⟩ (QX H Z aa)).cell? ⟨g,0,I⟩=QZ (J (A0f (R_ r*T_ s)).neg) :=
   (AD.cell?_setCell_other _ ⟨g,1,I⟩ ⟨g,0,I⟩ _ sI).trans (AD.cell?_setCell_same _ _ _ au)
  have ba:=A_ (show Bw Y ((wa.setCell ⟨g,0,I⟩ (J (A0f (R_ r*T_ s)).neg)).setCell ⟨g,1,I⟩ (QX H Z aa))from(b.setCell (p:=⟨g,0,I⟩) am _).setCell (p:=⟨g,1,I⟩) am _);have bG:=A_ ax;have bI:=A_ ay;have bA:=A_ af;have bL:=A_ (by simp:((wa.setCell ⟨g,0,I⟩ (J (A0f (R_ r*T_ s)).neg)).setCell ⟨g,1,I⟩ (QX H Z aa)).1.size=wa.1.size);have cY:=al.2;clear ax ay af;obtain⟨bX,bZ⟩:=F_ b;have b5:w.1.size<wa.1.size:=ltg b;have b7:w.1.size+1<wa.1.size:=ltg b;have b9:w.1.size+1+1<wa.1.size:=ltg b;go_wp2_with fail;generalize ((wa.setCell ⟨g,0,I⟩ (J (A0f (R_ r*T_ s)).neg)).setCell ⟨g,1,I⟩ (QX H Z aa))=ae at *;have c0:g<ae.1.size:=by have:=bL.o;omega
  have cb:=bG.o;have cd:=bI.o;obtain⟨cO,cU⟩:=F_ ba;have dc:Y.1.size<=ae.1.size:=ba.size;have c9:w.1.size<ae.1.size:=oS;have da:w.1.size+1<ae.1.size:=oS;have db:w.1.size+1+1<ae.1.size:=oS;clear au aw aQ aR bX bZ az aV b b5 b7 b9 al am;have cN:=bA.o;refine X_ sI ?_;dsimp only[DN,DO,DQ];iterate 8 refine C_ _ ?_
  refine D_ (MP.sl (dig (val s.1.2*val r.2).toNat)) ?_ ?_;·intro W X G b h;obtain⟨aC,aD⟩:=F_ b;simp at h;refine G_ ?_;exact A1c ((B5m a6 aK a4 n2 c3 aL s.1.2 r.2 _ _ G (BN bm Below.go) (BN aP Below.go) E.mag.1 D.2.1 co bn).mono λ_ _ ah=>A8n (A0j _).1.i64 ah)
  refine D_ (CH (A0f (R_ s*T_ r))) ?_ ?_;·intro W X G b h;obtain⟨aC,aD⟩:=F_ b;simp at h;refine G_ ?_;obtain⟨_,⟨A,n,c,e,an⟩,_⟩:=h;rw[e];have C:=B0u s.1.1 A n c _ _ G an (A0j _) (by rw[<-an.1];exact CJ (C6f E.mag.1 D.2.1 E.num24 D.den24) dE);rw[E5a E.o.mag.1 D.o.2.1 an.1]at C;exact H_ C
  refine A1p #[J AH,QX I 0 0] 37 ?_ ?_;·intro W X G b h;refine⟨gD,?_⟩;go_simp
  intro W X wb b h (ai:Hid _);simp at h;have aJ:=h.2.2.2.2.2.2.2.2.2.1;have aY:=h.2.2.2.2.2.2.2.2.2.2;obtain⟨⟨aA,aj⟩,aG⟩:=aJ;obtain⟨ab,ac,ad,bz,az,ap,aH⟩:=FZ aA;obtain⟨⟨u,aV,ao,ak⟩,aF⟩:=aY;have aE:∀ T∈bz,T≠u:=λT O e=>by have:=ai.o 9 10 dE dE dE T (by rw[ap];exact O);rw[ao]at this;simp at this;exact this e
  rw[ap]at aj aG;have al:ae.1.size<=u/\u<wb.1.size:=by have:=aF u (by rw[ao];simp);omega
  have am:=al.1;obtain⟨au,aQ⟩:=B_ ak (j:=0) rfl;obtain⟨aw,aR⟩:=B_ ak (j:=1) rfl;obtain⟨k1,k2⟩:=C6o aH aj aE (J (A0f (R_ s*T_ r)).neg) (QX ab ac ad);have bF:=A_ k1;clear h ai aH aj aG aF ak aE k1 k2 aA ap ao;have af:Bw w ((wb.setCell ⟨u,0,I⟩ (J (A0f (R_ s*T_ r)).neg)).setCell ⟨u,1,I⟩ (QX ab ac ad)):=Below.go
  have ay:((wb.setCell ⟨u,0,I⟩ (J (A0f (R_ s*T_ r)).neg)).setCell ⟨u,1,I⟩ (QX ab ac ad)).cell? ⟨u,1,I⟩=QZ (QX ab ac ad) :=
   AD.cell?_setCell_same _ _ _ ((AD.cell?_setCell_other wb ⟨u,0,I⟩ ⟨u,1,I⟩ _ sI).trans aw)
  have ax:((wb.setCell ⟨u,0,I⟩ (J (A0f (R_ s*T_ r)).neg)).setCell ⟨u,1,I⟩ (QX ab ac ad)).cell? ⟨u,0,I⟩=QZ (J (A0f (R_ s*T_ r)).neg) :=
   (AD.cell?_setCell_other _ ⟨u,1,I⟩ ⟨u,0,I⟩ _ sI).trans (AD.cell?_setCell_same _ _ _ au)
  have aU:=A_ (show Bw ae ((wb.setCell ⟨u,0,I⟩ (J (A0f (R_ s*T_ r)).neg)).setCell ⟨u,1,I⟩ (QX ab ac ad))from(b.setCell (p:=⟨u,0,I⟩) am _).setCell (p:=⟨u,1,I⟩) am _);have bH:=A_ ax;have bJ:=A_ ay;have bB:=A_ af;have bM:=A_ (by simp:((wb.setCell ⟨u,0,I⟩ (J (A0f (R_ s*T_ r)).neg)).setCell ⟨u,1,I⟩ (QX ab ac ad)).1.size=wb.1.size);have cZ:=al.2;clear ax ay af;obtain⟨bY,b0⟩:=F_ b;have b6:w.1.size<wb.1.size:=ltg b;have b8:w.1.size+1<wb.1.size:=ltg b;have ca:w.1.size+1+1<wb.1.size:=ltg b;go_wp2_with fail;generalize ((wb.setCell ⟨u,0,I⟩ (J (A0f (R_ s*T_ r)).neg)).setCell ⟨u,1,I⟩ (QX ab ac ad))=ag at *;have c1:u<ag.1.size:=by have:=bM.o;omega
  have cc:=bH.o;have ce:=bJ.o;obtain⟨cP,cV⟩:=F_ aU;have dg:ae.1.size<=ag.1.size:=aU.size;have dd:w.1.size<ag.1.size:=oS;have de:w.1.size+1<ag.1.size:=oS;have df:w.1.size+1+1<ag.1.size:=oS;clear au aw aQ aR bY b0 az aV b b6 b8 ca al am;have bW:=bB.o;have bT:Bw w ag:=bW;have bQ:=A_ (show(A0f (R_ r*T_ s)).mag.length<=59 from CJ (C3t (B6g D.numlt E.denlt)) dE);have bR:=A_ (show(A0f (R_ s*T_ r)).mag.length<=59 from CJ (C3t (B6g E.numlt D.denlt)) dE);have bS:=A_ (show(A0f (R_ r*T_ s+R_ s*T_ r)).mag.length<=65536 by have ah:=C3t (E5v (B6g D.numlt E.denlt) (B6g E.numlt D.denlt));omega);go_wp2_with fail;have C:=B8w _ _ (A0f (R_ r*T_ s)) (A0f (R_ s*T_ r)) _ _ ag (FV (BN bE aU)) (FV bF) (A7g _) (A7g _) bQ bR;rw[A5m,A5m]at C;refine C.mono ?_;clear C;rintro _ ar ⟨dl,cG,rfl,bf,b4,aB⟩;obtain⟨a7,a8,a9,cH,rfl,aI,bj⟩:=FZ bf;have bd:=A_ bj;clear bf b4 aI bj cb cd cc ce;obtain⟨cQ,cW⟩:=F_ aB;have c2:w.1.size<ar.1.size:=ltg aB;have c5:w.1.size+1<ar.1.size:=ltg aB;have c7:w.1.size+1+1<ar.1.size:=ltg aB;go_wp2_with fail;have cK:Bw w ar:=BH bT aB;refine X_ sI ?_;dsimp only[DN,DO,DQ];iterate 8 refine C_ _ ?_
  refine D_ (MP.sl (dig (T_ r*T_ s).toNat)) ?_ ?_;·intro W X G b h;obtain⟨aC,aD⟩:=F_ b;simp at h;refine G_ ?_;exact A1c ((B5m aK aN n2 aM aL aO r.2 s.2 _ _ G (BN aP Below.go) (BN aS Below.go) D.2.1 E.2.1 bn bo).mono λ_ _ ah=>A8n (A0j _).1.i64 ah)
  refine D_ (CH (mkR (R_ r*T_ s+R_ s*T_ r) (T_ r*T_ s))) ?_ ?_;·intro W X G b h;obtain⟨aC,aD⟩:=F_ b;simp at h;refine G_ ?_;obtain⟨_,_,⟨bu,cg,c',bU,aX⟩,_⟩:=h;rw[bU];have C:=D5l (A0f (R_ r*T_ s+R_ s*T_ r)).neg a7 bu a8 cg a9 c' (A0f (R_ r*T_ s+R_ s*T_ r)).mag _ _ _ G (BN (BN bd.o (BP _)) b) aX (A7g _) (A0j _) (by rw[<-aX.1];exact a1.o.pos) (by rw[<-bd.o.1];exact bS.o) (by rw[<-aX.1];exact a1.le);rw[show C8r (A0f (R_ r*T_ s+R_ s*T_ r)).neg (A0f (R_ r*T_ s+R_ s*T_ r)).mag=R_ r*T_ s+R_ s*T_ r from A5m _,a1.o.v]at C;exact H_ C
  intro W X aZ b h (ai:Hid _);simp at h;have aJ:=h.2.2.2.2.2.2.2.2.2;obtain⟨⟨aW,bg⟩,bh⟩:=aJ;obtain⟨P1,P2,bN,cI,Q1,Q2,bO,cJ,az,aI,a2,a3⟩:=CF aW;have aT:=A_ aW;have bD:=A_ bg;have bK:=A_ bh;clear h ai aI a2 a3 aW bg bh;have bc:=A_ (by simp;omega:w.1.size+3<=(ar.alloc (BG #[J (A0f (R_ r*T_ s+R_ s*T_ r)).neg,QX a7 a8 a9] 37)).1.size);obtain⟨cR,cX⟩:=F_ b;have c4:w.1.size<aZ.1.size:=by have:=b.size;simp at this;omega
  have c6:w.1.size+1<aZ.1.size:=by have:=b.size;simp at this;omega
  have c8:w.1.size+1+1<aZ.1.size:=by have:=b.size;simp at this;omega
  have cF:w.1.size+1+1<ar.1.size+1:=oS;go_wp2;refine CK (v:=BJ #[J (mkR (R_ r*T_ s+R_ s*T_ r) (T_ r*T_ s)).1.1,QX P1 P2 bN,QX Q1 Q2 bO]) (by simp[CO,results146,go_sem, *]) rfl ?_;rw[az]at aT;refine A1s (lo:=w.1.size+3) aT bD (λT O=>by have:=(bK T O).1;have:=bc.o;omega) oS ?_ ?_;·exact Above.go
  exact Below.go
 have R1:=A_ (by simp[bi]:decide (r.2=[1])=AH);clear O bi;go_enter func146,ntmps146;go_wp2_with fail;have C:=B5y aK n2 aL r.2 _ (((w.alloc (BG #[J r.1.1,QX a5 n1 be,QX aK n2 aL] 39)).alloc (BG #[J s.1.1,QX a6 a4 c3,QX aN aM aO] 39)).alloc (BG #[J AH,QX I 0 0,QX I 0 0] 39)) (BN aP Below.go);rw[R1.o]at C;refine C.mono ?_;clear C;rintro _ Y ⟨rfl,aq⟩;obtain⟨cs,ct⟩:=F_ aq;have cB:w.1.size<Y.1.size:=ltg aq;have cD:w.1.size+1<Y.1.size:=ltg aq;have cE:w.1.size+1+1<Y.1.size:=ltg aq;go_wp2_with fail;refine X_ sI ?_;dsimp only[DN,DO,DQ];iterate 8 refine C_ _ ?_
 refine D_ (MP.sl (dig (val r.1.2*val s.2).toNat)) ?_ ?_;·intro W X G b h;obtain⟨aC,aD⟩:=F_ b;simp at h;refine G_ ?_;exact A1c ((B5m a5 aN n1 aM be aO r.1.2 s.2 _ _ G (BN bl Below.go) (BN aS Below.go) D.mag.1 E.2.1 cn bo).mono λ_ _ ah=>A8n (A0j _).1.i64 ah)
 refine D_ (CH (A0f (R_ r*T_ s))) ?_ ?_;·intro W X G b h;obtain⟨aC,aD⟩:=F_ b;simp at h;refine G_ ?_;obtain⟨_,⟨A,n,c,e,an⟩,_⟩:=h;rw[e];have C:=B0u r.1.1 A n c _ _ G an (A0j _) (by rw[<-an.1];exact CJ (C6f D.mag.1 E.2.1 D.num24 E.den24) dE);rw[E5a D.o.mag.1 E.o.2.1 an.1]at C;exact H_ C
 refine A1p #[J AH,QX I 0 0] 37 ?_ ?_;·intro W X G b h;refine⟨gD,?_⟩;go_simp
 intro W X wa b h (ai:Hid _);simp at h;have aJ:=h.2.2.2.2.2.2.2.2.2.1;have aY:=h.2.2.2.2.2.2.2.2.2.2;obtain⟨⟨aA,aj⟩,aG⟩:=aJ;obtain⟨H,Z,aa,bv,az,ap,aH⟩:=FZ aA;obtain⟨⟨g,aV,ao,ak⟩,aF⟩:=aY;have aE:∀ T∈bv,T≠g:=λT O e=>by have:=ai.o 9 10 dE dE dE T (by rw[ap];exact O);rw[ao]at this;simp at this;exact this e
 rw[ap]at aj aG;have al:Y.1.size<=g/\g<wa.1.size:=by have:=aF g (by rw[ao];simp);omega
 have am:=al.1;obtain⟨au,aQ⟩:=B_ ak (j:=0) rfl;obtain⟨aw,aR⟩:=B_ ak (j:=1) rfl;obtain⟨k1,k2⟩:=C6o aH aj aE (J (A0f (R_ r*T_ s)).neg) (QX H Z aa);have bE:=A_ k1;clear h ai aH aj aG aF ak aE k1 k2 aA ap ao;have af:Bw w ((wa.setCell ⟨g,0,I⟩ (J (A0f (R_ r*T_ s)).neg)).setCell ⟨g,1,I⟩ (QX H Z aa)):=Below.go
 have ay:((wa.setCell ⟨g,0,I⟩ (J (A0f (R_ r*T_ s)).neg)).setCell ⟨g,1,I⟩ (QX H Z aa)).cell? ⟨g,1,I⟩=QZ (QX H Z aa) :=
  AD.cell?_setCell_same _ _ _ ((AD.cell?_setCell_other wa ⟨g,0,I⟩ ⟨g,1,I⟩ _ sI).trans aw)
 have ax:((wa.setCell ⟨g,0,I⟩ (J (A0f (R_ r*T_ s)).neg)).setCell ⟨g,1,I⟩ (QX H Z aa)).cell? ⟨g,0,I⟩=QZ (J (A0f (R_ r*T_ s)).neg) :=
  (AD.cell?_setCell_other _ ⟨g,1,I⟩ ⟨g,0,I⟩ _ sI).trans (AD.cell?_setCell_same _ _ _ au)
 have ba:=A_ (show Bw Y ((wa.setCell ⟨g,0,I⟩ (J (A0f (R_ r*T_ s)).neg)).setCell ⟨g,1,I⟩ (QX H Z aa))from(b.setCell (p:=⟨g,0,I⟩) am _).setCell (p:=⟨g,1,I⟩) am _);have bG:=A_ ax;have bI:=A_ ay;have bA:=A_ af;have bL:=A_ (by simp:((wa.setCell ⟨g,0,I⟩ (J (A0f (R_ r*T_ s)).neg)).setCell ⟨g,1,I⟩ (QX H Z aa)).1.size=wa.1.size);have cY:=al.2;clear ax ay af;obtain⟨bX,bZ⟩:=F_ b;have b5:w.1.size<wa.1.size:=ltg b;have b7:w.1.size+1<wa.1.size:=ltg b;have b9:w.1.size+1+1<wa.1.size:=ltg b;go_wp2_with fail;generalize ((wa.setCell ⟨g,0,I⟩ (J (A0f (R_ r*T_ s)).neg)).setCell ⟨g,1,I⟩ (QX H Z aa))=ae at *;have c0:g<ae.1.size:=by have:=bL.o;omega
 have cb:=bG.o;have cd:=bI.o;obtain⟨cO,cU⟩:=F_ ba;have dc:Y.1.size<=ae.1.size:=ba.size;have c9:w.1.size<ae.1.size:=oS;have da:w.1.size+1<ae.1.size:=oS;have db:w.1.size+1+1<ae.1.size:=oS;clear au aw aQ aR bX bZ az aV b b5 b7 b9 al am;have cN:=bA.o;refine X_ sI ?_;dsimp only[DN,DO,DQ];iterate 8 refine C_ _ ?_
 refine D_ (MP.sl (dig (val s.1.2*val r.2).toNat)) ?_ ?_;·intro W X G b h;obtain⟨aC,aD⟩:=F_ b;simp at h;refine G_ ?_;exact A1c ((B5m a6 aK a4 n2 c3 aL s.1.2 r.2 _ _ G (BN bm Below.go) (BN aP Below.go) E.mag.1 D.2.1 co bn).mono λ_ _ ah=>A8n (A0j _).1.i64 ah)
 refine D_ (CH (A0f (R_ s*T_ r))) ?_ ?_;·intro W X G b h;obtain⟨aC,aD⟩:=F_ b;simp at h;refine G_ ?_;obtain⟨_,⟨A,n,c,e,an⟩,_⟩:=h;rw[e];have C:=B0u s.1.1 A n c _ _ G an (A0j _) (by rw[<-an.1];exact CJ (C6f E.mag.1 D.2.1 E.num24 D.den24) dE);rw[E5a E.o.mag.1 D.o.2.1 an.1]at C;exact H_ C
 refine A1p #[J AH,QX I 0 0] 37 ?_ ?_;·intro W X G b h;refine⟨gD,?_⟩;go_simp
 intro W X wb b h (ai:Hid _);simp at h;have aJ:=h.2.2.2.2.2.2.2.2.2.1;have aY:=h.2.2.2.2.2.2.2.2.2.2;obtain⟨⟨aA,aj⟩,aG⟩:=aJ;obtain⟨ab,ac,ad,bz,az,ap,aH⟩:=FZ aA;obtain⟨⟨u,aV,ao,ak⟩,aF⟩:=aY;have aE:∀ T∈bz,T≠u:=λT O e=>by have:=ai.o 9 10 dE dE dE T (by rw[ap];exact O);rw[ao]at this;simp at this;exact this e
 rw[ap]at aj aG;have al:ae.1.size<=u/\u<wb.1.size:=by have:=aF u (by rw[ao];simp);omega
 have am:=al.1;obtain⟨au,aQ⟩:=B_ ak (j:=0) rfl;obtain⟨aw,aR⟩:=B_ ak (j:=1) rfl;obtain⟨k1,k2⟩:=C6o aH aj aE (J (A0f (R_ s*T_ r)).neg) (QX ab ac ad);have bF:=A_ k1;clear h ai aH aj aG aF ak aE k1 k2 aA ap ao;have af:Bw w ((wb.setCell ⟨u,0,I⟩ (J (A0f (R_ s*T_ r)).neg)).setCell ⟨u,1,I⟩ (QX ab ac ad)):=Below.go
 have ay:((wb.setCell ⟨u,0,I⟩ (J (A0f (R_ s*T_ r)).neg)).setCell ⟨u,1,I⟩ (QX ab ac ad)).cell? ⟨u,1,I⟩=QZ (QX ab ac ad) :=
  AD.cell?_setCell_same _ _ _ ((AD.cell?_setCell_other wb ⟨u,0,I⟩ ⟨u,1,I⟩ _ sI).trans aw)
 have ax:((wb.setCell ⟨u,0,I⟩ (J (A0f (R_ s*T_ r)).neg)).setCell ⟨u,1,I⟩ (QX ab ac ad)).cell? ⟨u,0,I⟩=QZ (J (A0f (R_ s*T_ r)).neg) :=
  (AD.cell?_setCell_other _ ⟨u,1,I⟩ ⟨u,0,I⟩ _ sI).trans (AD.cell?_setCell_same _ _ _ au)
 have aU:=A_ (show Bw ae ((wb.setCell ⟨u,0,I⟩ (J (A0f (R_ s*T_ r)).neg)).setCell ⟨u,1,I⟩ (QX ab ac ad))from(b.setCell (p:=⟨u,0,I⟩) am _).setCell (p:=⟨u,1,I⟩) am _);have bH:=A_ ax;have bJ:=A_ ay;have bB:=A_ af;have bM:=A_ (by simp:((wb.setCell ⟨u,0,I⟩ (J (A0f (R_ s*T_ r)).neg)).setCell ⟨u,1,I⟩ (QX ab ac ad)).1.size=wb.1.size);have cZ:=al.2;clear ax ay af;obtain⟨bY,b0⟩:=F_ b;have b6:w.1.size<wb.1.size:=ltg b;have b8:w.1.size+1<wb.1.size:=ltg b;have ca:w.1.size+1+1<wb.1.size:=ltg b;go_wp2_with fail;generalize ((wb.setCell ⟨u,0,I⟩ (J (A0f (R_ s*T_ r)).neg)).setCell ⟨u,1,I⟩ (QX ab ac ad))=ag at *;have c1:u<ag.1.size:=by have:=bM.o;omega
 have cc:=bH.o;have ce:=bJ.o;obtain⟨cP,cV⟩:=F_ aU;have dg:ae.1.size<=ag.1.size:=aU.size;have dd:w.1.size<ag.1.size:=oS;have de:w.1.size+1<ag.1.size:=oS;have df:w.1.size+1+1<ag.1.size:=oS;clear au aw aQ aR bY b0 az aV b b6 b8 ca al am;have bW:=bB.o;have bT:Bw w ag:=bW;have bQ:=A_ (show(A0f (R_ r*T_ s)).mag.length<=59 from CJ (C3t (B6g D.numlt E.denlt)) dE);have bR:=A_ (show(A0f (R_ s*T_ r)).mag.length<=59 from CJ (C3t (B6g E.numlt D.denlt)) dE);have bS:=A_ (show(A0f (R_ r*T_ s+R_ s*T_ r)).mag.length<=65536 by have ah:=C3t (E5v (B6g D.numlt E.denlt) (B6g E.numlt D.denlt));omega);go_wp2_with fail;have C:=B8w _ _ (A0f (R_ r*T_ s)) (A0f (R_ s*T_ r)) _ _ ag (FV (BN bE aU)) (FV bF) (A7g _) (A7g _) bQ bR;rw[A5m,A5m]at C;refine C.mono ?_;clear C;rintro _ ar ⟨dl,cG,rfl,bf,b4,aB⟩;obtain⟨a7,a8,a9,cH,rfl,aI,bj⟩:=FZ bf;have bd:=A_ bj;clear bf b4 aI bj cb cd cc ce;obtain⟨cQ,cW⟩:=F_ aB;have c2:w.1.size<ar.1.size:=ltg aB;have c5:w.1.size+1<ar.1.size:=ltg aB;have c7:w.1.size+1+1<ar.1.size:=ltg aB;go_wp2_with fail;have cK:Bw w ar:=BH bT aB;refine X_ sI ?_;dsimp only[DN,DO,DQ];iterate 8 refine C_ _ ?_
 refine D_ (MP.sl (dig (T_ r*T_ s).toNat)) ?_ ?_;·intro W X G b h;obtain⟨aC,aD⟩:=F_ b;simp at h;refine G_ ?_;exact A1c ((B5m aK aN n2 aM aL aO r.2 s.2 _ _ G (BN aP Below.go) (BN aS Below.go) D.2.1 E.2.1 bn bo).mono λ_ _ ah=>A8n (A0j _).1.i64 ah)
 refine D_ (CH (mkR (R_ r*T_ s+R_ s*T_ r) (T_ r*T_ s))) ?_ ?_;·intro W X G b h;obtain⟨aC,aD⟩:=F_ b;simp at h;refine G_ ?_;obtain⟨_,_,⟨bu,cg,c',bU,aX⟩,_⟩:=h;rw[bU];have C:=D5l (A0f (R_ r*T_ s+R_ s*T_ r)).neg a7 bu a8 cg a9 c' (A0f (R_ r*T_ s+R_ s*T_ r)).mag _ _ _ G (BN (BN bd.o (BP _)) b) aX (A7g _) (A0j _) (by rw[<-aX.1];exact a1.o.pos) (by rw[<-bd.o.1];exact bS.o) (by rw[<-aX.1];exact a1.le);rw[show C8r (A0f (R_ r*T_ s+R_ s*T_ r)).neg (A0f (R_ r*T_ s+R_ s*T_ r)).mag=R_ r*T_ s+R_ s*T_ r from A5m _,a1.o.v]at C;exact H_ C
 intro W X aZ b h (ai:Hid _);simp at h;have aJ:=h.2.2.2.2.2.2.2.2.2;obtain⟨⟨aW,bg⟩,bh⟩:=aJ;obtain⟨P1,P2,bN,cI,Q1,Q2,bO,cJ,az,aI,a2,a3⟩:=CF aW;have aT:=A_ aW;have bD:=A_ bg;have bK:=A_ bh;clear h ai aI a2 a3 aW bg bh;have bc:=A_ (by simp;omega:w.1.size+3<=(ar.alloc (BG #[J (A0f (R_ r*T_ s+R_ s*T_ r)).neg,QX a7 a8 a9] 37)).1.size);obtain⟨cR,cX⟩:=F_ b;have c4:w.1.size<aZ.1.size:=by have:=b.size;simp at this;omega
 have c6:w.1.size+1<aZ.1.size:=by have:=b.size;simp at this;omega
 have c8:w.1.size+1+1<aZ.1.size:=by have:=b.size;simp at this;omega
 have cF:w.1.size+1+1<ar.1.size+1:=oS;go_wp2;refine CK (v:=BJ #[J (mkR (R_ r*T_ s+R_ s*T_ r) (T_ r*T_ s)).1.1,QX P1 P2 bN,QX Q1 Q2 bO]) (by simp[CO,results146,go_sem, *]) rfl ?_;rw[az]at aT;refine A1s (lo:=w.1.size+3) aT bD (λT O=>by have:=(bK T O).1;have:=bc.o;omega) oS ?_ ?_;·exact Above.go
 exact Below.go
theorem D4c (v1 v2:AU) (r s:TRat) (b1 b2:List Nat) (w:AD) (af:Agg w v1 r b1) (ag:Agg w v2 s b2) :
  BL prog 82 #[v1,v2] w (A0c w (A0k r s)):=by
 have O:=A_ af;have aa:=A_ ag;obtain⟨W,n1,ab,aT,X,n2,ac,aU,rfl,rfl,aG,aH⟩:=CF af;obtain⟨Y,ah,c3,aV,Z,ai,ad,aW,rfl,rfl,aI,aJ⟩:=CF ag;clear aG aH aI aJ af ag;cases u:J_ r;·have H:=A_ (by unfold A0k;rw[u];rfl:A0k r s=A0h);have R:=A_ u;clear u;go_enter func82,ntmps82;go_wp2_with fail;have C:=B1w _ r _ (((w.alloc (BG #[J r.1.1,QX W n1 ab,QX X n2 ac] 39)).alloc (BG #[J s.1.1,QX Y ah c3,QX Z ai ad] 39)).alloc (BG #[J AH,QX I 0 0,QX I 0 0] 39)) (IE O Below.go);rw[R.o]at C;refine C.mono ?_;clear C;rintro _ h ⟨rfl,b⟩;obtain⟨al,am⟩:=F_ b;have ao:w.1.size<h.1.size:=ltg b;have ap:w.1.size+1<h.1.size:=ltg b;have aq:w.1.size+1+1<h.1.size:=ltg b;go_wp2;refine CK (v:=BJ #[J AH,QX I 0 0,QX I 0 0]) (by simp[CO,results82,go_sem, *]) rfl ?_;rw[H.o];exact A3e Below.go
 cases G:J_ s;·have H:=A_ (by unfold A0k;rw[u,G];rfl:A0k r s=A0h);have R:=A_ u;have S:=A_ G;clear u G;go_enter func82,ntmps82;go_wp2_with fail;have C:=B1w _ r _ (((w.alloc (BG #[J r.1.1,QX W n1 ab,QX X n2 ac] 39)).alloc (BG #[J s.1.1,QX Y ah c3,QX Z ai ad] 39)).alloc (BG #[J AH,QX I 0 0,QX I 0 0] 39)) (IE O Below.go);rw[R.o]at C;refine C.mono ?_;clear C;rintro _ h ⟨rfl,b⟩;obtain⟨al,am⟩:=F_ b;have ao:w.1.size<h.1.size:=ltg b;have ap:w.1.size+1<h.1.size:=ltg b;have aq:w.1.size+1+1<h.1.size:=ltg b;go_wp2_with fail;have C:=B1w _ s _ h (IE aa Below.go);rw[S.o]at C;refine C.mono ?_;clear C;rintro _ E ⟨rfl,D⟩;obtain⟨aE,aF⟩:=F_ D;have aL:w.1.size<E.1.size:=ltg D;have aM:w.1.size+1<E.1.size:=ltg D;have aN:w.1.size+1+1<E.1.size:=ltg D;go_wp2;refine CK (v:=BJ #[J AH,QX I 0 0,QX I 0 0]) (by simp[CO,results82,go_sem, *]) rfl ?_;rw[H.o];exact A3e Below.go
 have R:=A_ u;have S:=A_ G;have ay:=A_ (ratOkB_iff.1 u);have az:=A_ (ratOkB_iff.1 G);have H:=A_ (by unfold A0k;rw[u,G];rfl:A0k r s=mkR (R_ r*T_ s+R_ s*T_ r) (T_ r*T_ s));clear u G;go_enter func82,ntmps82;go_wp2_with fail;have C:=B1w _ r _ (((w.alloc (BG #[J r.1.1,QX W n1 ab,QX X n2 ac] 39)).alloc (BG #[J s.1.1,QX Y ah c3,QX Z ai ad] 39)).alloc (BG #[J AH,QX I 0 0,QX I 0 0] 39)) (IE O Below.go);rw[R.o]at C;refine C.mono ?_;clear C;rintro _ h ⟨rfl,b⟩;obtain⟨al,am⟩:=F_ b;have ao:w.1.size<h.1.size:=ltg b;have ap:w.1.size+1<h.1.size:=ltg b;have aq:w.1.size+1+1<h.1.size:=ltg b;go_wp2_with fail;have C:=B1w _ s _ h (IE aa Below.go);rw[S.o]at C;refine C.mono ?_;clear C;rintro _ E ⟨rfl,D⟩;obtain⟨aE,aF⟩:=F_ D;have aL:w.1.size<E.1.size:=ltg D;have aM:w.1.size+1<E.1.size:=ltg D;have aN:w.1.size+1+1<E.1.size:=ltg D;go_wp2_with fail;refine(D5u _ _ r s _ _ E (IE O Below.go) (IE aa Below.go) ay az).mono ?_;rintro _ aj ⟨a1,aX,rfl,ae,an,T⟩;obtain⟨ar,m1,aB,aY,au,m2,aC,aZ,rfl,aK,_,_⟩:=CF ae;have aw:=A_ ae;have ak:=A_ an;have ax:=A_ (by omega:w.1.size+3<=E.1.size);clear ae an aK;obtain⟨aO,aP⟩:=F_ T;have aQ:w.1.size<aj.1.size:=ltg T;have aR:w.1.size+1<aj.1.size:=ltg T;have aS:w.1.size+1+1<aj.1.size:=ltg T;go_wp2;refine CK (v:=BJ #[J (mkR (R_ r*T_ s+R_ s*T_ r) (T_ r*T_ s)).1.1,QX ar m1 aB,QX au m2 aC]) (by simp[CO,results82,go_sem, *]) rfl ?_;rw[H.o];refine A1s (lo:=w.1.size+3) aw ak.free (λaA aD=>by have:=(ak.range aA aD).1;have:=ax.o;omega) oS ?_ ?_;·exact Above.go
 exact Below.go
end Go.Proofs.YtjcanieccnljfaaGreat.X

namespace Go.XN
open Go.XB
def A8v (xs:List TRat):TRat:=xs.foldl A0k (U_ 0)
theorem E2f {xs:List TRat} {k:Nat} {x:TRat} (h:xs[k]?=QZ x):A8v (xs.take (k+1))=A0k (A8v (xs.take k)) x:=by
 unfold A8v;rw[take_step h,List.foldl_append];rfl
end Go.XN
namespace Go.XB
theorem Free.keep {w w':AD} {bs:List Nat} (h:Free w bs) (hk:∀ g∈bs,w'.1[g]?=w.1[g]?):Free w' bs:=⟨h.1,λb hb=>by obtain⟨cs,t,e⟩:=h.2 b hb;exact⟨cs,t,(hk b hb).trans e⟩⟩
end Go.XB
namespace Go.Proofs.YtjcanieccnljfaaGreat.X
open Go.RowKit Go.XB Go.XN Proofs.Tryz
attribute [local go_sem] L_ opAt N_ M_ Region.wanted yielded
attribute [local simp] N_ M_ MP.eq MP.agg MP.sl A0r
theorem _root_.oG {p:Prop} (h:p:=by constructor<;>decide):p:=h
theorem D6a (A:Option AJ) (n c:Nat) (xs:List TRat) (bs:List Nat) (w:AD) (Y:Sl w A n c xs bs) :
  BL prog 37 #[QX A n c] w (A0c w (A8v xs)):=by
 have aL:=A_ Y.1;have aM:=A_ Y;have aX:n<=BS:=CJ Y.2.1 Y.2.2.1;unfold BS at aX;clear Y;go_enter func37,ntmps37;go_wp2_with fail;refine(A0l 0 _ oG).mono ?_;rintro _ b ⟨v1,aZ,rfl,af,aA,ah⟩;obtain⟨aE,m1,aQ,bp,aF,m2,aR,bq,rfl,ak,_,_⟩:=CF af;have aH:=A_ af;have ar:=A_ aA;clear af aA ak;obtain⟨bc,be⟩:=F_ ah;have bl:w.1.size<b.1.size:=ltg ah;have ae:=A_ (by have:=ah.size;simp at this;omega:w.1.size+1<=b.1.size);go_wp2_with fail;go_loopg [9] n (λg s wr=>∃ (k:Nat) (r:TRat) (E:Option AJ) (n1 H:Nat) (G:Option AJ) (n2 O:Nat) (D:List Nat),k+g=n/\s=N .i64 k/\Hid (r=A8v (xs.take k))/\Hid (Agg wr (BJ #[J r.1.1,QX E n1 H,QX G n2 O]) r D)/\Hid (Free wr D/\∀ h∈D,w.1.size+1<=h/\h≠b.1.size)/\Bw w wr/\(b.1.size<wr.1.size/\wr.cell? ⟨w.1.size,0,I⟩=QZ (J AH)/\wr.cell? ⟨w.1.size,1,I⟩=QZ (QX I 0 0)/\wr.cell? ⟨w.1.size,2,I⟩=QZ (QX I 0 0)/\wr.frozen? ⟨w.1.size,0,I⟩=AH/\wr.frozen? ⟨w.1.size,1,I⟩=AH/\wr.frozen? ⟨w.1.size,2,I⟩=AH)/\wr.cell? ⟨b.1.size,0,I⟩=QZ (J r.1.1)/\wr.cell? ⟨b.1.size,1,I⟩=QZ (QX E n1 H)/\wr.cell? ⟨b.1.size,2,I⟩=QZ (QX G n2 O)/\wr.frozen? ⟨b.1.size,0,I⟩=AH/\wr.frozen? ⟨b.1.size,1,I⟩=AH/\wr.frozen? ⟨b.1.size,2,I⟩=AH);case atStart =>
  refine⟨0,U_ 0,aE,m1,aQ,aF,m2,aR,aZ,oS,rfl,by show U_ 0=A8v (xs.take 0);rfl,aH.below Below.go,⟨ar.free.below Below.go,λh u=>by have:=ar.range h u;simp at this;omega⟩,Below.go,?_,?_⟩;·refine⟨sI,?_,?_,?_,?_,?_,?_⟩<;>go_simp
  refine⟨?_,?_,?_,?_,?_,?_⟩<;>go_simp
 case round =>
  obtain⟨k,r,E,n1,H,G,n2,O,D,ay,rfl,aC,aw,ai,u,aT,bh⟩:=hrel;have ac:=A_ u;obtain⟨aU,ba⟩:=aT;have aO:=A_ aU;rcases Nat.lt_or_ge k n with X|X
  ·obtain⟨a3,bo,x,a1,q1,p1,a7,a2,q2,p2,a8,rfl,a9,aD,a4,a5,a6,ax⟩:=TRat.elemA (BN aM u) X
   have aN:=A_ aD;have aJ:=A_ ax;have aW:(k:Int)<n:=oS;obtain⟨g,rfl⟩:∃ g,gk=g+1:=⟨gk - 1,oS⟩
   have aV:=A_ (by omega:k+1+g=n);have bg:k+1<=n:=X;have bj:w.1.size<wr.1.size:=by have:=ae.o;omega
   have bi:w.1.size<wr.1.size+1:=oS;have bk:b.1.size<wr.1.size+1:=oS;have aP:=A_ (by rw[E2f aN.o,aC.o]:A0k r x=A8v (xs.take (k+1)));clear aD ay X ax;go_wp2_with fail;refine(A0x _ _ r x _ _ _ (IE aw (BP _)) (IE aJ (BP _))).mono ?_;rintro _ T ⟨v2,al,rfl,ag,aB,Z⟩;obtain⟨aa,am,ao,br,ab,an,ap,bt,rfl,ak,_,_⟩:=CF ag;have aI:=A_ ag;have au:=A_ aB;have aK:=A_ Z;clear ag aB ak;obtain⟨bd,bf⟩:=F_ Z;have bm:w.1.size<T.1.size:=by have:=Z.size;simp at this;omega
   have bn:b.1.size<T.1.size:=by have:=Z.size;simp at this;omega
   have az:∀ h∈al,w.1.size+1<=h/\h≠b.1.size:=λh u=>by have:=(au.range h u).1;simp at this;have:=aO.o;have:=ac.size;have:=ae.o;omega
   have aq:=A_ az;have ad:=A_ (by have:=ae.o;omega:w.1.size<=b.1.size);clear az;go_wp2_with fail;go_roundg g;case measure=>omega
   case rel =>
    have W:∀ g∈al,(((T.setCell ⟨b.1.size,0,I⟩ (J (A0k r x).1.1)).setCell ⟨b.1.size,1,I⟩ (QX aa am ao)).setCell ⟨b.1.size,2,I⟩ (QX ab an ap)).1[g]?=T.1[g]? :=
     λg aj=>A0m b.1.size [J (A0k r x).1.1,QX aa am ao,QX ab an ap] T 0 g (aq g aj).2
    refine⟨k+1,A0k r x,aa,am,ao,ab,an,ap,al,aV,gN,aP,aI.keep W,⟨au.free.keep W,aq⟩,?_,?_,?_⟩;·have aS:Bw w T:=BH (BH ac (BP _)) aK;exact((aS.setCell (p:=⟨b.1.size,0,I⟩) ad _).setCell (p:=⟨b.1.size,1,I⟩) ad _).setCell (p:=⟨b.1.size,2,I⟩) ad _
    ·refine⟨oR,?_,?_,?_,?_,?_,?_⟩<;>go_simp
    refine⟨?_,?_,?_,?_,?_,?_⟩<;>go_simp
  have aW:¬ ((k:Int)<n):=oS;have aG:=A_ (by rw[aC.o,List.take_of_length_le (by rw[aL.o];omega)]:r=A8v xs);clear ay X;go_wp2_with fail;refine CK (v:=BJ #[J r.1.1,QX E n1 H,QX G n2 O]) (by simp[CO,results37,go_sem, *]) rfl ?_;rw[<-aG.o];have aY:∀ h∈D,h≠w.1.size:=λh u=>by have:=(ai.2 h u).1;omega
  have W:∀ g∈D,(((wr.setCell ⟨w.1.size,0,I⟩ (J r.1.1)).setCell ⟨w.1.size,1,I⟩ (QX E n1 H)).setCell ⟨w.1.size,2,I⟩ (QX G n2 O)).1[g]?=wr.1[g]? :=
   λg aj=>A0m w.1.size [J r.1.1,QX E n1 H,QX G n2 O] wr 0 g (aY g aj)
  refine⟨_,D,rfl,aw.keep W,(ai.1.keep W).own (λh u=>by have:=(ai.2 h u).1;omega),?_⟩;exact((ac.setCell (p:=⟨w.1.size,0,I⟩) (CE _) _).setCell (p:=⟨w.1.size,1,I⟩) (CE _) _).setCell (p:=⟨w.1.size,2,I⟩) (CE _) _

theorem _root_.oD {p:Prop} (h:p:=by go_simp):p:=h
theorem E3e (A:Option AJ) (n c:Nat) (xs:List TRat) (bs:List Nat) (w:AD) (G:Sl w A n c xs bs) :
  BL prog 16 #[QX A n c] w (A0c w (A8v xs)):=by
 have W:=A_ G;clear G;go_enter func16,ntmps16;go_wp2_with fail;refine(D6a A n c xs _ _ (BN W Below.go)).mono ?_;rintro _ b ⟨v1,af,rfl,h,E,D⟩;obtain⟨H,m1,Y,ag,O,m2,Z,ah,rfl,ab,_,_⟩:=CF h;have T:=A_ h;have u:=A_ E;clear h E ab;obtain⟨ac,ad⟩:=F_ D;have ae:w.1.size<b.1.size:=ltg D;have ai:b.cell? ⟨w.1.size,0,I⟩=QZ (J AH):=oD;have al:b.frozen? ⟨w.1.size,0,I⟩=AH:=oD;have aj:b.cell? ⟨w.1.size,1,I⟩=QZ (QX I 0 0):=oD;have am:b.frozen? ⟨w.1.size,1,I⟩=AH:=oD;have ak:b.cell? ⟨w.1.size,2,I⟩=QZ (QX I 0 0):=oD;have an:b.frozen? ⟨w.1.size,2,I⟩=AH:=oD;go_wp2;refine CK (v:=BJ #[J (A8v xs).1.1,QX H m1 Y,QX O m2 Z]) (by simp[CO,results16,go_sem, *]) rfl ?_;refine A1s (lo:=w.1.size+1) T u.free (λX aa=>by have:=(u.range X aa).1;(try simp at this);omega) oS ?_ ?_;·exact Above.go
 exact Below.go
end Go.Proofs.YtjcanieccnljfaaGreat.X

namespace Go
section
variable {P:Program} (w:AD)
theorem D4h (base:Nat) (t ty e:TypeId) (i:TypeInfo) (z:AU) (size O:Nat) (W:P.underlying t=QZ (.slice e)) (hi:P.info? e=QZ i) (af:i.zero=QZ z)
  (D:i.size=size) (ac:i.bytes=O) (ao:z.cells.size=size) (am:0<size)
  (g n cap:Nat) (xs:List AU) (G:w.ownsRow base e size (QX (QZ ⟨g,0,I⟩) n cap) n xs)
  (a:AJ) (m c:Nat) (b:List AU) (E:b.length=m*size) (T:∀ j u,b[j]?=QZ u->w.cell? (a.add j)=QZ u) (Y:∀ u∈b,u.oneCell'=AF)
  (ab:n+m<=BS) (ad:(n+m)*O<=140737488355328) (ah:base<=w.1.size) :
  ∃ g' cap' w',(Builtin.append_ #[t,t] ty #[QX (QZ ⟨g,0,I⟩) n cap,QX (QZ a) m c]).run P w=.ok (QX (QZ ⟨g',0,I⟩) (n+m) cap') w'/\w'.ownsRow base e size (QX (QZ ⟨g',0,I⟩) (n+m) cap') (n+m) (xs++b)/\w.grownBy w' (QZ g)/\(g'=g\/g'=w.1.size):=by
 obtain⟨ay,w',H,Z,aa,_⟩:=run_append_own (P:=P) w base t ty e i z size O W hi af D ac ao am _ n xs G a m c b E T Y ab ad ah;by_cases ae:n+m<=cap
 ·rcases G.2 with⟨ag,_⟩|⟨aq,ap,X,an,ar,ak,aw,au,ai,ax⟩
  ·cases ag
  cases an;have aj:n*i.size+b.length<=X.size:=by rw[D,E,ai,<-Nat.add_mul];exact Nat.mul_le_mul_right _ ae
  have h:=run_append_room (P:=P) w t ty e i W hi g n cap X ak a m c b (by rw[D];exact E) T Y ae aj;rw[H]at h;cases h;exact⟨_,_,_,H,Z,aa,.inl rfl⟩
 have al:∀ j u,xs[j]?=QZ u->w.cell? ((⟨g,0,I⟩:AJ).add j)=QZ u:=G.cells (g:=g) rfl;have h:=run_append_grow (P:=P) w t ty e i z W hi af ⟨g,0,I⟩ n cap xs (by rw[D];exact G.1) al a m c b (by rw[D];exact E) T oS (by unfold BS at ab;omega) (growslice_fits oS (by rw[ac];exact ad));rw[H]at h;cases h;exact⟨_,_,_,H,Z,aa,.inr rfl⟩

theorem A1m {w:AD} {G:Array Oper} {rest:List Oper} {o:Oper} {a:Act} {Q:Exit->Act->AD->Prop} (ac:o.guard=I) (s x:Operand) (t:TypeId)
  (af:o.op=.call { callee:=.builtin .append,args:=#[s,x],argTypes:=#[t,t] })
  (base:Nat) (e:TypeId) (i:TypeInfo) (z:AU) (size E:Nat) (al:P.underlying t=QZ (.slice e)) (hi:P.info? e=QZ i) (an:i.zero=QZ z)
  (aj:i.size=size) (aa:i.bytes=E) (ao:z.cells.size=size) (ak:0<size)
  (g n cap:Nat) (xs:List AU) (ai:a.eval s=QX (QZ ⟨g,0,I⟩) n cap) (ag:w.ownsRow base e size (QX (QZ ⟨g,0,I⟩) n cap) n xs)
  (D:AJ) (m c:Nat) (b:List AU) (am:a.eval x=QX (QZ D) m c) (ad:b.length=m*size) (ae:∀ j u,b[j]?=QZ u->w.cell? (D.add j)=QZ u) (H:∀ u∈b,u.oneCell'=AF)
  (X:n+m<=BS) (ab:(n+m)*E<=140737488355328) (Z:base<=w.1.size)
  (h:∀ g' cap' w',w'.ownsRow base e size (QX (QZ ⟨g',0,I⟩) (n+m) cap') (n+m) (xs++b)->w.grownBy w' (QZ g)->(g'=g\/g'=w.1.size)->wpList P G Q rest (a.put o.dst (QX (QZ ⟨g',0,I⟩) (n+m) cap')) w'):wpList P G Q (o::rest) a w:=by
 refine wpList_plain ac λ_ Y=>?_;obtain⟨g',cap',w',ah,O,T,W⟩:=D4h (P:=P) w base t o.type e i z size E al hi an aj aa ao ak g n cap xs ag D m c b ad ae H X ab Z;unfold Oper.wp execOp;simp only[af,resolve,invoke,builtin,Sem.run_bind,Sem.run_pure,Result.andThen_ok,List.map_toArray,List.map_cons,List.map_nil,ai,am,ah];exact Y _ _ (h g' cap' w' O T W)
end
end Go

namespace Go.Proofs.YtjcanieccnljfaaGreat.X
open Go.RowKit Go.XB Go.XN
theorem E0f {a b c:Int} (u:CQ a b=1) (h:b∣a*c):b∣c:=by
 have D:b.natAbs∣a.natAbs*c.natAbs:=by rw[<-Int.natAbs_mul];exact Int.natAbs_dvd_natAbs.2 h
 have E:Nat.Coprime b.natAbs a.natAbs:=by rw[Nat.coprime_comm];exact u
 exact Int.natAbs_dvd_natAbs.1 (E.dvd_of_dvd_mul_left D)

theorem E8n {a b c d:Int} (E:0<b) (O:0<d) (u:CQ a b=1) (D:CQ c d=1) (e:a*d=c*b):a=c/\b=d:=by
 have G:b∣d:=by
  have h:b∣a*d:=⟨c,by rw[e,MF]⟩
  exact E0f u h
 have T:d∣b:=by
  have h:d∣c*b:=⟨a,by rw[<-e,MF]⟩
  exact E0f D h
 have H:b=d:=Int.dvd_antisymm (JJ E) (JJ O) G T;subst H;exact⟨Int.eq_of_mul_eq_mul_right oS e,rfl⟩

theorem B6r {A B:Int} (E:0<B):∃ g a b:Int,0<g/\A=g*a/\B=g*b/\0<b/\CQ a b=1/\A / CQ A B=a/\B / CQ A B=b:=by
 have G:0<CQ A B:=Int.gcd_pos_of_ne_zero_right A oS;have h:(0:Int)<CQ A B:=oS;have u:=Int.mul_ediv_cancel' (Int.gcd_dvd_left (a:=A) (b:=B));have D:=Int.mul_ediv_cancel' (Int.gcd_dvd_right (a:=A) (b:=B));refine⟨CQ A B,A / CQ A B,B / CQ A B,h,u.symm,D.symm,?_,?_,rfl,rfl⟩;·exact Int.ediv_pos_of_pos_of_dvd E (JJ h) (Int.gcd_dvd_right _ _)
 exact Int.gcd_ediv_gcd_ediv_gcd G

theorem A9v {T:TRat} (b:RatV T) {A B:Int} (X:0<B) (e:A*T_ T=R_ T*B):mkR A B=T:=by
 obtain⟨g,a,h,ad,Y,Z,aa,W,u,D⟩:=B6r (A:=A) X;have ab:CQ (R_ T) (T_ T)=1:=by
  have:=b.one;unfold R_ T_ A0q;split;·rw[Int.neg_gcd];exact this
  exact this
 have E:a*T_ T=R_ T*h:=by rw[Y,Z]at e;refine Int.eq_of_mul_eq_mul_left (a:=g) oS ?_;rw[<-Int.mul_assoc,e,Int.mul_left_comm]
 obtain⟨G,H⟩:=E8n aa b.den0 W ab E;have O:h=val T.2:=H;unfold mkR;rw[u,D,G,O,b.2.dig_natAbs];have ac:dig (R_ T).natAbs=T.1.2:=by unfold R_;rw[D5q,b.mag.dig_natAbs]
 rw[ac,if_pos ⟨b.num24,b.den24⟩];unfold R_;rw[D6d b.1]

theorem E8a {A B:Int} (E:0<B) (h:J_ (mkR A B)=AF):R_ (mkR A B)*B=A*T_ (mkR A B):=by
 obtain⟨g,a,b,X,G,H,W,T,u,D⟩:=B6r (A:=A) E;have O:mkR A B=⟨A0f a,dig b.natAbs⟩:=by
  unfold mkR at h ⊢;rw[u,D]at h ⊢;split;·rfl
  rename_i h2;rw[if_neg h2]at h;rw[D2b]at h;cases h
 rw[O];unfold R_ T_;simp only[A5m,A1j];rw[G,H,Int.natAbs_of_nonneg oS];rw[Int.mul_left_comm,Int.mul_assoc]

theorem E5r {r s:TRat} (b:J_ r=AF) (h:J_ s=AF):A0k r s=mkR (R_ r*T_ s+R_ s*T_ r) (T_ r*T_ s):=by
 unfold A0k;rw[b,h];rfl
theorem D1c {A B:Int} (T:0<B):(!(mkR A B).2.isEmpty)=J_ (mkR A B):=by
 obtain⟨g,a,b,ad,ab,ac,X,H,E,G⟩:=B6r (A:=A) T;unfold mkR;rw[E,G];split
 ·rename_i h
  have u:val (dig b.natAbs)=b:=by rw[A1j];omega
  have Z:dig b.natAbs≠[]:=by intro e;rw[e]at u;simp[val]at u;omega
  have W:J_ ⟨A0f a,dig b.natAbs⟩=AF:=by
   refine ratOkB_iff.2 ⟨?_,A0j _,by rw[u];exact X,?_,h.2,?_⟩
   ·show A2j (A0f a)=AF
    rw[bigOkB_iff];refine⟨⟨by have:=h.1;show(dig a.natAbs).length<=_;omega,A0j _⟩,?_⟩;intro O;have aa:a<0:=by simpa[A0f]using O
    show dig a.natAbs≠[];intro e;have D:=A1j a.natAbs;rw[e]at D;simp[val]at D;omega
   ·exact h.1
   show CQ (val (dig a.natAbs)) (val (dig b.natAbs))=1;rw[A1j,A1j];simpa[CQ]using H
  rw[W];cases Y:dig b.natAbs with
  |nil=>exact absurd Y Z
  |cons _ _=>rfl
 rfl
theorem C5u (r s:TRat):(!(A0k r s).2.isEmpty)=J_ (A0k r s):=by
 unfold A0k;split;·rename_i h;rw[DJ]at h;exact D1c (GW (ratOkB_iff.1 h.1).den0 (ratOkB_iff.1 h.2).den0)
 rfl
theorem C6q (r s:TRat):(!(A0d r s).2.isEmpty)=J_ (A0d r s):=by
 unfold A0d;split;·rename_i h;rw[DJ]at h;exact D1c (GW (ratOkB_iff.1 h.1).den0 (ratOkB_iff.1 h.2).den0)
 rfl
end Go.Proofs.YtjcanieccnljfaaGreat.X

namespace Go.XN
open Go.XB
def D9t:TPoint:=⟨A0h,A0h⟩
def A1b (p:TPoint):Bool:=J_ p.x&&J_ p.y
def ifP (p:TPoint):TPoint:=bif A1b p then p else D9t
def A3y (p q:TPoint):TPoint:=ifP ⟨A0k p.x q.x,A0k p.y q.y⟩
def A4a (p q:TPoint):TPoint:=ifP ⟨A3t p.x q.x,A3t p.y q.y⟩
def A0v (r:TRat) (p:TPoint):TPoint:=ifP ⟨A0d r p.x,A0d r p.y⟩
def E3w (p q:TPoint):TRat:=A3t (A0d p.x q.y) (A0d p.y q.x)
def A2y (a b c:TPoint):TRat:=E3w (A4a b a) (A4a c a)
def A2f (p q:TPoint):TPoint:=A0v (mkR 1 2) (A3y p q)
end Go.XN
namespace Go.Proofs.YtjcanieccnljfaaGreat.X
open Go.RowKit Go.XB Go.XN Proofs.Tryz
attribute [local go_sem] L_ opAt N_ M_ Region.wanted yielded
attribute [local simp] N_ M_ MP.eq MP.agg MP.sl A0r
theorem D4u (r s:TRat):(!(A3t r s).2.isEmpty)=J_ (A3t r s):=by
 unfold A3t;split;·rename_i h;rw[DJ]at h;exact D1c (GW (ratOkB_iff.1 h.1).den0 (ratOkB_iff.1 h.2).den0)
 rfl
theorem E0o (w:AD):Agg w (BJ #[J AH,QX I 0 0,QX I 0 0,J AH,QX I 0 0,QX I 0 0]) D9t []:=TPoint.mkAgg (x:=D9t) (Sl.nil w) (Sl.nil w) (Sl.nil w) (Sl.nil w)
theorem B4y {w W:AD} (hb:Bw w W):A0c w D9t (.returned (BJ #[J AH,QX I 0 0,QX I 0 0,J AH,QX I 0 0,QX I 0 0])) W:=⟨_,[],rfl,E0o W,Own.nil _ _,hb⟩
theorem B4l {w:AD} {x:TPoint} {u0 u1 u2 u u4 D:AU} {b1 b2:List Nat} (E:Agg w (BJ #[u0,u1,u2]) x.x b1) (G:Agg w (BJ #[u,u4,D]) x.y b2):Agg w (BJ #[u0,u1,u2,u,u4,D]) x (b1++b2):=by
 obtain⟨T,n1,Z,af,W,n2,aa,ag,b,rfl,k1,k2⟩:=CF E;obtain⟨X,ad,ab,ah,Y,ae,ac,ai,h,rfl,H,O⟩:=CF G;injection b with b;injection h with h;simp at b h;obtain⟨rfl,rfl,rfl⟩:=b;obtain⟨rfl,rfl,rfl⟩:=h;rw[GG];exact TPoint.mkAgg k1 k2 H O
theorem E9v {w:AD} {x:TPoint} {u0 u1 u2 u u4 D:AU} {b:List Nat} (h:Agg w (BJ #[u0,u1,u2,u,u4,D]) x b):∃ b1 b2,b=b1++b2/\Agg w (BJ #[u0,u1,u2]) x.x b1/\Agg w (BJ #[u,u4,D]) x.y b2:=by
 obtain⟨X,n1,ab,H,Y,n2,ac,O,Z,af,ad,T,aa,ag,ae,W,e,rfl,k1,k2,E,G⟩:=EW h;injection e with e;simp at e;obtain⟨rfl,rfl,rfl,rfl,rfl,rfl⟩:=e;exact⟨H++O,T++W,by rw[GG],FK k1 k2,FK E G⟩

theorem B8u (v:AU) (r:TRat) (b:List Nat) (w:AD) (H:Agg w v r b) :
  BL prog 13 #[v] w (A0b w (N .i64 (A9m r))):=by
 have E:=A_ H;obtain⟨T,n1,Y,ag,W,n2,Z,ah,rfl,rfl,ab,ac⟩:=CF H;clear ab ac H;cases h:J_ r;·have D:=A_ (by unfold A9m;rw[h];rfl:0=A9m r);have G:=A_ h;clear h;go_enter func13,ntmps13;go_wp2_with fail;have C:=A7s _ r _ (w.alloc (BG #[J r.1.1,QX T n1 Y,QX W n2 Z] 39)) (E.below (BP _));rw[G.o]at C;refine C.mono ?_;clear C;rintro _ O ⟨rfl,u⟩;go_wp2;go_ret;exact⟨A1x D.o,Below.trans (BP _) (u.mono sI)⟩
 have D:=A_ (by unfold A9m;rw[h];rfl:A2v r=A9m r);have X:=A_ (ratOkB_iff.1 h);have G:=A_ h;clear h;go_enter func13,ntmps13;go_wp2_with fail;have C:=A7s _ r _ (w.alloc (BG #[J r.1.1,QX T n1 Y,QX W n2 Z] 39)) (E.below (BP _));rw[G.o]at C;refine C.mono ?_;clear C;rintro _ O ⟨rfl,u⟩;obtain⟨ad,ae⟩:=F_ u;have af:w.1.size<O.1.size:=ltg u;go_wp2_with fail;refine(A7y _ r _ O ((E.below (BP _)).below u) X.mag (A4h X.1)).mono ?_;rintro _ ai ⟨rfl,aa⟩;go_wp2;go_ret;exact⟨A1x D.o,BH (Below.trans (BP _) (u.mono sI)) aa⟩

theorem B0n (v:AU) (x:TPoint) (b:List Nat) (w:AD) (ar:Agg w v x b) (aj:(!x.x.den.isEmpty)=J_ x.x) (ak:(!x.y.den.isEmpty)=J_ x.y) :
  BL prog 76 #[v] w (A0b w (bif A1b x then v else BJ #[J AH,QX I 0 0,QX I 0 0,J AH,QX I 0 0,QX I 0 0])):=by
 obtain⟨T,ad,Z,aB,W,ae,aa,aC,X,af,ab,aD,Y,ag,ac,aE,rfl,rfl,an,ao,ap,aq⟩:=EW ar;have P1:=A_ (FK (x:=x.x) an ao);have P2:=A_ (FK (x:=x.y) ap aq);have ah:=A_ aj;have ai:=A_ ak;clear an ao ap aq ar aj ak;cases D:J_ x.x;·have H:=A_ (by unfold A1b;rw[D];rfl:A1b x=AH);have O1:=A_ D;clear D;go_enter func76,ntmps76;go_wp2_with fail;have C:=A2p _ x.x _ ((w.alloc (BG #[J x.x.1.1,QX T ad Z,QX W ae aa,J x.y.1.1,QX X af ab,QX Y ag ac] 41)).alloc (BG #[J AH,QX I 0 0,QX I 0 0,J AH,QX I 0 0,QX I 0 0] 41)) (P1.below Below.go);rw[ah.o,O1.o]at C;refine C.mono ?_;clear C;rintro _ u ⟨rfl,h⟩;obtain⟨al,am⟩:=F_ h;have au:w.1.size<u.1.size:=ltg h;have aw:w.1.size+1<u.1.size:=ltg h;go_wp2;refine CK (v:=BJ #[J AH,QX I 0 0,QX I 0 0,J AH,QX I 0 0,QX I 0 0]) (by simp[CO,results76,go_sem, *]) rfl ?_;rw[H.o];exact⟨rfl,Below.go⟩
 have O1:=A_ D;cases G:J_ x.y;·have H:=A_ (by unfold A1b;rw[D,G];rfl:A1b x=AH);have O2:=A_ G;clear D G;go_enter func76,ntmps76;go_wp2_with fail;have C:=A2p _ x.x _ ((w.alloc (BG #[J x.x.1.1,QX T ad Z,QX W ae aa,J x.y.1.1,QX X af ab,QX Y ag ac] 41)).alloc (BG #[J AH,QX I 0 0,QX I 0 0,J AH,QX I 0 0,QX I 0 0] 41)) (P1.below Below.go);rw[ah.o,O1.o]at C;refine C.mono ?_;clear C;rintro _ u ⟨rfl,h⟩;obtain⟨al,am⟩:=F_ h;have au:w.1.size<u.1.size:=ltg h;have aw:w.1.size+1<u.1.size:=ltg h;go_wp2_with fail;have C:=A2p _ x.y _ u (P2.below Below.go);rw[ai.o,O2.o]at C;refine C.mono ?_;clear C;rintro _ O ⟨rfl,E⟩;obtain⟨ax,ay⟩:=F_ E;have az:w.1.size<O.1.size:=ltg E;have aA:w.1.size+1<O.1.size:=ltg E;go_wp2;refine CK (v:=BJ #[J AH,QX I 0 0,QX I 0 0,J AH,QX I 0 0,QX I 0 0]) (by simp[CO,results76,go_sem, *]) rfl ?_;rw[H.o];exact⟨rfl,Below.go⟩
 have H:=A_ (by unfold A1b;rw[D,G];rfl:A1b x=AF);have O2:=A_ G;clear D G;go_enter func76,ntmps76;go_wp2_with fail;have C:=A2p _ x.x _ ((w.alloc (BG #[J x.x.1.1,QX T ad Z,QX W ae aa,J x.y.1.1,QX X af ab,QX Y ag ac] 41)).alloc (BG #[J AH,QX I 0 0,QX I 0 0,J AH,QX I 0 0,QX I 0 0] 41)) (P1.below Below.go);rw[ah.o,O1.o]at C;refine C.mono ?_;clear C;rintro _ u ⟨rfl,h⟩;obtain⟨al,am⟩:=F_ h;have au:w.1.size<u.1.size:=ltg h;have aw:w.1.size+1<u.1.size:=ltg h;go_wp2_with fail;have C:=A2p _ x.y _ u (P2.below Below.go);rw[ai.o,O2.o]at C;refine C.mono ?_;clear C;rintro _ O ⟨rfl,E⟩;obtain⟨ax,ay⟩:=F_ E;have az:w.1.size<O.1.size:=ltg E;have aA:w.1.size+1<O.1.size:=ltg E;go_wp2;refine CK (v:=BJ #[J x.x.1.1,QX T ad Z,QX W ae aa,J x.y.1.1,QX X af ab,QX Y ag ac]) (by simp[CO,results76,go_sem, *]) rfl ?_;rw[H.o];exact⟨rfl,Below.go⟩

theorem B2j (v:AU) (x:TPoint) (b:List Nat) (w:AD) (ab:Agg w v x b) :
  BL prog 24 #[v] w (A0b w (J (A1b x))):=by
 obtain⟨u,ac,H,am,D,ad,O,an,E,ae,T,ao,G,af,W,ap,rfl,rfl,X,Y,Z,aa⟩:=EW ab;have P1:=A_ (FK (x:=x.x) X Y);have P2:=A_ (FK (x:=x.y) Z aa);clear X Y Z aa ab;have ah:=A_ (show(J_ x.x&&J_ x.y)=A1b x from rfl);go_enter func24,ntmps24;go_wp2_with fail;have C:=A1r (QZ ⟨w.1.size+1,0,I⟩) 2 2 [x.x,x.y] _ ((w.alloc (BG #[J x.x.1.1,QX u ac H,QX D ad O,J x.y.1.1,QX E ae T,QX G af W] 41)).alloc (BG #[J x.x.1.1,QX u ac H,QX D ad O,J x.y.1.1,QX E ae T,QX G af W] 39)) (B5x (P1.o.below Below.go) (P2.o.below Below.go) sI oD oD oD oD oD oD);refine C.mono ?_;clear C;rintro _ ag ⟨rfl,h⟩;obtain⟨ai,aj⟩:=F_ h;have ak:w.1.size<ag.1.size:=ltg h;have al:w.1.size+1<ag.1.size:=ltg h;go_wp2;go_ret;exact⟨Q_ ah,Below.go⟩


theorem A4x (v1 v2:AU) (p q:TPoint) (b1 b2:List Nat) (w:AD) (an:Agg w v1 p b1) (ao:Agg w v2 q b2) :
  BL prog 162 #[v1,v2] w (A0c w (A3y p q)):=by
 obtain⟨aU,bl,a3,bu,aV,bm,a4,bv,aW,bn,a5,bz,aX,bo,a6,bA,rfl,rfl,af,ag,ah,ai⟩:=EW an;obtain⟨aY,bp,a7,bB,aZ,bq,a8,bD,a1,br,a9,bE,a2,bt,ba,bF,rfl,rfl,aj,ak,al,am⟩:=EW ao;have P1:=A_ (FK (x:=p.x) af ag);have P2:=A_ (FK (x:=p.y) ah ai);have Q1:=A_ (FK (x:=q.x) aj ak);have Q2:=A_ (FK (x:=q.y) al am);clear af ag ah ai aj ak al am an ao;have Y:=A_ (show A3y p q=ifP (⟨A0k p.x q.x,A0k p.y q.y⟩:TPoint)from rfl);go_enter func162,ntmps162;go_wp2_with fail;refine W_ 10 kR kR kR kR kR ?_;simp only[GT,FM,GU,FF];iterate 4 refine C_ _ ?_
 refine D_ (CH (A0k p.x q.x)) ?_ ?_;·intro ap E X h u;obtain⟨aG,aI⟩:=F_ h;simp at u;refine G_ ?_;exact H_ (A0x _ _ p.x q.x _ _ X (P1.below Below.go) (Q1.below Below.go))
 iterate 4 refine C_ _ ?_
 refine D_ (CH (A0k p.y q.y)) ?_ ?_;·intro ap E X h u;obtain⟨aG,aI⟩:=F_ h;simp at u;refine G_ ?_;exact H_ (A0x _ _ p.y q.y _ _ X (P2.below Below.go) (Q2.below Below.go))
 intro ap E wa h u (aa:Hid _);simp at u;have aQ:=u.2.2.2.2.1;have aR:=u.2.2.2.2.2.2.2.2.2;obtain⟨⟨H,ab⟩,ad⟩:=aQ;obtain⟨⟨O,ac⟩,ae⟩:=aR;obtain⟨aq,aM,az,bc,ar,aN,aA,bd,aD,aS,_,_⟩:=CF H;obtain⟨au,aO,aB,be,aw,aP,aC,bf,aE,aT,_,_⟩:=CF O;rw[aD]at H;rw[aE]at O;have Z:=A_ (B4l (x:=(⟨A0k p.x q.x,A0k p.y q.y⟩:TPoint)) H O);have ax:=A_ (Free.join ab ac (aa 4 9 dE dE dE))
 have ay:=A_ (show ∀ G∈E 4++E 9,w.1.size+3<=G from λG b=>by
  rcases DV.1 b with W|W;·have:=(ad G W).1;(try simp at this);omega
  have:=(ae G W).1;(try simp at this);omega)
 clear u aa H ab ad O ac ae aS aT;generalize E 4++E 9=zs at *;obtain⟨bg,bh⟩:=F_ h;have bi:w.1.size<wa.1.size:=ltg h;have bj:w.1.size+1<wa.1.size:=ltg h;have bk:w.1.size+1+1<wa.1.size:=ltg h;go_wp2_with fail;have C:=B0n _ (⟨A0k p.x q.x,A0k p.y q.y⟩:TPoint) _ wa Z (C5u _ _) (C5u _ _);cases D:A1b (⟨A0k p.x q.x,A0k p.y q.y⟩:TPoint);·have T:=A_ D;rw[D]at C;clear D;refine C.mono ?_;clear C;rintro _ wb ⟨rfl,b⟩;obtain⟨aF,aH⟩:=F_ b;have aJ:w.1.size<wb.1.size:=ltg b;have aK:w.1.size+1<wb.1.size:=ltg b;have aL:w.1.size+1+1<wb.1.size:=ltg b;go_wp2;refine CK (v:=BJ #[J AH,QX I 0 0,QX I 0 0,J AH,QX I 0 0,QX I 0 0]) (by simp[CO,results162,go_sem, *]) rfl ?_;rw[Y.o];unfold ifP;rw[T.o];exact B4y Below.go
 have T:=A_ D;rw[D]at C;clear D;refine C.mono ?_;clear C;rintro _ wb ⟨rfl,b⟩;obtain⟨aF,aH⟩:=F_ b;have aJ:w.1.size<wb.1.size:=ltg b;have aK:w.1.size+1<wb.1.size:=ltg b;have aL:w.1.size+1+1<wb.1.size:=ltg b;go_wp2;refine CK (v:=BJ #[J (A0k p.x q.x).1.1,QX aq aM az,QX ar aN aA,J (A0k p.y q.y).1.1,QX au aO aB,QX aw aP aC]) (by simp[CO,results162,go_sem, *]) rfl ?_;rw[Y.o];unfold ifP;rw[T.o];refine A1s (lo:=w.1.size+3) Z.o ax.o ay.o oS ?_ ?_;·exact Above.go
 exact Below.go

theorem A1u (v1 v2:AU) (p q:TPoint) (b1 b2:List Nat) (w:AD) (an:Agg w v1 p b1) (ao:Agg w v2 q b2) :
  BL prog 27 #[v1,v2] w (A0c w (A4a p q)):=by
 obtain⟨aU,bl,a3,bu,aV,bm,a4,bv,aW,bn,a5,bz,aX,bo,a6,bA,rfl,rfl,af,ag,ah,ai⟩:=EW an;obtain⟨aY,bp,a7,bB,aZ,bq,a8,bD,a1,br,a9,bE,a2,bt,ba,bF,rfl,rfl,aj,ak,al,am⟩:=EW ao;have P1:=A_ (FK (x:=p.x) af ag);have P2:=A_ (FK (x:=p.y) ah ai);have Q1:=A_ (FK (x:=q.x) aj ak);have Q2:=A_ (FK (x:=q.y) al am);clear af ag ah ai aj ak al am an ao;have Y:=A_ (show A4a p q=ifP (⟨A3t p.x q.x,A3t p.y q.y⟩:TPoint)from rfl);go_enter func27,ntmps27;go_wp2_with fail;refine W_ 10 kR kR kR kR kR ?_;simp only[GT,FM,GU,FF];iterate 4 refine C_ _ ?_
 refine D_ (CH (A3t p.x q.x)) ?_ ?_;·intro ap E X h u;obtain⟨aG,aI⟩:=F_ h;simp at u;refine G_ ?_;exact H_ (A5b _ _ p.x q.x _ _ X (P1.below Below.go) (Q1.below Below.go))
 iterate 4 refine C_ _ ?_
 refine D_ (CH (A3t p.y q.y)) ?_ ?_;·intro ap E X h u;obtain⟨aG,aI⟩:=F_ h;simp at u;refine G_ ?_;exact H_ (A5b _ _ p.y q.y _ _ X (P2.below Below.go) (Q2.below Below.go))
 intro ap E wa h u (aa:Hid _);simp at u;have aQ:=u.2.2.2.2.1;have aR:=u.2.2.2.2.2.2.2.2.2;obtain⟨⟨H,ab⟩,ad⟩:=aQ;obtain⟨⟨O,ac⟩,ae⟩:=aR;obtain⟨aq,aM,az,bc,ar,aN,aA,bd,aD,aS,_,_⟩:=CF H;obtain⟨au,aO,aB,be,aw,aP,aC,bf,aE,aT,_,_⟩:=CF O;rw[aD]at H;rw[aE]at O;have Z:=A_ (B4l (x:=(⟨A3t p.x q.x,A3t p.y q.y⟩:TPoint)) H O);have ax:=A_ (Free.join ab ac (aa 4 9 dE dE dE))
 have ay:=A_ (show ∀ G∈E 4++E 9,w.1.size+3<=G from λG b=>by
  rcases DV.1 b with W|W;·have:=(ad G W).1;(try simp at this);omega
  have:=(ae G W).1;(try simp at this);omega)
 clear u aa H ab ad O ac ae aS aT;generalize E 4++E 9=zs at *;obtain⟨bg,bh⟩:=F_ h;have bi:w.1.size<wa.1.size:=ltg h;have bj:w.1.size+1<wa.1.size:=ltg h;have bk:w.1.size+1+1<wa.1.size:=ltg h;go_wp2_with fail;have C:=B0n _ (⟨A3t p.x q.x,A3t p.y q.y⟩:TPoint) _ wa Z (D4u _ _) (D4u _ _);cases D:A1b (⟨A3t p.x q.x,A3t p.y q.y⟩:TPoint);·have T:=A_ D;rw[D]at C;clear D;refine C.mono ?_;clear C;rintro _ wb ⟨rfl,b⟩;obtain⟨aF,aH⟩:=F_ b;have aJ:w.1.size<wb.1.size:=ltg b;have aK:w.1.size+1<wb.1.size:=ltg b;have aL:w.1.size+1+1<wb.1.size:=ltg b;go_wp2;refine CK (v:=BJ #[J AH,QX I 0 0,QX I 0 0,J AH,QX I 0 0,QX I 0 0]) (by simp[CO,results27,go_sem, *]) rfl ?_;rw[Y.o];unfold ifP;rw[T.o];exact B4y Below.go
 have T:=A_ D;rw[D]at C;clear D;refine C.mono ?_;clear C;rintro _ wb ⟨rfl,b⟩;obtain⟨aF,aH⟩:=F_ b;have aJ:w.1.size<wb.1.size:=ltg b;have aK:w.1.size+1<wb.1.size:=ltg b;have aL:w.1.size+1+1<wb.1.size:=ltg b;go_wp2;refine CK (v:=BJ #[J (A3t p.x q.x).1.1,QX aq aM az,QX ar aN aA,J (A3t p.y q.y).1.1,QX au aO aB,QX aw aP aC]) (by simp[CO,results27,go_sem, *]) rfl ?_;rw[Y.o];unfold ifP;rw[T.o];refine A1s (lo:=w.1.size+3) Z.o ax.o ay.o oS ?_ ?_;·exact Above.go
 exact Below.go

theorem A1n (v1 v2:AU) (r:TRat) (p:TPoint) (b1 b2:List Nat) (w:AD) (X:Agg w v1 r b1) (ak:Agg w v2 p b2) :
  BL prog 97 #[v1,v2] w (A0c w (A0v r p)):=by
 have R1:=A_ X;obtain⟨aS,bf,aY,bl,aT,bg,aZ,bm,rfl,rfl,aF,aG⟩:=CF X;obtain⟨aU,bh,a1,bn,aV,bi,a2,bo,aW,bj,a3,bp,aX,bk,a4,bq,rfl,rfl,ag,ah,ai,aj⟩:=EW ak;have Q1:=A_ (FK (x:=p.x) ag ah);have Q2:=A_ (FK (x:=p.y) ai aj);clear aF aG ag ah ai aj X ak;have Z:=A_ (show A0v r p=ifP (⟨A0d r p.x,A0d r p.y⟩:TPoint)from rfl);go_enter func97,ntmps97;go_wp2_with fail;refine W_ 8 kR kR kR kR kR ?_;simp only[GT,FM,GU,FF];iterate 3 refine C_ _ ?_
 refine D_ (CH (A0d r p.x)) ?_ ?_;·intro al E Y h u;obtain⟨aC,aE⟩:=F_ h;simp at u;refine G_ ?_;exact H_ (A0n _ _ r p.x _ _ Y (R1.below Below.go) (Q1.below Below.go))
 iterate 3 refine C_ _ ?_
 refine D_ (CH (A0d r p.y)) ?_ ?_;·intro al E Y h u;obtain⟨aC,aE⟩:=F_ h;simp at u;refine G_ ?_;exact H_ (A0n _ _ r p.y _ _ Y (R1.below Below.go) (Q2.below Below.go))
 intro al E wa h u (ab:Hid _);simp at u;have aO:=u.2.2.2.1;have aP:=u.2.2.2.2.2.2.2;obtain⟨⟨H,ac⟩,ae⟩:=aO;obtain⟨⟨O,ad⟩,af⟩:=aP;obtain⟨am,aK,au,a5,an,aL,aw,a6,az,aQ,_,_⟩:=CF H;obtain⟨ao,aM,ax,a7,ap,aN,ay,a8,aA,aR,_,_⟩:=CF O;rw[az]at H;rw[aA]at O;have aa:=A_ (B4l (x:=(⟨A0d r p.x,A0d r p.y⟩:TPoint)) H O);have aq:=A_ (Free.join ac ad (ab 3 7 dE dE dE))
 have ar:=A_ (show ∀ G∈E 3++E 7,w.1.size+3<=G from λG b=>by
  rcases DV.1 b with W|W;·have:=(ae G W).1;(try simp at this);omega
  have:=(af G W).1;(try simp at this);omega)
 clear u ab H ac ae O ad af aQ aR;generalize E 3++E 7=zs at *;obtain⟨a9,ba⟩:=F_ h;have bc:w.1.size<wa.1.size:=ltg h;have bd:w.1.size+1<wa.1.size:=ltg h;have be:w.1.size+1+1<wa.1.size:=ltg h;go_wp2_with fail;have C:=B0n _ (⟨A0d r p.x,A0d r p.y⟩:TPoint) _ wa aa (C6q _ _) (C6q _ _);cases D:A1b (⟨A0d r p.x,A0d r p.y⟩:TPoint);·have T:=A_ D;rw[D]at C;clear D;refine C.mono ?_;clear C;rintro _ wb ⟨rfl,b⟩;obtain⟨aB,aD⟩:=F_ b;have aH:w.1.size<wb.1.size:=ltg b;have aI:w.1.size+1<wb.1.size:=ltg b;have aJ:w.1.size+1+1<wb.1.size:=ltg b;go_wp2;refine CK (v:=BJ #[J AH,QX I 0 0,QX I 0 0,J AH,QX I 0 0,QX I 0 0]) (by simp[CO,results97,go_sem, *]) rfl ?_;rw[Z.o];unfold ifP;rw[T.o];exact B4y Below.go
 have T:=A_ D;rw[D]at C;clear D;refine C.mono ?_;clear C;rintro _ wb ⟨rfl,b⟩;obtain⟨aB,aD⟩:=F_ b;have aH:w.1.size<wb.1.size:=ltg b;have aI:w.1.size+1<wb.1.size:=ltg b;have aJ:w.1.size+1+1<wb.1.size:=ltg b;go_wp2;refine CK (v:=BJ #[J (A0d r p.x).1.1,QX am aK au,QX an aL aw,J (A0d r p.y).1.1,QX ao aM ax,QX ap aN ay]) (by simp[CO,results97,go_sem, *]) rfl ?_;rw[Z.o];unfold ifP;rw[T.o];refine A1s (lo:=w.1.size+3) aa.o aq.o ar.o oS ?_ ?_;·exact Above.go
 exact Below.go
end Go.Proofs.YtjcanieccnljfaaGreat.X
