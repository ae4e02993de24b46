/- A part of the proof. -/
import Derived.Test.YtjcanieccnljfaaGreatY27
import Derived.Test.YtjcanieccnljfaaGreatY28
import Derived.Test.YtjcanieccnljfaaGreatY22
set_option linter.constructorNameAsVariable false
set_option maxHeartbeats 16000000
set_option maxRecDepth 10000
open Go.Value renaming bool→J,int→N,slice→S
open Go.XB.Below renaming box→BP,next→BH
open List renaming dropLast→DN,getLast→DO,length→DQ,mem_of_getElem?→DH
open Option renaming none→I,some→QZ
namespace Go.Proofs.YtjcanieccnljfaaGreat.X
open Go.RowKit Go.XB Go.XN Proofs.Tryz
structure FluxD (p:TProblem) (us:List TRat):Prop where
 lin:LinD p us
 sl:p.3.length=3
 fan:∀ v:Nat,v<p.1.1.length->fanOk p.1.triangles v=true
 fd:∀ v:Nat,v<p.1.1.length->∀ f∈A8x p.1.triangles v,FanD p us v f
 fl:∀ v:Nat,v<p.1.1.length->(A8x p.1.triangles v).length<=48
 ne:(P_ p.1.triangles).length<=40
 ok:(A4i p us).all J_=true
theorem TFan.elemB {w:World} {A:Option Addr} {n c:Nat} {xs:List TFan} {bs:List Nat} (h:Sl w A n c xs bs) {k:Nat} (Z:k<n) :
  ∃ (b off:Nat) (x:TFan) (A0:Option Addr) (n0 c0:Nat) (A1:Option Addr) (n1 c1:Nat) (s0 s1:List Nat),A=QZ ⟨b,off,I⟩/\b<w.1.size/\b∈bs/\xs[k]?=QZ x/\w.cell? ⟨b,off+k*3,I⟩=QZ (S A0 n0 c0)/\w.cell? ⟨b,off+k*3+1,I⟩=QZ (S A1 n1 c1)/\w.cell? ⟨b,off+k*3+2,I⟩=QZ (J x.closed)/\Agg w (.agg #[S A0 n0 c0,S A1 n1 c1,J x.closed]) x (s0++s1)/\Sl w A1 n1 c1 x.spokes s1/\∀ g∈s0++s1,g∈bs:=by
 have G:=h;obtain⟨b,off,x,ae,af,u,T,aa,D,E,Y⟩:=Sl.getAt h Z;have W:b∈bs:=by obtain⟨_,_,_,_,H⟩:=G;obtain⟨ac,ag,ad,O,X,_⟩:=H oS;rw[O]at u;injection u with u;injection u with h1;rw[X,<-h1];simp
 obtain⟨A0,n0,c0,s0,A1,n1,c1,s1,rfl,rfl,ah,ab⟩:=TFan.open_ E;exact⟨b,off,x,_,_,_,_,_,_,_,_,u,T,W,aa,D 0 _ rfl,D 1 _ rfl,D 2 _ rfl,⟨_,rfl,E⟩,ab,Y⟩
theorem _root_.Go.XB.Sl.grow {α:Type} [Dat α] {w w':World} {A:Option Addr} {n c:Nat} {xs:List α} {bs:List Nat} {g:Nat} (h:Sl w A n c xs bs) (hg:w.grownBy w' (QZ g)) (hn:g∉bs):Sl w' A n c xs bs :=
 h.keep λb hb=>hg.block b (h.lt b hb) (by intro e;injection e with e;exact hn (e ▸ hb))
theorem C0k {w w':World} {g b o:Nat} {v:Value} (h:w.cell? ⟨b,o,I⟩=QZ v) (hg:w.grownBy w' (QZ g)) (hn:b≠g):w'.cell? ⟨b,o,I⟩=QZ v :=
 hg.cell h (by intro e;injection e with e;exact hn e)
theorem E3v {w:World} {b o:Nat} {v:Value} (h:w.cell? ⟨b,o,I⟩=QZ v):b<w.1.size:=World.block_lt_of_cell? w ⟨b,o,I⟩ h
attribute [local go_sem] L_ Go.XB.opAt N_ M_ Region.wanted yielded
attribute [local simp] N_ M_ MP.eq MP.agg MP.sl MP.box A0r
theorem E2h (val:Value) (p:TProblem) (b:List Nat) (xs ys:List Int) (B:Option Addr) (n d:Nat) (us:List TRat) (cp:List Nat) (w:World) (aM:Agg w val p b) (cP:Sl w B n d us cp) (cL:ProbI p xs ys) (aG:FluxD p us) :
  Calls prog 22 #[val,S B n d] w (D9x w (A4i p us)):=by
 have dr:=A_ aM;have dq:=A_ cP;have dj:=A_ cL;have aB:=A_ aG;have bf:=A_ aG.lin;obtain⟨ep,ae,eI,fl,er,n1,eJ,fm,es,n2,eK,fn,et,fb,c3,fo,rfl,rfl,a5,cN,d6,d7⟩:=TProblem.agg aM;have b7:=A_ (TMesh.mkAgg (x:=p.1) a5 cN);have b8:=A_ a5.1;have e3:ae<=40:=by rw[<-a5.1];exact aG.lin.n40
 have e4:(ae:Int)<=40:=oS;obtain⟨D,bB⟩:∃ D,P_ p.1.triangles=D:=⟨_,rfl⟩
 have aV:=A_ bB;have dd:=A_ (by rw[<-bB];exact aG.ne:D.length<=40);clear a5 cN d6 d7 aM cP cL aG bB;go_enter func22,ntmps22;go_upto_region 1 with fail;refine Code.new λck bi=>?_;have bU:=A_ bi.b;have aW:=A_ bi.k;clear bi;obtain⟨X,-⟩:=B_ aW (j:=0) rfl;obtain⟨ac,-⟩:=B_ aW (j:=1) rfl;simp at X ac;have ak:w.1.size<ck.1.size:=E_ aW;go_wp2_with fail;refine(A7q _ p.1 _ ck (b7.below bU) bf.t48).mono ?_;rintro _ a8 ⟨ew,u,eL,cu,rfl,ar,d5,br⟩;rw[aV.o]at ar;have b6:=A_ ar.1;have d3:u<=40:=by rw[<-ar.1];exact dd
 have e9:(u:Int)<=40:=oS;have ca:=A_ ar;have bS:=A_ (BH bU br);have bg:=A_ (K_ aW br);have b5:=A_ (show ∀ b∈cu,b<a8.1.size from ar.lt);clear ar d5 br X ac ak;go_wp2_with fail;refine(A0l 0 a8 oG).mono ?_;rintro _ wa ⟨fs,ed,rfl,O,d4,cB⟩;obtain⟨bY,cZ,cn,eT,an,c0,co,bn,rfl,eo,_,_⟩:=TRat.agg O;have aS:=A_ (A3x (O.below (BP (.cells #[J (U_ 0).1.1,S bY cZ cn,S an c0 co] 39))));have b9:=A_ (show ∀ b∈ed,b<wa.1.size from O.lt);have aU:=A_ cB;clear O d4 eo cB;go_wp2_with fail;refine(C1n wa.1.size u [J (U_ 0).1.1,S bY cZ cn,S an c0 co] _ (heap_alloc_new wa _) rfl (Dat.one aS) d3).mono ?_;rintro _ au ⟨rfl,bG,a1⟩;rw[World.size_alloc]at bG;obtain⟨h,bF⟩:∃ y,wa.1.size+1=y:=⟨_,rfl⟩
 have bl:=A_ (show RR (λb=>b=h) au h u u (A3j p us 0)from by rw[<-bF,show A3j p us 0=List.replicate u (U_ 0) by rw[A3j,aV.o,b6.o]];refine⟨_,_,B0o bG,C0s (n:=u) (Dat.keep aS.o (λb W=>a1.block b (Dat.lt aS.o b W))),sI,λb W e=>?_,rfl⟩;have:=b9 b (B0m W);omega);have am:=A_ (show Bw w au from BH (BH (BH bS aU) (BP _)) a1);have bc:=A_ (show Bw a8 au from BH (BH aU (BP _)) a1);have b4:=A_ (show a8.1.size<=h/\h<au.1.size from⟨by have:=aU.size;omega,bl.o.lt⟩);have aA:=A_ (by have:=b4.1;have:=E_ bg;omega:w.1.size<h);have aX:=A_ (K_ bg bc);have dA:=A_ (ca.below bc);have dt:=A_ (show h∉cu from λE=>by have:=b5 _ E;have:=b4.1;omega);simp only[World.size_alloc,bF];clear bG a1 aS b9 aU bF ca b5 bc bg bS;obtain⟨X,-⟩:=B_ aX (j:=0) rfl;simp at X;have ak:w.1.size<au.1.size:=E_ aX;go_wp2_with fail;go_loopg [27] ae (λg s wr=>∃ v:Nat,v+g=ae/\s=N .i64 v/\Hid (RR (λb=>b=h) wr h u u (A3j p us v))/\Hid (au.grownBy wr (QZ h)));case atStart=>exact⟨0,oS,rfl,bl.o,B8k _ _⟩
 case round =>
  clear bl X ak;obtain⟨v,cQ,rfl,aZ,aT⟩:=hrel;have aw:=A_ (am.grown aT am.size (λk ad=>by injection ad with E;subst E;exact Nat.le_of_lt aA));have aC:=A_ (show wr.1[w.1.size]?=_ from(aT.block _ (E_ aX) (by intro e;injection e with e;have:=aA.o;omega)).trans aX.o);rcases Nat.lt_or_ge v ae with a6|a6
  ·have d9:(v:Int)<ae:=oS
   have fa:(0:Int)<=v:=oS;obtain⟨g,rfl⟩:∃ g,gk=g+1:=⟨gk - 1,oS⟩
   have d8:=A_ (by omega:v+1+g=ae);have a7:v<p.1.1.length:=by rw[b8.o];exact a6
   have db:=A_ (aB.fan v a7);have bW:=A_ (aB.fd v a7);have bX:=A_ (aB.fl v a7);have dH:=A_ (by constructor<;>omega:I64 (v:Int));obtain⟨H,a3⟩:∃ H,A8x p.1.triangles v=H:=⟨_,rfl⟩
   have dg:=A_ a3;rw[a3]at bW bX;have dw:=A_ (by rw[A3j,aV.o,a3]:A3j p us (v+1)=A4q p us D v H (A3j p us v) H.length);obtain⟨X,-⟩:=B_ aC (j:=0) rfl;obtain⟨ac,-⟩:=B_ aC (j:=1) rfl;simp at X ac;have ak:w.1.size<wr.1.size:=E_ aC;clear cQ a6 a7 a3;go_wp2_with fail;refine(E1r _ p.1 _ (v:Int) wr (b7.below aw) bf.t48 dH db).mono ?_;rintro _ ef ⟨ex,af,eM,dL,rfl,aK,cK,aH⟩;rw[dg.o]at aK;have df:=A_ aK.1;have e5:af<=48:=by rw[<-aK.1];exact bX
   have e6:(af:Int)<=48:=oS;have dW:=aZ.lt;have bh:=A_ (show h∉dL from λE=>by have:=(cK.2 _ E).1;omega);have dm:=A_ aK;have ev:=A_ (BH aw aH);have bZ:=A_ (A8f aT aH);have ch:=A_ (aZ.below aH);have cd:=A_ (K_ aC aH);clear aK cK aH X ac ak aZ aT dW aC aw;go_wp2_with fail;go_loopg [35] af (λg s w2=>∃ i:Nat,i+g=af/\s=N .i64 i/\Hid (RR (λb=>b=h) w2 h u u (A4q p us D v H (A3j p us v) i))/\Hid (ef.grownBy w2 (QZ h)));case atStart=>exact⟨0,oS,rfl,ch.o,B8k _ _⟩
   case round =>
    clear ch;obtain⟨i,cG,rfl,aD,Y⟩:=hrel;rename World=>w2;have an:=A_ (bZ.trans Y);have bT:=A_ (am.grown an am.size (λk ad=>by injection ad with E;subst E;exact Nat.le_of_lt aA));have cc:=A_ (show w2.1[w.1.size]?=_ from(Y.block _ (E_ cd) (by intro e;injection e with e;have:=aA.o;omega)).trans cd.o);rcases Nat.lt_or_ge i af with a4|a4
    ·have dZ:(i:Int)<af:=oS
     have eY:(0:Int)<=i:=oS;obtain⟨bn,rfl⟩:∃ g,gk=g+1:=⟨gk - 1,oS⟩
     have dY:=A_ (by omega:i+1+bn=af);obtain⟨dN,fi,f,eD,fe,cT,eC,Z,cS,fr,ee,rfl,dR,cD,bE,cv,cw,cx,bq,aL,bJ⟩:=TFan.elemB dm a4;have bv:dN≠h:=λe=>bh.o (e ▸ cD);have az:=A_ (bW f (DH bE));have de:=A_ (show H.getD i D7s=f from A0e bE);have aP:=C0k cv Y bv;have al:=C0k cw Y bv;have ba:=C0k cx Y bv;have dS:=E3v aP;have bO:=A_ (bq.keep λb W=>Y.block b (bq.lt b W) (by intro e;injection e with e;exact bh.o (e ▸ bJ b W)));have ce:=A_ (show h∉ee from λE=>bh.o (bJ _ (by simp[E])));have cj:=A_ (aL.grow Y ce);have e7:Z<=49:=by have bp:=az.sn;have cy:=az.tl;rw[<-aL.1,bp];split<;>omega
     have e8:(Z:Int)<=49:=oS;have di:=A_ aL.1;have du:=A_ (show A4q p us D v H (A3j p us v) (i+1)=B2d D v f.spokes (A6f p us f v) (A4q p us D v H (A3j p us v) i) Z by rw[A4q,de.o,aL.1]);clear cG a4 bE cv cw cx bq aL bJ cD dR;go_upto_region 9 with fail;refine Code.new λbm bj=>?_;have ag:=A_ bj.b;have ah:=A_ bj.k;clear aP al ba dS bj;have dV:=aD.lt;obtain⟨bx,bz⟩:∃ y,w2.1.size=y:=⟨_,rfl⟩
     have bV:=A_ (by omega:h<bx);rw[bz]at ah;simp only[bz];clear bz dV;have ao:=A_ (K_ cc ag);have bd:=A_ (BH bT ag);obtain⟨X,-⟩:=B_ ao (j:=0) rfl;obtain⟨ac,-⟩:=B_ ao (j:=1) rfl;obtain⟨cq,-⟩:=B_ ao (j:=2) rfl;obtain⟨cs,-⟩:=B_ ao (j:=3) rfl;obtain⟨aP,-⟩:=B_ ah (j:=0) rfl;obtain⟨al,-⟩:=B_ ah (j:=1) rfl;obtain⟨ba,-⟩:=B_ ah (j:=2) rfl;simp at X ac cq cs aP al ba;have ak:w.1.size<bm.1.size:=E_ ao;have l1:bx<bm.1.size:=E_ ah;go_wp2_with fail;refine(C9c _ p _ xs ys B n d us cp _ f _ (v:Int) bm (dr.below bd) (dq.below bd) (bO.below ag) dj bf aB.sl az).mono ?_;rintro _ a9 ⟨eB,c1,eN,dM,rfl,bH,cI,aI⟩;have dn:=A_ bH;have dh:=A_ bH.1;have dv:=A_ (show h∉dM from λE=>by have:=cI _ E;have:=bV.o;omega);have b0:=A_ (A8f (A8f Y ag) aI);have ci:=A_ ((aD.below ag).below aI);have dG:=A_ ((cj.below ag).below aI);have aY:=A_ (K_ ah aI);clear bH cI aI X ac cq cs aP al ba ak l1 aD Y ao ah ag bd bO cj cc bT an;obtain⟨al,-⟩:=B_ aY (j:=1) rfl;simp at al;have l1:bx<a9.1.size:=E_ aY;go_wp2_with fail;go_loopg [52] Z (λg s w3=>∃ k:Nat,k+g=Z/\s=N .i64 k/\Hid (RR (λb=>b=h) w3 h u u (B2d D v f.spokes (A6f p us f v) (A4q p us D v H (A3j p us v) i) k))/\Hid (a9.grownBy w3 (QZ h)));case atStart=>exact⟨0,oS,rfl,ci.o,B8k _ _⟩
     case round =>
      clear ci al l1;obtain⟨k,ad,rfl,ap,ab⟩:=hrel;rename World=>w3;have b3:=A_ ((bZ.trans b0).trans ab);have eu:=A_ (am.grown b3 am.size (λk ad=>by injection ad with E;subst E;exact Nat.le_of_lt aA));have eX:=ap.lt;rcases Nat.lt_or_ge k Z with aJ|aJ
      ·have d2:(k:Int)<Z:=oS
       have e1:(0:Int)<=k:=oS;obtain⟨bo,rfl⟩:∃ g,gk=g+1:=⟨gk - 1,oS⟩
       have cH:=A_ (by omega:k+1+bo=Z);have dF:=A_ (dG.grow ab ce);obtain⟨bs,fk,x,rfl,eW,bK,cE,d0⟩:=B9i dF aJ;obtain⟨ea,cR⟩:=az.si x (DH bK);obtain⟨j,rfl⟩:∃ j:Nat,x=(j:Int):=⟨x.toNat,oS⟩
       have aq:j<u:=by rw[aV.o,b6.o]at cR;omega
       have e0:(j:Int)<u:=oS;have eZ:(0:Int)<=j:=oS;have dD:=A_ (by rw[A0e bK];simp:(f.spokes.getD k 0).toNat=j);have d1:k<c1:=by
        rw[<-dh.o];have bp:=az.sn;have cy:(A6f p us f v).length=f.triangles.length+(if f.closed then 0 else 1):=by unfold A6f A9c;rw[List.length_map,List.length_take,B7o,show (A1h p us f v).length=f.triangles.length by rw[A1h,List.length_map]];split<;>omega
        rw[cy,<-bp,di.o];exact aJ
       have e2:(k:Int)<c1:=oS;have dB:=A_ (dn.grow ab dv);obtain⟨eH,fj,y,ez,fc,eO,fp,eA,fd,eP,fq,dQ,eV,cU,cW,cX,cY,cz⟩:=TRat.elemA dB d1;subst dQ;have bQ:=A_ cz;have dI:=A_ (show(A6f p us f v).getD k A0h=y from A0e cU);have dz:=A_ (dA.grow b3 dt);obtain⟨eG,fh,e,dO,eU,cF,ct,-,-,-,-⟩:=TEdge.elemA dz aq;subst dO;have c9:=A_ (show D.getD j A4o=e from A0e cF);obtain⟨z,eE,ff,eQ,eF,fg,eR,eS,cV,c2,c4,c5,-,-,-,cA,-,-⟩:=ap.elem aq;have bR:=A_ cA;have dJ:=A_ (A0e (d:=A0h) cV);have ey:=A_ (show w3.1[bx]?=_ from(ab.block bx (E_ aY) (by intro e;injection e with e;have:=bV.o;omega)).trans aY.o);have cg:=A_ (show B2d D v f.spokes (A6f p us f v) (A4q p us D v H (A3j p us v) i) (k+1)=(B2d D v f.spokes (A6f p us f v) (A4q p us D v H (A3j p us v) i) k).set j (bif decide (e.a=v)then A3t z y else A0k z y) by rw[B2d,dD.o,c9.o,dJ.o,dI.o]);clear ad aJ bK ea cR d0 cz cU cF cA cV;cases a2:decide (e.a=(v:Int))
       ·have bD:¬ (e.a=(v:Int)):=by simpa using a2
        clear a2;go_wp2_with fail;refine X_ sI ?_;dsimp only[DN,DO,DQ];iterate 10 refine C_ _ ?_
        refine D_ (MP.agg (A0k z y)) ?_ ?_;·intro aQ aR bM G T;obtain ⟨dT,dU⟩:=F_ G;simp at T;refine G_ ?_;exact H_ (A0x _ _ z y _ _ bM (bR.below G) (bQ.below G))
        refine C_ _ ?_;intro aQ aR wa G T (bA:Hid _);simp at T;have bL:=T.2.2.2.2.2.2.2.2.2.2.1;have aa:=T.2.2.2.2.2.2.2.2.2.2.2;have ej:aQ 11=.pointer (QZ ⟨h,j*3,I⟩):=by first|exact aa.1.1|exact aa.1|exact aa
        obtain⟨⟨O,-⟩,aj⟩:=bL;obtain⟨ax,aN,aE,_,ay,aO,aF,_,bN,-,_,_⟩:=TRat.agg O;rw[bN]at O;have ai:=ap.below G;obtain⟨_,_,_,_,_,_,_,_,-,eh,ei,ek,el,em,en,-,-,dX⟩:=ai.elem aq;have bk:=A_ (show RR (λb=>b=h) (((wa.setCell ⟨h,j*3,I⟩ (J (A0k z y).1.1)).setCell ⟨h,j*3+1,I⟩ (S ax aN aE)).setCell ⟨h,j*3+2,I⟩ (S ay aO aF)) h u u (B2d D v f.spokes (A6f p us f v) (A4q p us D v H (A3j p us v) i) (k+1))from by rw[cg.o,decide_eq_false bD];exact ai.set aq O (λb W e=>by have:=(aj b W).1;omega));have be:=A_ (show a9.grownBy (((wa.setCell ⟨h,j*3,I⟩ (J (A0k z y).1.1)).setCell ⟨h,j*3+1,I⟩ (S ax aN aE)).setCell ⟨h,j*3+2,I⟩ (S ay aO aF)) (QZ h)from C4f (A8f ab G));clear T bA O aj G ai aa cE cW cX cY ct c2 c4 c5;generalize aR 10=ec at *;go_wp2_with fail;go_roundg bo;case measure=>omega
        case rel=>exact⟨k+1,cH,gN,bk,be⟩
       have bD:e.a=(v:Int):=by simpa using a2
       clear a2;go_wp2_with fail;refine X_ sI ?_;dsimp only[DN,DO,DQ];iterate 10 refine C_ _ ?_
       refine D_ (MP.agg (A3t z y)) ?_ ?_;·intro aQ aR bM G T;obtain⟨dT,dU⟩:=F_ G;simp at T;refine G_ ?_;exact H_ (A5b _ _ z y _ _ bM (bR.below G) (bQ.below G))
       refine C_ _ ?_;intro aQ aR wa G T (bA:Hid _);simp at T;have bL:=T.2.2.2.2.2.2.2.2.2.2.1;have aa:=T.2.2.2.2.2.2.2.2.2.2.2;have ej:aQ 11=.pointer (QZ ⟨h,j*3,I⟩):=by first|exact aa.1.1|exact aa.1|exact aa
       obtain⟨⟨O,-⟩,aj⟩:=bL;obtain⟨ax,aN,aE,_,ay,aO,aF,_,bN,-,_,_⟩:=TRat.agg O;rw[bN]at O;have ai:=ap.below G;obtain⟨_,_,_,_,_,_,_,_,-,eh,ei,ek,el,em,en,-,-,dX⟩:=ai.elem aq;have bk:=A_ (show RR (λb=>b=h) (((wa.setCell ⟨h,j*3,I⟩ (J (A3t z y).1.1)).setCell ⟨h,j*3+1,I⟩ (S ax aN aE)).setCell ⟨h,j*3+2,I⟩ (S ay aO aF)) h u u (B2d D v f.spokes (A6f p us f v) (A4q p us D v H (A3j p us v) i) (k+1))from by rw[cg.o,decide_eq_true bD];exact ai.set aq O (λb W e=>by have:=(aj b W).1;omega));have be:=A_ (show a9.grownBy (((wa.setCell ⟨h,j*3,I⟩ (J (A3t z y).1.1)).setCell ⟨h,j*3+1,I⟩ (S ax aN aE)).setCell ⟨h,j*3+2,I⟩ (S ay aO aF)) (QZ h)from C4f (A8f ab G));clear T bA O aj G ai aa cE cW cX cY ct c2 c4 c5;generalize aR 10=ec at *;go_wp2_with fail;go_roundg bo;case measure=>omega
       case rel=>exact⟨k+1,cH,gN,bk,be⟩
      obtain rfl:k=Z:=oS;have d2:¬ ((k:Int)<k):=oS;have dx:=A_ (by rw[du.o];exact ap:RR (λb=>b=h) w3 h u u (A4q p us D v H (A3j p us v) (i+1)));have dc:=A_ (b0.trans ab);clear ad aJ ap ab;go_wp2_with fail;go_roundg bn;case measure=>omega
      case rel=>exact⟨i+1,dY,gN,dx,dc⟩
    obtain rfl:i=af:=oS;have dZ:¬ ((i:Int)<i):=oS;have dy:=A_ (by rw[dw.o,df.o];exact aD:RR (λb=>b=h) w2 h u u (A3j p us (v+1)));clear cG a4 aD;go_wp2_with fail;go_roundg g;case measure=>omega
    case rel=>exact⟨v+1,d8,gN,dy,an⟩
  obtain rfl:v=ae:=oS;have d9:¬ ((v:Int)<v):=oS;have da:=A_ (by rw[A4i,b8.o]:A3j p us v=A4i p us);obtain⟨cm,bI,-⟩:=aZ.sl;rw[da.o]at bI;have cb:=A_ bI;have bP:=A_ (List.all_eq_true.1 aB.ok);have c8:=A_ (show(A4i p us).any A2e=false by
   rw[List.any_eq_false];intro r aj E;have V:=ratOkB_iff.1 (bP r aj);unfold A2e at E;cases cM:r.2 with
   |nil=>have:=V.den0;rw[cM]at this;simp[val]at this
   |cons _ _=>rw[cM]at E;cases E)
  clear cQ a6 bI;go_wp2_with fail;refine(A2l _ u u (A4i p us) cm wr cb.o oS (λx aM=>B1b (bP.o x aM))).mono ?_;rintro _ eg ⟨C,eb,cC,bC,rfl,cO,cJ,bt⟩;have dk:=A_ cO;have c6:=A_ (BH aw bt);have ds:=A_ (show ∀ b∈bC,w.1.size<=b from λb W=>by have:=(cJ.2 b W).1;have:=aw.size;omega);have dp:=A_ (cb.below bt);clear cO cJ bt;go_wp2_with fail;refine(B4r _ u u (A4i p us) cm eg dp.o oS c8.o).mono ?_;rintro _ ft ⟨rfl,bu⟩;have dl:=A_ (dk.below bu);have c7:=A_ (BH c6 bu);clear bu;go_wp2;refine bodyPost_ret (v:=.tuple #[S C eb cC,J true]) (by simp[results,results22,go_sem, *]) rfl ?_;exact⟨_,_,_,_,rfl,dl,ds,c7⟩
end Go.Proofs.YtjcanieccnljfaaGreat.X
