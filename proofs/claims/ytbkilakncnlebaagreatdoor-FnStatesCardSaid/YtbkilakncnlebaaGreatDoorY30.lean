/- A part of the proof. -/
import Derived.Test.YtbkilakncnlebaaGreatDoorY28
import Derived.Test.YtbkilakncnlebaaGreatDoorY29
import Derived.Test.YtbkilakncnlebaaGreatDoorY23
set_option linter.constructorNameAsVariable false
set_option maxHeartbeats 16000000
set_option maxRecDepth 10000
open Go renaming World→J
open Go.Value renaming bool→AC,int→N,slice→S
open Go.XB.Below renaming box→AV,next→AI
open List renaming dropLast→DJ,getLast→DK,length→DI,mem_of_getElem?→CH
open Option renaming none→I,some→QL
namespace Go.Proofs.YtbkilakncnlebaaGreatDoor.X
open Go.RowKit Go.XB Go.XN Proofs.Tryz
structure FluxD (p:TProblem) (us:List TRat):Prop where
 lin:LinD p us
 sl:p.3.length=3
 fan:∀ v:Nat,v<p.1.1.length->fanOk p.1.triangles v=true
 fd:∀ v:Nat,v<p.1.1.length->∀ f∈A8x p.1.triangles v,FanD p us v f
 fl:∀ v:Nat,v<p.1.1.length->(A8x p.1.triangles v).length<=48
 ne:(P_ p.1.triangles).length<=40
 ok:(A4i p us).all J_=true
theorem TFan.elemB {w:J} {A:Option Addr} {n c:Nat} {xs:List TFan} {bs:List Nat} (h:Sl w A n c xs bs) {k:Nat} (Z:k<n) :
  ∃ (b off:Nat) (x:TFan) (A0:Option Addr) (n0 c0:Nat) (A1:Option Addr) (n1 c1:Nat) (s0 s1:List Nat),A=QL ⟨b,off,I⟩/\b<w.1.size/\b∈bs/\xs[k]?=QL x/\w.cell? ⟨b,off+k*3,I⟩=QL (S A0 n0 c0)/\w.cell? ⟨b,off+k*3+1,I⟩=QL (S A1 n1 c1)/\w.cell? ⟨b,off+k*3+2,I⟩=QL (AC x.closed)/\Agg w (.agg #[S A0 n0 c0,S A1 n1 c1,AC x.closed]) x (s0++s1)/\Sl w A1 n1 c1 x.spokes s1/\∀ g∈s0++s1,g∈bs:=by
 have G:=h;obtain⟨b,off,x,ae,af,u,T,aa,D,E,Y⟩:=Sl.getAt h Z;have W:b∈bs:=by obtain⟨_,_,_,_,H⟩:=G;obtain⟨ac,ag,ad,O,X,_⟩:=H oS;rw[O]at u;injection u with u;injection u with h1;rw[X,<-h1];simp
 obtain⟨A0,n0,c0,s0,A1,n1,c1,s1,rfl,rfl,ah,ab⟩:=TFan.open_ E;exact⟨b,off,x,_,_,_,_,_,_,_,_,u,T,W,aa,D 0 _ rfl,D 1 _ rfl,D 2 _ rfl,⟨_,rfl,E⟩,ab,Y⟩
theorem _root_.Go.XB.Sl.grow {α:Type} [Dat α] {w w':J} {A:Option Addr} {n c:Nat} {xs:List α} {bs:List Nat} {g:Nat} (h:Sl w A n c xs bs) (hg:w.grownBy w' (QL g)) (hn:g∉bs):Sl w' A n c xs bs :=
 h.keep λb hb=>hg.block b (h.lt b hb) (by intro e;injection e with e;exact hn (e ▸ hb))
theorem C0k {w w':J} {g b o:Nat} {v:Value} (h:w.cell? ⟨b,o,I⟩=QL v) (hg:w.grownBy w' (QL g)) (hn:b≠g):w'.cell? ⟨b,o,I⟩=QL v :=
 hg.cell h (by intro e;injection e with e;exact hn e)
theorem lt_of_cell {w:J} {b o:Nat} {v:Value} (h:w.cell? ⟨b,o,I⟩=QL v):b<w.1.size:=World.block_lt_of_cell? w ⟨b,o,I⟩ h
attribute [local go_sem] L_ Go.XB.opAt N_ M_ Region.wanted yielded
attribute [local simp] N_ M_ MP.eq MP.agg MP.sl MP.box A0r
theorem E2h (val:Value) (p:TProblem) (b:List Nat) (xs ys:List Int) (B:Option Addr) (n d:Nat) (us:List TRat) (ci:List Nat) (w:J) (aE:Agg w val p b) (cJ:Sl w B n d us ci) (cF:ProbI p xs ys) (az:FluxD p us) :
  Calls prog 78 #[val,S B n d] w (D9x w (A4i p us)):=by
 have dm:=A_ aE;have dl:=A_ cJ;have df:=A_ cF;have ar:=A_ az;have a9:=A_ az.lin;obtain⟨el,ab,eC,fd,em,n1,eD,fe,en,n2,eE,ff,eo,e3,c3,fg,rfl,rfl,aY,cH,d2,d3⟩:=TProblem.agg aE;have bZ:=A_ (TMesh.mkAgg (x:=p.1) aY cH);have b0:=A_ aY.1;have eX:ab<=40:=by rw[<-aY.1];exact az.lin.n40
 have eY:(ab:Int)<=40:=oS;obtain⟨u,bu⟩:∃ u,P_ p.1.triangles=u:=⟨_,rfl⟩
 have aQ:=A_ bu;have c9:=A_ (by rw[<-bu];exact az.ne:u.length<=40);clear aY cH d2 d3 aE cJ cF az bu;go_enter func78,ntmps78;go_upto_region 1 with fail;refine Code.new λdD bf=>?_;have bQ:=A_ bf.b;have ba:=A_ bf.k;clear bf;obtain⟨W,-⟩:=B_ ba (j:=0) rfl;obtain⟨aa,-⟩:=B_ ba (j:=1) rfl;simp at W aa;go_wp2_with fail;refine(A7q _ p.1 _ dD (bZ.below bQ) a9.t48).mono ?_;rintro _ a2 ⟨ep,ne,eF,cn,rfl,an,d1,bo⟩;rw[aQ.o]at an;have bY:=A_ an.1;have dZ:ne<=40:=by rw[<-an.1];exact c9
 have b4:=A_ an;have bO:=A_ (AI bQ bo);have bc:=A_ (K_ ba bo);have bX:=A_ (show ∀ b∈cn,b<a2.1.size from an.lt);clear an d1 bo W aa;go_wp2_with fail;refine(A0l 0 a2 oO).mono ?_;rintro _ wa ⟨fk,d9,rfl,H,d0,cv⟩;obtain⟨bT,cR,cg,eN,aj,cU,ch,bj,rfl,ek,_,_⟩:=TRat.agg H;have aK:=A_ (A3x (H.below (AV (.cells #[AC (U_ 0).1.1,S bT cR cg,S aj cU ch] 35))));have b3:=A_ (show ∀ b∈d9,b<wa.1.size from H.lt);have aP:=A_ cv;clear H d0 ek cv;go_wp2_with fail;refine(C1n wa.1.size ne [AC (U_ 0).1.1,S bT cR cg,S aj cU ch] _ (heap_alloc_new wa _) rfl (Dat.one aK) dZ).mono ?_;rintro _ aH ⟨rfl,bB,aU⟩;rw[World.size_alloc]at bB;obtain⟨h,bA⟩:∃ y,wa.1.size+1=y:=⟨_,rfl⟩
 have bi:=A_ (show RR (λb=>b=h) aH h ne ne (A3j p us 0)from by rw[<-bA,show A3j p us 0=List.replicate ne (U_ 0) by rw[A3j,aQ.o,bY.o]];refine⟨_,_,B0o bB,C0s (n:=ne) (Dat.keep aK.o (λb T=>aU.block b (Dat.lt aK.o b T))),sI,λb T e=>?_,rfl⟩;have:=b3 b (B0m T);omega);have aL:=A_ (show Bw w aH from AI (AI (AI bO aP) (AV _)) aU);have a6:=A_ (show Bw a2 aH from AI (AI aP (AV _)) aU);have bW:=A_ (show a2.1.size<=h/\h<aH.1.size from⟨by have:=aP.size;omega,bi.o.lt⟩);have aO:=A_ (by have:=bW.1;have:=E_ bc;omega:w.1.size<h);have bd:=A_ (K_ bc a6);have dw:=A_ (b4.below a6);have dp:=A_ (show h∉cn from λD=>by have:=bX _ D;have:=bW.1;omega);simp only[World.size_alloc,bA];clear bB aU aK b3 aP bA b4 bX a6 bc bO;obtain⟨W,-⟩:=B_ bd (j:=0) rfl;simp at W;go_wp2_with fail;go_loopg [27] ab (λg s wr=>∃ v:Nat,v+g=ab/\s=N .i64 v/\Hid (RR (λb=>b=h) wr h ne ne (A3j p us v))/\Hid (aH.grownBy wr (QL h)));case atStart=>exact⟨0,oS,rfl,bi.o,B8k _ _⟩
 case round =>
  clear bi W;obtain⟨v,cK,rfl,aS,aN⟩:=hrel;have aM:=A_ (aL.grown aN aL.size (λk am=>by injection am with D;subst D;exact Nat.le_of_lt aO));have aR:=A_ (show wr.1[w.1.size]?=_ from(aN.block _ (E_ bd) (by intro e;injection e with e;have:=aO.o;omega)).trans bd.o);rcases Nat.lt_or_ge v ab with aZ|aZ
  ·have d5:(v:Int)<ab:=oS
   obtain⟨g,rfl⟩:∃ g,gk=g+1:=⟨gk - 1,oS⟩
   have d4:=A_ (by omega:v+1+g=ab);have a1:v<p.1.1.length:=by rw[b0.o];exact aZ
   have c6:=A_ (ar.fan v a1);have bR:=A_ (ar.fd v a1);have bS:=A_ (ar.fl v a1);have dB:=A_ (by constructor<;>omega:I64 (v:Int));obtain⟨G,aW⟩:∃ G,A8x p.1.triangles v=G:=⟨_,rfl⟩
   have dc:=A_ aW;rw[aW]at bR bS;have ds:=A_ (by rw[A3j,aQ.o,aW]:A3j p us (v+1)=A4q p us u v G (A3j p us v) G.length);obtain⟨W,-⟩:=B_ aR (j:=0) rfl;obtain⟨aa,-⟩:=B_ aR (j:=1) rfl;simp at W aa;clear cK aZ a1 aW;go_wp2_with fail;refine(E1r _ p.1 _ (v:Int) wr (bZ.below aM) a9.t48 dB c6).mono ?_;rintro _ eb ⟨er,ac,eG,dH,rfl,aC,cE,aT⟩;rw[dc.o]at aC;have db:=A_ aC.1;have eZ:ac<=48:=by rw[<-aC.1];exact bS
   have e0:(ac:Int)<=48:=oS;have dS:=aS.lt;have be:=A_ (show h∉dH from λD=>by have:=(cE.2 _ D).1;omega);have di:=A_ aC;have bU:=A_ (A8f aN aT);have cb:=A_ (aS.below aT);have b7:=A_ (K_ aR aT);clear aC cE aT W aa aS aN dS aR aM;go_wp2_with fail;go_loopg [35] ac (λg s w2=>∃ i:Nat,i+g=ac/\s=N .i64 i/\Hid (RR (λb=>b=h) w2 h ne ne (A4q p us u v G (A3j p us v) i))/\Hid (eb.grownBy w2 (QL h)));case atStart=>exact⟨0,oS,rfl,cb.o,B8k _ _⟩
   case round =>
    clear cb;obtain⟨i,cz,rfl,aw,X⟩:=hrel;rename J=>w2;have aj:=A_ (bU.trans X);have bP:=A_ (aL.grown aj aL.size (λk am=>by injection am with D;subst D;exact Nat.le_of_lt aO));have b6:=A_ (show w2.1[w.1.size]?=_ from(X.block _ (E_ b7) (by intro e;injection e with e;have:=aO.o;omega)).trans b7.o);rcases Nat.lt_or_ge i ac with aX|aX
    ·have dV:(i:Int)<ac:=oS
     have eS:(0:Int)<=i:=oS;obtain⟨bj,rfl⟩:∃ g,gk=g+1:=⟨gk - 1,oS⟩
     have dU:=A_ (by omega:i+1+bj=ac);obtain⟨dJ,fa,f,ew,e6,cT,ev,Y,cS,fj,ea,rfl,dN,cw,bz,co,cp,cq,bn,aD,bF⟩:=TFan.elemB di aX;have br:dJ≠h:=λe=>be.o (e ▸ cw);have aq:=A_ (bR f (CH bz));have da:=A_ (show G.getD i D7s=f from A0e bz);have a4:=C0k co X br;have ai:=C0k cp X br;have a5:=C0k cq X br;have bK:=A_ (bn.keep λb T=>X.block b (bn.lt b T) (by intro e;injection e with e;exact be.o (e ▸ bF b T)));have b9:=A_ (show h∉ea from λD=>be.o (bF _ (by simp[D])));have cd:=A_ (aD.grow X b9);have e1:Y<=49:=by have bm:=aq.sn;have cs:=aq.tl;rw[<-aD.1,bm];split<;>omega
     have e2:(Y:Int)<=49:=oS;have de:=A_ aD.1;have dq:=A_ (show A4q p us u v G (A3j p us v) (i+1)=B2d u v f.spokes (A6f p us f v) (A4q p us u v G (A3j p us v) i) Y by rw[A4q,da.o,aD.1]);clear cz aX bz co cp cq bn aD bF cw dN;go_upto_region 9 with fail;refine Code.new λce bg=>?_;have ad:=A_ bg.b;have af:=A_ bg.k;clear a4 ai a5 bg;have dR:=aw.lt;obtain⟨bx,bs⟩:∃ y,w2.1.size=y:=⟨_,rfl⟩
     have c1:=A_ (by omega:h<bx);rw[bs]at af;simp only[bs];clear bs dR;have au:=A_ (K_ b6 ad);have a7:=A_ (AI bP ad);obtain⟨W,-⟩:=B_ au (j:=0) rfl;obtain⟨aa,-⟩:=B_ au (j:=1) rfl;obtain⟨cj,-⟩:=B_ au (j:=2) rfl;obtain⟨ck,-⟩:=B_ au (j:=3) rfl;obtain⟨a4,-⟩:=B_ af (j:=0) rfl;obtain⟨ai,-⟩:=B_ af (j:=1) rfl;obtain⟨a5,-⟩:=B_ af (j:=2) rfl;simp at W aa cj ck a4 ai a5;have l1:bx<ce.1.size:=E_ af;go_wp2_with fail;refine(C9c _ p _ xs ys B n d us ci _ f _ (v:Int) ce (dm.below a7) (dl.below a7) (bK.below ad) df a9 ar.sl aq).mono ?_;rintro _ a3 ⟨eu,cV,eH,dI,rfl,bD,cB,aA⟩;have dj:=A_ bD;have dd:=A_ bD.1;have dr:=A_ (show h∉dI from λD=>by have:=cB _ D;have:=c1.o;omega);have bV:=A_ (A8f (A8f X ad) aA);have cc:=A_ ((aw.below ad).below aA);have dA:=A_ ((cd.below ad).below aA);have b8:=A_ (K_ af aA);clear bD cB aA W aa cj ck a4 ai a5 l1 aw X au af ad a7 bK cd b6 bP aj;obtain⟨ai,-⟩:=B_ b8 (j:=1) rfl;simp at ai;have l1:bx<a3.1.size:=E_ b8;go_wp2_with fail;go_loopg [52] Y (λg s w3=>∃ k:Nat,k+g=Y/\s=N .i64 k/\Hid (RR (λb=>b=h) w3 h ne ne (B2d u v f.spokes (A6f p us f v) (A4q p us u v G (A3j p us v) i) k))/\Hid (a3.grownBy w3 (QL h)));case atStart=>exact⟨0,oS,rfl,cc.o,B8k _ _⟩
     case round =>
      clear cc ai l1;obtain⟨k,am,rfl,ak,ae⟩:=hrel;rename J=>w3;have c8:=A_ ((bU.trans bV).trans ae);have eR:=ak.lt;rcases Nat.lt_or_ge k Y with aB|aB
      ·have dY:(k:Int)<Y:=oS
       have eV:(0:Int)<=k:=oS;obtain⟨bl,rfl⟩:∃ g,gk=g+1:=⟨gk - 1,oS⟩
       have cA:=A_ (by omega:k+1+bl=Y);have dz:=A_ (dA.grow ae b9);obtain⟨eB,fc,x,rfl,eQ,bG,cx,dW⟩:=B9i dz aB;obtain⟨d6,cL⟩:=aq.si x (CH bG);obtain⟨j,rfl⟩:∃ j:Nat,x=(j:Int):=⟨x.toNat,oS⟩
       have al:j<ne:=by rw[aQ.o,bY.o]at cL;omega
       have eU:(j:Int)<ne:=oS;have eT:(0:Int)<=j:=oS;have dy:=A_ (by rw[A0e bG];simp:(f.spokes.getD k 0).toNat=j);have dX:k<cV:=by
        rw[<-dd.o];have bm:=aq.sn;have cs:(A6f p us f v).length=f.triangles.length+(if f.closed then 0 else 1):=by unfold A6f A9c;rw[List.length_map,List.length_take,B7o,show (A1h p us f v).length=f.triangles.length by rw[A1h,List.length_map]];split<;>omega
        rw[cs,<-bm,de.o];exact aB
       have eW:(k:Int)<cV:=oS;have dx:=A_ (dj.grow ae dr);obtain⟨eA,fb,y,es,e4,eI,fh,et,e5,eJ,fi,dM,eP,cM,cO,cP,cQ,ct⟩:=TRat.elemA dx dX;subst dM;have bM:=A_ ct;have dF:=A_ (show(A6f p us f v).getD k A0h=y from A0e cM);have dv:=A_ (dw.grow c8 dp);obtain⟨ez,e9,e,dL,eO,cy,cm,-,-,-,-⟩:=TEdge.elemA dv al;subst dL;have c4:=A_ (show u.getD j A4o=e from A0e cy);obtain⟨z,ex,e7,eK,ey,e8,eL,eM,cN,cW,cX,cY,-,-,-,cu,-,-⟩:=ak.elem al;have bN:=A_ cu;have dG:=A_ (A0e (d:=A0h) cN);have ca:=A_ (show B2d u v f.spokes (A6f p us f v) (A4q p us u v G (A3j p us v) i) (k+1)=(B2d u v f.spokes (A6f p us f v) (A4q p us u v G (A3j p us v) i) k).set j (bif decide (e.a=v)then A3t z y else A0k z y) by rw[B2d,dy.o,c4.o,dG.o,dF.o]);clear am aB bG d6 cL dW ct cM cy cu cN;cases aV:decide (e.a=(v:Int))
       ·have bv:¬ (e.a=(v:Int)):=by simpa using aV
        clear aV;go_wp2_with fail;refine X_ sI ?_;dsimp only[DJ,DK,DI];iterate 10 refine C_ _ ?_
        refine D_ (MP.agg (A0k z y)) ?_ ?_;·intro aI aJ bI E O;obtain ⟨dO,dQ⟩:=F_ E;simp at O;refine G_ ?_;exact H_ (A0x _ _ z y _ _ bI (bN.below E) (bM.below E))
        refine C_ _ ?_;intro aI aJ wa E O bt;clear bt;simp at O;have bH:=O.2.2.2.2.2.2.2.2.2.2.1;have Z:=O.2.2.2.2.2.2.2.2.2.2.2;have ef:aI 11=.pointer (QL ⟨h,j*3,I⟩):=by first|exact Z.1.1|exact Z.1|exact Z
        obtain⟨⟨H,-⟩,ah⟩:=bH;obtain⟨ao,aF,ax,_,ap,aG,ay,_,bJ,-,_,_⟩:=TRat.agg H;rw[bJ]at H;have ag:=ak.below E;obtain⟨_,_,_,_,_,_,_,_,-,ed,ee,eg,eh,ei,ej,-,-,dT⟩:=ag.elem al;have bh:=A_ (show RR (λb=>b=h) (((wa.setCell ⟨h,j*3,I⟩ (AC (A0k z y).1.1)).setCell ⟨h,j*3+1,I⟩ (S ao aF ax)).setCell ⟨h,j*3+2,I⟩ (S ap aG ay)) h ne ne (B2d u v f.spokes (A6f p us f v) (A4q p us u v G (A3j p us v) i) (k+1))from by rw[ca.o,decide_eq_false bv];exact ag.set al H (λb T e=>by have:=(ah b T).1;omega));have a8:=A_ (show a3.grownBy (((wa.setCell ⟨h,j*3,I⟩ (AC (A0k z y).1.1)).setCell ⟨h,j*3+1,I⟩ (S ao aF ax)).setCell ⟨h,j*3+2,I⟩ (S ap aG ay)) (QL h)from C4f (A8f ae E));clear O H ah E ag Z cx cO cP cQ cm cW cX cY;generalize aJ 10=d8 at *;go_wp2_with fail;go_roundg bl;case measure=>omega
        case rel=>exact⟨k+1,cA,gN,bh,a8⟩
       have bv:e.a=(v:Int):=by simpa using aV
       clear aV;go_wp2_with fail;refine X_ sI ?_;dsimp only[DJ,DK,DI];iterate 10 refine C_ _ ?_
       refine D_ (MP.agg (A3t z y)) ?_ ?_;·intro aI aJ bI E O;obtain⟨dO,dQ⟩:=F_ E;simp at O;refine G_ ?_;exact H_ (A5b _ _ z y _ _ bI (bN.below E) (bM.below E))
       refine C_ _ ?_;intro aI aJ wa E O bt;clear bt;simp at O;have bH:=O.2.2.2.2.2.2.2.2.2.2.1;have Z:=O.2.2.2.2.2.2.2.2.2.2.2;have ef:aI 11=.pointer (QL ⟨h,j*3,I⟩):=by first|exact Z.1.1|exact Z.1|exact Z
       obtain⟨⟨H,-⟩,ah⟩:=bH;obtain⟨ao,aF,ax,_,ap,aG,ay,_,bJ,-,_,_⟩:=TRat.agg H;rw[bJ]at H;have ag:=ak.below E;obtain⟨_,_,_,_,_,_,_,_,-,ed,ee,eg,eh,ei,ej,-,-,dT⟩:=ag.elem al;have bh:=A_ (show RR (λb=>b=h) (((wa.setCell ⟨h,j*3,I⟩ (AC (A3t z y).1.1)).setCell ⟨h,j*3+1,I⟩ (S ao aF ax)).setCell ⟨h,j*3+2,I⟩ (S ap aG ay)) h ne ne (B2d u v f.spokes (A6f p us f v) (A4q p us u v G (A3j p us v) i) (k+1))from by rw[ca.o,decide_eq_true bv];exact ag.set al H (λb T e=>by have:=(ah b T).1;omega));have a8:=A_ (show a3.grownBy (((wa.setCell ⟨h,j*3,I⟩ (AC (A3t z y).1.1)).setCell ⟨h,j*3+1,I⟩ (S ao aF ax)).setCell ⟨h,j*3+2,I⟩ (S ap aG ay)) (QL h)from C4f (A8f ae E));clear O H ah E ag Z cx cO cP cQ cm cW cX cY;generalize aJ 10=d8 at *;go_wp2_with fail;go_roundg bl;case measure=>omega
       case rel=>exact⟨k+1,cA,gN,bh,a8⟩
      obtain rfl:k=Y:=oS;have dY:¬ ((k:Int)<k):=oS;have dt:=A_ (by rw[dq.o];exact ak:RR (λb=>b=h) w3 h ne ne (A4q p us u v G (A3j p us v) (i+1)));have c7:=A_ (bV.trans ae);clear am aB ak ae;go_wp2_with fail;go_roundg bj;case measure=>omega
      case rel=>exact⟨i+1,dU,gN,dt,c7⟩
    obtain rfl:i=ac:=oS;have dV:¬ ((i:Int)<i):=oS;have du:=A_ (by rw[ds.o,db.o];exact aw:RR (λb=>b=h) w2 h ne ne (A3j p us (v+1)));clear cz aX aw;go_wp2_with fail;go_roundg g;case measure=>omega
    case rel=>exact⟨v+1,d4,gN,du,aj⟩
  obtain rfl:v=ab:=oS;have d5:¬ ((v:Int)<v):=oS;have c5:=A_ (by rw[A4i,b0.o]:A3j p us v=A4i p us);obtain⟨cf,bE,-⟩:=aS.sl;rw[c5.o]at bE;have b5:=A_ bE;have bL:=A_ (List.all_eq_true.1 ar.ok);have c2:=A_ (show(A4i p us).any A2e=false by
   rw[List.any_eq_false];intro r ah D;have V:=ratOkB_iff.1 (bL r ah);unfold A2e at D;cases cG:r.2 with
   |nil=>have:=V.den0;rw[cG]at this;simp[val]at this
   |cons _ _=>rw[cG]at D;cases D)
  clear cK aZ bE;go_wp2_with fail;refine(A2l _ ne ne (A4i p us) cf wr b5.o oS (λx aE=>B1b (bL.o x aE))).mono ?_;rintro _ ec ⟨C,d7,cC,bC,rfl,cI,cD,bp⟩;have dg:=A_ cI;have cZ:=A_ (AI aM bp);have dn:=A_ (show ∀ b∈bC,w.1.size<=b from λb T=>by have:=(cD.2 b T).1;have:=aM.size;omega);have dk:=A_ (b5.below bp);clear cI cD bp;go_wp2_with fail;refine(B4r _ ne ne (A4i p us) cf ec dk.o oS c2.o).mono ?_;rintro _ fl ⟨rfl,bq⟩;have dh:=A_ (dg.below bq);have c0:=A_ (AI cZ bq);clear bq;go_wp2;refine bodyPost_ret (v:=.tuple #[S C d7 cC,AC true]) (by simp[results,results78,go_sem, *]) rfl ?_;exact⟨_,_,_,_,rfl,dh,dn,c0⟩
end Go.Proofs.YtbkilakncnlebaaGreatDoor.X
