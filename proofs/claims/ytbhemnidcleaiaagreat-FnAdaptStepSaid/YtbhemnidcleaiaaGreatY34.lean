/- A part of the proof. -/
import Derived.Test.YtbhemnidcleaiaaGreatY32
import Derived.Test.YtbhemnidcleaiaaGreatY33
import Derived.Test.YtbhemnidcleaiaaGreatY26
set_option linter.constructorNameAsVariable false
set_option maxHeartbeats 16000000
set_option maxRecDepth 10000
namespace Go.Proofs.YtbhemnidcleaiaaGreat.X
open Go.RowKit Go.XB Go.XN Proofs.Tryz
structure FluxD (p:TProblem) (us:List TRat):Prop where
 lin:LinD p us
 sl:p.3.length=3
 fan:∀ v:Nat,v<p.1.1.length->fanOk p.1.triangles v=true
 fd:∀ v:Nat,v<p.1.1.length->∀ f∈A8x p.1.triangles v,FanD p us v f
 fl:∀ v:Nat,v<p.1.1.length->(A8x p.1.triangles v).length<=48
 ne:(P_ p.1.triangles).length<=40
 ok:(A4i p us).all J_=true
theorem TFan.elemB {w:World} {A:Option Addr} {n c:Nat} {xs:List TFan} {D:List Nat} (h:Sl w A n c xs D) {k:Nat} (W:k<n) :
  ∃ (b off:Nat) (x:TFan) (A0:Option Addr) (n0 c0:Nat) (A1:Option Addr) (n1 c1:Nat) (s0 s1:List Nat),A=some ⟨b,off,none⟩/\b<w.1.size/\b∈D/\xs[k]?=some x/\w.cell? ⟨b,off+k*3,none⟩=some (.slice A0 n0 c0)/\w.cell? ⟨b,off+k*3+1,none⟩=some (.slice A1 n1 c1)/\w.cell? ⟨b,off+k*3+2,none⟩=some (.bool x.closed)/\Agg w (.agg #[.slice A0 n0 c0,.slice A1 n1 c1,.bool x.closed]) x (s0++s1)/\Sl w A1 n1 c1 x.spokes s1/\∀ g∈s0++s1,g∈D:=by
 have H:=h;obtain⟨b,off,x,ab,ac,u,K,X,E,G,T⟩:=Sl.getAt h W;have O:b∈D:=by obtain⟨_,_,_,_,I⟩:=H;obtain⟨Z,ad,aa,J,S,_⟩:=I oM;rw[J]at u;injection u with u;injection u with h1;rw[S,<-h1];simp
 obtain⟨A0,n0,c0,s0,A1,n1,c1,s1,rfl,rfl,ae,Y⟩:=TFan.open_ G;exact⟨b,off,x,_,_,_,_,_,_,_,_,u,K,O,X,E 0 _ rfl,E 1 _ rfl,E 2 _ rfl,⟨_,rfl,G⟩,Y,T⟩
theorem _root_.Go.XB.Sl.grow {α:Type} [Dat α] {w w':World} {A:Option Addr} {n c:Nat} {xs:List α} {bs:List Nat} {g:Nat} (h:Sl w A n c xs bs) (hg:w.grownBy w' (some g)) (hn:g∉bs):Sl w' A n c xs bs :=
 h.keep λb hb=>hg.block b (h.lt b hb) (by intro e;injection e with e;exact hn (e ▸ hb))
theorem C0k {w w':World} {g b o:Nat} {v:Value} (h:w.cell? ⟨b,o,none⟩=some v) (hg:w.grownBy w' (some g)) (hn:b≠g):w'.cell? ⟨b,o,none⟩=some v :=
 hg.cell h (by intro e;injection e with e;exact hn e)
theorem D7j {w:World} {b o:Nat} {v:Value} (h:w.cell? ⟨b,o,none⟩=some v):b<w.1.size:=World.block_lt_of_cell? w ⟨b,o,none⟩ h
attribute [local go_sem] L_ Go.XB.opAt N_ M_ Region.wanted yielded
attribute [local simp] N_ M_ MP.eq MP.agg MP.sl MP.box A0r
theorem E2h (val:Value) (p:TProblem) (b:List Nat) (xs ys:List Int) (B:Option Addr) (n d:Nat) (us:List TRat) (ci:List Nat) (w:World) (aI:Agg w val p b) (cK:Sl w B n d us ci) (cG:ProbI p xs ys) (aC:FluxD p us) :
  Calls prog 107 #[val,.slice B n d] w (D9x w (A4i p us)):=by
 have dl:=A_ aI;have dk:=A_ cK;have de:=A_ cG;have ax:=A_ aC;have ba:=A_ aC.lin;obtain⟨ek,aa,eE,fh,el,n1,eF,fi,em,n2,eG,fj,en,e7,c3,fk,rfl,rfl,a1,cI,d1,d2⟩:=TProblem.agg aI;have b0:=A_ (TMesh.mkAgg (x:=p.1) a1 cI);have b3:=A_ a1.1;have eZ:aa<=40:=by rw[<-a1.1];exact aC.lin.n40
 have e0:(aa:Int)<=40:=oM;obtain⟨D,bt⟩:∃ D,P_ p.1.triangles=D:=⟨_,rfl⟩
 have aR:=A_ bt;have c8:=A_ (by rw[<-bt];exact aC.ne:D.length<=40);clear a1 cI d1 d2 aI cK cG aC bt;go_enter func107,ntmps107;go_upto_region 1 with fail;refine Code.new λce be=>?_;have bP:=A_ be.b;have aS:=A_ be.k;clear be;obtain⟨O,-⟩:=B_ aS (j:=0) rfl;obtain⟨Y,-⟩:=B_ aS (j:=1) rfl;simp at O Y;have ag:w.1.size<ce.1.size:=E_ aS;go_wp2_with fail;refine(A7q _ p.1 _ ce (b0.below bP) ba.t48).mono ?_;rintro _ a4 ⟨er,u,eH,cn,rfl,an,d0,bn⟩;rw[aR.o]at an;have bZ:=A_ an.1;have dY:u<=40:=by rw[<-an.1];exact c8
 have e5:(u:Int)<=40:=oM;have b5:=A_ an;have bN:=A_ (Below.next bP bn);have bc:=A_ (K_ aS bn);have bY:=A_ (show ∀ b∈cn,b<a4.1.size from an.lt);clear an d0 bn O Y ag;go_wp2_with fail;refine(A0l 0 a4 cD).mono ?_;rintro _ wa ⟨fo,d8,rfl,I,dZ,cv⟩;obtain⟨bT,cU,cg,eP,aj,cV,ch,bj,rfl,ej,_,_⟩:=TRat.agg I;have aO:=A_ (A3x (I.below (Below.box (.cells #[.bool (U_ 0).1.1,.slice bT cU cg,.slice aj cV ch] 35))));have b4:=A_ (show ∀ b∈d8,b<wa.1.size from I.lt);have aQ:=A_ cv;clear I dZ ej cv;go_wp2_with fail;refine(C1n wa.1.size u [.bool (U_ 0).1.1,.slice bT cU cg,.slice aj cV ch] _ (heap_alloc_new wa _) rfl (Dat.one aO) dY).mono ?_;rintro _ ao ⟨rfl,bA,aW⟩;rw[World.size_alloc]at bA;obtain⟨h,bz⟩:∃ y,wa.1.size+1=y:=⟨_,rfl⟩
 have bh:=A_ (show RR (λb=>b=h) ao h u u (A3j p us 0)from by rw[<-bz,show A3j p us 0=List.replicate u (U_ 0) by rw[A3j,aR.o,bZ.o]];refine⟨_,_,B0o bA,C0s (n:=u) (Dat.keep aO.o (λb K=>aW.block b (Dat.lt aO.o b K))),sI,λb K e=>?_,rfl⟩;have:=b4 b (B0m K);omega);have ai:=A_ (show Bw w ao from Below.next (Below.next (Below.next bN aQ) (Below.box _)) aW);have a7:=A_ (show Bw a4 ao from Below.next (Below.next aQ (Below.box _)) aW);have bX:=A_ (show a4.1.size<=h/\h<ao.1.size from⟨by have:=aQ.size;omega,bh.o.lt⟩);have aw:=A_ (by have:=bX.1;have:=E_ bc;omega:w.1.size<h);have aT:=A_ (K_ bc a7);have dv:=A_ (b5.below a7);have dn:=A_ (show h∉cn from λE=>by have:=bY _ E;have:=bX.1;omega);simp only[World.size_alloc,bz];clear bA aW aO b4 aQ bz b5 bY a7 bc bN;obtain⟨O,-⟩:=B_ aT (j:=0) rfl;simp at O;have ag:w.1.size<ao.1.size:=E_ aT;go_wp2_with fail;go_loopg [27] aa (λg s wr=>∃ v:Nat,v+g=aa/\s=.int .i64 v/\Hid (RR (λb=>b=h) wr h u u (A3j p us v))/\Hid (ao.grownBy wr (some h)));case atStart=>exact⟨0,oM,rfl,bh.o,B8k _ _⟩
 case round =>
  clear bh O ag;obtain⟨v,cL,rfl,aV,aP⟩:=hrel;have ap:=A_ (ai.grown aP ai.size (λk Z=>by injection Z with E;subst E;exact Nat.le_of_lt aw));have ay:=A_ (show wr.1[w.1.size]?=_ from(aP.block _ (E_ aT) (by intro e;injection e with e;have:=aw.o;omega)).trans aT.o);rcases Nat.lt_or_ge v aa with a2|a2
  ·have d4:(v:Int)<aa:=oM
   have e6:(0:Int)<=v:=oM;obtain⟨g,rfl⟩:∃ g,gk=g+1:=⟨gk - 1,oM⟩
   have d3:=A_ (by omega:v+1+g=aa);have a3:v<p.1.1.length:=by rw[b3.o];exact a2
   have c6:=A_ (ax.fan v a3);have bR:=A_ (ax.fd v a3);have bS:=A_ (ax.fl v a3);have dA:=A_ (by constructor<;>omega:I64 (v:Int));obtain⟨H,aY⟩:∃ H,A8x p.1.triangles v=H:=⟨_,rfl⟩
   have db:=A_ aY;rw[aY]at bR bS;have dr:=A_ (by rw[A3j,aR.o,aY]:A3j p us (v+1)=A4q p us D v H (A3j p us v) H.length);obtain⟨O,-⟩:=B_ ay (j:=0) rfl;obtain⟨Y,-⟩:=B_ ay (j:=1) rfl;simp at O Y;have ag:w.1.size<wr.1.size:=E_ ay;clear cL a2 a3 aY;go_wp2_with fail;refine(E1r _ p.1 _ (v:Int) wr (b0.below ap) ba.t48 dA c6).mono ?_;rintro _ ea ⟨es,ab,eI,dF,rfl,aG,cF,aD⟩;rw[db.o]at aG;have da:=A_ aG.1;have e1:ab<=48:=by rw[<-aG.1];exact bS
   have e2:(ab:Int)<=48:=oM;have dR:=aV.lt;have bd:=A_ (show h∉dF from λE=>by have:=(cF.2 _ E).1;omega);have dh:=A_ aG;have ep:=A_ (Below.next ap aD);have bU:=A_ (A8f aP aD);have cb:=A_ (aV.below aD);have b8:=A_ (K_ ay aD);clear aG cF aD O Y ag aV aP dR ay ap;go_wp2_with fail;go_loopg [35] ab (λg s w2=>∃ i:Nat,i+g=ab/\s=.int .i64 i/\Hid (RR (λb=>b=h) w2 h u u (A4q p us D v H (A3j p us v) i))/\Hid (ea.grownBy w2 (some h)));case atStart=>exact⟨0,oM,rfl,cb.o,B8k _ _⟩
   case round =>
    clear cb;obtain⟨i,cz,rfl,az,S⟩:=hrel;rename World=>w2;have aj:=A_ (bU.trans S);have bO:=A_ (ai.grown aj ai.size (λk Z=>by injection Z with E;subst E;exact Nat.le_of_lt aw));have b7:=A_ (show w2.1[w.1.size]?=_ from(S.block _ (E_ b8) (by intro e;injection e with e;have:=aw.o;omega)).trans b8.o);rcases Nat.lt_or_ge i ab with aZ|aZ
    ·have dU:(i:Int)<ab:=oM
     have eU:(0:Int)<=i:=oM;obtain⟨bj,rfl⟩:∃ g,gk=g+1:=⟨gk - 1,oM⟩
     have dT:=A_ (by omega:i+1+bj=ab);obtain⟨dH,fe,f,ey,fa,cT,ex,T,cS,fn,d9,rfl,dL,cw,bv,co,cp,cq,bm,aH,bE⟩:=TFan.elemB dh aZ;have bq:dH≠h:=λe=>bd.o (e ▸ cw);have au:=A_ (bR f (List.mem_of_getElem? bv));have c9:=A_ (show H.getD i D7s=f from A0e bv);have aL:=C0k co S bq;have ah:=C0k cp S bq;have a6:=C0k cq S bq;have dM:=D7j aL;have bJ:=A_ (bm.keep λb K=>S.block b (bm.lt b K) (by intro e;injection e with e;exact bd.o (e ▸ bE b K)));have b9:=A_ (show h∉d9 from λE=>bd.o (bE _ (by simp[E])));have cd:=A_ (aH.grow S b9);have e3:T<=49:=by have bl:=au.sn;have cs:=au.tl;rw[<-aH.1,bl];split<;>omega
     have e4:(T:Int)<=49:=oM;have dd:=A_ aH.1;have dp:=A_ (show A4q p us D v H (A3j p us v) (i+1)=B2d D v f.spokes (A6f p us f v) (A4q p us D v H (A3j p us v) i) T by rw[A4q,c9.o,aH.1]);clear cz aZ bv co cp cq bm aH bE cw dL;go_upto_region 9 with fail;refine Code.new λbi bf=>?_;have ac:=A_ bf.b;have ad:=A_ bf.k;clear aL ah a6 dM bf;have dQ:=az.lt;obtain⟨bx,br⟩:∃ y,w2.1.size=y:=⟨_,rfl⟩
     have bQ:=A_ (by omega:h<bx);rw[br]at ad;simp only[br];clear br dQ;have ak:=A_ (K_ b7 ac);have a8:=A_ (Below.next bO ac);obtain⟨O,-⟩:=B_ ak (j:=0) rfl;obtain⟨Y,-⟩:=B_ ak (j:=1) rfl;obtain⟨cj,-⟩:=B_ ak (j:=2) rfl;obtain⟨ck,-⟩:=B_ ak (j:=3) rfl;obtain⟨aL,-⟩:=B_ ad (j:=0) rfl;obtain⟨ah,-⟩:=B_ ad (j:=1) rfl;obtain⟨a6,-⟩:=B_ ad (j:=2) rfl;simp at O Y cj ck aL ah a6;have ag:w.1.size<bi.1.size:=E_ ak;have l1:bx<bi.1.size:=E_ ad;go_wp2_with fail;refine(C9c _ p _ xs ys B n d us ci _ f _ (v:Int) bi (dl.below a8) (dk.below a8) (bJ.below ac) de ba ax.sl au).mono ?_;rintro _ a5 ⟨ew,cW,eJ,dG,rfl,bB,cB,aE⟩;have di:=A_ bB;have dc:=A_ bB.1;have dq:=A_ (show h∉dG from λE=>by have:=cB _ E;have:=bQ.o;omega);have bV:=A_ (A8f (A8f S ac) aE);have cc:=A_ ((az.below ac).below aE);have dz:=A_ ((cd.below ac).below aE);have aU:=A_ (K_ ad aE);clear bB cB aE O Y cj ck aL ah a6 ag l1 az S ak ad ac a8 bJ cd b7 bO aj;obtain⟨ah,-⟩:=B_ aU (j:=1) rfl;simp at ah;have l1:bx<a5.1.size:=E_ aU;go_wp2_with fail;go_loopg [52] T (λg s w3=>∃ k:Nat,k+g=T/\s=.int .i64 k/\Hid (RR (λb=>b=h) w3 h u u (B2d D v f.spokes (A6f p us f v) (A4q p us D v H (A3j p us v) i) k))/\Hid (a5.grownBy w3 (some h)));case atStart=>exact⟨0,oM,rfl,cc.o,B8k _ _⟩
     case round =>
      clear cc ah l1;obtain⟨k,Z,rfl,al,X⟩:=hrel;rename World=>w3;have bW:=A_ ((bU.trans bV).trans X);have eo:=A_ (ai.grown bW ai.size (λk Z=>by injection Z with E;subst E;exact Nat.le_of_lt aw));have eT:=al.lt;rcases Nat.lt_or_ge k T with aF|aF
      ·have dX:(k:Int)<T:=oM
       have eX:(0:Int)<=k:=oM;obtain⟨bk,rfl⟩:∃ g,gk=g+1:=⟨gk - 1,oM⟩
       have cA:=A_ (by omega:k+1+bk=T);have dy:=A_ (dz.grow X b9);obtain⟨eD,fg,x,rfl,eS,bF,cx,dV⟩:=B9i dy aF;obtain⟨d5,cM⟩:=au.si x (List.mem_of_getElem? bF);obtain⟨j,rfl⟩:∃ j:Nat,x=(j:Int):=⟨x.toNat,oM⟩
       have am:j<u:=by rw[aR.o,bZ.o]at cM;omega
       have eW:(j:Int)<u:=oM;have eV:(0:Int)<=j:=oM;have dx:=A_ (by rw[A0e bF];simp:(f.spokes.getD k 0).toNat=j);have dW:k<cW:=by
        rw[<-dc.o];have bl:=au.sn;have cs:(A6f p us f v).length=f.triangles.length+(if f.closed then 0 else 1):=by unfold A6f A9c;rw[List.length_map,List.length_take,B7o,show (A1h p us f v).length=f.triangles.length by rw[A1h,List.length_map]];split<;>omega
        rw[cs,<-bl,dd.o];exact aF
       have eY:(k:Int)<cW:=oM;have dw:=A_ (di.grow X dq);obtain⟨eC,ff,y,eu,e8,eK,fl,ev,e9,eL,fm,dJ,eR,cN,cP,cQ,cR,ct⟩:=TRat.elemA dw dW;subst dJ;have bL:=A_ ct;have dB:=A_ (show(A6f p us f v).getD k A0h=y from A0e cN);have du:=A_ (dv.grow bW dn);obtain⟨eB,fd,e,dI,eQ,cy,cm,-,-,-,-⟩:=TEdge.elemA du am;subst dI;have c4:=A_ (show D.getD j A4o=e from A0e cy);obtain⟨z,ez,fb,eM,eA,fc,eN,eO,cO,cX,cY,cZ,-,-,-,cu,-,-⟩:=al.elem am;have bM:=A_ cu;have dD:=A_ (A0e (d:=A0h) cO);have et:=A_ (show w3.1[bx]?=_ from(X.block bx (E_ aU) (by intro e;injection e with e;have:=bQ.o;omega)).trans aU.o);have ca:=A_ (show B2d D v f.spokes (A6f p us f v) (A4q p us D v H (A3j p us v) i) (k+1)=(B2d D v f.spokes (A6f p us f v) (A4q p us D v H (A3j p us v) i) k).set j (bif decide (e.a=v)then A3t z y else A0k z y) by rw[B2d,dx.o,c4.o,dD.o,dB.o]);clear Z aF bF d5 cM dV ct cN cy cu cO;cases aX:decide (e.a=(v:Int))
       ·have bu:¬ (e.a=(v:Int)):=by simpa using aX
        clear aX;go_wp2_with fail;refine X_ sI ?_;dsimp only[List.dropLast,List.getLast,List.length];iterate 10 refine C_ _ ?_
        refine D_ (MP.agg (A0k z y)) ?_ ?_;·intro aM aN bH G J;obtain ⟨dN,dO⟩:=F_ G;simp at J;refine G_ ?_;exact H_ (A0x _ _ z y _ _ bH (bM.below G) (bL.below G))
        refine C_ _ ?_;intro aM aN wa G J (bs:Hid _);simp at J;have bG:=J.2.2.2.2.2.2.2.2.2.2.1;have W:=J.2.2.2.2.2.2.2.2.2.2.2;have ee:aM 11=.pointer (some ⟨h,j*3,none⟩):=by first|exact W.1.1|exact W.1|exact W
        obtain⟨⟨I,-⟩,af⟩:=bG;obtain⟨aq,aJ,aA,_,ar,aK,aB,_,bI,-,_,_⟩:=TRat.agg I;rw[bI]at I;have ae:=al.below G;obtain⟨_,_,_,_,_,_,_,_,-,ec,ed,ef,eg,eh,ei,-,-,dS⟩:=ae.elem am;have bg:=A_ (show RR (λb=>b=h) (((wa.setCell ⟨h,j*3,none⟩ (.bool (A0k z y).1.1)).setCell ⟨h,j*3+1,none⟩ (.slice aq aJ aA)).setCell ⟨h,j*3+2,none⟩ (.slice ar aK aB)) h u u (B2d D v f.spokes (A6f p us f v) (A4q p us D v H (A3j p us v) i) (k+1))from by rw[ca.o,decide_eq_false bu];exact ae.set am I (λb K e=>by have:=(af b K).1;omega));have a9:=A_ (show a5.grownBy (((wa.setCell ⟨h,j*3,none⟩ (.bool (A0k z y).1.1)).setCell ⟨h,j*3+1,none⟩ (.slice aq aJ aA)).setCell ⟨h,j*3+2,none⟩ (.slice ar aK aB)) (some h)from C4f (A8f X G));clear J bs I af G ae W cx cP cQ cR cm cX cY cZ;generalize aN 10=d7 at *;go_wp2_with fail;go_roundg bk;case measure=>omega
        case rel=>exact⟨k+1,cA,gN,bg,a9⟩
       have bu:e.a=(v:Int):=by simpa using aX
       clear aX;go_wp2_with fail;refine X_ sI ?_;dsimp only[List.dropLast,List.getLast,List.length];iterate 10 refine C_ _ ?_
       refine D_ (MP.agg (A3t z y)) ?_ ?_;·intro aM aN bH G J;obtain⟨dN,dO⟩:=F_ G;simp at J;refine G_ ?_;exact H_ (A5b _ _ z y _ _ bH (bM.below G) (bL.below G))
       refine C_ _ ?_;intro aM aN wa G J (bs:Hid _);simp at J;have bG:=J.2.2.2.2.2.2.2.2.2.2.1;have W:=J.2.2.2.2.2.2.2.2.2.2.2;have ee:aM 11=.pointer (some ⟨h,j*3,none⟩):=by first|exact W.1.1|exact W.1|exact W
       obtain⟨⟨I,-⟩,af⟩:=bG;obtain⟨aq,aJ,aA,_,ar,aK,aB,_,bI,-,_,_⟩:=TRat.agg I;rw[bI]at I;have ae:=al.below G;obtain⟨_,_,_,_,_,_,_,_,-,ec,ed,ef,eg,eh,ei,-,-,dS⟩:=ae.elem am;have bg:=A_ (show RR (λb=>b=h) (((wa.setCell ⟨h,j*3,none⟩ (.bool (A3t z y).1.1)).setCell ⟨h,j*3+1,none⟩ (.slice aq aJ aA)).setCell ⟨h,j*3+2,none⟩ (.slice ar aK aB)) h u u (B2d D v f.spokes (A6f p us f v) (A4q p us D v H (A3j p us v) i) (k+1))from by rw[ca.o,decide_eq_true bu];exact ae.set am I (λb K e=>by have:=(af b K).1;omega));have a9:=A_ (show a5.grownBy (((wa.setCell ⟨h,j*3,none⟩ (.bool (A3t z y).1.1)).setCell ⟨h,j*3+1,none⟩ (.slice aq aJ aA)).setCell ⟨h,j*3+2,none⟩ (.slice ar aK aB)) (some h)from C4f (A8f X G));clear J bs I af G ae W cx cP cQ cR cm cX cY cZ;generalize aN 10=d7 at *;go_wp2_with fail;go_roundg bk;case measure=>omega
       case rel=>exact⟨k+1,cA,gN,bg,a9⟩
      obtain rfl:k=T:=oM;have dX:¬ ((k:Int)<k):=oM;have ds:=A_ (by rw[dp.o];exact al:RR (λb=>b=h) w3 h u u (A4q p us D v H (A3j p us v) (i+1)));have c7:=A_ (bV.trans X);clear Z aF al X;go_wp2_with fail;go_roundg bj;case measure=>omega
      case rel=>exact⟨i+1,dT,gN,ds,c7⟩
    obtain rfl:i=ab:=oM;have dU:¬ ((i:Int)<i):=oM;have dt:=A_ (by rw[dr.o,da.o];exact az:RR (λb=>b=h) w2 h u u (A3j p us (v+1)));clear cz aZ az;go_wp2_with fail;go_roundg g;case measure=>omega
    case rel=>exact⟨v+1,d3,gN,dt,aj⟩
  obtain rfl:v=aa:=oM;have d4:¬ ((v:Int)<v):=oM;have c5:=A_ (by rw[A4i,b3.o]:A3j p us v=A4i p us);obtain⟨cf,bD,-⟩:=aV.sl;rw[c5.o]at bD;have b6:=A_ bD;have bK:=A_ (List.all_eq_true.1 ax.ok);have c2:=A_ (show(A4i p us).any A2e=false by
   rw[List.any_eq_false];intro r af E;have V:=ratOkB_iff.1 (bK r af);unfold A2e at E;cases cH:r.2 with
   |nil=>have:=V.den0;rw[cH]at this;simp[val]at this
   |cons _ _=>rw[cH]at E;cases E)
  clear cL a2 bD;go_wp2_with fail;refine(A2l _ u u (A4i p us) cf wr b6.o oM (λx aI=>B1b (bK.o x aI))).mono ?_;rintro _ eb ⟨C,d6,cC,bC,rfl,cJ,cE,bo⟩;have df:=A_ cJ;have c0:=A_ (Below.next ap bo);have dm:=A_ (show ∀ b∈bC,w.1.size<=b from λb K=>by have:=(cE.2 b K).1;have:=ap.size;omega);have dj:=A_ (b6.below bo);clear cJ cE bo;go_wp2_with fail;refine(B4r _ u u (A4i p us) cf eb dj.o oM c2.o).mono ?_;rintro _ fp ⟨rfl,bp⟩;have dg:=A_ (df.below bp);have c1:=A_ (Below.next c0 bp);clear bp;go_wp2;refine bodyPost_ret (v:=.tuple #[.slice C d6 cC,.bool true]) (by simp[results,results107,go_sem, *]) rfl ?_;exact⟨_,_,_,_,rfl,dg,dm,c1⟩
end Go.Proofs.YtbhemnidcleaiaaGreat.X
