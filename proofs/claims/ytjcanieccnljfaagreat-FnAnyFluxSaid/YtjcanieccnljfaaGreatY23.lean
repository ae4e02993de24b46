/- A part of the proof. -/
import Derived.Test.YtjcanieccnljfaaGreatY22
import Derived.Laws.Cover3
set_option linter.constructorNameAsVariable false
set_option maxHeartbeats 16000000
set_option maxRecDepth 10000
open Go renaming Addr→AJ,World→AD,heap_alloc_new→DB,maxLen→BS
open Go.Value renaming bool→J,int→N,slice→S
open Go.XB.Below renaming box→BP,next→BH
open List renaming getElem?_set_ne→JU,getElem?_set_self→QB,length_append→GQ
open Nat renaming le_refl→CE,lt_or_ge→CG
open Option renaming none→I,some→B
namespace Go.Proofs.YtjcanieccnljfaaGreat.X
open Go.RowKit Go.XB Go.XN Proofs.Tryz
section
def E3y (a b c:TPoint) (i j:Nat):TRat:=A0d (A6c a b c) (A1k ((C5e a b c).getD i pt0) ((C5e a b c).getD j pt0))
def A5e (a b c:TPoint) (i:Nat):Nat->List TRat
 |0=>[]
 |j+1=>A5e a b c i j++[E3y a b c i j]
def B0v (a b c:TPoint):Nat->List (List TRat)
 |0=>[]
 |i+1=>B0v a b c i++[A5e a b c i 3]
def C1j (a b c:TPoint):List (List TRat):=B0v a b c 3
theorem B5s (a b c:TPoint) (i:Nat):∀ j,(A5e a b c i j).length=j
 |0=>rfl
 |j+1=>by rw[A5e,GQ,B5s a b c i j];rfl
theorem B2a (a b c:TPoint):∀ k,∀ r∈B0v a b c k,r.length=3
 |0,r,h=>by simp[B0v]at h
 |k+1,r,h=>by
  rw[B0v]at h
  rcases List.mem_append.1 h with h|h
  ·exact B2a a b c k r h
  simp at h;rw[h];exact B5s a b c k 3
theorem B1z (a b c:TPoint):∀ k,(B0v a b c k).length=k
 |0=>rfl
 |k+1=>by rw[B0v,GQ,B1z a b c k];rfl
theorem Pend.rr {w wb wr:AD} {gB i cap:Nat} {ps:List TRat} (h:Pend w wb 39 wr gB i cap ps):RR (λb=>b<w.1.size\/b=gB) wr gB i cap ps:=by
 obtain⟨cells,fss,E,G,H,O,T,W,X,Y⟩:=h
 exact⟨cells,fss,B0o E,G,H,λb u D=>by
  rcases D with D|rfl;·have:=(O.2 b u).1;omega
  exact T u,.inr rfl⟩
attribute [local go_sem] L_ Go.XB.opAt N_ M_ Region.wanted yielded
attribute [local simp] N_ M_ MP.eq MP.agg MP.sl MP.slbox A0r
theorem D4t (w:AD) (a:Option AJ) (l c:Nat):(binOp .eql 23 (S a l c) (S I 0 0)).run prog w=.ok (J a.isNone) w:=by
 simp[binOp,run_equal_slice_nil w 23 _ a l c underlying23]
theorem D2h (w:AD) (a:Option AJ) (l c:Nat):(binOp .eql 149 (S a l c) (S I 0 0)).run prog w=.ok (J a.isNone) w:=by
 simp[binOp,run_equal_slice_nil w 149 _ a l c underlying149]
theorem D2s (w:AD) (a:Option AJ) (l c:Nat):(binOp .eql 27 (S a l c) (S I 0 0)).run prog w=.ok (J a.isNone) w:=by
 simp[binOp,run_equal_slice_nil w 27 _ a l c underlying27]
attribute [local go_sem] D4t
theorem B6t (A:Option AJ) (c:Nat) (b b1 h:TPoint) (bs:List Nat) (w:AD) (bi:Sl w A 3 c [b,b1,h] bs) (a9:GradOk b b1 h) (a3:∀ r∈C1j b b1 h,r.any A2e=false) :
  Calls prog 121 #[S A 3 c] w (E3s w (C1j b b1 h) 3):=by
 have aZ:=A_ bi;have bF:=A_ a9;have bz:=A_ a3;obtain⟨cn,cb,cj,ck,cm⟩:=info_parts E2x;obtain⟨co,b3,b5,b6,b7⟩:=info_parts B2r;clear bi a9 a3;go_enter func121,ntmps121;go_wp2_with fail;refine(B1l A c b b1 h bs _ aZ bF).mono ?_;rintro _ aa ⟨cI,cp,c2,c8,rfl,ak,cg,a4⟩;obtain rfl:3=cp:=by rw[<-ak.1];exact(B8g b b1 h 3).symm
 obtain⟨b0,c9,_,rfl,_,_⟩:=ak.2.2.2.2 dE;have aX:=A_ ak;have aQ:=A_ a4;have dg:b0<aa.1.size:=by obtain⟨cZ,dB,dL,_,_,aJ,df,_⟩:=Sl.getAt ak (by decide:0<3);injection aJ with aJ;injection aJ with af _ _;omega
 clear ak cg a4;go_wp2_with fail;have a1:=A_ (MSt.start (n:=3) aQ);go_loopg [4,17] 3 (λg s4 s wr=>∃ (i gB cap:Nat) (gs:List (Nat×Nat)),i+g=3/\s=N .i64 i/\s4=S (B ⟨gB,0,I⟩) i cap/\Hid (MSt w wr gB i cap 3 gs (B0v b b1 h i))/\Hid (Bw aa wr)/\Hid (aa.1.size<=gB));case atStart=>exact⟨0,aa.1.size,0,[],oS,rfl,rfl,a1.o,BP _,CE _⟩
 case round =>
  clear a1;obtain⟨i,gB,cap,gs,bd,rfl,rfl,Y,ad,aV⟩:=hrel;rename AD=>w3;rcases CG i 3 with ah|ah
  ·have di:(i:Int)<3:=oS
   have dj:(0:Int)<=i:=oS;obtain⟨g,rfl⟩:∃ g,gk=g+1:=⟨gk - 1,oS⟩
   have cc:=A_ (by omega:i+1+g=3);have dh:i+1<=3:=ah;have bn:=A_ (by unfold BS;omega:i+1<=BS);have bo:=A_ (by omega:(i+1)*24<=140737488355328);obtain⟨cX,dA,x,am,aA,aq,dq,an,aB,ar,dr,ao,aC,au,ds,ap,aD,aw,dt,aH,dd,bj,cJ,cK,cL,cM,cN,cO,ba⟩:=TPoint.elemA (aX.below ad) ah;injection aH with aH;injection aH with af ax _;subst af;subst ax;have bG:=A_ ba;have br:=A_ (show(C5e b b1 h).getD i pt0=x from A0e bj);clear bd ah bj ba;go_wp2_with fail;obtain⟨D,H⟩:∃ D,D=w3.alloc (.cells #[J x.x.1.1,S am aA aq,S an aB ar,J x.y.1.1,S ao aC au,S ap aD aw] 41):=⟨_,rfl⟩
   have aY:=A_ (by rw[H];exact BP _:Bw w3 D);have Z:w3.1.size<D.1.size:=by rw[H];simp
   have aL:D.cell? ⟨w3.1.size,0,I⟩=B (J x.x.1.1):=by rw[H];go_simp
   have p1:D.cell? ⟨w3.1.size,1,I⟩=B (S am aA aq):=by rw[H];go_simp
   have p2:D.cell? ⟨w3.1.size,2,I⟩=B (S an aB ar):=by rw[H];go_simp
   have aM:D.cell? ⟨w3.1.size,3,I⟩=B (J x.y.1.1):=by rw[H];go_simp
   have aN:D.cell? ⟨w3.1.size,4,I⟩=B (S ao aC au):=by rw[H];go_simp
   have aO:D.cell? ⟨w3.1.size,5,I⟩=B (S ap aD aw):=by rw[H];go_simp
   rw[<-H];have ci:(w3.alloc (.cells #[J x.x.1.1,S am aA aq,S an aB ar,J x.y.1.1,S ao aC au,S ap aD aw] 41)).1.size=D.1.size:=by rw[H]
   have R0:=A_ (Pend.start (α:=TRat) (e:=39) aY);have bM:=A_ (by rw[H];simp:w3.1.size+1=D.1.size);clear H ci;go_loopg [7,24] 3 (λg2 s7 s w4=>∃ (j W T:Nat),j+g2=3/\s=N .i64 j/\s7=S (B ⟨W,0,I⟩) j T/\Hid (Pend w3 D 39 w4 W j T (A5e b b1 h i j)));case atStart=>exact⟨0,D.1.size,0,oS,rfl,by rw[bM.o],R0.o⟩
   case round =>
    clear R0;obtain⟨j,W,T,be,rfl,rfl,E⟩:=hrel;rcases CG j 3 with ai|ai
    ·have dl:(j:Int)<3:=oS
     have dm:(0:Int)<=j:=oS;obtain⟨g2,rfl⟩:∃ g2,gk=g2+1:=⟨gk - 1,oS⟩
     have cd:=A_ (by omega:j+1+g2=3);have dk:j+1<=3:=ai;have bp:=A_ (by unfold BS;omega:j+1<=BS);have bq:=A_ (by omega:(j+1)*56<=140737488355328);have aS:=A_ E.bw;have aR:=A_ (BH ad aS);have bA:=A_ (BH aQ aR);have dn:w3.1.size<wr.1.size:=by have:=E.bb.size;omega
     have r0:wr.cell? ⟨w3.1.size,0,I⟩=B (J x.x.1.1):=(E.bb.cell (p:=⟨w3.1.size,0,I⟩) Z).trans aL;have dD:wr.cell? ⟨w3.1.size,1,I⟩=B (S am aA aq):=(E.bb.cell (p:=⟨w3.1.size,1,I⟩) Z).trans p1;have dF:wr.cell? ⟨w3.1.size,2,I⟩=B (S an aB ar):=(E.bb.cell (p:=⟨w3.1.size,2,I⟩) Z).trans p2;have dG:wr.cell? ⟨w3.1.size,3,I⟩=B (J x.y.1.1):=(E.bb.cell (p:=⟨w3.1.size,3,I⟩) Z).trans aM;have dH:wr.cell? ⟨w3.1.size,4,I⟩=B (S ao aC au):=(E.bb.cell (p:=⟨w3.1.size,4,I⟩) Z).trans aN;have dI:wr.cell? ⟨w3.1.size,5,I⟩=B (S ap aD aw):=(E.bb.cell (p:=⟨w3.1.size,5,I⟩) Z).trans aO;obtain⟨cY,ok,y,bN,ct,bU,du,bO,cu,bV,dv,bP,cv,bW,dw,bQ,cw,bX,dx,aI,de,bk,cP,cQ,cR,cU,cV,cW,bc⟩:=TPoint.elemA (aX.below aR) ai;injection aI with aI;injection aI with af ax _;subst af;subst ax;have bH:=A_ bc;have bt:=A_ (show(C5e b b1 h).getD j pt0=y from A0e bk);have bR:=A_ (by rw[A5e,E3y,br.o,bt.o]:A5e b b1 h i (j+1)=A5e b b1 h i j++[A0d (A6c b b1 h) (A1k x y)]);clear be ai bk bc aL p1 p2 aM aN aO;go_wp2_with fail;have al:=A_ (show Bw wr (wr.alloc (.cells #[J y.x.1.1,S bN ct bU,S bO cu bV,J y.y.1.1,S bP cv bW,S bQ cw bX] 41))from Below.go);refine W_ 8 kR kR kR kR kR ?_;simp only[List.take_succ_cons,List.take_zero,List.drop_succ_cons,List.drop_zero];iterate 2 refine C_ _ ?_
     refine D_ (MP.agg (A6c b b1 h)) ?_ ?_;·intro ab ac O G u;obtain⟨a6,a8⟩:=F_ G;simp at u;refine G_ ?_;exact H_ (B3h A c b b1 h bs O ((aZ.below bA).below (BH al G)))
     iterate 2 refine C_ _ ?_
     refine D_ (MP.agg (A1k x y)) ?_ ?_;·intro ab ac O G u;obtain⟨a6,a8⟩:=F_ G;simp at u;refine G_ ?_;exact H_ (A8z _ _ x y _ _ O ((bG.below aS).below (BH al G)) (bH.below (BH al G)))
     refine D_ (MP.agg (A0d (A6c b b1 h) (A1k x y))) ?_ ?_;·intro ab ac O G u;obtain⟨a6,a8⟩:=F_ G;simp at u;refine G_ ?_;obtain⟨cB,cD,_⟩:=u;exact H_ (A0n _ _ (A6c b b1 h) (A1k x y) _ _ O cB.1 cD)
     refine A1d (λbm=>MP.slbox (bm 6).cells 39) (by intro y bm a2;simp[N_,M_]at a2;simp[a2]) ?_ ?_;·intro ab ac O G u;simp at u;obtain⟨cG,dy,c0,c4,cH,dz,c1,c5,bY,_,_,_⟩:=TRat.agg u.1;refine⟨gD,S (B ⟨O.1.size,0,I⟩) 1 1,O.alloc (.cells (ab 6).cells 39),?_,BP _,[O.1.size],⟨O.1.size,rfl,rfl,DB O _⟩,sI⟩;rw[bY];go_simp
     intro ab ac wa G u (b9:Hid _);simp at u;have bl:=u.1;have cx:=u.2.2.2.2.2.2.1;have cy:=u.2.2.2.2.2.2.2;obtain⟨⟨ay,a7⟩,az⟩:=cx;obtain⟨bu,cq,bS,da,bv,cs,bT,db,bZ,cE,m1,m2⟩:=TRat.agg ay;obtain⟨⟨b4,c7,cF,aK⟩,ch⟩:=cy;rw[bZ]at aK ay;have aP:=A_ (A3x ay);have aT:=A_ a7;have bE:=A_ (show Bw wr wa from BH al G);have aU:=A_ (show ∀ aG∈ac 6,wr.1.size<=aG from λaG b8=>by have:=(az aG b8).1;(try simp at this);omega);have bI:=A_ aK;have c6:ab 0=S (B ⟨W,0,I⟩) j T:=bl.1.1;generalize ac 6=cz at *;clear u b9 ay a7 az cE m1 m2 aK ch cF bl G;go_wp2_with (at_builtin;refine A1v rfl _ _ 27 rfl 39 co (.agg #[J false,S I 0 0,S I 0 0]) 56 underlying27 b3 b5 b6 b7 rfl E bE gD ⟨b4,0,I⟩ 1 [J (A0d (A6c b b1 h) (A1k x y)).1.1,S bu cq bS,S bv cs bT] (A0d (A6c b b1 h) (A1k x y)) cz gD (A0a bI) aP aT aU bp bq ?_;intro g' ae aE bg ag aj);have aF:=A_ (by rw[bR.o];exact bg:Pend w3 D 39 aE g' (j+1) ae (A5e b b1 h i (j+1)));clear bg ag aj aP aT E aU;go_wp2_with fail;go_roundg g2;case measure=>omega
     case rel=>exact⟨j+1,g',ae,cd,gN,rfl,aF⟩
    obtain rfl:j=3:=oS;have aW:=A_ (Pend.rr E);have ca:=E.lt;have dp:=aY.size;have X:=A_ E.bw;have bL:=A_ (by have:=Y.bl.size;have:=X.size;simp;omega:w.1.size<=(wr.alloc (.cells #[S (B ⟨W,0,I⟩) 3 T] 27)).1.size);clear be ai aL p1 p2 aM aN aO;go_wp2_with (at_builtin;refine A1m rfl _ _ 149 rfl w.1.size 27 cn (S I 0 0) 1 24 underlying149 cb cj ck cm rfl dE gB i cap (gs.map λg=>.slice (B ⟨g.1,0,I⟩) 3 g.2) gD (I_ Y.ou (BH X (BP _))) ⟨wr.1.size,0,I⟩ 1 1 [S (B ⟨W,0,I⟩) 3 T] gD rfl (A0a (DB wr _)) (by simp[Value.oneCell']) bn.o bo.o bL.o ?_;intro g' ae aE bf ag aj);have aF:=A_ (show MSt w aE g' (i+1) ae 3 (gs++[(W,T)]) (B0v b b1 h (i+1))from Y.o.push (BH X.o (BP _)) (aW.o.below (BP _)) oS bf ag aj);have bB:=A_ (show Bw aa aE from((BH ad (BH X (BP _)))).grown ag (by have:=ad.size;have:=X.size;simp;omega) (λk2 ce=>by injection ce with e;subst e;exact aV));have bJ:=A_ (show aa.1.size<=g' by have af:=aV.o;have ax:=ad.size;have dc:=X.size;rcases aj with e|e;omega;simp at e;omega);clear bf ag aj Y aW ca;go_wp2_with fail;go_roundg g;case measure=>omega
    case rel=>exact⟨i+1,g',ae,_,cc,gN,rfl,aF,bB,bJ⟩
  obtain rfl:i=3:=oS;obtain⟨cA,bh,_⟩:=Y.sl;have bK:=A_ bh;clear bd ah bh;go_wp2_with fail;refine(C8x _ 3 cap (C1j b b1 h) cA w3 bK.o (λr az=>by rw[B2a b b1 h 3 r az];decide) bz.o).mono ?_;rintro _ dJ ⟨rfl,a5⟩;have bD:=A_ a5;clear a5;go_wp2;go_ret;exact⟨_,_,_,rfl,Y.below bD⟩
end
def D5i (w:AD) (M:List (List TRat)) (e:Ending) (w':AD):Prop:=∃ A n c bs,e=.returned (S A n c)/\Sl w' A n c M bs/\(∀ b∈bs,w.1.size<=b)/\Bw w w'
def E3h (m:TMesh) (t:TTri):List (List TRat):=E9s (Z_ m.1 t.a) (Z_ m.1 t.b) (Z_ m.1 t.c)
def B6b (m:TMesh) (t:TTri):List (List TRat):=C1j (Z_ m.1 t.a) (Z_ m.1 t.b) (Z_ m.1 t.c)
def B2l (d:TRat) (r:List TRat):Nat->List TRat
 |0=>r
 |j+1=>(B2l d r j).set j (A0d d (r.getD j A0h))
def A9r (d:TRat) (M:List (List TRat)):Nat->List (List TRat)
 |0=>M
 |i+1=>(A9r d M i).set i (B2l d (M.getD i []) 3)
theorem C9x (d:TRat) (r:List TRat):∀ j,(B2l d r j).length=r.length
 |0=>rfl
 |j+1=>by rw[B2l,List.length_set,C9x d r j]
theorem D0n (d:TRat) (r:List TRat):∀ j k,j<=k->(B2l d r j)[k]?=r[k]?
 |0,_,_=>rfl
 |j+1,k,h=>by rw[B2l,JU oS,D0n d r j k oS]
theorem B6k (d:TRat) (M:List (List TRat)):∀ i,(A9r d M i).length=M.length
 |0=>rfl
 |i+1=>by rw[A9r,List.length_set,B6k d M i]
theorem D0f (d:TRat) (M:List (List TRat)):∀ i k,i<=k->(A9r d M i)[k]?=M[k]?
 |0,_,_=>rfl
 |i+1,k,h=>by rw[A9r,JU oS,D0f d M i k oS]
structure TriOk (m:TMesh) (t:TTri):Prop where
 it:A5v m.1.length t
 pr:A7m [Z_ m.1 t.a,Z_ m.1 t.b,Z_ m.1 t.c]=true
 ar:J_ (A6c (Z_ m.1 t.a) (Z_ m.1 t.b) (Z_ m.1 t.c))=true
attribute [local go_sem] L_ Go.XB.opAt N_ M_ Region.wanted yielded
attribute [local simp] N_ M_ MP.eq MP.agg MP.aggS MP.sl MP.slbox A0r
theorem B9j:A4f 120:=λa w=>kR
theorem C1g (k bx:Nat) (ag:Option AJ) (aw ak:Nat) (ah:Option AJ) (n1 al:Nat) (ai:Option AJ) (n2 am:Nat) (aj:Option AJ) (ax c3:Nat) (p:TProblem) (s:List Nat) (t:TTri) (w:AD) (G:Agg w (.agg #[S ag aw ak,S ah n1 al,S ai n2 am,S aj ax c3]) p s)
  (ce:w.cell? ⟨bx,0,I⟩=B (S ag aw ak)) (q1:w.cell? ⟨bx,1,I⟩=B (S ah n1 al)) (q2:w.cell? ⟨bx,2,I⟩=B (S ai n2 am)) (cg:w.cell? ⟨bx,3,I⟩=B (S aj ax c3)) (ae:bx<w.1.size)
  (a3:p.1.triangles[k]?=B t) (a8:TriOk p.1 t) (aX:GradOk (Z_ p.1.1 t.a) (Z_ p.1.1 t.b) (Z_ p.1.1 t.c)) (aS:p.1.1.all A1b=true) (aO:p.1.1.length<=40) (aP:p.1.triangles.length<=48) (aV:∀ r∈B6b p.1 t,r.any A2e=false)
  (aW:p.2.length=3) (a4:0<=t.4/\t.4<3) :
  Calls prog 120 #[N .i64 k,.pointer (B ⟨bx,0,I⟩)] w (D5i w (A9r (p.2.getD t.4.toNat A0h) (B6b p.1 t) 3)):=by
 have bD:=A_ G;have aC:=A_ a3;have bB:=A_ a8;have bn:=A_ aX;have bi:=A_ aS;have bf:=A_ aO;have bg:=A_ aP;have bk:=A_ aV;have bm:=A_ aW;have bv:=A_ a4;obtain⟨cm,cR,cu,cZ,cn,m1,cv,c0,co,m2,cw,c1,cp,cU,cx,c2,e,_,a6,a7,b5,b6⟩:=TProblem.agg G;injection e with e;simp at e;obtain⟨⟨rfl,rfl,rfl⟩,⟨rfl,rfl,rfl⟩,⟨rfl,rfl,rfl⟩,rfl,rfl,rfl⟩:=e;have bo:=A_ (TMesh.mkAgg (x:=p.1) a6 a7);obtain⟨b,an⟩:∃ b,p.2.getD t.4.toNat A0h=b:=⟨_,rfl⟩
 have bl:=A_ an;obtain⟨M,X⟩:∃ M,B6b p.1 t=M:=⟨_,rfl⟩
 have bp:=A_ X;rw[an,X];have bu:=A_ (by rw[<-X];exact B2a _ _ _ 3:∀ r∈M,r.length=3);have aD:=A_ (by rw[<-X];exact B1z _ _ _ 3:M.length=3);clear G a3 a8 aX aS aO aP aV aW a4 a6 a7 b5 b6 an X;go_enter func120,ntmps120;go_wp2_with fail;refine(A6s _ p.1 _ k t w bo aC bB.it bi bf bg).mono ?_;rintro _ W ⟨bc,cb,bJ,bQ,rfl,ar,b4,aT⟩;obtain rfl:3=cb:=ar.1;have bz:=A_ ar;have aa:=A_ aT;clear ar b4 aT;go_wp2_with fail;refine(B6t bc bJ (Z_ p.1.1 t.a) (Z_ p.1.1 t.b) (Z_ p.1.1 t.c) bQ W bz.o bn.o (by rw[show C1j _ _ _=B6b p.1 t from rfl];exact bk)).mono ?_;rw[show C1j _ _ _=B6b p.1 t from rfl,bp.o];rintro _ ck ⟨o,cap,gs,rfl,au⟩;have aE:=A_ au;have aA:=A_ (BH aa au.bl);obtain⟨bT,bX⟩:=F_ aA;have bS:bx<ck.1.size:=by have:=aA.size;omega
 clear au;go_wp2_with fail;go_loopg [15] 3 (λg s wr=>∃ i:Nat,i+g=3/\s=N .i64 i/\Hid (MSt W wr o 3 cap 3 gs (A9r b M i)));case atStart=>exact⟨0,oS,rfl,aE.o⟩
 case round =>
  clear aE bT bX bS;obtain⟨i,a1,rfl,ab⟩:=hrel;rename AD=>w3;rcases CG i 3 with T|T
  ·have cI:(i:Int)<3:=oS
   have cJ:(0:Int)<=i:=oS;obtain⟨g,rfl⟩:∃ g,gk=g+1:=⟨gk - 1,oS⟩
   have bZ:=A_ (by omega:i+1+g=3);have cH:i+1<=3:=T;obtain⟨gr,cr,r0,aZ,ao,cF,cO,_,_⟩:=ab.row T;have ap:M[i]?=B r0:=by rw[<-D0f b M i i (CE _)];exact ao
   have aB:=A_ aZ;have bt:=A_ (show M.getD i []=r0 from A0e ap);have cQ:=bu r0 (List.mem_of_getElem? ap);have aF:=A_ (show MSt W w3 o 3 cap 3 gs ((A9r b M i).set i (B2l b r0 0)) by
    rw[show(A9r b M i).set i (B2l b r0 0)=A9r b M i from ?_];exact ab
    exact List.ext_getElem? λk=>by
     by_cases ac:i=k;·subst ac;rw[QB (by rw[B6k,aD.o];exact T)];exact ao.symm
     rw[JU ac])
   clear a1 T aZ ao ap;go_wp2_with fail;go_loopg [21] 3 (λg2 s wr=>∃ j:Nat,j+g2=3/\s=N .i64 j/\Hid (MSt W wr o 3 cap 3 gs ((A9r b M i).set i (B2l b r0 j))));case atStart=>exact⟨0,oS,rfl,aF.o⟩
   case round =>
    clear aF;obtain⟨j,a2,rfl,D⟩:=hrel;have H:=A_ (BH aa D.bl);have cE:bx<wr.1.size:=by have:=H.size;omega
    have cV:wr.cell? ⟨bx,0,I⟩=B (S ag aw ak):=(H.cell (p:=⟨bx,0,I⟩) ae).trans ce;have cW:wr.cell? ⟨bx,1,I⟩=B (S ah n1 al):=(H.cell (p:=⟨bx,1,I⟩) ae).trans q1;have cX:wr.cell? ⟨bx,2,I⟩=B (S ai n2 am):=(H.cell (p:=⟨bx,2,I⟩) ae).trans q2;have cY:wr.cell? ⟨bx,3,I⟩=B (S aj ax c3):=(H.cell (p:=⟨bx,3,I⟩) ae).trans cg;rcases CG j 3 with Z|Z
    ·have cL:(j:Int)<3:=oS
     have cM:(0:Int)<=j:=oS;obtain⟨g2,rfl⟩:∃ g2,gk=g2+1:=⟨gk - 1,oS⟩
     have b0:=A_ (by omega:j+1+g2=3);have cK:j+1<=3:=Z;obtain⟨bR,bM,ci,aY,af,_,cP,aQ,cN⟩:=D.o.row (by omega:i<3);obtain⟨rfl,rfl⟩:gr=bR/\cr=bM:=by have:=aB.o;rw[aY]at this;cases this;exact⟨rfl,rfl⟩
     obtain rfl:B2l b r0 j=ci:=by rw[QB (by rw[B6k,aD.o];omega)]at af;exact Option.some.inj af
     obtain⟨x,bd,b9,bN,be,ca,bO,cD,G,aG,aH,aI,aJ,aK,aL,aR,_,O⟩:=aQ.elem Z;rw[D0n b r0 j j (CE _)]at G;have bE:=A_ (by rw[B2l,A0e G]:B2l b r0 (j+1)=(B2l b r0 j).set j (A0d b x));have bh:=A_ aR;have br:=A_ af;clear a2 Z G aR af aY aQ;go_wp2_with fail;refine X_ sI ?_;dsimp only[List.dropLast,List.getLast,List.length];iterate 4 refine C_ _ ?_
     refine D_ (MP.aggS b) ?_ ?_;·intro ba az ay h u;obtain⟨bU,bY⟩:=F_ h;simp at u;refine G_ ?_;have C:=B1h _ p _ k t ay (bD.below (BH H h)) aC bm bv;rw[bl.o]at C;exact A7t C
     iterate 4 refine C_ _ ?_
     refine D_ (MP.agg (A0d b x)) ?_ ?_;·intro ba az ay h u;obtain⟨bU,bY⟩:=F_ h;simp at u;refine G_ ?_;obtain⟨⟨_,c4,cj⟩,_⟩:=u;exact H_ (A0n _ _ b x _ _ ay cj (bh.below h))
     refine C_ _ ?_;intro ba az wa h u (bV:Hid _);simp at u;have ch:=u.2.2.2.2.2.2.2.2.2.1;have a9:=u.2.2.2.2.2.2.2.2.2.2;have cy:=a9.1.1;obtain⟨⟨ad,bW⟩,aq⟩:=ch;obtain⟨bH,cc,bK,v1,bI,cd,bL,v2,bP,b8,_,_⟩:=TRat.agg ad;rw[bP]at ad;have b7:=h.size
     obtain⟨cq,cs,ct,cz,cA,cB⟩:wa.cell? ⟨gr,j*3,I⟩=B (J x.1.1)/\wa.cell? ⟨gr,j*3+1,I⟩=B (S bd b9 bN)/\wa.cell? ⟨gr,j*3+2,I⟩=B (S be ca bO)/\wa.frozen? ⟨gr,j*3,I⟩=false/\wa.frozen? ⟨gr,j*3+1,I⟩=false/\wa.frozen? ⟨gr,j*3+2,I⟩=false :=
      ⟨(h.cell (p:=⟨gr,_,I⟩) O).trans aG,(h.cell (p:=⟨gr,_,I⟩) O).trans aH,(h.cell (p:=⟨gr,_,I⟩) O).trans aI,(h.frozen (p:=⟨gr,_,I⟩) O).trans aJ,(h.frozen (p:=⟨gr,_,I⟩) O).trans aK,(h.frozen (p:=⟨gr,_,I⟩) O).trans aL⟩
     have cG:gr<wa.1.size:=oS;have bG:=A_ (show MSt W (((wa.setCell ⟨gr,j*3,I⟩ (J (A0d b x).1.1)).setCell ⟨gr,j*3+1,I⟩ (S bH cc bK)).setCell ⟨gr,j*3+2,I⟩ (S bI cd bL)) o 3 cap 3 gs ((A9r b M i).set i (B2l b r0 (j+1))) by
      have ac:=(D.o.below h).set aB.o br.o (j:=j) oS ad (λE Y b3=>by
       have aM:=(aq E Y).1;have aN:=D.ltAll E b3;omega) (λE Y=>by
       have aM:=(aq E Y).1;have aN:=D.bl.size;omega)
      rwa [List.set_set,<-bE.o]at ac)
     generalize az 9=c5 at *;clear u bV a9 ad bW aq b8 h D aG aH aI aJ aK aL b7;go_wp2_with fail;go_roundg g2;case measure=>omega
     case rel=>exact⟨j+1,b0,gN,bG⟩
    obtain rfl:j=3:=oS;have bF:=A_ (by rw[A9r,bt.o];exact D:MSt W wr o 3 cap 3 gs (A9r b M (i+1)));clear a2 Z D;go_wp2_with fail;go_roundg g;case measure=>omega
    case rel=>exact⟨i+1,bZ,gN,bF⟩
  obtain rfl:i=3:=oS;obtain⟨bs,a5,aU⟩:=ab.sl;have bA:=A_ a5;have bq:=A_ (show ∀ E∈bs,w.1.size<=E from λE Y=>by have aM:=aU E Y;have aN:=aa.size;omega);have bj:=A_ (BH aa ab.bl);clear a1 T a5 aU;go_wp2;go_ret;exact⟨_,_,_,bs,rfl,bA,bq,bj⟩
end Go.Proofs.YtjcanieccnljfaaGreat.X
