/- A part of the proof. -/
import Derived.Test.YtbkilakncnlebaaGreatDoorY23
import Derived.Laws.Cover3
set_option linter.constructorNameAsVariable false
set_option maxHeartbeats 16000000
set_option maxRecDepth 10000
open Go renaming Addr→AH,World→J,heap_alloc_new→CF,maxLen→BG
open Go.Value renaming bool→AC,int→N,slice→S
open Go.XB.Below renaming box→AV,next→AI
open List renaming getElem?_set_ne→IZ,getElem?_set_self→OI,length_append→EF
open Nat renaming le_refl→BH,lt_or_ge→BN
open Option renaming none→I,some→B
namespace Go.Proofs.YtbkilakncnlebaaGreatDoor.X
open Go.RowKit Go.XB Go.XN Proofs.Tryz
section
def E3y (a b c:TPoint) (i j:Nat):TRat:=A0d (A6c a b c) (A1k ((C5e a b c).getD i pt0) ((C5e a b c).getD j pt0))
def A5e (a b c:TPoint) (i:Nat):Nat->List TRat
 |0=>[]
 |j+1=>A5e a b c i j++[E3y a b c i j]
def B0v (a b c:TPoint):Nat->List (List TRat)
 |0=>[]
 |i+1=>B0v a b c i++[A5e a b c i 3]
def C1j (a b c:TPoint):List (List TRat):=B0v a b c 3
theorem B5s (a b c:TPoint) (i:Nat):∀ j,(A5e a b c i j).length=j
 |0=>rfl
 |j+1=>by rw[A5e,EF,B5s a b c i j];rfl
theorem B2a (a b c:TPoint):∀ k,∀ r∈B0v a b c k,r.length=3
 |0,r,h=>by simp[B0v]at h
 |k+1,r,h=>by
  rw[B0v]at h
  rcases List.mem_append.1 h with h|h
  ·exact B2a a b c k r h
  simp at h;rw[h];exact B5s a b c k 3
theorem B1z (a b c:TPoint):∀ k,(B0v a b c k).length=k
 |0=>rfl
 |k+1=>by rw[B0v,EF,B1z a b c k];rfl
theorem Pend.rr {w wb wr:J} {gB i cap:Nat} {ps:List TRat} (h:Pend w wb 35 wr gB i cap ps):RR (λb=>b<w.1.size\/b=gB) wr gB i cap ps:=by
 obtain⟨cells,fss,E,G,H,O,T,W,X,Y⟩:=h
 exact⟨cells,fss,B0o E,G,H,λb u D=>by
  rcases D with D|rfl;·have:=(O.2 b u).1;omega
  exact T u,.inr rfl⟩
attribute [local go_sem] L_ Go.XB.opAt N_ M_ Region.wanted yielded
attribute [local simp] N_ M_ MP.eq MP.agg MP.sl MP.slbox A0r
theorem D4t (w:J) (a:Option AH) (l c:Nat):(binOp .eql 23 (S a l c) (S I 0 0)).run prog w=.ok (AC a.isNone) w:=by
 simp[binOp,run_equal_slice_nil w 23 _ a l c underlying23]
theorem D2h (w:J) (a:Option AH) (l c:Nat):(binOp .eql 271 (S a l c) (S I 0 0)).run prog w=.ok (AC a.isNone) w:=by
 simp[binOp,run_equal_slice_nil w 271 _ a l c underlying271]
theorem D2s (w:J) (a:Option AH) (l c:Nat):(binOp .eql 27 (S a l c) (S I 0 0)).run prog w=.ok (AC a.isNone) w:=by
 simp[binOp,run_equal_slice_nil w 27 _ a l c underlying27]
attribute [local go_sem] D4t
theorem B6t (A:Option AH) (c:Nat) (b b1 h:TPoint) (bs:List Nat) (w:J) (bh:Sl w A 3 c [b,b1,h] bs) (a8:GradOk b b1 h) (a2:∀ r∈C1j b b1 h,r.any A2e=false) :
  Calls prog 234 #[S A 3 c] w (E3s w (C1j b b1 h) 3):=by
 have aX:=A_ bh;have bF:=A_ a8;have bz:=A_ a2;obtain⟨ck,cb,ch,ci,cj⟩:=info_parts E2x;obtain⟨cm,b3,b5,b6,b7⟩:=info_parts B2r;clear bh a8 a2;go_enter func234,ntmps234;go_wp2_with fail;refine(B1l A c b b1 h bs _ aX bF).mono ?_;rintro _ ag ⟨cG,cn,cY,c4,rfl,ao,cf,a3⟩;obtain rfl:3=cn:=by rw[<-ao.1];exact(B8g b b1 h 3).symm
 obtain⟨c5,c6,_,rfl,_,_⟩:=ao.2.2.2.2 dE;have aW:=A_ ao;have aP:=A_ a3;clear ao cf a3;go_wp2_with fail;have aY:=A_ (MSt.start (n:=3) aP);go_loopg [4,17] 3 (λg s4 s wr=>∃ (i gB cap:Nat) (gs:List (Nat×Nat)),i+g=3/\s=N .i64 i/\s4=S (B ⟨gB,0,I⟩) i cap/\Hid (MSt w wr gB i cap 3 gs (B0v b b1 h i))/\Hid (Bw ag wr)/\Hid (ag.1.size<=gB));case atStart=>exact⟨0,ag.1.size,0,[],oS,rfl,rfl,aY.o,AV _,BH _⟩
 case round =>
  clear aY;obtain⟨i,gB,cap,gs,bc,rfl,rfl,Y,ac,aU⟩:=hrel;rename J=>w3;rcases BN i 3 with al|al
  ·have dc:(i:Int)<3:=oS
   have dd:(0:Int)<=i:=oS;obtain⟨g,rfl⟩:∃ g,gk=g+1:=⟨gk - 1,oS⟩
   have cc:=A_ (by omega:i+1+g=3);have bn:=A_ (by unfold BG;omega:i+1<=BG);have bo:=A_ (by omega:(i+1)*24<=140737488355328);obtain⟨cV,ds,x,ar,aG,az,dh,au,aH,aA,di,aw,aI,aB,dj,ax,aJ,aC,dk,aD,da,bi,cH,cI,cJ,cK,cL,cM,a9⟩:=TPoint.elemA (aW.below ac) al;injection aD with aD;injection aD with ai aj _;subst ai;subst aj;have bG:=A_ a9;have br:=A_ (show(C5e b b1 h).getD i pt0=x from A0e bi);clear bc al bi a9;go_wp2_with fail;obtain⟨D,H⟩:∃ D,D=w3.alloc (.cells #[AC x.x.1.1,S ar aG az,S au aH aA,AC x.y.1.1,S aw aI aB,S ax aJ aC] 118):=⟨_,rfl⟩
   have bN:=A_ (by rw[H];exact AV _:Bw w3 D);have Z:w3.1.size<D.1.size:=by rw[H];simp
   have aK:D.cell? ⟨w3.1.size,0,I⟩=B (AC x.x.1.1):=by rw[H];go_simp
   have p1:D.cell? ⟨w3.1.size,1,I⟩=B (S ar aG az):=by rw[H];go_simp
   have p2:D.cell? ⟨w3.1.size,2,I⟩=B (S au aH aA):=by rw[H];go_simp
   have aL:D.cell? ⟨w3.1.size,3,I⟩=B (AC x.y.1.1):=by rw[H];go_simp
   have aM:D.cell? ⟨w3.1.size,4,I⟩=B (S aw aI aB):=by rw[H];go_simp
   have aN:D.cell? ⟨w3.1.size,5,I⟩=B (S ax aJ aC):=by rw[H];go_simp
   rw[<-H];have aZ:=A_ (Pend.start (α:=TRat) (e:=35) bN);have bM:=A_ (by rw[H];simp:w3.1.size+1=D.1.size);clear H;go_loopg [7,24] 3 (λg2 s7 s w4=>∃ (j W T:Nat),j+g2=3/\s=N .i64 j/\s7=S (B ⟨W,0,I⟩) j T/\Hid (Pend w3 D 35 w4 W j T (A5e b b1 h i j)));case atStart=>exact⟨0,D.1.size,0,oS,rfl,by rw[bM.o],aZ.o⟩
   case round =>
    clear aZ;obtain⟨j,W,T,bd,rfl,rfl,E⟩:=hrel;rcases BN j 3 with am|am
    ·have de:(j:Int)<3:=oS
     have df:(0:Int)<=j:=oS;obtain⟨g2,rfl⟩:∃ g2,gk=g2+1:=⟨gk - 1,oS⟩
     have cd:=A_ (by omega:j+1+g2=3);have bp:=A_ (by unfold BG;omega:j+1<=BG);have bq:=A_ (by omega:(j+1)*56<=140737488355328);have aR:=A_ E.bw;have aQ:=A_ (AI ac aR);have bA:=A_ (AI aP aQ);have dg:w3.1.size<wr.1.size:=by have:=E.bb.size;omega
     have r0:wr.cell? ⟨w3.1.size,0,I⟩=B (AC x.x.1.1):=(E.bb.cell (p:=⟨w3.1.size,0,I⟩) Z).trans aK;have dt:wr.cell? ⟨w3.1.size,1,I⟩=B (S ar aG az):=(E.bb.cell (p:=⟨w3.1.size,1,I⟩) Z).trans p1;have du:wr.cell? ⟨w3.1.size,2,I⟩=B (S au aH aA):=(E.bb.cell (p:=⟨w3.1.size,2,I⟩) Z).trans p2;have dv:wr.cell? ⟨w3.1.size,3,I⟩=B (AC x.y.1.1):=(E.bb.cell (p:=⟨w3.1.size,3,I⟩) Z).trans aL;have dw:wr.cell? ⟨w3.1.size,4,I⟩=B (S aw aI aB):=(E.bb.cell (p:=⟨w3.1.size,4,I⟩) Z).trans aM;have dx:wr.cell? ⟨w3.1.size,5,I⟩=B (S ax aJ aC):=(E.bb.cell (p:=⟨w3.1.size,5,I⟩) Z).trans aN;obtain⟨bk,ok,y,bO,cq,bV,dl,bP,cs,bW,dm,bQ,ct,bX,dn,bR,cu,bY,dp,aE,db,bj,cN,cO,cP,cQ,cR,cU,ba⟩:=TPoint.elemA (aW.below aQ) am;injection aE with aE;injection aE with ai aj _;subst ai;subst aj;have bH:=A_ ba;have bt:=A_ (show(C5e b b1 h).getD j pt0=y from A0e bj);have bS:=A_ (by rw[A5e,E3y,br.o,bt.o]:A5e b b1 h i (j+1)=A5e b b1 h i j++[A0d (A6c b b1 h) (A1k x y)]);clear bd am bj ba aK p1 p2 aL aM aN;go_wp2_with fail;have ah:=A_ (show Bw wr (wr.alloc (.cells #[AC y.x.1.1,S bO cq bV,S bP cs bW,AC y.y.1.1,S bQ ct bX,S bR cu bY] 118))from Below.go);refine W_ 8 kR kR kR kR kR ?_;simp only[List.take_succ_cons,List.take_zero,List.drop_succ_cons,List.drop_zero];iterate 2 refine C_ _ ?_
     refine D_ (MP.agg (A6c b b1 h)) ?_ ?_;·intro aa ab O G u;obtain⟨a5,a7⟩:=F_ G;simp at u;refine G_ ?_;exact H_ (B3h A c b b1 h bs O ((aX.below bA).below (AI ah G)))
     iterate 2 refine C_ _ ?_
     refine D_ (MP.agg (A1k x y)) ?_ ?_;·intro aa ab O G u;obtain⟨a5,a7⟩:=F_ G;simp at u;refine G_ ?_;exact H_ (A8z _ _ x y _ _ O ((bG.below aR).below (AI ah G)) (bH.below (AI ah G)))
     refine D_ (MP.agg (A0d (A6c b b1 h) (A1k x y))) ?_ ?_;·intro aa ab O G u;obtain⟨a5,a7⟩:=F_ G;simp at u;refine G_ ?_;obtain⟨cz,cA,_⟩:=u;exact H_ (A0n _ _ (A6c b b1 h) (A1k x y) _ _ O cz.1 cA)
     refine A1d (λbm=>MP.slbox (bm 6).cells 35) (by intro y bm a1;simp[N_,M_]at a1;simp[a1]) ?_ ?_;·intro aa ab O G u;simp at u;obtain⟨cE,dq,cW,cZ,cF,dr,cX,c0,bZ,_,_,_⟩:=TRat.agg u.1;refine⟨gD,S (B ⟨O.1.size,0,I⟩) 1 1,O.alloc (.cells (aa 6).cells 35),?_,AV _,[O.1.size],⟨O.1.size,rfl,rfl,CF O _⟩,sI⟩;rw[bZ];go_simp
     intro aa ab wa G u b9;clear b9;simp at u;have bl:=u.1;have cv:=u.2.2.2.2.2.2.1;have cw:=u.2.2.2.2.2.2.2;obtain⟨⟨ak,a6⟩,an⟩:=cv;obtain⟨bu,co,bT,c7,bv,cp,bU,c8,b0,cB,m1,m2⟩:=TRat.agg ak;obtain⟨⟨b4,c2,cD,aF⟩,cg⟩:=cw;rw[b0]at aF ak;have aO:=A_ (A3x ak);have aS:=A_ a6;have bE:=A_ (show Bw wr wa from AI ah G);have aT:=A_ (show ∀ ay∈ab 6,wr.1.size<=ay from λay b8=>by have:=(an ay b8).1;(try simp at this);omega);have bI:=A_ aF;have c1:aa 0=S (B ⟨W,0,I⟩) j T:=bl.1.1;generalize ab 6=cx at *;clear u ak a6 an cB m1 m2 aF cg cD bl G;go_wp2_with (at_builtin;refine A1v rfl _ _ 27 rfl 35 cm (.agg #[AC false,S I 0 0,S I 0 0]) 56 underlying27 b3 b5 b6 b7 rfl E bE gD ⟨b4,0,I⟩ 1 [AC (A0d (A6c b b1 h) (A1k x y)).1.1,S bu co bT,S bv cp bU] (A0d (A6c b b1 h) (A1k x y)) cx gD (A0a bI) aO aS aT bp bq ?_;intro g' ad ap bf ae af);have aq:=A_ (by rw[bS.o];exact bf:Pend w3 D 35 ap g' (j+1) ad (A5e b b1 h i (j+1)));clear bf ae af aO aS E aT;go_wp2_with fail;go_roundg g2;case measure=>omega
     case rel=>exact⟨j+1,g',ad,cd,gN,rfl,aq⟩
    obtain rfl:j=3:=oS;have aV:=A_ (Pend.rr E);have ca:=E.lt;have X:=A_ E.bw;have bL:=A_ (by have:=Y.bl.size;have:=X.size;simp;omega:w.1.size<=(wr.alloc (.cells #[S (B ⟨W,0,I⟩) 3 T] 27)).1.size);clear bd am aK p1 p2 aL aM aN;go_wp2_with (at_builtin;refine A1m rfl _ _ 271 rfl w.1.size 27 ck (S I 0 0) 1 24 underlying271 cb ch ci cj rfl dE gB i cap (gs.map λg=>.slice (B ⟨g.1,0,I⟩) 3 g.2) gD (I_ Y.ou (AI X (AV _))) ⟨wr.1.size,0,I⟩ 1 1 [S (B ⟨W,0,I⟩) 3 T] gD rfl (A0a (CF wr _)) (by simp[Value.oneCell']) bn.o bo.o bL.o ?_;intro g' ad ap be ae af);have aq:=A_ (show MSt w ap g' (i+1) ad 3 (gs++[(W,T)]) (B0v b b1 h (i+1))from Y.o.push (AI X.o (AV _)) (aV.o.below (AV _)) oS be ae af);have bB:=A_ (show Bw ag ap from((AI ac (AI X (AV _)))).grown ae (by have:=ac.size;have:=X.size;simp;omega) (λk2 ce=>by injection ce with e;subst e;exact aU));have bJ:=A_ (show ag.1.size<=g' by have ai:=aU.o;have aj:=ac.size;have c9:=X.size;rcases af with e|e;omega;simp at e;omega);clear be ae af Y aV ca;go_wp2_with fail;go_roundg g;case measure=>omega
    case rel=>exact⟨i+1,g',ad,_,cc,gN,rfl,aq,bB,bJ⟩
  obtain rfl:i=3:=oS;obtain⟨cy,bg,_⟩:=Y.sl;have bK:=A_ bg;clear bc al bg;go_wp2_with fail;refine(C8x _ 3 cap (C1j b b1 h) cy w3 bK.o (λr an=>by rw[B2a b b1 h 3 r an];decide) bz.o).mono ?_;rintro _ dy ⟨rfl,a4⟩;have bD:=A_ a4;clear a4;go_wp2;go_ret;exact⟨_,_,_,rfl,Y.below bD⟩
end
def D5i (w:J) (M:List (List TRat)) (e:Ending) (w':J):Prop:=∃ A n c bs,e=.returned (S A n c)/\Sl w' A n c M bs/\(∀ b∈bs,w.1.size<=b)/\Bw w w'
def E3h (m:TMesh) (t:TTri):List (List TRat):=E9s (Z_ m.1 t.a) (Z_ m.1 t.b) (Z_ m.1 t.c)
def B6b (m:TMesh) (t:TTri):List (List TRat):=C1j (Z_ m.1 t.a) (Z_ m.1 t.b) (Z_ m.1 t.c)
def B2l (d:TRat) (r:List TRat):Nat->List TRat
 |0=>r
 |j+1=>(B2l d r j).set j (A0d d (r.getD j A0h))
def A9r (d:TRat) (M:List (List TRat)):Nat->List (List TRat)
 |0=>M
 |i+1=>(A9r d M i).set i (B2l d (M.getD i []) 3)
theorem C9x (d:TRat) (r:List TRat):∀ j,(B2l d r j).length=r.length
 |0=>rfl
 |j+1=>by rw[B2l,List.length_set,C9x d r j]
theorem D0n (d:TRat) (r:List TRat):∀ j k,j<=k->(B2l d r j)[k]?=r[k]?
 |0,_,_=>rfl
 |j+1,k,h=>by rw[B2l,IZ oS,D0n d r j k oS]
theorem B6k (d:TRat) (M:List (List TRat)):∀ i,(A9r d M i).length=M.length
 |0=>rfl
 |i+1=>by rw[A9r,List.length_set,B6k d M i]
theorem D0f (d:TRat) (M:List (List TRat)):∀ i k,i<=k->(A9r d M i)[k]?=M[k]?
 |0,_,_=>rfl
 |i+1,k,h=>by rw[A9r,IZ oS,D0f d M i k oS]
structure TriOk (m:TMesh) (t:TTri):Prop where
 it:A5v m.1.length t
 pr:A7m [Z_ m.1 t.a,Z_ m.1 t.b,Z_ m.1 t.c]=true
 ar:J_ (A6c (Z_ m.1 t.a) (Z_ m.1 t.b) (Z_ m.1 t.c))=true
attribute [local go_sem] L_ Go.XB.opAt N_ M_ Region.wanted yielded
attribute [local simp] N_ M_ MP.eq MP.agg MP.aggS MP.sl MP.slbox A0r
theorem B9j:A4f 233:=λa w=>kR
theorem C1g (k bx:Nat) (ag:Option AH) (au ak:Nat) (ah:Option AH) (n1 al:Nat) (ai:Option AH) (n2 am:Nat) (aj:Option AH) (aw c3:Nat) (p:TProblem) (s:List Nat) (t:TTri) (w:J) (G:Agg w (.agg #[S ag au ak,S ah n1 al,S ai n2 am,S aj aw c3]) p s)
  (ce:w.cell? ⟨bx,0,I⟩=B (S ag au ak)) (q1:w.cell? ⟨bx,1,I⟩=B (S ah n1 al)) (q2:w.cell? ⟨bx,2,I⟩=B (S ai n2 am)) (cf:w.cell? ⟨bx,3,I⟩=B (S aj aw c3)) (ad:bx<w.1.size)
  (a3:p.1.triangles[k]?=B t) (a9:TriOk p.1 t) (aX:GradOk (Z_ p.1.1 t.a) (Z_ p.1.1 t.b) (Z_ p.1.1 t.c)) (aS:p.1.1.all A1b=true) (aO:p.1.1.length<=40) (aP:p.1.triangles.length<=48) (aV:∀ r∈B6b p.1 t,r.any A2e=false)
  (aW:p.2.length=3) (a5:0<=t.4/\t.4<3) :
  Calls prog 233 #[N .i64 k,.pointer (B ⟨bx,0,I⟩)] w (D5i w (A9r (p.2.getD t.4.toNat A0h) (B6b p.1 t) 3)):=by
 have bD:=A_ G;have aB:=A_ a3;have bB:=A_ a9;have bp:=A_ aX;have bj:=A_ aS;have bg:=A_ aO;have bh:=A_ aP;have bm:=A_ aV;have bo:=A_ aW;have bv:=A_ a5;obtain⟨ck,cN,cu,cV,cm,m1,cv,cW,cn,m2,cw,cX,co,cO,cx,cY,e,_,a7,a8,b5,b6⟩:=TProblem.agg G;injection e with e;simp at e;obtain⟨⟨rfl,rfl,rfl⟩,⟨rfl,rfl,rfl⟩,⟨rfl,rfl,rfl⟩,rfl,rfl,rfl⟩:=e;have bq:=A_ (TMesh.mkAgg (x:=p.1) a7 a8);obtain⟨b,an⟩:∃ b,p.2.getD t.4.toNat A0h=b:=⟨_,rfl⟩
 have bn:=A_ an;obtain⟨M,W⟩:∃ M,B6b p.1 t=M:=⟨_,rfl⟩
 have br:=A_ W;rw[an,W];have cp:=A_ (by rw[<-W];exact B2a _ _ _ 3:∀ r∈M,r.length=3);have aC:=A_ (by rw[<-W];exact B1z _ _ _ 3:M.length=3);clear G a3 a9 aX aS aO aP aV aW a5 a7 a8 b5 b6 an W;go_enter func233,ntmps233;go_wp2_with fail;refine(A6s _ p.1 _ k t w bq aB bB.it bj bg bh).mono ?_;rintro _ T ⟨bd,cb,bJ,bQ,rfl,aq,b4,aT⟩;obtain rfl:3=cb:=aq.1;have bz:=A_ aq;have Z:=A_ aT;clear aq b4 aT;go_wp2_with fail;refine(B6t bd bJ (Z_ p.1.1 t.a) (Z_ p.1.1 t.b) (Z_ p.1.1 t.c) bQ T bz.o bp.o (by rw[show C1j _ _ _=B6b p.1 t from rfl];exact bm)).mono ?_;rw[show C1j _ _ _=B6b p.1 t from rfl,br.o];rintro _ cj ⟨o,cap,gs,rfl,ar⟩;have aD:=A_ ar;have az:=A_ (AI Z ar.bl);obtain⟨bT,bX⟩:=F_ az;have bS:bx<cj.1.size:=by have:=az.size;omega
 clear ar;go_wp2_with fail;go_loopg [15] 3 (λg s wr=>∃ i:Nat,i+g=3/\s=N .i64 i/\Hid (MSt T wr o 3 cap 3 gs (A9r b M i)));case atStart=>exact⟨0,oS,rfl,aD.o⟩
 case round =>
  clear aD bT bX bS;obtain⟨i,a1,rfl,aa⟩:=hrel;rename J=>w3;rcases BN i 3 with Y|Y
  ·have cG:(i:Int)<3:=oS
   have cH:(0:Int)<=i:=oS;obtain⟨g,rfl⟩:∃ g,gk=g+1:=⟨gk - 1,oS⟩
   have bZ:=A_ (by omega:i+1+g=3);obtain⟨gr,cr,r0,aZ,ao,cF,cL,_,_⟩:=aa.row Y;have a4:M[i]?=B r0:=by rw[<-D0f b M i i (BH _)];exact ao
   have aA:=A_ aZ;have bu:=A_ (show M.getD i []=r0 from A0e a4);have aE:=A_ (show MSt T w3 o 3 cap 3 gs ((A9r b M i).set i (B2l b r0 0)) by
    rw[show(A9r b M i).set i (B2l b r0 0)=A9r b M i from ?_];exact aa
    exact List.ext_getElem? λk=>by
     by_cases ab:i=k;·subst ab;rw[OI (by rw[B6k,aC.o];exact Y)];exact ao.symm
     rw[IZ ab])
   clear a1 Y aZ ao a4;go_wp2_with fail;go_loopg [21] 3 (λg2 s wr=>∃ j:Nat,j+g2=3/\s=N .i64 j/\Hid (MSt T wr o 3 cap 3 gs ((A9r b M i).set i (B2l b r0 j))));case atStart=>exact⟨0,oS,rfl,aE.o⟩
   case round =>
    clear aE;obtain⟨j,a2,rfl,D⟩:=hrel;have H:=A_ (AI Z D.bl);have cE:bx<wr.1.size:=by have:=H.size;omega
    have cP:wr.cell? ⟨bx,0,I⟩=B (S ag au ak):=(H.cell (p:=⟨bx,0,I⟩) ad).trans ce;have cQ:wr.cell? ⟨bx,1,I⟩=B (S ah n1 al):=(H.cell (p:=⟨bx,1,I⟩) ad).trans q1;have cR:wr.cell? ⟨bx,2,I⟩=B (S ai n2 am):=(H.cell (p:=⟨bx,2,I⟩) ad).trans q2;have cU:wr.cell? ⟨bx,3,I⟩=B (S aj aw c3):=(H.cell (p:=⟨bx,3,I⟩) ad).trans cf;rcases BN j 3 with ae|ae
    ·have cI:(j:Int)<3:=oS
     have cJ:(0:Int)<=j:=oS;obtain⟨g2,rfl⟩:∃ g2,gk=g2+1:=⟨gk - 1,oS⟩
     have b0:=A_ (by omega:j+1+g2=3);obtain⟨bR,bM,ch,aY,af,_,cM,aQ,cK⟩:=D.o.row (by omega:i<3);obtain⟨rfl,rfl⟩:gr=bR/\cr=bM:=by have:=aA.o;rw[aY]at this;cases this;exact⟨rfl,rfl⟩
     obtain rfl:B2l b r0 j=ch:=by rw[OI (by rw[B6k,aC.o];omega)]at af;exact Option.some.inj af
     obtain⟨x,be,b9,bN,bf,ca,bO,cD,G,aG,aH,aI,aJ,aK,aL,aR,_,O⟩:=aQ.elem ae;rw[D0n b r0 j j (BH _)]at G;have bE:=A_ (by rw[B2l,A0e G]:B2l b r0 (j+1)=(B2l b r0 j).set j (A0d b x));have bi:=A_ aR;have bt:=A_ af;clear a2 ae G aR af aY aQ;go_wp2_with fail;refine X_ sI ?_;dsimp only[List.dropLast,List.getLast,List.length];iterate 4 refine C_ _ ?_
     refine D_ (MP.aggS b) ?_ ?_;·intro bc ay ax h u;obtain⟨bU,bY⟩:=F_ h;simp at u;refine G_ ?_;have C:=B1h _ p _ k t ax (bD.below (AI H h)) aB bo bv;rw[bn.o]at C;exact A7t C
     iterate 4 refine C_ _ ?_
     refine D_ (MP.agg (A0d b x)) ?_ ?_;·intro bc ay ax h u;obtain⟨bU,bY⟩:=F_ h;simp at u;refine G_ ?_;obtain⟨⟨_,cZ,ci⟩,_⟩:=u;exact H_ (A0n _ _ b x _ _ ax ci (bi.below h))
     refine C_ _ ?_;intro bc ay wa h u bV;clear bV;simp at u;have cg:=u.2.2.2.2.2.2.2.2.2.1;have ba:=u.2.2.2.2.2.2.2.2.2.2;have cy:=ba.1.1;obtain⟨⟨ac,bW⟩,ap⟩:=cg;obtain⟨bH,cc,bK,v1,bI,cd,bL,v2,bP,b8,_,_⟩:=TRat.agg ac;rw[bP]at ac;have b7:=h.size
     obtain⟨cq,cs,ct,cz,cA,cB⟩:wa.cell? ⟨gr,j*3,I⟩=B (AC x.1.1)/\wa.cell? ⟨gr,j*3+1,I⟩=B (S be b9 bN)/\wa.cell? ⟨gr,j*3+2,I⟩=B (S bf ca bO)/\wa.frozen? ⟨gr,j*3,I⟩=false/\wa.frozen? ⟨gr,j*3+1,I⟩=false/\wa.frozen? ⟨gr,j*3+2,I⟩=false :=
      ⟨(h.cell (p:=⟨gr,_,I⟩) O).trans aG,(h.cell (p:=⟨gr,_,I⟩) O).trans aH,(h.cell (p:=⟨gr,_,I⟩) O).trans aI,(h.frozen (p:=⟨gr,_,I⟩) O).trans aJ,(h.frozen (p:=⟨gr,_,I⟩) O).trans aK,(h.frozen (p:=⟨gr,_,I⟩) O).trans aL⟩
     have bG:=A_ (show MSt T (((wa.setCell ⟨gr,j*3,I⟩ (AC (A0d b x).1.1)).setCell ⟨gr,j*3+1,I⟩ (S bH cc bK)).setCell ⟨gr,j*3+2,I⟩ (S bI cd bL)) o 3 cap 3 gs ((A9r b M i).set i (B2l b r0 (j+1))) by
      have ab:=(D.o.below h).set aA.o bt.o (j:=j) oS ac (λE X b3=>by
       have aM:=(ap E X).1;have aN:=D.ltAll E b3;omega) (λE X=>by
       have aM:=(ap E X).1;have aN:=D.bl.size;omega)
      rwa [List.set_set,<-bE.o]at ab)
     generalize ay 9=c0 at *;clear u ba ac bW ap b8 h D aG aH aI aJ aK aL b7;go_wp2_with fail;go_roundg g2;case measure=>omega
     case rel=>exact⟨j+1,b0,gN,bG⟩
    obtain rfl:j=3:=oS;have bF:=A_ (by rw[A9r,bu.o];exact D:MSt T wr o 3 cap 3 gs (A9r b M (i+1)));clear a2 ae D;go_wp2_with fail;go_roundg g;case measure=>omega
    case rel=>exact⟨i+1,bZ,gN,bF⟩
  obtain rfl:i=3:=oS;obtain⟨aF,a6,aU⟩:=aa.sl;have bA:=A_ a6;have bs:=A_ (show ∀ E∈aF,w.1.size<=E from λE X=>by have aM:=aU E X;have aN:=Z.size;omega);have bl:=A_ (AI Z aa.bl);clear a1 Y a6 aU;go_wp2;go_ret;exact⟨_,_,_,aF,rfl,bA,bs,bl⟩
end Go.Proofs.YtbkilakncnlebaaGreatDoor.X
