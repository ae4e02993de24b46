/- A part of the proof. -/
import Derived.Test.YtbhemnidcleaiaaGreatY26
import Derived.Laws.Cover3
set_option linter.constructorNameAsVariable false
set_option maxHeartbeats 16000000
set_option maxRecDepth 10000
namespace Go.Proofs.YtbhemnidcleaiaaGreat.X
open Go.RowKit Go.XB Go.XN Proofs.Tryz
section
def E3y (a b c:TPoint) (i j:Nat):TRat:=A0d (A6c a b c) (A1k ((C5e a b c).getD i pt0) ((C5e a b c).getD j pt0))
def A5e (a b c:TPoint) (i:Nat):Nat->List TRat
 |0=>[]
 |j+1=>A5e a b c i j++[E3y a b c i j]
def B0v (a b c:TPoint):Nat->List (List TRat)
 |0=>[]
 |i+1=>B0v a b c i++[A5e a b c i 3]
def C1j (a b c:TPoint):List (List TRat):=B0v a b c 3
theorem B5s (a b c:TPoint) (i:Nat):∀ j,(A5e a b c i j).length=j
 |0=>rfl
 |j+1=>by rw[A5e,List.length_append,B5s a b c i j];rfl
theorem B2a (a b c:TPoint):∀ k,∀ r∈B0v a b c k,r.length=3
 |0,r,h=>by simp[B0v]at h
 |k+1,r,h=>by
  rw[B0v]at h
  rcases List.mem_append.1 h with h|h
  ·exact B2a a b c k r h
  simp at h;rw[h];exact B5s a b c k 3
theorem B1z (a b c:TPoint):∀ k,(B0v a b c k).length=k
 |0=>rfl
 |k+1=>by rw[B0v,List.length_append,B1z a b c k];rfl
theorem Pend.rr {w wb wr:World} {gB i cap:Nat} {ps:List TRat} (h:Pend w wb 35 wr gB i cap ps):RR (λb=>b<w.1.size\/b=gB) wr gB i cap ps:=by
 obtain⟨cells,fss,E,G,H,I,J,K,O,S⟩:=h
 exact⟨cells,fss,B0o E,G,H,λb u D=>by
  rcases D with D|rfl;·have:=(I.2 b u).1;omega
  exact J u,.inr rfl⟩
attribute [local go_sem] L_ Go.XB.opAt N_ M_ Region.wanted yielded
attribute [local simp] N_ M_ MP.eq MP.agg MP.sl MP.slbox A0r
theorem D4t (w:World) (a:Option Addr) (l c:Nat):(binOp .eql 23 (.slice a l c) (.slice none 0 0)).run prog w=.ok (.bool a.isNone) w:=by
 simp[binOp,run_equal_slice_nil w 23 _ a l c underlying23]
theorem D2h (w:World) (a:Option Addr) (l c:Nat):(binOp .eql 245 (.slice a l c) (.slice none 0 0)).run prog w=.ok (.bool a.isNone) w:=by
 simp[binOp,run_equal_slice_nil w 245 _ a l c underlying245]
theorem D2s (w:World) (a:Option Addr) (l c:Nat):(binOp .eql 27 (.slice a l c) (.slice none 0 0)).run prog w=.ok (.bool a.isNone) w:=by
 simp[binOp,run_equal_slice_nil w 27 _ a l c underlying27]
attribute [local go_sem] D4t
theorem B6t (A:Option Addr) (c:Nat) (b b1 h:TPoint) (aD:List Nat) (w:World) (bg:Sl w A 3 c [b,b1,h] aD) (a7:GradOk b b1 h) (a1:∀ r∈C1j b b1 h,r.any A2e=false) :
  Calls prog 258 #[.slice A 3 c] w (E3s w (C1j b b1 h) 3):=by
 have aW:=A_ bg;have bB:=A_ a7;have bt:=A_ a1;obtain⟨ci,b8,cf,cg,ch⟩:=info_parts E2x;obtain⟨cj,bY,b0,b3,b4⟩:=info_parts B2r;clear bg a7 a1;go_enter func258,ntmps258;go_wp2_with fail;refine(B1l A c b b1 h aD _ aW bB).mono ?_;rintro _ W ⟨cF,ck,cZ,c5,rfl,ag,cc,a2⟩;obtain rfl:3=ck:=by rw[<-ag.1];exact(B8g b b1 h 3).symm
 obtain⟨bX,c6,_,rfl,_,_⟩:=ag.2.2.2.2 dE;have aU:=A_ ag;have aN:=A_ a2;have dd:bX<W.1.size:=by obtain⟨cW,dy,dH,_,_,aG,dc,_⟩:=Sl.getAt ag (by decide:0<3);injection aG with aG;injection aG with ab _ _;omega
 clear ag cc a2;go_wp2_with fail;have aX:=A_ (MSt.start (n:=3) aN);go_loopg [4,17] 3 (λg s4 s wr=>∃ (i gB cap:Nat) (gs:List (Nat×Nat)),i+g=3/\s=.int .i64 i/\s4=.slice (some ⟨gB,0,none⟩) i cap/\Hid (MSt w wr gB i cap 3 gs (B0v b b1 h i))/\Hid (Bw W wr)/\Hid (W.1.size<=gB));case atStart=>exact⟨0,W.1.size,0,[],oM,rfl,rfl,aX.o,Below.box _,Nat.le_refl _⟩
 case round =>
  clear aX;obtain⟨i,gB,cap,gs,ba,rfl,rfl,S,Z,aS⟩:=hrel;rename World=>w3;rcases Nat.lt_or_ge i 3 with ad|ad
  ·have df:(i:Int)<3:=oM
   have dg:(0:Int)<=i:=oM;obtain⟨g,rfl⟩:∃ g,gk=g+1:=⟨gk - 1,oM⟩
   have b9:=A_ (by omega:i+1+g=3);have de:i+1<=3:=ad;have bl:=A_ (by unfold maxLen;omega:i+1<=maxLen);have bm:=A_ (by omega:(i+1)*24<=140737488355328);obtain⟨cU,dx,x,ai,aw,am,dm,aj,ax,an,dn,ak,ay,ao,dp,al,az,ap,dq,aE,da,bh,cG,cH,cI,cJ,cK,cL,a8⟩:=TPoint.elemA (aU.below Z) ad;injection aE with aE;injection aE with ab aq _;subst ab;subst aq;have bD:=A_ a8;have bp:=A_ (show(C5e b b1 h).getD i pt0=x from A0e bh);clear ba ad bh a8;go_wp2_with fail;obtain⟨D,H⟩:∃ D,D=w3.alloc (.cells #[.bool x.x.1.1,.slice ai aw am,.slice aj ax an,.bool x.y.1.1,.slice ak ay ao,.slice al az ap] 38):=⟨_,rfl⟩
   have aV:=A_ (by rw[H];exact Below.box _:Bw w3 D);have T:w3.1.size<D.1.size:=by rw[H];simp
   have aI:D.cell? ⟨w3.1.size,0,none⟩=some (.bool x.x.1.1):=by rw[H];go_simp
   have p1:D.cell? ⟨w3.1.size,1,none⟩=some (.slice ai aw am):=by rw[H];go_simp
   have p2:D.cell? ⟨w3.1.size,2,none⟩=some (.slice aj ax an):=by rw[H];go_simp
   have aJ:D.cell? ⟨w3.1.size,3,none⟩=some (.bool x.y.1.1):=by rw[H];go_simp
   have aK:D.cell? ⟨w3.1.size,4,none⟩=some (.slice ak ay ao):=by rw[H];go_simp
   have aL:D.cell? ⟨w3.1.size,5,none⟩=some (.slice al az ap):=by rw[H];go_simp
   rw[<-H];have ce:(w3.alloc (.cells #[.bool x.x.1.1,.slice ai aw am,.slice aj ax an,.bool x.y.1.1,.slice ak ay ao,.slice al az ap] 38)).1.size=D.1.size:=by rw[H]
   have aY:=A_ (Pend.start (α:=TRat) (e:=35) aV);have bJ:=A_ (by rw[H];simp:w3.1.size+1=D.1.size);clear H ce;go_loopg [7,24] 3 (λg2 s7 s w4=>∃ (j K J:Nat),j+g2=3/\s=.int .i64 j/\s7=.slice (some ⟨K,0,none⟩) j J/\Hid (Pend w3 D 35 w4 K j J (A5e b b1 h i j)));case atStart=>exact⟨0,D.1.size,0,oM,rfl,by rw[bJ.o],aY.o⟩
   case round =>
    clear aY;obtain⟨j,K,J,bc,rfl,rfl,E⟩:=hrel;rcases Nat.lt_or_ge j 3 with ae|ae
    ·have di:(j:Int)<3:=oM
     have dj:(0:Int)<=j:=oM;obtain⟨g2,rfl⟩:∃ g2,gk=g2+1:=⟨gk - 1,oM⟩
     have ca:=A_ (by omega:j+1+g2=3);have dh:j+1<=3:=ae;have bn:=A_ (by unfold maxLen;omega:j+1<=maxLen);have bo:=A_ (by omega:(j+1)*56<=140737488355328);have aP:=A_ E.bw;have aO:=A_ (Below.next Z aP);have bu:=A_ (Below.next aN aO);have dk:w3.1.size<wr.1.size:=by have:=E.bb.size;omega
     have r0:wr.cell? ⟨w3.1.size,0,none⟩=some (.bool x.x.1.1):=(E.bb.cell (p:=⟨w3.1.size,0,none⟩) T).trans aI;have dz:wr.cell? ⟨w3.1.size,1,none⟩=some (.slice ai aw am):=(E.bb.cell (p:=⟨w3.1.size,1,none⟩) T).trans p1;have dA:wr.cell? ⟨w3.1.size,2,none⟩=some (.slice aj ax an):=(E.bb.cell (p:=⟨w3.1.size,2,none⟩) T).trans p2;have dB:wr.cell? ⟨w3.1.size,3,none⟩=some (.bool x.y.1.1):=(E.bb.cell (p:=⟨w3.1.size,3,none⟩) T).trans aJ;have dD:wr.cell? ⟨w3.1.size,4,none⟩=some (.slice ak ay ao):=(E.bb.cell (p:=⟨w3.1.size,4,none⟩) T).trans aK;have dF:wr.cell? ⟨w3.1.size,5,none⟩=some (.slice al az ap):=(E.bb.cell (p:=⟨w3.1.size,5,none⟩) T).trans aL;obtain⟨cV,ok,y,bK,co,bR,dr,bL,cp,bS,ds,bM,cq,bT,dt,bN,cs,bU,du,aF,db,bi,cM,cN,cO,cP,cQ,cR,a9⟩:=TPoint.elemA (aU.below aO) ae;injection aF with aF;injection aF with ab aq _;subst ab;subst aq;have bE:=A_ a9;have bq:=A_ (show(C5e b b1 h).getD j pt0=y from A0e bi);have bO:=A_ (by rw[A5e,E3y,bp.o,bq.o]:A5e b b1 h i (j+1)=A5e b b1 h i j++[A0d (A6c b b1 h) (A1k x y)]);clear bc ae bi a9 aI p1 p2 aJ aK aL;go_wp2_with fail;have ah:=A_ (show Bw wr (wr.alloc (.cells #[.bool y.x.1.1,.slice bK co bR,.slice bL cp bS,.bool y.y.1.1,.slice bM cq bT,.slice bN cs bU] 38))from Below.go);refine W_ 8 kR kR kR kR kR ?_;simp only[List.take_succ_cons,List.take_zero,List.drop_succ_cons,List.drop_zero];iterate 2 refine C_ _ ?_
     refine D_ (MP.agg (A6c b b1 h)) ?_ ?_;·intro X Y I G u;obtain⟨a4,a6⟩:=F_ G;simp at u;refine G_ ?_;exact H_ (B3h A c b b1 h aD I ((aW.below bu).below (Below.next ah G)))
     iterate 2 refine C_ _ ?_
     refine D_ (MP.agg (A1k x y)) ?_ ?_;·intro X Y I G u;obtain⟨a4,a6⟩:=F_ G;simp at u;refine G_ ?_;exact H_ (A8z _ _ x y _ _ I ((bD.below aP).below (Below.next ah G)) (bE.below (Below.next ah G)))
     refine D_ (MP.agg (A0d (A6c b b1 h) (A1k x y))) ?_ ?_;·intro X Y I G u;obtain⟨a4,a6⟩:=F_ G;simp at u;refine G_ ?_;obtain⟨cx,cy,_⟩:=u;exact H_ (A0n _ _ (A6c b b1 h) (A1k x y) _ _ I cx.1 cy)
     refine A1d (λbk=>MP.slbox (bk 6).cells 35) (by intro y bk aZ;simp[N_,M_]at aZ;simp[aZ]) ?_ ?_;·intro X Y I G u;simp at u;obtain⟨cB,dv,cX,c0,cE,dw,cY,c1,bV,_,_,_⟩:=TRat.agg u.1;refine⟨gD,.slice (some ⟨I.1.size,0,none⟩) 1 1,I.alloc (.cells (X 6).cells 35),?_,Below.box _,[I.1.size],⟨I.1.size,rfl,rfl,heap_alloc_new I _⟩,sI⟩;rw[bV];go_simp
     intro X Y wa G u (b6:Hid _);simp at u;have bj:=u.1;have ct:=u.2.2.2.2.2.2.1;have cu:=u.2.2.2.2.2.2.2;obtain⟨⟨ar,a5⟩,au⟩:=ct;obtain⟨br,cm,bP,c7,bs,cn,bQ,c8,bW,cz,m1,m2⟩:=TRat.agg ar;obtain⟨⟨bZ,c4,cA,aH⟩,cd⟩:=cu;rw[bW]at aH ar;have aM:=A_ (A3x ar);have aQ:=A_ a5;have bA:=A_ (show Bw wr wa from Below.next ah G);have aR:=A_ (show ∀ aC∈Y 6,wr.1.size<=aC from λaC b5=>by have:=(au aC b5).1;(try simp at this);omega);have bF:=A_ aH;have c2:X 0=.slice (some ⟨K,0,none⟩) j J:=bj.1.1;generalize Y 6=cv at *;clear u b6 ar a5 au cz m1 m2 aH cd cA bj G;go_wp2_with (at_builtin;refine A1v rfl _ _ 27 rfl 35 cj (.agg #[.bool false,.slice none 0 0,.slice none 0 0]) 56 underlying27 bY b0 b3 b4 rfl E bA gD ⟨bZ,0,none⟩ 1 [.bool (A0d (A6c b b1 h) (A1k x y)).1.1,.slice br cm bP,.slice bs cn bQ] (A0d (A6c b b1 h) (A1k x y)) cv gD (A0a bF) aM aQ aR bn bo ?_;intro g' aa aA be ac af);have aB:=A_ (by rw[bO.o];exact be:Pend w3 D 35 aA g' (j+1) aa (A5e b b1 h i (j+1)));clear be ac af aM aQ E aR;go_wp2_with fail;go_roundg g2;case measure=>omega
     case rel=>exact⟨j+1,g',aa,ca,gN,rfl,aB⟩
    obtain rfl:j=3:=oM;have aT:=A_ (Pend.rr E);have b7:=E.lt;have dl:=aV.size;have O:=A_ E.bw;have bI:=A_ (by have:=S.bl.size;have:=O.size;simp;omega:w.1.size<=(wr.alloc (.cells #[.slice (some ⟨K,0,none⟩) 3 J] 27)).1.size);clear bc ae aI p1 p2 aJ aK aL;go_wp2_with (at_builtin;refine A1m rfl _ _ 245 rfl w.1.size 27 ci (.slice none 0 0) 1 24 underlying245 b8 cf cg ch rfl dE gB i cap (gs.map λg=>.slice (some ⟨g.1,0,none⟩) 3 g.2) gD (I_ S.ou (Below.next O (Below.box _))) ⟨wr.1.size,0,none⟩ 1 1 [.slice (some ⟨K,0,none⟩) 3 J] gD rfl (A0a (heap_alloc_new wr _)) (by simp[Value.oneCell']) bl.o bm.o bI.o ?_;intro g' aa aA bd ac af);have aB:=A_ (show MSt w aA g' (i+1) aa 3 (gs++[(K,J)]) (B0v b b1 h (i+1))from S.o.push (Below.next O.o (Below.box _)) (aT.o.below (Below.box _)) oM bd ac af);have bv:=A_ (show Bw W aA from((Below.next Z (Below.next O (Below.box _)))).grown ac (by have:=Z.size;have:=O.size;simp;omega) (λk2 cb=>by injection cb with e;subst e;exact aS));have bG:=A_ (show W.1.size<=g' by have ab:=aS.o;have aq:=Z.size;have c9:=O.size;rcases af with e|e;omega;simp at e;omega);clear bd ac af S aT b7;go_wp2_with fail;go_roundg g;case measure=>omega
    case rel=>exact⟨i+1,g',aa,_,b9,gN,rfl,aB,bv,bG⟩
  obtain rfl:i=3:=oM;obtain⟨cw,bf,_⟩:=S.sl;have bH:=A_ bf;clear ba ad bf;go_wp2_with fail;refine(C8x _ 3 cap (C1j b b1 h) cw w3 bH.o (λr au=>by rw[B2a b b1 h 3 r au];decide) bt.o).mono ?_;rintro _ dG ⟨rfl,a3⟩;have bz:=A_ a3;clear a3;go_wp2;go_ret;exact⟨_,_,_,rfl,S.below bz⟩
end
def D5i (w:World) (M:List (List TRat)) (e:Ending) (w':World):Prop:=∃ A n c bs,e=.returned (.slice A n c)/\Sl w' A n c M bs/\(∀ b∈bs,w.1.size<=b)/\Bw w w'
def E3h (m:TMesh) (t:TTri):List (List TRat):=E9s (Z_ m.1 t.a) (Z_ m.1 t.b) (Z_ m.1 t.c)
def B6b (m:TMesh) (t:TTri):List (List TRat):=C1j (Z_ m.1 t.a) (Z_ m.1 t.b) (Z_ m.1 t.c)
def B2l (d:TRat) (r:List TRat):Nat->List TRat
 |0=>r
 |j+1=>(B2l d r j).set j (A0d d (r.getD j A0h))
def A9r (d:TRat) (M:List (List TRat)):Nat->List (List TRat)
 |0=>M
 |i+1=>(A9r d M i).set i (B2l d (M.getD i []) 3)
theorem C9x (d:TRat) (r:List TRat):∀ j,(B2l d r j).length=r.length
 |0=>rfl
 |j+1=>by rw[B2l,List.length_set,C9x d r j]
theorem D0n (d:TRat) (r:List TRat):∀ j k,j<=k->(B2l d r j)[k]?=r[k]?
 |0,_,_=>rfl
 |j+1,k,h=>by rw[B2l,List.getElem?_set_ne oM,D0n d r j k oM]
theorem B6k (d:TRat) (M:List (List TRat)):∀ i,(A9r d M i).length=M.length
 |0=>rfl
 |i+1=>by rw[A9r,List.length_set,B6k d M i]
theorem D0f (d:TRat) (M:List (List TRat)):∀ i k,i<=k->(A9r d M i)[k]?=M[k]?
 |0,_,_=>rfl
 |i+1,k,h=>by rw[A9r,List.getElem?_set_ne oM,D0f d M i k oM]
structure TriOk (m:TMesh) (t:TTri):Prop where
 it:A5v m.1.length t
 pr:A7m [Z_ m.1 t.a,Z_ m.1 t.b,Z_ m.1 t.c]=true
 ar:J_ (A6c (Z_ m.1 t.a) (Z_ m.1 t.b) (Z_ m.1 t.c))=true
attribute [local go_sem] L_ Go.XB.opAt N_ M_ Region.wanted yielded
attribute [local simp] N_ M_ MP.eq MP.agg MP.aggS MP.sl MP.slbox A0r
theorem B9j:A4f 257:=λa w=>kR
theorem C1g (k bx:Nat) (ac:Option Addr) (ap ag:Nat) (ad:Option Addr) (n1 ah:Nat) (ae:Option Addr) (n2 ai:Nat) (af:Option Addr) (aq c3:Nat) (p:TProblem) (s:List Nat) (t:TTri) (w:World) (G:Agg w (.agg #[.slice ac ap ag,.slice ad n1 ah,.slice ae n2 ai,.slice af aq c3]) p s)
  (ca:w.cell? ⟨bx,0,none⟩=some (.slice ac ap ag)) (q1:w.cell? ⟨bx,1,none⟩=some (.slice ad n1 ah)) (q2:w.cell? ⟨bx,2,none⟩=some (.slice ae n2 ai)) (cb:w.cell? ⟨bx,3,none⟩=some (.slice af aq c3)) (aa:bx<w.1.size)
  (aZ:p.1.triangles[k]?=some t) (a5:TriOk p.1 t) (aU:GradOk (Z_ p.1.1 t.a) (Z_ p.1.1 t.b) (Z_ p.1.1 t.c)) (aP:p.1.1.all A1b=true) (aL:p.1.1.length<=40) (aM:p.1.triangles.length<=48) (aS:∀ r∈B6b p.1 t,r.any A2e=false)
  (aT:p.2.length=3) (a1:0<=t.4/\t.4<3) :
  Calls prog 257 #[.int .i64 k,.pointer (some ⟨bx,0,none⟩)] w (D5i w (A9r (p.2.getD t.4.toNat A0h) (B6b p.1 t) 3)):=by
 have bv:=A_ G;have ay:=A_ aZ;have bu:=A_ a5;have bk:=A_ aU;have bf:=A_ aP;have bc:=A_ aL;have bd:=A_ aM;have bh:=A_ aS;have bj:=A_ aT;have br:=A_ a1;obtain⟨cg,cN,co,cV,ch,m1,cp,cW,ci,m2,cq,cX,cj,cO,cs,cY,e,_,a3,a4,bZ,b0⟩:=TProblem.agg G;injection e with e;simp at e;obtain⟨⟨rfl,rfl,rfl⟩,⟨rfl,rfl,rfl⟩,⟨rfl,rfl,rfl⟩,rfl,rfl,rfl⟩:=e;have bl:=A_ (TMesh.mkAgg (x:=p.1) a3 a4);obtain⟨b,aj⟩:∃ b,p.2.getD t.4.toNat A0h=b:=⟨_,rfl⟩
 have bi:=A_ aj;obtain⟨M,O⟩:∃ M,B6b p.1 t=M:=⟨_,rfl⟩
 have bm:=A_ O;rw[aj,O];have bq:=A_ (by rw[<-O];exact B2a _ _ _ 3:∀ r∈M,r.length=3);have az:=A_ (by rw[<-O];exact B1z _ _ _ 3:M.length=3);clear G aZ a5 aU aP aL aM aS aT a1 a3 a4 bZ b0 aj O;go_enter func257,ntmps257;go_wp2_with fail;refine(A6s _ p.1 _ k t w bl ay bu.it bf bc bd).mono ?_;rintro _ K ⟨a8,b7,bF,bM,rfl,an,bY,aQ⟩;obtain rfl:3=b7:=an.1;have bs:=A_ an;have W:=A_ aQ;clear an bY aQ;go_wp2_with fail;refine(B6t a8 bF (Z_ p.1.1 t.a) (Z_ p.1.1 t.b) (Z_ p.1.1 t.c) bM K bs.o bk.o (by rw[show C1j _ _ _=B6b p.1 t from rfl];exact bh)).mono ?_;rw[show C1j _ _ _=B6b p.1 t from rfl,bm.o];rintro _ cf ⟨o,cap,gs,rfl,ao⟩;have aA:=A_ ao;have aw:=A_ (Below.next W ao.bl);obtain⟨bP,bT⟩:=F_ aw;have bO:bx<cf.1.size:=by have:=aw.size;omega
 clear ao;go_wp2_with fail;go_loopg [15] 3 (λg s wr=>∃ i:Nat,i+g=3/\s=.int .i64 i/\Hid (MSt K wr o 3 cap 3 gs (A9r b M i)));case atStart=>exact⟨0,oM,rfl,aA.o⟩
 case round =>
  clear aA bP bT bO;obtain⟨i,aX,rfl,X⟩:=hrel;rename World=>w3;rcases Nat.lt_or_ge i 3 with J|J
  ·have cE:(i:Int)<3:=oM
   have cF:(0:Int)<=i:=oM;obtain⟨g,rfl⟩:∃ g,gk=g+1:=⟨gk - 1,oM⟩
   have bV:=A_ (by omega:i+1+g=3);have cB:i+1<=3:=J;obtain⟨gr,cr,r0,aW,ak,cz,cK,_,_⟩:=X.row J;have al:M[i]?=some r0:=by rw[<-D0f b M i i (Nat.le_refl _)];exact ak
   have ax:=A_ aW;have bp:=A_ (show M.getD i []=r0 from A0e al);have cM:=bq r0 (List.mem_of_getElem? al);have aB:=A_ (show MSt K w3 o 3 cap 3 gs ((A9r b M i).set i (B2l b r0 0)) by
    rw[show(A9r b M i).set i (B2l b r0 0)=A9r b M i from ?_];exact X
    exact List.ext_getElem? λk=>by
     by_cases Y:i=k;·subst Y;rw[List.getElem?_set_self (by rw[B6k,az.o];exact J)];exact ak.symm
     rw[List.getElem?_set_ne Y])
   clear aX J aW ak al;go_wp2_with fail;go_loopg [21] 3 (λg2 s wr=>∃ j:Nat,j+g2=3/\s=.int .i64 j/\Hid (MSt K wr o 3 cap 3 gs ((A9r b M i).set i (B2l b r0 j))));case atStart=>exact⟨0,oM,rfl,aB.o⟩
   case round =>
    clear aB;obtain⟨j,aY,rfl,D⟩:=hrel;have H:=A_ (Below.next W D.bl);have cy:bx<wr.1.size:=by have:=H.size;omega
    have cP:wr.cell? ⟨bx,0,none⟩=some (.slice ac ap ag):=(H.cell (p:=⟨bx,0,none⟩) aa).trans ca;have cQ:wr.cell? ⟨bx,1,none⟩=some (.slice ad n1 ah):=(H.cell (p:=⟨bx,1,none⟩) aa).trans q1;have cR:wr.cell? ⟨bx,2,none⟩=some (.slice ae n2 ai):=(H.cell (p:=⟨bx,2,none⟩) aa).trans q2;have cU:wr.cell? ⟨bx,3,none⟩=some (.slice af aq c3):=(H.cell (p:=⟨bx,3,none⟩) aa).trans cb;rcases Nat.lt_or_ge j 3 with T|T
    ·have cH:(j:Int)<3:=oM
     have cI:(0:Int)<=j:=oM;obtain⟨g2,rfl⟩:∃ g2,gk=g2+1:=⟨gk - 1,oM⟩
     have bW:=A_ (by omega:j+1+g2=3);have cG:j+1<=3:=T;obtain⟨bN,bI,cd,aV,ab,_,cL,aN,cJ⟩:=D.o.row (by omega:i<3);obtain⟨rfl,rfl⟩:gr=bN/\cr=bI:=by have:=ax.o;rw[aV]at this;cases this;exact⟨rfl,rfl⟩
     obtain rfl:B2l b r0 j=cd:=by rw[List.getElem?_set_self (by rw[B6k,az.o];omega)]at ab;exact Option.some.inj ab
     obtain⟨x,a9,b5,bJ,ba,b6,bK,cx,G,aD,aE,aF,aG,aH,aI,aO,_,I⟩:=aN.elem T;rw[D0n b r0 j j (Nat.le_refl _)]at G;have bz:=A_ (by rw[B2l,A0e G]:B2l b r0 (j+1)=(B2l b r0 j).set j (A0d b x));have be:=A_ aO;have bo:=A_ ab;clear aY T G aO ab aV aN;go_wp2_with fail;refine X_ sI ?_;dsimp only[List.dropLast,List.getLast,List.length];iterate 4 refine C_ _ ?_
     refine D_ (MP.aggS b) ?_ ?_;·intro a7 au ar h u;obtain⟨bQ,bU⟩:=F_ h;simp at u;refine G_ ?_;have C:=B1h _ p _ k t ar (bv.below (Below.next H h)) ay bj br;rw[bi.o]at C;exact A7t C
     iterate 4 refine C_ _ ?_
     refine D_ (MP.agg (A0d b x)) ?_ ?_;·intro a7 au ar h u;obtain⟨bQ,bU⟩:=F_ h;simp at u;refine G_ ?_;obtain⟨⟨_,cZ,ce⟩,_⟩:=u;exact H_ (A0n _ _ b x _ _ ar ce (be.below h))
     refine C_ _ ?_;intro a7 au wa h u (bR:Hid _);simp at u;have cc:=u.2.2.2.2.2.2.2.2.2.1;have a6:=u.2.2.2.2.2.2.2.2.2.2;have ct:=a6.1.1;obtain⟨⟨Z,bS⟩,am⟩:=cc;obtain⟨bD,b8,bG,v1,bE,b9,bH,v2,bL,b4,_,_⟩:=TRat.agg Z;rw[bL]at Z;have b3:=h.size
     obtain⟨ck,cm,cn,cu,cv,cw⟩:wa.cell? ⟨gr,j*3,none⟩=some (.bool x.1.1)/\wa.cell? ⟨gr,j*3+1,none⟩=some (.slice a9 b5 bJ)/\wa.cell? ⟨gr,j*3+2,none⟩=some (.slice ba b6 bK)/\wa.frozen? ⟨gr,j*3,none⟩=false/\wa.frozen? ⟨gr,j*3+1,none⟩=false/\wa.frozen? ⟨gr,j*3+2,none⟩=false :=
      ⟨(h.cell (p:=⟨gr,_,none⟩) I).trans aD,(h.cell (p:=⟨gr,_,none⟩) I).trans aE,(h.cell (p:=⟨gr,_,none⟩) I).trans aF,(h.frozen (p:=⟨gr,_,none⟩) I).trans aG,(h.frozen (p:=⟨gr,_,none⟩) I).trans aH,(h.frozen (p:=⟨gr,_,none⟩) I).trans aI⟩
     have cA:gr<wa.1.size:=oM;have bB:=A_ (show MSt K (((wa.setCell ⟨gr,j*3,none⟩ (.bool (A0d b x).1.1)).setCell ⟨gr,j*3+1,none⟩ (.slice bD b8 bG)).setCell ⟨gr,j*3+2,none⟩ (.slice bE b9 bH)) o 3 cap 3 gs ((A9r b M i).set i (B2l b r0 (j+1))) by
      have Y:=(D.o.below h).set ax.o bo.o (j:=j) oM Z (λE S bX=>by
       have aJ:=(am E S).1;have aK:=D.ltAll E bX;omega) (λE S=>by
       have aJ:=(am E S).1;have aK:=D.bl.size;omega)
      rwa [List.set_set,<-bz.o]at Y)
     generalize au 9=c0 at *;clear u bR a6 Z bS am b4 h D aD aE aF aG aH aI b3;go_wp2_with fail;go_roundg g2;case measure=>omega
     case rel=>exact⟨j+1,bW,gN,bB⟩
    obtain rfl:j=3:=oM;have bA:=A_ (by rw[A9r,bp.o];exact D:MSt K wr o 3 cap 3 gs (A9r b M (i+1)));clear aY T D;go_wp2_with fail;go_roundg g;case measure=>omega
    case rel=>exact⟨i+1,bV,gN,bA⟩
  obtain rfl:i=3:=oM;obtain⟨aC,a2,aR⟩:=X.sl;have bt:=A_ a2;have bn:=A_ (show ∀ E∈aC,w.1.size<=E from λE S=>by have aJ:=aR E S;have aK:=W.size;omega);have bg:=A_ (Below.next W X.bl);clear aX J a2 aR;go_wp2;go_ret;exact⟨_,_,_,aC,rfl,bt,bn,bg⟩
end Go.Proofs.YtbhemnidcleaiaaGreat.X
