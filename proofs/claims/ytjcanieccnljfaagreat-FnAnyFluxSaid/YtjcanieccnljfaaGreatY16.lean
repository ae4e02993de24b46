/- A part of the proof. -/
import Derived.Test.YtjcanieccnljfaaGreatY15
import Derived.Test.YtjcanieccnljfaaGreatY3
set_option linter.constructorNameAsVariable false
set_option maxHeartbeats 16000000
set_option maxRecDepth 10000
open Bool renaming false→AH,true→AF
open Go renaming Addr→AJ,Calls→BL,Value→AU,World→AD,bodyPost_ret→CK,heap_alloc_new→DB,maxLen→BS,results→CO
open Go.Value renaming agg→BJ,bool→J,int→RH,slice→S
open Go.XB.Below renaming box→BP,next→BH
open Go.XB.MP renaming agg→CH
open Go.XB.TPoint renaming agg→EW,elemA→GD
open Go.XB.TProblem renaming agg→IF
open Go.XB.TRat renaming agg→CF,elemA→IM
open List renaming all_eq_true→CU,dropLast→DN,drop_succ_cons→GU,drop_zero→FF,getElem?_eq_some_iff→DM,getLast→DO,length→DQ,mem_of_getElem?→DH,replicate→DK,take_of_length_le→DT,take_succ_cons→GT,take_zero→FM
open Nat renaming le_refl→CE,le_trans→CJ,lt_or_ge→CG
open Option renaming none→I,some→QZ
namespace Go.Proofs.YtjcanieccnljfaaGreat.X
open Go.RowKit Go.XB Go.XN Proofs.Tryz
theorem C6l {a b c x y:TPoint} {k:Nat} (h:k<3) (u:[a,b,c][(k+1) % 3]?=QZ x) (D:[a,b,c][(k+2) % 3]?=QZ y) :
  [A2f b c,A2f c a,A2f a b].take k++[A2f x y]=[A2f b c,A2f c a,A2f a b].take (k+1):=by
 obtain rfl|rfl|rfl:k=0\/k=1\/k=2:=oS;all_goals (cases u;cases D;rfl)
attribute [local go_sem] L_ opAt N_ M_ Region.wanted yielded
attribute [local simp] N_ M_ MP.eq MP.agg MP.sl MP.slbox A0r
theorem C6d (A:Option AJ) (c:Nat) (D b1 E:TPoint) (bs:List Nat) (w:AD) (ar:Sl w A 3 c [D,b1,E] bs) :
  BL prog 161 #[S A 3 c] w (A0w w [A2f b1 E,A2f E D,A2f D b1]):=by
 have ae:=A_ ar;clear ar;go_enter func161,ntmps161;go_wp2_with fail;go_loopg [3,8] 3 (λg v s wr=>∃ (k gB cap:Nat),k+g=3/\s=RH .i64 k/\v=S (QZ ⟨gB,0,I⟩) k cap/\Hid (Pend w w 41 wr gB k cap ([A2f b1 E,A2f E D,A2f D b1].take k)));case atStart=>exact⟨0,w.1.size,0,rfl,rfl,rfl,Pend.start (Below.refl _ _)⟩
 case round =>
  obtain⟨k,gB,cap,ao,rfl,rfl,G⟩:=hrel;rcases CG k 3 with X|X
  ·obtain⟨g,rfl⟩:∃ g,gk=g+1:=⟨gk - 1,oS⟩
   have bd:=A_ (by omega:k+1+g=3);have bL:(k:Int)<3:=oS;obtain⟨⟨m1,m2⟩,bf,bg⟩:=F1e X;obtain⟨br,bW,x,bk,bO,bu,bZ,bl,bP,bv,b0,bm,bQ,bz,b3,X5,bR,bA,b4,rfl,a9,au,aV,aW,aX,aY,aZ,a1,am⟩:=GD (ae.below G.bw) bf;obtain⟨bt,bX,y,bn,bS,bB,b5,bo,bT,bD,b6,bp,bU,bE,b7,bq,bV,bF,b8,Y,ba,aw,a2,a3,a4,a5,a6,a7,an⟩:=GD (ae.below G.bw) bg;injection Y with Y;injection Y with h1 h2 _;subst h1;subst h2;have aP:=A_ (C6l X au aw);have aI:=A_ am;have aJ:=A_ an;have aH:=A_ (by unfold BS;omega:k+1<=BS/\(k+1)*112<=140737488355328);clear au aw am an ba ao;generalize (k+1) % 3=j at *;generalize (k+2) % 3=l at *;have bM:(j:Int)<3:=oS;have bN:(l:Int)<3:=oS;go_wp2_with fail;refine W_ 15 kR kR kR kR kR ?_;simp only[GT,FM,GU,FF];iterate 13 refine C_ _ ?_
   refine D_ (CH (A2f x y)) ?_ ?_;·intro H O u h b;obtain⟨bJ,bK⟩:=F_ h;simp at b;refine G_ ?_;exact H_ (B1s _ _ x y _ _ u (aI.below h) (aJ.below h))
   refine A1d (λaE=>MP.slbox (aE 13).cells 41) (by intro y aE aj;simp[N_,M_]at aj;simp[aj]) ?_ ?_;·intro H O u h b;simp at b;obtain⟨aa,az,af,aR,ab,aA,ag,aS,ac,aB,ah,aT,ad,aC,ai,aU,W,_,_,_,_,_⟩:=EW b.1;refine⟨gD,S (QZ ⟨u.1.size,0,I⟩) 1 1,u.alloc (.cells (H 13).cells 41),?_,BP _,[u.1.size],⟨u.1.size,rfl,rfl,DB u _⟩,sI⟩;rw[W];go_simp
   intro H O wa h b (bc:Hid _);simp at b;have aD:=b.1;have bh:=b.2.2.2.2.2.2.2.2.2.2.2.2.2.1;have bi:=b.2.2.2.2.2.2.2.2.2.2.2.2.2.2;obtain⟨⟨ak,al⟩,aq⟩:=bh;obtain⟨aa,az,af,aR,ab,aA,ag,aS,ac,aB,ah,aT,ad,aC,ai,aU,W,aF,k1,k2,ax,ay⟩:=EW ak;obtain⟨⟨bI,bH,bj,Z⟩,be⟩:=bi;rw[W]at Z;have aG:=A_ (by rw[aF];exact TPoint.shut k1 k2 ax ay:Dat.at_ wa [J (A2f x y).x.1.1,S aa az af,S ab aA ag,J (A2f x y).y.1.1,S ac aB ah,S ad aC ai] (A2f x y) (O 13));have aL:=A_ al;have aO:=A_ (show ∀ T∈O 13,wr.1.size<=T from λT a8=>(aq T a8).1);have aM:=A_ Z;have bG:H 0=S (QZ ⟨gB,0,I⟩) k cap:=aD.1.1;have aK:=A_ h;clear b bc ak al aq aF k1 k2 ax ay Z be bj aD aV aW aX aY aZ a1 a2 a3 a4 a5 a6 a7 a9 h;go_wp2_with (at_builtin;refine C7w rfl rfl underlying23 D1n G aK (A0a aM) aG aL aO aH ?_;intro g' aQ bY ap _ _);have aN:=A_ (aP.o ▸ ap.o);clear ap;go_wp2_with fail;go_roundg g;case measure=>omega
   case rel=>exact⟨k+1,g',aQ,bd,gN,rfl,aN⟩
  obtain rfl:k=3:=oS;clear ao;go_wp2;go_ret;exact G.done
def B5b (a b c:TPoint):List TPoint:=[A2f b c,A2f c a,A2f a b]
def C5f (a b c:TPoint) (fs:List TRat) (more:TPoint):Nat->TRat
 |0=>U_ 0
 |k+1=>A0k (C5f a b c fs more k) (A1k (A3y (A2q a b c fs ((B5b a b c).getD k pt0)) more) (A3y (A2q a b c fs ((B5b a b c).getD k pt0)) more))
def C1a (a b c:TPoint) (fs:List TRat) (more:TPoint):TRat:=A0d (A6c a b c) (A0d (mkR 1 3) (C5f a b c fs more 3))

theorem C3h (A:Option AJ) (c:Nat) (b b1 h:TPoint) (bs:List Nat) (B:Option AJ) (d:Nat) (D:List TRat) (a3:List Nat) (bm:AU) (z:TPoint) (bO:List Nat) (w:AD) (ag:Sl w A 3 c [b,b1,h] bs) (a9:Sl w B 3 d D a3) (aF:Agg w bm z bO)
  (a7:J_ (A2y b b1 h)=AF) (a8:(A2y b b1 h).1.2≠[]) :
  BL prog 101 #[S A 3 c,S B 3 d,bm] w (A0c w (C1a b b1 h D z)):=by
 have ar:=A_ ag;have bv:=A_ a9;have bF:=A_ aF;have bt:=A_ a7;have bu:=A_ a8;obtain⟨cv,dq,cL,dv,cw,dr,cM,dw,cx,ds,cN,bk,cy,dt,cO,b9,rfl,rfl,bW,bX,am,bY⟩:=EW aF;clear bW bX am bY ag a9 aF a7 a8;go_enter func101,ntmps101;go_wp2_with fail;refine BL.new2 λw0 aj=>?_;refine(A0l 0 w0 oG).mono ?_;rintro _ ai ⟨v1,ca,rfl,aA,bV,al⟩;obtain⟨O1,dn,cJ,o1,O2,dp,cK,o2,rfl,-,-,-⟩:=CF aA;have aN:=A_ aA;have aw:=A_ (A0z aj.k al);have au:=A_ (A0z aj.l al);have br:=A_ (BH aj.b al);clear aA bV al aj;go_upto_region 2 with fail;refine Code.new λce Y=>?_;have aX:=A_ (RatBox.new (x:=C5f b b1 h D z 0) aN Y);have ao:=A_ (BH br Y.b);have aW:=A_ (A0z aw Y.b);have aU:=A_ (A0z au Y.b);have de:=E_ aw;have dd:=E_ au;have ax:=A_ (E_ Y.k);clear aN aw au Y;go_wp2_with fail;refine(C6d A c b b1 h bs ce (ar.below ao)).mono ?_;rintro _ w3 ⟨M,b5,bP,ms,rfl,aE,bd,Z⟩;obtain rfl:3=b5:=aE.1;have bB:=A_ (show Sl w3 M 3 bP (B5b b b1 h) ms from aE);have bD:=A_ (show ai.1.size∉ms from λaz=>by have:=(bd.2 _ az).1;have:=ax.o;omega);have aO:=A_ (BH ao Z);have aY:=A_ (aX.below Z);have bI:=A_ (A0z aW Z);have bG:=A_ (A0z aU Z);have dc:ai.1.size<w3.1.size:=by have:=Z.size;have:=ax.o;omega
 clear aE bd Z aX ao aW aU ax;go_wp2_with fail;go_loopg [15] 3 (λg s wr=>∃ (k:Nat) (bl:List Nat),k+g=3/\s=RH .i64 k/\Hid (w3.grownBy wr (QZ ai.1.size))/\Hid (RatBox wr ai.1.size (C5f b b1 h D z k) bl));case atStart=>exact⟨0,ca,rfl,rfl,B3a w3 _,aY⟩
 case round =>
  clear aY;obtain⟨k,bl,bc,rfl,ae,a6⟩:=hrel;have ab:=A_ (aO.grown ae aO.size (λx ag=>by injection ag with ag;omega));have bJ:=A_ (B8b bI.o ae.o oS);have aV:=A_ (B8b bG.o ae.o oS);have bE:=A_ (bB.keepG ae bD);obtain⟨P1,n1,m1,P2,n2,m2,bh,a4,c8⟩:=a6.o;have aR:=A_ bh;have aJ:=A_ a4;obtain⟨cm,-,b4⟩:=bx bJ;clear bh a4 a6;rcases CG k 3 with af|af
  ·have c7:(k:Int)<3:=oS
   obtain⟨g,rfl⟩:∃ g,gk=g+1:=⟨gk - 1,oS⟩
   have bU:=A_ (by omega:k+1+g=3);have c6:k+1<=3:=af;obtain⟨cz,du,x,cn,df,cA,cP,co,dg,cB,cQ,cp,dh,cD,cR,an,di,cE,cU,bR,c2,bg,cV,cW,cX,cY,cZ,c0,a5⟩:=GD bE af;subst bR;have bK:=A_ (show A0k (C5f b b1 h D z k) (A1k (A3y (A2q b b1 h D x) z) (A3y (A2q b b1 h D x) z))=C5f b b1 h D z (k+1) by rw[C5f,List.getD_eq_getElem?_getD,bg];rfl);have bA:=A_ a5;generalize C5f b b1 h D z k=X at *;clear bc af bg a5;go_wp2_with fail;refine X_ sI ?_;dsimp only[DN,DO,DQ];iterate 3 refine C_ _ ?_
   refine D_ (CH (A2q b b1 h D x)) ?_ ?_;·intro O G H E u;obtain⟨T,W⟩:=F_ E;simp at u;refine G_ ?_;exact H_ (D6l A c b b1 h bs B d D a3 _ x _ H ((ar.below ab).below Below.go) ((bv.below ab).below Below.go) (bA.below Below.go) bt bu)
   refine C_ _ ?_;refine D_ (CH (A3y (A2q b b1 h D x) z)) ?_ ?_;·intro O G H E u;obtain⟨T,W⟩:=F_ E;simp at u;refine G_ ?_;obtain⟨t,_⟩:=u;exact H_ (A4x _ _ (A2q b b1 h D x) z _ _ H t.1 ((bF.below ab).below Below.go))
   refine A1p #[J AH,S I 0 0,S I 0 0,J AH,S I 0 0,S I 0 0] 41 ?_ ?_;·intro O G H E u;refine⟨gD,?_⟩;go_simp
   intro O G wa E u (aa:Hid _);simp at u;have ah:=u.2.2.2.2.2.1;have b8:=u.2.2.2.2.2.2;obtain⟨⟨gb,dD,aH,aD⟩,be⟩:=b8;obtain⟨aL,bi,a1,u1,aM,bj,a2,u2,cq,dj,cF,dy,cs,dk,cG,dz,ck,-,-,-,-,-⟩:=EW ah.1.1;have aB:=ah.1.1;rw[ck]at aB;have ap:=A_ (show Bw wr wa from Below.go);have bS:wr.1.size<=gb:=by have:=(be gb (by rw[aH];simp)).1;(try simp at this);omega
   have an:=A_ (show gb∉G 5 from λaC=>by have:=aa 5 6 dE dE dE _ aC;rw[aH]at this;simp at this);have aI:=A_ aB;have aQ:=A_ aD;obtain⟨cb,cc,bT⟩:=bx aD;generalize G 5=b9 at *;clear u aa be E aB aH ah aD;go_upto_region 6 with fail;refine Code.set6 aQ λbN ak=>?_;have aq:=A_ (ak.low ap ap.size bS);have aK:=A_ (aI.keepG ak.gr an);have aT:=A_ (A0z aR aq);obtain⟨bQ,-,c5⟩:=bx ak.k;obtain⟨b3,-,c1⟩:=bx aT;clear cb cc bT aQ aI ap ak an;refine X_ sI ?_;dsimp only[DN,DO,DQ];iterate 3 refine C_ _ ?_
   refine D_ (CH (A1k (A3y (A2q b b1 h D x) z) (A3y (A2q b b1 h D x) z))) ?_ ?_;·intro O G H E u;obtain⟨T,W⟩:=F_ E;simp at u;refine G_ ?_;exact H_ (A8z _ _ (A3y (A2q b b1 h D x) z) (A3y (A2q b b1 h D x) z) _ _ H (aK.below Below.go) (aK.below Below.go))
   refine D_ (CH (A0k X (A1k (A3y (A2q b b1 h D x) z) (A3y (A2q b b1 h D x) z)))) ?_ ?_;·intro O G H E u;obtain⟨T,W⟩:=F_ E;simp at u;refine G_ ?_;obtain⟨_,t,_⟩:=u;exact H_ (A0x _ _ X (A1k (A3y (A2q b b1 h D x) z) (A3y (A2q b b1 h D x) z)) _ _ H ((aJ.below aq).below Below.go) t)
   intro O G wb E u (aa:Hid _);simp at u;have b7:=u.2.2.2.2;obtain⟨⟨ac,-⟩,am⟩:=b7;rw[bK.o]at ac;obtain⟨ct,dl,cH,v1,cu,dm,cI,v2,cj,-,-,-⟩:=CF ac;rw[cj]at ac;have aP:=A_ (show Bw bN wb from Below.go);have bn:=A_ ac;have bL:=A_ (show ai.1.size∉G 4 from λaz=>by have:=(am _ az).1;(try simp at this);omega);have aS:=A_ (A0z aT aP);have bz:=A_ (E1s ae (BH aq aP));obtain⟨da,db,c9⟩:=bx aS;generalize G 4=bk at *;clear u aa ac am E b3 bQ;go_upto_region 7 with fail;refine Code.set3 aS λV aZ=>?_;go_wp2_with fail;go_roundg g;case measure=>omega
   case rel=>exact⟨k+1,bk,bU,gN,gtr bz aZ.gr,RatBox.set bn aZ bL⟩
  obtain rfl:k=3:=oS;have bq:=A_ (show A0d (A6c b b1 h) (A0d (mkR 1 3) (C5f b b1 h D z 3))=C1a b b1 h D z from rfl);generalize C5f b b1 h D z 3=X at *;obtain⟨ch,cg,b0⟩:=bx aV;obtain⟨b6,-,bZ⟩:=bx aR;clear bc af;go_wp2_with fail;refine X_ sI ?_;dsimp only[DN,DO,DQ];refine C_ _ ?_;refine D_ (CH (A6c b b1 h)) ?_ ?_;·intro O G H E u;obtain⟨T,W⟩:=F_ E;simp at u;refine G_ ?_;exact H_ (B3h A c b b1 h bs H ((ar.below ab).below Below.go))
  refine D_ (CH (mkR 1 3)) ?_ ?_;·intro O G H E u;obtain⟨T,W⟩:=F_ E;simp at u;refine G_ ?_;exact H_ (A7u 1 3 H oG oG dE)
  refine C_ _ ?_;refine D_ (CH (A0d (mkR 1 3) X)) ?_ ?_;·intro O G H E u;obtain⟨T,W⟩:=F_ E;simp at u;refine G_ ?_;obtain⟨aG,_⟩:=u;exact H_ (A0n _ _ (mkR 1 3) X _ _ H aG.1 (aJ.below Below.go))
  refine D_ (CH (A0d (A6c b b1 h) (A0d (mkR 1 3) X))) ?_ ?_;·intro O G H E u;obtain⟨T,W⟩:=F_ E;simp at u;refine G_ ?_;obtain⟨aG,cd,_⟩:=u;exact H_ (A0n _ _ (A6c b b1 h) (A0d (mkR 1 3) X) _ _ H aG.1 cd)
  intro O G wa E u (aa:Hid _);simp at u;have ah:=u.2.2.2.2.2;obtain⟨⟨ad,ba⟩,bf⟩:=ah;rw[bq.o]at ad;obtain⟨aL,bi,a1,u1,aM,bj,a2,u2,ci,-,-,-⟩:=CF ad;rw[ci]at ad;have bo:=A_ ad;have bp:=A_ ba;have bM:=A_ (show ∀ ay∈G 5,w.1.size+2<=ay from λay aC=>by have:=(bf ay aC).1;(try simp at this);omega);have bH:=A_ (A0z aV E);have c4:=BH ab E;obtain⟨dB,dA,l1⟩:=bx bH;generalize G 5=dx at *;clear u aa ad ba bf ch cg b6 bZ b0 cm b4;go_wp2;refine CK (v:=BJ #[J (C1a b b1 h D z).1.1,S aL bi a1,S aM bj a2]) (by simp[CO,results101,go_sem, *]) rfl ?_;refine A1s (lo:=w.1.size+2) bo.o bp.o bM.o oS ?_ ?_;·exact Above.go
  exact Below.go
structure FluxI (m:TMesh) (xs ys:List Int) (fs:List TRat):Prop where
 mesh:MeshI m xs ys
 len:fs.length=(P_ m.triangles).length
 ok:fs.all J_=AF
theorem A5n (A:Option AJ) (n c:Nat) (xs:List TRat) (bs:List Nat) (w:AD) (h:Sl w A n c xs bs) (b:xs.all J_=AF) :
  BL prog 93 #[S A n c,RH .i64 n] w (A0b w (J AF)):=by
 have D:=A_ h;have u:=A_ b;clear h b;go_enter func93,ntmps93;go_wp2_with fail;have C:=A1r A n c xs bs w D;rw[u.o]at C;refine C.mono ?_;clear C;rintro _ G ⟨rfl,E⟩;go_wp2;go_ret;exact⟨rfl,E⟩
theorem C5c (v:AU) (m:TMesh) (b:List Nat) (xs ys:List Int) (B:Option AJ) (u d:Nat) (D:List TRat) (X:List Nat) (w:AD) (E:Agg w v m b) (aa:Sl w B u d D X) (Y:FluxI m xs ys D) :
  BL prog 42 #[v,S B u d] w (A0b w (J AF)):=by
 have W:=A_ E;have T:=A_ aa;have h:=A_ Y;obtain⟨aj,aw,am,ax,ak,n1,an,ay,rfl,rfl,af,ag⟩:=TMesh.agg E;clear af ag E aa Y;go_enter func42,ntmps42;go_wp2_with fail;refine(B1u _ m _ xs ys _ (W.below Below.go) h.1).mono ?_;rintro _ G ⟨rfl,Z⟩;obtain⟨aq,ar⟩:=F_ Z;have au:w.1.size<G.1.size:=ltg Z;have H:=A_ (show Bw w G from Below.go);go_wp2_with fail;refine(A7q _ m _ G (W.below H) h.1.t48).mono ?_;rintro _ ai ⟨al,ah,ao,ap,rfl,ab,ae,ac⟩;obtain rfl:u=ah:=by rw[<-ab.1,<-T.o.1];exact h.len
 have O:=A_ (BH H ac);clear ab ae;go_wp2_with fail;refine(A5n B u d D X ai (T.below O) h.ok).mono ?_;rintro _ w3 ⟨rfl,ad⟩;go_wp2;go_ret;exact⟨rfl,BH O ad⟩

def B4q (x:TRat):Prop:=x.1.2.length<=24/\x.2.length<=24
theorem B1b {x:TRat} (h:J_ x=AF):B4q x:=⟨(ratOkB_iff.1 h).num24,(ratOkB_iff.1 h).den24⟩
theorem B6l {xs:List TRat} (h:xs.all J_=AF):∀ x∈xs,B4q x:=λx hx=>B1b (CU.1 h x hx)
theorem D5e (a b:Int):B4q (mkR a b):=by
 unfold mkR;split;·rename_i h;exact h
 exact⟨dE,dE⟩
theorem C9z (r s:TRat):B4q (A0k r s):=by
 unfold A0k;split;·exact D5e _ _
 exact⟨dE,dE⟩
theorem A0e {α:Type} {l:List α} {n:Nat} {d x:α} (h:l[n]?=QZ x):l.getD n d=x:=by simp[List.getD,h]
theorem A2l (A:Option AJ) (n c:Nat) (xs:List TRat) (bs:List Nat) (w:AD) (al:Sl w A n c xs bs) (aW:n<=144) (aj:∀ x∈xs,B4q x) :
  BL prog 62 #[S A n c] w (A0w w xs):=by
 have ac:=A_ al;have au:=A_ aj;have aX:(n:Int)<=144:=oS;obtain⟨aH,aA,aE,aF,aG⟩:=info_parts B2r;clear al aj;go_enter func62,ntmps62;go_wp2_with fail;have ae:=A_ (Pend.start (α:=TRat) (e:=39) (Below.refl w.1.size w));go_loopg [3,9] n (λg s3 s wr=>∃ (i gB cap:Nat),i+g=n/\s=RH .i64 i/\s3=S (QZ ⟨gB,0,I⟩) i cap/\Hid (Pend w w 39 wr gB i cap (xs.take i)));case atStart=>exact⟨0,w.1.size,0,oS,rfl,rfl,ae.o⟩
 case round =>
  clear ae;obtain⟨i,gB,cap,ai,rfl,rfl,h⟩:=hrel;have aq:=A_ h.bw;rcases CG i n with b|b
  ·have aC:(i:Int)<n:=oS
   obtain⟨g,rfl⟩:∃ g,gk=g+1:=⟨gk - 1,oS⟩
   have aB:=A_ (by omega:i+1+g=n);have aV:i+1<=n:=b;have an:=A_ (by unfold BS;omega:i+1<=BS);have ao:=A_ (by omega:(i+1)*56<=140737488355328);obtain⟨aM,aY,x,aK,n1,aN,aZ,aL,n2,aO,a1,rfl,aU,W,aP,aQ,aR,ag⟩:=IM (ac.below aq) b;have ad:=A_ (au x (DH W));have ax:=A_ (take_step W);have ap:=A_ ag;clear ai b ag W;go_wp2_with fail;refine(A3n _ x _ _ (ap.below Below.go) (CJ ad.1 dE) (CJ ad.2 dE)).mono ?_;rintro _ wa ⟨a2,am,rfl,O,T,ah⟩;obtain⟨u,X,G,aS,D,Y,H,aT,rfl,aJ,_,_⟩:=CF O;have Z:=A_ (A3x (O.below (BP (.cells #[J x.1.1,S u X G,S D Y H] 39))));have aa:=A_ ((T.below (BP (.cells #[J x.1.1,S u X G,S D Y H] 39))).free);have ab:=A_ (show ∀ E∈am,wr.1.size<=E from λE ay=>by have:=(T.2 E ay).1;simp at this;omega);have ar:=A_ (show Bw wr wa from Below.trans (BP _) (ah.mono sI));clear O T aJ ah;go_wp2_with (at_builtin;refine A1v rfl _ _ 27 rfl 39 aH (BJ #[J AH,S I 0 0,S I 0 0]) 56 underlying27 aA aE aF aG rfl h (BH ar (BP _)) gD ⟨wa.1.size,0,I⟩ 1 [J x.1.1,S u X G,S D Y H] x am gD (A0a (DB wa _)) Z aa ab an ao ?_;intro g' af aI ak az aD);have aw:=A_ (by rw[ax.o];exact ak:Pend w w 39 aI g' (i+1) af (xs.take (i+1)));clear ak az aD Z aa ab h;go_wp2_with fail;go_roundg g;case measure=>omega
   case rel=>exact⟨i+1,g',af,aB,gN,rfl,aw⟩
  obtain rfl:i=n:=oS;have aC:¬ ((i:Int)<i):=oS;clear ai b;go_wp2;go_ret;have:=h.done;rwa [DT (by rw[ac.o.1];exact CE _)]at this
section
structure AccSt (w U:AD) (g r0:Nat) (x:TRat) (P1:Option AJ) (p1 q1:Nat) (P2:Option AJ) (p2 q2:Nat) (rl:List Nat):Prop where
 bl:Bw w U
 rb:RBox U g x P1 p1 q1 P2 p2 q2
 ag:Agg U (BJ #[J x.1.1,S P1 p1 q1,S P2 p2 q2]) x rl
 ow:Own w U rl
 dl:g∉rl/\r0∉rl
 rs:U.1[r0]?=QZ (.cells #[J AH,S I 0 0,S I 0 0] 39)
 lo:w.1.size<=r0/\r0<g
section
variable {w U U':AD} {g r0:Nat} {x y:TRat} {P1:Option AJ} {p1 q1:Nat} {P2:Option AJ} {p2 q2:Nat} {rl ry:List Nat} {O1:Option AJ} {o1 u1:Nat} {O2:Option AJ} {o2 u2:Nat}
theorem AccSt.below (h:AccSt w U g r0 x P1 p1 q1 P2 p2 q2 rl) (hb:Bw U U'):AccSt w U' g r0 x P1 p1 q1 P2 p2 q2 rl :=
 ⟨BH h.bl hb,h.rb.below hb,h.ag.below hb,h.ow.below hb,h.dl,O_ h.rs hb,h.lo⟩
theorem AccSt.set (h:AccSt w U g r0 x P1 p1 q1 P2 p2 q2 rl) (T:Agg U (BJ #[J y.1.1,S O1 o1 u1,S O2 o2 u2]) y ry) (E:Own w U ry) (D:g∉ry/\r0∉ry) :
  AccSt w (((U.setCell ⟨g,0,I⟩ (J y.1.1)).setCell ⟨g,1,I⟩ (S O1 o1 u1)).setCell ⟨g,2,I⟩ (S O2 o2 u2)) g r0 y O1 o1 u1 O2 o2 u2 ry:=by
 have G:w.1.size<=g:=by have:=h.lo;omega
 refine⟨((h.bl.setCell (p:=⟨g,0,I⟩) G _).setCell (p:=⟨g,1,I⟩) G _).setCell (p:=⟨g,2,I⟩) G _,h.rb.set,T.keep (λb u=>A0p b (λe=>D.1 (e ▸ u))),⟨E.1,λb u=>⟨(E.2 b u).1,?_⟩⟩,D,(A0p _ (by have:=h.lo;omega)).trans h.rs,h.lo⟩;obtain⟨H,t,e⟩:=(E.2 b u).2;exact⟨H,t,(A0p (g:=g) b (λO=>D.1 (O ▸ u))).trans e⟩
theorem AccSt.o (h:AccSt w U g r0 x P1 p1 q1 P2 p2 q2 rl) :
  A0c w x (.returned (BJ #[J x.1.1,S P1 p1 q1,S P2 p2 q2])) (((U.setCell ⟨r0,0,I⟩ (J x.1.1)).setCell ⟨r0,1,I⟩ (S P1 p1 q1)).setCell ⟨r0,2,I⟩ (S P2 p2 q2)):=by
 have D:w.1.size<=r0:=h.lo.1;refine⟨_,rl,rfl,h.ag.keep (λb u=>A0p b (λe=>h.dl.2 (e ▸ u))),⟨h.ow.1,λb u=>⟨(h.ow.2 b u).1,?_⟩⟩,((h.bl.setCell (p:=⟨r0,0,I⟩) D _).setCell (p:=⟨r0,1,I⟩) D _).setCell (p:=⟨r0,2,I⟩) D _⟩;obtain⟨E,t,e⟩:=(h.ow.2 b u).2;exact⟨E,t,(A0p (g:=r0) b (λG=>h.dl.2 (G ▸ u))).trans e⟩
theorem F6l {w U:AD} {lo:Nat} {rl:List Nat} (h:Free U rl) (hr:∀ b∈rl,lo<=b) (hl:w.1.size<=lo):Own w U rl:=⟨h.1,λb hb=>⟨CJ hl (hr b hb),h.2 b hb⟩⟩
end
end
structure ProbI (p:TProblem) (xs ys:List Int):Prop where
 mesh:MeshI p.1 xs ys
 dl:p.2.length=3
 dok:p.2.all J_=AF
 dpos:∀ r∈p.2,0<R_ r
 sl:p.3.length=3
 sok:p.3.all J_=AF
 reg:∀ t∈p.1.triangles,0<=t.4/\t.4<3
theorem B2t:A4f 116:=λa w=>kR
theorem B4e (v:AU) (x:TRat) (b:List Nat) (w:AD) (h:Agg w v x b) (D:J_ x=AF) (E:0<R_ x):BL prog 116 #[v] w (A0b w (J AH)):=by
 have T:=A_ h;have u:=A_ (ratOkB_iff.1 D);have O:=A_ (by unfold A2v sgn;rw[if_neg oS,if_pos E]:A2v x=1);obtain⟨G,n1,W,ab,H,n2,X,ac,rfl,rfl,Z,aa⟩:=CF h;clear Z aa h D E;go_enter func116,ntmps116;go_wp2_with fail;have C:=A7y _ x _ _ (T.below (BP (.cells #[J x.1.1,S G n1 W,S H n2 X] 39))) u.mag (A4h u.1);rw[O.o]at C;refine C.mono ?_;clear C;rintro _ ad ⟨rfl,Y⟩;go_wp2;go_ret;exact⟨rfl,Below.trans (BP _) (Y.mono sI)⟩
theorem B5u (v:AU) (p:TProblem) (b:List Nat) (xs ys:List Int) (w:AD) (H:Agg w v p b) (u:ProbI p xs ys):BL prog 49 #[v] w (A0b w (J AF)):=by
 have ao:=A_ H;have h:=A_ u;obtain⟨am,aA,ap,aB,an,n1,aq,aC,T,n2,Z,ac,ae,ak,c3,al,rfl,rfl,ai,aj,E,G⟩:=IF H;have W:=A_ E;have af:=A_ G;obtain rfl:3=n2:=by rw[<-E.1];exact u.dl.symm
 obtain rfl:3=ak:=by rw[<-G.1];exact u.sl.symm
 clear ai aj E G H u;go_enter func49,ntmps49;go_wp2_with fail;refine(A5n T 3 Z p.2 ac _ (W.below Below.go) h.dok).mono ?_;rintro _ O ⟨rfl,aa⟩;obtain⟨ar,aw⟩:=F_ aa;have ay:w.1.size<O.1.size:=ltg aa;have X:=A_ (show Bw w O from Below.go);go_wp2_with fail;refine(A5n ae 3 c3 p.3 al O (af.below X) h.sok).mono ?_;rintro _ ad ⟨rfl,D⟩;obtain⟨au,ax⟩:=F_ D;have az:w.1.size<ad.1.size:=ltg D;have Y:=A_ (BH X D);go_wp2_with fail;have C:=A7e 116 B2t T 3 Z p.2 ac ad (λ_=>AH) (W.below Y) (λv x b w ab ag=>B4e v x b w ag (CU.1 h.dok x ab) (h.dpos x ab));rw[show p.2.any (λ_=>AH)=AH by simp]at C;refine C.mono ?_;clear C;rintro _ w3 ⟨rfl,ah⟩;go_wp2;go_ret;exact⟨rfl,BH Y ah⟩
theorem B5t (v:AU) (p:TProblem) (b:List Nat) (xs ys:List Int) (w:AD) (h:Agg w v p b) (H:ProbI p xs ys):BL prog 19 #[v] w (A0b w (J AF)):=by
 have X:=A_ h;have E:=A_ H;obtain⟨ab,al,af,an,ac,n1,ag,ao,ad,n2,ah,ap,ae,am,c3,aq,rfl,rfl,O,T,Z,aa⟩:=IF h;have W:=A_ (TMesh.mkAgg (x:=p.1) O T);clear O T Z aa h H;go_enter func19,ntmps19;go_wp2_with fail;refine(B5u _ p _ xs ys _ (X.below Below.go) E).mono ?_;rintro _ u ⟨rfl,G⟩;obtain⟨ai,aj⟩:=F_ G;have ak:w.1.size<u.1.size:=ltg G;have D:=A_ (show Bw w u from Below.go);go_wp2_with fail;refine(B1u _ p.1 _ xs ys u (W.below D) E.1).mono ?_;rintro _ ar ⟨rfl,Y⟩;go_wp2;go_ret;exact⟨rfl,BH D Y⟩
theorem C8z (v:AU) (p:TProblem) (b:List Nat) (xs ys:List Int) (B:Option AJ) (m d:Nat) (us:List TRat) (E:List Nat) (w:AD) (h:Agg w v p b) (O:ProbI p xs ys) (W:Sl w B m d us E) (X:us.all J_=AF) (H:m=p.1.1.length):BL prog 33 #[v,S B m d] w (A0b w (J AF)):=by
 have ab:=A_ h;have Y:=A_ O;have Z:=A_ W;have aa:=A_ X;obtain⟨ah,ag,al,au,ai,n1,am,aw,aj,n2,an,ax,ak,ar,c3,ay,rfl,rfl,T,ad,ae,af⟩:=IF h;obtain rfl:m=ag:=by rw[H];exact T.1
 clear T ad ae af h O W X H;go_enter func33,ntmps33;go_wp2_with fail;refine(A5n B m d us E _ (Z.below Below.go) aa).mono ?_;rintro _ u ⟨rfl,G⟩;obtain⟨ao,ap⟩:=F_ G;have aq:w.1.size<u.1.size:=ltg G;have D:=A_ (show Bw w u from Below.go);go_wp2_with fail;refine(B5t _ p _ xs ys u (ab.below D) Y).mono ?_;rintro _ az ⟨rfl,ac⟩;go_wp2;go_ret;exact⟨rfl,BH D ac⟩
theorem B1h (v:AU) (p:TProblem) (b:List Nat) (k:Nat) (t:TTri) (w:AD) (H:Agg w v p b) (E:p.1.triangles[k]?=QZ t) (X:p.2.length=3) (ao:0<=t.4/\t.4<3) :
  BL prog 98 #[v,RH .i64 k] w (C4o w (p.2.getD t.4.toNat A0h)):=by
 have aD:=A_ H;obtain⟨ay,aX,aE,a2,az,n1,aF,a3,aA,n2,aG,a4,aB,aY,c3,a5,rfl,rfl,ar,h,G,au⟩:=IF H;have am:k<n1:=by rw[<-h.1];exact(DM.1 E).1
 have an:n1<=BS:=CJ h.2.1 h.2.2.1;unfold BS at an;obtain rfl:3=n2:=by rw[<-G.1];exact X.symm
 obtain⟨ap,aq⟩:=ao;obtain⟨ad,aZ,x,rfl,aP,O,aH,aI,aJ,aj,aK,_⟩:=TTri.elemA h am;obtain rfl:x=t:=by rw[E]at O;exact(Option.some.inj O).symm
 obtain⟨j,D⟩:∃ j:Nat,x.4=j:=⟨x.4.toNat,oS⟩
 have al:j<3:=oS;have aU:(k:Int)<n1:=oS;obtain⟨ae,a1,y,Z,aw,af,ah,aa,ax,ag,ai,rfl,aQ,Y,aL,aM,aN,T⟩:=IM G al;have ab:=A_ (by rw[D];exact A0e Y:p.2.getD x.4.toNat A0h=y);have ac:=A_ T;have aO:ad<w.1.size+1+1:=oS;have aS:ae<w.1.size+1+1:=oS;rw[D]at aj ap aq;clear ar h G au H E X O Y T D;go_enter func98,ntmps98;go_wp2_with fail;refine X_ sI ?_;dsimp only[DN,DO,DQ];iterate 11 refine C_ _ ?_
 intro a6 a7 wa u W (ak:Hid _);simp at W;go_simp;have aC:=A_ (show Bw w wa from Below.go);obtain⟨aR,aT⟩:=F_ u;have aV:w.1.size<wa.1.size:=ltg u;have aW:w.1.size+1<wa.1.size:=ltg u;clear W ak;go_wp2;refine CK (v:=BJ #[J y.1.1,S Z aw af,S aa ax ag]) (by simp[CO,results98,go_sem, *]) rfl ?_;refine⟨_,ah++ai,rfl,?_,Below.go⟩;rw[ab.o];exact ac.below Below.go
theorem C1w (v:AU) (p:TProblem) (b:List Nat) (k:Nat) (t:TTri) (w:AD) (H:Agg w v p b) (E:p.1.triangles[k]?=QZ t) (X:p.3.length=3) (ao:0<=t.4/\t.4<3) :
  BL prog 123 #[v,RH .i64 k] w (C4o w (p.3.getD t.4.toNat A0h)):=by
 have aE:=A_ H;obtain⟨az,aY,aF,a2,aA,n1,aG,a3,aB,n2,aH,a4,aC,aw,c3,a5,rfl,rfl,ar,h,au,G⟩:=IF H;have am:k<n1:=by rw[<-h.1];exact(DM.1 E).1
 have an:n1<=BS:=CJ h.2.1 h.2.2.1;unfold BS at an;obtain rfl:3=aw:=by rw[<-G.1];exact X.symm
 obtain⟨ap,aq⟩:=ao;obtain⟨ad,aZ,x,rfl,aQ,O,aI,aJ,aK,aj,aL,_⟩:=TTri.elemA h am;obtain rfl:x=t:=by rw[E]at O;exact(Option.some.inj O).symm
 obtain⟨j,D⟩:∃ j:Nat,x.4=j:=⟨x.4.toNat,oS⟩
 have al:j<3:=oS;have aV:(k:Int)<n1:=oS;obtain⟨ae,a1,y,Z,ax,af,ah,aa,ay,ag,ai,rfl,aR,Y,aM,aN,aO,T⟩:=IM G al;have ab:=A_ (by rw[D];exact A0e Y:p.3.getD x.4.toNat A0h=y);have ac:=A_ T;have aP:ad<w.1.size+1+1:=oS;have aT:ae<w.1.size+1+1:=oS;rw[D]at aj ap aq;clear ar h au G H E X O Y T D;go_enter func123,ntmps123;go_wp2_with fail;refine X_ sI ?_;dsimp only[DN,DO,DQ];iterate 11 refine C_ _ ?_
 intro a6 a7 wa u W (ak:Hid _);simp at W;go_simp;have aD:=A_ (show Bw w wa from Below.go);obtain⟨aS,aU⟩:=F_ u;have aW:w.1.size<wa.1.size:=ltg u;have aX:w.1.size+1<wa.1.size:=ltg u;clear W ak;go_wp2;refine CK (v:=BJ #[J y.1.1,S Z ax af,S aa ay ag]) (by simp[CO,results123,go_sem, *]) rfl ?_;refine⟨_,ah++ai,rfl,?_,Below.go⟩;rw[ab.o];exact ac.below Below.go
def A3o (M:List Bool):Nat->List Int
 |0=>[]
 |i+1=>if M.getD i AH then A3o M i++[(i:Int)]else A3o M i
def A9l (M:List Bool):List Int:=A3o M M.length
def A6i (n:Nat) (L:List Int):Nat->List Bool
 |0=>DK n AH
 |i+1=>if inB 0 (L.getD i 0) ((n:Int) - 1)then(A6i n L i).set (L.getD i 0).toNat AF else A6i n L i
def B0a (n:Nat) (L:List Int):List Bool:=A6i n L L.length
def B4v (ts:List TTri) (es:List TEdge) (ks:List Int):Nat->List Bool
 |0=>DK es.length AH
 |i+1=>(B4v ts es ks i).set (A3z es (A2i (ts.getD (ks.getD i 0).toNat A4p).b (ts.getD (ks.getD i 0).toNat A4p).c)) AF
def B4n (ts:List TTri) (L:List Int):List Int:=A9l (B0a ts.length L)
def A3d (ts:List TTri) (L:List Int):List Int:=A9l (B4v ts (P_ ts) (B4n ts L) (B4n ts L).length)
def clT (es:List TEdge) (t:TTri) (M:List Bool×Bool):List Bool×Bool :=
 if !(M.1.getD (A3z es (A2i t.b t.c)) AH)&&(M.1.getD (A3z es (A2i t.a t.b)) AH || M.1.getD (A3z es (A2i t.c t.a)) AH)then(M.1.set (A3z es (A2i t.b t.c)) AF,AF)else M
def B2o (es:List TEdge) (ts:List TTri) (M:List Bool):Nat->List Bool×Bool
 |0=>(M,AH)
 |k+1=>clT es (ts.getD k A4p) (B2o es ts M k)
def C8n (es:List TEdge) (ts:List TTri):Nat->List Bool->Option (List Bool)
 |0,_=>I
 |g+1,M=>if (B2o es ts M ts.length).2 then C8n es ts g (B2o es ts M ts.length).1 else QZ (B2o es ts M ts.length).1
def A7b (ps:List TPoint) (es:List TEdge) (M:List Bool):Nat->List TPoint
 |0=>ps
 |i+1=>if M.getD i AH then A7b ps es M i++[A2f (Z_ ps (es.getD i A4o).a) (Z_ ps (es.getD i A4o).b)]else A7b ps es M i
def A8h (ps:List TPoint) (es:List TEdge) (M:List Bool):Nat->List Int
 |0=>DK es.length 0
 |i+1=>(A8h ps es M i).set i (if M.getD i AH then((A7b ps es M i).length:Int)else -1)
def A7f (es:List TEdge) (mids:List Int) (a b:Int):Int:=if A6o es (A2i a b)then mids.getD (A3z es (A2i a b)) 0 else -1
def B7h (t:TTri) (m:Int):TTri:=⟨m,t.a,t.b,t.4,t.5+1⟩
def B7k (t:TTri) (m:Int):TTri:=⟨m,t.c,t.a,t.4,t.5+1⟩
def A6w (es:List TEdge) (mids:List Int):Nat->TTri->List TTri
 |0,t=>[t]
 |d+1,t=>if A7f es mids t.b t.c<0 then [t]else A6w es mids d (B7h t (A7f es mids t.b t.c))++A6w es mids d (B7k t (A7f es mids t.b t.c))
def A3b (es:List TEdge) (mids:List Int) (ts:List TTri):Nat->List TTri
 |0=>[]
 |k+1=>A3b es mids ts k++A6w es mids 2 (ts.getD k A4p)
def A2m (m:TMesh) (M:List Bool):TMesh :=
 ⟨A7b m.1 (P_ m.triangles) M M.length,A3b (P_ m.triangles) (A8h m.1 (P_ m.triangles) M (P_ m.triangles).length) m.triangles m.triangles.length⟩
def B4h (es:List TEdge) (t:TTri):Bool:=A6o es (A2i t.b t.c)&&(A6o es (A2i t.c t.a)&&A6o es (A2i t.a t.b))
theorem B3f (n:Nat) (L:List Int):∀ i,(A6i n L i).length=n
 |0=>by simp[A6i]
 |i+1=>by
  unfold A6i
  split
  ·rw[List.length_set,B3f n L i]
  exact B3f n L i
theorem C7i (ts:List TTri) (es:List TEdge) (ks:List Int):∀ i,(B4v ts es ks i).length=es.length
 |0=>by simp[B4v]
 |i+1=>by rw[B4v,List.length_set,C7i ts es ks i]
theorem C1i {M:List Bool}:∀ {i:Nat} {x:Int},x∈A3o M i->0<=x/\x<i
 |0,x,h=>by simp[A3o]at h
 |i+1,x,h=>by
  unfold A3o at h
  split at h
  ·rcases List.mem_append.1 h with h|h
   ·have:=C1i h;omega
   simp at h;omega
  have:=C1i h;omega
theorem B7j (M:List Bool):∀ i,(A3o M i).length<=i
 |0=>CE _
 |i+1=>by
  have:=B7j M i
  unfold A3o
  split
  ·rw[List.length_append];simp;omega
  omega
theorem C5g (v1 v2:AU) (r s:TRat) (b1 b2:List Nat) (w:AD) (E:Agg w v1 r b1) (G:Agg w v2 s b2) (u:J_ r=AF) (D:J_ s=AF):BL prog 14 #[v1,v2] w (A0b w (RH .i64 (D2m r s))):=by
 have H:=A_ E;have O:=A_ G;have T:=A_ u;have W:=A_ D;obtain⟨ab,n1,af,an,ac,n2,ag,ao,rfl,rfl,-,-⟩:=CF E;obtain⟨ad,al,c3,ap,ae,am,ah,aq,rfl,rfl,-,-⟩:=CF G;have Y:=A_ (by unfold D2m;rw[u,D];rfl:D2m r s=A6u r s);clear E G u D;rw[Y.o];go_enter func14,ntmps14;go_wp2_with fail;refine BL.new3 λw0 N=>?_;have C:=A1r (QZ ⟨w.1.size+1+1,0,I⟩) 2 2 [r,s] _ w0 (sl2 N.m (H.below N.b) (O.below N.b));rw[show [r,s].all J_=AF by simp[T.o,W.o]]at C;refine C.mono ?_;clear C;rintro _ aa ⟨rfl,b⟩;have h:=A_ (BH N.b b);obtain⟨ai,-,aj⟩:=bx (A0z N.k b);obtain⟨ks,-,ak⟩:=bx (A0z N.l b);clear b N;go_wp2_with fail;refine(B0t _ _ r s _ _ aa (H.below h) (O.below h) (ratOkB_iff.1 T) (ratOkB_iff.1 W)).mono ?_;rintro _ ar ⟨rfl,X⟩;have Z:=A_ (BH h X);clear X;go_wp2;go_ret;exact⟨rfl,Z⟩
theorem C0f (v:AU) (m:TMesh) (b:List Nat) (xs ys:List Int) (bi:AU) (d:TPoint) (bP:List Nat) (w:AD) (aC:Agg w v m b) (an:MeshI m xs ys) (aA:Agg w bi d bP) (a7:A1b d=AF)
  (aY:∀ e∈P_ m.triangles,(0<=e.a/\e.a<m.1.length)/\(0<=e.b/\e.b<m.1.length)) (aX:(A4w m d).any A2e=AH) :
  BL prog 7 #[v,bi] w (λe w'=>∃ n gV cap,e=.returned (S (QZ ⟨gV,0,I⟩) n cap)/\RR (λb=>b<w.1.size\/b=gV) w' gV n cap (A4w m d)/\w.1.size<=gV/\Bw w w'):=by
 have aN:=A_ aC;have aK:=A_ an;have aL:=A_ aA;have bH:=A_ a7;have bt:=A_ aX;obtain⟨bk,W,bR,ed,bl,n1,bS,ee,rfl,rfl,ao,cD⟩:=TMesh.agg aC;have aM:=A_ ao;have dL:W<=40:=by rw[<-ao.1];exact an.n40
 have dM:(W:Int)<=40:=oS;have bF:=A_ (by rw[<-ao.1];exact aY:∀ e∈P_ m.triangles,(0<=e.a/\e.a<W)/\(0<=e.b/\e.b<W));obtain⟨cI,cp,cF,cG,cH⟩:=info_parts B2r;obtain⟨bL,cL,bW,ek,bM,cM,bX,el,bN,cN,bY,em,bO,cO,bZ,en,rfl,rfl,cx,cz,cA,cB⟩:=EW aA;have cw:(P_ m.triangles).length<=144:=by unfold P_;have:=A5z m.triangles m.triangles.length;have:=an.t48;omega
 clear ao cD aC an aA a7 aY aX cx cz cA cB;go_enter func7,ntmps7;go_wp2_with fail;refine(B1u _ m _ xs ys _ (aN.below Below.go) aK).mono ?_;rintro _ aq ⟨rfl,ae⟩;obtain⟨ce,ck⟩:=F_ ae;have dQ:w.1.size<aq.1.size:=ltg ae;have dT:w.1.size+1<aq.1.size:=ltg ae;have aH:=A_ (show Bw w aq from Below.go);go_wp2_with fail;have C:=B2j _ d _ aq (aL.below aH);rw[bH.o]at C;refine C.mono ?_;clear C;rintro _ h ⟨rfl,af⟩;obtain⟨cg,cm⟩:=F_ af;have dR:w.1.size<h.1.size:=ltg af;have dU:w.1.size+1<h.1.size:=ltg af;have ac:=A_ (BH aH af);have d2:h.cell? ⟨w.1.size,0,I⟩=QZ (S bk W bR):=oD;have k1:h.cell? ⟨w.1.size,1,I⟩=QZ (S bl n1 bS):=oD;have dW:h.cell? ⟨w.1.size+1,0,I⟩=QZ (J d.x.1.1):=oD;have dX:h.cell? ⟨w.1.size+1,1,I⟩=QZ (S bL cL bW):=oD;have dY:h.cell? ⟨w.1.size+1,2,I⟩=QZ (S bM cM bX):=oD;have dZ:h.cell? ⟨w.1.size+1,3,I⟩=QZ (J d.y.1.1):=oD;have d0:h.cell? ⟨w.1.size+1,4,I⟩=QZ (S bN cN bY):=oD;have d1:h.cell? ⟨w.1.size+1,5,I⟩=QZ (S bO cO bZ):=oD;clear ce ck cg cm ae af;go_wp2_with fail;refine(A7q _ m _ (h.alloc (.cells #[] 39)) ((aN.below ac).below (BP _)) aK.t48).mono ?_;rintro _ w3 ⟨bq,G,bV,aj,rfl,ap,a6,au⟩;have bv:=A_ (show Bw h w3 from Below.trans (BP _) (au.mono sI));have R0:=A_ (I_ (World.ownsRow_made (base:=h.1.size) (e:=39) (size:=3) h #[] 0 (CE _) (Nat.zero_le _) rfl) au);have T:=A_ ap;have ad:=A_ (show h.1.size∉aj from λE=>by have:=(a6.2 _ E).1;simp at this;omega);have dN:G<=144:=by rw[<-ap.1];exact cw
 have dO:(G:Int)<=144:=oS;have bG:=A_ ap.1;clear ap a6 au;go_wp2_with fail;go_loopg [5,20] G (λg s5 s wr=>∃ (i gB cap:Nat) (cells:List AU) (fss:List (List Nat)),i+g=G/\s=RH .i64 i/\s5=S (QZ ⟨gB,0,I⟩) i cap/\Hid (wr.ownsRow h.1.size 39 3 (S (QZ ⟨gB,0,I⟩) i cap) i cells)/\Hid (Filled wr cells ((A4w m d).take i) fss)/\Hid (((A4w m d).take i).length=i)/\Hid (Own w wr fss.flatten)/\Hid (gB∉fss.flatten)/\Hid (Sl wr bq G bV (P_ m.triangles) aj)/\Hid (gB∉aj)/\Bw h wr);case atStart=>exact⟨0,h.1.size,0,[],[],oS,rfl,rfl,R0.o,Filled.nil _ _,rfl,Own.nil _ _,(by simp:h.1.size∉([]:List (List Nat)).flatten),T.o,ad.o,bv.o⟩
 case round =>
  clear T ad R0;obtain⟨i,gB,cap,cells,fss,a3,rfl,rfl,ab,a1,a4,az,ax,T,ad,u⟩:=hrel;have bu:=A_ u;have Z:=A_ (BH ac u);obtain⟨dH,dI⟩:=F_ u;have cE:=u.size;have dS:w.1.size<wr.1.size:=oS;have dV:w.1.size+1<wr.1.size:=oS;rcases CG i G with ag|ag
  ·have cs:(i:Int)<G:=oS
   obtain⟨g,rfl⟩:∃ g,gk=g+1:=⟨gk - 1,oS⟩
   have cq:=A_ (by omega:i+1+g=G);have dJ:i+1<=G:=ag;obtain⟨df,ea,x,b9,dD,aD,eg,eh,ei,ej,cc⟩:=TEdge.elemA T ag;subst b9;obtain⟨⟨dz,dA⟩,⟨dB,ae⟩⟩:=bF x (DH aD);obtain⟨dg,eb,X,bo,cJ,bT,b4,bp,cK,bU,b5,cY,d4,di,dp,cZ,d5,dj,dq,ca,dF,bd,a0,c6,c7,c8,c9,da,aV⟩:=GD (aM.o.below Z.o) (by omega:x.a.toNat<W);obtain⟨bb,ec,Y,c0,d6,dk,dt,c1,d7,dl,du,c2,d8,dm,dv,c4,d9,dn,dw,ar,dG,be,db,b1,b2,dc,dd,de,aW⟩:=GD (aM.o.below Z.o) (by omega:x.b.toNat<W);subst ca;injection ar with ar;injection ar with aU h2 _;subst aU;subst h2;have bB:=A_ aV;have bD:=A_ aW;have aO:=A_ (show(A4w m d).take (i+1)=(A4w m d).take i++[E3w d (A4a Y X)]from take_step (by unfold A4w;rw[List.getElem?_map,aD];simp only[Option.map_some];rw[E4r bd rfl,E4r be rfl]));have bm:=A_ (by unfold BS;omega:i+1<=BS);have bn:=A_ (by omega:(i+1)*56<=140737488355328);have aB:=World.ownsRow.lt ab _ rfl;have a2:=A_ (show h.1.size<=gB from aB.1);have co:gB<wr.1.size:=aB.2;clear a3 ag aD cc bd be aV aW u aB;go_wp2_with fail;refine W_ 17 kR kR kR kR kR ?_;simp only[GT,FM,GU,FF];iterate 14 refine C_ _ ?_
   refine D_ (CH (A4a Y X)) ?_ ?_;·intro ah ai H aa D;obtain⟨ch,cn⟩:=F_ aa;simp at D;refine G_ ?_;exact H_ (A1u _ _ Y X _ _ H (bD.below Below.go) (bB.below Below.go))
   refine D_ (CH (E3w d (A4a Y X))) ?_ ?_;·intro ah ai H aa D;obtain⟨ch,cn⟩:=F_ aa;simp at D;refine G_ ?_;obtain⟨_,t,_⟩:=D;exact H_ (D8n _ _ d (A4a Y X) _ _ H ((aL.below Z).below Below.go) t)
   refine A1d (λbj=>MP.slbox (bj 15).cells 39) (by intro y bj E;simp[N_,M_]at E;simp[E]) ?_ ?_;·intro ah ai H aa D;simp at D;obtain⟨bo,cJ,bT,b4,bp,cK,bU,b5,b6,_,_,_⟩:=CF D.1;refine⟨gD,S (QZ ⟨H.1.size,0,I⟩) 1 1,H.alloc (.cells (ah 15).cells 39),?_,BP _,[H.1.size],⟨H.1.size,rfl,rfl,DB H _⟩,sI⟩;rw[b6];go_simp
   intro ah ai wa aa D (ci:Hid _);simp at D;have bh:=D.1;have cP:=D.2.2.2.2.2.2.2.2.2.2.2.2.2.2.2.1;have cQ:=D.2.2.2.2.2.2.2.2.2.2.2.2.2.2.2.2;obtain⟨⟨ak,aZ⟩,ba⟩:=cP;obtain⟨aF,bf,aS,dx,aG,bg,aT,dy,b7,cV,m1,m2⟩:=CF ak;obtain⟨⟨b8,ds,cW,aw⟩,cy⟩:=cQ;rw[b7]at aw ak;have aE:=A_ (A3x ak);have bA:=A_ aZ;have O:=A_ (show Bw wr wa from Below.go);have bI:=A_ (show ∀ b∈ai 15,wr.1.size<=b from λb u=>by have:=(ba b u).1;(try simp at this);omega);have bE:=A_ aw;have dr:ah 0=S (QZ ⟨gB,0,I⟩) i cap:=bh.1.1;have a9:=I_ ab O;have aR:=A_ (by have:=O.size;omega:h.1.size<=wa.1.size);generalize ai 15=cR at *;clear D ci ak aZ ba cV m1 m2 aw cy cW bh aa;go_wp2_with (at_builtin;refine A1m rfl _ _ 27 rfl h.1.size 39 cI (BJ #[J AH,S I 0 0,S I 0 0]) 3 56 underlying27 cp cF cG cH rfl dE gB i cap cells gD a9 ⟨b8,0,I⟩ 1 1 [J (E3w d (A4a Y X)).1.1,S aF bf aS,S aG bg aT] gD rfl (A0a bE) (Dat.one aE) bm bn aR ?_;intro g' b0 cU a8 am ay);have P:=A_ (E1t (w:=w) (wr:=wr) (g':=g') a1 a4 ab.1 az ax Z co (by have:=a2.o;have:=ac.size;omega) O.o aE.o bA.o bI.o am ay);have aP:=A_ a8;have bK:=A_ ((T.below O).keep (λb u=>am.block b (by have:=T.lt b u;have:=O.size;omega) (by intro e;injection e with e;exact ad.o (e ▸ u))));have br:=A_ (show g'∉aj from λE=>ay.elim (λe=>ad.o (e ▸ E)) (λe=>by have:=T.o.lt _ E;have:=O.size;omega));have bz:=A_ (((bu.trans (O.mono cE)).grown am aR (λk2 ct=>by injection ct with E;subst E;exact a2)));clear a8 am ay a9;generalize (cells++[J (E3w d (A4a Y X)).1.1,S aF bf aS,S aG bg aT]:List AU)=b3 at aP P;go_wp2_with fail;go_roundg g;case measure=>omega
   case rel=>exact⟨i+1,g',b0,b3,(fss++[cR]:List (List Nat)),cq.o,gN,rfl,aP.o,(by rw[aO.o];exact P.o.1:Filled cU _ ((A4w m d).take (i+1)) _),(by rw[aO.o];exact P.2.2.2.2:((A4w m d).take (i+1)).length=i+1),P.2.1,P.2.2.1,bK,br,bz⟩
  obtain rfl:i=G:=oS;have cs:¬ ((i:Int)<i):=oS;have aQ:=A_ (show(A4w m d).take i=A4w m d from DT (by unfold A4w;rw[List.length_map,bG.o];exact CE _));have aI:=A_ (by have:=a1.o;rwa [aQ.o]at this:Filled wr cells (A4w m d) fss);have aJ:=A_ (by have:=a4.o;rwa [aQ.o]at this:(A4w m d).length=i);obtain⟨cX,d3,dh,bQ,cj,bc,a5,al⟩:=D7z ab.o ac.size aI aJ az ax Z;cases cj;have bJ:=A_ bc;have c5:=A_ a5;clear a3 ag u bc a5 al;go_wp2_with fail;refine(A5p _ i _ (A4w m d) bQ wr bJ bt).mono ?_;rintro _ ef ⟨rfl,al⟩;go_wp2;go_ret;have cu:=World.ownsRow.lt ab _ rfl
  have cb:RR (λb=>b<w.1.size\/b=gB) wr gB i cap (A4w m d):=⟨cells,fss,B0o ab,aI,aJ,λb u cd=>by
   have aU:=(az.2 b u).1;rcases cd with E|E
   ·omega
   exact ax.o (E ▸ u),.inr rfl⟩
  have cv:w.1.size<=gB:=CJ ac.size cu.1;exact⟨i,gB,cap,rfl,cb.below al,cv,BH Z al⟩
end Go.Proofs.YtjcanieccnljfaaGreat.X
