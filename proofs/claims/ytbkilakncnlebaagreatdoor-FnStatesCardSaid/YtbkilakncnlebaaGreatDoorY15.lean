/- A part of the proof. -/
import Derived.Test.YtbkilakncnlebaaGreatDoorY14
set_option linter.constructorNameAsVariable false
set_option maxHeartbeats 16000000
set_option maxRecDepth 10000
open Bool renaming false→AF,true→AD
open Go renaming Addr→AH,Calls→AR,Value→AJ,World→J,bodyPost_ret→BI,heap_alloc_new→CF,maxLen→BG,results→BO
open Go.Value renaming agg→AM,bool→AC,int→N,slice→S
open Go.XB.Below renaming box→AV,next→AI
open Go.XB.MP renaming agg→BP
open Go.XB.TPoint renaming agg→DN,elemA→FC
open Go.XB.TProblem renaming agg→FG
open List renaming all_eq_true→BJ,dropLast→DJ,getElem?_eq_some_iff→CQ,getLast→DK,length→DI,replicate→CJ
open Nat renaming le_trans→BM,lt_or_ge→BN
open Option renaming none→I,some→QL
namespace Go.Proofs.YtbkilakncnlebaaGreatDoor.X
open Go.RowKit Go.XB Go.XN Proofs.Tryz
theorem C6l {a b c x y:TPoint} {k:Nat} (h:k<3) (u:[a,b,c][(k+1) % 3]?=QL x) (D:[a,b,c][(k+2) % 3]?=QL y) :
  [A2f b c,A2f c a,A2f a b].take k++[A2f x y]=[A2f b c,A2f c a,A2f a b].take (k+1):=by
 obtain rfl|rfl|rfl:k=0\/k=1\/k=2:=oS;all_goals (cases u;cases D;rfl)
attribute [local go_sem] L_ opAt N_ M_ Region.wanted yielded
attribute [local simp] N_ M_ MP.eq MP.agg MP.sl MP.slbox A0r
theorem C6d (A:Option AH) (c:Nat) (D b1 E:TPoint) (bs:List Nat) (w:J) (ar:Sl w A 3 c [D,b1,E] bs) :
  AR prog 198 #[S A 3 c] w (A0w w [A2f b1 E,A2f E D,A2f D b1]):=by
 have ae:=A_ ar;clear ar;go_enter func198,ntmps198;go_wp2_with fail;go_loopg [3,8] 3 (λg v s wr=>∃ (k gB cap:Nat),k+g=3/\s=N .i64 k/\v=S (QL ⟨gB,0,I⟩) k cap/\Hid (Pend w w 118 wr gB k cap ([A2f b1 E,A2f E D,A2f D b1].take k)));case atStart=>exact⟨0,w.1.size,0,rfl,rfl,rfl,Pend.start (Below.refl _ _)⟩
 case round =>
  obtain⟨k,gB,cap,ao,rfl,rfl,G⟩:=hrel;rcases BN k 3 with X|X
  ·obtain⟨g,rfl⟩:∃ g,gk=g+1:=⟨gk - 1,oS⟩
   have bd:=A_ (by omega:k+1+g=3);have bN:(k:Int)<3:=oS;obtain⟨⟨m1,m2⟩,bf,bg⟩:=F1e X;obtain⟨bu,bY,x,bl,bQ,bz,b3,bm,bR,bA,b4,bn,bS,bB,b5,bo,bT,bD,b6,rfl,a9,au,aV,aW,aX,aY,aZ,a1,am⟩:=FC (ae.below G.bw) bf;obtain⟨bv,bZ,y,bp,bU,bE,b7,bq,bV,bF,b8,br,bW,bG,b9,bt,bX,bH,ca,Y,ba,aw,a2,a3,a4,a5,a6,a7,an⟩:=FC (ae.below G.bw) bg;injection Y with Y;injection Y with h1 h2 _;subst h1;subst h2;have aP:=A_ (C6l X au aw);have aI:=A_ am;have aJ:=A_ an;have aH:=A_ (by unfold BG;omega:k+1<=BG/\(k+1)*112<=140737488355328);clear au aw am an ba ao;generalize (k+1) % 3=j at *;generalize (k+2) % 3=l at *;have bO:(j:Int)<3:=oS;have bP:(l:Int)<3:=oS;go_wp2_with fail;refine W_ 15 kR kR kR kR kR ?_;simp only[List.take_succ_cons,List.take_zero,List.drop_succ_cons,List.drop_zero];iterate 13 refine C_ _ ?_
   refine D_ (BP (A2f x y)) ?_ ?_;·intro H O u h b;obtain⟨bL,bM⟩:=F_ h;simp at b;refine G_ ?_;exact H_ (B1s _ _ x y _ _ u (aI.below h) (aJ.below h))
   refine A1d (λaE=>MP.slbox (aE 13).cells 118) (by intro y aE aj;simp[N_,M_]at aj;simp[aj]) ?_ ?_;·intro H O u h b;simp at b;obtain⟨aa,az,af,aR,ab,aA,ag,aS,ac,aB,ah,aT,ad,aC,ai,aU,W,_,_,_,_,_⟩:=DN b.1;refine⟨gD,S (QL ⟨u.1.size,0,I⟩) 1 1,u.alloc (.cells (H 13).cells 118),?_,AV _,[u.1.size],⟨u.1.size,rfl,rfl,CF u _⟩,sI⟩;rw[W];go_simp
   intro H O wa h b bc;clear bc;simp at b;have aD:=b.1;have bh:=b.2.2.2.2.2.2.2.2.2.2.2.2.2.1;have bi:=b.2.2.2.2.2.2.2.2.2.2.2.2.2.2;obtain⟨⟨ak,al⟩,aq⟩:=bh;obtain⟨aa,az,af,aR,ab,aA,ag,aS,ac,aB,ah,aT,ad,aC,ai,aU,W,aF,k1,k2,ax,ay⟩:=DN ak;obtain⟨⟨bK,bJ,bj,Z⟩,be⟩:=bi;rw[W]at Z;have aG:=A_ (by rw[aF];exact TPoint.shut k1 k2 ax ay:Dat.at_ wa [AC (A2f x y).x.1.1,S aa az af,S ab aA ag,AC (A2f x y).y.1.1,S ac aB ah,S ad aC ai] (A2f x y) (O 13));have aL:=A_ al;have aO:=A_ (show ∀ T∈O 13,wr.1.size<=T from λT a8=>(aq T a8).1);have aM:=A_ Z;have bI:H 0=S (QL ⟨gB,0,I⟩) k cap:=aD.1.1;have aK:=A_ h;clear b ak al aq aF k1 k2 ax ay Z be bj aD aV aW aX aY aZ a1 a2 a3 a4 a5 a6 a7 a9 h;go_wp2_with (at_builtin;refine C7w rfl rfl underlying23 D1n G aK (A0a aM) aG aL aO aH ?_;intro g' aQ b0 ap _ _);have aN:=A_ (aP.o ▸ ap.o);clear ap;go_wp2_with fail;go_roundg g;case measure=>omega
   case rel=>exact⟨k+1,g',aQ,bd,gN,rfl,aN⟩
  obtain rfl:k=3:=oS;clear ao;go_wp2;go_ret;exact G.done
def B5b (a b c:TPoint):List TPoint:=[A2f b c,A2f c a,A2f a b]
def C5f (a b c:TPoint) (fs:List TRat) (more:TPoint):Nat->TRat
 |0=>U_ 0
 |k+1=>A0k (C5f a b c fs more k) (A1k (A3y (A2q a b c fs ((B5b a b c).getD k pt0)) more) (A3y (A2q a b c fs ((B5b a b c).getD k pt0)) more))
def C1a (a b c:TPoint) (fs:List TRat) (more:TPoint):TRat:=A0d (A6c a b c) (A0d (mkR 1 3) (C5f a b c fs more 3))

theorem C3h (A:Option AH) (c:Nat) (b b1 h:TPoint) (bs:List Nat) (B:Option AH) (d:Nat) (D:List TRat) (a3:List Nat) (bn:AJ) (z:TPoint) (bP:List Nat) (w:J) (af:Sl w A 3 c [b,b1,h] bs) (a9:Sl w B 3 d D a3) (aE:Agg w bn z bP)
  (a7:J_ (A2y b b1 h)=AD) (a8:(A2y b b1 h).1.2≠[]) :
  AR prog 140 #[S A 3 c,S B 3 d,bn] w (A0c w (C1a b b1 h D z)):=by
 have ar:=A_ af;have bz:=A_ a9;have bG:=A_ aE;have bu:=A_ a7;have bv:=A_ a8;obtain⟨cv,dn,cL,dt,cw,dp,cM,du,cx,dq,cN,bl,cy,dr,cO,ca,rfl,rfl,bX,bY,am,bZ⟩:=DN aE;clear bX bY am bZ af a9 aE a7 a8;go_enter func140,ntmps140;go_wp2_with fail;refine AR.new2 λw0 ai=>?_;refine(A0l 0 w0 oO).mono ?_;rintro _ ah ⟨v1,cb,rfl,az,bW,ak⟩;obtain⟨O1,dl,cJ,o1,O2,dm,cK,o2,rfl,-,-,-⟩:=TRat.agg az;have aM:=A_ az;have aV:=A_ (A0z ai.k ak);have au:=A_ (A0z ai.l ak);have bt:=A_ (AI ai.b ak);clear az bW ak ai;go_upto_region 2 with fail;refine Code.new λcf Y=>?_;have aX:=A_ (RatBox.new (x:=C5f b b1 h D z 0) aM Y);have ao:=A_ (AI bt Y.b);have aW:=A_ (A0z aV Y.b);have aT:=A_ (A0z au Y.b);have dc:=E_ au;have aw:=A_ (E_ Y.k);clear aM aV au Y;go_wp2_with fail;refine(C6d A c b b1 h bs cf (ar.below ao)).mono ?_;rintro _ w3 ⟨M,b6,bQ,ms,rfl,aD,bd,Z⟩;obtain rfl:3=b6:=aD.1;have bD:=A_ (show Sl w3 M 3 bQ (B5b b b1 h) ms from aD);have bE:=A_ (show ah.1.size∉ms from λay=>by have:=(bd.2 _ ay).1;have:=aw.o;omega);have aN:=A_ (AI ao Z);have aY:=A_ (aX.below Z);have bJ:=A_ (A0z aW Z);have bH:=A_ (A0z aT Z);have db:ah.1.size<w3.1.size:=by have:=Z.size;have:=aw.o;omega
 clear aD bd Z aX ao aW aT aw;go_wp2_with fail;go_loopg [15] 3 (λg s wr=>∃ (k:Nat) (bm:List Nat),k+g=3/\s=N .i64 k/\Hid (w3.grownBy wr (QL ah.1.size))/\Hid (RatBox wr ah.1.size (C5f b b1 h D z k) bm));case atStart=>exact⟨0,cb,rfl,rfl,B3a w3 _,aY⟩
 case round =>
  clear aY;obtain⟨k,bm,bc,rfl,ae,a6⟩:=hrel;have ab:=A_ (aN.grown ae aN.size (λx af=>by injection af with af;omega));have bK:=A_ (B8b bJ.o ae.o oS);have aU:=A_ (B8b bH.o ae.o oS);have bF:=A_ (bD.keepG ae bE);obtain⟨P1,n1,m1,P2,n2,m2,bh,a4,c7⟩:=a6.o;have aQ:=A_ bh;have aI:=A_ a4;obtain⟨cm,-,b5⟩:=bx bK;clear bh a4 a6;rcases BN k 3 with al|al
  ·have c6:(k:Int)<3:=oS
   obtain⟨g,rfl⟩:∃ g,gk=g+1:=⟨gk - 1,oS⟩
   have bV:=A_ (by omega:k+1+g=3);obtain⟨cz,ds,x,cn,dd,cA,cP,co,de,cB,cQ,cp,df,cD,cR,an,dg,cE,cU,bS,c2,bg,cV,cW,cX,cY,cZ,c0,a5⟩:=FC bF al;subst bS;have bL:=A_ (show A0k (C5f b b1 h D z k) (A1k (A3y (A2q b b1 h D x) z) (A3y (A2q b b1 h D x) z))=C5f b b1 h D z (k+1) by rw[C5f,List.getD_eq_getElem?_getD,bg];rfl);have bB:=A_ a5;generalize C5f b b1 h D z k=X at *;clear bc al bg a5;go_wp2_with fail;refine X_ sI ?_;dsimp only[DJ,DK,DI];iterate 3 refine C_ _ ?_
   refine D_ (BP (A2q b b1 h D x)) ?_ ?_;·intro O G H E u;obtain⟨T,W⟩:=F_ E;simp at u;refine G_ ?_;exact H_ (D6l A c b b1 h bs B d D a3 _ x _ H ((ar.below ab).below Below.go) ((bz.below ab).below Below.go) (bB.below Below.go) bu bv)
   refine C_ _ ?_;refine D_ (BP (A3y (A2q b b1 h D x) z)) ?_ ?_;·intro O G H E u;obtain⟨T,W⟩:=F_ E;simp at u;refine G_ ?_;obtain⟨t,_⟩:=u;exact H_ (A4x _ _ (A2q b b1 h D x) z _ _ H t.1 ((bG.below ab).below Below.go))
   refine A1p #[AC AF,S I 0 0,S I 0 0,AC AF,S I 0 0,S I 0 0] 118 ?_ ?_;·intro O G H E u;refine⟨gD,?_⟩;go_simp
   intro O G wa E u (aa:Hid _);simp at u;have ag:=u.2.2.2.2.2.1;have b9:=u.2.2.2.2.2.2;obtain⟨⟨gb,dA,aG,aC⟩,be⟩:=b9;obtain⟨aK,bi,a1,u1,aL,bj,a2,u2,cq,dh,cF,dw,cs,di,cG,dx,ck,-,-,-,-,-⟩:=DN ag.1.1;have aA:=ag.1.1;rw[ck]at aA;have ap:=A_ (show Bw wr wa from Below.go);have bT:wr.1.size<=gb:=by have:=(be gb (by rw[aG];simp)).1;(try simp at this);omega
   have an:=A_ (show gb∉G 5 from λaB=>by have:=aa 5 6 dE dE dE _ aB;rw[aG]at this;simp at this);have aH:=A_ aA;have aP:=A_ aC;obtain⟨cc,cd,bU⟩:=bx aC;generalize G 5=ca at *;clear u aa be E aA aG ag aC;go_upto_region 6 with fail;refine Code.set6 aP λbO aj=>?_;have aq:=A_ (aj.low ap ap.size bT);have aJ:=A_ (aH.keepG aj.gr an);have aS:=A_ (A0z aQ aq);obtain⟨bR,-,c5⟩:=bx aj.k;obtain⟨b4,-,c1⟩:=bx aS;clear cc cd bU aP aH ap aj an;refine X_ sI ?_;dsimp only[DJ,DK,DI];iterate 3 refine C_ _ ?_
   refine D_ (BP (A1k (A3y (A2q b b1 h D x) z) (A3y (A2q b b1 h D x) z))) ?_ ?_;·intro O G H E u;obtain⟨T,W⟩:=F_ E;simp at u;refine G_ ?_;exact H_ (A8z _ _ (A3y (A2q b b1 h D x) z) (A3y (A2q b b1 h D x) z) _ _ H (aJ.below Below.go) (aJ.below Below.go))
   refine D_ (BP (A0k X (A1k (A3y (A2q b b1 h D x) z) (A3y (A2q b b1 h D x) z)))) ?_ ?_;·intro O G H E u;obtain⟨T,W⟩:=F_ E;simp at u;refine G_ ?_;obtain⟨_,t,_⟩:=u;exact H_ (A0x _ _ X (A1k (A3y (A2q b b1 h D x) z) (A3y (A2q b b1 h D x) z)) _ _ H ((aI.below aq).below Below.go) t)
   intro O G wb E u (aa:Hid _);simp at u;have b8:=u.2.2.2.2;obtain⟨⟨ac,-⟩,am⟩:=b8;rw[bL.o]at ac;obtain⟨ct,dj,cH,v1,cu,dk,cI,v2,cj,-,-,-⟩:=TRat.agg ac;rw[cj]at ac;have aO:=A_ (show Bw bO wb from Below.go);have bo:=A_ ac;have bM:=A_ (show ah.1.size∉G 4 from λay=>by have:=(am _ ay).1;(try simp at this);omega);have aR:=A_ (A0z aS aO);have bA:=A_ (E1s ae (AI aq aO));obtain⟨c9,da,c8⟩:=bx aR;generalize G 4=bl at *;clear u aa ac am E b4 bR;go_upto_region 7 with fail;refine Code.set3 aR λV aZ=>?_;go_wp2_with fail;go_roundg g;case measure=>omega
   case rel=>exact⟨k+1,bl,bV,gN,gtr bA aZ.gr,RatBox.set bo aZ bM⟩
  obtain rfl:k=3:=oS;have br:=A_ (show A0d (A6c b b1 h) (A0d (mkR 1 3) (C5f b b1 h D z 3))=C1a b b1 h D z from rfl);generalize C5f b b1 h D z 3=X at *;obtain⟨ch,cg,b3⟩:=bx aU;obtain⟨b7,-,b0⟩:=bx aQ;clear bc al;go_wp2_with fail;refine X_ sI ?_;dsimp only[DJ,DK,DI];refine C_ _ ?_;refine D_ (BP (A6c b b1 h)) ?_ ?_;·intro O G H E u;obtain⟨T,W⟩:=F_ E;simp at u;refine G_ ?_;exact H_ (B3h A c b b1 h bs H ((ar.below ab).below Below.go))
  refine D_ (BP (mkR 1 3)) ?_ ?_;·intro O G H E u;obtain⟨T,W⟩:=F_ E;simp at u;refine G_ ?_;exact H_ (A7u 1 3 H oO oO dE)
  refine C_ _ ?_;refine D_ (BP (A0d (mkR 1 3) X)) ?_ ?_;·intro O G H E u;obtain⟨T,W⟩:=F_ E;simp at u;refine G_ ?_;obtain⟨aF,_⟩:=u;exact H_ (A0n _ _ (mkR 1 3) X _ _ H aF.1 (aI.below Below.go))
  refine D_ (BP (A0d (A6c b b1 h) (A0d (mkR 1 3) X))) ?_ ?_;·intro O G H E u;obtain⟨T,W⟩:=F_ E;simp at u;refine G_ ?_;obtain⟨aF,ce,_⟩:=u;exact H_ (A0n _ _ (A6c b b1 h) (A0d (mkR 1 3) X) _ _ H aF.1 ce)
  intro O G wa E u (aa:Hid _);simp at u;have ag:=u.2.2.2.2.2;obtain⟨⟨ad,ba⟩,bf⟩:=ag;rw[br.o]at ad;obtain⟨aK,bi,a1,u1,aL,bj,a2,u2,ci,-,-,-⟩:=TRat.agg ad;rw[ci]at ad;have bp:=A_ ad;have bq:=A_ ba;have bN:=A_ (show ∀ ax∈G 5,w.1.size+2<=ax from λax aB=>by have:=(bf ax aB).1;(try simp at this);omega);have bI:=A_ (A0z aU E);have c4:=AI ab E;obtain⟨dz,dy,l1⟩:=bx bI;generalize G 5=dv at *;clear u aa ad ba bf ch cg b7 b0 b3 cm b5;go_wp2;refine BI (v:=AM #[AC (C1a b b1 h D z).1.1,S aK bi a1,S aL bj a2]) (by simp[BO,results140,go_sem, *]) rfl ?_;refine A1s (lo:=w.1.size+2) bp.o bq.o bN.o oS ?_ ?_;·exact Above.go
  exact Below.go
structure FluxI (m:TMesh) (xs ys:List Int) (fs:List TRat):Prop where
 mesh:MeshI m xs ys
 len:fs.length=(P_ m.triangles).length
 ok:fs.all J_=AD
theorem A5n (A:Option AH) (n c:Nat) (xs:List TRat) (bs:List Nat) (w:J) (h:Sl w A n c xs bs) (b:xs.all J_=AD) :
  AR prog 112 #[S A n c,N .i64 n] w (A0b w (AC AD)):=by
 have D:=A_ h;have u:=A_ b;clear h b;go_enter func112,ntmps112;go_wp2_with fail;have C:=A1r A n c xs bs w D;rw[u.o]at C;refine C.mono ?_;clear C;rintro _ G ⟨rfl,E⟩;go_wp2;go_ret;exact⟨rfl,E⟩

def B4q (x:TRat):Prop:=x.1.2.length<=24/\x.2.length<=24
theorem B1b {x:TRat} (h:J_ x=AD):B4q x:=⟨(ratOkB_iff.1 h).num24,(ratOkB_iff.1 h).den24⟩
theorem B6l {xs:List TRat} (h:xs.all J_=AD):∀ x∈xs,B4q x:=λx hx=>B1b (BJ.1 h x hx)
theorem D5e (a b:Int):B4q (mkR a b):=by
 unfold mkR;split;·rename_i h;exact h
 exact⟨dE,dE⟩
theorem C9z (r s:TRat):B4q (A0k r s):=by
 unfold A0k;split;·exact D5e _ _
 exact⟨dE,dE⟩
def E7n (us:List TRat) (r:TRat) (vs:List TRat):List TRat:=List.zipWith (λx y=>A0k x (A0d r y)) us vs
theorem A0e {α:Type} {l:List α} {n:Nat} {d x:α} (h:l[n]?=QL x):l.getD n d=x:=by simp[List.getD,h]
theorem A2l (A:Option AH) (n c:Nat) (xs:List TRat) (bs:List Nat) (w:J) (al:Sl w A n c xs bs) (aV:n<=144) (aj:∀ x∈xs,B4q x) :
  AR prog 49 #[S A n c] w (A0w w xs):=by
 have ac:=A_ al;have au:=A_ aj;have aW:(n:Int)<=144:=oS;obtain⟨aH,aA,aE,aF,aG⟩:=info_parts B2r;clear al aj;go_enter func49,ntmps49;go_wp2_with fail;have ae:=A_ (Pend.start (α:=TRat) (e:=35) (Below.refl w.1.size w));go_loopg [3,9] n (λg s3 s wr=>∃ (i gB cap:Nat),i+g=n/\s=N .i64 i/\s3=S (QL ⟨gB,0,I⟩) i cap/\Hid (Pend w w 35 wr gB i cap (xs.take i)));case atStart=>exact⟨0,w.1.size,0,oS,rfl,rfl,ae.o⟩
 case round =>
  clear ae;obtain⟨i,gB,cap,ai,rfl,rfl,b⟩:=hrel;have aq:=A_ b.bw;rcases BN i n with h|h
  ·have aC:(i:Int)<n:=oS
   obtain⟨g,rfl⟩:∃ g,gk=g+1:=⟨gk - 1,oS⟩
   have aB:=A_ (by omega:i+1+g=n);have an:=A_ (by unfold BG;omega:i+1<=BG);have ao:=A_ (by omega:(i+1)*56<=140737488355328);obtain⟨aM,aX,x,aK,n1,aN,aY,aL,n2,aO,aZ,rfl,aU,W,aP,aQ,aR,ag⟩:=TRat.elemA (ac.below aq) h;have ad:=A_ (au x (List.mem_of_getElem? W));have ax:=A_ (take_step W);have ap:=A_ ag;clear ai h ag W;go_wp2_with fail;refine(A3n _ x _ _ (ap.below Below.go) (BM ad.1 dE) (BM ad.2 dE)).mono ?_;rintro _ wa ⟨a1,am,rfl,O,T,ah⟩;obtain⟨u,X,G,aS,D,Y,H,aT,rfl,aJ,_,_⟩:=TRat.agg O;have Z:=A_ (A3x (O.below (AV (.cells #[AC x.1.1,S u X G,S D Y H] 35))));have aa:=A_ ((T.below (AV (.cells #[AC x.1.1,S u X G,S D Y H] 35))).free);have ab:=A_ (show ∀ E∈am,wr.1.size<=E from λE ay=>by have:=(T.2 E ay).1;simp at this;omega);have ar:=A_ (show Bw wr wa from Below.trans (AV _) (ah.mono sI));clear O T aJ ah;go_wp2_with (at_builtin;refine A1v rfl _ _ 27 rfl 35 aH (AM #[AC AF,S I 0 0,S I 0 0]) 56 underlying27 aA aE aF aG rfl b (AI ar (AV _)) gD ⟨wa.1.size,0,I⟩ 1 [AC x.1.1,S u X G,S D Y H] x am gD (A0a (CF wa _)) Z aa ab an ao ?_;intro g' af aI ak az aD);have aw:=A_ (by rw[ax.o];exact ak:Pend w w 35 aI g' (i+1) af (xs.take (i+1)));clear ak az aD Z aa ab b;go_wp2_with fail;go_roundg g;case measure=>omega
   case rel=>exact⟨i+1,g',af,aB,gN,rfl,aw⟩
  obtain rfl:i=n:=oS;have aC:¬ ((i:Int)<i):=oS;clear ai h;go_wp2;go_ret;have:=b.done;rwa [List.take_of_length_le (by rw[ac.o.1];exact Nat.le_refl _)]at this
section
structure AccSt (w U:J) (g r0:Nat) (x:TRat) (P1:Option AH) (p1 q1:Nat) (P2:Option AH) (p2 q2:Nat) (rl:List Nat):Prop where
 bl:Bw w U
 rb:RBox U g x P1 p1 q1 P2 p2 q2
 ag:Agg U (AM #[AC x.1.1,S P1 p1 q1,S P2 p2 q2]) x rl
 ow:Own w U rl
 dl:g∉rl/\r0∉rl
 rs:U.1[r0]?=QL (.cells #[AC AF,S I 0 0,S I 0 0] 35)
 lo:w.1.size<=r0/\r0<g
section
variable {w U U':J} {g r0:Nat} {x y:TRat} {P1:Option AH} {p1 q1:Nat} {P2:Option AH} {p2 q2:Nat} {rl ry:List Nat} {O1:Option AH} {o1 u1:Nat} {O2:Option AH} {o2 u2:Nat}
theorem AccSt.below (h:AccSt w U g r0 x P1 p1 q1 P2 p2 q2 rl) (hb:Bw U U'):AccSt w U' g r0 x P1 p1 q1 P2 p2 q2 rl :=
 ⟨AI h.bl hb,h.rb.below hb,h.ag.below hb,h.ow.below hb,h.dl,O_ h.rs hb,h.lo⟩
theorem AccSt.set (h:AccSt w U g r0 x P1 p1 q1 P2 p2 q2 rl) (T:Agg U (AM #[AC y.1.1,S O1 o1 u1,S O2 o2 u2]) y ry) (E:Own w U ry) (D:g∉ry/\r0∉ry) :
  AccSt w (((U.setCell ⟨g,0,I⟩ (AC y.1.1)).setCell ⟨g,1,I⟩ (S O1 o1 u1)).setCell ⟨g,2,I⟩ (S O2 o2 u2)) g r0 y O1 o1 u1 O2 o2 u2 ry:=by
 have G:w.1.size<=g:=by have:=h.lo;omega
 refine⟨((h.bl.setCell (p:=⟨g,0,I⟩) G _).setCell (p:=⟨g,1,I⟩) G _).setCell (p:=⟨g,2,I⟩) G _,h.rb.set,T.keep (λb u=>A0p b (λe=>D.1 (e ▸ u))),⟨E.1,λb u=>⟨(E.2 b u).1,?_⟩⟩,D,(A0p _ (by have:=h.lo;omega)).trans h.rs,h.lo⟩;obtain⟨H,t,e⟩:=(E.2 b u).2;exact⟨H,t,(A0p (g:=g) b (λO=>D.1 (O ▸ u))).trans e⟩
theorem AccSt.o (h:AccSt w U g r0 x P1 p1 q1 P2 p2 q2 rl) :
  A0c w x (.returned (AM #[AC x.1.1,S P1 p1 q1,S P2 p2 q2])) (((U.setCell ⟨r0,0,I⟩ (AC x.1.1)).setCell ⟨r0,1,I⟩ (S P1 p1 q1)).setCell ⟨r0,2,I⟩ (S P2 p2 q2)):=by
 have D:w.1.size<=r0:=h.lo.1;refine⟨_,rl,rfl,h.ag.keep (λb u=>A0p b (λe=>h.dl.2 (e ▸ u))),⟨h.ow.1,λb u=>⟨(h.ow.2 b u).1,?_⟩⟩,((h.bl.setCell (p:=⟨r0,0,I⟩) D _).setCell (p:=⟨r0,1,I⟩) D _).setCell (p:=⟨r0,2,I⟩) D _⟩;obtain⟨E,t,e⟩:=(h.ow.2 b u).2;exact⟨E,t,(A0p (g:=r0) b (λG=>h.dl.2 (G ▸ u))).trans e⟩
theorem F6l {w U:J} {lo:Nat} {rl:List Nat} (h:Free U rl) (hr:∀ b∈rl,lo<=b) (hl:w.1.size<=lo):Own w U rl:=⟨h.1,λb hb=>⟨BM hl (hr b hb),h.2 b hb⟩⟩
end
end
structure ProbI (p:TProblem) (xs ys:List Int):Prop where
 mesh:MeshI p.1 xs ys
 dl:p.2.length=3
 dok:p.2.all J_=AD
 dpos:∀ r∈p.2,0<R_ r
 sl:p.3.length=3
 sok:p.3.all J_=AD
 reg:∀ t∈p.1.triangles,0<=t.4/\t.4<3
theorem B2t:A4f 113:=λa w=>kR
theorem B4e (v:AJ) (x:TRat) (b:List Nat) (w:J) (h:Agg w v x b) (D:J_ x=AD) (E:0<R_ x):AR prog 113 #[v] w (A0b w (AC AF)):=by
 have T:=A_ h;have u:=A_ (ratOkB_iff.1 D);have O:=A_ (by unfold A2v sgn;rw[if_neg oS,if_pos E]:A2v x=1);obtain⟨G,n1,W,ab,H,n2,X,ac,rfl,rfl,Z,aa⟩:=TRat.agg h;clear Z aa h D E;go_enter func113,ntmps113;go_wp2_with fail;have C:=A7y _ x _ _ (T.below (AV (.cells #[AC x.1.1,S G n1 W,S H n2 X] 35))) u.mag (A4h u.1);rw[O.o]at C;refine C.mono ?_;clear C;rintro _ ad ⟨rfl,Y⟩;go_wp2;go_ret;exact⟨rfl,Below.trans (AV _) (Y.mono sI)⟩
theorem B5u (v:AJ) (p:TProblem) (b:List Nat) (xs ys:List Int) (w:J) (H:Agg w v p b) (u:ProbI p xs ys):AR prog 67 #[v] w (A0b w (AC AD)):=by
 have ao:=A_ H;have h:=A_ u;obtain⟨am,aA,ap,aB,an,n1,aq,aC,T,n2,Z,ac,ae,ak,c3,al,rfl,rfl,ai,aj,E,G⟩:=FG H;have W:=A_ E;have af:=A_ G;obtain rfl:3=n2:=by rw[<-E.1];exact u.dl.symm
 obtain rfl:3=ak:=by rw[<-G.1];exact u.sl.symm
 clear ai aj E G H u;go_enter func67,ntmps67;go_wp2_with fail;refine(A5n T 3 Z p.2 ac _ (W.below Below.go) h.dok).mono ?_;rintro _ O ⟨rfl,aa⟩;obtain⟨ar,aw⟩:=F_ aa;have ay:w.1.size<O.1.size:=ltg aa;have X:=A_ (show Bw w O from Below.go);go_wp2_with fail;refine(A5n ae 3 c3 p.3 al O (af.below X) h.sok).mono ?_;rintro _ ad ⟨rfl,D⟩;obtain⟨au,ax⟩:=F_ D;have az:w.1.size<ad.1.size:=ltg D;have Y:=A_ (AI X D);go_wp2_with fail;have C:=A7e 113 B2t T 3 Z p.2 ac ad (λ_=>AF) (W.below Y) (λv x b w ab ag=>B4e v x b w ag (BJ.1 h.dok x ab) (h.dpos x ab));rw[show p.2.any (λ_=>AF)=AF by simp]at C;refine C.mono ?_;clear C;rintro _ w3 ⟨rfl,ah⟩;go_wp2;go_ret;exact⟨rfl,AI Y ah⟩
theorem B5t (v:AJ) (p:TProblem) (b:List Nat) (xs ys:List Int) (w:J) (h:Agg w v p b) (H:ProbI p xs ys):AR prog 36 #[v] w (A0b w (AC AD)):=by
 have X:=A_ h;have E:=A_ H;obtain⟨ab,al,af,an,ac,n1,ag,ao,ad,n2,ah,ap,ae,am,c3,aq,rfl,rfl,O,T,Z,aa⟩:=FG h;have W:=A_ (TMesh.mkAgg (x:=p.1) O T);clear O T Z aa h H;go_enter func36,ntmps36;go_wp2_with fail;refine(B5u _ p _ xs ys _ (X.below Below.go) E).mono ?_;rintro _ u ⟨rfl,G⟩;obtain⟨ai,aj⟩:=F_ G;have ak:w.1.size<u.1.size:=ltg G;have D:=A_ (show Bw w u from Below.go);go_wp2_with fail;refine(B1u _ p.1 _ xs ys u (W.below D) E.1).mono ?_;rintro _ ar ⟨rfl,Y⟩;go_wp2;go_ret;exact⟨rfl,AI D Y⟩
theorem C8z (v:AJ) (p:TProblem) (b:List Nat) (xs ys:List Int) (B:Option AH) (m d:Nat) (us:List TRat) (E:List Nat) (w:J) (h:Agg w v p b) (O:ProbI p xs ys) (W:Sl w B m d us E) (X:us.all J_=AD) (H:m=p.1.1.length):AR prog 243 #[v,S B m d] w (A0b w (AC AD)):=by
 have ab:=A_ h;have Y:=A_ O;have Z:=A_ W;have aa:=A_ X;obtain⟨ah,ag,al,au,ai,n1,am,aw,aj,n2,an,ax,ak,ar,c3,ay,rfl,rfl,T,ad,ae,af⟩:=FG h;obtain rfl:m=ag:=by rw[H];exact T.1
 clear T ad ae af h O W X H;go_enter func243,ntmps243;go_wp2_with fail;refine(A5n B m d us E _ (Z.below Below.go) aa).mono ?_;rintro _ u ⟨rfl,G⟩;obtain⟨ao,ap⟩:=F_ G;have aq:w.1.size<u.1.size:=ltg G;have D:=A_ (show Bw w u from Below.go);go_wp2_with fail;refine(B5t _ p _ xs ys u (ab.below D) Y).mono ?_;rintro _ az ⟨rfl,ac⟩;go_wp2;go_ret;exact⟨rfl,AI D ac⟩
theorem B1h (v:AJ) (p:TProblem) (b:List Nat) (k:Nat) (t:TTri) (w:J) (H:Agg w v p b) (E:p.1.triangles[k]?=QL t) (X:p.2.length=3) (ao:0<=t.4/\t.4<3) :
  AR prog 137 #[v,N .i64 k] w (C4o w (p.2.getD t.4.toNat A0h)):=by
 have aC:=A_ H;obtain⟨ay,aW,aD,a1,az,n1,aE,a2,aA,n2,aF,a3,aB,aX,c3,a4,rfl,rfl,ar,h,G,au⟩:=FG H;have am:k<n1:=by rw[<-h.1];exact(CQ.1 E).1
 have an:n1<=BG:=BM h.2.1 h.2.2.1;unfold BG at an;obtain rfl:3=n2:=by rw[<-G.1];exact X.symm
 obtain⟨ap,aq⟩:=ao;obtain⟨ad,aY,x,rfl,aO,O,aG,aH,aI,aj,aJ,_⟩:=TTri.elemA h am;obtain rfl:x=t:=by rw[E]at O;exact(Option.some.inj O).symm
 obtain⟨j,D⟩:∃ j:Nat,x.4=j:=⟨x.4.toNat,oS⟩
 have al:j<3:=oS;have aT:(k:Int)<n1:=oS;obtain⟨ae,aZ,y,Z,aw,af,ah,aa,ax,ag,ai,rfl,aP,Y,aK,aL,aM,T⟩:=TRat.elemA G al;have ab:=A_ (by rw[D];exact A0e Y:p.2.getD x.4.toNat A0h=y);have ac:=A_ T;have aN:ad<w.1.size+1+1:=oS;have aR:ae<w.1.size+1+1:=oS;rw[D]at aj ap aq;clear ar h G au H E X O Y T D;go_enter func137,ntmps137;go_wp2_with fail;refine X_ sI ?_;dsimp only[DJ,DK,DI];iterate 11 refine C_ _ ?_
 intro a5 a6 wa u W ak;clear ak;simp at W;go_simp;obtain⟨aQ,aS⟩:=F_ u;have aU:w.1.size<wa.1.size:=ltg u;have aV:w.1.size+1<wa.1.size:=ltg u;clear W;go_wp2;refine BI (v:=AM #[AC y.1.1,S Z aw af,S aa ax ag]) (by simp[BO,results137,go_sem, *]) rfl ?_;refine⟨_,ah++ai,rfl,?_,Below.go⟩;rw[ab.o];exact ac.below Below.go
theorem C1w (v:AJ) (p:TProblem) (b:List Nat) (k:Nat) (t:TTri) (w:J) (H:Agg w v p b) (E:p.1.triangles[k]?=QL t) (X:p.3.length=3) (ao:0<=t.4/\t.4<3) :
  AR prog 132 #[v,N .i64 k] w (C4o w (p.3.getD t.4.toNat A0h)):=by
 have aD:=A_ H;obtain⟨az,aX,aE,a1,aA,n1,aF,a2,aB,n2,aG,a3,aC,aw,c3,a4,rfl,rfl,ar,h,au,G⟩:=FG H;have am:k<n1:=by rw[<-h.1];exact(CQ.1 E).1
 have an:n1<=BG:=BM h.2.1 h.2.2.1;unfold BG at an;obtain rfl:3=aw:=by rw[<-G.1];exact X.symm
 obtain⟨ap,aq⟩:=ao;obtain⟨ad,aY,x,rfl,aP,O,aH,aI,aJ,aj,aK,_⟩:=TTri.elemA h am;obtain rfl:x=t:=by rw[E]at O;exact(Option.some.inj O).symm
 obtain⟨j,D⟩:∃ j:Nat,x.4=j:=⟨x.4.toNat,oS⟩
 have al:j<3:=oS;have aU:(k:Int)<n1:=oS;obtain⟨ae,aZ,y,Z,ax,af,ah,aa,ay,ag,ai,rfl,aQ,Y,aL,aM,aN,T⟩:=TRat.elemA G al;have ab:=A_ (by rw[D];exact A0e Y:p.3.getD x.4.toNat A0h=y);have ac:=A_ T;have aO:ad<w.1.size+1+1:=oS;have aS:ae<w.1.size+1+1:=oS;rw[D]at aj ap aq;clear ar h au G H E X O Y T D;go_enter func132,ntmps132;go_wp2_with fail;refine X_ sI ?_;dsimp only[DJ,DK,DI];iterate 11 refine C_ _ ?_
 intro a5 a6 wa u W ak;clear ak;simp at W;go_simp;obtain⟨aR,aT⟩:=F_ u;have aV:w.1.size<wa.1.size:=ltg u;have aW:w.1.size+1<wa.1.size:=ltg u;clear W;go_wp2;refine BI (v:=AM #[AC y.1.1,S Z ax af,S aa ay ag]) (by simp[BO,results132,go_sem, *]) rfl ?_;refine⟨_,ah++ai,rfl,?_,Below.go⟩;rw[ab.o];exact ac.below Below.go
def A3o (M:List Bool):Nat->List Int
 |0=>[]
 |i+1=>if M.getD i AF then A3o M i++[(i:Int)]else A3o M i
def A9l (M:List Bool):List Int:=A3o M M.length
def A6i (n:Nat) (L:List Int):Nat->List Bool
 |0=>CJ n AF
 |i+1=>if inB 0 (L.getD i 0) ((n:Int) - 1)then(A6i n L i).set (L.getD i 0).toNat AD else A6i n L i
def B0a (n:Nat) (L:List Int):List Bool:=A6i n L L.length
def B4v (ts:List TTri) (es:List TEdge) (ks:List Int):Nat->List Bool
 |0=>CJ es.length AF
 |i+1=>(B4v ts es ks i).set (A3z es (A2i (ts.getD (ks.getD i 0).toNat A4p).b (ts.getD (ks.getD i 0).toNat A4p).c)) AD
def B4n (ts:List TTri) (L:List Int):List Int:=A9l (B0a ts.length L)
def A3d (ts:List TTri) (L:List Int):List Int:=A9l (B4v ts (P_ ts) (B4n ts L) (B4n ts L).length)
def clT (es:List TEdge) (t:TTri) (M:List Bool×Bool):List Bool×Bool :=
 if !(M.1.getD (A3z es (A2i t.b t.c)) AF)&&(M.1.getD (A3z es (A2i t.a t.b)) AF || M.1.getD (A3z es (A2i t.c t.a)) AF)then(M.1.set (A3z es (A2i t.b t.c)) AD,AD)else M
def B2o (es:List TEdge) (ts:List TTri) (M:List Bool):Nat->List Bool×Bool
 |0=>(M,AF)
 |k+1=>clT es (ts.getD k A4p) (B2o es ts M k)
def C8n (es:List TEdge) (ts:List TTri):Nat->List Bool->Option (List Bool)
 |0,_=>I
 |g+1,M=>if (B2o es ts M ts.length).2 then C8n es ts g (B2o es ts M ts.length).1 else QL (B2o es ts M ts.length).1
def A7b (ps:List TPoint) (es:List TEdge) (M:List Bool):Nat->List TPoint
 |0=>ps
 |i+1=>if M.getD i AF then A7b ps es M i++[A2f (Z_ ps (es.getD i A4o).a) (Z_ ps (es.getD i A4o).b)]else A7b ps es M i
def A8h (ps:List TPoint) (es:List TEdge) (M:List Bool):Nat->List Int
 |0=>CJ es.length 0
 |i+1=>(A8h ps es M i).set i (if M.getD i AF then((A7b ps es M i).length:Int)else -1)
def A7f (es:List TEdge) (mids:List Int) (a b:Int):Int:=if A6o es (A2i a b)then mids.getD (A3z es (A2i a b)) 0 else -1
def B7h (t:TTri) (m:Int):TTri:=⟨m,t.a,t.b,t.4,t.5+1⟩
def B7k (t:TTri) (m:Int):TTri:=⟨m,t.c,t.a,t.4,t.5+1⟩
def A6w (es:List TEdge) (mids:List Int):Nat->TTri->List TTri
 |0,t=>[t]
 |d+1,t=>if A7f es mids t.b t.c<0 then [t]else A6w es mids d (B7h t (A7f es mids t.b t.c))++A6w es mids d (B7k t (A7f es mids t.b t.c))
def A3b (es:List TEdge) (mids:List Int) (ts:List TTri):Nat->List TTri
 |0=>[]
 |k+1=>A3b es mids ts k++A6w es mids 2 (ts.getD k A4p)
def A2m (m:TMesh) (M:List Bool):TMesh :=
 ⟨A7b m.1 (P_ m.triangles) M M.length,A3b (P_ m.triangles) (A8h m.1 (P_ m.triangles) M (P_ m.triangles).length) m.triangles m.triangles.length⟩
def B4h (es:List TEdge) (t:TTri):Bool:=A6o es (A2i t.b t.c)&&(A6o es (A2i t.c t.a)&&A6o es (A2i t.a t.b))
end Go.Proofs.YtbkilakncnlebaaGreatDoor.X
