/- A part of the proof. -/
import Derived.Test.YtbhemnidcleaiaaGreatY14
set_option linter.constructorNameAsVariable false
set_option maxHeartbeats 16000000
set_option maxRecDepth 10000
namespace Go.Proofs.YtbhemnidcleaiaaGreat.X
open Go.RowKit Go.XB Go.XN Proofs.Tryz
theorem C6l {a b c x y:TPoint} {k:Nat} (h:k<3) (u:[a,b,c][(k+1) % 3]?=some x) (D:[a,b,c][(k+2) % 3]?=some y) :
  [A2f b c,A2f c a,A2f a b].take k++[A2f x y]=[A2f b c,A2f c a,A2f a b].take (k+1):=by
 obtain rfl|rfl|rfl:k=0\/k=1\/k=2:=oM;all_goals (cases u;cases D;rfl)
attribute [local go_sem] L_ opAt N_ M_ Region.wanted yielded
attribute [local simp] N_ M_ MP.eq MP.agg MP.sl MP.slbox A0r
theorem C6d (A:Option Addr) (c:Nat) (D b1 E:TPoint) (aM:List Nat) (w:World) (an:Sl w A 3 c [D,b1,E] aM) :
  Calls prog 215 #[.slice A 3 c] w (A0w w [A2f b1 E,A2f E D,A2f D b1]):=by
 have aa:=A_ an;clear an;go_enter func215,ntmps215;go_wp2_with fail;go_loopg [3,8] 3 (λg v s wr=>∃ (k gB cap:Nat),k+g=3/\s=.int .i64 k/\v=.slice (some ⟨gB,0,none⟩) k cap/\Hid (Pend w w 38 wr gB k cap ([A2f b1 E,A2f E D,A2f D b1].take k)));case atStart=>exact⟨0,w.1.size,0,rfl,rfl,rfl,Pend.start (Below.refl _ _)⟩
 case round =>
  obtain⟨k,gB,cap,ak,rfl,rfl,G⟩:=hrel;rcases Nat.lt_or_ge k 3 with O|O
  ·obtain⟨g,rfl⟩:∃ g,gk=g+1:=⟨gk - 1,oM⟩
   have a9:=A_ (by omega:k+1+g=3);have bI:(k:Int)<3:=oM;obtain⟨⟨m1,m2⟩,bc,bd⟩:=F1e O;obtain⟨bp,bT,x,bh,bL,br,bW,bi,bM,bs,bX,bj,bN,bt,bY,bk,bO,bu,bZ,rfl,a6,ao,aS,aT,aU,aV,aW,aX,ai⟩:=TPoint.elemA (aa.below G.bw) bc;obtain⟨bq,bU,y,bl,bP,bv,b0,bm,bQ,bz,b3,bn,bR,bA,b4,bo,bS,bB,b5,S,a7,ap,aY,aZ,a1,a2,a3,a4,aj⟩:=TPoint.elemA (aa.below G.bw) bd;injection S with S;injection S with h1 h2 _;subst h1;subst h2;have aL:=A_ (C6l O ao ap);have aE:=A_ ai;have aF:=A_ aj;have aD:=A_ (by unfold maxLen;omega:k+1<=maxLen/\(k+1)*112<=140737488355328);clear ao ap ai aj a7 ak;generalize (k+1) % 3=j at *;generalize (k+2) % 3=l at *;have bJ:(j:Int)<3:=oM;have bK:(l:Int)<3:=oM;go_wp2_with fail;refine W_ 15 kR kR kR kR kR ?_;simp only[List.take_succ_cons,List.take_zero,List.drop_succ_cons,List.drop_zero];iterate 13 refine C_ _ ?_
   refine D_ (MP.agg (A2f x y)) ?_ ?_;·intro H I u h b;obtain⟨bG,bH⟩:=F_ h;simp at b;refine G_ ?_;exact H_ (B1s _ _ x y _ _ u (aE.below h) (aF.below h))
   refine A1d (λaA=>MP.slbox (aA 13).cells 38) (by intro y aA af;simp[N_,M_]at af;simp[af]) ?_ ?_;·intro H I u h b;simp at b;obtain⟨W,au,ab,aO,X,aw,ac,aP,Y,ax,ad,aQ,Z,ay,ae,aR,K,_,_,_,_,_⟩:=TPoint.agg b.1;refine⟨gD,.slice (some ⟨u.1.size,0,none⟩) 1 1,u.alloc (.cells (H 13).cells 38),?_,Below.box _,[u.1.size],⟨u.1.size,rfl,rfl,heap_alloc_new u _⟩,sI⟩;rw[K];go_simp
   intro H I wa h b (a8:Hid _);simp at b;have az:=b.1;have be:=b.2.2.2.2.2.2.2.2.2.2.2.2.2.1;have bf:=b.2.2.2.2.2.2.2.2.2.2.2.2.2.2;obtain⟨⟨ag,ah⟩,am⟩:=be;obtain⟨W,au,ab,aO,X,aw,ac,aP,Y,ax,ad,aQ,Z,ay,ae,aR,K,aB,k1,k2,aq,ar⟩:=TPoint.agg ag;obtain⟨⟨bF,bE,bg,T⟩,ba⟩:=bf;rw[K]at T;have aC:=A_ (by rw[aB];exact TPoint.shut k1 k2 aq ar:Dat.at_ wa [.bool (A2f x y).x.1.1,.slice W au ab,.slice X aw ac,.bool (A2f x y).y.1.1,.slice Y ax ad,.slice Z ay ae] (A2f x y) (I 13));have aH:=A_ ah;have aK:=A_ (show ∀ J∈I 13,wr.1.size<=J from λJ a5=>(am J a5).1);have aI:=A_ T;have bD:H 0=.slice (some ⟨gB,0,none⟩) k cap:=az.1.1;have aG:=A_ h;clear b a8 ag ah am aB k1 k2 aq ar T ba bg az aS aT aU aV aW aX aY aZ a1 a2 a3 a4 a6 h;go_wp2_with (at_builtin;refine C7w rfl rfl underlying23 D1n G aG (A0a aI) aC aH aK aD ?_;intro g' aN bV al _ _);have aJ:=A_ (aL.o ▸ al.o);clear al;go_wp2_with fail;go_roundg g;case measure=>omega
   case rel=>exact⟨k+1,g',aN,a9,gN,rfl,aJ⟩
  obtain rfl:k=3:=oM;clear ak;go_wp2;go_ret;exact G.done
def B5b (a b c:TPoint):List TPoint:=[A2f b c,A2f c a,A2f a b]
def C5f (a b c:TPoint) (fs:List TRat) (more:TPoint):Nat->TRat
 |0=>U_ 0
 |k+1=>A0k (C5f a b c fs more k) (A1k (A3y (A2q a b c fs ((B5b a b c).getD k pt0)) more) (A3y (A2q a b c fs ((B5b a b c).getD k pt0)) more))
def C1a (a b c:TPoint) (fs:List TRat) (more:TPoint):TRat:=A0d (A6c a b c) (A0d (mkR 1 3) (C5f a b c fs more 3))

theorem C3h (A:Option Addr) (c:Nat) (b b1 h:TPoint) (ah:List Nat) (B:Option Addr) (d:Nat) (D:List TRat) (aZ:List Nat) (bj:Value) (z:TPoint) (bK:List Nat) (w:World) (ac:Sl w A 3 c [b,b1,h] ah) (a6:Sl w B 3 d D aZ) (aC:Agg w bj z bK)
  (a4:J_ (A2y b b1 h)=true) (a5:(A2y b b1 h).1.2≠[]) :
  Calls prog 163 #[.slice A 3 c,.slice B 3 d,bj] w (A0c w (C1a b b1 h D z)):=by
 have ao:=A_ ac;have br:=A_ a6;have bA:=A_ aC;have bp:=A_ a4;have bq:=A_ a5;obtain⟨cp,dl,cH,dr,cq,dm,cI,ds,cs,dn,cJ,bh,ct,dp,cK,b5,rfl,rfl,bS,bT,aj,bU⟩:=TPoint.agg aC;clear bS bT aj bU ac a6 aC a4 a5;go_enter func163,ntmps163;go_wp2_with fail;refine Calls.new2 λw0 af=>?_;refine(A0l 0 w0 cD).mono ?_;rintro _ ae ⟨v1,b6,rfl,ax,bR,ai⟩;obtain⟨O1,dj,cF,o1,O2,dk,cG,o2,rfl,-,-,-⟩:=TRat.agg ax;have aK:=A_ ax;have aq:=A_ (A0z af.k ai);have ap:=A_ (A0z af.l ai);have bo:=A_ (Below.next af.b ai);clear ax bR ai af;go_upto_region 2 with fail;refine Code.new λca S=>?_;have aU:=A_ (RatBox.new (x:=C5f b b1 h D z 0) aK S);have al:=A_ (Below.next bo S.b);have aT:=A_ (A0z aq S.b);have aR:=A_ (A0z ap S.b);have da:=E_ aq;have c9:=E_ ap;have ar:=A_ (E_ S.k);clear aK aq ap S;go_wp2_with fail;refine(C6d A c b b1 h ah ca (ao.below al)).mono ?_;rintro _ w3 ⟨M,bZ,bL,ms,rfl,aB,a9,T⟩;obtain rfl:3=bZ:=aB.1;have bu:=A_ (show Sl w3 M 3 bL (B5b b b1 h) ms from aB);have bv:=A_ (show ae.1.size∉ms from λaw=>by have:=(a9.2 _ aw).1;have:=ar.o;omega);have aL:=A_ (Below.next al T);have aV:=A_ (aU.below T);have bE:=A_ (A0z aT T);have bB:=A_ (A0z aR T);have c8:ae.1.size<w3.1.size:=by have:=T.size;have:=ar.o;omega
 clear aB a9 T aU al aT aR ar;go_wp2_with fail;go_loopg [15] 3 (λg s wr=>∃ (k:Nat) (bi:List Nat),k+g=3/\s=.int .i64 k/\Hid (w3.grownBy wr (some ae.1.size))/\Hid (RatBox wr ae.1.size (C5f b b1 h D z k) bi));case atStart=>exact⟨0,b6,rfl,rfl,B3a w3 _,aV⟩
 case round =>
  clear aV;obtain⟨k,bi,a8,rfl,aa,a3⟩:=hrel;have X:=A_ (aL.grown aa aL.size (λx ac=>by injection ac with ac;omega));have bF:=A_ (B8b bE.o aa.o oM);have aS:=A_ (B8b bB.o aa.o oM);have bz:=A_ (bu.keepG aa bv);obtain⟨P1,n1,m1,P2,n2,m2,be,a1,c4⟩:=a3.o;have aO:=A_ be;have aG:=A_ a1;obtain⟨cg,-,bY⟩:=bx bF;clear be a1 a3;rcases Nat.lt_or_ge k 3 with ab|ab
  ·have c2:(k:Int)<3:=oM
   obtain⟨g,rfl⟩:∃ g,gk=g+1:=⟨gk - 1,oM⟩
   have bQ:=A_ (by omega:k+1+g=3);have c1:k+1<=3:=ab;obtain⟨cu,dq,x,ch,db,cv,cL,ci,dc,cw,cM,cj,dd,cx,cN,ak,de,cy,cO,bN,cY,bd,cP,cQ,cR,cU,cV,cW,a2⟩:=TPoint.elemA bz ab;subst bN;have bG:=A_ (show A0k (C5f b b1 h D z k) (A1k (A3y (A2q b b1 h D x) z) (A3y (A2q b b1 h D x) z))=C5f b b1 h D z (k+1) by rw[C5f,List.getD_eq_getElem?_getD,bd];rfl);have bt:=A_ a2;generalize C5f b b1 h D z k=O at *;clear a8 ab bd a2;go_wp2_with fail;refine X_ sI ?_;dsimp only[List.dropLast,List.getLast,List.length];iterate 3 refine C_ _ ?_
   refine D_ (MP.agg (A2q b b1 h D x)) ?_ ?_;·intro I G H E u;obtain⟨J,K⟩:=F_ E;simp at u;refine G_ ?_;exact H_ (D6l A c b b1 h ah B d D aZ _ x _ H ((ao.below X).below Below.go) ((br.below X).below Below.go) (bt.below Below.go) bp bq)
   refine C_ _ ?_;refine D_ (MP.agg (A3y (A2q b b1 h D x) z)) ?_ ?_;·intro I G H E u;obtain⟨J,K⟩:=F_ E;simp at u;refine G_ ?_;obtain⟨t,_⟩:=u;exact H_ (A4x _ _ (A2q b b1 h D x) z _ _ H t.1 ((bA.below X).below Below.go))
   refine A1p #[.bool false,.slice none 0 0,.slice none 0 0,.bool false,.slice none 0 0,.slice none 0 0] 38 ?_ ?_;·intro I G H E u;refine⟨gD,?_⟩;go_simp
   intro I G wa E u (W:Hid _);simp at u;have ad:=u.2.2.2.2.2.1;have b4:=u.2.2.2.2.2.2;obtain⟨⟨gb,dy,aE,aA⟩,ba⟩:=b4;obtain⟨aI,bf,aX,u1,aJ,bg,aY,u2,ck,df,cz,du,cm,dg,cA,dv,cf,-,-,-,-,-⟩:=TPoint.agg ad.1.1;have ay:=ad.1.1;rw[cf]at ay;have am:=A_ (show Bw wr wa from Below.go);have bO:wr.1.size<=gb:=by have:=(ba gb (by rw[aE];simp)).1;(try simp at this);omega
   have ak:=A_ (show gb∉G 5 from λaz=>by have:=W 5 6 dE dE dE _ az;rw[aE]at this;simp at this);have aF:=A_ ay;have aN:=A_ aA;obtain⟨b7,b8,bP⟩:=bx aA;generalize G 5=b5 at *;clear u W ba E ay aE ad aA;go_upto_region 6 with fail;refine Code.set6 aN λbJ ag=>?_;have an:=A_ (ag.low am am.size bO);have aH:=A_ (aF.keepG ag.gr ak);have aQ:=A_ (A0z aO an);obtain⟨bM,-,c0⟩:=bx ag.k;obtain⟨bX,-,cX⟩:=bx aQ;clear b7 b8 bP aN aF am ag ak;refine X_ sI ?_;dsimp only[List.dropLast,List.getLast,List.length];iterate 3 refine C_ _ ?_
   refine D_ (MP.agg (A1k (A3y (A2q b b1 h D x) z) (A3y (A2q b b1 h D x) z))) ?_ ?_;·intro I G H E u;obtain⟨J,K⟩:=F_ E;simp at u;refine G_ ?_;exact H_ (A8z _ _ (A3y (A2q b b1 h D x) z) (A3y (A2q b b1 h D x) z) _ _ H (aH.below Below.go) (aH.below Below.go))
   refine D_ (MP.agg (A0k O (A1k (A3y (A2q b b1 h D x) z) (A3y (A2q b b1 h D x) z)))) ?_ ?_;·intro I G H E u;obtain⟨J,K⟩:=F_ E;simp at u;refine G_ ?_;obtain⟨_,t,_⟩:=u;exact H_ (A0x _ _ O (A1k (A3y (A2q b b1 h D x) z) (A3y (A2q b b1 h D x) z)) _ _ H ((aG.below an).below Below.go) t)
   intro I G wb E u (W:Hid _);simp at u;have b3:=u.2.2.2.2;obtain⟨⟨Y,-⟩,aj⟩:=b3;rw[bG.o]at Y;obtain⟨cn,dh,cB,v1,co,di,cE,v2,ce,-,-,-⟩:=TRat.agg Y;rw[ce]at Y;have aM:=A_ (show Bw bJ wb from Below.go);have bk:=A_ Y;have bH:=A_ (show ae.1.size∉G 4 from λaw=>by have:=(aj _ aw).1;(try simp at this);omega);have aP:=A_ (A0z aQ aM);have bs:=A_ (E1s aa (Below.next an aM));obtain⟨c6,c7,c5⟩:=bx aP;generalize G 4=bh at *;clear u W Y aj E bX bM;go_upto_region 7 with fail;refine Code.set3 aP λV aW=>?_;go_wp2_with fail;go_roundg g;case measure=>omega
   case rel=>exact⟨k+1,bh,bQ,gN,gtr bs aW.gr,RatBox.set bk aW bH⟩
  obtain rfl:k=3:=oM;have bn:=A_ (show A0d (A6c b b1 h) (A0d (mkR 1 3) (C5f b b1 h D z 3))=C1a b b1 h D z from rfl);generalize C5f b b1 h D z 3=O at *;obtain⟨cc,cb,bW⟩:=bx aS;obtain⟨b0,-,bV⟩:=bx aO;clear a8 ab;go_wp2_with fail;refine X_ sI ?_;dsimp only[List.dropLast,List.getLast,List.length];refine C_ _ ?_;refine D_ (MP.agg (A6c b b1 h)) ?_ ?_;·intro I G H E u;obtain⟨J,K⟩:=F_ E;simp at u;refine G_ ?_;exact H_ (B3h A c b b1 h ah H ((ao.below X).below Below.go))
  refine D_ (MP.agg (mkR 1 3)) ?_ ?_;·intro I G H E u;obtain⟨J,K⟩:=F_ E;simp at u;refine G_ ?_;exact H_ (A7u 1 3 H cD cD dE)
  refine C_ _ ?_;refine D_ (MP.agg (A0d (mkR 1 3) O)) ?_ ?_;·intro I G H E u;obtain⟨J,K⟩:=F_ E;simp at u;refine G_ ?_;obtain⟨aD,_⟩:=u;exact H_ (A0n _ _ (mkR 1 3) O _ _ H aD.1 (aG.below Below.go))
  refine D_ (MP.agg (A0d (A6c b b1 h) (A0d (mkR 1 3) O))) ?_ ?_;·intro I G H E u;obtain⟨J,K⟩:=F_ E;simp at u;refine G_ ?_;obtain⟨aD,b9,_⟩:=u;exact H_ (A0n _ _ (A6c b b1 h) (A0d (mkR 1 3) O) _ _ H aD.1 b9)
  intro I G wa E u (W:Hid _);simp at u;have ad:=u.2.2.2.2.2;obtain⟨⟨Z,a7⟩,bc⟩:=ad;rw[bn.o]at Z;obtain⟨aI,bf,aX,u1,aJ,bg,aY,u2,cd,-,-,-⟩:=TRat.agg Z;rw[cd]at Z;have bl:=A_ Z;have bm:=A_ a7;have bI:=A_ (show ∀ au∈G 5,w.1.size+2<=au from λau az=>by have:=(bc au az).1;(try simp at this);omega);have bD:=A_ (A0z aS E);have cZ:=Below.next X E;obtain⟨dx,dw,l1⟩:=bx bD;generalize G 5=dt at *;clear u W Z a7 bc cc cb b0 bV bW cg bY;go_wp2;refine bodyPost_ret (v:=.agg #[.bool (C1a b b1 h D z).1.1,.slice aI bf aX,.slice aJ bg aY]) (by simp[results,results163,go_sem, *]) rfl ?_;refine A1s (lo:=w.1.size+2) bl.o bm.o bI.o oM ?_ ?_;·exact Above.go
  exact Below.go
structure FluxI (m:TMesh) (xs ys:List Int) (fs:List TRat):Prop where
 mesh:MeshI m xs ys
 len:fs.length=(P_ m.triangles).length
 ok:fs.all J_=true
theorem A5n (A:Option Addr) (n c:Nat) (xs:List TRat) (b:List Nat) (w:World) (u:Sl w A n c xs b) (h:xs.all J_=true) :
  Calls prog 44 #[.slice A n c,.int .i64 n] w (A0b w (.bool true)):=by
 have E:=A_ u;have D:=A_ h;clear u h;go_enter func44,ntmps44;go_wp2_with fail;have C:=A1r A n c xs b w E;rw[D.o]at C;refine C.mono ?_;clear C;rintro _ H ⟨rfl,G⟩;go_wp2;go_ret;exact⟨rfl,G⟩

def B4q (x:TRat):Prop:=x.1.2.length<=24/\x.2.length<=24
theorem B1b {x:TRat} (h:J_ x=true):B4q x:=⟨(ratOkB_iff.1 h).num24,(ratOkB_iff.1 h).den24⟩
theorem B6l {xs:List TRat} (h:xs.all J_=true):∀ x∈xs,B4q x:=λx hx=>B1b (List.all_eq_true.1 h x hx)
theorem D5e (a b:Int):B4q (mkR a b):=by
 unfold mkR;split;·rename_i h;exact h
 exact⟨dE,dE⟩
theorem C9z (r s:TRat):B4q (A0k r s):=by
 unfold A0k;split;·exact D5e _ _
 exact⟨dE,dE⟩
def E7n (us:List TRat) (r:TRat) (vs:List TRat):List TRat:=List.zipWith (λx y=>A0k x (A0d r y)) us vs
theorem A0e {α:Type} {l:List α} {n:Nat} {d x:α} (h:l[n]?=some x):l.getD n d=x:=by simp[List.getD,h]
theorem A2l (A:Option Addr) (n c:Nat) (xs:List TRat) (ar:List Nat) (w:World) (ah:Sl w A n c xs ar) (aT:n<=144) (af:∀ x∈xs,B4q x) :
  Calls prog 116 #[.slice A n c] w (A0w w xs):=by
 have Y:=A_ ah;have ao:=A_ af;have aU:(n:Int)<=144:=oM;obtain⟨aE,ax,aB,aC,aD⟩:=info_parts B2r;clear ah af;go_enter func116,ntmps116;go_wp2_with fail;have aa:=A_ (Pend.start (α:=TRat) (e:=35) (Below.refl w.1.size w));go_loopg [3,9] n (λg s3 s wr=>∃ (i gB cap:Nat),i+g=n/\s=.int .i64 i/\s3=.slice (some ⟨gB,0,none⟩) i cap/\Hid (Pend w w 35 wr gB i cap (xs.take i)));case atStart=>exact⟨0,w.1.size,0,oM,rfl,rfl,aa.o⟩
 case round =>
  clear aa;obtain⟨i,gB,cap,ae,rfl,rfl,h⟩:=hrel;have am:=A_ h.bw;rcases Nat.lt_or_ge i n with b|b
  ·have az:(i:Int)<n:=oM
   obtain⟨g,rfl⟩:∃ g,gk=g+1:=⟨gk - 1,oM⟩
   have ay:=A_ (by omega:i+1+g=n);have aS:i+1<=n:=b;have aj:=A_ (by unfold maxLen;omega:i+1<=maxLen);have ak:=A_ (by omega:(i+1)*56<=140737488355328);obtain⟨aJ,aV,x,aH,n1,aK,aW,aI,n2,aL,aX,rfl,aR,K,aM,aN,aO,ac⟩:=TRat.elemA (Y.below am) b;have Z:=A_ (ao x (List.mem_of_getElem? K));have aq:=A_ (take_step K);have al:=A_ ac;clear ae b ac K;go_wp2_with fail;refine(A3n _ x _ _ (al.below Below.go) (Nat.le_trans Z.1 dE) (Nat.le_trans Z.2 dE)).mono ?_;rintro _ wa ⟨aY,ai,rfl,I,J,ad⟩;obtain⟨u,O,G,aP,D,S,H,aQ,rfl,aG,_,_⟩:=TRat.agg I;have T:=A_ (A3x (I.below (Below.box (.cells #[.bool x.1.1,.slice u O G,.slice D S H] 35))));have W:=A_ ((J.below (Below.box (.cells #[.bool x.1.1,.slice u O G,.slice D S H] 35))).free);have X:=A_ (show ∀ E∈ai,wr.1.size<=E from λE au=>by have:=(J.2 E au).1;simp at this;omega);have an:=A_ (show Bw wr wa from Below.trans (Below.box _) (ad.mono sI));clear I J aG ad;go_wp2_with (at_builtin;refine A1v rfl _ _ 27 rfl 35 aE (.agg #[.bool false,.slice none 0 0,.slice none 0 0]) 56 underlying27 ax aB aC aD rfl h (Below.next an (Below.box _)) gD ⟨wa.1.size,0,none⟩ 1 [.bool x.1.1,.slice u O G,.slice D S H] x ai gD (A0a (heap_alloc_new wa _)) T W X aj ak ?_;intro g' ab aF ag aw aA);have ap:=A_ (by rw[aq.o];exact ag:Pend w w 35 aF g' (i+1) ab (xs.take (i+1)));clear ag aw aA T W X h;go_wp2_with fail;go_roundg g;case measure=>omega
   case rel=>exact⟨i+1,g',ab,ay,gN,rfl,ap⟩
  obtain rfl:i=n:=oM;have az:¬ ((i:Int)<i):=oM;clear ae b;go_wp2;go_ret;have:=h.done;rwa [List.take_of_length_le (by rw[Y.o.1];exact Nat.le_refl _)]at this
section
structure AccSt (w U:World) (g r0:Nat) (x:TRat) (P1:Option Addr) (p1 q1:Nat) (P2:Option Addr) (p2 q2:Nat) (rl:List Nat):Prop where
 bl:Bw w U
 rb:RBox U g x P1 p1 q1 P2 p2 q2
 ag:Agg U (.agg #[.bool x.1.1,.slice P1 p1 q1,.slice P2 p2 q2]) x rl
 ow:Own w U rl
 dl:g∉rl/\r0∉rl
 rs:U.1[r0]?=some (.cells #[.bool false,.slice none 0 0,.slice none 0 0] 35)
 lo:w.1.size<=r0/\r0<g
section
variable {w U U':World} {g r0:Nat} {x y:TRat} {P1:Option Addr} {p1 q1:Nat} {P2:Option Addr} {p2 q2:Nat} {rl ry:List Nat} {O1:Option Addr} {o1 u1:Nat} {O2:Option Addr} {o2 u2:Nat}
end
end
structure ProbI (p:TProblem) (xs ys:List Int):Prop where
 mesh:MeshI p.1 xs ys
 dl:p.2.length=3
 dok:p.2.all J_=true
 dpos:∀ r∈p.2,0<R_ r
 sl:p.3.length=3
 sok:p.3.all J_=true
 reg:∀ t∈p.1.triangles,0<=t.4/\t.4<3
theorem B2t:A4f 191:=λa w=>kR
theorem B4e (v:Value) (x:TRat) (b:List Nat) (w:World) (h:Agg w v x b) (D:J_ x=true) (E:0<R_ x):Calls prog 191 #[v] w (A0b w (.bool false)):=by
 have J:=A_ h;have u:=A_ (ratOkB_iff.1 D);have I:=A_ (by unfold A2v sgn;rw[if_neg oM,if_pos E]:A2v x=1);obtain⟨G,n1,K,X,H,n2,O,Y,rfl,rfl,T,W⟩:=TRat.agg h;clear T W h D E;go_enter func191,ntmps191;go_wp2_with fail;have C:=A7y _ x _ _ (J.below (Below.box (.cells #[.bool x.1.1,.slice G n1 K,.slice H n2 O] 35))) u.mag (A4h u.1);rw[I.o]at C;refine C.mono ?_;clear C;rintro _ Z ⟨rfl,S⟩;go_wp2;go_ret;exact⟨rfl,Below.trans (Below.box _) (S.mono sI)⟩
theorem B5u (v:Value) (p:TProblem) (b:List Nat) (xs ys:List Int) (w:World) (H:Agg w v p b) (u:ProbI p xs ys):Calls prog 129 #[v] w (A0b w (.bool true)):=by
 have ak:=A_ H;have h:=A_ u;obtain⟨ai,aw,al,ax,aj,n1,am,ay,J,n2,T,Y,aa,ag,c3,ah,rfl,rfl,ae,af,E,G⟩:=TProblem.agg H;have K:=A_ E;have ab:=A_ G;obtain rfl:3=n2:=by rw[<-E.1];exact u.dl.symm
 obtain rfl:3=ag:=by rw[<-G.1];exact u.sl.symm
 clear ae af E G H u;go_enter func129,ntmps129;go_wp2_with fail;refine(A5n J 3 T p.2 Y _ (K.below Below.go) h.dok).mono ?_;rintro _ I ⟨rfl,W⟩;obtain⟨an,ap⟩:=F_ W;have ar:w.1.size<I.1.size:=ltg W;have O:=A_ (show Bw w I from Below.go);go_wp2_with fail;refine(A5n aa 3 c3 p.3 ah I (ab.below O) h.sok).mono ?_;rintro _ Z ⟨rfl,D⟩;obtain⟨ao,aq⟩:=F_ D;have au:w.1.size<Z.1.size:=ltg D;have S:=A_ (Below.next O D);go_wp2_with fail;have C:=A7e 191 B2t J 3 T p.2 Y Z (λ_=>false) (K.below S) (λv x b w X ac=>B4e v x b w ac (List.all_eq_true.1 h.dok x X) (h.dpos x X));rw[show p.2.any (λ_=>false)=false by simp]at C;refine C.mono ?_;clear C;rintro _ w3 ⟨rfl,ad⟩;go_wp2;go_ret;exact⟨rfl,Below.next S ad⟩
theorem B5t (v:Value) (p:TProblem) (b:List Nat) (xs ys:List Int) (w:World) (h:Agg w v p b) (H:ProbI p xs ys):Calls prog 72 #[v] w (A0b w (.bool true)):=by
 have O:=A_ h;have E:=A_ H;obtain⟨X,ah,ab,aj,Y,n1,ac,ak,Z,n2,ad,al,aa,ai,c3,am,rfl,rfl,I,J,T,W⟩:=TProblem.agg h;have K:=A_ (TMesh.mkAgg (x:=p.1) I J);clear I J T W h H;go_enter func72,ntmps72;go_wp2_with fail;refine(B5u _ p _ xs ys _ (O.below Below.go) E).mono ?_;rintro _ u ⟨rfl,G⟩;obtain⟨ae,af⟩:=F_ G;have ag:w.1.size<u.1.size:=ltg G;have D:=A_ (show Bw w u from Below.go);go_wp2_with fail;refine(B1u _ p.1 _ xs ys u (K.below D) E.1).mono ?_;rintro _ an ⟨rfl,S⟩;go_wp2;go_ret;exact⟨rfl,Below.next D S⟩
theorem C8z (v:Value) (p:TProblem) (b:List Nat) (xs ys:List Int) (B:Option Addr) (m d:Nat) (us:List TRat) (E:List Nat) (w:World) (h:Agg w v p b) (I:ProbI p xs ys) (K:Sl w B m d us E) (O:us.all J_=true) (H:m=p.1.1.length):Calls prog 31 #[v,.slice B m d] w (A0b w (.bool true)):=by
 have X:=A_ h;have S:=A_ I;have T:=A_ K;have W:=A_ O;obtain⟨ad,ac,ah,ao,ae,n1,ai,ap,af,n2,aj,aq,ag,an,c3,ar,rfl,rfl,J,Z,aa,ab⟩:=TProblem.agg h;obtain rfl:m=ac:=by rw[H];exact J.1
 clear J Z aa ab h I K O H;go_enter func31,ntmps31;go_wp2_with fail;refine(A5n B m d us E _ (T.below Below.go) W).mono ?_;rintro _ u ⟨rfl,G⟩;obtain⟨ak,al⟩:=F_ G;have am:w.1.size<u.1.size:=ltg G;have D:=A_ (show Bw w u from Below.go);go_wp2_with fail;refine(B5t _ p _ xs ys u (X.below D) S).mono ?_;rintro _ au ⟨rfl,Y⟩;go_wp2;go_ret;exact⟨rfl,Below.next D Y⟩
theorem B1h (v:Value) (p:TProblem) (b:List Nat) (k:Nat) (t:TTri) (w:World) (H:Agg w v p b) (E:p.1.triangles[k]?=some t) (O:p.2.length=3) (ak:0<=t.4/\t.4<3) :
  Calls prog 80 #[v,.int .i64 k] w (C4o w (p.2.getD t.4.toNat A0h)):=by
 have az:=A_ H;obtain⟨ar,aT,aA,aX,au,n1,aB,aY,aw,n2,aC,aZ,ax,aU,c3,a1,rfl,rfl,an,h,G,ao⟩:=TProblem.agg H;have ai:k<n1:=by rw[<-h.1];exact(List.getElem?_eq_some_iff.1 E).1
 have aj:n1<=maxLen:=Nat.le_trans h.2.1 h.2.2.1;unfold maxLen at aj;obtain rfl:3=n2:=by rw[<-G.1];exact O.symm
 obtain⟨al,am⟩:=ak;obtain⟨Z,aV,x,rfl,aL,I,aD,aE,aF,af,aG,_⟩:=TTri.elemA h ai;obtain rfl:x=t:=by rw[E]at I;exact(Option.some.inj I).symm
 obtain⟨j,D⟩:∃ j:Nat,x.4=j:=⟨x.4.toNat,oM⟩
 have ah:j<3:=oM;have aQ:(k:Int)<n1:=oM;obtain⟨aa,aW,y,T,ap,ab,ad,W,aq,ac,ae,rfl,aM,S,aH,aI,aJ,J⟩:=TRat.elemA G ah;have X:=A_ (by rw[D];exact A0e S:p.2.getD x.4.toNat A0h=y);have Y:=A_ J;have aK:Z<w.1.size+1+1:=oM;have aO:aa<w.1.size+1+1:=oM;rw[D]at af al am;clear an h G ao H E O I S J D;go_enter func80,ntmps80;go_wp2_with fail;refine X_ sI ?_;dsimp only[List.dropLast,List.getLast,List.length];iterate 11 refine C_ _ ?_
 intro a2 a3 wa u K (ag:Hid _);simp at K;go_simp;have ay:=A_ (show Bw w wa from Below.go);obtain⟨aN,aP⟩:=F_ u;have aR:w.1.size<wa.1.size:=ltg u;have aS:w.1.size+1<wa.1.size:=ltg u;clear K ag;go_wp2;refine bodyPost_ret (v:=.agg #[.bool y.1.1,.slice T ap ab,.slice W aq ac]) (by simp[results,results80,go_sem, *]) rfl ?_;refine⟨_,ad++ae,rfl,?_,Below.go⟩;rw[X.o];exact Y.below Below.go
theorem C1w (v:Value) (p:TProblem) (b:List Nat) (k:Nat) (t:TTri) (w:World) (H:Agg w v p b) (E:p.1.triangles[k]?=some t) (O:p.3.length=3) (ak:0<=t.4/\t.4<3) :
  Calls prog 160 #[v,.int .i64 k] w (C4o w (p.3.getD t.4.toNat A0h)):=by
 have aA:=A_ H;obtain⟨au,aU,aB,aX,aw,n1,aC,aY,ax,n2,aD,aZ,ay,ap,c3,a1,rfl,rfl,an,h,ao,G⟩:=TProblem.agg H;have ai:k<n1:=by rw[<-h.1];exact(List.getElem?_eq_some_iff.1 E).1
 have aj:n1<=maxLen:=Nat.le_trans h.2.1 h.2.2.1;unfold maxLen at aj;obtain rfl:3=ap:=by rw[<-G.1];exact O.symm
 obtain⟨al,am⟩:=ak;obtain⟨Z,aV,x,rfl,aM,I,aE,aF,aG,af,aH,_⟩:=TTri.elemA h ai;obtain rfl:x=t:=by rw[E]at I;exact(Option.some.inj I).symm
 obtain⟨j,D⟩:∃ j:Nat,x.4=j:=⟨x.4.toNat,oM⟩
 have ah:j<3:=oM;have aR:(k:Int)<n1:=oM;obtain⟨aa,aW,y,T,aq,ab,ad,W,ar,ac,ae,rfl,aN,S,aI,aJ,aK,J⟩:=TRat.elemA G ah;have X:=A_ (by rw[D];exact A0e S:p.3.getD x.4.toNat A0h=y);have Y:=A_ J;have aL:Z<w.1.size+1+1:=oM;have aP:aa<w.1.size+1+1:=oM;rw[D]at af al am;clear an h ao G H E O I S J D;go_enter func160,ntmps160;go_wp2_with fail;refine X_ sI ?_;dsimp only[List.dropLast,List.getLast,List.length];iterate 11 refine C_ _ ?_
 intro a2 a3 wa u K (ag:Hid _);simp at K;go_simp;have az:=A_ (show Bw w wa from Below.go);obtain⟨aO,aQ⟩:=F_ u;have aS:w.1.size<wa.1.size:=ltg u;have aT:w.1.size+1<wa.1.size:=ltg u;clear K ag;go_wp2;refine bodyPost_ret (v:=.agg #[.bool y.1.1,.slice T aq ab,.slice W ar ac]) (by simp[results,results160,go_sem, *]) rfl ?_;refine⟨_,ad++ae,rfl,?_,Below.go⟩;rw[X.o];exact Y.below Below.go
def A3o (M:List Bool):Nat->List Int
 |0=>[]
 |i+1=>if M.getD i false then A3o M i++[(i:Int)]else A3o M i
def A9l (M:List Bool):List Int:=A3o M M.length
def A6i (n:Nat) (L:List Int):Nat->List Bool
 |0=>List.replicate n false
 |i+1=>if inB 0 (L.getD i 0) ((n:Int) - 1)then(A6i n L i).set (L.getD i 0).toNat true else A6i n L i
def B0a (n:Nat) (L:List Int):List Bool:=A6i n L L.length
def B4v (ts:List TTri) (es:List TEdge) (ks:List Int):Nat->List Bool
 |0=>List.replicate es.length false
 |i+1=>(B4v ts es ks i).set (A3z es (A2i (ts.getD (ks.getD i 0).toNat A4p).b (ts.getD (ks.getD i 0).toNat A4p).c)) true
def B4n (ts:List TTri) (L:List Int):List Int:=A9l (B0a ts.length L)
def A3d (ts:List TTri) (L:List Int):List Int:=A9l (B4v ts (P_ ts) (B4n ts L) (B4n ts L).length)
def clT (es:List TEdge) (t:TTri) (M:List Bool×Bool):List Bool×Bool :=
 if !(M.1.getD (A3z es (A2i t.b t.c)) false)&&(M.1.getD (A3z es (A2i t.a t.b)) false || M.1.getD (A3z es (A2i t.c t.a)) false)then(M.1.set (A3z es (A2i t.b t.c)) true,true)else M
def B2o (es:List TEdge) (ts:List TTri) (M:List Bool):Nat->List Bool×Bool
 |0=>(M,false)
 |k+1=>clT es (ts.getD k A4p) (B2o es ts M k)
def C8n (es:List TEdge) (ts:List TTri):Nat->List Bool->Option (List Bool)
 |0,_=>none
 |g+1,M=>if (B2o es ts M ts.length).2 then C8n es ts g (B2o es ts M ts.length).1 else some (B2o es ts M ts.length).1
def A7b (ps:List TPoint) (es:List TEdge) (M:List Bool):Nat->List TPoint
 |0=>ps
 |i+1=>if M.getD i false then A7b ps es M i++[A2f (Z_ ps (es.getD i A4o).a) (Z_ ps (es.getD i A4o).b)]else A7b ps es M i
def A8h (ps:List TPoint) (es:List TEdge) (M:List Bool):Nat->List Int
 |0=>List.replicate es.length 0
 |i+1=>(A8h ps es M i).set i (if M.getD i false then((A7b ps es M i).length:Int)else -1)
def A7f (es:List TEdge) (mids:List Int) (a b:Int):Int:=if A6o es (A2i a b)then mids.getD (A3z es (A2i a b)) 0 else -1
def B7h (t:TTri) (m:Int):TTri:=⟨m,t.a,t.b,t.4,t.5+1⟩
def B7k (t:TTri) (m:Int):TTri:=⟨m,t.c,t.a,t.4,t.5+1⟩
def A6w (es:List TEdge) (mids:List Int):Nat->TTri->List TTri
 |0,t=>[t]
 |d+1,t=>if A7f es mids t.b t.c<0 then [t]else A6w es mids d (B7h t (A7f es mids t.b t.c))++A6w es mids d (B7k t (A7f es mids t.b t.c))
def A3b (es:List TEdge) (mids:List Int) (ts:List TTri):Nat->List TTri
 |0=>[]
 |k+1=>A3b es mids ts k++A6w es mids 2 (ts.getD k A4p)
def A2m (m:TMesh) (M:List Bool):TMesh :=
 ⟨A7b m.1 (P_ m.triangles) M M.length,A3b (P_ m.triangles) (A8h m.1 (P_ m.triangles) M (P_ m.triangles).length) m.triangles m.triangles.length⟩
def B4h (es:List TEdge) (t:TTri):Bool:=A6o es (A2i t.b t.c)&&(A6o es (A2i t.c t.a)&&A6o es (A2i t.a t.b))
theorem B1o (n:Nat) (L:List Int):∀ i,(A6i n L i).length=n
 |0=>by simp[A6i]
 |i+1=>by
  unfold A6i
  split
  ·rw[List.length_set,B1o n L i]
  exact B1o n L i
theorem C5q (ts:List TTri) (es:List TEdge) (ks:List Int):∀ i,(B4v ts es ks i).length=es.length
 |0=>by simp[B4v]
 |i+1=>by rw[B4v,List.length_set,C5q ts es ks i]
theorem B8l {M:List Bool}:∀ {i:Nat} {x:Int},x∈A3o M i->0<=x/\x<i
 |0,x,h=>by simp[A3o]at h
 |i+1,x,h=>by
  unfold A3o at h
  split at h
  ·rcases List.mem_append.1 h with h|h
   ·have:=B8l h;omega
   simp at h;omega
  have:=B8l h;omega
theorem B4g (M:List Bool):∀ i,(A3o M i).length<=i
 |0=>Nat.le_refl _
 |i+1=>by
  have:=B4g M i
  unfold A3o
  split
  ·rw[List.length_append];simp;omega
  omega
end Go.Proofs.YtbhemnidcleaiaaGreat.X
