/- A part of the proof. -/
import Derived.Test.YtbhemnidcleaiaaGreatY15
import Derived.Deep.RegionHeld3
set_option linter.constructorNameAsVariable false
set_option maxHeartbeats 16000000
set_option maxRecDepth 10000
namespace Go.XB
open Go.RowKit
def MP.eqS {α:Type} [Dat α] (v:Value) (x:α):MP:=⟨λu bs w=>u=v/\bs=[]/\∃ s,Agg w u x s,λu bs w w' hb h=>by
 obtain⟨h1,h2,s,hs⟩:=h;exact⟨h1,h2,s,hs.below hb⟩⟩
end Go.XB
namespace Go.Proofs.YtbhemnidcleaiaaGreat.X
open Go.RowKit Go.XB Go.XN Proofs.Tryz
def c3 (a b c:TPoint) (i:Nat):TPoint:=[a,b,c].getD (i % 3) pt0
def C9m (a b c:TPoint) (i:Nat):TPoint:=⟨A3t (c3 a b c (i+1)).y (c3 a b c (i+2)).y,A3t (c3 a b c (i+2)).x (c3 a b c (i+1)).x⟩
def A5w (a b c:TPoint) (i:Nat):TPoint:=⟨A3u (C9m a b c i).x (A2y a b c),A3u (C9m a b c i).y (A2y a b c)⟩
def C0j (a b c:TPoint):Nat->List TPoint
 |0=>[]
 |k+1=>C0j a b c k++[A5w a b c k]
def C5e (a b c:TPoint):List TPoint:=C0j a b c 3
theorem B8g (a b c:TPoint):∀ k,(C0j a b c k).length=k
 |0=>rfl
 |k+1=>by rw[C0j,List.length_append,B8g a b c k];rfl
theorem E4q {w:World} {y:TPoint} {u0 u1 u2 u u4 D:Value} {b:List Nat} (h:Agg w (.agg #[u0,u1,u2,u,u4,D]) y b):Dat.at_ w [u0,u1,u2,u,u4,D] y b:=by
 obtain⟨E,I,H⟩:=h;have G:E=[u0,u1,u2,u,u4,D]:=by have:=congrArg (λv=>match v with | .agg c=>c.toList|_=>[]) I;simpa using this.symm
 rw[<-G];exact H
theorem ptX {w:World} {x:TPoint} {u0 u1 u2 G u4 H:Value} {b:List Nat} (h:Agg w (.agg #[u0,u1,u2,G,u4,H]) x b):∃ b1,Agg w (.agg #[u0,u1,u2]) x.x b1/\∀ g∈b1,g∈b:=by
 obtain⟨I,aa,S,ae,J,ab,T,af,K,ac,W,ag,O,ad,X,ah,e,rfl,D,E,Y,Z⟩:=TPoint.agg h;injection e with e;simp at e;obtain⟨rfl,rfl,rfl,_⟩:=e;exact⟨_,TRat.mkAgg D E,λg u=>by simp at u ⊢;rcases u with h|h<;>simp[h]⟩
theorem ptY {w:World} {x:TPoint} {u0 u1 u2 D u4 E:Value} {b:List Nat} (h:Agg w (.agg #[u0,u1,u2,D,u4,E]) x b):∃ b1,Agg w (.agg #[D,u4,E]) x.y b1/\∀ g∈b1,g∈b:=by
 obtain⟨I,aa,S,ae,J,ab,T,af,K,ac,W,ag,O,ad,X,ah,e,rfl,Y,Z,G,H⟩:=TPoint.agg h;injection e with e;simp at e;obtain⟨_,_,_,rfl,rfl,rfl⟩:=e;exact⟨_,TRat.mkAgg G H,λg u=>by simp at u ⊢;rcases u with h|h<;>simp[h]⟩
theorem D9f {p q:TRat} (h:A1b ⟨p,q⟩=true):J_ p=true:=by
 unfold A1b at h;simp at h;exact h.1
theorem D9q {p q:TRat} (h:A1b ⟨p,q⟩=true):J_ q=true:=by
 unfold A1b at h;simp at h;exact h.2
theorem C6v {p:TRat} (h:J_ p=true):(!p.den.isEmpty)=true:=by
 have:=(ratOkB_iff.1 h).den0;cases b:p.2 with
 |nil=>rw[b]at this;exact absurd this dE
 |cons a l=>rfl
structure GradOk (a b c:TPoint):Prop where
 pr:A7m [a,b,c]=true
 d:J_ (A2y a b c)=true
 d0:(A2y a b c).1.2≠[]
 s:∀ i,i<3->A1b (C9m a b c i)=true
 g:∀ i,i<3->A1b (A5w a b c i)=true
attribute [local go_sem] L_ Go.XB.opAt N_ M_ Region.wanted yielded
attribute [local simp] N_ M_ MP.eq MP.agg MP.sl MP.slbox MP.box MP.eqS A0r
theorem B1l (A:Option Addr) (c:Nat) (h b1 u:TPoint) (bE:List Nat) (w:World) (bY:Sl w A 3 c [h,b1,u] bE) (bK:GradOk h b1 u) :
  Calls prog 145 #[.slice A 3 c] w (A0w w (C5e h b1 u)):=by
 have W:=A_ bY;have S:=A_ bK;obtain⟨am,dp,d1,P1,e7,ef,p1,P2,e8,eg,p2,dQ,e9,eh,fo,dR,fa,ei,fp,c0,ex,bZ,bi,bj,bk,bl,bm,bn,bL⟩:=TPoint.elemA W (by decide:0<3);obtain⟨d2,fl,b2,Q1,fb,ej,q1,Q2,fc,ek,q2,dS,fd,el,fq,dT,fe,em,fr,aJ,c2,b0,bo,bp,bq,br,bs,bt,bM⟩:=TPoint.elemA W (by decide:1<3);obtain⟨d3,fm,d6,dU,ff,en,fs,dV,fg,eo,ft,dW,fh,ep,fu,dX,fi,er,fv,aK,c4,b3,bu,bv,bz,bA,bB,bD,bN⟩:=TPoint.elemA W (by decide:2<3);subst c0;injection aJ with aJ;injection aJ with h1 h2 _;subst h1;subst h2;injection aK with aK;injection aK with h1 h2 _;subst h1;subst h2;simp at bZ b0 b3;subst bZ;subst b0;subst b3;simp at bi bj bk bl bm bn bo bp bq br bs bt bu bv bz bA bB bD;have a2:=A_ bL;have a3:=A_ bM;have a8:=A_ bN;clear c2 c4 bL bM bN bY bK;go_enter func145,ntmps145;go_wp2_with fail;have aA:=B2m (some ⟨am,dp,none⟩) 3 c [h,b1,u] bE w W;rw[S.o.pr]at aA;refine aA.mono ?_;clear aA;rintro _ b6 ⟨rfl,au⟩;obtain⟨c6,c7⟩:=F_ au;have aa:=A_ au;have c1:am<b6.1.size:=by have:=au.size;omega
 clear au;go_wp2_with fail;refine X_ sI ?_;dsimp only[List.dropLast,List.getLast,List.length];iterate 9 refine C_ _ ?_
 refine D_ (MP.agg (A2y h b1 u)) ?_ ?_;·intro I E H D b;obtain⟨ag,ah⟩:=F_ D;simp at b;refine G_ ?_;exact H_ (A7l _ _ _ h b1 u _ _ _ H ((a2.below aa).below Below.go) ((a3.below aa).below Below.go) ((a8.below aa).below Below.go))
 refine A1p #[.bool false,.slice none 0 0,.slice none 0 0] 35 ?_ ?_;·intro I E H D b;refine⟨gD,?_⟩;go_simp
 intro I E wa D b (T:Hid _);simp at b;have dw:=b.2.2.2.2.2.2.2.2.2.1;have dq:=b.2.2.2.2.2.2.2.2.2.2;obtain⟨⟨aq,-⟩,-⟩:=dw;obtain⟨⟨ae,eu,dz,aw⟩,aR⟩:=dq;obtain⟨dY,fj,es,v1,dZ,fk,et,v2,cX,eP,_,_⟩:=TRat.agg aq;rw[cX]at aq;have aN:=T 9 10 dE dE dE;rw[dz]at aN aR;have db:=E_ aw;have c9:b6.1.size<=ae:=(aR ae sI).1;have bQ:ae∉E 9:=λG=>aN ae G sI;have a7:=A_ (Below.next aa D);have da:w.1.size<=ae:=by have:=aa.size;omega
 have aT:=A_ aq;have ba:=A_ aw;have be:=A_ bQ;obtain⟨aG,aH,-⟩:=bx aw;generalize E 9=fC at *;clear b T aq aR aw aN D bQ c6 c7;go_upto_region 4 with fail;refine Code.set3 ba λaF ak=>?_;have cd:=A_ (ak.low a7 a7.size da);have cc:=A_ (aT.keepG ak.gr be);have cx:=A_ ak.k;clear bv bz bB bD bu bA bi bj bk bl bm bn bo bp bq br bs bt a2 a3 a8 c1 aG aH c9 db ak ba be aT;go_wp2_with fail;go_loopg [4,25] 3 (λg s4 s wr=>∃ (k gB cap:Nat),k+g=3/\s=.int .i64 k/\s4=.slice (some ⟨gB,0,none⟩) k cap/\Hid (Pend w aF 38 wr gB k cap (C0j h b1 u k)));case atStart=>exact⟨0,aF.1.size,0,oM,rfl,rfl,Pend.start cd.o⟩
 case round =>
  obtain⟨k,gB,cap,bR,rfl,rfl,ab⟩:=hrel;have a6:=A_ ab.bw;have a5:=A_ ab.bb;rcases Nat.lt_or_ge k 3 with ax|ax
  ·have eE:(k:Int)<3:=oM
   have eF:(0:Int)<=k:=oM;obtain⟨g,rfl⟩:∃ g,gk=g+1:=⟨gk - 1,oM⟩
   have de:=A_ (by omega:k+1+g=3);obtain⟨K,aP⟩:∃ K,K=(k+1) % 3:=⟨_,rfl⟩
   obtain⟨O,aQ⟩:∃ O,O=(k+2) % 3:=⟨_,rfl⟩
   have dc:K<3:=oM;have dd:O<3:=oM;have eA:(K:Int)<3:=oM;have eC:(O:Int)<3:=oM;have eB:(0:Int)<=K:=oM;have eD:(0:Int)<=O:=oM;have eL:IntKind.i64.wrap ((k:Int)+1)=(k:Int)+1:=by rw[IntKind.wrap_i64];omega
   have eM:IntKind.i64.wrap ((k:Int)+2)=(k:Int)+2:=by rw[IntKind.wrap_i64];omega
   have eJ:IntKind.i64.wrap (K:Int)=(K:Int):=by rw[IntKind.wrap_i64];omega
   have eK:IntKind.i64.wrap (O:Int)=(O:Int):=by rw[IntKind.wrap_i64];omega
   have eG:Int.tmod ((k:Int)+1) 3=K:=by rw[Int.tmod_eq_emod_of_nonneg oM];omega
   have eH:Int.tmod ((k:Int)+2) 3=O:=by rw[Int.tmod_eq_emod_of_nonneg oM];omega
   obtain⟨d4,fn,x,dG,eZ,d7,eQ,dH,e0,d8,eR,dI,e1,d9,eS,dJ,e2,ea,eT,aL,ey,b4,cp,cq,cs,ct,cu,cv,bO⟩:=TPoint.elemA (W.below a6) dc;obtain⟨d5,ok,y,dL,e3,eb,eV,dM,e4,ec,eW,dN,e5,ed,eX,dO,e6,ee,eY,aM,c5,b5,cy,cz,cA,cB,cE,cF,bP⟩:=TPoint.elemA (W.below a6) dd;injection aL with aL;injection aL with h1 h2 _;subst h1;subst h2;injection aM with aM;injection aM with h1 h2 _;subst h1;subst h2;have bc:=A_ bO;have bd:=A_ bP;have cj:=A_ (by unfold c3;rw[<-aP];exact A0e b4:c3 h b1 u (k+1)=x);have ck:=A_ (by unfold c3;rw[<-aQ];exact A0e b5:c3 h b1 u (k+2)=y);have dD:=A_ aP;have dF:=A_ aQ;clear bR b4 b5 bO bP aP aQ c5;have aU:=A_ (cc.below a5);obtain⟨fy,b8,_⟩:=ptX bc;obtain⟨fz,b9,_⟩:=ptY bc;obtain⟨fA,ca,_⟩:=ptX bd;obtain⟨fB,cb,_⟩:=ptY bd;have cJ:=A_ b8;have cK:=A_ b9;have cL:=A_ ca;have cM:=A_ cb;have aX:=A_ (by unfold C9m;rw[cj.o,ck.o]:C9m h b1 u k=⟨A3t x.y y.y,A3t y.x x.x⟩);have aW:=A_ (by unfold A5w;rw[aX.o]:A5w h b1 u k=⟨A3u (A3t x.y y.y) (A2y h b1 u),A3u (A3t y.x x.x) (A2y h b1 u)⟩);have aj:=S.s k ax;rw[aX.o]at aj;have O1:=A_ (D9f aj);have O2:=A_ (D9q aj);have ay:=S.g k ax;have cG:=A_ ay;have aD:=A_ (show J_ (A5w h b1 u k).x=true from D9f (q:=(A5w h b1 u k).y) ay);have bg:=A_ (show J_ (A5w h b1 u k).y=true from D9q (p:=(A5w h b1 u k).x) ay);clear ay;clear aj b8 b9 ca cb;go_wp2_with fail;go_region_held3 (λw'=>∀ o,w'.cell? ⟨am,o,none⟩=wr.cell? ⟨am,o,none⟩) ((go_simp;done)) (fail)
   all_goals
    rename_i hh;clear hh;go_upto_region 9 with fail;refine Code.newd2 λd0 ai=>?_;have J:=A_ ai.b;obtain⟨dg,-,eN⟩:=bx ai.k;obtain⟨di,-,eO⟩:=bx ai.l;obtain⟨dj,-,ez⟩:=bx (A0z (A0z cx a5) J);clear ai cp cq cs ct cu cv cy cz cA cB cE cF;refine X_ sI ?_;dsimp only[List.dropLast,List.getLast,List.length];iterate 4 refine C_ _ ?_
    refine D_ (MP.agg (A3t x.y y.y)) ?_ ?_;·intro I E H D b;obtain⟨ag,ah⟩:=F_ D;simp at b;refine G_ ?_;exact H_ (A5b _ _ x.y y.y _ _ H (cK.below (Below.next J D)) (cM.below (Below.next J D)))
    refine C_ _ ?_;refine D_ (MP.agg (A3u (A3t x.y y.y) (A2y h b1 u))) ?_ ?_;·intro I E H D b;obtain⟨ag,ah⟩:=F_ D;simp at b;refine G_ ?_;obtain⟨aS,_⟩:=b;exact H_ (A9z _ _ (A3t x.y y.y) (A2y h b1 u) _ _ H aS.1 (aU.below (Below.next J D)) O1 S.d S.d0)
    iterate 4 refine C_ _ ?_
    refine D_ (MP.agg (A3t y.x x.x)) ?_ ?_;·intro I E H D b;obtain⟨ag,ah⟩:=F_ D;simp at b;refine G_ ?_;exact H_ (A5b _ _ y.x x.x _ _ H (cL.below (Below.next J D)) (cJ.below (Below.next J D)))
    refine C_ _ ?_;refine D_ (MP.agg (A3u (A3t y.x x.x) (A2y h b1 u))) ?_ ?_;·intro I E H D b;obtain⟨ag,ah⟩:=F_ D;simp at b;refine G_ ?_;obtain⟨aS,_⟩:=b;exact H_ (A9z _ _ (A3t y.x x.x) (A2y h b1 u) _ _ H aS.1 (aU.below (Below.next J D)) O2 S.d S.d0)
    refine A1d (λZ=>MP.eqS (.agg ((Z 6).cells++(Z 13).cells)) (A5w h b1 u k)) (by intro y Z G;simp[N_,M_]at G;simp[G]) ?_ ?_
    ·intro I E H D b
     simp at b;obtain⟨⟨an,_⟩,Y,_⟩:=b;obtain⟨cf,dk,cN,cR,cg,dl,cO,cU,ad,-,-,-⟩:=TRat.agg an;obtain⟨ch,dm,cP,cV,ci,dn,cQ,cW,ac,-,-,-⟩:=TRat.agg Y;rw[ad]at an;rw[ac]at Y;have aC:=A_ (by rw[aW.o];exact B4l (x:=⟨_,_⟩) an Y:Agg H _ (A5w h b1 u k) _);clear an Y;refine⟨gD,_,H,?_,Below.refl _ _,[],⟨?_,rfl,_,aC.o⟩,sI⟩;·go_simp
     rw[ad,ac];rfl
    refine A3q (λZ=>MP.eqS (Z 14) (A5w h b1 u k)) (by intro y Z G;simp[N_,M_]at G;simp[G]) ?_ ?_;·intro I E H D b;obtain⟨ag,ah⟩:=F_ D;simp at b;obtain⟨⟨cZ,ew,fw,aI⟩,Y,_⟩:=b;have aC:=A_ aI;have C:=B0n (I 14) (A5w h b1 u k) _ H aI ((C6v aD).trans aD.symm) ((C6v bg).trans bg.symm);rw[cG.o]at C;have cn:=A_ C;clear cZ aI Y C;refine G_ ?_;exact cn.o.mono (λe w' ⟨he,ar⟩=>⟨I 14,he,ar,[],⟨rfl,rfl,_,aC.o.below ar⟩,sI⟩)
    refine A1p #[.bool false,.slice none 0 0,.slice none 0 0,.bool false,.slice none 0 0,.slice none 0 0] 38 ?_ ?_;·intro I E H D b;refine⟨gD,?_⟩;go_simp
    intro I E wb D b (T:Hid _);simp at b;have dv:=b.2.2.2.2.2.2.1;have dr:=b.2.2.2.2.2.2.2.2.2.2.2.2.2.1;have ds:=b.2.2.2.2.2.2.2.2.2.2.2.2.2.2.1;have dt:=b.2.2.2.2.2.2.2.2.2.2.2.2.2.2.2.1;have du:=b.2.2.2.2.2.2.2.2.2.2.2.2.2.2.2.2;obtain⟨⟨ap,bJ⟩,bX⟩:=dv;obtain⟨⟨ao,bI⟩,bV⟩:=dr;obtain⟨⟨bG,dA,_⟩,_⟩:=ds;obtain⟨⟨bH,dB,_⟩,_⟩:=dt;obtain⟨⟨g8,ev,az,aO⟩,bW⟩:=du;obtain⟨cf,dk,cN,cR,cg,dl,cO,cU,ad,-,-,-⟩:=TRat.agg ap;obtain⟨ch,dm,cP,cV,ci,dn,cQ,cW,ac,-,-,-⟩:=TRat.agg ao;rw[ad]at ap;rw[ac]at ao;have cY:=bH.trans bG;rw[ad,ac]at cY;have bT:=(λG=>T.o 6 16 dE dE dE g8 G (by rw[az];simp):g8∉E 6)
    have bS:=(λG=>T.o 13 16 dE dE dE g8 G (by rw[az];simp):g8∉E 13)
    have a1:=A_ (Free.join bJ bI (T 6 13 dE dE dE));have bh:=A_ (by rw[aW.o];exact B4l (x:=⟨_,_⟩) ap ao:Agg wb _ (A5w h b1 u k) (E 6++E 13))
    have cH:=A_ (show ∀ al∈E 6++E 13,wr.1.size<=al from λal ar=>by
     have:=J.size;rcases List.mem_append.1 ar with G|G
     ·have:=(bX al G).1;omega
     have:=(bV al G).1;omega)
    have bf:=A_ (show g8∉E 6++E 13 from λG=>(List.mem_append.1 G).elim bT bS);have c8:wr.1.size<=g8:=by have:=(bW g8 (by rw[az];simp)).1;have:=J.size;omega
    have aB:=A_ (Below.next J D);have a9:=A_ aO;obtain⟨aG,aH,-⟩:=bx aO;generalize E 6++E 13=zs at *;clear b T ap bJ bX ao bI bV bG bH dA dB az bW bT bS D aO dg di dj;go_upto_region 10 with fail;refine Code.set6 a9 λcI X=>?_;have cm:=A_ (X.low aB aB.size c8);have aE:=A_ (bh.keepG X.gr bf);have aY:=A_ (Free.keepG a1 X.gr bf);obtain⟨dh,-,df⟩:=bx X.k;have cw:=A_ X.k;clear aG aH X aB bh a1 a9;go_wp2_with fail;obtain⟨fx,b7,_⟩:=ptX aE;have C:=A2p _ (A5w h b1 u k).x _ cI b7;rw[C6v aD.o]at C;refine C.mono ?_;clear C b7;rintro _ dy ⟨rfl,af⟩;have a4:=A_ (Below.next cm af);have aV:=A_ (aE.below af);have aZ:=A_ (aY.below af);obtain⟨eU,-,eI⟩:=bx (A0z cw af);have ce:=A_ (by unfold maxLen;omega:k+1<=maxLen/\(k+1)*112<=140737488355328);clear af dh df aE aY;go_wp2_with (at_builtin;refine C7w rfl rfl underlying23 D1n ab (a4.alloc a4.size _) (A0a (heap_alloc_new dy _)) (E4q (aV.below (Below.box _))) (aZ.below (Below.box _)) cH ce ?_;intro g' bF dx bU _ _);have co:=A_ (show Pend w aF 38 dx g' (k+1) bF (C0j h b1 u (k+1))from bU);clear bU aV aZ ab;go_wp2_with fail;go_roundg g;case measure=>omega
    case rel=>exact⟨k+1,g',bF,de,gN,rfl,co⟩
  obtain rfl:k=3:=oM;clear bR ax;go_wp2;go_ret;exact ab.done
section
def C8d (a b c:Int):Nat->Int
 |0=>a
 |1=>b
 |_=>c
theorem ixv (a b c:Int) (i:Nat) (h:i<3) (w:World):Sem.run prog (Instr.index 111 (.agg #[.int .i64 a,.int .i64 b,.int .i64 c]) (.int .i64 (i:Int))) w=.ok (.int .i64 (C8d a b c i)) w:=by
 obtain rfl|rfl|rfl:i=0\/i=1\/i=2:=oM;·kernel_rfl
 ·kernel_rfl
 kernel_rfl
def C4n (us:List TRat) (i:Int):TRat:=us.getD i.toNat A0h
def A6n (us:List TRat) (t:TTri):List TRat:=[C4n us t.a,C4n us t.b,C4n us t.c]
theorem D7n (us:List TRat) (t:TTri) {i:Nat} (h:i<3):(A6n us t)[i]?=some (C4n us (C8d t.a t.b t.c i)):=by
 obtain rfl|rfl|rfl:i=0\/i=1\/i=2:=oM;·rfl
 ·rfl
 rfl
def B4f (a b c:TPoint) (vs:List TRat):Nat->TPoint
 |0=>ptI 0 0
 |k+1=>A3y (B4f a b c vs k) (A0v (vs.getD k A0h) (A5w a b c k))
def D3j {α:Type} [Dat α] (w:World) (x:α) (e:Ending) (w':World):Prop:=∃ v s,e=.returned v/\Agg w' v x s/\(∀ b∈s,w.1.size<=b)/\Bw w w'
def _root_.Go.XB.MP.aggN {α:Type} [Dat α] (x:α):MP:=⟨λv bs w=>Agg w v x bs,λ_ _ _ _ hb h=>h.below hb⟩
theorem B8i {α:Type} [Dat α] {P:Program} {f:FuncId} {args:Array Value} {w:World} {x:α} (h:Calls P f args w (D3j w x)) :
  Calls P f args w λe w'=>∃ u,e=.returned u/\Bw w w'/\∃ bs,(MP.aggN x).p u bs w'/\∀ b∈bs,w.1.size<=b/\b<w'.1.size :=
 h.mono λ_ _ ⟨v,s,he,ha,hn,hb⟩=>⟨v,he,hb,s,ha,λb hm=>⟨hn b hm,ha.lt b hm⟩⟩
structure AccPt (w U:World) (g r0:Nat) (x:TPoint) (cs:List Value) (s:List Nat):Prop where
 bl:Bw w U
 bx:U.1[g]?=some (.cells cs.toArray 38)
 at_:Dat.at_ U cs x s
 nw:∀ b∈s,w.1.size<=b/\b≠g/\b≠r0
 rs:U.1[r0]?=some (.cells #[.bool false,.slice none 0 0,.slice none 0 0,.bool false,.slice none 0 0,.slice none 0 0] 38)
 lo:w.1.size<=r0/\r0<g
theorem K_ {w w':World} {b:Nat} {o:Obj} (h:w.1[b]?=some o) (hb:Bw w w'):w'.1[b]?=some o:=(hb.block b (E_ h)).trans h
theorem A9b {w:World} {b j:Nat} {cs:Array Value} {t:TypeId} {v:Value} (h:w.1[b]?=some (.cells cs t)):(w.setCell ⟨b,j,none⟩ v).1[b]?=some (.cells (cs.setIfInBounds j v) t):=by
 have u:=lt_of_block h;have D:w.1[b]=.cells cs t (0,0):=by simpa[Array.getElem?_eq_getElem u]using h
 show(w.1.modify b _)[b]?=_;rw[Array.getElem?_eq_getElem (by simpa using u),Array.getElem_modify_self,D];rfl
theorem AccPt.below {w U U':World} {g r0:Nat} {x:TPoint} {cs:List Value} {s:List Nat} (h:AccPt w U g r0 x cs s) (hb:Bw U U'):AccPt w U' g r0 x cs s :=
 ⟨Below.next h.bl hb,K_ h.bx hb,Dat.keep h.at_ (λb hb2=>hb.block b (Dat.lt h.at_ b hb2)),h.nw,K_ h.rs hb,h.lo⟩
theorem AccPt.set {w U:World} {g r0:Nat} {x y:TPoint} {a0 K O S T W v0 v1 v2 D E G:Value} {s r:List Nat} (h:AccPt w U g r0 x [a0,K,O,S,T,W] s) (X:Dat.at_ U [v0,v1,v2,D,E,G] y r) (J:∀ b∈r,w.1.size<=b/\b≠g/\b≠r0) :
  AccPt w ((((((U.setCell ⟨g,0,none⟩ v0).setCell ⟨g,1,none⟩ v1).setCell ⟨g,2,none⟩ v2).setCell ⟨g,3,none⟩ D).setCell ⟨g,4,none⟩ E).setCell ⟨g,5,none⟩ G) g r0 y [v0,v1,v2,D,E,G] r:=by
 have u:w.1.size<=g:=by have:=h.lo;omega
 have I:∀ b,b≠g->((((((U.setCell ⟨g,0,none⟩ v0).setCell ⟨g,1,none⟩ v1).setCell ⟨g,2,none⟩ v2).setCell ⟨g,3,none⟩ D).setCell ⟨g,4,none⟩ E).setCell ⟨g,5,none⟩ G).1[b]?=U.1[b]?:=λb H=>A0m g [v0,v1,v2,D,E,G] U 0 b H
 exact⟨(((((h.bl.setCell (p:=⟨g,0,none⟩) u _).setCell (p:=⟨g,1,none⟩) u _).setCell (p:=⟨g,2,none⟩) u _).setCell (p:=⟨g,3,none⟩) u _).setCell (p:=⟨g,4,none⟩) u _).setCell (p:=⟨g,5,none⟩) u _,
  A9b (A9b (A9b (A9b (A9b (A9b h.bx))))),Dat.keep X (λb H=>I b (J b H).2.1),J,(I r0 (by have:=h.lo;omega)).trans h.rs,h.lo⟩
theorem AccPt.o {w U:World} {g r0:Nat} {x:TPoint} {v0 v1 v2 D E G:Value} {s:List Nat} (h:AccPt w U g r0 x [v0,v1,v2,D,E,G] s) :
  D3j w x (.returned (.agg #[v0,v1,v2,D,E,G])) ((((((U.setCell ⟨r0,0,none⟩ v0).setCell ⟨r0,1,none⟩ v1).setCell ⟨r0,2,none⟩ v2).setCell ⟨r0,3,none⟩ D).setCell ⟨r0,4,none⟩ E).setCell ⟨r0,5,none⟩ G):=by
 have b:w.1.size<=r0:=h.lo.1
 exact⟨_,s,rfl,⟨_,rfl,Dat.keep h.at_ (λu H=>A0m r0 [v0,v1,v2,D,E,G] U 0 u (h.nw u H).2.2)⟩,λu H=>(h.nw u H).1,
  (((((h.bl.setCell (p:=⟨r0,0,none⟩) b _).setCell (p:=⟨r0,1,none⟩) b _).setCell (p:=⟨r0,2,none⟩) b _).setCell (p:=⟨r0,3,none⟩) b _).setCell (p:=⟨r0,4,none⟩) b _).setCell (p:=⟨r0,5,none⟩) b _⟩
attribute [local go_sem] ixv
attribute [local simp] MP.aggS
theorem C4q (A:Option Addr) (c:Nat) (l:List TPoint) (u:List Nat) (B:Option Addr) (d:Nat) (us:List TRat) (D:List Nat) (w:World) (I:Sl w A 3 c l u) (H:Sl w B 3 d us D) (G:A7m l=true) (E:us.all J_=true) :
  Calls prog 144 #[.slice A 3 c,.slice B 3 d] w (A0b w (.bool true)):=by
 have S:=A_ I;have O:=A_ H;have K:=A_ G;have J:=A_ E;clear I H G E;go_enter func144,ntmps144;go_wp2_with fail;have b:=B2m A 3 c l u w S;rw[K.o]at b;refine b.mono ?_;clear b;rintro _ X ⟨rfl,T⟩;have h:=A_ T;go_wp2_with fail;refine(A5n B 3 d us D X (O.below h) J).mono ?_;rintro _ Y ⟨rfl,W⟩;go_wp2;go_ret;exact⟨rfl,Below.next h W⟩
theorem B9w (v:Value) (m:TMesh) (b:List Nat) (B:Option Addr) (n d:Nat) (us:List TRat) (aS:List Nat) (k:Nat) (t:TTri) (w:World) (ax:Agg w v m b) (aw:Sl w B n d us aS) (Y:m.triangles[k]?=some t) (ay:A5v n t) (ar:∀ x∈us,B4q x) (bt:n<=40) (aT:m.triangles.length<=48) :
  Calls prog 100 #[v,.slice B n d,.int .i64 k] w (A0w w (A6n us t)):=by
 obtain⟨aA,a8,aQ,bU,be,n1,aR,bV,rfl,rfl,a3,I⟩:=TMesh.agg ax;have aI:=A_ aw;have aK:=A_ ar;have aJ:=A_ ay;have aY:k<n1:=by rw[<-I.1];exact(List.getElem?_eq_some_iff.1 Y).1
 have bN:n1<=48:=by rw[<-I.1];exact aT
 obtain⟨a7,aW,a4,a5,a6⟩:=info_parts B2r;obtain⟨aj,a9,ba,rfl,bv,aa,bj,bk,bl,bm,bn,al⟩:=TTri.elemA I aY;obtain rfl:t=ba:=by rw[Y]at aa;exact Option.some.inj aa
 have aD:=A_ al;have bL:(k:Int)<n1:=oM;have bM:(0:Int)<=k:=oM;have bK:(n1:Int)<=48:=oM;have bu:(n:Int)<=40:=oM;have aN:=A_ (by unfold inB;simp;omega:inB 0 (k:Int) ((n1:Int) - 1)=true);clear ax aw Y ay ar a3 I al aa;go_enter func100,ntmps100;go_wp2_with fail;have C:=A0s k 0 ((n1:Int) - 1) (w.alloc (.cells #[.slice aA a8 aQ,.slice (some ⟨aj,a9,none⟩) n1 aR] 26));rw[aN.o]at C;refine C.mono ?_;clear C;rintro _ h ⟨rfl,am⟩;obtain⟨bD,bF⟩:=F_ am;have bQ:w.1.size<h.1.size:=ltg am;have D:=A_ (show Bw w h from Below.go);have bz:aj<h.1.size:=by have:=D.size;omega
 go_wp2_with fail;have ai:=A_ (Pend.start (α:=TRat) (e:=35) D);refine(A2g _ t _ (h.alloc (.cells #[] 35)) (aD.below (D.alloc D.size _))).mono ?_;rintro _ bZ ⟨rfl,an⟩;have P2:=A_ (ai.below an);clear ai an;go_wp2_with fail;go_loopg [7,24] 3 (λg s3 s wr=>∃ (i gB cap:Nat),i+g=3/\s=.int .i64 i/\s3=.slice (some ⟨gB,0,none⟩) i cap/\Hid (Pend w h 35 wr gB i cap ((A6n us t).take i)));case atStart=>exact⟨0,h.1.size,0,rfl,rfl,rfl,P2⟩
 case round =>
  clear P2;obtain⟨i,gB,cap,aq,rfl,rfl,E⟩:=hrel;have aF:=A_ E.bw;rcases Nat.lt_or_ge i 3 with u|u
  ·have bI:(i:Int)<3:=oM
   have bJ:(0:Int)<=i:=oM;obtain⟨g,rfl⟩:∃ g,gk=g+1:=⟨gk - 1,oM⟩
   have aX:=A_ (by omega:i+1+g=3);have aB:=A_ (by unfold maxLen;omega:i+1<=maxLen);have aC:=A_ (by omega:(i+1)*56<=140737488355328);obtain⟨q,H⟩:∃ q,C8d t.a t.b t.c i=q:=⟨_,rfl⟩
   have a1:0<=q/\q<n:=by
    have:=aJ.o;rw[<-H];obtain rfl|rfl|rfl:i=0\/i=1\/i=2:=oM
    ·exact this.1
    ·exact this.2.1
    exact this.2.2
   obtain⟨bO,bP⟩:=a1;have S:=D7n us t u;rw[H]at S;have aM:=A_ H;have bH:i<3:=u;have aO:=A_ (by unfold inB;simp;omega:inB 0 q ((n:Int) - 1)=true);have a2:q.toNat<n:=oM;obtain⟨aP,bT,x,bf,bR,bh,bW,bg,bS,bi,bX,rfl,bB,ab,bo,bp,bq,ap⟩:=TRat.elemA (aI.below aF) a2;have ah:=A_ (aK x (List.mem_of_getElem? ab));have aL:=A_ (show(A6n us t).take (i+1)=(A6n us t).take i++[x]from take_step (by rw[S];unfold C4n;rw[A0e ab]));have aE:=A_ ap;clear aq u ap ab S H;go_wp2_with fail;rw[aM.o];have C:=A0s q 0 ((n:Int) - 1) wr;rw[aO.o]at C;refine C.mono ?_;clear C;rintro _ w3 ⟨rfl,G⟩;obtain⟨bE,bG⟩:=F_ G;have O:=A_ G;have bA:aP<w3.1.size:=by have:=G.size;omega
   clear G;go_wp2_with fail;refine(A3n _ x _ w3 (aE.below O) (Nat.le_trans ah.1 dE) (Nat.le_trans ah.2 dE)).mono ?_;rintro _ wa ⟨bY,az,rfl,X,Z,ao⟩;obtain⟨J,ac,T,br,K,ad,W,bs,rfl,bd,_,_⟩:=TRat.agg X;have ae:=A_ (A3x (X.below (Below.box (.cells #[.bool x.1.1,.slice J ac T,.slice K ad W] 35))));have af:=A_ ((Z.below (Below.box (.cells #[.bool x.1.1,.slice J ac T,.slice K ad W] 35))).free);have ag:=A_ (show ∀ b∈az,wr.1.size<=b from λb aU=>by have:=(Z.2 b aU).1;have:=O.size;omega);have aG:=A_ (show Bw wr wa from Below.next O ao);clear X Z bd ao;go_wp2_with (at_builtin;refine A1v rfl _ _ 27 rfl 35 a7 (.agg #[.bool false,.slice none 0 0,.slice none 0 0]) 56 underlying27 aW a4 a5 a6 rfl E (Below.next aG (Below.box _)) gD ⟨wa.1.size,0,none⟩ 1 [.bool x.1.1,.slice J ac T,.slice K ad W] x az gD (A0a (heap_alloc_new wa _)) ae af ag aB aC ?_;intro g' ak bc au aV aZ);have aH:=A_ (by rw[aL.o];exact au:Pend w h 35 bc g' (i+1) ak ((A6n us t).take (i+1)));clear au aV aZ ae af ag E;go_wp2_with fail;go_roundg g;case measure=>omega
   case rel=>exact⟨i+1,g',ak,aX,gN,rfl,aH⟩
  obtain rfl:i=3:=oM;clear aq u;go_wp2;go_ret;exact E.done
end
theorem E4h (a b c:TPoint) {k:Nat} (h:k<3):(C5e a b c)[k]?=some (A5w a b c k):=by
 obtain rfl|rfl|rfl:k=0\/k=1\/k=2:=oM;·rfl
 ·rfl
 rfl
theorem D8a {us:List TRat} {t:TTri} {n:Nat} (H:us.length=n) (b:A5v n t) (h:us.all J_=true):(A6n us t).all J_=true:=by
 have u:∀ j:Int,0<=j->j<n->J_ (C4n us j)=true:=λj E G=>by
  obtain⟨x,D⟩:∃ x,us[j.toNat]?=some x:=⟨_,List.getElem?_eq_getElem oM⟩
  unfold C4n;rw[A0e D];exact List.all_eq_true.1 h x (List.mem_of_getElem? D)
 unfold A6n;simp only[List.all_cons,List.all_nil,Bool.and_true,Bool.and_eq_true];exact⟨u _ b.1.1 b.1.2,u _ b.2.1.1 b.2.1.2,u _ b.2.2.1 b.2.2.2⟩
attribute [local simp] MP.aggS MP.aggN
theorem B7w (A:Option Addr) (aj:Nat) (b b1 h:TPoint) (aT:List Nat) (B:Option Addr) (aE:Nat) (us:List TRat) (bF:List Nat) (w:World) (bz:Sl w A 3 aj [b,b1,h] aT) (bt:Sl w B 3 aE us bF) (bm:GradOk b b1 h) (bp:us.all J_=true) :
  Calls prog 99 #[.slice A 3 aj,.slice B 3 aE] w (D3j w (B4f b b1 h us 3)):=by
 have a5:=A_ bz;have a4:=A_ bt;have a3:=A_ bm;have bP:=A_ bp;clear bz bt bm bp;go_enter func99,ntmps99;go_wp2_with fail;refine(C4q A aj _ aT B aE us bF _ (a5.below Below.go) (a4.below Below.go) a3.pr bP).mono ?_;rintro _ ab ⟨rfl,al⟩;obtain⟨b9,cd⟩:=F_ al;have ci:w.1.size<ab.1.size:=ltg al;have bO:=A_ (show Bw w ab from Below.go);have a6:=A_ (show ab.1[w.1.size]?=some (.cells #[.bool false,.slice none 0 0,.slice none 0 0,.bool false,.slice none 0 0,.slice none 0 0] 38)from K_ (heap_alloc_new w _) al);clear al;go_wp2_with fail;refine(B9v 0 0 ab cD cD).mono ?_;rintro _ J ⟨v2,aS,rfl,ak,bq,bk⟩;obtain⟨au,aN,aF,cG,aw,aO,aG,cH,ax,aP,aH,cI,ay,aQ,aI,cJ,rfl,cj,_,_,_,_⟩:=TPoint.agg ak;have ad:=A_ bk;have aX:=A_ (E4q ak);have aC:=A_ (show ∀ u∈aS,ab.1.size<=u/\u<J.1.size from λu E=>⟨(bq.2 u E).1,ak.lt u E⟩);clear ak bq bk cj b9 cd;go_upto_region 4 with fail;obtain⟨w3,am⟩:∃ w3,w3=J.alloc (.cells #[.bool (ptI 0 0).x.1.1,.slice au aN aF,.slice aw aO aG,.bool (ptI 0 0).y.1.1,.slice ax aP aH,.slice ay aQ aI] 38):=⟨_,rfl⟩
 have ac:=A_ (by rw[am];exact Below.box _:Bw J w3);have ch:=ad.size
 have ae:=A_ (show AccPt w w3 J.1.size w.1.size (B4f b b1 h us 0) [.bool (ptI 0 0).x.1.1,.slice au aN aF,.slice aw aO aG,.bool (ptI 0 0).y.1.1,.slice ax aP aH,.slice ay aQ aI] aS from
  ⟨Below.next (Below.next bO.o ad.o) ac.o,by rw[am];exact heap_alloc_new J _,Dat.keep aX (λu E=>ac.block u (aC u E).2),λu E=>by have:=aC u E;omega,K_ (K_ a6.o ad.o) ac.o,oM⟩)
 rw[<-am];clear am ci a6;have bS:=A_ ae.bl;go_wp2_with fail;refine(B1l A aj b b1 h aT w3 (a5.below bS) a3).mono ?_;rintro _ ar ⟨bL,cn,bX,bf,rfl,aL,br,bl⟩;obtain rfl:3=cn:=by rw[<-aL.1];exact(B8g b b1 h 3).symm
 have K:=A_ aL;have aD:=A_ (ae.below bl);have bJ:=A_ (Below.refl ar.1.size ar);have cf:J.1.size<ar.1.size:=E_ aD.bx;have bM:=A_ (show ∀ u∈bf,u≠J.1.size from λu E=>by have cK:=(br.2 u E).1;have cL:=E_ ae.bx;omega);generalize J.1.size=Z at *;clear aL br bl ae aX aC ac ad ch;go_wp2_with fail;go_loopg [17] 3 (λg s wr=>∃ (k:Nat) (af:Option Addr) (m1 q1:Nat) (ag:Option Addr) (m2 q2:Nat) (ah:Option Addr) (an ap:Nat) (ai:Option Addr) (ao aq:Nat) (r:List Nat),k+g=3/\s=.int .i64 k/\Hid (AccPt w wr Z w.1.size (B4f b b1 h us k) [.bool (B4f b b1 h us k).x.1.1,.slice af m1 q1,.slice ag m2 q2,.bool (B4f b b1 h us k).y.1.1,.slice ah an ap,.slice ai ao aq] r)/\Hid (Bw ar wr\/True)/\Hid (Sl wr bL 3 bX (C5e b b1 h) bf));case atStart=>exact⟨0,au,aN,aF,aw,aO,aG,ax,aP,aH,ay,aQ,aI,aS,rfl,rfl,aD,.inr trivial,K⟩
 case round =>
  clear aD bJ cf K;obtain⟨k,af,m1,q1,ag,m2,q2,ah,an,ap,ai,ao,aq,r,bo,rfl,D,_,K⟩:=hrel;rcases Nat.lt_or_ge k 3 with X|X
  ·obtain⟨g,rfl⟩:∃ g,gk=g+1:=⟨gk - 1,oM⟩
   have cg:=A_ (by omega:k+1+g=3);have cO:(k:Int)<3:=oM;have cP:(0:Int)<=k:=oM;have bK:=A_ D.bl;obtain⟨cz,c1,x,cv,cX,cA,da,cw,cY,cB,db,cx,cZ,cE,dc,cy,c0,cF,dd,rfl,cM,aM,bd,b0,b3,be,b4,b5,aJ⟩:=TPoint.elemA K X;obtain rfl:x=A5w b b1 h k:=by rw[E4h b b1 h X]at aM;exact(Option.some.inj aM).symm
   obtain⟨T,aR,Y,bV,co,bY,u1,bW,cp,bZ,u2,rfl,aK,bv,bg,bh,bi,bu⟩:=TRat.elemA (a4.below bK) X;have aB:=A_ (by rw[B4f,A0e bv]:B4f b b1 h us (k+1)=A3y (B4f b b1 h us k) (A0v Y (A5w b b1 h k)));obtain⟨W,bn⟩:∃ W,A5w b b1 h k=W:=⟨_,rfl⟩
   obtain⟨S,bj⟩:∃ S,B4f b b1 h us k=S:=⟨_,rfl⟩
   rw[bn]at aJ aB bd be;rw[bj]at D aB;have bN:=A_ aJ;have bR:=A_ bu;clear bo X aM aJ bv bu bn bj;go_upto_region 7 with fail;refine Code.new λO aA=>?_;have az:=A_ aA.k;have H:=A_ aA.b;clear bd b0 b3 be b4 b5 aA;have P1:=A_ (D.below H);have aW:=A_ (show Agg O (.agg #[.bool S.x.1.1,.slice af m1 q1,.slice ag m2 q2,.bool S.y.1.1,.slice ah an ap,.slice ai ao aq]) S r from⟨_,rfl,P1.at_⟩);have a7:=A_ (bR.below H);obtain⟨bG,bH,-⟩:=bx P1.bx;obtain⟨cu,-,-⟩:=bx az;have b6:O.cell? ⟨T,aR+k*3,none⟩=some (.bool Y.1.1):=(H.cell (p:=⟨T,_,none⟩) aK).trans bg;have b7:O.cell? ⟨T,aR+k*3+1,none⟩=some (.slice bV co bY):=(H.cell (p:=⟨T,_,none⟩) aK).trans bh;have b8:O.cell? ⟨T,aR+k*3+2,none⟩=some (.slice bW cp bZ):=(H.cell (p:=⟨T,_,none⟩) aK).trans bi;have cW:wr.1.size<O.1.size:=E_ az;have cm:Z<O.1.size:=E_ P1.bx;have cU:T<O.1.size:=oM;clear bg bh bi;refine X_ sI ?_;dsimp only[List.dropLast,List.getLast,List.length];iterate 6 refine C_ _ ?_
   refine D_ (MP.agg (A0v Y W)) ?_ ?_;·intro bI aV aU G I;obtain⟨ca,ce⟩:=F_ G;simp at I;refine G_ ?_;exact H_ (A1n _ _ Y W _ _ aU (a7.below G) ((bN.below H).below G))
   refine D_ (MP.agg (A3y S (A0v Y W))) ?_ ?_;·intro bI aV aU G I;obtain⟨ca,ce⟩:=F_ G;simp at I;refine G_ ?_;exact H_ (A4x _ _ S (A0v Y W) _ _ aU (aW.below G) (by obtain⟨_,t⟩:=I;first|exact t|exact t.1|exact t.1.1))
   intro bI aV wa G I (cb:Hid _);simp at I;have cq:=I.2.2.2.2.2.2.2;obtain⟨⟨aa,cc⟩,bs⟩:=cq;rw[<-aB.o]at aa;obtain⟨aY,bA,a8,c6,aZ,bB,a9,c7,a1,bD,ba,c8,a2,bE,bc,c9,ct,ck,_,_,_,_⟩:=TPoint.agg aa;rw[ct]at aa;have P2:=A_ (P1.below G);have cN:Z<wr.1.size:=E_ D.bx;have cQ:=D.lo;have bT:=A_ (P2.set (E4q aa) (λu E=>by have:=(bs u E).1;have:=H.size;omega));have bU:=A_ (((K.below H).below G).keep (λu E=>A0m Z [.bool (B4f b b1 h us (k+1)).x.1.1,.slice aY bA a8,.slice aZ bB a9,.bool (B4f b b1 h us (k+1)).y.1.1,.slice a1 bD ba,.slice a2 bE bc] wa 0 u (bM u E)));obtain⟨c4,c5,cR⟩:=bx P2.bx;generalize aV 7=cs at *;clear I cb aa cc bs ck G P1 P2 aW a7 D K az H bG bH cu b6 b7 b8;go_wp2_with fail;go_roundg g;case measure=>omega
   case rel=>exact⟨k+1,aY,bA,a8,aZ,bB,a9,a1,bD,ba,a2,bE,bc,cs,cg,gS,bT,.inr trivial,bU⟩
  obtain rfl:k=3:=oM;have bQ:=A_ D.o.o;obtain⟨bG,bH,-⟩:=bx D.bx;obtain⟨r0,c2,-⟩:=bx D.rs;have cm:Z<wr.1.size:=E_ D.bx;have cV:w.1.size<wr.1.size:=E_ D.rs;clear D K bo X;go_wp2;refine bodyPost_ret (v:=.agg #[.bool (B4f b b1 h us 3).x.1.1,.slice af m1 q1,.slice ag m2 q2,.bool (B4f b b1 h us 3).y.1.1,.slice ah an ap,.slice ai ao aq]) (by simp[results,results99,go_sem, *]) rfl ?_;exact bQ
theorem B6z (v:Value) (m:TMesh) (b:List Nat) (B:Option Addr) (n d:Nat) (us:List TRat) (ay:List Nat) (k:Nat) (t:TTri) (w:World) (ab:Agg w v m b) (aa:Sl w B n d us ay) (aH:m.triangles[k]?=some t) (ac:A5v m.1.length t) (Z:n=m.1.length)
  (aG:GradOk (Z_ m.1 t.a) (Z_ m.1 t.b) (Z_ m.1 t.c)) (O:us.all J_=true) (aD:m.1.all A1b=true) (az:m.1.length<=40) (aA:m.triangles.length<=48) :
  Calls prog 45 #[v,.slice B n d,.int .i64 k] w (D3j w (B4f (Z_ m.1 t.a) (Z_ m.1 t.b) (Z_ m.1 t.c) (A6n us t) 3)):=by
 have ao:=A_ ab;have aS:=A_ aa;have al:=A_ aH;have ap:=A_ ac;have aR:=A_ aG;have a9:=A_ O;have aN:=A_ aD;have aj:=A_ az;have ak:=A_ aA;have am:=A_ Z;have aW:=A_ (D8a (us:=us) (t:=t) aa.1 (by rw[Z];exact ac) O);have aV:=A_ (B6l O);obtain⟨T,ad,X,bg,W,n1,Y,bh,rfl,rfl,a1,a2⟩:=TMesh.agg ab;clear a1 a2 ab aa aH ac aG O aD az aA Z;go_enter func45,ntmps45;go_upto_region 1 with fail;obtain⟨D,E⟩:∃ D,D=(w.alloc (.cells #[.slice T ad X,.slice W n1 Y] 26)).alloc (.cells #[.bool false,.slice none 0 0,.slice none 0 0,.bool false,.slice none 0 0,.slice none 0 0] 38):=⟨_,rfl⟩
 have J:=A_ (by rw[E];exact(Below.box _).alloc sI _:Bw w D);have aT:=A_ (by rw[E];exact K_ (heap_alloc_new w _) (Below.box _):D.1[w.1.size]?=some (.cells #[.slice T ad X,.slice W n1 Y] 26));have aq:=A_ (show D.1[w.1.size+1]?=some (.cells #[.bool false,.slice none 0 0,.slice none 0 0,.bool false,.slice none 0 0,.slice none 0 0] 38) by rw[E];have:=heap_alloc_new (w.alloc (.cells #[.slice T ad X,.slice W n1 Y] 26)) (.cells #[.bool false,.slice none 0 0,.slice none 0 0,.bool false,.slice none 0 0,.slice none 0 0] 38);rwa [World.size_alloc]at this);have aX:=A_ (by rw[E];simp:D.1.size=w.1.size+2);rw[<-E];clear E;obtain⟨aY,-,a3⟩:=bx aT;have l1:w.1.size+1<D.1.size:=E_ aq;refine X_ sI ?_;dsimp only[List.dropLast,List.getLast,List.length];iterate 2 refine C_ _ ?_
 refine D_ (MP.sl (B5j m.1 t)) ?_ ?_;·intro ae I H h u;obtain⟨aE,aF⟩:=F_ h;simp at u;refine G_ ?_;exact A1c (A6s _ m _ k t H ((ao.below J).below h) al ap aN aj ak)
 iterate 3 refine C_ _ ?_
 refine D_ (MP.sl (A6n us t)) ?_ ?_;·intro ae I H h u;obtain⟨aE,aF⟩:=F_ h;simp at u;refine G_ ?_;exact A1c (B9w _ m _ B n d us ay k t H ((ao.o.below J.o).below h) ((aS.o.below J.o).below h) al.o (by rw[am.o];exact ap.o) aV.o (by rw[am.o];exact aj) ak)
 refine D_ (MP.aggN (B4f (Z_ m.1 t.a) (Z_ m.1 t.b) (Z_ m.1 t.c) (A6n us t) 3)) ?_ ?_;·intro ae I H h u;obtain⟨aE,aF⟩:=F_ h;simp at u;obtain⟨⟨⟨C,a4,cC,bd,aB⟩,_⟩,⟨aO,a5,cD,be,aC⟩,_⟩:=u;obtain rfl:3=a4:=aB.1;obtain rfl:3=a5:=aC.1;refine G_ ?_;exact B8i (B7w C cC _ _ _ _ aO cD _ _ H aB aC aR aW)
 intro ae I wa h u (aZ:Hid _);simp at u;have a6:=u.2.2.2.2.2.2.2;obtain⟨K,aI⟩:=a6;generalize B4f (Z_ m.1 t.a) (Z_ m.1 t.b) (Z_ m.1 t.c) (A6n us t) 3=S at *;obtain⟨af,aJ,ar,u1,ag,aK,au,u2,ah,aL,aw,bi,ai,aM,ax,bj,a8,z8,_,_,_,_⟩:=TPoint.agg K;rw[a8]at K;have aP:=A_ K;have an:=A_ (show ∀ b∈I 7,w.1.size+2<=b from λb G=>by have:=(aI b G).1;have:=aX.o;omega);have aU:=A_ (K_ aq h);have aQ:=A_ (Below.next J h);obtain⟨ba,bc,bf⟩:=bx aU;generalize I 7=a7 at *;clear u aZ K aI z8 h aY a3 l1;go_wp2;refine bodyPost_ret (v:=.agg #[.bool S.x.1.1,.slice af aJ ar,.slice ag aK au,.bool S.y.1.1,.slice ah aL aw,.slice ai aM ax]) (by simp[results,results45,go_sem, *]) rfl ?_;refine⟨_,a7,rfl,aP.keep (λb G=>A0m (w.1.size+1) [.bool S.x.1.1,.slice af aJ ar,.slice ag aK au,.bool S.y.1.1,.slice ah aL aw,.slice ai aM ax] wa 0 b (by have:=an b G;omega)),λb G=>by have:=an.o b G;omega,?_⟩;exact(((((aQ.setCell (p:=⟨w.1.size+1,0,none⟩) (Nat.le_succ _) _).setCell (p:=⟨w.1.size+1,1,none⟩) (Nat.le_succ _) _).setCell (p:=⟨w.1.size+1,2,none⟩) (Nat.le_succ _) _).setCell (p:=⟨w.1.size+1,3,none⟩) (Nat.le_succ _) _).setCell (p:=⟨w.1.size+1,4,none⟩) (Nat.le_succ _) _).setCell (p:=⟨w.1.size+1,5,none⟩) (Nat.le_succ _) _
structure LinD (p:TProblem) (us:List TRat):Prop where
 tri:∀ t∈p.1.triangles,A5v p.1.1.length t/\(0<=t.4/\t.4<3)/\GradOk (Z_ p.1.1 t.a) (Z_ p.1.1 t.b) (Z_ p.1.1 t.c)
 ok:p.1.1.all A1b=true
 n40:p.1.1.length<=40
 t48:p.1.triangles.length<=48
 dl:p.2.length=3
 ul:us.length=p.1.1.length
 uo:us.all J_=true
def grT (p:TProblem) (us:List TRat) (t:TTri):TPoint:=B4f (Z_ p.1.1 t.a) (Z_ p.1.1 t.b) (Z_ p.1.1 t.c) (A6n us t) 3
def B4w (p:TProblem) (t:TTri):TRat:=p.2.getD t.4.toNat A0h
def E2o (p:TProblem) (t:TTri):TRat:=p.3.getD t.4.toNat A0h
def ixT (t:TTri) (v:Int):Nat:=if t.a=v then 0 else if t.b=v then 1 else 2
def A5g (p:TProblem) (us:List TRat) (t:TTri) (v:Int):TPiece :=
 ⟨[Z_ p.1.1 t.a,Z_ p.1.1 t.b,Z_ p.1.1 t.c],Z_ p.1.1 (A3h t v).1,Z_ p.1.1 (A3h t v).2,
  A6c (Z_ p.1.1 t.a) (Z_ p.1.1 t.b) (Z_ p.1.1 t.c),B4w p t,grT p us t,A5w (Z_ p.1.1 t.a) (Z_ p.1.1 t.b) (Z_ p.1.1 t.c) (ixT t v),E2o p t⟩
def C1f (x:TPiece):TRat:=A3t (A0d (A0d x.f x.area) (mkR 1 3)) (A0d (A0d x.k x.area) (A1k x.grad x.own))
def byP (x:TPiece):TRat:=A3u (U_ 1) (A0d (U_ 2) x.area)
def E3j (x:TPiece):TPoint:=A5x (x.list.getD 0 pt0) (x.list.getD 1 pt0) (x.list.getD 2 pt0)
def sP (x:TPiece) (first second:TRat):TPoint:=A0v (byP x) (A4a (A0v second (A4a (E3j x) x.b)) (A0v first (A4a (E3j x) x.c)))
def dP (x:TPiece):TPoint:=A0v (byP x) (A4a x.c x.b)
def B0i (x:TPiece) (first second:TRat):TRat:=A0k (A3u (A0d x.area (A1k (dP x) (sP x first second))) x.k) (A0d (A0d x.area (A1k (dP x) x.grad)) (mkR 1 3))
def B3c (x:TPiece):TRat:=A3u (A0d x.area (A1k (dP x) (dP x))) x.k
def pc0:TPiece:=⟨[],pt0,pt0,A0h,A0h,pt0,pt0,A0h⟩
def A2h (xs:List TPiece):Nat->List TRat
 |0=>[U_ 0]
 |i+1=>A2h xs i++[A0k ((A2h xs i).getD i A0h) (C1f (xs.getD i pc0))]
def B3x (xs:List TPiece):Nat->TRat
 |0=>U_ 0
 |i+1=>A0k (B3x xs i) (B0i (xs.getD i pc0) ((A2h xs (i+1)).getD i A0h) ((A2h xs (i+1)).getD (i+1) A0h))
def B2i (xs:List TPiece):Nat->TRat
 |0=>U_ 0
 |i+1=>A0k (B2i xs i) (B3c (xs.getD i pc0))
def D7a (xs:List TPiece):TRat:=C3m (A3u (B3x xs xs.length) (B2i xs xs.length))
def A9c (xs:List TPiece) (cl:Bool):List TRat:=((A2h xs xs.length).take (if cl then xs.length else xs.length+1)).map λr=>A0k r (D7a xs)
def A1h (p:TProblem) (us:List TRat) (f:TFan) (v:Int):List TPiece:=f.triangles.map λk=>A5g p us (p.1.triangles.getD k.toNat A4p) v
def A6f (p:TProblem) (us:List TRat) (f:TFan) (v:Int):List TRat:=A9c (A1h p us f v) f.closed
def B2d (es:List TEdge) (v:Int) (sp:List Int) (fl o:List TRat):Nat->List TRat
 |0=>o
 |k+1=>(B2d es v sp fl o k).set (sp.getD k 0).toNat
  (bif decide ((es.getD (sp.getD k 0).toNat A4o).a=v)then A3t ((B2d es v sp fl o k).getD (sp.getD k 0).toNat A0h) (fl.getD k A0h)else A0k ((B2d es v sp fl o k).getD (sp.getD k 0).toNat A0h) (fl.getD k A0h))
def D7s:TFan:=⟨[],[],false⟩
def A4q (p:TProblem) (us:List TRat) (es:List TEdge) (v:Int) (fs:List TFan) (o:List TRat):Nat->List TRat
 |0=>o
 |i+1=>B2d es v (fs.getD i D7s).spokes (A6f p us (fs.getD i D7s) v) (A4q p us es v fs o i) (fs.getD i D7s).spokes.length
def A3j (p:TProblem) (us:List TRat):Nat->List TRat
 |0=>List.replicate (P_ p.1.triangles).length (U_ 0)
 |v+1=>A4q p us (P_ p.1.triangles) v (A8x p.1.triangles v) (A3j p us v) (A8x p.1.triangles v).length
def A4i (p:TProblem) (us:List TRat):List TRat:=A3j p us p.1.1.length
def B7d (p:TProblem) (t:TTri):TRat:=A0d (E2o p t) (A6c (Z_ p.1.1 t.a) (Z_ p.1.1 t.b) (Z_ p.1.1 t.c))
def B2e (p:TProblem) (us:List TRat) (t:TTri):TPoint:=A0v (B4w p t) (grT p us t)
def D5o (p:TProblem) (us fl:List TRat) (k:Nat) (t:TTri):TRat :=
 A3u (C1a (Z_ p.1.1 t.a) (Z_ p.1.1 t.b) (Z_ p.1.1 t.c) (A7o (P_ p.1.triangles) fl k t) (B2e p us t)) (B4w p t)
def B3i (p:TProblem) (us fl:List TRat):Nat->List TRat
 |0=>[]
 |k+1=>B3i p us fl k++[D5o p us fl k (p.1.triangles.getD k A4p)]
def C3k (p:TProblem) (us fl:List TRat):List TRat:=B3i p us fl p.1.triangles.length
theorem B7o (xs:List TPiece):∀ i,(A2h xs i).length=i+1
 |0=>rfl
 |i+1=>by rw[A2h,List.length_append,B7o xs i];rfl
theorem D0r (es:List TEdge) (v:Int) (sp:List Int) (fl o:List TRat):∀ k,(B2d es v sp fl o k).length=o.length
 |0=>rfl
 |k+1=>by rw[B2d,List.length_set,D0r es v sp fl o k]
theorem C2w (p:TProblem) (us:List TRat) (es:List TEdge) (v:Int) (fs:List TFan) (o:List TRat):∀ i,(A4q p us es v fs o i).length=o.length
 |0=>rfl
 |i+1=>by rw[A4q,D0r,C2w p us es v fs o i]
theorem C7s (p:TProblem) (us:List TRat):∀ v,(A3j p us v).length=(P_ p.1.triangles).length
 |0=>by rw[A3j,List.length_replicate]
 |v+1=>by rw[A3j,C2w,C7s p us v]
theorem A9j {g:Bool} {l:LF} (h:(D1s g l).ok=true):g=true/\l.ok=true:=by
 unfold D1s at h;cases b:g&&l.ok with
 |false=>rw[b]at h;cases h
 |true=>rw[Bool.and_eq_true]at b;exact b
abbrev LP:=LF×LF
def LP.ok (P:LP):Bool:=P.1.ok&&P.2.ok
def E2c (P:LP):LP:=bif P.ok then P else(A4z,A4z)
def D4q (P Q:LP):LP:=E2c (C8u P.1 Q.1,C8u P.2 Q.2)
def E7o (P Q:LP):LP:=E2c (E1z P.1 Q.1,E1z P.2 Q.2)
def D6h (l:LF) (c:TPoint):LP:=E2c (A7p c.x l,A7p c.y l)
def C3y (k:TRat) (P:LP):LP:=E2c (A7p k P.1,A7p k P.2)
def C1h (c:TPoint) (P:LP):LF:=C8u (A7p c.x P.1) (A7p c.y P.2)
def RepP (s:A2c) (P:LP) (p:TPoint):Prop:=P.ok=true->p.x=toR (P.1.at s)/\p.y=toR (P.2.at s)
theorem LP.ok_iff {P:LP}:P.ok=true↔P.1.ok=true/\P.2.ok=true:=by unfold LP.ok;simp
theorem RepP.fst {s:A2c} {P:LP} {p:TPoint} (h:RepP s P p) (h2:P.2.ok=true):Rep s P.1 p.x:=λh1=>(h (LP.ok_iff.2 ⟨h1,h2⟩)).1
theorem RepP.snd {s:A2c} {P:LP} {p:TPoint} (h:RepP s P p) (h1:P.1.ok=true):Rep s P.2 p.y:=λh2=>(h (LP.ok_iff.2 ⟨h1,h2⟩)).2
theorem RepP.if_ {s:A2c} {P:LP} {p:TPoint} (E:SrcIn s) (h:P.ok=true->Rep s P.1 p.x/\Rep s P.2 p.y):RepP s (E2c P) (ifP p):=by
 unfold E2c;cases D:P.ok with
 |false=>intro h;cases h
 |true =>
  intro _
  obtain⟨b,u⟩:=h D
  obtain⟨k1,k2⟩:=LP.ok_iff.1 D
  have e:A1b p=true:=by unfold A1b;rw[b.val E k1,u.val E k2];rfl
  unfold ifP
  rw[e]
  exact⟨b k1,u k2⟩
theorem RepP.add {s:A2c} {P Q:LP} {p q:TPoint} (u:SrcIn s) (D:RepP s P p) (E:RepP s Q q):RepP s (D4q P Q) (A3y p q):=by
 refine RepP.if_ u λG=>?_;obtain⟨k1,k2⟩:=LP.ok_iff.1 G;have b:=(A9j k1).1;have h:=(A9j k2).1;rw[Bool.and_eq_true]at b h;exact⟨Rep.add u (D.fst h.1) (E.fst h.2),Rep.add u (D.snd b.1) (E.snd b.2)⟩
theorem RepP.sub {s:A2c} {P Q:LP} {p q:TPoint} (u:SrcIn s) (D:RepP s P p) (E:RepP s Q q):RepP s (E7o P Q) (A4a p q):=by
 refine RepP.if_ u λG=>?_;obtain⟨k1,k2⟩:=LP.ok_iff.1 G;have b:=(A9j k1).1;have h:=(A9j k2).1;rw[Bool.and_eq_true]at b h;exact⟨Rep.sub u (D.fst h.1) (E.fst h.2),Rep.sub u (D.snd b.1) (E.snd b.2)⟩
theorem RepP.con {s:A2c} {l:LF} {r:TRat} {c:TPoint} (hs:SrcIn s) (h:Rep s l r):RepP s (D6h l c) (A0v r c) :=
 RepP.if_ hs λ_=>⟨Rep.scale' hs h,Rep.scale' hs h⟩
theorem RepP.scale {s:A2c} {k:TRat} {P:LP} {p:TPoint} (b:SrcIn s) (h:RepP s P p):RepP s (C3y k P) (A0v k p):=by
 refine RepP.if_ b λE=>?_;obtain⟨k1,k2⟩:=LP.ok_iff.1 E;have u:=(A9j k1).1;have D:=(A9j k2).1;rw[Bool.and_eq_true]at u D;exact⟨Rep.scale b (h.fst D.2),Rep.scale b (h.snd u.2)⟩
theorem C9p {c:TPoint} {P:LP} (h:(C1h c P).ok=true):P.1.ok=true/\P.2.ok=true:=by
 have a:=(A9j h).1;rw[Bool.and_eq_true]at a;have b1:=(A9j a.1).1;have b2:=(A9j a.2).1;rw[Bool.and_eq_true]at b1 b2;exact⟨b1.2,b2.2⟩
theorem D0s {s:A2c} {c:TPoint} {P:LP} {p:TPoint} (hs:SrcIn s) (h:RepP s P p):Rep s (C1h c P) (A1k c p):=λhk=>by
 obtain⟨k1,k2⟩:=C9p hk
 exact Rep.add hs (Rep.scale hs (h.fst k2)) (Rep.scale hs (h.snd k1)) hk
theorem D8d {s:A2c} {c:TPoint} {P:LP} {p:TPoint} (hs:SrcIn s) (h:RepP s P p):Rep s (C1h c P) (A1k p c):=λhk=>by
 obtain⟨k1,k2⟩:=C9p hk
 exact Rep.add hs (Rep.scale' hs (h.fst k2)) (Rep.scale' hs (h.snd k1)) hk
def RepL (s:A2c) (ls:List LF) (rs:List TRat):Prop:=ls.length=rs.length/\∀ i,Rep s (ls.getD i A4z) (rs.getD i A0h)
theorem RepL.nil {s:A2c}:RepL s [] []:=⟨rfl,λi=>by simpa using Rep.bad⟩
theorem C4z {α:Type} (l m:List α) (d:α) (i:Nat):(l++m).getD i d=if i<l.length then l.getD i d else m.getD (i - l.length) d:=by
 simp only[List.getD_eq_getElem?_getD];split;·rw[List.getElem?_append_left (by assumption)]
 rw[List.getElem?_append_right oM]
theorem RepL.push {s:A2c} {u:List LF} {b:List TRat} {l:LF} {r:TRat} (h:RepL s u b) (D:Rep s l r):RepL s (u++[l]) (b++[r]):=by
 refine⟨by simp[h.1],λi=>?_⟩;rw[C4z,C4z,h.1];split;·exact h.2 i
 ·cases E:i - b.length with
  |zero=>exact D
  |succ n=>simpa using Rep.bad
theorem RepL.set {s:A2c} {u:List LF} {D:List TRat} {l:LF} {r:TRat} (h:RepL s u D) (k:Nat) (E:Rep s l r):RepL s (u.set k l) (D.set k r):=by
 refine⟨by simp[h.1],λi=>?_⟩;simp only[List.getD_eq_getElem?_getD,List.getElem?_set];by_cases b:k=i
 ·subst b
  rw[if_pos rfl,if_pos rfl,h.1];split;·exact E
  exact Rep.bad
 rw[if_neg b,if_neg b];have:=h.2 i;simpa only [List.getD_eq_getElem?_getD]using this
theorem RepL.take {s:A2c} {b:List LF} {u:List TRat} (h:RepL s b u) (n:Nat):RepL s (b.take n) (u.take n):=by
 refine⟨by simp[h.1],λi=>?_⟩;simp only[List.getD_eq_getElem?_getD,List.getElem?_take];split;·have:=h.2 i;simpa only [List.getD_eq_getElem?_getD]using this
 exact Rep.bad
theorem RepL.map {s:A2c} {u:List LF} {D:List TRat} {f:LF->LF} {g:TRat->TRat} (h:RepL s u D) (E:∀ l r,Rep s l r->Rep s (f l) (g r)):RepL s (u.map f) (D.map g):=by
 refine⟨by simp[h.1],λi=>?_⟩;have b:=h.2 i;simp only[List.getD_eq_getElem?_getD,List.getElem?_map]at b ⊢;by_cases G:i<u.length
 ·have H:i<D.length:=by have:=h.1;omega
  rw[List.getElem?_eq_getElem G,List.getElem?_eq_getElem H]at b ⊢;exact E _ _ b
 rw[List.getElem?_eq_none oM];exact Rep.bad
theorem RepL.replicate {s:A2c} (n:Nat):RepL s (List.replicate n A4k) (List.replicate n (U_ 0)):=by
 refine⟨sI,λi=>?_⟩;simp only[List.getD_eq_getElem?_getD,List.getElem?_replicate];split;·exact Rep.zero
 exact Rep.bad
def D9c (ls:List LF):Bool:=ls.all LF.ok
theorem RepL.val {s:A2c} {b:List LF} {E:List TRat} (h:RepL s b E) (J:SrcIn s) (H:D9c b=true):∀ r∈E,J_ r=true:=by
 intro r I;obtain⟨i,G,rfl⟩:=List.getElem_of_mem I;have u:=h.2 i;have D:i<b.length:=by have:=h.1;omega
 simp only[List.getD_eq_getElem?_getD,List.getElem?_eq_getElem G,List.getElem?_eq_getElem D]at u;exact u.val J (List.all_eq_true.1 H _ (List.getElem_mem D))
def arC (ps:List TPoint) (t:TTri):TRat:=A6c (Z_ ps t.a) (Z_ ps t.b) (Z_ ps t.c)
def byC (ps:List TPoint) (t:TTri):TRat:=A3u (U_ 1) (A0d (U_ 2) (arC ps t))
def E8d (ps:List TPoint) (t:TTri):TPoint:=A5x (Z_ ps t.a) (Z_ ps t.b) (Z_ ps t.c)
def bC (ps:List TPoint) (t:TTri) (v:Int):TPoint:=Z_ ps (A3h t v).1
def cC (ps:List TPoint) (t:TTri) (v:Int):TPoint:=Z_ ps (A3h t v).2
def E9a (ps:List TPoint) (t:TTri) (v:Int):TPoint:=A5w (Z_ ps t.a) (Z_ ps t.b) (Z_ ps t.c) (ixT t v)
def dC (ps:List TPoint) (t:TTri) (v:Int):TPoint:=A0v (byC ps t) (A4a (cC ps t v) (bC ps t v))
def zbC (ps:List TPoint) (t:TTri) (v:Int):TPoint:=A4a (E8d ps t) (bC ps t v)
def zcC (ps:List TPoint) (t:TTri) (v:Int):TPoint:=A4a (E8d ps t) (cC ps t v)
def ddC (ps:List TPoint) (t:TTri) (v:Int):TRat:=A0d (arC ps t) (A1k (dC ps t v) (dC ps t v))
def E8b (a b c:TPoint) (vs:List LF):Nat->LP
 |0=>(A4k,A4k)
 |k+1=>D4q (E8b a b c vs k) (D6h (vs.getD k A4z) (A5w a b c k))
def grF (ps:List TPoint) (ul:List LF) (t:TTri):LP:=E8b (Z_ ps t.a) (Z_ ps t.b) (Z_ ps t.c) [ul.getD t.a.toNat A4z,ul.getD t.b.toNat A4z,ul.getD t.c.toNat A4z] 3
def kC (ks:List TRat) (t:TTri):TRat:=ks.getD t.4.toNat A0h
def E7y (ps:List TPoint) (ks:List TRat) (ul fl:List LF) (t:TTri) (v:Int):LF :=
 E1z (A7p (mkR 1 3) (A7p (arC ps t) (fl.getD t.4.toNat A4z))) (A7p (A0d (kC ks t) (arC ps t)) (C1h (E9a ps t v) (grF ps ul t)))
def sF (ps:List TPoint) (t:TTri) (v:Int) (first second:LF):LP:=C3y (byC ps t) (E7o (D6h second (zbC ps t v)) (D6h first (zcC ps t v)))
def D7b (ps:List TPoint) (ks:List TRat) (ul:List LF) (t:TTri) (v:Int) (first second:LF):LF :=
 C8u (E6y (A7p (arC ps t) (C1h (dC ps t v) (sF ps t v first second))) (kC ks t)) (A7p (mkR 1 3) (A7p (arC ps t) (C1h (dC ps t v) (grF ps ul t))))
def E4p (ps:List TPoint) (ks:List TRat) (t:TTri) (v:Int):TRat:=A3u (ddC ps t v) (kC ks t)
def C5w (ps:List TPoint) (ks:List TRat) (ul fl:List LF) (tl:List TTri) (v:Int):Nat->List LF
 |0=>[A4k]
 |i+1=>C5w ps ks ul fl tl v i++[C8u ((C5w ps ks ul fl tl v i).getD i A4z) (E7y ps ks ul fl (tl.getD i A4p) v)]
def D7o (ps:List TPoint) (ks:List TRat) (ul fl:List LF) (tl:List TTri) (v:Int):Nat->LF
 |0=>A4k
 |i+1=>C8u (D7o ps ks ul fl tl v i) (D7b ps ks ul (tl.getD i A4p) v ((C5w ps ks ul fl tl v (i+1)).getD i A4z) ((C5w ps ks ul fl tl v (i+1)).getD (i+1) A4z))
def D2u (ps:List TPoint) (ks:List TRat) (tl:List TTri) (v:Int):Nat->TRat
 |0=>U_ 0
 |i+1=>A0k (D2u ps ks tl v i) (E4p ps ks (tl.getD i A4p) v)
def E5f (ps:List TPoint) (ks:List TRat) (ul fl:List LF) (tl:List TTri) (v:Int):LF:=E8k (E6y (D7o ps ks ul fl tl v tl.length) (D2u ps ks tl v tl.length))
def D8q (ps:List TPoint) (ks:List TRat) (ul fl:List LF) (tl:List TTri) (v:Int) (cl:Bool):List LF :=
 ((C5w ps ks ul fl tl v tl.length).take (if cl then tl.length else tl.length+1)).map λl=>C8u l (E5f ps ks ul fl tl v)
def A6g (ts:List TTri) (f:TFan):List TTri:=f.triangles.map λk=>ts.getD k.toNat A4p
def E8y (m:TMesh) (ks:List TRat) (ul fl:List LF) (f:TFan) (v:Int):List LF:=D8q m.1 ks ul fl (A6g m.triangles f) v f.closed
def E5e (es:List TEdge) (v:Int) (sp:List Int) (xs o:List LF):Nat->List LF
 |0=>o
 |k+1=>(E5e es v sp xs o k).set (sp.getD k 0).toNat
  (bif decide ((es.getD (sp.getD k 0).toNat A4o).a=v)then E1z ((E5e es v sp xs o k).getD (sp.getD k 0).toNat A4z) (xs.getD k A4z)else C8u ((E5e es v sp xs o k).getD (sp.getD k 0).toNat A4z) (xs.getD k A4z))
def C7c (m:TMesh) (ks:List TRat) (ul fl:List LF) (es:List TEdge) (v:Int) (fs:List TFan) (o:List LF):Nat->List LF
 |0=>o
 |i+1=>E5e es v (fs.getD i D7s).spokes (E8y m ks ul fl (fs.getD i D7s) v) (C7c m ks ul fl es v fs o i) (fs.getD i D7s).spokes.length
def D1i (m:TMesh) (ks:List TRat) (ul fl:List LF):Nat->List LF
 |0=>List.replicate (P_ m.triangles).length A4k
 |v+1=>C7c m ks ul fl (P_ m.triangles) v (A8x m.triangles v) (D1i m ks ul fl v) (A8x m.triangles v).length
def B2x (m:TMesh) (ks:List TRat) (ul fl:List LF):List LF:=D1i m ks ul fl m.1.length
def C3e (f:TEdge->Int) (es:List TEdge) (xs:List LF) (t:Int):Nat->LF
 |0=>A4k
 |k+1=>if f (es.getD k A4o)=t then C8u (C3e f es xs t k) (xs.getD k A4z)else C3e f es xs t k
def E9j (es:List TEdge) (xs:List LF) (t:Int):LF:=E1z (C3e TEdge.left es xs t es.length) (C3e TEdge.right es xs t es.length)
def E3o (ps:List TPoint) (fl:List LF) (t:TTri):LF:=A7p (arC ps t) (fl.getD t.4.toNat A4z)
def D9j (ps:List TPoint) (ks:List TRat) (ul:List LF) (t:TTri):LP:=C3y (kC ks t) (grF ps ul t)
def D4b (es:List TEdge) (xs:List LF) (k a b:Int):LF:=if (es.getD (A3z es (A2i a b)) A4o).left=k then xs.getD (A3z es (A2i a b)) A4z else E8k (xs.getD (A3z es (A2i a b)) A4z)
def D3b (es:List TEdge) (xs:List LF) (k:Int) (t:TTri):List LF:=[D4b es xs k t.b t.c,D4b es xs k t.c t.a,D4b es xs k t.a t.b]
def E5h (l:List TPoint) (xs:List LF) (z:TPoint):Nat->LP
 |0=>(A4k,A4k)
 |k+1=>D4q (E5h l xs z k) (D6h (xs.getD k A4z) (A4a z (l.getD k pt0)))
def E8v (a b c:TPoint) (xs:List LF) (z:TPoint):LP:=C3y (A3u (U_ 1) (A2y a b c)) (E5h [a,b,c] xs z 3)
theorem RepP.zero {s:A2c}:RepP s (A4k,A4k) (ptI 0 0):=λ_=>⟨Rep.zero rfl,Rep.zero rfl⟩
theorem D3m {s:A2c} {a b c:TPoint} {ls:List LF} {vs:List TRat} (hs:SrcIn s) (h:∀ i,Rep s (ls.getD i A4z) (vs.getD i A0h)):∀ k,RepP s (E8b a b c ls k) (B4f a b c vs k)
 |0=>RepP.zero
 |k+1=>RepP.add hs (D3m hs h k) (RepP.con hs (h k))
theorem D2k {s:A2c} {p:TProblem} {ul:List LF} {us:List TRat} {t:TTri} (h:SrcIn s) (b:RepL s ul us):RepP s (grF p.1.1 ul t) (grT p us t):=by
 refine D3m h (λi=>?_) 3;match i with
 |0=>exact b.2 _
 |1=>exact b.2 _
 |2=>exact b.2 _
 |n+3=>exact Rep.bad
theorem D8e (p:TProblem) (us:List TRat) (t:TTri) (v:Int):C1f (A5g p us t v)=A3t (A0d (A0d (p.3.getD t.4.toNat A0h) (arC p.1.1 t)) (mkR 1 3)) (A0d (A0d (B4w p t) (arC p.1.1 t)) (A1k (grT p us t) (E9a p.1.1 t v))):=by
 simp only[C1f,A5g,arC,E9a,E2o]
theorem D4s (p:TProblem) (us:List TRat) (t:TTri) (v:Int) (b h:TRat):B0i (A5g p us t v) b h =
  A0k (A3u (A0d (arC p.1.1 t) (A1k (dC p.1.1 t v) (A0v (byC p.1.1 t) (A4a (A0v h (zbC p.1.1 t v)) (A0v b (zcC p.1.1 t v)))))) (B4w p t)) (A0d (A0d (arC p.1.1 t) (A1k (dC p.1.1 t v) (grT p us t))) (mkR 1 3)):=by
 simp only[B0i,sP,dP,byP,E3j,A5g,arC,dC,byC,zbC,zcC,E8d,bC,cC,List.getD_cons_zero,List.getD_cons_succ]
theorem D4x (p:TProblem) (us:List TRat) (t:TTri) (v:Int):B3c (A5g p us t v)=A3u (ddC p.1.1 t v) (B4w p t):=by
 simp only[B3c,dP,byP,A5g,ddC,arC,dC,byC,bC,cC]
theorem E2p {s:A2c} {p:TProblem} {ks:List TRat} {ul h:List LF} {us:List TRat} {t:TTri} {v:Int} (b:SrcIn s) (D:kC ks t=B4w p t) (E:RepL s ul us) (u:RepL s h p.3) :
  Rep s (E7y p.1.1 ks ul h t v) (C1f (A5g p us t v)):=by
 unfold E7y;rw[D,D8e];exact Rep.sub b (Rep.scale' b (Rep.scale' b (u.2 _))) (Rep.scale b (D8d b (D2k b E)))
theorem D7y {s:A2c} {p:TProblem} {ks:List TRat} {ul:List LF} {us:List TRat} {t:TTri} {v:Int} {l1 l2:LF} {h u:TRat} (b:SrcIn s) (G:kC ks t=B4w p t) (H:RepL s ul us) (D:Rep s l1 h) (E:Rep s l2 u) :
  Rep s (D7b p.1.1 ks ul t v l1 l2) (B0i (A5g p us t v) h u):=by
 unfold D7b;rw[G,D4s];exact Rep.add b (Rep.div b (Rep.scale b (D0s b (RepP.scale b (RepP.sub b (RepP.con b E) (RepP.con b D)))))) (Rep.scale' b (Rep.scale b (D0s b (D2k b H))))
theorem C5i {α β:Type} {l:List α} {f:α->β} {i:Nat} (d:α) (e:β) (h:i<l.length):(l.map f).getD i e=f (l.getD i d):=by
 simp[List.getD_eq_getElem?_getD,List.getElem?_eq_getElem h]
theorem B9b {α:Type} {l:List α} {i:Nat} {d:α} (h:i<l.length):l.getD i d∈l:=by
 simp[List.getD_eq_getElem?_getD,List.getElem?_eq_getElem h]
def D1o (p:TProblem) (ks:List TRat) (tl:List TTri):Prop:=∀ t∈tl,kC ks t=B4w p t
def A4u (p:TProblem) (us:List TRat) (tl:List TTri) (v:Int):List TPiece:=tl.map λt=>A5g p us t v
theorem B6i {s:A2c} {p:TProblem} {ks:List TRat} {ul fl:List LF} {us:List TRat} {tl:List TTri} {v:Int} (hs:SrcIn s) (hk:D1o p ks tl) (hu:RepL s ul us) (hf:RepL s fl p.3):∀ i,i<=tl.length->RepL s (C5w p.1.1 ks ul fl tl v i) (A2h (A4u p us tl v) i)
 |0,_=>RepL.push RepL.nil Rep.zero
 |i+1,h=>by
  have ih:=B6i (tl:=tl) (v:=v) hs hk hu hf i oM
  refine RepL.push ih (Rep.add hs (ih.2 i) ?_)
  rw[A4u,C5i A4p pc0 oM]
  exact E2p hs (hk _ (B9b oM)) hu hf
theorem C6m {s:A2c} {p:TProblem} {ks:List TRat} {ul fl:List LF} {us:List TRat} {tl:List TTri} {v:Int} (hs:SrcIn s) (hk:D1o p ks tl) (hu:RepL s ul us) (hf:RepL s fl p.3):∀ i,i<=tl.length->Rep s (D7o p.1.1 ks ul fl tl v i) (B3x (A4u p us tl v) i)
 |0,_=>Rep.zero
 |i+1,h=>by
  have ho:=B6i (tl:=tl) (v:=v) hs hk hu hf (i+1) h
  refine Rep.add hs (C6m hs hk hu hf i oM) ?_
  have e:(A4u p us tl v).getD i pc0=A5g p us (tl.getD i A4p) v:=by rw[A4u,C5i A4p pc0 oM]
  rw[e]
  exact D7y hs (hk _ (B9b oM)) hu (ho.2 _) (ho.2 _)
theorem C9t {p:TProblem} {ks us:List TRat} {tl:List TTri} {v:Int} (hk:D1o p ks tl):∀ i,i<=tl.length->D2u p.1.1 ks tl v i=B2i (A4u p us tl v) i
 |0,_=>rfl
 |i+1,h=>by
  have e:(A4u p us tl v).getD i pc0=A5g p us (tl.getD i A4p) v:=by rw[A4u,C5i A4p pc0 oM]
  rw[D2u,B2i,C9t (us:=us) hk i oM,e,E4p,hk _ (B9b oM),D4x]
theorem D7u {s:A2c} {p:TProblem} {ks:List TRat} {ul u:List LF} {us:List TRat} {tl:List TTri} {v:Int} (cl:Bool) (b:SrcIn s) (h:D1o p ks tl) (E:RepL s ul us) (D:RepL s u p.3) :
  RepL s (D8q p.1.1 ks ul u tl v cl) (A9c (A4u p us tl v) cl):=by
 have e:(A4u p us tl v).length=tl.length:=by simp[A4u]
 unfold D8q A9c;rw[e];refine((B6i b h E D _ (Nat.le_refl _)).take _).map λl r G=>Rep.add b G ?_;unfold E5f D7a;rw[e,<-C9t (us:=us) h _ (Nat.le_refl _)];exact Rep.neg b (Rep.div b (C6m b h E D _ (Nat.le_refl _)))
theorem C9j (p:TProblem) (us:List TRat) (f:TFan) (v:Int):A1h p us f v=A4u p us (A6g p.1.triangles f) v:=by
 unfold A1h A4u A6g;rw[List.map_map];rfl
theorem D3x {s:A2c} {p:TProblem} {ks:List TRat} {ul b:List LF} {us:List TRat} {f:TFan} {v:Int} (D:SrcIn s) (u:D1o p ks (A6g p.1.triangles f)) (E:RepL s ul us) (h:RepL s b p.3) :
  RepL s (E8y p.1 ks ul b f v) (A6f p us f v):=by
 unfold A6f;rw[C9j];exact D7u _ D u E h
theorem D5a {s:A2c} {es:List TEdge} {v:Int} {sp:List Int} {xs o:List LF} {ys q:List TRat} (hs:SrcIn s) (hx:RepL s xs ys) (ho:RepL s o q):∀ k,RepL s (E5e es v sp xs o k) (B2d es v sp ys q k)
 |0=>ho
 |k+1=>by
  have ih:=D5a (es:=es) (v:=v) (sp:=sp) hs hx ho k
  refine ih.set _ ?_
  cases decide ((es.getD (sp.getD k 0).toNat A4o).a=v)
  ·exact Rep.add hs (ih.2 _) (hx.2 _)
  exact Rep.sub hs (ih.2 _) (hx.2 _)
theorem C0g {s:A2c} {p:TProblem} {ks:List TRat} {ul fl:List LF} {us:List TRat} {es:List TEdge} {v:Int} {fs:List TFan} {o:List LF} {q:List TRat} (hs:SrcIn s) (hk:∀ f,D1o p ks (A6g p.1.triangles f)) (hu:RepL s ul us) (hf:RepL s fl p.3) (ho:RepL s o q) :
  ∀ i,RepL s (C7c p.1 ks ul fl es v fs o i) (A4q p us es v fs q i)
 |0=>ho
 |i+1=>D5a hs (D3x hs (hk _) hu hf) (C0g hs hk hu hf ho i) _
theorem C2e {s:A2c} {p:TProblem} {ks:List TRat} {ul fl:List LF} {us:List TRat} (hs:SrcIn s) (hk:∀ f,D1o p ks (A6g p.1.triangles f)) (hu:RepL s ul us) (hf:RepL s fl p.3):∀ v,RepL s (D1i p.1 ks ul fl v) (A3j p us v)
 |0=>RepL.replicate _
 |v+1=>C0g hs hk hu hf (C2e hs hk hu hf v) _
theorem E1h {s:A2c} {p:TProblem} {ks:List TRat} {ul fl:List LF} {us:List TRat} (hs:SrcIn s) (hk:∀ f,D1o p ks (A6g p.1.triangles f)) (hu:RepL s ul us) (hf:RepL s fl p.3):RepL s (B2x p.1 ks ul fl) (A4i p us):=C2e hs hk hu hf _
theorem C0r {s:A2c} {es:List TEdge} {xs:List LF} {ys:List TRat} {t:Int} (hs:SrcIn s) (hx:RepL s xs ys):∀ k,Rep s (C3e TEdge.left es xs t k) (A1e es ys t k)
 |0=>Rep.zero
 |k+1=>by
  unfold C3e A1e
  split
  ·exact Rep.add hs (C0r hs hx k) (hx.2 _)
  exact C0r hs hx k
theorem B7z {s:A2c} {es:List TEdge} {xs:List LF} {ys:List TRat} {t:Int} (hs:SrcIn s) (hx:RepL s xs ys):∀ k,Rep s (C3e TEdge.right es xs t k) (A1i es ys t k)
 |0=>Rep.zero
 |k+1=>by
  unfold C3e A1i
  split
  ·exact Rep.add hs (B7z hs hx k) (hx.2 _)
  exact B7z hs hx k
theorem E4d {s:A2c} {es:List TEdge} {xs:List LF} {ys:List TRat} {t:Int} (hs:SrcIn s) (hx:RepL s xs ys):Rep s (E9j es xs t) (D1y es ys t):=Rep.sub hs (C0r hs hx _) (B7z hs hx _)
theorem E1e {s:A2c} {p:TProblem} {fl:List LF} {t:TTri} (hs:SrcIn s) (hf:RepL s fl p.3):Rep s (E3o p.1.1 fl t) (B7d p t):=Rep.scale' hs (hf.2 _)
theorem E1l {s:A2c} {p:TProblem} {ks:List TRat} {ul:List LF} {us:List TRat} {t:TTri} (b:SrcIn s) (h:kC ks t=B4w p t) (u:RepL s ul us):RepP s (D9j p.1.1 ks ul t) (B2e p us t):=by
 unfold D9j;rw[h];exact RepP.scale b (D2k b u)
theorem E6f {r:TRat} (h:J_ r=true):D0y r=C3m r:=by unfold D0y C3m;rw[h];rfl
theorem C1o {s:A2c} {es:List TEdge} {xs:List LF} {ys:List TRat} {k a b:Int} (D:SrcIn s) (E:RepL s xs ys):Rep s (D4b es xs k a b) (B4m es ys k a b):=by
 unfold D4b B4m;split;·exact E.2 _
 intro u;have h:=E.2 (A3z es (A2i a b));rw[E6f (h.val D (A9j u).1)];exact Rep.neg D h u
theorem D5z {s:A2c} {es:List TEdge} {xs:List LF} {ys:List TRat} {k:Int} {t:TTri} (hs:SrcIn s) (hx:RepL s xs ys):RepL s (D3b es xs k t) (A7o es ys k t) :=
 ((RepL.nil.push (C1o hs hx)).push (C1o hs hx)).push (C1o hs hx)
theorem C9i {s:A2c} {l:List TPoint} {xs:List LF} {ys:List TRat} {z:TPoint} (hs:SrcIn s) (hx:RepL s xs ys):∀ k,RepP s (E5h l xs z k) (A3l l ys z k)
 |0=>RepP.zero
 |k+1=>RepP.add hs (C9i hs hx k) (RepP.con hs (hx.2 _))
theorem E4x {s:A2c} {a b c:TPoint} {xs:List LF} {ys:List TRat} {z:TPoint} (hs:SrcIn s) (hx:RepL s xs ys):RepP s (E8v a b c xs z) (A2q a b c ys z):=RepP.scale hs (C9i hs hx 3)
structure Ov (M u:Int) (r:TRat):Prop where
 m0:0<M
 m1:M<10 ^ 45
 u0:-(10 ^ 100)<u
 u1:u<10 ^ 100
 is:r=toR ⟨u,M⟩
theorem E6n {n d:Int} (b:0<d) (D:d<10 ^ 190) (E:-(10 ^ 190)<n) (G:n<10 ^ 190):(Q.ok ⟨n,d⟩)=true:=by
 have H:=E9g;refine Q.ok_iff.2 ⟨b,?_,?_,?_⟩<;>(show _<_)<;>dsimp only<;>(generalize (10:Int) ^ 200=h at *;generalize (10:Int) ^ 190=u at *;omega)
theorem B2p {a b A B:Int} (u:-A<a) (D:a<A) (E:-B<b) (G:b<B):-(A*B)<a*b/\a*b<A*B:=by
 have h:(a*b).natAbs<(A*B).natAbs:=by rw[Int.natAbs_mul,Int.natAbs_mul];exact Nat.mul_lt_mul'' oM oM
 have H:0<=A*B:=Int.mul_nonneg oM oM;omega
theorem Ov.ok {M u:Int} {r:TRat} (h:Ov M u r):(Q.ok ⟨u,M⟩)=true:=by
 have H:=h.m1;have I:=h.u0;have J:=h.u1;have E:(10:Int) ^ 45<10 ^ 190:=dK;have G:(10:Int) ^ 100<10 ^ 190:=dK;exact E6n h.m0 (by generalize (10:Int) ^ 45=b at *;generalize (10:Int) ^ 190=D at *;omega) (by generalize (10:Int) ^ 100=b at *;generalize (10:Int) ^ 190=D at *;omega) (by generalize (10:Int) ^ 100=b at *;generalize (10:Int) ^ 190=D at *;omega)
theorem Ov.val {M u:Int} {r:TRat} (h:Ov M u r):J_ r=true:=by rw[h.is];exact A8q h.ok
theorem Ov.sign {M u:Int} {r:TRat} (h:Ov M u r):A9m r=sgn u:=by rw[h.is];exact D4z h.ok
theorem Ov.cong {M u b D:Int} {r:TRat} (h:Ov M u r) (E:0<b) (m1:b<10 ^ 45) (u0:-(10 ^ 100)<D) (u1:D<10 ^ 100) (e:u*b=D*M):Ov b D r:=by
 have G:Ov b D (toR ⟨D,b⟩):=⟨E,m1,u0,u1,rfl⟩
 refine⟨E,m1,u0,u1,?_⟩;rw[h.is];exact B7t h.ok G.ok (decide_eq_true e)
theorem Ov.add {M u v:Int} {r q:TRat} (b:Ov M u r) (E:Ov M v q) (u0:-(10 ^ 100)<u+v) (u1:u+v<10 ^ 100):Ov M (u+v) (A0k r q):=by
 refine⟨b.m0,b.m1,u0,u1,?_⟩;have J:Ov M (u+v) (toR ⟨u+v,M⟩):=⟨b.m0,b.m1,u0,u1,rfl⟩
 have G:(E0z ⟨u,M⟩ ⟨v,M⟩).ok=true:=by
  have a:=B2p u0 u1 (by have:=b.m0;have:(0:Int)<10 ^ 45:=dK;omega:-(10 ^ 45)<M) b.m1;have H:=B2p (by have:=b.m0;have:(0:Int)<10 ^ 45:=dK;omega:-(10 ^ 45)<M) b.m1 (by have:=b.m0;have:(0:Int)<10 ^ 45:=dK;omega:-(10 ^ 45)<M) b.m1;have h:(10:Int) ^ 100*10 ^ 45<10 ^ 190:=dK;have I:(10:Int) ^ 45*10 ^ 45<10 ^ 190:=dK;have D:u*M+v*M=(u+v)*M:=by grind
  refine E6n (Int.mul_pos b.m0 b.m0) (Int.lt_trans H.2 I) ?_ ?_;·show _<u*M+v*M;rw[D];exact Int.lt_trans (Int.neg_lt_neg h) a.1
  show u*M+v*M<_;rw[D];exact Int.lt_trans a.2 h
 rw[b.is,E.is,D9b b.ok E.ok G];refine B7t G J.ok (decide_eq_true ?_);show(u*M+v*M)*M=(u+v)*(M*M);grind
theorem Ov.mul {M u N v P t:Int} {r q:TRat} (b:Ov M u r) (h:Ov N v q) (E:0<P) (m1:P<10 ^ 45) (u0:-(10 ^ 100)<t) (u1:t<10 ^ 100) (a0:-(10 ^ 190)<u*v) (G:u*v<10 ^ 190) (e:u*v*P=t*(M*N)):Ov P t (A0d r q):=by
 have J:Ov P t (toR ⟨t,P⟩):=⟨E,m1,u0,u1,rfl⟩
 refine⟨E,m1,u0,u1,?_⟩;have K:=b.m0;have O:=h.m0;have H:=B2p (by have:(0:Int)<10 ^ 45:=dK;omega:-(10 ^ 45)<M) b.m1 (by have:(0:Int)<10 ^ 45:=dK;omega:-(10 ^ 45)<N) h.m1;have I:(10:Int) ^ 45*10 ^ 45<10 ^ 190:=dK;have D:(C0q ⟨u,M⟩ ⟨v,N⟩).ok=true:=E6n (Int.mul_pos K O) (Int.lt_trans H.2 I) a0 G;rw[b.is,h.is,C3v b.ok h.ok D];exact B7t D J.ok (decide_eq_true e)
theorem Ov.div {M u N v P t:Int} {r q:TRat} (b:Ov M u r) (h:Ov N v q) (E:0<v) (G:0<P) (m1:P<10 ^ 45) (u0:-(10 ^ 100)<t) (u1:t<10 ^ 100) (a0:-(10 ^ 190)<u*N) (H:u*N<10 ^ 190) (e:u*N*P=t*(M*v)):Ov P t (A3u r q):=by
 have K:Ov P t (toR ⟨t,P⟩):=⟨G,m1,u0,u1,rfl⟩
 refine⟨G,m1,u0,u1,?_⟩;have O:=b.m0;have I:=B2p (by have:(0:Int)<10 ^ 45:=dK;omega:-(10 ^ 45)<M) b.m1 h.u0 h.u1;have J:(10:Int) ^ 45*10 ^ 100<10 ^ 190:=dK;have D:(C0q ⟨u,M⟩ (D6g ⟨v,N⟩)).ok=true:=E6n (Int.mul_pos O E) (Int.lt_trans I.2 J) a0 H;rw[b.is,h.is,E0d b.ok h.ok E D];exact B7t D K.ok (decide_eq_true e)
theorem Ov.int {n:Int} (h0:-1000000<n) (h1:n<1000000):Ov 1 n (U_ n) :=
 ⟨dE,dK,by have:(1000000:Int)<10 ^ 100:=dK;omega,by have:(1000000:Int)<10 ^ 100:=dK;omega,B9z h0 h1⟩
theorem Ov.con {k:TRat} (h:J_ k=true) (m1:T_ k<10 ^ 45) (u0:-(10 ^ 100)<R_ k) (u1:R_ k<10 ^ 100):Ov (T_ k) (R_ k) k :=
 ⟨(ratOkB_iff.1 h).den0,m1,u0,u1,(C4c h).symm⟩
def C9h (n:Int):Bool:=Nat.ble n.natAbs 999999999999999
def E2a (D:Int) (l:LF):Bool:=(decide (l.d*(D / l.d)=D)&&C9h (D / l.d))&&(decide (0<D / l.d)&&(C9h l.a&&(C9h l.b&&(C9h l.c&&l.ok))))
def E5n (D:Int) (P:LP):Bool:=E2a D P.1&&E2a D P.2
theorem E3q {n:Int}:C9h n=true↔-(10 ^ 15)<n/\n<10 ^ 15:=by
 unfold C9h;have e:(10:Int) ^ 15=1000000000000000:=dK;rw[e];constructor;·intro h;have:=Nat.le_of_ble_eq_true h;omega
 intro h;exact Nat.ble_eq_true_of_le oM
theorem E2t {s:A2c} {b:Int} {l:LF} {r:TRat} (u:SrcIn s) (ad:0<b) (ae:b<10 ^ 15) (h:Rep s l r) (E:E2a b l=true):∃ X,(-(10 ^ 31)<X/\X<10 ^ 31)/\Ov b X r:=by
 unfold E2a at E;simp only[Bool.and_eq_true,decide_eq_true_eq,E3q]at E;obtain⟨⟨e,ab,ac⟩,ag,⟨a0,T⟩,⟨W,b1⟩,⟨Y,Z⟩,S⟩:=E;have ah:=B0z a0 T u.a0 u.a1;have ai:=B0z W b1 u.b0 u.b1;have aj:=B0z Y Z u.c0 u.c1;have O:-(9*10 ^ 15)<(l.at s).n/\(l.at s).n<9*10 ^ 15:=by unfold LF.at;show _<l.a*s.1+(l.b*s.2.1+l.c*s.2.2)/\l.a*s.1+(l.b*s.2.1+l.c*s.2.2)<_;generalize l.a*s.1=ak at *;generalize l.b*s.2.1=v at *;generalize l.c*s.2.2=t at *;generalize (10:Int) ^ 15=af at *;omega
 have K:=B2p O.1 O.2 ab ac;have H:(9:Int)*10 ^ 15*10 ^ 15<10 ^ 31:=dK;have I:-(10 ^ 31)<(l.at s).n*(b / l.d):=Int.lt_trans (Int.neg_lt_neg H) K.1;have J:(l.at s).n*(b / l.d)<10 ^ 31:=Int.lt_trans K.2 H;have G:(10:Int) ^ 31<10 ^ 100:=dK;have aa:(10:Int) ^ 15<10 ^ 45:=dK;have D:Ov b ((l.at s).n*(b / l.d)) (toR ⟨(l.at s).n*(b / l.d),b⟩):=⟨ad,Int.lt_trans ae aa,Int.lt_trans (Int.neg_lt_neg G) I,Int.lt_trans J G,rfl⟩
 refine⟨_,⟨I,J⟩,D.m0,D.m1,D.u0,D.u1,?_⟩;rw[h S];refine B7t (LF.at_ok S u) D.ok (decide_eq_true ?_);show(l.at s).n*b=(l.at s).n*(b / l.d)*l.d;conv=>lhs;rw[<-e]
 grind
theorem E9u {b X u:Int} {p:TPoint} (K:0<b) (O:b<10 ^ 15) (E:-(10 ^ 31)<X/\X<10 ^ 31) (G:-(10 ^ 31)<u/\u<10 ^ 31) (I:Ov b X p.x) (J:Ov b u p.y):∃ S,(0<=S/\S<2*10 ^ 62)/\Ov (b*b) S (A1k p p):=by
 have ac:=B2p E.1 E.2 E.1 E.2;have ad:=B2p G.1 G.2 G.1 G.2;have Z:(10:Int) ^ 31*10 ^ 31=10 ^ 62:=dK;rw[Z]at ac ad;have ag:0<=X*X:=by rcases Int.le_total 0 X with h|h;exact Int.mul_nonneg h h;exact Int.mul_nonneg_of_nonpos_of_nonpos h h
 have ah:0<=u*u:=by rcases Int.le_total 0 u with h|h;exact Int.mul_nonneg h h;exact Int.mul_nonneg_of_nonpos_of_nonpos h h
 have T:0<b*b:=Int.mul_pos K K;have W:=B2p (by have:(0:Int)<10 ^ 15:=dK;omega:-(10 ^ 15)<b) O (by have:(0:Int)<10 ^ 15:=dK;omega:-(10 ^ 15)<b) O;have Y:(10:Int) ^ 15*10 ^ 15<10 ^ 45:=dK;have H:=Int.lt_trans W.2 Y;have ae:2*(10:Int) ^ 62<10 ^ 100:=dK;have af:2*(10:Int) ^ 62<10 ^ 190:=dK;have aa:=I.mul I (P:=b*b) (t:=X*X) T H (by generalize (10:Int) ^ 62=S at *;generalize (10:Int) ^ 100=D at *;omega) (by generalize (10:Int) ^ 62=S at *;generalize (10:Int) ^ 100=D at *;omega) (by generalize (10:Int) ^ 62=S at *;generalize (10:Int) ^ 190=D at *;omega) (by generalize (10:Int) ^ 62=S at *;generalize (10:Int) ^ 190=D at *;omega) rfl;have ab:=J.mul J (P:=b*b) (t:=u*u) T H (by generalize (10:Int) ^ 62=S at *;generalize (10:Int) ^ 100=D at *;omega) (by generalize (10:Int) ^ 62=S at *;generalize (10:Int) ^ 100=D at *;omega) (by generalize (10:Int) ^ 62=S at *;generalize (10:Int) ^ 190=D at *;omega) (by generalize (10:Int) ^ 62=S at *;generalize (10:Int) ^ 190=D at *;omega) rfl;exact⟨X*X+u*u,by generalize (10:Int) ^ 62=S at *;omega,aa.add ab (by generalize (10:Int) ^ 62=S at *;generalize (10:Int) ^ 100=D at *;omega) (by generalize (10:Int) ^ 62=S at *;generalize (10:Int) ^ 100=D at *;omega)⟩
def C4m (e:TEdge):Bool:=decide (e.left<0) || decide (e.right<0)
def B2v (n:Nat) (es:List TEdge):Nat->List Bool
 |0=>List.replicate n false
 |k+1=>if C4m (es.getD k A4o)then((B2v n es k).set (es.getD k A4o).a.toNat true).set (es.getD k A4o).b.toNat true else B2v n es k
theorem B8z (n:Nat) (es:List TEdge):∀ k,(B2v n es k).length=n
 |0=>by simp[B2v]
 |k+1=>by rw[B2v];split<;>simp[B8z n es k]
def A3k (fs:List Bool) (bd:Bool):Nat->List Int
 |0=>[]
 |k+1=>if fs.getD k false=bd then A3k fs bd k++[(k:Int)]else A3k fs bd k
def A3f (m:TMesh) (bd:Bool):List Int:=A3k (B2v m.1.length (P_ m.triangles) (P_ m.triangles).length) bd m.1.length
theorem B7x (fs:List Bool) (bd:Bool):∀ k,(A3k fs bd k).length<=k
 |0=>Nat.le_refl _
 |k+1=>by rw[A3k];have:=B7x fs bd k;split<;>simp<;>omega
def B8e (m:TMesh):Prop:=∀ e∈P_ m.triangles,(0<=e.a/\e.a<m.1.length)/\(0<=e.b/\e.b<m.1.length)
theorem B6y (v:Value) (m:TMesh) (b:List Nat) (u:Bool) (w:World) (ap:Agg w v m b) (aJ:m.1.length<=40) (aK:m.triangles.length<=48) (aN:B8e m) :
  Calls prog 207 #[v,.bool u] w (A0w w (A3f m u)):=by
 have a9:=A_ ap;have a2:=A_ aK;obtain⟨ag,h,aj,b7,ah,n1,ak,b8,rfl,rfl,af,bn⟩:=TMesh.agg ap;have a6:=A_ af.1;have bU:h<=40:=by rw[<-af.1];exact aJ
 have bT:(h:Int)<=40:=oM;have aD:=A_ (by rw[<-af.1];exact aN:∀ e∈P_ m.triangles,(0<=e.a/\e.a<h)/\(0<=e.b/\e.b<h));have aS:(P_ m.triangles).length<=144:=by unfold P_;have:=A5z m.triangles m.triangles.length;omega
 obtain⟨aV,bl,bp,bq,br⟩:=info_parts D1p;obtain⟨bs,bd,be,bf,bg⟩:=info_parts A6b;have b2:=A_ (by rw[br];omega:aV.bytes*h<=281474976710656);have ba:=A_ (by unfold maxLen;omega:h<=maxLen);obtain⟨D,aa⟩:∃ D,P_ m.triangles=D:=⟨_,rfl⟩
 have a5:=A_ aa;rw[aa]at aD aS;have a1:=A_ (by unfold A3f;rw[aa,a6.o]:A3f m u=A3k (B2v h D D.length) u h);clear af bn ap aJ aK aN aa;go_enter func207,ntmps207;go_upto_region 1 with fail;have bo:w.1.size<=(w.alloc (.cells #[.slice ag h aj,.slice ah n1 ak] 26)).1.size:=sI;go_upto_region 2 with(at_make;(refine wpList_make_full _ rfl _ _ 129 rfl w.1.size 4 aV (.bool false) 1 underlying129 bl bp bq .i64 .i64 _ _ h rfl rfl rfl rfl b2 ba bo ?_);intro O ae aO)
 rw[B6q]at ae;rw[World.size_alloc]at ae;have W:=(Below.refl (w.1.size+1) (w.alloc (.cells #[.slice ag h aj,.slice ah n1 ak] 26))).grown aO sI (by intro k ad;cases ad);have ar:=A_ (show BRow O w.1.size (w.1.size+1) h (B2v h D 0)from ae);have aA:=A_ (show Bw w O from(Below.box _).trans (W.mono oM));have bt:O.cell? ⟨w.1.size,0,none⟩=some (.slice ag h aj):=(W.cell (p:=⟨w.1.size,0,none⟩) (Nat.lt_succ_self _)).trans gS;have k1:O.cell? ⟨w.1.size,1,none⟩=some (.slice ah n1 ak):=(W.cell (p:=⟨w.1.size,1,none⟩) (Nat.lt_succ_self _)).trans gS;have b4:w.1.size+1<O.1.size:=ar.lt;have b5:w.1.size<O.1.size:=oM;clear ae aO W;go_wp2_with fail;refine(A7q _ m _ O (a9.below aA) a2).mono ?_;rintro _ cd ⟨aZ,G,bc,aI,rfl,Y,aT,al⟩;rw[a5.o]at Y;have H:=A_ Y;have a7:=A_ Y.1;have bX:G<=144:=by rw[<-Y.1];exact aS
 have bY:(G:Int)<=144:=oM;have a4:=A_ (show w.1.size+1∉aI from λT=>by have:=(aT.2 _ T).1;omega);have a3:=A_ (Below.next aA al);have au:=A_ (ar.below al);clear Y aT al bt k1;go_wp2_with fail;go_loopg [18] G (λg s wr=>∃ k:Nat,k+g=G/\s=.int .i64 k/\Hid (BRow wr w.1.size (w.1.size+1) h (B2v h D k))/\Hid (Sl wr aZ G bc D aI)/\Bw w wr);case atStart=>exact⟨0,oM,rfl,au.o,H.o,a3.o⟩
 case round =>
  clear au H;obtain⟨k,ad,rfl,J,H,hb⟩:=hrel;have Z:=A_ hb;have bR:=J.lt;rcases Nat.lt_or_ge k G with X|X
  ·have bP:(k:Int)<G:=oM
   have bQ:(0:Int)<=k:=oM;obtain⟨g,rfl⟩:∃ g,gk=g+1:=⟨gk - 1,oM⟩
   have ao:=A_ (by omega:k+1+g=G);have bO:k+1<=G:=X;obtain⟨bz,b6,x,rfl,bJ,aq,bA,bB,bD,bE,bi⟩:=TEdge.elemA H X;obtain⟨⟨bG,bH⟩,⟨bI,W⟩⟩:=aD x (List.mem_of_getElem? aq);have ay:=A_ (show D.getD k A4o=x from A0e aq);clear ad X aq bi hb;by_cases K:C4m x=true
   ·have I:=A_ (by rw[B2v,ay.o,if_pos K]:B2v h D (k+1)=((B2v h D k).set x.a.toNat true).set x.b.toNat true)
    obtain⟨b9,cb⟩:=J.cell (j:=x.a.toNat) (f:=(B2v h D k).getD x.a.toNat false) (by rw[List.getD_eq_getElem?_getD,List.getElem?_eq_getElem (by rw[B8z];omega)];rfl);obtain⟨ca,cc⟩:=(J.set x.a.toNat true).cell (j:=x.b.toNat) (f:=((B2v h D k).set x.a.toNat true).getD x.b.toNat false) (by rw[List.getD_eq_getElem?_getD,List.getElem?_eq_getElem (by simp[B8z];omega)];rfl);have b3:=Z.size;have bV:wr.1.size≠w.1.size+1:=oM;have bW:w.1.size+1≠wr.1.size:=oM;have ax:=A_ (by rw[I.o];exact(J.set _ _).set _ _:BRow ((wr.setCell ⟨w.1.size+1,x.a.toNat,none⟩ (.bool true)).setCell ⟨w.1.size+1,x.b.toNat,none⟩ (.bool true)) w.1.size (w.1.size+1) h (B2v h D (k+1)));have aG:=A_ (H.keep (w':=(wr.setCell ⟨w.1.size+1,x.a.toNat,none⟩ (.bool true)).setCell ⟨w.1.size+1,x.b.toNat,none⟩ (.bool true)) (λb hb=>by have aM:b≠w.1.size+1:=λe=>a4.o (e ▸ hb);exact(Below.heap_setCell _ _ _ b (by simpa using aM)).trans (Below.heap_setCell _ _ _ b (by simpa using aM))));have aB:=A_ (show Bw w ((wr.setCell ⟨w.1.size+1,x.a.toNat,none⟩ (.bool true)).setCell ⟨w.1.size+1,x.b.toNat,none⟩ (.bool true))from(Z.setCell (p:=⟨w.1.size+1,x.a.toNat,none⟩) (Nat.le_succ _) _).setCell (p:=⟨w.1.size+1,x.b.toNat,none⟩) (Nat.le_succ _) _);clear J;rcases Int.lt_or_le x.left 0 with aL|aL
    ·clear H
     go_wp2_with fail;go_region_held3 (λw'=>w'.cell? ⟨wr.1.size,0,none⟩=some (.int .i64 x.a)/\w'.cell? ⟨wr.1.size,1,none⟩=some (.int .i64 x.b)) (constructor<;>(go_simp;done)) (fail);all_goals go_wp2_with fail
     go_roundg g;case measure=>omega
     case rel=>exact⟨k+1,ao,gN,ax.below (Below.drew (Below.box _)),aG.below (Below.drew (Below.box _)),Below.next aB (Below.drew (Below.box _))⟩
    have bh:x.right<0:=by unfold C4m at K;simp at K;omega
    have bF:¬ (x.left<0):=oM;clear H;go_wp2_with fail;go_region_held3 (λw'=>w'.cell? ⟨wr.1.size,0,none⟩=some (.int .i64 x.a)/\w'.cell? ⟨wr.1.size,1,none⟩=some (.int .i64 x.b)) (constructor<;>(go_simp;done)) (fail);all_goals go_wp2_with fail
    go_roundg g;case measure=>omega
    case rel=>exact⟨k+1,ao,gN,ax.below (Below.drew (Below.box _)),aG.below (Below.drew (Below.box _)),Below.next aB (Below.drew (Below.box _))⟩
   have I:=A_ (by rw[B2v,ay.o,if_neg K]:B2v h D (k+1)=B2v h D k);have aL:¬ (x.left<0):=by intro T;apply K;unfold C4m;simp[T]
   have bh:¬ (x.right<0):=by intro T;apply K;unfold C4m;simp[T]
   clear K;go_wp2_with fail;go_roundg g;case measure=>omega
   case rel=>exact⟨k+1,ao.o,gN,(by rw[I.o];exact J.below (Below.box _):BRow _ w.1.size (w.1.size+1) h (B2v h D (k+1))),H.below (Below.box _),Below.next Z (Below.box _)⟩
  obtain rfl:k=G:=oM;have aR:¬ ((k:Int)<k):=oM;rw[<-a7.o]at J;have ai:=A_ J.o;generalize an:B2v h D D.length=E at *;have bv:=A_ an;have bL:E.length=h:=by rw[<-an,B8z]
  clear ad X H J an;go_wp2_with fail;have aF:=A_ (Pend.start (α:=Int) (e:=3) Z);have ai:=ai;go_loopg [8,42] h (λg s8 s w4=>∃ (i gB cap:Nat),i+g=h/\s=.int .i64 i/\s8=.slice (some ⟨gB,0,none⟩) (A3k E u i).length cap/\Hid (Pend w wr 3 w4 gB (A3k E u i).length cap (A3k E u i)));case atStart=>exact⟨0,wr.1.size,0,oM,rfl,rfl,aF.o⟩
  case round =>
   clear aF;obtain⟨i,gB,cap,aQ,rfl,rfl,S⟩:=hrel;have aC:=A_ S.bb;have b0:=aC.size;rename World=>w4;have aw:=A_ (ai.below aC);rcases Nat.lt_or_ge i h with ac|ac
   ·have aR:(i:Int)<h:=oM
    have bM:(0:Int)<=i:=oM;obtain⟨g,rfl⟩:∃ g,gk=g+1:=⟨gk - 1,oM⟩
    have aP:=A_ (by omega:i+1+g=h);have bN:i+1<=h:=ac;have bZ:=B7x E u i;have aX:=A_ (by unfold maxLen;omega:(A3k E u i).length+1<=maxLen);have aY:=A_ (by omega:((A3k E u i).length+1)*8<=140737488355328);obtain⟨f,am⟩:∃ f,E[i]?=some f:=⟨_,List.getElem?_eq_getElem oM⟩
    have bK:=(aw.cell am).1;have bS:=aw.lt;have az:=A_ (A0e (d:=false) am);clear aQ ac am;by_cases ab:f=u
    ·have I:=A_ (by rw[A3k,az.o,if_pos ab]:A3k E u (i+1)=A3k E u i++[(i:Int)])
     have aE:=A_ (by rw[I.o];simp:(A3k E u (i+1)).length=(A3k E u i).length+1);subst ab;have bj:(f==f)=true:=sI;have aW:=A_ (show Dat.at_ (α:=Int) (w4.alloc (.cells #[.int .i64 i] 3)) [.int .i64 i] (i:Int) []from⟨rfl,rfl,by constructor<;>omega⟩);go_wp2_with (at_builtin;refine A1v rfl _ _ 31 rfl 3 bs (.int .i64 0) 8 underlying31 bd be bf bg rfl S (Below.box _) gD ⟨w4.1.size,0,none⟩ 1 [.int .i64 i] (i:Int) [] gD (A0a (heap_alloc_new w4 _)) aW.o ⟨List.nodup_nil,λb hb=>by simp at hb⟩ (λb hb=>by simp at hb) aX.o aY.o ?_;intro g' aH bu aU bk bm);have a8:=A_ (by rw[aE.o,I.o];exact aU:Pend w wr 3 bu g' (A3k E f (i+1)).length aH (A3k E f (i+1)));clear aU bk bm S;go_wp2_with fail;go_roundg g;case measure=>omega
     case rel=>exact⟨i+1,g',aH,aP.o,gN,by rw[aE.o],a8⟩
    have I:=A_ (by rw[A3k,az.o,if_neg ab]:A3k E u (i+1)=A3k E u i);have bj:(f==u)=false:=by simp[ab]
    go_wp2_with fail;go_roundg g;case measure=>omega
    case rel=>exact⟨i+1,gB,cap,aP.o,gN,by rw[I.o],by rw[I.o];exact S⟩
   obtain rfl:i=h:=oM;have aR:¬ ((i:Int)<i):=oM;clear aQ ac;go_wp2;go_ret;rw[a1.o];exact S.done

theorem A3g {w:World} {g i:Nat} {cs:Array Value} {t:TypeId} {v:Value} (h:w.1[g]?=some (.cells cs t)):(w.setCell ⟨g,i,none⟩ v).1[g]?=some (.cells (cs.setIfInBounds i v) t):=by
 unfold World.setCell;simp[Array.getElem?_modify,h]
theorem D1j {w wa:World} {g L:Nat} {u0 u1 u2:Value} {t:TypeId} (v0 v1 v2:Value) (h:wa.1[g]?=some (.cells #[u0,u1,u2] t)) (hw:Below L w wa) (hg:L<=g) :
  ∃ X,((wa.setCell ⟨g,0,none⟩ v0).setCell ⟨g,1,none⟩ v1).setCell ⟨g,2,none⟩ v2=X/\X.1[g]?=some (.cells #[v0,v1,v2] t)/\(∀ b,b≠g->X.1[b]?=wa.1[b]?)/\Below L w X/\X.1.size=wa.1.size :=
 ⟨_,rfl,A3g (A3g (A3g h)),λb hb=>A0m g [v0,v1,v2] wa 0 b hb,((hw.setCell (p:=⟨g,0,none⟩) hg _).setCell (p:=⟨g,1,none⟩) hg _).setCell (p:=⟨g,2,none⟩) hg _,A7d g [v0,v1,v2] wa 0⟩
theorem D6m {w wa:World} {g L:Nat} {u0 u1 u2 u3 u4 u5:Value} {t:TypeId} (v0 v1 v2 v3 v4 v5:Value) (h:wa.1[g]?=some (.cells #[u0,u1,u2,u3,u4,u5] t)) (hw:Below L w wa) (hg:L<=g) :
  ∃ X,(((((wa.setCell ⟨g,0,none⟩ v0).setCell ⟨g,1,none⟩ v1).setCell ⟨g,2,none⟩ v2).setCell ⟨g,3,none⟩ v3).setCell ⟨g,4,none⟩ v4).setCell ⟨g,5,none⟩ v5=X/\X.1[g]?=some (.cells #[v0,v1,v2,v3,v4,v5] t)/\(∀ b,b≠g->X.1[b]?=wa.1[b]?)/\Below L w X/\X.1.size=wa.1.size :=
 ⟨_,rfl,A3g (A3g (A3g (A3g (A3g (A3g h))))),λb hb=>A0m g [v0,v1,v2,v3,v4,v5] wa 0 b hb,(((((hw.setCell (p:=⟨g,0,none⟩) hg _).setCell (p:=⟨g,1,none⟩) hg _).setCell (p:=⟨g,2,none⟩) hg _).setCell (p:=⟨g,3,none⟩) hg _).setCell (p:=⟨g,4,none⟩) hg _).setCell (p:=⟨g,5,none⟩) hg _,A7d g [v0,v1,v2,v3,v4,v5] wa 0⟩
end Go.Proofs.YtbhemnidcleaiaaGreat.X
