/- A part of the proof. -/
import Derived.Test.YtbkilakncnlebaaGreatDoorY15
import Derived.Deep.RegionHeld3
set_option linter.constructorNameAsVariable false
set_option maxHeartbeats 16000000
set_option maxRecDepth 10000
open Array renaming getElem?_eq_getElem→MW
open Bool renaming and_eq_true→CK,false→AF,true→AD
open Go renaming Addr→AH,Calls→AR,Value→AJ,World→J,bodyPost_ret→BI,heap_alloc_new→CF,maxLen→BG,results→BO
open Go.IntKind renaming i64→QO,wrap_i64→MT
open Go.Obj renaming cells→AK
open Go.Value renaming agg→AM,bool→AC,int→QS,slice→QH
open Go.World renaming size_alloc→EW
open Go.XB.Below renaming box→AV,next→AI
open Go.XB.MP renaming agg→BP
open Go.XB.TPoint renaming agg→DN,elemA→FC
open Go.XB.TRat renaming agg→BK,mkAgg→CU
open Int renaming lt_trans→KH,mul_nonneg→IP,mul_nonneg_of_nonpos_of_nonpos→QD,mul_pos→FX
open List renaming all_eq_true→BJ,dropLast→DJ,getD_eq_getElem?_getD→DY,getElem?_eq_getElem→CV,getLast→DK,length→DI,length_append→EF,mem_append→CO,mem_of_getElem?→CH,replicate→CJ
open Nat renaming le_refl→BH,le_succ→JU,le_trans→BM,lt_or_ge→BN
open Option renaming none→I,some→QL
namespace Go.XB
open Go.RowKit
def MP.eqS {α:Type} [Dat α] (v:AJ) (x:α):MP:=⟨λu bs w=>u=v/\bs=[]/\∃ s,Agg w u x s,λu bs w w' hb h=>by
 obtain⟨h1,h2,s,hs⟩:=h;exact⟨h1,h2,s,hs.below hb⟩⟩
end Go.XB
namespace Go.Proofs.YtbkilakncnlebaaGreatDoor.X
open Go.RowKit Go.XB Go.XN Proofs.Tryz
def c3 (a b c:TPoint) (i:Nat):TPoint:=[a,b,c].getD (i % 3) pt0
def C9m (a b c:TPoint) (i:Nat):TPoint:=⟨A3t (c3 a b c (i+1)).y (c3 a b c (i+2)).y,A3t (c3 a b c (i+2)).x (c3 a b c (i+1)).x⟩
def A5w (a b c:TPoint) (i:Nat):TPoint:=⟨A3u (C9m a b c i).x (A2y a b c),A3u (C9m a b c i).y (A2y a b c)⟩
def C0j (a b c:TPoint):Nat->List TPoint
 |0=>[]
 |k+1=>C0j a b c k++[A5w a b c k]
def C5e (a b c:TPoint):List TPoint:=C0j a b c 3
theorem B8g (a b c:TPoint):∀ k,(C0j a b c k).length=k
 |0=>rfl
 |k+1=>by rw[C0j,EF,B8g a b c k];rfl
theorem E4q {w:J} {y:TPoint} {u0 u1 u2 u u4 D:AJ} {b:List Nat} (h:Agg w (AM #[u0,u1,u2,u,u4,D]) y b):Dat.at_ w [u0,u1,u2,u,u4,D] y b:=by
 obtain⟨E,O,H⟩:=h;have G:E=[u0,u1,u2,u,u4,D]:=by have:=congrArg (λv=>match v with | .agg c=>c.toList|_=>[]) O;simpa using this.symm
 rw[<-G];exact H
theorem ptX {w:J} {x:TPoint} {u0 u1 u2 G u4 H:AJ} {b:List Nat} (h:Agg w (AM #[u0,u1,u2,G,u4,H]) x b):∃ b1,Agg w (AM #[u0,u1,u2]) x.x b1/\∀ g∈b1,g∈b:=by
 obtain⟨O,ae,Y,ai,T,af,Z,aj,W,ag,aa,ak,X,ah,ab,al,e,rfl,D,E,ac,ad⟩:=DN h;injection e with e;simp at e;obtain⟨rfl,rfl,rfl,_⟩:=e;exact⟨_,CU D E,λg u=>by simp at u ⊢;rcases u with h|h<;>simp[h]⟩
theorem ptY {w:J} {x:TPoint} {u0 u1 u2 D u4 E:AJ} {b:List Nat} (h:Agg w (AM #[u0,u1,u2,D,u4,E]) x b):∃ b1,Agg w (AM #[D,u4,E]) x.y b1/\∀ g∈b1,g∈b:=by
 obtain⟨O,ae,Y,ai,T,af,Z,aj,W,ag,aa,ak,X,ah,ab,al,e,rfl,ac,ad,G,H⟩:=DN h;injection e with e;simp at e;obtain⟨_,_,_,rfl,rfl,rfl⟩:=e;exact⟨_,CU G H,λg u=>by simp at u ⊢;rcases u with h|h<;>simp[h]⟩
theorem D9f {p q:TRat} (h:A1b ⟨p,q⟩=AD):J_ p=AD:=by
 unfold A1b at h;simp at h;exact h.1
theorem D9q {p q:TRat} (h:A1b ⟨p,q⟩=AD):J_ q=AD:=by
 unfold A1b at h;simp at h;exact h.2
theorem C6v {p:TRat} (h:J_ p=AD):(!p.den.isEmpty)=AD:=by
 have:=(ratOkB_iff.1 h).den0;cases b:p.2 with
 |nil=>rw[b]at this;exact absurd this dE
 |cons a l=>rfl
structure GradOk (a b c:TPoint):Prop where
 pr:A7m [a,b,c]=AD
 d:J_ (A2y a b c)=AD
 d0:(A2y a b c).1.2≠[]
 s:∀ i,i<3->A1b (C9m a b c i)=AD
 g:∀ i,i<3->A1b (A5w a b c i)=AD
attribute [local go_sem] L_ Go.XB.opAt N_ M_ Region.wanted yielded
attribute [local simp] N_ M_ MP.eq MP.agg MP.sl MP.slbox MP.box MP.eqS A0r
theorem B1l (A:Option AH) (c:Nat) (h b1 u:TPoint) (bs:List Nat) (w:J) (b5:Sl w A 3 c [h,b1,u] bs) (bP:GradOk h b1 u) :
  AR prog 253 #[QH A 3 c] w (A0w w (C5e h b1 u)):=by
 have aa:=A_ b5;have Y:=A_ bP;obtain⟨aq,ds,d4,P1,e8,eh,p1,P2,e9,ei,p2,dT,fa,ej,fp,dU,fb,ek,fq,c5,ez,b6,bn,bo,bp,bq,br,bt,bQ⟩:=FC aa (by decide:0<3);obtain⟨d5,fm,b2,Q1,fc,el,q1,Q2,fd,em,q2,dV,fe,en,fr,dW,ff,eo,fs,aM,c7,b7,bu,bv,bz,bA,bB,bD,bR⟩:=FC aa (by decide:1<3);obtain⟨d6,fn,d8,dX,fg,ep,ft,dY,fh,er,fu,dZ,fi,es,fv,d0,fj,et,fw,aN,c8,b8,bE,bF,bG,bH,bI,bJ,bS⟩:=FC aa (by decide:2<3);subst c5;injection aM with aM;injection aM with h1 h2 _;subst h1;subst h2;injection aN with aN;injection aN with h1 h2 _;subst h1;subst h2;simp at b6 b7 b8;subst b6;subst b7;subst b8;simp at bn bo bp bq br bt bu bv bz bA bB bD bE bF bG bH bI bJ;have a6:=A_ bQ;have a7:=A_ bR;have bd:=A_ bS;clear c7 c8 bQ bR bS b5 bP;go_enter func253,ntmps253;go_wp2_with fail;have aD:=B2m (QL ⟨aq,ds,I⟩) 3 c [h,b1,u] bs w aa;rw[Y.o.pr]at aD;refine aD.mono ?_;clear aD;rintro _ cb ⟨rfl,az⟩;obtain⟨da,db⟩:=F_ az;have ae:=A_ az;have c6:aq<cb.1.size:=by have:=az.size;omega
 clear az;go_wp2_with fail;refine X_ sI ?_;dsimp only[DJ,DK,DI];iterate 9 refine C_ _ ?_
 refine D_ (BP (A2y h b1 u)) ?_ ?_;·intro O E H D b;obtain⟨ak,al⟩:=F_ D;simp at b;refine G_ ?_;exact H_ (A7l _ _ _ h b1 u _ _ _ H ((a6.below ae).below Below.go) ((a7.below ae).below Below.go) ((bd.below ae).below Below.go))
 refine A1p #[AC AF,QH I 0 0,QH I 0 0] 35 ?_ ?_;·intro O E H D b;refine⟨gD,?_⟩;go_simp
 intro O E wa D b (Z:Hid _);simp at b;have dz:=b.2.2.2.2.2.2.2.2.2.1;have dt:=b.2.2.2.2.2.2.2.2.2.2;obtain⟨⟨ax,-⟩,-⟩:=dz;obtain⟨⟨ai,ew,dD,aS⟩,aV⟩:=dt;obtain⟨d1,fk,eu,v1,d2,fl,ev,v2,c1,eQ,_,_⟩:=BK ax;rw[c1]at ax;have aQ:=Z 9 10 dE dE dE;rw[dD]at aQ aV;have dd:cb.1.size<=ai:=(aV ai sI).1;have bV:ai∉E 9:=λG=>aQ ai G sI;have bc:=A_ (AI ae D);have de:w.1.size<=ai:=by have:=ae.size;omega
 have aX:=A_ ax;have bf:=A_ aS;have bi:=A_ bV;obtain⟨aJ,aK,-⟩:=bx aS;generalize E 9=fD at *;clear b Z ax aV aS aQ D bV da db;go_upto_region 4 with fail;refine Code.set3 bf λaI ao=>?_;have ci:=A_ (ao.low bc bc.size de);have ch:=A_ (aX.keepG ao.gr bi);have cD:=A_ ao.k;clear bF bG bI bJ bE bH bn bo bp bq br bt bu bv bz bA bB bD a6 a7 bd c6 aJ aK dd ao bf bi aX;go_wp2_with fail;go_loopg [4,25] 3 (λg s4 s wr=>∃ (k gB cap:Nat),k+g=3/\s=QS QO k/\s4=QH (QL ⟨gB,0,I⟩) k cap/\Hid (Pend w aI 118 wr gB k cap (C0j h b1 u k)));case atStart=>exact⟨0,aI.1.size,0,oS,rfl,rfl,Pend.start ci.o⟩
 case round =>
  obtain⟨k,gB,cap,bW,rfl,rfl,af⟩:=hrel;have ba:=A_ af.bw;have a9:=A_ af.bb;rcases BN k 3 with aA|aA
  ·have eG:(k:Int)<3:=oS
   obtain⟨g,rfl⟩:∃ g,gk=g+1:=⟨gk - 1,oS⟩
   have dh:=A_ (by omega:k+1+g=3);obtain⟨W,aT⟩:∃ W,W=(k+1) % 3:=⟨_,rfl⟩
   obtain⟨X,aU⟩:∃ X,X=(k+2) % 3:=⟨_,rfl⟩
   have df:W<3:=oS;have dg:X<3:=oS;have eC:(W:Int)<3:=oS;have eE:(X:Int)<3:=oS;have eD:(0:Int)<=W:=oS;have eF:(0:Int)<=X:=oS;have eM:QO.wrap ((k:Int)+1)=(k:Int)+1:=by rw[MT];omega
   have eN:QO.wrap ((k:Int)+2)=(k:Int)+2:=by rw[MT];omega
   have eK:QO.wrap (W:Int)=(W:Int):=by rw[MT];omega
   have eL:QO.wrap (X:Int)=(X:Int):=by rw[MT];omega
   have eH:Int.tmod ((k:Int)+1) 3=W:=by rw[Int.tmod_eq_emod_of_nonneg oS];omega
   have eI:Int.tmod ((k:Int)+2) 3=X:=by rw[Int.tmod_eq_emod_of_nonneg oS];omega
   obtain⟨d7,fo,x,dJ,e0,d9,eR,dL,e1,ea,eS,dM,e2,eb,eT,dN,e3,ec,eU,aO,eA,b9,cv,cw,cx,cy,cz,cA,bT⟩:=FC (aa.below ba) df;obtain⟨bk,ok,y,dO,e4,ed,eW,dQ,e5,ee,eX,dR,e6,ef,eY,dS,e7,eg,eZ,aP,c9,ca,cE,cF,cG,cH,cI,cJ,bU⟩:=FC (aa.below ba) dg;injection aO with aO;injection aO with h1 h2 _;subst h1;subst h2;injection aP with aP;injection aP with h1 h2 _;subst h1;subst h2;have bg:=A_ bT;have bh:=A_ bU;have cp:=A_ (by unfold c3;rw[<-aT];exact A0e b9:c3 h b1 u (k+1)=x);have cq:=A_ (by unfold c3;rw[<-aU];exact A0e ca:c3 h b1 u (k+2)=y);have dH:=A_ aT;have dI:=A_ aU;clear bW b9 ca bT bU aT aU c9;have aY:=A_ (ch.below a9);obtain⟨fz,cd,_⟩:=ptX bg;obtain⟨fA,ce,_⟩:=ptY bg;obtain⟨fB,cf,_⟩:=ptX bh;obtain⟨fC,cg,_⟩:=ptY bh;have cN:=A_ cd;have cO:=A_ ce;have cP:=A_ cf;have cQ:=A_ cg;have a2:=A_ (by unfold C9m;rw[cp.o,cq.o]:C9m h b1 u k=⟨A3t x.y y.y,A3t y.x x.x⟩);have a1:=A_ (by unfold A5w;rw[a2.o]:A5w h b1 u k=⟨A3u (A3t x.y y.y) (A2y h b1 u),A3u (A3t y.x x.x) (A2y h b1 u)⟩);have an:=Y.s k aA;rw[a2.o]at an;have O1:=A_ (D9f an);have O2:=A_ (D9q an);have aB:=Y.g k aA;have cK:=A_ aB;have aG:=A_ (show J_ (A5w h b1 u k).x=AD from D9f (q:=(A5w h b1 u k).y) aB);have bl:=A_ (show J_ (A5w h b1 u k).y=AD from D9q (p:=(A5w h b1 u k).x) aB);clear aB;clear an cd ce cf cg;go_wp2_with fail;go_region_held3 (λw'=>∀ o,w'.cell? ⟨aq,o,I⟩=wr.cell? ⟨aq,o,I⟩) ((go_simp;done)) (fail)
   all_goals
    rename_i hh;clear hh;go_upto_region 9 with fail;refine Code.newd2 λd3 am=>?_;have T:=A_ am.b;obtain⟨dj,-,eO⟩:=bx am.k;obtain⟨dl,-,eP⟩:=bx am.l;obtain⟨dm,-,eB⟩:=bx (A0z (A0z cD a9) T);clear am cv cw cx cy cz cA cE cF cG cH cI cJ;refine X_ sI ?_;dsimp only[DJ,DK,DI];iterate 4 refine C_ _ ?_
    refine D_ (BP (A3t x.y y.y)) ?_ ?_;·intro O E H D b;obtain⟨ak,al⟩:=F_ D;simp at b;refine G_ ?_;exact H_ (A5b _ _ x.y y.y _ _ H (cO.below (AI T D)) (cQ.below (AI T D)))
    refine C_ _ ?_;refine D_ (BP (A3u (A3t x.y y.y) (A2y h b1 u))) ?_ ?_;·intro O E H D b;obtain⟨ak,al⟩:=F_ D;simp at b;refine G_ ?_;obtain⟨aW,_⟩:=b;exact H_ (A9z _ _ (A3t x.y y.y) (A2y h b1 u) _ _ H aW.1 (aY.below (AI T D)) O1 Y.d Y.d0)
    iterate 4 refine C_ _ ?_
    refine D_ (BP (A3t y.x x.x)) ?_ ?_;·intro O E H D b;obtain⟨ak,al⟩:=F_ D;simp at b;refine G_ ?_;exact H_ (A5b _ _ y.x x.x _ _ H (cP.below (AI T D)) (cN.below (AI T D)))
    refine C_ _ ?_;refine D_ (BP (A3u (A3t y.x x.x) (A2y h b1 u))) ?_ ?_;·intro O E H D b;obtain⟨ak,al⟩:=F_ D;simp at b;refine G_ ?_;obtain⟨aW,_⟩:=b;exact H_ (A9z _ _ (A3t y.x x.x) (A2y h b1 u) _ _ H aW.1 (aY.below (AI T D)) O2 Y.d Y.d0)
    refine A1d (λad=>MP.eqS (AM ((ad 6).cells++(ad 13).cells)) (A5w h b1 u k)) (by intro y ad G;simp[N_,M_]at G;simp[G]) ?_ ?_
    ·intro O E H D b
     simp at b;obtain⟨⟨ar,_⟩,ac,_⟩:=b;obtain⟨ck,dn,cR,cX,cm,dp,cU,cY,ah,-,-,-⟩:=BK ar;obtain⟨cn,dq,cV,cZ,co,dr,cW,c0,ag,-,-,-⟩:=BK ac;rw[ah]at ar;rw[ag]at ac;have aF:=A_ (by rw[a1.o];exact B4l (x:=⟨_,_⟩) ar ac:Agg H _ (A5w h b1 u k) _);clear ar ac;refine⟨gD,_,H,?_,Below.refl _ _,[],⟨?_,rfl,_,aF.o⟩,sI⟩;·go_simp
     rw[ah,ag];rfl
    refine A3q (λad=>MP.eqS (ad 14) (A5w h b1 u k)) (by intro y ad G;simp[N_,M_]at G;simp[G]) ?_ ?_;·intro O E H D b;obtain⟨ak,al⟩:=F_ D;simp at b;obtain⟨⟨c4,ey,fx,aL⟩,ac,_⟩:=b;have aF:=A_ aL;have C:=B0n (O 14) (A5w h b1 u k) _ H aL ((C6v aG).trans aG.symm) ((C6v bl).trans bl.symm);rw[cK.o]at C;have ct:=A_ C;clear c4 aL ac C;refine G_ ?_;exact ct.o.mono (λe w' ⟨he,ay⟩=>⟨O 14,he,ay,[],⟨rfl,rfl,_,aF.o.below ay⟩,sI⟩)
    refine A1p #[AC AF,QH I 0 0,QH I 0 0,AC AF,QH I 0 0,QH I 0 0] 118 ?_ ?_;·intro O E H D b;refine⟨gD,?_⟩;go_simp
    intro O E wb D b (Z:Hid _);simp at b;have dy:=b.2.2.2.2.2.2.1;have du:=b.2.2.2.2.2.2.2.2.2.2.2.2.2.1;have dv:=b.2.2.2.2.2.2.2.2.2.2.2.2.2.2.1;have dw:=b.2.2.2.2.2.2.2.2.2.2.2.2.2.2.2.1;have dx:=b.2.2.2.2.2.2.2.2.2.2.2.2.2.2.2.2;obtain⟨⟨aw,bO⟩,b4⟩:=dy;obtain⟨⟨au,bN⟩,b0⟩:=du;obtain⟨⟨bL,dF,_⟩,_⟩:=dv;obtain⟨⟨bM,dG,_⟩,_⟩:=dw;obtain⟨⟨g8,ex,aC,aR⟩,b3⟩:=dx;obtain⟨ck,dn,cR,cX,cm,dp,cU,cY,ah,-,-,-⟩:=BK aw;obtain⟨cn,dq,cV,cZ,co,dr,cW,c0,ag,-,-,-⟩:=BK au;rw[ah]at aw;rw[ag]at au;have c2:=bM.trans bL;rw[ah,ag]at c2;have bY:=(λG=>Z.o 6 16 dE dE dE g8 G (by rw[aC];simp):g8∉E 6)
    have bX:=(λG=>Z.o 13 16 dE dE dE g8 G (by rw[aC];simp):g8∉E 13)
    have a5:=A_ (Free.join bO bN (Z 6 13 dE dE dE));have bm:=A_ (by rw[a1.o];exact B4l (x:=⟨_,_⟩) aw au:Agg wb _ (A5w h b1 u k) (E 6++E 13))
    have cL:=A_ (show ∀ ap∈E 6++E 13,wr.1.size<=ap from λap ay=>by
     have:=T.size;rcases CO.1 ay with G|G
     ·have:=(b4 ap G).1;omega
     have:=(b0 ap G).1;omega)
    have bj:=A_ (show g8∉E 6++E 13 from λG=>(CO.1 G).elim bY bX);have dc:wr.1.size<=g8:=by have:=(b3 g8 (by rw[aC];simp)).1;have:=T.size;omega
    have aE:=A_ (AI T D);have be:=A_ aR;obtain⟨aJ,aK,-⟩:=bx aR;generalize E 6++E 13=zs at *;clear b Z aw bO b4 au bN b0 bL bM dF dG aC b3 bY bX D aR dj dl dm;go_upto_region 10 with fail;refine Code.set6 be λcM ab=>?_;have cs:=A_ (ab.low aE aE.size dc);have aH:=A_ (bm.keepG ab.gr bj);have a3:=A_ (Free.keepG a5 ab.gr bj);obtain⟨dk,-,di⟩:=bx ab.k;have cB:=A_ ab.k;clear aJ aK ab aE bm a5 be;go_wp2_with fail;obtain⟨fy,cc,_⟩:=ptX aH;have C:=A2p _ (A5w h b1 u k).x _ cM cc;rw[C6v aG.o]at C;refine C.mono ?_;clear C cc;rintro _ dB ⟨rfl,aj⟩;have a8:=A_ (AI cs aj);have aZ:=A_ (aH.below aj);have a4:=A_ (a3.below aj);obtain⟨eV,-,eJ⟩:=bx (A0z cB aj);have cj:=A_ (by unfold BG;omega:k+1<=BG/\(k+1)*112<=140737488355328);clear aj dk di aH a3;go_wp2_with (at_builtin;refine C7w rfl rfl underlying23 D1n af (a8.alloc a8.size _) (A0a (CF dB _)) (E4q (aZ.below (AV _))) (a4.below (AV _)) cL cj ?_;intro g' bK dA bZ _ _);have cu:=A_ (show Pend w aI 118 dA g' (k+1) bK (C0j h b1 u (k+1))from bZ);clear bZ aZ a4 af;go_wp2_with fail;go_roundg g;case measure=>omega
    case rel=>exact⟨k+1,g',bK,dh,gN,rfl,cu⟩
  obtain rfl:k=3:=oS;clear bW aA;go_wp2;go_ret;exact af.done
section
def C8d (a b c:Int):Nat->Int
 |0=>a
 |1=>b
 |_=>c
theorem ixv (a b c:Int) (i:Nat) (h:i<3) (w:J):Sem.run prog (Instr.index 174 (AM #[QS QO a,QS QO b,QS QO c]) (QS QO (i:Int))) w=.ok (QS QO (C8d a b c i)) w:=by
 obtain rfl|rfl|rfl:i=0\/i=1\/i=2:=oS;·kernel_rfl
 ·kernel_rfl
 kernel_rfl
def C4n (us:List TRat) (i:Int):TRat:=us.getD i.toNat A0h
def A6n (us:List TRat) (t:TTri):List TRat:=[C4n us t.a,C4n us t.b,C4n us t.c]
theorem D7n (us:List TRat) (t:TTri) {i:Nat} (h:i<3):(A6n us t)[i]?=QL (C4n us (C8d t.a t.b t.c i)):=by
 obtain rfl|rfl|rfl:i=0\/i=1\/i=2:=oS;·rfl
 ·rfl
 rfl
def B4f (a b c:TPoint) (vs:List TRat):Nat->TPoint
 |0=>ptI 0 0
 |k+1=>A3y (B4f a b c vs k) (A0v (vs.getD k A0h) (A5w a b c k))
def D3j {α:Type} [Dat α] (w:J) (x:α) (e:Ending) (w':J):Prop:=∃ v s,e=.returned v/\Agg w' v x s/\(∀ b∈s,w.1.size<=b)/\Bw w w'
def _root_.Go.XB.MP.aggN {α:Type} [Dat α] (x:α):MP:=⟨λv bs w=>Agg w v x bs,λ_ _ _ _ hb h=>h.below hb⟩
theorem B8i {α:Type} [Dat α] {P:Program} {f:FuncId} {args:Array AJ} {w:J} {x:α} (h:AR P f args w (D3j w x)) :
  AR P f args w λe w'=>∃ u,e=.returned u/\Bw w w'/\∃ bs,(MP.aggN x).p u bs w'/\∀ b∈bs,w.1.size<=b/\b<w'.1.size :=
 h.mono λ_ _ ⟨v,s,he,ha,hn,hb⟩=>⟨v,he,hb,s,ha,λb hm=>⟨hn b hm,ha.lt b hm⟩⟩
structure AccPt (w U:J) (g r0:Nat) (x:TPoint) (cs:List AJ) (s:List Nat):Prop where
 bl:Bw w U
 bx:U.1[g]?=QL (AK cs.toArray 118)
 at_:Dat.at_ U cs x s
 nw:∀ b∈s,w.1.size<=b/\b≠g/\b≠r0
 rs:U.1[r0]?=QL (AK #[AC AF,QH I 0 0,QH I 0 0,AC AF,QH I 0 0,QH I 0 0] 118)
 lo:w.1.size<=r0/\r0<g
theorem K_ {w w':J} {b:Nat} {o:Obj} (h:w.1[b]?=QL o) (hb:Bw w w'):w'.1[b]?=QL o:=(hb.block b (E_ h)).trans h
theorem A9b {w:J} {b j:Nat} {cs:Array AJ} {t:TypeId} {v:AJ} (h:w.1[b]?=QL (AK cs t)):(w.setCell ⟨b,j,I⟩ v).1[b]?=QL (AK (cs.setIfInBounds j v) t):=by
 have u:=lt_of_block h;have D:w.1[b]=AK cs t (0,0):=by simpa[MW u]using h
 show(w.1.modify b _)[b]?=_;rw[MW (by simpa using u),Array.getElem_modify_self,D];rfl
theorem AccPt.below {w U U':J} {g r0:Nat} {x:TPoint} {cs:List AJ} {s:List Nat} (h:AccPt w U g r0 x cs s) (hb:Bw U U'):AccPt w U' g r0 x cs s :=
 ⟨AI h.bl hb,K_ h.bx hb,Dat.keep h.at_ (λb hb2=>hb.block b (Dat.lt h.at_ b hb2)),h.nw,K_ h.rs hb,h.lo⟩
theorem AccPt.set {w U:J} {g r0:Nat} {x y:TPoint} {a0 G H O T W v0 v1 v2 v3 v4 v5:AJ} {s r:List Nat} (h:AccPt w U g r0 x [a0,G,H,O,T,W] s) (X:Dat.at_ U [v0,v1,v2,v3,v4,v5] y r) (E:∀ b∈r,w.1.size<=b/\b≠g/\b≠r0) :
  AccPt w ((((((U.setCell ⟨g,0,I⟩ v0).setCell ⟨g,1,I⟩ v1).setCell ⟨g,2,I⟩ v2).setCell ⟨g,3,I⟩ v3).setCell ⟨g,4,I⟩ v4).setCell ⟨g,5,I⟩ v5) g r0 y [v0,v1,v2,v3,v4,v5] r:=by
 have u:w.1.size<=g:=by have:=h.lo;omega
 have K:∀ b,b≠g->((((((U.setCell ⟨g,0,I⟩ v0).setCell ⟨g,1,I⟩ v1).setCell ⟨g,2,I⟩ v2).setCell ⟨g,3,I⟩ v3).setCell ⟨g,4,I⟩ v4).setCell ⟨g,5,I⟩ v5).1[b]?=U.1[b]?:=λb D=>A0m g [v0,v1,v2,v3,v4,v5] U 0 b D
 exact⟨(((((h.bl.setCell (p:=⟨g,0,I⟩) u _).setCell (p:=⟨g,1,I⟩) u _).setCell (p:=⟨g,2,I⟩) u _).setCell (p:=⟨g,3,I⟩) u _).setCell (p:=⟨g,4,I⟩) u _).setCell (p:=⟨g,5,I⟩) u _,
  A9b (A9b (A9b (A9b (A9b (A9b h.bx))))),Dat.keep X (λb D=>K b (E b D).2.1),E,(K r0 (by have:=h.lo;omega)).trans h.rs,h.lo⟩
theorem AccPt.o {w U:J} {g r0:Nat} {x:TPoint} {v0 v1 v2 v3 v4 v5:AJ} {s:List Nat} (h:AccPt w U g r0 x [v0,v1,v2,v3,v4,v5] s) :
  D3j w x (.returned (AM #[v0,v1,v2,v3,v4,v5])) ((((((U.setCell ⟨r0,0,I⟩ v0).setCell ⟨r0,1,I⟩ v1).setCell ⟨r0,2,I⟩ v2).setCell ⟨r0,3,I⟩ v3).setCell ⟨r0,4,I⟩ v4).setCell ⟨r0,5,I⟩ v5):=by
 have b:w.1.size<=r0:=h.lo.1
 exact⟨_,s,rfl,⟨_,rfl,Dat.keep h.at_ (λu D=>A0m r0 [v0,v1,v2,v3,v4,v5] U 0 u (h.nw u D).2.2)⟩,λu D=>(h.nw u D).1,
  (((((h.bl.setCell (p:=⟨r0,0,I⟩) b _).setCell (p:=⟨r0,1,I⟩) b _).setCell (p:=⟨r0,2,I⟩) b _).setCell (p:=⟨r0,3,I⟩) b _).setCell (p:=⟨r0,4,I⟩) b _).setCell (p:=⟨r0,5,I⟩) b _⟩
attribute [local go_sem] ixv
attribute [local simp] MP.aggS
theorem C4q (A:Option AH) (c:Nat) (l:List TPoint) (bs:List Nat) (B:Option AH) (d:Nat) (us:List TRat) (u:List Nat) (w:J) (H:Sl w A 3 c l bs) (G:Sl w B 3 d us u) (E:A7m l=AD) (D:us.all J_=AD) :
  AR prog 251 #[QH A 3 c,QH B 3 d] w (A0b w (AC AD)):=by
 have X:=A_ H;have W:=A_ G;have T:=A_ E;have O:=A_ D;clear H G E D;go_enter func251,ntmps251;go_wp2_with fail;have b:=B2m A 3 c l bs w X;rw[T.o]at b;refine b.mono ?_;clear b;rintro _ aa ⟨rfl,Y⟩;have h:=A_ Y;go_wp2_with fail;refine(A5n B 3 d us u aa (W.below h) O).mono ?_;rintro _ ab ⟨rfl,Z⟩;go_wp2;go_ret;exact⟨rfl,AI h Z⟩
theorem B9w (v:AJ) (m:TMesh) (b:List Nat) (B:Option AH) (n d:Nat) (us:List TRat) (aW:List Nat) (k:Nat) (t:TTri) (w:J) (aB:Agg w v m b) (aA:Sl w B n d us aW) (ac:m.triangles[k]?=QL t) (aC:A5v n t) (ay:∀ x∈us,B4q x) (bB:n<=40) (aX:m.triangles.length<=48) :
  AR prog 197 #[v,QH B n d,QS QO k] w (A0w w (A6n us t)):=by
 obtain⟨aE,bd,aU,bX,bi,n1,aV,bY,rfl,rfl,a7,O⟩:=TMesh.agg aB;have aM:=A_ aA;have aO:=A_ ay;have aN:=A_ aC;have a3:k<n1:=by rw[<-O.1];exact(List.getElem?_eq_some_iff.1 ac).1
 have bQ:n1<=48:=by rw[<-O.1];exact aX
 obtain⟨bc,a1,a8,a9,ba⟩:=info_parts B2r;obtain⟨an,be,bf,rfl,bD,ae,bo,bp,bq,br,bs,ap⟩:=TTri.elemA O a3;obtain rfl:t=bf:=by rw[ac]at ae;exact Option.some.inj ae
 have aH:=A_ ap;have bO:(k:Int)<n1:=oS;have bP:(0:Int)<=k:=oS;have aR:=A_ (by unfold inB;simp;omega:inB 0 (k:Int) ((n1:Int) - 1)=AD);clear aB aA ac aC ay a7 O ap ae;go_enter func197,ntmps197;go_wp2_with fail;have C:=A0s k 0 ((n1:Int) - 1) (w.alloc (AK #[QH aE bd aU,QH (QL ⟨an,be,I⟩) n1 aV] 26));rw[aR.o]at C;refine C.mono ?_;clear C;rintro _ h ⟨rfl,aq⟩;obtain⟨bH,bJ⟩:=F_ aq;have bT:w.1.size<h.1.size:=ltg aq;have D:=A_ (show Bw w h from Below.go);have bE:an<h.1.size:=by have:=D.size;omega
 go_wp2_with fail;have am:=A_ (Pend.start (α:=TRat) (e:=35) D);refine(A2g _ t _ (h.alloc (AK #[] 35)) (aH.below (D.alloc D.size _))).mono ?_;rintro _ b4 ⟨rfl,ar⟩;have P2:=A_ (am.below ar);clear am ar;go_wp2_with fail;go_loopg [7,24] 3 (λg s3 s wr=>∃ (i gB cap:Nat),i+g=3/\s=QS QO i/\s3=QH (QL ⟨gB,0,I⟩) i cap/\Hid (Pend w h 35 wr gB i cap ((A6n us t).take i)));case atStart=>exact⟨0,h.1.size,0,rfl,rfl,rfl,P2⟩
 case round =>
  clear P2;obtain⟨i,gB,cap,ax,rfl,rfl,E⟩:=hrel;have aJ:=A_ E.bw;rcases BN i 3 with u|u
  ·have bM:(i:Int)<3:=oS
   have bN:(0:Int)<=i:=oS;obtain⟨g,rfl⟩:∃ g,gk=g+1:=⟨gk - 1,oS⟩
   have a2:=A_ (by omega:i+1+g=3);have aF:=A_ (by unfold BG;omega:i+1<=BG);have aG:=A_ (by omega:(i+1)*56<=140737488355328);obtain⟨q,H⟩:∃ q,C8d t.a t.b t.c i=q:=⟨_,rfl⟩
   have a5:0<=q/\q<n:=by
    have:=aN.o;rw[<-H];obtain rfl|rfl|rfl:i=0\/i=1\/i=2:=oS
    ·exact this.1
    ·exact this.2.1
    exact this.2.2
   obtain⟨bR,bS⟩:=a5;have Y:=D7n us t u;rw[H]at Y;have aQ:=A_ H;have bL:i<3:=u;have aS:=A_ (by unfold inB;simp;omega:inB 0 q ((n:Int) - 1)=AD);have a6:q.toNat<n:=oS;obtain⟨aT,bW,x,bj,bU,bm,bZ,bl,bV,bn,b0,rfl,bG,af,bt,bu,bv,aw⟩:=TRat.elemA (aM.below aJ) a6;have al:=A_ (aO x (CH af));have aP:=A_ (show(A6n us t).take (i+1)=(A6n us t).take i++[x]from take_step (by rw[Y];unfold C4n;rw[A0e af]));have aI:=A_ aw;clear ax u aw af Y H;go_wp2_with fail;rw[aQ.o];have C:=A0s q 0 ((n:Int) - 1) wr;rw[aS.o]at C;refine C.mono ?_;clear C;rintro _ w3 ⟨rfl,G⟩;obtain⟨bI,bK⟩:=F_ G;have X:=A_ G;have bF:aT<w3.1.size:=by have:=G.size;omega
   clear G;go_wp2_with fail;refine(A3n _ x _ w3 (aI.below X) (BM al.1 dE) (BM al.2 dE)).mono ?_;rintro _ wa ⟨b3,aD,rfl,ab,ad,au⟩;obtain⟨T,ag,Z,bz,W,ah,aa,bA,rfl,bh,_,_⟩:=BK ab;have ai:=A_ (A3x (ab.below (AV (AK #[AC x.1.1,QH T ag Z,QH W ah aa] 35))));have aj:=A_ ((ad.below (AV (AK #[AC x.1.1,QH T ag Z,QH W ah aa] 35))).free);have ak:=A_ (show ∀ b∈aD,wr.1.size<=b from λb aY=>by have:=(ad.2 b aY).1;have:=X.size;omega);have aK:=A_ (show Bw wr wa from AI X au);clear ab ad bh au;go_wp2_with (at_builtin;refine A1v rfl _ _ 27 rfl 35 bc (AM #[AC AF,QH I 0 0,QH I 0 0]) 56 underlying27 a1 a8 a9 ba rfl E (AI aK (AV _)) gD ⟨wa.1.size,0,I⟩ 1 [AC x.1.1,QH T ag Z,QH W ah aa] x aD gD (A0a (CF wa _)) ai aj ak aF aG ?_;intro g' ao bg az aZ a4);have aL:=A_ (by rw[aP.o];exact az:Pend w h 35 bg g' (i+1) ao ((A6n us t).take (i+1)));clear az aZ a4 ai aj ak E;go_wp2_with fail;go_roundg g;case measure=>omega
   case rel=>exact⟨i+1,g',ao,a2,gN,rfl,aL⟩
  obtain rfl:i=3:=oS;clear ax u;go_wp2;go_ret;exact E.done
end
theorem E4h (a b c:TPoint) {k:Nat} (h:k<3):(C5e a b c)[k]?=QL (A5w a b c k):=by
 obtain rfl|rfl|rfl:k=0\/k=1\/k=2:=oS;·rfl
 ·rfl
 rfl
theorem D8a {us:List TRat} {t:TTri} {n:Nat} (G:us.length=n) (b:A5v n t) (h:us.all J_=AD):(A6n us t).all J_=AD:=by
 have K:∀ j:Int,0<=j->j<n->J_ (C4n us j)=AD:=λj D E=>by
  obtain⟨x,u⟩:∃ x,us[j.toNat]?=QL x:=⟨_,CV oS⟩
  unfold C4n;rw[A0e u];exact BJ.1 h x (CH u)
 unfold A6n;simp only[List.all_cons,List.all_nil,Bool.and_true,CK];exact⟨K _ b.1.1 b.1.2,K _ b.2.1.1 b.2.1.2,K _ b.2.2.1 b.2.2.2⟩
attribute [local simp] MP.aggS MP.aggN
theorem B7w (A:Option AH) (am:Nat) (b b1 h:TPoint) (aV:List Nat) (B:Option AH) (aG:Nat) (us:List TRat) (bJ:List Nat) (w:J) (bE:Sl w A 3 am [b,b1,h] aV) (bA:Sl w B 3 aG us bJ) (bq:GradOk b b1 h) (bt:us.all J_=AD) :
  AR prog 196 #[QH A 3 am,QH B 3 aG] w (D3j w (B4f b b1 h us 3)):=by
 have a7:=A_ bE;have a6:=A_ bA;have a5:=A_ bq;have bS:=A_ bt;clear bE bA bq bt;go_enter func196,ntmps196;go_wp2_with fail;refine(C4q A am _ aV B aG us bJ _ (a7.below Below.go) (a6.below Below.go) a5.pr bS).mono ?_;rintro _ ae ⟨rfl,ap⟩;obtain⟨cc,cg⟩:=F_ ap;have ck:w.1.size<ae.1.size:=ltg ap;have bR:=A_ (show Bw w ae from Below.go);have a9:=A_ (show ae.1[w.1.size]?=QL (AK #[AC AF,QH I 0 0,QH I 0 0,AC AF,QH I 0 0,QH I 0 0] 118)from K_ (CF w _) ap);clear ap;go_wp2_with fail;refine(B9v 0 0 ae oO oO).mono ?_;rintro _ Z ⟨v2,aU,rfl,ao,bu,bo⟩;obtain⟨ay,aP,aH,cI,az,aQ,aI,cJ,aA,aR,aJ,cK,aB,aS,aK,cL,rfl,cm,_,_,_,_⟩:=DN ao;have ag:=A_ bo;have aZ:=A_ (E4q ao);have aF:=A_ (show ∀ u∈aU,ae.1.size<=u/\u<Z.1.size from λu D=>⟨(bu.2 u D).1,ao.lt u D⟩);clear ao bu bo cm cc cg;go_upto_region 4 with fail;obtain⟨w3,aq⟩:∃ w3,w3=Z.alloc (AK #[AC (ptI 0 0).x.1.1,QH ay aP aH,QH az aQ aI,AC (ptI 0 0).y.1.1,QH aA aR aJ,QH aB aS aK] 118):=⟨_,rfl⟩
 have af:=A_ (by rw[aq];exact AV _:Bw Z w3);have cj:=ag.size
 have ah:=A_ (show AccPt w w3 Z.1.size w.1.size (B4f b b1 h us 0) [AC (ptI 0 0).x.1.1,QH ay aP aH,QH az aQ aI,AC (ptI 0 0).y.1.1,QH aA aR aJ,QH aB aS aK] aU from
  ⟨AI (AI bR.o ag.o) af.o,by rw[aq];exact CF Z _,Dat.keep aZ (λu D=>af.block u (aF u D).2),λu D=>by have:=aF u D;omega,K_ (K_ a9.o ag.o) af.o,oS⟩)
 rw[<-aq];clear aq ck a9;have bV:=A_ ah.bl;go_wp2_with fail;refine(B1l A am b b1 h aV w3 (a7.below bV) a5).mono ?_;rintro _ cv ⟨bO,cp,b0,bi,rfl,aN,bv,bp⟩;obtain rfl:3=cp:=by rw[<-aN.1];exact(B8g b b1 h 3).symm
 have T:=A_ aN;have a8:=A_ (ah.below bp);have bP:=A_ (show ∀ u∈bi,u≠Z.1.size from λu D=>by have cM:=(bv.2 u D).1;have cN:=E_ ah.bx;omega);generalize Z.1.size=an at *;clear aN bv bp ah aZ aF af ag cj;go_wp2_with fail;go_loopg [17] 3 (λg s wr=>∃ (k:Nat) (ai:Option AH) (m1 q1:Nat) (aj:Option AH) (m2 q2:Nat) (ak:Option AH) (ar aw:Nat) (al:Option AH) (au ax:Nat) (r:List Nat),k+g=3/\s=QS QO k/\Hid (AccPt w wr an w.1.size (B4f b b1 h us k) [AC (B4f b b1 h us k).x.1.1,QH ai m1 q1,QH aj m2 q2,AC (B4f b b1 h us k).y.1.1,QH ak ar aw,QH al au ax] r)/\Hid (Bw cv wr\/True)/\Hid (Sl wr bO 3 b0 (C5e b b1 h) bi));case atStart=>exact⟨0,ay,aP,aH,az,aQ,aI,aA,aR,aJ,aB,aS,aK,aU,rfl,rfl,a8,.inr trivial,T⟩
 case round =>
  clear a8 T;obtain⟨k,ai,m1,q1,aj,m2,q2,ak,ar,aw,al,au,ax,r,bs,rfl,E,_,T⟩:=hrel;rcases BN k 3 with ab|ab
  ·obtain⟨g,rfl⟩:∃ g,gk=g+1:=⟨gk - 1,oS⟩
   have ci:=A_ (by omega:k+1+g=3);have cP:(k:Int)<3:=oS;have cQ:(0:Int)<=k:=oS;have bN:=A_ E.bl;obtain⟨cD,c1,x,cy,cX,cE,da,cz,cY,cF,db,cA,cZ,cG,dc,cB,c0,cH,dd,rfl,cO,aO,bg,b5,b6,bh,b7,b8,aL⟩:=FC T ab;obtain rfl:x=A5w b b1 h k:=by rw[E4h b b1 h ab]at aO;exact(Option.some.inj aO).symm
   obtain⟨Y,aT,ac,bY,cq,b3,u1,bZ,cs,b4,u2,rfl,aM,bD,bj,bl,bm,bB⟩:=TRat.elemA (a6.below bN) ab;have aE:=A_ (by rw[B4f,A0e bD]:B4f b b1 h us (k+1)=A3y (B4f b b1 h us k) (A0v ac (A5w b b1 h k)));obtain⟨aa,br⟩:∃ aa,A5w b b1 h k=aa:=⟨_,rfl⟩
   obtain⟨X,bn⟩:∃ X,B4f b b1 h us k=X:=⟨_,rfl⟩
   rw[br]at aL aE bg bh;rw[bn]at E aE;have bQ:=A_ aL;have bU:=A_ bB;clear bs ab aO aL bD bB br bn;go_upto_region 7 with fail;refine Code.new λW aD=>?_;have aC:=A_ aD.k;have H:=A_ aD.b;clear bg b5 b6 bh b7 b8 aD;have P1:=A_ (E.below H);have aY:=A_ (show Agg W (AM #[AC X.x.1.1,QH ai m1 q1,QH aj m2 q2,AC X.y.1.1,QH ak ar aw,QH al au ax]) X r from⟨_,rfl,P1.at_⟩);have ba:=A_ (bU.below H);obtain⟨bK,bL,-⟩:=bx P1.bx;obtain⟨cx,-,-⟩:=bx aC;have b9:W.cell? ⟨Y,aT+k*3,I⟩=QL (AC ac.1.1):=(H.cell (p:=⟨Y,_,I⟩) aM).trans bj;have ca:W.cell? ⟨Y,aT+k*3+1,I⟩=QL (QH bY cq b3):=(H.cell (p:=⟨Y,_,I⟩) aM).trans bl;have cb:W.cell? ⟨Y,aT+k*3+2,I⟩=QL (QH bZ cs b4):=(H.cell (p:=⟨Y,_,I⟩) aM).trans bm;have cW:wr.1.size<W.1.size:=E_ aC;have co:an<W.1.size:=E_ P1.bx;have cV:Y<W.1.size:=oS;clear bj bl bm;refine X_ sI ?_;dsimp only[DJ,DK,DI];iterate 6 refine C_ _ ?_
   refine D_ (BP (A0v ac aa)) ?_ ?_;·intro bM aX aW G O;obtain⟨cd,ch⟩:=F_ G;simp at O;refine G_ ?_;exact H_ (A1n _ _ ac aa _ _ aW (ba.below G) ((bQ.below H).below G))
   refine D_ (BP (A3y X (A0v ac aa))) ?_ ?_;·intro bM aX aW G O;obtain⟨cd,ch⟩:=F_ G;simp at O;refine G_ ?_;exact H_ (A4x _ _ X (A0v ac aa) _ _ aW (aY.below G) (by obtain⟨_,t⟩:=O;first|exact t|exact t.1|exact t.1.1))
   intro bM aX wa G O ce;clear ce;simp at O;have ct:=O.2.2.2.2.2.2.2;obtain⟨⟨ad,cf⟩,bz⟩:=ct;rw[<-aE.o]at ad;obtain⟨a1,bF,bc,c6,a2,bG,bd,c7,a3,bH,be,c8,a4,bI,bf,c9,cw,cn,_,_,_,_⟩:=DN ad;rw[cw]at ad;have P2:=A_ (P1.below G);have cR:=E.lo;have bW:=A_ (P2.set (E4q ad) (λu D=>by have:=(bz u D).1;have:=H.size;omega));have bX:=A_ (((T.below H).below G).keep (λu D=>A0m an [AC (B4f b b1 h us (k+1)).x.1.1,QH a1 bF bc,QH a2 bG bd,AC (B4f b b1 h us (k+1)).y.1.1,QH a3 bH be,QH a4 bI bf] wa 0 u (bP u D)));obtain⟨c4,c5,cU⟩:=bx P2.bx;generalize aX 7=cu at *;clear O ad cf bz cn G P1 P2 aY ba E T aC H bK bL cx b9 ca cb;go_wp2_with fail;go_roundg g;case measure=>omega
   case rel=>exact⟨k+1,a1,bF,bc,a2,bG,bd,a3,bH,be,a4,bI,bf,cu,ci,oD,bW,.inr trivial,bX⟩
  obtain rfl:k=3:=oS;have bT:=A_ E.o.o;obtain⟨bK,bL,-⟩:=bx E.bx;obtain⟨r0,c2,-⟩:=bx E.rs;have co:an<wr.1.size:=E_ E.bx;clear E T bs ab;go_wp2;refine BI (v:=AM #[AC (B4f b b1 h us 3).x.1.1,QH ai m1 q1,QH aj m2 q2,AC (B4f b b1 h us 3).y.1.1,QH ak ar aw,QH al au ax]) (by simp[BO,results196,go_sem, *]) rfl ?_;exact bT
theorem B6z (v:AJ) (m:TMesh) (b:List Nat) (B:Option AH) (n d:Nat) (us:List TRat) (aB:List Nat) (k:Nat) (t:TTri) (w:J) (af:Agg w v m b) (ae:Sl w B n d us aB) (aK:m.triangles[k]?=QL t) (ag:A5v m.1.length t) (ad:n=m.1.length)
  (aJ:GradOk (Z_ m.1 t.a) (Z_ m.1 t.b) (Z_ m.1 t.c)) (X:us.all J_=AD) (aG:m.1.all A1b=AD) (aC:m.1.length<=40) (aD:m.triangles.length<=48) :
  AR prog 138 #[v,QH B n d,QS QO k] w (D3j w (B4f (Z_ m.1 t.a) (Z_ m.1 t.b) (Z_ m.1 t.c) (A6n us t) 3)):=by
 have au:=A_ af;have aV:=A_ ae;have ap:=A_ aK;have aw:=A_ ag;have aU:=A_ aJ;have bf:=A_ X;have aQ:=A_ aG;have an:=A_ aC;have ao:=A_ aD;have aq:=A_ ad;have a1:=A_ (D8a (us:=us) (t:=t) ae.1 (by rw[ad];exact ag) X);have aZ:=A_ (B6l X);obtain⟨Z,ah,ab,bm,aa,n1,ac,bn,rfl,rfl,a6,a7⟩:=TMesh.agg af;clear a6 a7 af ae aK ag aJ X aG aC aD ad;go_enter func138,ntmps138;go_upto_region 1 with fail;obtain⟨D,E⟩:∃ D,D=(w.alloc (AK #[QH Z ah ab,QH aa n1 ac] 26)).alloc (AK #[AC AF,QH I 0 0,QH I 0 0,AC AF,QH I 0 0,QH I 0 0] 118):=⟨_,rfl⟩
 have T:=A_ (by rw[E];exact(AV _).alloc sI _:Bw w D);have aW:=A_ (by rw[E];exact K_ (CF w _) (AV _):D.1[w.1.size]?=QL (AK #[QH Z ah ab,QH aa n1 ac] 26));have aX:=A_ (show D.1[w.1.size+1]?=QL (AK #[AC AF,QH I 0 0,QH I 0 0,AC AF,QH I 0 0,QH I 0 0] 118) by rw[E];have:=CF (w.alloc (AK #[QH Z ah ab,QH aa n1 ac] 26)) (AK #[AC AF,QH I 0 0,QH I 0 0,AC AF,QH I 0 0,QH I 0 0] 118);rwa [EW]at this);have a2:=A_ (by rw[E];simp:D.1.size=w.1.size+2);rw[<-E];clear E;obtain⟨a4,-,a8⟩:=bx aW;refine X_ sI ?_;dsimp only[DJ,DK,DI];iterate 2 refine C_ _ ?_
 refine D_ (MP.sl (B5j m.1 t)) ?_ ?_;·intro ai O H h u;obtain⟨aH,aI⟩:=F_ h;simp at u;refine G_ ?_;exact A1c (A6s _ m _ k t H ((au.below T).below h) ap aw aQ an ao)
 iterate 3 refine C_ _ ?_
 refine D_ (MP.sl (A6n us t)) ?_ ?_;·intro ai O H h u;obtain⟨aH,aI⟩:=F_ h;simp at u;refine G_ ?_;exact A1c (B9w _ m _ B n d us aB k t H ((au.o.below T.o).below h) ((aV.o.below T.o).below h) ap.o (by rw[aq.o];exact aw.o) aZ.o (by rw[aq.o];exact an) ao)
 refine D_ (MP.aggN (B4f (Z_ m.1 t.a) (Z_ m.1 t.b) (Z_ m.1 t.c) (A6n us t) 3)) ?_ ?_;·intro ai O H h u;obtain⟨aH,aI⟩:=F_ h;simp at u;obtain⟨⟨⟨C,a9,cC,bi,aE⟩,_⟩,⟨aR,ba,a3,bj,aF⟩,_⟩:=u;obtain rfl:3=a9:=aE.1;obtain rfl:3=ba:=aF.1;refine G_ ?_;exact B8i (B7w C cC _ _ _ _ aR a3 _ _ H aE aF aU a1)
 intro ai O wa h u a5;clear a5;simp at u;have bc:=u.2.2.2.2.2.2.2;obtain⟨W,aL⟩:=bc;generalize B4f (Z_ m.1 t.a) (Z_ m.1 t.b) (Z_ m.1 t.c) (A6n us t) 3=Y at *;obtain⟨aj,aM,ax,u1,ak,aN,ay,u2,al,aO,az,bo,am,aP,aA,bp,be,z8,_,_,_,_⟩:=DN W;rw[be]at W;have aS:=A_ W;have ar:=A_ (show ∀ b∈O 7,w.1.size+2<=b from λb G=>by have:=(aL b G).1;have:=a2.o;omega);have aY:=A_ (K_ aX h);have aT:=A_ (AI T h);obtain⟨bg,bh,bl⟩:=bx aY;generalize O 7=bd at *;clear u W aL z8 h a4 a8;go_wp2;refine BI (v:=AM #[AC Y.x.1.1,QH aj aM ax,QH ak aN ay,AC Y.y.1.1,QH al aO az,QH am aP aA]) (by simp[BO,results138,go_sem, *]) rfl ?_;refine⟨_,bd,rfl,aS.keep (λb G=>A0m (w.1.size+1) [AC Y.x.1.1,QH aj aM ax,QH ak aN ay,AC Y.y.1.1,QH al aO az,QH am aP aA] wa 0 b (by have:=ar b G;omega)),λb G=>by have:=ar.o b G;omega,?_⟩;exact(((((aT.setCell (p:=⟨w.1.size+1,0,I⟩) (JU _) _).setCell (p:=⟨w.1.size+1,1,I⟩) (JU _) _).setCell (p:=⟨w.1.size+1,2,I⟩) (JU _) _).setCell (p:=⟨w.1.size+1,3,I⟩) (JU _) _).setCell (p:=⟨w.1.size+1,4,I⟩) (JU _) _).setCell (p:=⟨w.1.size+1,5,I⟩) (JU _) _
structure LinD (p:TProblem) (us:List TRat):Prop where
 tri:∀ t∈p.1.triangles,A5v p.1.1.length t/\(0<=t.4/\t.4<3)/\GradOk (Z_ p.1.1 t.a) (Z_ p.1.1 t.b) (Z_ p.1.1 t.c)
 ok:p.1.1.all A1b=AD
 n40:p.1.1.length<=40
 t48:p.1.triangles.length<=48
 dl:p.2.length=3
 ul:us.length=p.1.1.length
 uo:us.all J_=AD
def grT (p:TProblem) (us:List TRat) (t:TTri):TPoint:=B4f (Z_ p.1.1 t.a) (Z_ p.1.1 t.b) (Z_ p.1.1 t.c) (A6n us t) 3
def B4w (p:TProblem) (t:TTri):TRat:=p.2.getD t.4.toNat A0h
def leT (p:TProblem) (us:List TRat) (t:TTri):TRat:=A0d (A0d (B4w p t) (A6c (Z_ p.1.1 t.a) (Z_ p.1.1 t.b) (Z_ p.1.1 t.c))) (A1k (grT p us t) (grT p us t))
theorem D8t (v:AJ) (p:TProblem) (b:List Nat) (B:Option AH) (n d:Nat) (us:List TRat) (aH:List Nat) (k:Nat) (t:TTri) (w:J) (ay:Agg w v p b) (ax:Sl w B n d us aH) (ae:LinD p us) (aw:p.1.triangles[k]?=QL t) :
  AR prog 83 #[v,QH B n d,QS QO k] w (A0c w (leT p us t)):=by
 have aX:=A_ ay;have aW:=A_ ax;have E:=A_ ae;have al:=A_ aw;have ab:=A_ (ae.tri t (CH aw));have aU:=A_ (by rw[<-ae.ul];exact ax.1.symm:n=p.1.1.length);obtain⟨af,az,ao,bK,ag,n1,ap,bL,ah,n2,aq,bN,ai,aA,c3,bO,rfl,rfl,aM,aN,a9,ba⟩:=TProblem.agg ay;have aD:=A_ (TMesh.mkAgg (x:=p.1) aM aN);clear aM aN a9 ba ay ax ae aw;go_enter func83,ntmps83;go_upto_region 1 with fail;obtain⟨H,O⟩:∃ H,H=(w.alloc (AK #[QH af az ao,QH ag n1 ap,QH ah n2 aq,QH ai aA c3] 29)).alloc (AK #[AC AF,QH I 0 0,QH I 0 0] 35):=⟨_,rfl⟩
 have aj:=A_ (by rw[O];exact(AV _).alloc sI _:Bw w H);have aE:=A_ (by rw[O];exact K_ (CF w _) (AV _):H.1[w.1.size]?=QL (AK #[QH af az ao,QH ag n1 ap,QH ah n2 aq,QH ai aA c3] 29));have aY:=A_ (show H.1[w.1.size+1]?=QL (AK #[AC AF,QH I 0 0,QH I 0 0] 35) by rw[O];have:=CF (w.alloc (AK #[QH af az ao,QH ag n1 ap,QH ah n2 aq,QH ai aA c3] 29)) (AK #[AC AF,QH I 0 0,QH I 0 0] 35);rwa [EW]at this);have a3:=A_ (by rw[O];simp:H.1.size=w.1.size+2);rw[<-O];clear O;obtain⟨ar,-,aO⟩:=bx aE;go_wp2_with fail;refine(B6z _ p.1 _ B n d us aH k t H (aD.below aj) (aW.below aj) al ab.1 aU ab.2.2 E.uo E.ok E.n40 E.t48).mono ?_;rintro _ bh ⟨v1,bM,rfl,ad,a8,aJ⟩;obtain⟨g,au⟩:∃ g,grT p us t=g:=⟨_,rfl⟩
 rw[show B4f (Z_ p.1.1 t.a) (Z_ p.1.1 t.b) (Z_ p.1.1 t.c) (A6n us t) 3=g from au]at ad;have a2:=A_ (by rw[leT,au]:leT p us t=A0d (A0d (B4w p t) (A6c (Z_ p.1.1 t.a) (Z_ p.1.1 t.b) (Z_ p.1.1 t.c))) (A1k g g));obtain⟨bm,bF,bq,u1,bn,bG,br,u2,bo,bH,bs,bQ,bp,bI,bt,bR,rfl,z8,_,_,_,_⟩:=DN ad;have aS:=A_ ad;have aa:=A_ aJ;clear ad a8 aJ z8 ar aO au;go_upto_region 2 with fail;refine Code.new λan am=>?_;have W:=A_ am.b;have aG:=A_ am.k;clear am;have ak:=A_ (AI (AI aj aa) W);have aF:=A_ (K_ (K_ aE aa) W);have aZ:=A_ (K_ (K_ aY aa) W);have aC:=A_ (aS.below W);obtain⟨ar,-,-⟩:=bx aF;obtain⟨bi,-,-⟩:=bx aG;have aO:w.1.size<an.1.size:=E_ aF;have bD:bh.1.size<an.1.size:=E_ aG;have bE:w.1.size+2<=an.1.size:=by have:=a3.o;have:=aa.size;have:=W.size;omega
 refine X_ sI ?_;dsimp only[DJ,DK,DI];iterate 2 refine C_ _ ?_
 refine D_ (MP.aggS (B4w p t)) ?_ ?_;·intro T G D h u;obtain⟨X,Y⟩:=F_ h;simp at u;refine G_ ?_;exact A7t (B1h _ p _ k t D ((aX.below ak).below h) al E.dl ab.2.1)
 iterate 3 refine C_ _ ?_
 refine D_ (MP.sl (B5j p.1.1 t)) ?_ ?_;·intro T G D h u;obtain⟨X,Y⟩:=F_ h;simp at u;refine G_ ?_;exact A1c (A6s _ p.1 _ k t D ((aD.below ak).below h) al ab.1 E.ok E.n40 E.t48)
 refine D_ (BP (A6c (Z_ p.1.1 t.a) (Z_ p.1.1 t.b) (Z_ p.1.1 t.c))) ?_ ?_;·intro T G D h u;obtain⟨X,Y⟩:=F_ h;simp at u;obtain⟨⟨C,bc,cC,bz,aI⟩,_⟩:=u;obtain rfl:3=bc:=aI.1;refine G_ ?_;exact H_ (B3h C cC _ _ _ _ D aI)
 refine D_ (BP (A0d (B4w p t) (A6c (Z_ p.1.1 t.a) (Z_ p.1.1 t.b) (Z_ p.1.1 t.c)))) ?_ ?_;·intro T G D h u;obtain⟨X,Y⟩:=F_ h;simp at u;refine G_ ?_;obtain⟨⟨_,bP,aB⟩,Z⟩:=u;exact H_ (A0n _ _ (B4w p t) _ _ _ D aB (by first|exact Z.1|exact Z.1.1))
 iterate 2 refine C_ _ ?_
 refine D_ (BP (A1k g g)) ?_ ?_;·intro T G D h u;obtain⟨X,Y⟩:=F_ h;simp at u;refine G_ ?_;exact H_ (A8z _ _ g g _ _ D (aC.below h) (aC.below h))
 refine D_ (BP (leT p us t)) ?_ ?_;·intro T G D h u;obtain⟨X,Y⟩:=F_ h;simp at u;refine G_ ?_;rw[a2.o];obtain⟨aB,Z⟩:=u;exact H_ (A0n _ _ _ (A1k g g) _ _ D aB.1 (by first|exact Z.1|exact Z.1.1))
 intro T G wa h u a7;clear a7;simp at u;have bg:=u.2.2.2.2.2.2.2.2.2.2.2.2;obtain⟨⟨ac,aK⟩,aL⟩:=bg;generalize leT p us t=bf at *;obtain⟨aP,bd,a4,bu,aQ,be,a5,bv,bj,bl,_,_⟩:=BK ac;rw[bj]at ac;have aR:=A_ ac;have aT:=A_ aK;have aV:=A_ (show ∀ b∈G 12,w.1.size+2<=b from λb a6=>by have:=(aL b a6).1;omega);have a1:=A_ (K_ aZ h);have bA:=AI ak h;obtain⟨bS,bT,bB⟩:=bx a1;generalize G 12=bJ at *;clear u ac aK aL bl h ar bi;go_wp2;refine BI (v:=AM #[AC bf.1.1,QH aP bd a4,QH aQ be a5]) (by simp[BO,results83,go_sem, *]) rfl ?_;refine A1s (lo:=w.1.size+2) aR.o aT.o aV.o oS ?_ ?_;·exact Above.go
 exact Below.go

def E2i (p:TProblem) (us:List TRat):Nat->TRat
 |0=>U_ 0
 |k+1=>A0k (E2i p us k) (leT p us (p.1.triangles.getD k ⟨0,0,0,0,0⟩))
def enL (p:TProblem) (us:List TRat):TRat:=E2i p us p.1.triangles.length
theorem F4j (v:AJ) (p:TProblem) (b:List Nat) (B:Option AH) (n d:Nat) (us:List TRat) (aN:List Nat) (w:J) (aB:Agg w v p b) (aR:Sl w B n d us aN) (ax:LinD p us) :
  AR prog 42 #[v,QH B n d] w (A0c w (enL p us)):=by
 have a5:=A_ aB;have a4:=A_ aR;have a2:=A_ ax;obtain⟨ad,ao,ah,bL,ae,n1,ai,bM,af,n2,aj,bN,ag,ap,c3,bO,rfl,rfl,bi,az,bj,bl⟩:=TProblem.agg aB;have aJ:=A_ az.1;have bE:n1<=48:=by rw[<-az.1];exact ax.t48
 clear bi az bj bl aB aR ax;go_enter func42,ntmps42;go_upto_region 1 with fail;obtain⟨G,Y⟩:∃ G,G=(w.alloc (AK #[QH ad ao ah,QH ae n1 ai,QH af n2 aj,QH ag ap c3] 29)).alloc (AK #[AC AF,QH I 0 0,QH I 0 0] 35):=⟨_,rfl⟩
 have aF:=A_ (by rw[Y];exact(AV _).alloc sI _:Bw w G);have a6:=A_ (by rw[Y];exact K_ (CF w _) (AV _):G.1[w.1.size]?=QL (AK #[QH ad ao ah,QH ae n1 ai,QH af n2 aj,QH ag ap c3] 29));have a7:=A_ (show G.1[w.1.size+1]?=QL (AK #[AC AF,QH I 0 0,QH I 0 0] 35) by rw[Y];have:=CF (w.alloc (AK #[QH ad ao ah,QH ae n1 ai,QH af n2 aj,QH ag ap c3] 29)) (AK #[AC AF,QH I 0 0,QH I 0 0] 35);rwa [EW]at this);have aK:=A_ (by rw[Y];simp:G.1.size=w.1.size+2);rw[<-Y];clear Y;go_wp2_with fail;refine(A0l 0 G oO).mono ?_;rintro _ wa ⟨bS,aU,rfl,al,ay,ac⟩;obtain⟨P1,p1,q1,X,P2,p2,q2,au,rfl,-,-,-⟩:=BK al;have bm:=ac.size;obtain⟨W,ak⟩:∃ W,W=wa.alloc (AK #[AC (U_ 0).1.1,QH P1 p1 q1,QH P2 p2 q2] 35):=⟨_,rfl⟩
 have O:=A_ (by rw[ak];exact AV _:Bw wa W);have D:=A_ (by rw[ak];exact CF wa _:W.1[wa.1.size]?=QL (AK #[AC (U_ 0).1.1,QH P1 p1 q1,QH P2 p2 q2] 35));have Z:=A_ (K_ (K_ a6 ac) O);have aI:=A_ (show AccSt w W wa.1.size (w.1.size+1) (E2i p us 0) P1 p1 q1 P2 p2 q2 aU from by have z:=aK.o;refine⟨AI (AI aF ac) O,⟨E_ D,⟨(B_ D (j:=0) rfl).1,(B_ D (j:=1) rfl).1,(B_ D (j:=2) rfl).1⟩,⟨(B_ D (j:=0) rfl).2,(B_ D (j:=1) rfl).2,(B_ D (j:=2) rfl).2⟩⟩,al.below O,(ay.older aF.size).below O,⟨λH=>by have:=al.lt _ H;omega,λH=>by have:=(ay.2 _ H).1;omega⟩,K_ (K_ a7.o ac) O.o,oS⟩);clear al ay ac;go_upto_region 2 with fail;rw[<-ak];clear ak;have bu:w.1.size<wa.1.size:=by have:=aK.o;omega
 obtain⟨aa,-⟩:=B_ Z (j:=0) rfl;obtain⟨X,-⟩:=B_ Z (j:=1) rfl;simp at aa X;have aC:w.1.size<W.1.size:=E_ Z;go_wp2_with fail;generalize wa.1.size=aw at *;go_loopg [12] n1 (λg s wr=>∃ (k:Nat) (P1:Option AH) (p1 q1:Nat) (P2:Option AH) (p2 q2:Nat) (rl:List Nat),k+g=n1/\s=QS QO k/\Hid (AccSt w wr aw (w.1.size+1) (E2i p us k) P1 p1 q1 P2 p2 q2 rl)/\Hid (wr.1[w.1.size]?=QL (AK #[QH ad ao ah,QH ae n1 ai,QH af n2 aj,QH ag ap c3] 29)));case atStart=>exact⟨0,P1,p1,q1,P2,p2,q2,aU,oS,rfl,aI.o,Z.o⟩
 case round =>
  clear aI Z aa X aC D O bm;obtain⟨k,P1,p1,q1,P2,p2,q2,rl,aQ,rfl,h,T⟩:=hrel;have bz:=h.rb.1;have aq:=A_ h.bl;rcases BN k n1 with am|am
  ·have bB:(k:Int)<n1:=oS
   obtain⟨g,rfl⟩:∃ g,gk=g+1:=⟨gk - 1,oS⟩
   have bg:=A_ (by omega:k+1+g=n1);obtain⟨t,aA⟩:∃ t,p.1.triangles[k]?=QL t:=⟨_,CV (by rw[aJ.o];exact am)⟩
   have a1:=A_ aA;have a9:=A_ (by rw[E2i,A0e aA]:E2i p us (k+1)=A0k (E2i p us k) (leT p us t));obtain⟨aa,-⟩:=B_ T (j:=0) rfl;obtain⟨X,-⟩:=B_ T (j:=1) rfl;obtain⟨au,-⟩:=B_ T (j:=2) rfl;obtain⟨aO,-⟩:=B_ T (j:=3) rfl;simp at aa X au aO;have aC:w.1.size<wr.1.size:=E_ T;obtain⟨_,⟨br,bs,bt⟩,_⟩:=h.rb;clear aQ am aA;go_wp2_with fail;refine X_ sI ?_;dsimp only[DJ,DK,DI];iterate 4 refine C_ _ ?_
   refine D_ (BP (leT p us t)) ?_ ?_;·intro aX aE aD u E;obtain⟨bd,bf⟩:=F_ u;simp at E;refine G_ ?_;exact H_ (D8t _ p _ B n d us aN k t aD ((a5.below aq).below u) ((a4.below aq).below u) a2 a1)
   refine D_ (BP (A0k (E2i p us k) (leT p us t))) ?_ ?_;·intro aX aE aD u E;obtain⟨bd,bf⟩:=F_ u;simp at E;refine G_ ?_;obtain⟨_,aV⟩:=E;exact H_ (A0x _ _ (E2i p us k) (leT p us t) _ _ aD (h.o.ag.below u) (by first|exact aV.1|exact aV.1.1))
   intro aX aE wb u E be;clear be;simp at E;have bo:=E.2.2.2.2.2;obtain⟨⟨ab,aP⟩,an⟩:=bo;rw[<-a9.o]at ab;obtain⟨aG,aS,aL,bT,aH,aT,aM,bU,bq,bn,-,-⟩:=BK ab;rw[bq]at ab;have aY:=A_ ab;have ar:=A_ (h.below u);have bh:=h.lo;have bF:=aq.size;have ba:=A_ (ar.o.set aY.o (F6l aP (λb bc=>(an b bc).1) oS) ⟨λH=>by have:=(an _ H).1;omega,λH=>by have:=(an _ H).1;omega⟩);have bv:aw<wb.1.size:=by have:=u.size;omega
   have a8:=A_ ((A0p (g:=aw) (v0:=AC (E2i p us (k+1)).1.1) (v1:=QH aG aS aL) (v2:=QH aH aT aM) w.1.size oS).trans (K_ T.o u));obtain⟨_,⟨aW,v1,v2⟩,⟨bP,bQ,bR⟩⟩:=ar.rb;generalize aE 5=bp at *;clear E ab aP an bn u h ar bh br bs bt aa X au aO aC;go_wp2_with fail;go_roundg g;case measure=>omega
   case rel=>exact⟨k+1,aG,aS,aL,aH,aT,aM,bp,bg,gN,ba,a8⟩
  obtain rfl:n1=k:=oS;have bA:¬ ((n1:Int)<n1):=oS;have a3:=A_ h.o.o;have aZ:=A_ (by unfold enL;rw[aJ.o]:E2i p us n1=enL p us);obtain⟨_,⟨aW,v1,v2⟩,_⟩:=h.rb;have bD:=h.lo;obtain⟨r0,bG,bH⟩:wr.cell? ⟨w.1.size+1,0,I⟩=QL (AC AF)/\wr.cell? ⟨w.1.size+1,1,I⟩=QL (QH I 0 0)/\wr.cell? ⟨w.1.size+1,2,I⟩=QL (QH I 0 0):=⟨(B_ h.rs rfl).1,(B_ h.rs rfl).1,(B_ h.rs rfl).1⟩
  obtain⟨bI,bJ,bK⟩:wr.frozen? ⟨w.1.size+1,0,I⟩=AF/\wr.frozen? ⟨w.1.size+1,1,I⟩=AF/\wr.frozen? ⟨w.1.size+1,2,I⟩=AF:=⟨(B_ h.rs rfl).2,(B_ h.rs rfl).2,(B_ h.rs rfl).2⟩
  clear aQ am h;go_wp2;refine BI (v:=AM #[AC (E2i p us n1).1.1,QH P1 p1 q1,QH P2 p2 q2]) (by simp[BO,results42,go_sem, *]) rfl ?_;rw[<-aZ.o];exact a3
def E2o (p:TProblem) (t:TTri):TRat:=p.3.getD t.4.toNat A0h
def ixT (t:TTri) (v:Int):Nat:=if t.a=v then 0 else if t.b=v then 1 else 2
def A5g (p:TProblem) (us:List TRat) (t:TTri) (v:Int):TPiece :=
 ⟨[Z_ p.1.1 t.a,Z_ p.1.1 t.b,Z_ p.1.1 t.c],Z_ p.1.1 (A3h t v).1,Z_ p.1.1 (A3h t v).2,
  A6c (Z_ p.1.1 t.a) (Z_ p.1.1 t.b) (Z_ p.1.1 t.c),B4w p t,grT p us t,A5w (Z_ p.1.1 t.a) (Z_ p.1.1 t.b) (Z_ p.1.1 t.c) (ixT t v),E2o p t⟩
def C1f (x:TPiece):TRat:=A3t (A0d (A0d x.f x.area) (mkR 1 3)) (A0d (A0d x.k x.area) (A1k x.grad x.own))
def byP (x:TPiece):TRat:=A3u (U_ 1) (A0d (U_ 2) x.area)
def E3j (x:TPiece):TPoint:=A5x (x.list.getD 0 pt0) (x.list.getD 1 pt0) (x.list.getD 2 pt0)
def sP (x:TPiece) (first second:TRat):TPoint:=A0v (byP x) (A4a (A0v second (A4a (E3j x) x.b)) (A0v first (A4a (E3j x) x.c)))
def dP (x:TPiece):TPoint:=A0v (byP x) (A4a x.c x.b)
def B0i (x:TPiece) (first second:TRat):TRat:=A0k (A3u (A0d x.area (A1k (dP x) (sP x first second))) x.k) (A0d (A0d x.area (A1k (dP x) x.grad)) (mkR 1 3))
def B3c (x:TPiece):TRat:=A3u (A0d x.area (A1k (dP x) (dP x))) x.k
def pc0:TPiece:=⟨[],pt0,pt0,A0h,A0h,pt0,pt0,A0h⟩
def A2h (xs:List TPiece):Nat->List TRat
 |0=>[U_ 0]
 |i+1=>A2h xs i++[A0k ((A2h xs i).getD i A0h) (C1f (xs.getD i pc0))]
def B3x (xs:List TPiece):Nat->TRat
 |0=>U_ 0
 |i+1=>A0k (B3x xs i) (B0i (xs.getD i pc0) ((A2h xs (i+1)).getD i A0h) ((A2h xs (i+1)).getD (i+1) A0h))
def B2i (xs:List TPiece):Nat->TRat
 |0=>U_ 0
 |i+1=>A0k (B2i xs i) (B3c (xs.getD i pc0))
def D7a (xs:List TPiece):TRat:=C3m (A3u (B3x xs xs.length) (B2i xs xs.length))
def A9c (xs:List TPiece) (cl:Bool):List TRat:=((A2h xs xs.length).take (if cl then xs.length else xs.length+1)).map λr=>A0k r (D7a xs)
def A1h (p:TProblem) (us:List TRat) (f:TFan) (v:Int):List TPiece:=f.triangles.map λk=>A5g p us (p.1.triangles.getD k.toNat A4p) v
def A6f (p:TProblem) (us:List TRat) (f:TFan) (v:Int):List TRat:=A9c (A1h p us f v) f.closed
def B2d (es:List TEdge) (v:Int) (sp:List Int) (fl o:List TRat):Nat->List TRat
 |0=>o
 |k+1=>(B2d es v sp fl o k).set (sp.getD k 0).toNat
  (bif decide ((es.getD (sp.getD k 0).toNat A4o).a=v)then A3t ((B2d es v sp fl o k).getD (sp.getD k 0).toNat A0h) (fl.getD k A0h)else A0k ((B2d es v sp fl o k).getD (sp.getD k 0).toNat A0h) (fl.getD k A0h))
def D7s:TFan:=⟨[],[],AF⟩
def A4q (p:TProblem) (us:List TRat) (es:List TEdge) (v:Int) (fs:List TFan) (o:List TRat):Nat->List TRat
 |0=>o
 |i+1=>B2d es v (fs.getD i D7s).spokes (A6f p us (fs.getD i D7s) v) (A4q p us es v fs o i) (fs.getD i D7s).spokes.length
def A3j (p:TProblem) (us:List TRat):Nat->List TRat
 |0=>CJ (P_ p.1.triangles).length (U_ 0)
 |v+1=>A4q p us (P_ p.1.triangles) v (A8x p.1.triangles v) (A3j p us v) (A8x p.1.triangles v).length
def A4i (p:TProblem) (us:List TRat):List TRat:=A3j p us p.1.1.length
def B7d (p:TProblem) (t:TTri):TRat:=A0d (E2o p t) (A6c (Z_ p.1.1 t.a) (Z_ p.1.1 t.b) (Z_ p.1.1 t.c))
def B2e (p:TProblem) (us:List TRat) (t:TTri):TPoint:=A0v (B4w p t) (grT p us t)
def D5o (p:TProblem) (us fl:List TRat) (k:Nat) (t:TTri):TRat :=
 A3u (C1a (Z_ p.1.1 t.a) (Z_ p.1.1 t.b) (Z_ p.1.1 t.c) (A7o (P_ p.1.triangles) fl k t) (B2e p us t)) (B4w p t)
def B3i (p:TProblem) (us fl:List TRat):Nat->List TRat
 |0=>[]
 |k+1=>B3i p us fl k++[D5o p us fl k (p.1.triangles.getD k A4p)]
def C3k (p:TProblem) (us fl:List TRat):List TRat:=B3i p us fl p.1.triangles.length
theorem B7o (xs:List TPiece):∀ i,(A2h xs i).length=i+1
 |0=>rfl
 |i+1=>by rw[A2h,EF,B7o xs i];rfl
theorem D0r (es:List TEdge) (v:Int) (sp:List Int) (fl o:List TRat):∀ k,(B2d es v sp fl o k).length=o.length
 |0=>rfl
 |k+1=>by rw[B2d,List.length_set,D0r es v sp fl o k]
theorem C2w (p:TProblem) (us:List TRat) (es:List TEdge) (v:Int) (fs:List TFan) (o:List TRat):∀ i,(A4q p us es v fs o i).length=o.length
 |0=>rfl
 |i+1=>by rw[A4q,D0r,C2w p us es v fs o i]
theorem C7s (p:TProblem) (us:List TRat):∀ v,(A3j p us v).length=(P_ p.1.triangles).length
 |0=>by rw[A3j,List.length_replicate]
 |v+1=>by rw[A3j,C2w,C7s p us v]
theorem A9j {g:Bool} {l:LF} (h:(D1s g l).ok=AD):g=AD/\l.ok=AD:=by
 unfold D1s at h;cases b:g&&l.ok with
 |false=>rw[b]at h;cases h
 |true=>rw[CK]at b;exact b
abbrev LP:=LF×LF
def LP.ok (P:LP):Bool:=P.1.ok&&P.2.ok
def E2c (P:LP):LP:=bif P.ok then P else(A4z,A4z)
def D4q (P Q:LP):LP:=E2c (C8u P.1 Q.1,C8u P.2 Q.2)
def E7o (P Q:LP):LP:=E2c (E1z P.1 Q.1,E1z P.2 Q.2)
def D6h (l:LF) (c:TPoint):LP:=E2c (A7p c.x l,A7p c.y l)
def C3y (k:TRat) (P:LP):LP:=E2c (A7p k P.1,A7p k P.2)
def C1h (c:TPoint) (P:LP):LF:=C8u (A7p c.x P.1) (A7p c.y P.2)
def RepP (s:A2c) (P:LP) (p:TPoint):Prop:=P.ok=AD->p.x=toR (P.1.at s)/\p.y=toR (P.2.at s)
theorem LP.ok_iff {P:LP}:P.ok=true↔P.1.ok=true/\P.2.ok=true:=by unfold LP.ok;simp
theorem RepP.fst {s:A2c} {P:LP} {p:TPoint} (h:RepP s P p) (h2:P.2.ok=AD):Rep s P.1 p.x:=λh1=>(h (LP.ok_iff.2 ⟨h1,h2⟩)).1
theorem RepP.snd {s:A2c} {P:LP} {p:TPoint} (h:RepP s P p) (h1:P.1.ok=AD):Rep s P.2 p.y:=λh2=>(h (LP.ok_iff.2 ⟨h1,h2⟩)).2
theorem RepP.if_ {s:A2c} {P:LP} {p:TPoint} (E:SrcIn s) (h:P.ok=AD->Rep s P.1 p.x/\Rep s P.2 p.y):RepP s (E2c P) (ifP p):=by
 unfold E2c;cases D:P.ok with
 |false=>intro h;cases h
 |true =>
  intro _
  obtain⟨b,u⟩:=h D
  obtain⟨k1,k2⟩:=LP.ok_iff.1 D
  have e:A1b p=AD:=by unfold A1b;rw[b.val E k1,u.val E k2];rfl
  unfold ifP
  rw[e]
  exact⟨b k1,u k2⟩
theorem RepP.add {s:A2c} {P Q:LP} {p q:TPoint} (u:SrcIn s) (D:RepP s P p) (E:RepP s Q q):RepP s (D4q P Q) (A3y p q):=by
 refine RepP.if_ u λG=>?_;obtain⟨k1,k2⟩:=LP.ok_iff.1 G;have b:=(A9j k1).1;have h:=(A9j k2).1;rw[CK]at b h;exact⟨Rep.add u (D.fst h.1) (E.fst h.2),Rep.add u (D.snd b.1) (E.snd b.2)⟩
theorem RepP.sub {s:A2c} {P Q:LP} {p q:TPoint} (u:SrcIn s) (D:RepP s P p) (E:RepP s Q q):RepP s (E7o P Q) (A4a p q):=by
 refine RepP.if_ u λG=>?_;obtain⟨k1,k2⟩:=LP.ok_iff.1 G;have b:=(A9j k1).1;have h:=(A9j k2).1;rw[CK]at b h;exact⟨Rep.sub u (D.fst h.1) (E.fst h.2),Rep.sub u (D.snd b.1) (E.snd b.2)⟩
theorem RepP.con {s:A2c} {l:LF} {r:TRat} {c:TPoint} (hs:SrcIn s) (h:Rep s l r):RepP s (D6h l c) (A0v r c) :=
 RepP.if_ hs λ_=>⟨Rep.scale' hs h,Rep.scale' hs h⟩
theorem RepP.scale {s:A2c} {k:TRat} {P:LP} {p:TPoint} (b:SrcIn s) (h:RepP s P p):RepP s (C3y k P) (A0v k p):=by
 refine RepP.if_ b λE=>?_;obtain⟨k1,k2⟩:=LP.ok_iff.1 E;have u:=(A9j k1).1;have D:=(A9j k2).1;rw[CK]at u D;exact⟨Rep.scale b (h.fst D.2),Rep.scale b (h.snd u.2)⟩
theorem C9p {c:TPoint} {P:LP} (h:(C1h c P).ok=AD):P.1.ok=AD/\P.2.ok=AD:=by
 have a:=(A9j h).1;rw[CK]at a;have b1:=(A9j a.1).1;have b2:=(A9j a.2).1;rw[CK]at b1 b2;exact⟨b1.2,b2.2⟩
theorem D0s {s:A2c} {c:TPoint} {P:LP} {p:TPoint} (hs:SrcIn s) (h:RepP s P p):Rep s (C1h c P) (A1k c p):=λhk=>by
 obtain⟨k1,k2⟩:=C9p hk
 exact Rep.add hs (Rep.scale hs (h.fst k2)) (Rep.scale hs (h.snd k1)) hk
theorem D8d {s:A2c} {c:TPoint} {P:LP} {p:TPoint} (hs:SrcIn s) (h:RepP s P p):Rep s (C1h c P) (A1k p c):=λhk=>by
 obtain⟨k1,k2⟩:=C9p hk
 exact Rep.add hs (Rep.scale' hs (h.fst k2)) (Rep.scale' hs (h.snd k1)) hk
def RepL (s:A2c) (ls:List LF) (rs:List TRat):Prop:=ls.length=rs.length/\∀ i,Rep s (ls.getD i A4z) (rs.getD i A0h)
theorem RepL.nil {s:A2c}:RepL s [] []:=⟨rfl,λi=>by simpa using Rep.bad⟩
theorem C4z {α:Type} (l m:List α) (d:α) (i:Nat):(l++m).getD i d=if i<l.length then l.getD i d else m.getD (i - l.length) d:=by
 simp only[DY];split;·rw[List.getElem?_append_left (by assumption)]
 rw[List.getElem?_append_right oS]
theorem RepL.push {s:A2c} {ls:List LF} {b:List TRat} {l:LF} {r:TRat} (h:RepL s ls b) (u:Rep s l r):RepL s (ls++[l]) (b++[r]):=by
 refine⟨by simp[h.1],λi=>?_⟩;rw[C4z,C4z,h.1];split;·exact h.2 i
 ·cases D:i - b.length with
  |zero=>exact u
  |succ n=>simpa using Rep.bad
theorem RepL.set {s:A2c} {ls:List LF} {u:List TRat} {l:LF} {r:TRat} (h:RepL s ls u) (k:Nat) (D:Rep s l r):RepL s (ls.set k l) (u.set k r):=by
 refine⟨by simp[h.1],λi=>?_⟩;simp only[DY,List.getElem?_set];by_cases b:k=i
 ·subst b
  rw[if_pos rfl,if_pos rfl,h.1];split;·exact D
  exact Rep.bad
 rw[if_neg b,if_neg b];have:=h.2 i;simpa only [DY]using this
theorem RepL.take {s:A2c} {ls:List LF} {b:List TRat} (h:RepL s ls b) (n:Nat):RepL s (ls.take n) (b.take n):=by
 refine⟨by simp[h.1],λi=>?_⟩;simp only[DY,List.getElem?_take];split;·have:=h.2 i;simpa only [DY]using this
 exact Rep.bad
theorem RepL.map {s:A2c} {ls:List LF} {u:List TRat} {f:LF->LF} {g:TRat->TRat} (h:RepL s ls u) (D:∀ l r,Rep s l r->Rep s (f l) (g r)):RepL s (ls.map f) (u.map g):=by
 refine⟨by simp[h.1],λi=>?_⟩;have b:=h.2 i;simp only[DY,List.getElem?_map]at b ⊢;by_cases E:i<ls.length
 ·have G:i<u.length:=by have:=h.1;omega
  rw[CV E,CV G]at b ⊢;exact D _ _ b
 rw[List.getElem?_eq_none oS];exact Rep.bad
theorem RepL.replicate {s:A2c} (n:Nat):RepL s (CJ n A4k) (CJ n (U_ 0)):=by
 refine⟨sI,λi=>?_⟩;simp only[DY,List.getElem?_replicate];split;·exact Rep.zero
 exact Rep.bad
def D9c (ls:List LF):Bool:=ls.all LF.ok
theorem RepL.val {s:A2c} {ls:List LF} {D:List TRat} (h:RepL s ls D) (O:SrcIn s) (G:D9c ls=AD):∀ r∈D,J_ r=AD:=by
 intro r H;obtain⟨i,E,rfl⟩:=List.getElem_of_mem H;have b:=h.2 i;have u:i<ls.length:=by have:=h.1;omega
 simp only[DY,CV E,CV u]at b;exact b.val O (BJ.1 G _ (List.getElem_mem u))
def arC (ps:List TPoint) (t:TTri):TRat:=A6c (Z_ ps t.a) (Z_ ps t.b) (Z_ ps t.c)
def byC (ps:List TPoint) (t:TTri):TRat:=A3u (U_ 1) (A0d (U_ 2) (arC ps t))
def E8d (ps:List TPoint) (t:TTri):TPoint:=A5x (Z_ ps t.a) (Z_ ps t.b) (Z_ ps t.c)
def bC (ps:List TPoint) (t:TTri) (v:Int):TPoint:=Z_ ps (A3h t v).1
def cC (ps:List TPoint) (t:TTri) (v:Int):TPoint:=Z_ ps (A3h t v).2
def E9a (ps:List TPoint) (t:TTri) (v:Int):TPoint:=A5w (Z_ ps t.a) (Z_ ps t.b) (Z_ ps t.c) (ixT t v)
def dC (ps:List TPoint) (t:TTri) (v:Int):TPoint:=A0v (byC ps t) (A4a (cC ps t v) (bC ps t v))
def zbC (ps:List TPoint) (t:TTri) (v:Int):TPoint:=A4a (E8d ps t) (bC ps t v)
def zcC (ps:List TPoint) (t:TTri) (v:Int):TPoint:=A4a (E8d ps t) (cC ps t v)
def ddC (ps:List TPoint) (t:TTri) (v:Int):TRat:=A0d (arC ps t) (A1k (dC ps t v) (dC ps t v))
def E8b (a b c:TPoint) (vs:List LF):Nat->LP
 |0=>(A4k,A4k)
 |k+1=>D4q (E8b a b c vs k) (D6h (vs.getD k A4z) (A5w a b c k))
def grF (ps:List TPoint) (ul:List LF) (t:TTri):LP:=E8b (Z_ ps t.a) (Z_ ps t.b) (Z_ ps t.c) [ul.getD t.a.toNat A4z,ul.getD t.b.toNat A4z,ul.getD t.c.toNat A4z] 3
def kC (ks:List TRat) (t:TTri):TRat:=ks.getD t.4.toNat A0h
def E7y (ps:List TPoint) (ks:List TRat) (ul fl:List LF) (t:TTri) (v:Int):LF :=
 E1z (A7p (mkR 1 3) (A7p (arC ps t) (fl.getD t.4.toNat A4z))) (A7p (A0d (kC ks t) (arC ps t)) (C1h (E9a ps t v) (grF ps ul t)))
def sF (ps:List TPoint) (t:TTri) (v:Int) (first second:LF):LP:=C3y (byC ps t) (E7o (D6h second (zbC ps t v)) (D6h first (zcC ps t v)))
def D7b (ps:List TPoint) (ks:List TRat) (ul:List LF) (t:TTri) (v:Int) (first second:LF):LF :=
 C8u (E6y (A7p (arC ps t) (C1h (dC ps t v) (sF ps t v first second))) (kC ks t)) (A7p (mkR 1 3) (A7p (arC ps t) (C1h (dC ps t v) (grF ps ul t))))
def E4p (ps:List TPoint) (ks:List TRat) (t:TTri) (v:Int):TRat:=A3u (ddC ps t v) (kC ks t)
def C5w (ps:List TPoint) (ks:List TRat) (ul fl:List LF) (tl:List TTri) (v:Int):Nat->List LF
 |0=>[A4k]
 |i+1=>C5w ps ks ul fl tl v i++[C8u ((C5w ps ks ul fl tl v i).getD i A4z) (E7y ps ks ul fl (tl.getD i A4p) v)]
def D7o (ps:List TPoint) (ks:List TRat) (ul fl:List LF) (tl:List TTri) (v:Int):Nat->LF
 |0=>A4k
 |i+1=>C8u (D7o ps ks ul fl tl v i) (D7b ps ks ul (tl.getD i A4p) v ((C5w ps ks ul fl tl v (i+1)).getD i A4z) ((C5w ps ks ul fl tl v (i+1)).getD (i+1) A4z))
def D2u (ps:List TPoint) (ks:List TRat) (tl:List TTri) (v:Int):Nat->TRat
 |0=>U_ 0
 |i+1=>A0k (D2u ps ks tl v i) (E4p ps ks (tl.getD i A4p) v)
def E5f (ps:List TPoint) (ks:List TRat) (ul fl:List LF) (tl:List TTri) (v:Int):LF:=E8k (E6y (D7o ps ks ul fl tl v tl.length) (D2u ps ks tl v tl.length))
def D8q (ps:List TPoint) (ks:List TRat) (ul fl:List LF) (tl:List TTri) (v:Int) (cl:Bool):List LF :=
 ((C5w ps ks ul fl tl v tl.length).take (if cl then tl.length else tl.length+1)).map λl=>C8u l (E5f ps ks ul fl tl v)
def A6g (ts:List TTri) (f:TFan):List TTri:=f.triangles.map λk=>ts.getD k.toNat A4p
def E8y (m:TMesh) (ks:List TRat) (ul fl:List LF) (f:TFan) (v:Int):List LF:=D8q m.1 ks ul fl (A6g m.triangles f) v f.closed
def E5e (es:List TEdge) (v:Int) (sp:List Int) (xs o:List LF):Nat->List LF
 |0=>o
 |k+1=>(E5e es v sp xs o k).set (sp.getD k 0).toNat
  (bif decide ((es.getD (sp.getD k 0).toNat A4o).a=v)then E1z ((E5e es v sp xs o k).getD (sp.getD k 0).toNat A4z) (xs.getD k A4z)else C8u ((E5e es v sp xs o k).getD (sp.getD k 0).toNat A4z) (xs.getD k A4z))
def C7c (m:TMesh) (ks:List TRat) (ul fl:List LF) (es:List TEdge) (v:Int) (fs:List TFan) (o:List LF):Nat->List LF
 |0=>o
 |i+1=>E5e es v (fs.getD i D7s).spokes (E8y m ks ul fl (fs.getD i D7s) v) (C7c m ks ul fl es v fs o i) (fs.getD i D7s).spokes.length
def D1i (m:TMesh) (ks:List TRat) (ul fl:List LF):Nat->List LF
 |0=>CJ (P_ m.triangles).length A4k
 |v+1=>C7c m ks ul fl (P_ m.triangles) v (A8x m.triangles v) (D1i m ks ul fl v) (A8x m.triangles v).length
def B2x (m:TMesh) (ks:List TRat) (ul fl:List LF):List LF:=D1i m ks ul fl m.1.length
def C3e (f:TEdge->Int) (es:List TEdge) (xs:List LF) (t:Int):Nat->LF
 |0=>A4k
 |k+1=>if f (es.getD k A4o)=t then C8u (C3e f es xs t k) (xs.getD k A4z)else C3e f es xs t k
def E9j (es:List TEdge) (xs:List LF) (t:Int):LF:=E1z (C3e TEdge.left es xs t es.length) (C3e TEdge.right es xs t es.length)
def E3o (ps:List TPoint) (fl:List LF) (t:TTri):LF:=A7p (arC ps t) (fl.getD t.4.toNat A4z)
def D9j (ps:List TPoint) (ks:List TRat) (ul:List LF) (t:TTri):LP:=C3y (kC ks t) (grF ps ul t)
def D4b (es:List TEdge) (xs:List LF) (k a b:Int):LF:=if (es.getD (A3z es (A2i a b)) A4o).left=k then xs.getD (A3z es (A2i a b)) A4z else E8k (xs.getD (A3z es (A2i a b)) A4z)
def D3b (es:List TEdge) (xs:List LF) (k:Int) (t:TTri):List LF:=[D4b es xs k t.b t.c,D4b es xs k t.c t.a,D4b es xs k t.a t.b]
def E5h (l:List TPoint) (xs:List LF) (z:TPoint):Nat->LP
 |0=>(A4k,A4k)
 |k+1=>D4q (E5h l xs z k) (D6h (xs.getD k A4z) (A4a z (l.getD k pt0)))
def E8v (a b c:TPoint) (xs:List LF) (z:TPoint):LP:=C3y (A3u (U_ 1) (A2y a b c)) (E5h [a,b,c] xs z 3)
theorem RepP.zero {s:A2c}:RepP s (A4k,A4k) (ptI 0 0):=λ_=>⟨Rep.zero rfl,Rep.zero rfl⟩
theorem D3m {s:A2c} {a b c:TPoint} {ls:List LF} {vs:List TRat} (hs:SrcIn s) (h:∀ i,Rep s (ls.getD i A4z) (vs.getD i A0h)):∀ k,RepP s (E8b a b c ls k) (B4f a b c vs k)
 |0=>RepP.zero
 |k+1=>RepP.add hs (D3m hs h k) (RepP.con hs (h k))
theorem D2k {s:A2c} {p:TProblem} {ul:List LF} {us:List TRat} {t:TTri} (h:SrcIn s) (b:RepL s ul us):RepP s (grF p.1.1 ul t) (grT p us t):=by
 refine D3m h (λi=>?_) 3;match i with
 |0=>exact b.2 _
 |1=>exact b.2 _
 |2=>exact b.2 _
 |n+3=>exact Rep.bad
theorem D8e (p:TProblem) (us:List TRat) (t:TTri) (v:Int):C1f (A5g p us t v)=A3t (A0d (A0d (p.3.getD t.4.toNat A0h) (arC p.1.1 t)) (mkR 1 3)) (A0d (A0d (B4w p t) (arC p.1.1 t)) (A1k (grT p us t) (E9a p.1.1 t v))):=by
 simp only[C1f,A5g,arC,E9a,E2o]
theorem D4s (p:TProblem) (us:List TRat) (t:TTri) (v:Int) (b h:TRat):B0i (A5g p us t v) b h =
  A0k (A3u (A0d (arC p.1.1 t) (A1k (dC p.1.1 t v) (A0v (byC p.1.1 t) (A4a (A0v h (zbC p.1.1 t v)) (A0v b (zcC p.1.1 t v)))))) (B4w p t)) (A0d (A0d (arC p.1.1 t) (A1k (dC p.1.1 t v) (grT p us t))) (mkR 1 3)):=by
 simp only[B0i,sP,dP,byP,E3j,A5g,arC,dC,byC,zbC,zcC,E8d,bC,cC,List.getD_cons_zero,List.getD_cons_succ]
theorem D4x (p:TProblem) (us:List TRat) (t:TTri) (v:Int):B3c (A5g p us t v)=A3u (ddC p.1.1 t v) (B4w p t):=by
 simp only[B3c,dP,byP,A5g,ddC,arC,dC,byC,bC,cC]
theorem E2p {s:A2c} {p:TProblem} {ks:List TRat} {ul h:List LF} {us:List TRat} {t:TTri} {v:Int} (b:SrcIn s) (D:kC ks t=B4w p t) (E:RepL s ul us) (u:RepL s h p.3) :
  Rep s (E7y p.1.1 ks ul h t v) (C1f (A5g p us t v)):=by
 unfold E7y;rw[D,D8e];exact Rep.sub b (Rep.scale' b (Rep.scale' b (u.2 _))) (Rep.scale b (D8d b (D2k b E)))
theorem D7y {s:A2c} {p:TProblem} {ks:List TRat} {ul:List LF} {us:List TRat} {t:TTri} {v:Int} {l1 l2:LF} {h u:TRat} (b:SrcIn s) (G:kC ks t=B4w p t) (H:RepL s ul us) (D:Rep s l1 h) (E:Rep s l2 u) :
  Rep s (D7b p.1.1 ks ul t v l1 l2) (B0i (A5g p us t v) h u):=by
 unfold D7b;rw[G,D4s];exact Rep.add b (Rep.div b (Rep.scale b (D0s b (RepP.scale b (RepP.sub b (RepP.con b E) (RepP.con b D)))))) (Rep.scale' b (Rep.scale b (D0s b (D2k b H))))
theorem C5i {α β:Type} {l:List α} {f:α->β} {i:Nat} (d:α) (e:β) (h:i<l.length):(l.map f).getD i e=f (l.getD i d):=by
 simp[DY,CV h]
theorem B9b {α:Type} {l:List α} {i:Nat} {d:α} (h:i<l.length):l.getD i d∈l:=by
 simp[DY,CV h]
def D1o (p:TProblem) (ks:List TRat) (tl:List TTri):Prop:=∀ t∈tl,kC ks t=B4w p t
def A4u (p:TProblem) (us:List TRat) (tl:List TTri) (v:Int):List TPiece:=tl.map λt=>A5g p us t v
theorem B6i {s:A2c} {p:TProblem} {ks:List TRat} {ul fl:List LF} {us:List TRat} {tl:List TTri} {v:Int} (hs:SrcIn s) (hk:D1o p ks tl) (hu:RepL s ul us) (hf:RepL s fl p.3):∀ i,i<=tl.length->RepL s (C5w p.1.1 ks ul fl tl v i) (A2h (A4u p us tl v) i)
 |0,_=>RepL.push RepL.nil Rep.zero
 |i+1,h=>by
  have ih:=B6i (tl:=tl) (v:=v) hs hk hu hf i oS
  refine RepL.push ih (Rep.add hs (ih.2 i) ?_)
  rw[A4u,C5i A4p pc0 oS]
  exact E2p hs (hk _ (B9b oS)) hu hf
theorem C6m {s:A2c} {p:TProblem} {ks:List TRat} {ul fl:List LF} {us:List TRat} {tl:List TTri} {v:Int} (hs:SrcIn s) (hk:D1o p ks tl) (hu:RepL s ul us) (hf:RepL s fl p.3):∀ i,i<=tl.length->Rep s (D7o p.1.1 ks ul fl tl v i) (B3x (A4u p us tl v) i)
 |0,_=>Rep.zero
 |i+1,h=>by
  have ho:=B6i (tl:=tl) (v:=v) hs hk hu hf (i+1) h
  refine Rep.add hs (C6m hs hk hu hf i oS) ?_
  have e:(A4u p us tl v).getD i pc0=A5g p us (tl.getD i A4p) v:=by rw[A4u,C5i A4p pc0 oS]
  rw[e]
  exact D7y hs (hk _ (B9b oS)) hu (ho.2 _) (ho.2 _)
theorem C9t {p:TProblem} {ks us:List TRat} {tl:List TTri} {v:Int} (hk:D1o p ks tl):∀ i,i<=tl.length->D2u p.1.1 ks tl v i=B2i (A4u p us tl v) i
 |0,_=>rfl
 |i+1,h=>by
  have e:(A4u p us tl v).getD i pc0=A5g p us (tl.getD i A4p) v:=by rw[A4u,C5i A4p pc0 oS]
  rw[D2u,B2i,C9t (us:=us) hk i oS,e,E4p,hk _ (B9b oS),D4x]
theorem D7u {s:A2c} {p:TProblem} {ks:List TRat} {ul u:List LF} {us:List TRat} {tl:List TTri} {v:Int} (cl:Bool) (b:SrcIn s) (h:D1o p ks tl) (E:RepL s ul us) (D:RepL s u p.3) :
  RepL s (D8q p.1.1 ks ul u tl v cl) (A9c (A4u p us tl v) cl):=by
 have e:(A4u p us tl v).length=tl.length:=by simp[A4u]
 unfold D8q A9c;rw[e];refine((B6i b h E D _ (BH _)).take _).map λl r G=>Rep.add b G ?_;unfold E5f D7a;rw[e,<-C9t (us:=us) h _ (BH _)];exact Rep.neg b (Rep.div b (C6m b h E D _ (BH _)))
theorem C9j (p:TProblem) (us:List TRat) (f:TFan) (v:Int):A1h p us f v=A4u p us (A6g p.1.triangles f) v:=by
 unfold A1h A4u A6g;rw[List.map_map];rfl
theorem D3x {s:A2c} {p:TProblem} {ks:List TRat} {ul b:List LF} {us:List TRat} {f:TFan} {v:Int} (D:SrcIn s) (u:D1o p ks (A6g p.1.triangles f)) (E:RepL s ul us) (h:RepL s b p.3) :
  RepL s (E8y p.1 ks ul b f v) (A6f p us f v):=by
 unfold A6f;rw[C9j];exact D7u _ D u E h
theorem D5a {s:A2c} {es:List TEdge} {v:Int} {sp:List Int} {xs o:List LF} {ys q:List TRat} (hs:SrcIn s) (hx:RepL s xs ys) (ho:RepL s o q):∀ k,RepL s (E5e es v sp xs o k) (B2d es v sp ys q k)
 |0=>ho
 |k+1=>by
  have ih:=D5a (es:=es) (v:=v) (sp:=sp) hs hx ho k
  refine ih.set _ ?_
  cases decide ((es.getD (sp.getD k 0).toNat A4o).a=v)
  ·exact Rep.add hs (ih.2 _) (hx.2 _)
  exact Rep.sub hs (ih.2 _) (hx.2 _)
theorem C0g {s:A2c} {p:TProblem} {ks:List TRat} {ul fl:List LF} {us:List TRat} {es:List TEdge} {v:Int} {fs:List TFan} {o:List LF} {q:List TRat} (hs:SrcIn s) (hk:∀ f,D1o p ks (A6g p.1.triangles f)) (hu:RepL s ul us) (hf:RepL s fl p.3) (ho:RepL s o q) :
  ∀ i,RepL s (C7c p.1 ks ul fl es v fs o i) (A4q p us es v fs q i)
 |0=>ho
 |i+1=>D5a hs (D3x hs (hk _) hu hf) (C0g hs hk hu hf ho i) _
theorem C2e {s:A2c} {p:TProblem} {ks:List TRat} {ul fl:List LF} {us:List TRat} (hs:SrcIn s) (hk:∀ f,D1o p ks (A6g p.1.triangles f)) (hu:RepL s ul us) (hf:RepL s fl p.3):∀ v,RepL s (D1i p.1 ks ul fl v) (A3j p us v)
 |0=>RepL.replicate _
 |v+1=>C0g hs hk hu hf (C2e hs hk hu hf v) _
theorem E1h {s:A2c} {p:TProblem} {ks:List TRat} {ul fl:List LF} {us:List TRat} (hs:SrcIn s) (hk:∀ f,D1o p ks (A6g p.1.triangles f)) (hu:RepL s ul us) (hf:RepL s fl p.3):RepL s (B2x p.1 ks ul fl) (A4i p us):=C2e hs hk hu hf _
theorem C0r {s:A2c} {es:List TEdge} {xs:List LF} {ys:List TRat} {t:Int} (hs:SrcIn s) (hx:RepL s xs ys):∀ k,Rep s (C3e TEdge.left es xs t k) (A1e es ys t k)
 |0=>Rep.zero
 |k+1=>by
  unfold C3e A1e
  split
  ·exact Rep.add hs (C0r hs hx k) (hx.2 _)
  exact C0r hs hx k
theorem B7z {s:A2c} {es:List TEdge} {xs:List LF} {ys:List TRat} {t:Int} (hs:SrcIn s) (hx:RepL s xs ys):∀ k,Rep s (C3e TEdge.right es xs t k) (A1i es ys t k)
 |0=>Rep.zero
 |k+1=>by
  unfold C3e A1i
  split
  ·exact Rep.add hs (B7z hs hx k) (hx.2 _)
  exact B7z hs hx k
theorem E4d {s:A2c} {es:List TEdge} {xs:List LF} {ys:List TRat} {t:Int} (hs:SrcIn s) (hx:RepL s xs ys):Rep s (E9j es xs t) (D1y es ys t):=Rep.sub hs (C0r hs hx _) (B7z hs hx _)
theorem E1e {s:A2c} {p:TProblem} {fl:List LF} {t:TTri} (hs:SrcIn s) (hf:RepL s fl p.3):Rep s (E3o p.1.1 fl t) (B7d p t):=Rep.scale' hs (hf.2 _)
theorem E1l {s:A2c} {p:TProblem} {ks:List TRat} {ul:List LF} {us:List TRat} {t:TTri} (b:SrcIn s) (h:kC ks t=B4w p t) (u:RepL s ul us):RepP s (D9j p.1.1 ks ul t) (B2e p us t):=by
 unfold D9j;rw[h];exact RepP.scale b (D2k b u)
theorem E6f {r:TRat} (h:J_ r=AD):D0y r=C3m r:=by unfold D0y C3m;rw[h];rfl
theorem C1o {s:A2c} {es:List TEdge} {xs:List LF} {ys:List TRat} {k a b:Int} (D:SrcIn s) (E:RepL s xs ys):Rep s (D4b es xs k a b) (B4m es ys k a b):=by
 unfold D4b B4m;split;·exact E.2 _
 intro u;have h:=E.2 (A3z es (A2i a b));rw[E6f (h.val D (A9j u).1)];exact Rep.neg D h u
theorem D5z {s:A2c} {es:List TEdge} {xs:List LF} {ys:List TRat} {k:Int} {t:TTri} (hs:SrcIn s) (hx:RepL s xs ys):RepL s (D3b es xs k t) (A7o es ys k t) :=
 ((RepL.nil.push (C1o hs hx)).push (C1o hs hx)).push (C1o hs hx)
theorem C9i {s:A2c} {l:List TPoint} {xs:List LF} {ys:List TRat} {z:TPoint} (hs:SrcIn s) (hx:RepL s xs ys):∀ k,RepP s (E5h l xs z k) (A3l l ys z k)
 |0=>RepP.zero
 |k+1=>RepP.add hs (C9i hs hx k) (RepP.con hs (hx.2 _))
theorem E4x {s:A2c} {a b c:TPoint} {xs:List LF} {ys:List TRat} {z:TPoint} (hs:SrcIn s) (hx:RepL s xs ys):RepP s (E8v a b c xs z) (A2q a b c ys z):=RepP.scale hs (C9i hs hx 3)
structure Ov (M u:Int) (r:TRat):Prop where
 m0:0<M
 m1:M<10 ^ 45
 u0:-(10 ^ 100)<u
 u1:u<10 ^ 100
 is:r=toR ⟨u,M⟩
theorem E6n {n d:Int} (b:0<d) (u:d<10 ^ 190) (D:-(10 ^ 190)<n) (E:n<10 ^ 190):(Q.ok ⟨n,d⟩)=AD:=by
 have G:=E9g;refine Q.ok_iff.2 ⟨b,?_,?_,?_⟩<;>(show _<_)<;>dsimp only<;>(generalize (10:Int) ^ 200=S at *;generalize (10:Int) ^ 190=h at *;omega)
theorem B2p {a b A B:Int} (u:-A<a) (D:a<A) (E:-B<b) (G:b<B):-(A*B)<a*b/\a*b<A*B:=by
 have h:(a*b).natAbs<(A*B).natAbs:=by rw[Int.natAbs_mul,Int.natAbs_mul];exact Nat.mul_lt_mul'' oS oS
 have H:0<=A*B:=IP oS oS;omega
theorem Ov.ok {M u:Int} {r:TRat} (h:Ov M u r):(Q.ok ⟨u,M⟩)=AD:=by
 have G:=h.m1;have H:=h.u0;have O:=h.u1;have D:(10:Int) ^ 45<10 ^ 190:=dK;have E:(10:Int) ^ 100<10 ^ 190:=dK;exact E6n h.m0 (by generalize (10:Int) ^ 45=S at *;generalize (10:Int) ^ 190=b at *;omega) (by generalize (10:Int) ^ 100=S at *;generalize (10:Int) ^ 190=b at *;omega) (by generalize (10:Int) ^ 100=S at *;generalize (10:Int) ^ 190=b at *;omega)
theorem Ov.val {M u:Int} {r:TRat} (h:Ov M u r):J_ r=AD:=by rw[h.is];exact A8q h.ok
theorem Ov.cong {M u b D:Int} {r:TRat} (h:Ov M u r) (E:0<b) (m1:b<10 ^ 45) (u0:-(10 ^ 100)<D) (u1:D<10 ^ 100) (e:u*b=D*M):Ov b D r:=by
 have G:Ov b D (toR ⟨D,b⟩):=⟨E,m1,u0,u1,rfl⟩
 refine⟨E,m1,u0,u1,?_⟩;rw[h.is];exact B7t h.ok G.ok (decide_eq_true e)
theorem Ov.add {M u v:Int} {r q:TRat} (b:Ov M u r) (E:Ov M v q) (u0:-(10 ^ 100)<u+v) (u1:u+v<10 ^ 100):Ov M (u+v) (A0k r q):=by
 refine⟨b.m0,b.m1,u0,u1,?_⟩;have T:Ov M (u+v) (toR ⟨u+v,M⟩):=⟨b.m0,b.m1,u0,u1,rfl⟩
 have G:(E0z ⟨u,M⟩ ⟨v,M⟩).ok=AD:=by
  have a:=B2p u0 u1 (by have:=b.m0;have:(0:Int)<10 ^ 45:=dK;omega:-(10 ^ 45)<M) b.m1;have H:=B2p (by have:=b.m0;have:(0:Int)<10 ^ 45:=dK;omega:-(10 ^ 45)<M) b.m1 (by have:=b.m0;have:(0:Int)<10 ^ 45:=dK;omega:-(10 ^ 45)<M) b.m1;have h:(10:Int) ^ 100*10 ^ 45<10 ^ 190:=dK;have O:(10:Int) ^ 45*10 ^ 45<10 ^ 190:=dK;have D:u*M+v*M=(u+v)*M:=by grind
  refine E6n (FX b.m0 b.m0) (KH H.2 O) ?_ ?_;·show _<u*M+v*M;rw[D];exact KH (Int.neg_lt_neg h) a.1
  show u*M+v*M<_;rw[D];exact KH a.2 h
 rw[b.is,E.is,D9b b.ok E.ok G];refine B7t G T.ok (decide_eq_true ?_);show(u*M+v*M)*M=(u+v)*(M*M);grind
theorem Ov.mul {M u N v P t:Int} {r q:TRat} (b:Ov M u r) (h:Ov N v q) (E:0<P) (m1:P<10 ^ 45) (u0:-(10 ^ 100)<t) (u1:t<10 ^ 100) (a0:-(10 ^ 190)<u*v) (G:u*v<10 ^ 190) (e:u*v*P=t*(M*N)):Ov P t (A0d r q):=by
 have T:Ov P t (toR ⟨t,P⟩):=⟨E,m1,u0,u1,rfl⟩
 refine⟨E,m1,u0,u1,?_⟩;have W:=b.m0;have X:=h.m0;have H:=B2p (by have:(0:Int)<10 ^ 45:=dK;omega:-(10 ^ 45)<M) b.m1 (by have:(0:Int)<10 ^ 45:=dK;omega:-(10 ^ 45)<N) h.m1;have O:(10:Int) ^ 45*10 ^ 45<10 ^ 190:=dK;have D:(C0q ⟨u,M⟩ ⟨v,N⟩).ok=AD:=E6n (FX W X) (KH H.2 O) a0 G;rw[b.is,h.is,C3v b.ok h.ok D];exact B7t D T.ok (decide_eq_true e)
theorem Ov.div {M u N v P t:Int} {r q:TRat} (b:Ov M u r) (h:Ov N v q) (E:0<v) (G:0<P) (m1:P<10 ^ 45) (u0:-(10 ^ 100)<t) (u1:t<10 ^ 100) (a0:-(10 ^ 190)<u*N) (H:u*N<10 ^ 190) (e:u*N*P=t*(M*v)):Ov P t (A3u r q):=by
 have W:Ov P t (toR ⟨t,P⟩):=⟨G,m1,u0,u1,rfl⟩
 refine⟨G,m1,u0,u1,?_⟩;have X:=b.m0;have O:=B2p (by have:(0:Int)<10 ^ 45:=dK;omega:-(10 ^ 45)<M) b.m1 h.u0 h.u1;have T:(10:Int) ^ 45*10 ^ 100<10 ^ 190:=dK;have D:(C0q ⟨u,M⟩ (D6g ⟨v,N⟩)).ok=AD:=E6n (FX X E) (KH O.2 T) a0 H;rw[b.is,h.is,E0d b.ok h.ok E D];exact B7t D W.ok (decide_eq_true e)
theorem Ov.int {n:Int} (h0:-1000000<n) (h1:n<1000000):Ov 1 n (U_ n) :=
 ⟨dE,dK,by have:(1000000:Int)<10 ^ 100:=dK;omega,by have:(1000000:Int)<10 ^ 100:=dK;omega,B9z h0 h1⟩
theorem Ov.con {k:TRat} (h:J_ k=AD) (m1:T_ k<10 ^ 45) (u0:-(10 ^ 100)<R_ k) (u1:R_ k<10 ^ 100):Ov (T_ k) (R_ k) k :=
 ⟨(ratOkB_iff.1 h).den0,m1,u0,u1,(C4c h).symm⟩
def C9h (n:Int):Bool:=Nat.ble n.natAbs 999999999999999
def E2a (D:Int) (l:LF):Bool:=(decide (l.d*(D / l.d)=D)&&C9h (D / l.d))&&(decide (0<D / l.d)&&(C9h l.a&&(C9h l.b&&(C9h l.c&&l.ok))))
def E5n (D:Int) (P:LP):Bool:=E2a D P.1&&E2a D P.2
theorem E3q {n:Int}:C9h n=AD↔-(10 ^ 15)<n/\n<10 ^ 15:=by
 unfold C9h;have e:(10:Int) ^ 15=1000000000000000:=dK;rw[e];constructor;·intro h;have:=Nat.le_of_ble_eq_true h;omega
 intro h;exact Nat.ble_eq_true_of_le oS
theorem E2t {s:A2c} {b:Int} {l:LF} {r:TRat} (u:SrcIn s) (ah:0<b) (ai:b<10 ^ 15) (h:Rep s l r) (E:E2a b l=AD):∃ X,(-(10 ^ 31)<X/\X<10 ^ 31)/\Ov b X r:=by
 unfold E2a at E;simp only[CK,decide_eq_true_eq,E3q]at E;obtain⟨⟨e,af,ag⟩,ak,⟨a0,aa⟩,⟨ab,b1⟩,⟨ac,ad⟩,Z⟩:=E;have al:=B0z a0 aa u.a0 u.a1;have am:=B0z ab b1 u.b0 u.b1;have an:=B0z ac ad u.c0 u.c1;have Y:-(9*10 ^ 15)<(l.at s).n/\(l.at s).n<9*10 ^ 15:=by unfold LF.at;show _<l.a*s.1+(l.b*s.2.1+l.c*s.2.2)/\l.a*s.1+(l.b*s.2.1+l.c*s.2.2)<_;generalize l.a*s.1=ao at *;generalize l.b*s.2.1=v at *;generalize l.c*s.2.2=t at *;generalize (10:Int) ^ 15=aj at *;omega
 have W:=B2p Y.1 Y.2 af ag;have H:(9:Int)*10 ^ 15*10 ^ 15<10 ^ 31:=dK;have O:-(10 ^ 31)<(l.at s).n*(b / l.d):=KH (Int.neg_lt_neg H) W.1;have T:(l.at s).n*(b / l.d)<10 ^ 31:=KH W.2 H;have G:(10:Int) ^ 31<10 ^ 100:=dK;have ae:(10:Int) ^ 15<10 ^ 45:=dK;have D:Ov b ((l.at s).n*(b / l.d)) (toR ⟨(l.at s).n*(b / l.d),b⟩):=⟨ah,KH ai ae,KH (Int.neg_lt_neg G) O,KH T G,rfl⟩
 refine⟨_,⟨O,T⟩,D.m0,D.m1,D.u0,D.u1,?_⟩;rw[h Z];refine B7t (LF.at_ok Z u) D.ok (decide_eq_true ?_);show(l.at s).n*b=(l.at s).n*(b / l.d)*l.d;conv=>lhs;rw[<-e]
 grind
theorem E9u {b X u:Int} {p:TPoint} (W:0<b) (Y:b<10 ^ 15) (E:-(10 ^ 31)<X/\X<10 ^ 31) (G:-(10 ^ 31)<u/\u<10 ^ 31) (O:Ov b X p.x) (T:Ov b u p.y):∃ S,(0<=S/\S<2*10 ^ 62)/\Ov (b*b) S (A1k p p):=by
 have af:=B2p E.1 E.2 E.1 E.2;have ag:=B2p G.1 G.2 G.1 G.2;have ac:(10:Int) ^ 31*10 ^ 31=10 ^ 62:=dK;rw[ac]at af ag;have aj:0<=X*X:=by rcases Int.le_total 0 X with h|h;exact IP h h;exact QD h h
 have ak:0<=u*u:=by rcases Int.le_total 0 u with h|h;exact IP h h;exact QD h h
 have Z:0<b*b:=FX W W;have aa:=B2p (by have:(0:Int)<10 ^ 15:=dK;omega:-(10 ^ 15)<b) Y (by have:(0:Int)<10 ^ 15:=dK;omega:-(10 ^ 15)<b) Y;have ab:(10:Int) ^ 15*10 ^ 15<10 ^ 45:=dK;have H:=KH aa.2 ab;have ah:2*(10:Int) ^ 62<10 ^ 100:=dK;have ai:2*(10:Int) ^ 62<10 ^ 190:=dK;have ad:=O.mul O (P:=b*b) (t:=X*X) Z H (by generalize (10:Int) ^ 62=S at *;generalize (10:Int) ^ 100=D at *;omega) (by generalize (10:Int) ^ 62=S at *;generalize (10:Int) ^ 100=D at *;omega) (by generalize (10:Int) ^ 62=S at *;generalize (10:Int) ^ 190=D at *;omega) (by generalize (10:Int) ^ 62=S at *;generalize (10:Int) ^ 190=D at *;omega) rfl;have ae:=T.mul T (P:=b*b) (t:=u*u) Z H (by generalize (10:Int) ^ 62=S at *;generalize (10:Int) ^ 100=D at *;omega) (by generalize (10:Int) ^ 62=S at *;generalize (10:Int) ^ 100=D at *;omega) (by generalize (10:Int) ^ 62=S at *;generalize (10:Int) ^ 190=D at *;omega) (by generalize (10:Int) ^ 62=S at *;generalize (10:Int) ^ 190=D at *;omega) rfl;exact⟨X*X+u*u,by generalize (10:Int) ^ 62=S at *;omega,ad.add ae (by generalize (10:Int) ^ 62=S at *;generalize (10:Int) ^ 100=D at *;omega) (by generalize (10:Int) ^ 62=S at *;generalize (10:Int) ^ 100=D at *;omega)⟩
end Go.Proofs.YtbkilakncnlebaaGreatDoor.X
