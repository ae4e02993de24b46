/- A part of the proof. -/
import Derived.Test.YtjcanieccnljfaaGreatY16
import Derived.Deep.RegionHeld3
set_option linter.constructorNameAsVariable false
set_option maxHeartbeats 16000000
set_option maxRecDepth 10000
open Array renaming getElem?_eq_getElem→PF
open Bool renaming and_eq_true→DJ,false→AH,true→AF
open Go renaming Addr→AJ,Calls→BL,TypeId→CV,Value→AU,World→AD,bodyPost_ret→CK,heap_alloc_new→DB,info_parts→FB,maxLen→BS,results→CO
open Go.IntKind renaming i64→RD,wrap_i64→OZ
open Go.Obj renaming cells→BG
open Go.RowKit.Below renaming drew→LK,heap_setCell→GA,refl→DI
open Go.Value renaming agg→BJ,bool→J,int→RH,slice→QX
open Go.World renaming size_alloc→FU
open Go.XB.Below renaming box→BP,next→BH
open Go.XB.MP renaming agg→CH
open Go.XB.TPoint renaming agg→EW,elemA→GD
open Go.XB.TRat renaming agg→CF,elemA→IM,mkAgg→FK
open Int renaming lt_trans→KJ,mul_pos→GW,natAbs_mul→OL
open List renaming all_eq_true→CU,dropLast→DN,getD_eq_getElem?_getD→EH,getElem?_eq_getElem→DU,getLast→DO,length→DQ,length_append→GQ,mem_append→DV,mem_of_getElem?→DH,replicate→DK
open Nat renaming le_refl→CE,le_succ→JS,le_trans→CJ,lt_or_ge→CG,lt_succ_self→ME
open Option renaming none→I,some→QZ
namespace Go.XB
open Go.RowKit
def MP.eqS {α:Type} [Dat α] (v:AU) (x:α):MP:=⟨λu bs w=>u=v/\bs=[]/\∃ s,Agg w u x s,λu bs w w' hb h=>by
 obtain⟨h1,h2,s,hs⟩:=h;exact⟨h1,h2,s,hs.below hb⟩⟩
end Go.XB
namespace Go.Proofs.YtjcanieccnljfaaGreat.X
open Go.RowKit Go.XB Go.XN Proofs.Tryz
def c3 (a b c:TPoint) (i:Nat):TPoint:=[a,b,c].getD (i % 3) pt0
def C9m (a b c:TPoint) (i:Nat):TPoint:=⟨A3t (c3 a b c (i+1)).y (c3 a b c (i+2)).y,A3t (c3 a b c (i+2)).x (c3 a b c (i+1)).x⟩
def A5w (a b c:TPoint) (i:Nat):TPoint:=⟨A3u (C9m a b c i).x (A2y a b c),A3u (C9m a b c i).y (A2y a b c)⟩
def C0j (a b c:TPoint):Nat->List TPoint
 |0=>[]
 |k+1=>C0j a b c k++[A5w a b c k]
def C5e (a b c:TPoint):List TPoint:=C0j a b c 3
theorem B8g (a b c:TPoint):∀ k,(C0j a b c k).length=k
 |0=>rfl
 |k+1=>by rw[C0j,GQ,B8g a b c k];rfl
theorem E4q {w:AD} {y:TPoint} {u0 u1 u2 u u4 D:AU} {b:List Nat} (h:Agg w (BJ #[u0,u1,u2,u,u4,D]) y b):Dat.at_ w [u0,u1,u2,u,u4,D] y b:=by
 obtain⟨E,O,H⟩:=h;have G:E=[u0,u1,u2,u,u4,D]:=by have:=congrArg (λv=>match v with | .agg c=>c.toList|_=>[]) O;simpa using this.symm
 rw[<-G];exact H
theorem ptX {w:AD} {x:TPoint} {u0 u1 u2 G u4 H:AU} {b:List Nat} (h:Agg w (BJ #[u0,u1,u2,G,u4,H]) x b):∃ b1,Agg w (BJ #[u0,u1,u2]) x.x b1/\∀ g∈b1,g∈b:=by
 obtain⟨O,ae,Y,ai,T,af,Z,aj,W,ag,aa,ak,X,ah,ab,al,e,rfl,D,E,ac,ad⟩:=EW h;injection e with e;simp at e;obtain⟨rfl,rfl,rfl,_⟩:=e;exact⟨_,FK D E,λg u=>by simp at u ⊢;rcases u with h|h<;>simp[h]⟩
theorem ptY {w:AD} {x:TPoint} {u0 u1 u2 D u4 E:AU} {b:List Nat} (h:Agg w (BJ #[u0,u1,u2,D,u4,E]) x b):∃ b1,Agg w (BJ #[D,u4,E]) x.y b1/\∀ g∈b1,g∈b:=by
 obtain⟨O,ae,Y,ai,T,af,Z,aj,W,ag,aa,ak,X,ah,ab,al,e,rfl,ac,ad,G,H⟩:=EW h;injection e with e;simp at e;obtain⟨_,_,_,rfl,rfl,rfl⟩:=e;exact⟨_,FK G H,λg u=>by simp at u ⊢;rcases u with h|h<;>simp[h]⟩
theorem D9f {p q:TRat} (h:A1b ⟨p,q⟩=AF):J_ p=AF:=by
 unfold A1b at h;simp at h;exact h.1
theorem D9q {p q:TRat} (h:A1b ⟨p,q⟩=AF):J_ q=AF:=by
 unfold A1b at h;simp at h;exact h.2
theorem C6v {p:TRat} (h:J_ p=AF):(!p.den.isEmpty)=AF:=by
 have:=(ratOkB_iff.1 h).den0;cases b:p.2 with
 |nil=>rw[b]at this;exact absurd this dE
 |cons a l=>rfl
structure GradOk (a b c:TPoint):Prop where
 pr:A7m [a,b,c]=AF
 d:J_ (A2y a b c)=AF
 d0:(A2y a b c).1.2≠[]
 s:∀ i,i<3->A1b (C9m a b c i)=AF
 g:∀ i,i<3->A1b (A5w a b c i)=AF
attribute [local go_sem] L_ Go.XB.opAt N_ M_ Region.wanted yielded
attribute [local simp] N_ M_ MP.eq MP.agg MP.sl MP.slbox MP.box MP.eqS A0r
theorem B1l (A:Option AJ) (c:Nat) (h b1 u:TPoint) (bs:List Nat) (w:AD) (b4:Sl w A 3 c [h,b1,u] bs) (bO:GradOk h b1 u) :
  BL prog 177 #[QX A 3 c] w (A0w w (C5e h b1 u)):=by
 have aa:=A_ b4;have Y:=A_ bO;obtain⟨aq,dt,d3,P1,e7,eh,p1,P2,e8,ei,p2,dU,e9,ej,fo,dV,fa,ek,fp,c5,ez,b5,bm,bn,bo,bp,bq,br,bP⟩:=GD aa (by decide:0<3);obtain⟨d4,fl,b2,Q1,fb,el,q1,Q2,fc,em,q2,dW,fd,en,fq,dX,fe,eo,fr,aN,c7,b6,bt,bu,bv,bz,bA,bB,bQ⟩:=GD aa (by decide:1<3);obtain⟨d5,fm,d8,R1,ff,ep,fs,R2,fg,er,ft,dY,fh,es,fu,dZ,fi,et,fv,aO,c8,b7,bD,bE,bF,bG,bH,bI,bR⟩:=GD aa (by decide:2<3);subst c5;injection aN with aN;injection aN with h1 h2 _;subst h1;subst h2;injection aO with aO;injection aO with h1 h2 _;subst h1;subst h2;simp at b5 b6 b7;subst b5;subst b6;subst b7;simp at bm bn bo bp bq br bt bu bv bz bA bB bD bE bF bG bH bI;have a6:=A_ bP;have a7:=A_ bQ;have bd:=A_ bR;clear c7 c8 bP bQ bR b4 bO;go_enter func177,ntmps177;go_wp2_with fail;have aE:=B2m (QZ ⟨aq,dt,I⟩) 3 c [h,b1,u] bs w aa;rw[Y.o.pr]at aE;refine aE.mono ?_;clear aE;rintro _ ca ⟨rfl,az⟩;obtain⟨da,db⟩:=F_ az;have ae:=A_ az;have c6:aq<ca.1.size:=by have:=az.size;omega
 clear az;go_wp2_with fail;refine X_ sI ?_;dsimp only[DN,DO,DQ];iterate 9 refine C_ _ ?_
 refine D_ (CH (A2y h b1 u)) ?_ ?_;·intro O E H D b;obtain⟨ak,al⟩:=F_ D;simp at b;refine G_ ?_;exact H_ (A7l _ _ _ h b1 u _ _ _ H ((a6.below ae).below Below.go) ((a7.below ae).below Below.go) ((bd.below ae).below Below.go))
 refine A1p #[J AH,QX I 0 0,QX I 0 0] 39 ?_ ?_;·intro O E H D b;refine⟨gD,?_⟩;go_simp
 intro O E wa D b (Z:Hid _);simp at b;have dA:=b.2.2.2.2.2.2.2.2.2.1;have du:=b.2.2.2.2.2.2.2.2.2.2;obtain⟨⟨ax,-⟩,-⟩:=dA;obtain⟨⟨ai,ew,dF,aA⟩,aV⟩:=du;obtain⟨d0,fj,eu,v1,d1,fk,ev,v2,c1,eP,_,_⟩:=CF ax;rw[c1]at ax;have aR:=Z 9 10 dE dE dE;rw[dF]at aR aV;have df:=E_ aA;have dd:ca.1.size<=ai:=(aV ai sI).1;have bU:ai∉E 9:=λG=>aR ai G sI;have bc:=A_ (BH ae D);have de:w.1.size<=ai:=by have:=ae.size;omega
 have aX:=A_ ax;have bf:=A_ aA;have bi:=A_ bU;obtain⟨aK,aL,-⟩:=bx aA;generalize E 9=fC at *;clear b Z ax aV aA aR D bU da db;go_upto_region 4 with fail;refine Code.set3 bf λaJ ao=>?_;have ci:=A_ (ao.low bc bc.size de);have ch:=A_ (aX.keepG ao.gr bi);have cD:=A_ ao.k;clear bE bF bH bI bD bG bm bn bo bp bq br bt bu bv bz bA bB a6 a7 bd c6 aK aL dd df ao bf bi aX;go_wp2_with fail;go_loopg [4,25] 3 (λg s4 s wr=>∃ (k gB cap:Nat),k+g=3/\s=RH RD k/\s4=QX (QZ ⟨gB,0,I⟩) k cap/\Hid (Pend w aJ 41 wr gB k cap (C0j h b1 u k)));case atStart=>exact⟨0,aJ.1.size,0,oS,rfl,rfl,Pend.start ci.o⟩
 case round =>
  obtain⟨k,gB,cap,bV,rfl,rfl,af⟩:=hrel;have ba:=A_ af.bw;have a9:=A_ af.bb;rcases CG k 3 with aB|aB
  ·have eG:(k:Int)<3:=oS
   have eH:(0:Int)<=k:=oS;obtain⟨g,rfl⟩:∃ g,gk=g+1:=⟨gk - 1,oS⟩
   have di:=A_ (by omega:k+1+g=3);obtain⟨W,aT⟩:∃ W,W=(k+1) % 3:=⟨_,rfl⟩
   obtain⟨X,aU⟩:∃ X,X=(k+2) % 3:=⟨_,rfl⟩
   have dg:W<3:=oS;have dh:X<3:=oS;have eC:(W:Int)<3:=oS;have eE:(X:Int)<3:=oS;have eD:(0:Int)<=W:=oS;have eF:(0:Int)<=X:=oS;have eL:RD.wrap ((k:Int)+1)=(k:Int)+1:=by rw[OZ];omega
   have eM:RD.wrap ((k:Int)+2)=(k:Int)+2:=by rw[OZ];omega
   have eJ:RD.wrap (W:Int)=(W:Int):=by rw[OZ];omega
   have eK:RD.wrap (X:Int)=(X:Int):=by rw[OZ];omega
   have hm1:Int.tmod ((k:Int)+1) 3=W:=by rw[Int.tmod_eq_emod_of_nonneg oS];omega
   have hm2:Int.tmod ((k:Int)+2) 3=X:=by rw[Int.tmod_eq_emod_of_nonneg oS];omega
   obtain⟨d6,fn,x,dL,eZ,d9,eQ,dM,e0,ea,eR,dN,e1,eb,eS,dO,e2,ec,eT,aP,eA,b8,cv,cw,cx,cy,cz,cA,bS⟩:=GD (aa.below ba) dg;obtain⟨d7,ok,y,dQ,e3,ed,eV,dR,e4,ee,eW,dS,e5,ef,eX,dT,e6,eg,eY,aQ,c9,b9,cE,cF,cG,cH,cI,cJ,bT⟩:=GD (aa.below ba) dh;injection aP with aP;injection aP with h1 h2 _;subst h1;subst h2;injection aQ with aQ;injection aQ with h1 h2 _;subst h1;subst h2;have bg:=A_ bS;have bh:=A_ bT;have cp:=A_ (by unfold c3;rw[<-aT];exact A0e b8:c3 h b1 u (k+1)=x);have cq:=A_ (by unfold c3;rw[<-aU];exact A0e b9:c3 h b1 u (k+2)=y);have dI:=A_ aT;have dJ:=A_ aU;clear bV b8 b9 bS bT aT aU c9;have aY:=A_ (ch.below a9);obtain⟨fy,cc,_⟩:=ptX bg;obtain⟨fz,cd,_⟩:=ptY bg;obtain⟨fA,ce,_⟩:=ptX bh;obtain⟨fB,cg,_⟩:=ptY bh;have cN:=A_ cc;have cO:=A_ cd;have cP:=A_ ce;have cQ:=A_ cg;have a2:=A_ (by unfold C9m;rw[cp.o,cq.o]:C9m h b1 u k=⟨A3t x.y y.y,A3t y.x x.x⟩);have a1:=A_ (by unfold A5w;rw[a2.o]:A5w h b1 u k=⟨A3u (A3t x.y y.y) (A2y h b1 u),A3u (A3t y.x x.x) (A2y h b1 u)⟩);have an:=Y.s k aB;rw[a2.o]at an;have O1:=A_ (D9f an);have O2:=A_ (D9q an);have aC:=Y.g k aB;have cK:=A_ aC;have aH:=A_ (show J_ (A5w h b1 u k).x=AF from D9f (q:=(A5w h b1 u k).y) aC);have bk:=A_ (show J_ (A5w h b1 u k).y=AF from D9q (p:=(A5w h b1 u k).x) aC);clear aC;clear an cc cd ce cg;go_wp2_with fail;go_region_held3 (λw'=>∀ o,w'.cell? ⟨aq,o,I⟩=wr.cell? ⟨aq,o,I⟩) ((go_simp;done)) (fail)
   all_goals
    rename_i hh;clear hh;go_upto_region 9 with fail;refine Code.newd2 λd2 am=>?_;have T:=A_ am.b;obtain⟨dk,-,eN⟩:=bx am.k;obtain⟨dm,-,eO⟩:=bx am.l;obtain⟨dn,-,eB⟩:=bx (A0z (A0z cD a9) T);clear am cv cw cx cy cz cA cE cF cG cH cI cJ;refine X_ sI ?_;dsimp only[DN,DO,DQ];iterate 4 refine C_ _ ?_
    refine D_ (CH (A3t x.y y.y)) ?_ ?_;·intro O E H D b;obtain⟨ak,al⟩:=F_ D;simp at b;refine G_ ?_;exact H_ (A5b _ _ x.y y.y _ _ H (cO.below (BH T D)) (cQ.below (BH T D)))
    refine C_ _ ?_;refine D_ (CH (A3u (A3t x.y y.y) (A2y h b1 u))) ?_ ?_;·intro O E H D b;obtain⟨ak,al⟩:=F_ D;simp at b;refine G_ ?_;obtain⟨aW,_⟩:=b;exact H_ (A9z _ _ (A3t x.y y.y) (A2y h b1 u) _ _ H aW.1 (aY.below (BH T D)) O1 Y.d Y.d0)
    iterate 4 refine C_ _ ?_
    refine D_ (CH (A3t y.x x.x)) ?_ ?_;·intro O E H D b;obtain⟨ak,al⟩:=F_ D;simp at b;refine G_ ?_;exact H_ (A5b _ _ y.x x.x _ _ H (cP.below (BH T D)) (cN.below (BH T D)))
    refine C_ _ ?_;refine D_ (CH (A3u (A3t y.x x.x) (A2y h b1 u))) ?_ ?_;·intro O E H D b;obtain⟨ak,al⟩:=F_ D;simp at b;refine G_ ?_;obtain⟨aW,_⟩:=b;exact H_ (A9z _ _ (A3t y.x x.x) (A2y h b1 u) _ _ H aW.1 (aY.below (BH T D)) O2 Y.d Y.d0)
    refine A1d (λad=>MP.eqS (BJ ((ad 6).cells++(ad 13).cells)) (A5w h b1 u k)) (by intro y ad G;simp[N_,M_]at G;simp[G]) ?_ ?_
    ·intro O E H D b
     simp at b;obtain⟨⟨ar,_⟩,ac,_⟩:=b;obtain⟨ck,dp,cR,cX,cm,dq,cU,cY,ah,-,-,-⟩:=CF ar;obtain⟨cn,dr,cV,cZ,co,ds,cW,c0,ag,-,-,-⟩:=CF ac;rw[ah]at ar;rw[ag]at ac;have aG:=A_ (by rw[a1.o];exact B4l (x:=⟨_,_⟩) ar ac:Agg H _ (A5w h b1 u k) _);clear ar ac;refine⟨gD,_,H,?_,DI _ _,[],⟨?_,rfl,_,aG.o⟩,sI⟩;·go_simp
     rw[ah,ag];rfl
    refine A3q (λad=>MP.eqS (ad 14) (A5w h b1 u k)) (by intro y ad G;simp[N_,M_]at G;simp[G]) ?_ ?_;·intro O E H D b;obtain⟨ak,al⟩:=F_ D;simp at b;obtain⟨⟨c4,ey,fw,aM⟩,ac,_⟩:=b;have aG:=A_ aM;have C:=B0n (O 14) (A5w h b1 u k) _ H aM ((C6v aH).trans aH.symm) ((C6v bk).trans bk.symm);rw[cK.o]at C;have ct:=A_ C;clear c4 aM ac C;refine G_ ?_;exact ct.o.mono (λe w' ⟨he,ay⟩=>⟨O 14,he,ay,[],⟨rfl,rfl,_,aG.o.below ay⟩,sI⟩)
    refine A1p #[J AH,QX I 0 0,QX I 0 0,J AH,QX I 0 0,QX I 0 0] 41 ?_ ?_;·intro O E H D b;refine⟨gD,?_⟩;go_simp
    intro O E wb D b (Z:Hid _);simp at b;have dz:=b.2.2.2.2.2.2.1;have dv:=b.2.2.2.2.2.2.2.2.2.2.2.2.2.1;have dw:=b.2.2.2.2.2.2.2.2.2.2.2.2.2.2.1;have dx:=b.2.2.2.2.2.2.2.2.2.2.2.2.2.2.2.1;have dy:=b.2.2.2.2.2.2.2.2.2.2.2.2.2.2.2.2;obtain⟨⟨aw,bN⟩,b3⟩:=dz;obtain⟨⟨au,bM⟩,bZ⟩:=dv;obtain⟨⟨bK,dG,_⟩,_⟩:=dw;obtain⟨⟨bL,dH,_⟩,_⟩:=dx;obtain⟨⟨g8,ex,aD,aS⟩,b0⟩:=dy;obtain⟨ck,dp,cR,cX,cm,dq,cU,cY,ah,-,-,-⟩:=CF aw;obtain⟨cn,dr,cV,cZ,co,ds,cW,c0,ag,-,-,-⟩:=CF au;rw[ah]at aw;rw[ag]at au;have c2:=bL.trans bK;rw[ah,ag]at c2;have bX:=(λG=>Z.o 6 16 dE dE dE g8 G (by rw[aD];simp):g8∉E 6)
    have bW:=(λG=>Z.o 13 16 dE dE dE g8 G (by rw[aD];simp):g8∉E 13)
    have a5:=A_ (Free.join bN bM (Z 6 13 dE dE dE));have bl:=A_ (by rw[a1.o];exact B4l (x:=⟨_,_⟩) aw au:Agg wb _ (A5w h b1 u k) (E 6++E 13))
    have cL:=A_ (show ∀ ap∈E 6++E 13,wr.1.size<=ap from λap ay=>by
     have:=T.size;rcases DV.1 ay with G|G
     ·have:=(b3 ap G).1;omega
     have:=(bZ ap G).1;omega)
    have bj:=A_ (show g8∉E 6++E 13 from λG=>(DV.1 G).elim bX bW);have dc:wr.1.size<=g8:=by have:=(b0 g8 (by rw[aD];simp)).1;have:=T.size;omega
    have aF:=A_ (BH T D);have be:=A_ aS;obtain⟨aK,aL,-⟩:=bx aS;generalize E 6++E 13=zs at *;clear b Z aw bN b3 au bM bZ bK bL dG dH aD b0 bX bW D aS dk dm dn;go_upto_region 10 with fail;refine Code.set6 be λcM ab=>?_;have cs:=A_ (ab.low aF aF.size dc);have aI:=A_ (bl.keepG ab.gr bj);have a3:=A_ (Free.keepG a5 ab.gr bj);obtain⟨dl,-,dj⟩:=bx ab.k;have cB:=A_ ab.k;clear aK aL ab aF bl a5 be;go_wp2_with fail;obtain⟨fx,cb,_⟩:=ptX aI;have C:=A2p _ (A5w h b1 u k).x _ cM cb;rw[C6v aH.o]at C;refine C.mono ?_;clear C cb;rintro _ dD ⟨rfl,aj⟩;have a8:=A_ (BH cs aj);have aZ:=A_ (aI.below aj);have a4:=A_ (a3.below aj);obtain⟨eU,-,eI⟩:=bx (A0z cB aj);have cj:=A_ (by unfold BS;omega:k+1<=BS/\(k+1)*112<=140737488355328);clear aj dl dj aI a3;go_wp2_with (at_builtin;refine C7w rfl rfl underlying23 D1n af (a8.alloc a8.size _) (A0a (DB dD _)) (E4q (aZ.below (BP _))) (a4.below (BP _)) cL cj ?_;intro g' bJ dB bY _ _);have cu:=A_ (show Pend w aJ 41 dB g' (k+1) bJ (C0j h b1 u (k+1))from bY);clear bY aZ a4 af;go_wp2_with fail;go_roundg g;case measure=>omega
    case rel=>exact⟨k+1,g',bJ,di,gN,rfl,cu⟩
  obtain rfl:k=3:=oS;clear bV aB;go_wp2;go_ret;exact af.done
section
def C8d (a b c:Int):Nat->Int
 |0=>a
 |1=>b
 |_=>c
theorem ixv (a b c:Int) (i:Nat) (h:i<3) (w:AD):Sem.run prog (Instr.index 111 (BJ #[RH RD a,RH RD b,RH RD c]) (RH RD (i:Int))) w=.ok (RH RD (C8d a b c i)) w:=by
 obtain rfl|rfl|rfl:i=0\/i=1\/i=2:=oS;·kernel_rfl
 ·kernel_rfl
 kernel_rfl
def C4n (us:List TRat) (i:Int):TRat:=us.getD i.toNat A0h
def A6n (us:List TRat) (t:TTri):List TRat:=[C4n us t.a,C4n us t.b,C4n us t.c]
theorem D7n (us:List TRat) (t:TTri) {i:Nat} (h:i<3):(A6n us t)[i]?=QZ (C4n us (C8d t.a t.b t.c i)):=by
 obtain rfl|rfl|rfl:i=0\/i=1\/i=2:=oS;·rfl
 ·rfl
 rfl
def B4f (a b c:TPoint) (vs:List TRat):Nat->TPoint
 |0=>ptI 0 0
 |k+1=>A3y (B4f a b c vs k) (A0v (vs.getD k A0h) (A5w a b c k))
def D3j {α:Type} [Dat α] (w:AD) (x:α) (e:Ending) (w':AD):Prop:=∃ v s,e=.returned v/\Agg w' v x s/\(∀ b∈s,w.1.size<=b)/\Bw w w'
def _root_.Go.XB.MP.aggN {α:Type} [Dat α] (x:α):MP:=⟨λv bs w=>Agg w v x bs,λ_ _ _ _ hb h=>h.below hb⟩
theorem B8i {α:Type} [Dat α] {P:Program} {f:FuncId} {args:Array AU} {w:AD} {x:α} (h:BL P f args w (D3j w x)) :
  BL P f args w λe w'=>∃ u,e=.returned u/\Bw w w'/\∃ bs,(MP.aggN x).p u bs w'/\∀ b∈bs,w.1.size<=b/\b<w'.1.size :=
 h.mono λ_ _ ⟨v,s,he,ha,hn,hb⟩=>⟨v,he,hb,s,ha,λb hm=>⟨hn b hm,ha.lt b hm⟩⟩
structure AccPt (w U:AD) (g r0:Nat) (x:TPoint) (cs:List AU) (s:List Nat):Prop where
 bl:Bw w U
 bx:U.1[g]?=QZ (BG cs.toArray 41)
 at_:Dat.at_ U cs x s
 nw:∀ b∈s,w.1.size<=b/\b≠g/\b≠r0
 rs:U.1[r0]?=QZ (BG #[J AH,QX I 0 0,QX I 0 0,J AH,QX I 0 0,QX I 0 0] 41)
 lo:w.1.size<=r0/\r0<g
theorem K_ {w w':AD} {b:Nat} {o:Obj} (h:w.1[b]?=QZ o) (hb:Bw w w'):w'.1[b]?=QZ o:=(hb.block b (E_ h)).trans h
theorem A9b {w:AD} {b j:Nat} {cs:Array AU} {t:CV} {v:AU} (h:w.1[b]?=QZ (BG cs t)):(w.setCell ⟨b,j,I⟩ v).1[b]?=QZ (BG (cs.setIfInBounds j v) t):=by
 have u:=lt_of_block h;have D:w.1[b]=BG cs t (0,0):=by simpa[PF u]using h
 show(w.1.modify b _)[b]?=_;rw[PF (by simpa using u),Array.getElem_modify_self,D];rfl
theorem AccPt.below {w U U':AD} {g r0:Nat} {x:TPoint} {cs:List AU} {s:List Nat} (h:AccPt w U g r0 x cs s) (hb:Bw U U'):AccPt w U' g r0 x cs s :=
 ⟨BH h.bl hb,K_ h.bx hb,Dat.keep h.at_ (λb hb2=>hb.block b (Dat.lt h.at_ b hb2)),h.nw,K_ h.rs hb,h.lo⟩
theorem AccPt.set {w U:AD} {g r0:Nat} {x y:TPoint} {a0 T W X Y Z v0 v1 v2 D E G:AU} {s r:List Nat} (h:AccPt w U g r0 x [a0,T,W,X,Y,Z] s) (aa:Dat.at_ U [v0,v1,v2,D,E,G] y r) (O:∀ b∈r,w.1.size<=b/\b≠g/\b≠r0) :
  AccPt w ((((((U.setCell ⟨g,0,I⟩ v0).setCell ⟨g,1,I⟩ v1).setCell ⟨g,2,I⟩ v2).setCell ⟨g,3,I⟩ D).setCell ⟨g,4,I⟩ E).setCell ⟨g,5,I⟩ G) g r0 y [v0,v1,v2,D,E,G] r:=by
 have u:w.1.size<=g:=by have:=h.lo;omega
 have K:∀ b,b≠g->((((((U.setCell ⟨g,0,I⟩ v0).setCell ⟨g,1,I⟩ v1).setCell ⟨g,2,I⟩ v2).setCell ⟨g,3,I⟩ D).setCell ⟨g,4,I⟩ E).setCell ⟨g,5,I⟩ G).1[b]?=U.1[b]?:=λb H=>A0m g [v0,v1,v2,D,E,G] U 0 b H
 exact⟨(((((h.bl.setCell (p:=⟨g,0,I⟩) u _).setCell (p:=⟨g,1,I⟩) u _).setCell (p:=⟨g,2,I⟩) u _).setCell (p:=⟨g,3,I⟩) u _).setCell (p:=⟨g,4,I⟩) u _).setCell (p:=⟨g,5,I⟩) u _,
  A9b (A9b (A9b (A9b (A9b (A9b h.bx))))),Dat.keep aa (λb H=>K b (O b H).2.1),O,(K r0 (by have:=h.lo;omega)).trans h.rs,h.lo⟩
theorem AccPt.o {w U:AD} {g r0:Nat} {x:TPoint} {v0 v1 v2 D E G:AU} {s:List Nat} (h:AccPt w U g r0 x [v0,v1,v2,D,E,G] s) :
  D3j w x (.returned (BJ #[v0,v1,v2,D,E,G])) ((((((U.setCell ⟨r0,0,I⟩ v0).setCell ⟨r0,1,I⟩ v1).setCell ⟨r0,2,I⟩ v2).setCell ⟨r0,3,I⟩ D).setCell ⟨r0,4,I⟩ E).setCell ⟨r0,5,I⟩ G):=by
 have b:w.1.size<=r0:=h.lo.1
 exact⟨_,s,rfl,⟨_,rfl,Dat.keep h.at_ (λu H=>A0m r0 [v0,v1,v2,D,E,G] U 0 u (h.nw u H).2.2)⟩,λu H=>(h.nw u H).1,
  (((((h.bl.setCell (p:=⟨r0,0,I⟩) b _).setCell (p:=⟨r0,1,I⟩) b _).setCell (p:=⟨r0,2,I⟩) b _).setCell (p:=⟨r0,3,I⟩) b _).setCell (p:=⟨r0,4,I⟩) b _).setCell (p:=⟨r0,5,I⟩) b _⟩
attribute [local go_sem] ixv
attribute [local simp] MP.aggS
theorem C4q (A:Option AJ) (c:Nat) (l:List TPoint) (bs:List Nat) (B:Option AJ) (d:Nat) (us:List TRat) (u:List Nat) (w:AD) (H:Sl w A 3 c l bs) (G:Sl w B 3 d us u) (E:A7m l=AF) (D:us.all J_=AF) :
  BL prog 208 #[QX A 3 c,QX B 3 d] w (A0b w (J AF)):=by
 have X:=A_ H;have W:=A_ G;have T:=A_ E;have O:=A_ D;clear H G E D;go_enter func208,ntmps208;go_wp2_with fail;have b:=B2m A 3 c l bs w X;rw[T.o]at b;refine b.mono ?_;clear b;rintro _ aa ⟨rfl,Y⟩;have h:=A_ Y;go_wp2_with fail;refine(A5n B 3 d us u aa (W.below h) O).mono ?_;rintro _ ab ⟨rfl,Z⟩;go_wp2;go_ret;exact⟨rfl,BH h Z⟩
theorem B9w (v:AU) (m:TMesh) (b:List Nat) (B:Option AJ) (n d:Nat) (us:List TRat) (aW:List Nat) (k:Nat) (t:TTri) (w:AD) (aB:Agg w v m b) (aA:Sl w B n d us aW) (ac:m.triangles[k]?=QZ t) (aC:A5v n t) (ay:∀ x∈us,B4q x) (bB:n<=40) (aX:m.triangles.length<=48) :
  BL prog 160 #[v,QX B n d,RH RD k] w (A0w w (A6n us t)):=by
 obtain⟨aE,bd,aU,bZ,bi,n1,aV,b0,rfl,rfl,a7,O⟩:=TMesh.agg aB;have aM:=A_ aA;have aO:=A_ ay;have aN:=A_ aC;have a3:k<n1:=by rw[<-O.1];exact(List.getElem?_eq_some_iff.1 ac).1
 have bS:n1<=48:=by rw[<-O.1];exact aX
 obtain⟨bc,a1,a8,a9,ba⟩:=FB B2r;obtain⟨an,be,bf,rfl,bE,ae,bn,bo,bp,bq,br,ap⟩:=TTri.elemA O a3;obtain rfl:t=bf:=by rw[ac]at ae;exact Option.some.inj ae
 have aH:=A_ ap;have bQ:(k:Int)<n1:=oS;have bR:(0:Int)<=k:=oS;have bP:(n1:Int)<=48:=oS;have bD:(n:Int)<=40:=oS;have aR:=A_ (by unfold inB;simp;omega:inB 0 (k:Int) ((n1:Int) - 1)=AF);clear aB aA ac aC ay a7 O ap ae;go_enter func160,ntmps160;go_wp2_with fail;have C:=A0s k 0 ((n1:Int) - 1) (w.alloc (BG #[QX aE bd aU,QX (QZ ⟨an,be,I⟩) n1 aV] 26));rw[aR.o]at C;refine C.mono ?_;clear C;rintro _ h ⟨rfl,aq⟩;obtain⟨bI,bK⟩:=F_ aq;have bV:w.1.size<h.1.size:=ltg aq;have D:=A_ (show Bw w h from Below.go);have bF:an<h.1.size:=by have:=D.size;omega
 go_wp2_with fail;have am:=A_ (Pend.start (α:=TRat) (e:=39) D);refine(A2g _ t _ (h.alloc (BG #[] 39)) (aH.below (D.alloc D.size _))).mono ?_;rintro _ b6 ⟨rfl,ar⟩;have P2:=A_ (am.below ar);clear am ar;go_wp2_with fail;go_loopg [7,24] 3 (λg s3 s wr=>∃ (i gB cap:Nat),i+g=3/\s=RH RD i/\s3=QX (QZ ⟨gB,0,I⟩) i cap/\Hid (Pend w h 39 wr gB i cap ((A6n us t).take i)));case atStart=>exact⟨0,h.1.size,0,rfl,rfl,rfl,P2⟩
 case round =>
  clear P2;obtain⟨i,gB,cap,ax,rfl,rfl,E⟩:=hrel;have aJ:=A_ E.bw;rcases CG i 3 with u|u
  ·have bN:(i:Int)<3:=oS
   have bO:(0:Int)<=i:=oS;obtain⟨g,rfl⟩:∃ g,gk=g+1:=⟨gk - 1,oS⟩
   have a2:=A_ (by omega:i+1+g=3);have aF:=A_ (by unfold BS;omega:i+1<=BS);have aG:=A_ (by omega:(i+1)*56<=140737488355328);obtain⟨q,H⟩:∃ q,C8d t.a t.b t.c i=q:=⟨_,rfl⟩
   have a5:0<=q/\q<n:=by
    have:=aN.o;rw[<-H];obtain rfl|rfl|rfl:i=0\/i=1\/i=2:=oS
    ·exact this.1
    ·exact this.2.1
    exact this.2.2
   obtain⟨bT,bU⟩:=a5;have Y:=D7n us t u;rw[H]at Y;have aQ:=A_ H;have bM:i<3:=u;have aS:=A_ (by unfold inB;simp;omega:inB 0 q ((n:Int) - 1)=AF);have a6:q.toNat<n:=oS;obtain⟨aT,bY,x,bj,bW,bl,b3,bk,bX,bm,b4,rfl,bH,af,bt,bu,bv,aw⟩:=IM (aM.below aJ) a6;have al:=A_ (aO x (DH af));have aP:=A_ (show(A6n us t).take (i+1)=(A6n us t).take i++[x]from take_step (by rw[Y];unfold C4n;rw[A0e af]));have aI:=A_ aw;clear ax u aw af Y H;go_wp2_with fail;rw[aQ.o];have C:=A0s q 0 ((n:Int) - 1) wr;rw[aS.o]at C;refine C.mono ?_;clear C;rintro _ w3 ⟨rfl,G⟩;obtain⟨bJ,bL⟩:=F_ G;have X:=A_ G;have bG:aT<w3.1.size:=by have:=G.size;omega
   clear G;go_wp2_with fail;refine(A3n _ x _ w3 (aI.below X) (CJ al.1 dE) (CJ al.2 dE)).mono ?_;rintro _ wa ⟨b5,aD,rfl,ab,ad,au⟩;obtain⟨T,ag,Z,bz,W,ah,aa,bA,rfl,bh,_,_⟩:=CF ab;have ai:=A_ (A3x (ab.below (BP (BG #[J x.1.1,QX T ag Z,QX W ah aa] 39))));have aj:=A_ ((ad.below (BP (BG #[J x.1.1,QX T ag Z,QX W ah aa] 39))).free);have ak:=A_ (show ∀ b∈aD,wr.1.size<=b from λb aY=>by have:=(ad.2 b aY).1;have:=X.size;omega);have aK:=A_ (show Bw wr wa from BH X au);clear ab ad bh au;go_wp2_with (at_builtin;refine A1v rfl _ _ 27 rfl 39 bc (BJ #[J AH,QX I 0 0,QX I 0 0]) 56 underlying27 a1 a8 a9 ba rfl E (BH aK (BP _)) gD ⟨wa.1.size,0,I⟩ 1 [J x.1.1,QX T ag Z,QX W ah aa] x aD gD (A0a (DB wa _)) ai aj ak aF aG ?_;intro g' ao bg az aZ a4);have aL:=A_ (by rw[aP.o];exact az:Pend w h 39 bg g' (i+1) ao ((A6n us t).take (i+1)));clear az aZ a4 ai aj ak E;go_wp2_with fail;go_roundg g;case measure=>omega
   case rel=>exact⟨i+1,g',ao,a2,gN,rfl,aL⟩
  obtain rfl:i=3:=oS;clear ax u;go_wp2;go_ret;exact E.done
end
theorem E4h (a b c:TPoint) {k:Nat} (h:k<3):(C5e a b c)[k]?=QZ (A5w a b c k):=by
 obtain rfl|rfl|rfl:k=0\/k=1\/k=2:=oS;·rfl
 ·rfl
 rfl
theorem D8a {us:List TRat} {t:TTri} {n:Nat} (G:us.length=n) (b:A5v n t) (h:us.all J_=AF):(A6n us t).all J_=AF:=by
 have K:∀ j:Int,0<=j->j<n->J_ (C4n us j)=AF:=λj D E=>by
  obtain⟨x,u⟩:∃ x,us[j.toNat]?=QZ x:=⟨_,DU oS⟩
  unfold C4n;rw[A0e u];exact CU.1 h x (DH u)
 unfold A6n;simp only[List.all_cons,List.all_nil,Bool.and_true,DJ];exact⟨K _ b.1.1 b.1.2,K _ b.2.1.1 b.2.1.2,K _ b.2.2.1 b.2.2.2⟩
attribute [local simp] MP.aggS MP.aggN
theorem B7w (A:Option AJ) (an:Nat) (b b1 h:TPoint) (aX:List Nat) (B:Option AJ) (aI:Nat) (us:List TRat) (bK:List Nat) (w:AD) (bF:Sl w A 3 an [b,b1,h] aX) (bB:Sl w B 3 aI us bK) (bq:GradOk b b1 h) (bu:us.all J_=AF) :
  BL prog 159 #[QX A 3 an,QX B 3 aI] w (D3j w (B4f b b1 h us 3)):=by
 have a9:=A_ bF;have a8:=A_ bB;have a7:=A_ bq;have bU:=A_ bu;clear bF bB bq bu;go_enter func159,ntmps159;go_wp2_with fail;refine(C4q A an _ aX B aI us bK _ (a9.below Below.go) (a8.below Below.go) a7.pr bU).mono ?_;rintro _ af ⟨rfl,ap⟩;obtain⟨ce,cj⟩:=F_ ap;have cp:w.1.size<af.1.size:=ltg ap;have bT:=A_ (show Bw w af from Below.go);have ba:=A_ (show af.1[w.1.size]?=QZ (BG #[J AH,QX I 0 0,QX I 0 0,J AH,QX I 0 0,QX I 0 0] 41)from K_ (DB w _) ap);clear ap;go_wp2_with fail;refine(B9v 0 0 af oG oG).mono ?_;rintro _ T ⟨v2,aW,rfl,ao,bv,bo⟩;obtain⟨az,aR,aJ,cK,aA,aS,aK,cL,aB,aT,aL,cM,aC,aU,aM,cN,rfl,cq,_,_,_,_⟩:=EW ao;have ah:=A_ bo;have a2:=A_ (E4q ao);have aG:=A_ (show ∀ u∈aW,af.1.size<=u/\u<T.1.size from λu E=>⟨(bv.2 u E).1,ao.lt u E⟩);clear ao bv bo cq ce cj;go_upto_region 4 with fail;obtain⟨w3,aq⟩:∃ w3,w3=T.alloc (BG #[J (ptI 0 0).x.1.1,QX az aR aJ,QX aA aS aK,J (ptI 0 0).y.1.1,QX aB aT aL,QX aC aU aM] 41):=⟨_,rfl⟩
 have ag:=A_ (by rw[aq];exact BP _:Bw T w3);have co:=ah.size
 have ai:=A_ (show AccPt w w3 T.1.size w.1.size (B4f b b1 h us 0) [J (ptI 0 0).x.1.1,QX az aR aJ,QX aA aS aK,J (ptI 0 0).y.1.1,QX aB aT aL,QX aC aU aM] aW from
  ⟨BH (BH bT.o ah.o) ag.o,by rw[aq];exact DB T _,Dat.keep a2 (λu E=>ag.block u (aG u E).2),λu E=>by have:=aG u E;omega,K_ (K_ ba.o ah.o) ag.o,oS⟩)
 rw[<-aq];clear aq cp ba;have bX:=A_ ai.bl;go_wp2_with fail;refine(B1l A an b b1 h aX w3 (a9.below bX) a7).mono ?_;rintro _ ay ⟨bQ,cu,b4,bj,rfl,aP,bz,bp⟩;obtain rfl:3=cu:=by rw[<-aP.1];exact(B8g b b1 h 3).symm
 have W:=A_ aP;have aH:=A_ (ai.below bp);have bO:=A_ (DI ay.1.size ay);have cm:T.1.size<ay.1.size:=E_ aH.bx;have bR:=A_ (show ∀ u∈bj,u≠T.1.size from λu E=>by have cO:=(bz.2 u E).1;have cP:=E_ ai.bx;omega);generalize T.1.size=ad at *;clear aP bz bp ai a2 aG ag ah co;go_wp2_with fail;go_loopg [17] 3 (λg s wr=>∃ (k:Nat) (aj:Option AJ) (m1 q1:Nat) (ak:Option AJ) (m2 q2:Nat) (al:Option AJ) (ar aw:Nat) (am:Option AJ) (au ax:Nat) (r:List Nat),k+g=3/\s=RH RD k/\Hid (AccPt w wr ad w.1.size (B4f b b1 h us k) [J (B4f b b1 h us k).x.1.1,QX aj m1 q1,QX ak m2 q2,J (B4f b b1 h us k).y.1.1,QX al ar aw,QX am au ax] r)/\Hid (Bw ay wr\/True)/\Hid (Sl wr bQ 3 b4 (C5e b b1 h) bj));case atStart=>exact⟨0,az,aR,aJ,aA,aS,aK,aB,aT,aL,aC,aU,aM,aW,rfl,rfl,aH,.inr trivial,W⟩
 case round =>
  clear aH bO cm W;obtain⟨k,aj,m1,q1,ak,m2,q2,al,ar,aw,am,au,ax,r,bt,rfl,D,_,W⟩:=hrel;rcases CG k 3 with ab|ab
  ·obtain⟨g,rfl⟩:∃ g,gk=g+1:=⟨gk - 1,oS⟩
   have cn:=A_ (by omega:k+1+g=3);have cU:(k:Int)<3:=oS;have cV:(0:Int)<=k:=oS;have bP:=A_ D.bl;obtain⟨cF,c6,x,cB,c1,cG,de,cD,c2,cH,df,cE,c4,cI,dg,X5,c5,cJ,dh,rfl,cQ,aQ,bh,b7,b8,bi,b9,ca,aN⟩:=GD W ab;obtain rfl:x=A5w b b1 h k:=by rw[E4h b b1 h ab]at aQ;exact(Option.some.inj aQ).symm
   obtain⟨Z,aV,ac,b0,cv,b5,u1,b3,cw,b6,u2,rfl,aO,bE,bk,bl,bm,bD⟩:=IM (a8.below bP) ab;have aF:=A_ (by rw[B4f,A0e bE]:B4f b b1 h us (k+1)=A3y (B4f b b1 h us k) (A0v ac (A5w b b1 h k)));obtain⟨aa,br⟩:∃ aa,A5w b b1 h k=aa:=⟨_,rfl⟩
   obtain⟨Y,bn⟩:∃ Y,B4f b b1 h us k=Y:=⟨_,rfl⟩
   rw[br]at aN aF bh bi;rw[bn]at D aF;have bS:=A_ aN;have bW:=A_ bD;clear bt ab aQ aN bE bD br bn;go_upto_region 7 with fail;refine Code.new λX aE=>?_;have aD:=A_ aE.k;have H:=A_ aE.b;clear bh b7 b8 bi b9 ca aE;have P1:=A_ (D.below H);have a1:=A_ (show Agg X (BJ #[J Y.x.1.1,QX aj m1 q1,QX ak m2 q2,J Y.y.1.1,QX al ar aw,QX am au ax]) Y r from⟨_,rfl,P1.at_⟩);have bc:=A_ (bW.below H);obtain⟨bL,bM,-⟩:=bx P1.bx;obtain⟨cA,-,-⟩:=bx aD;have cb:X.cell? ⟨Z,aV+k*3,I⟩=QZ (J ac.1.1):=(H.cell (p:=⟨Z,_,I⟩) aO).trans bk;have cc:X.cell? ⟨Z,aV+k*3+1,I⟩=QZ (QX b0 cv b5):=(H.cell (p:=⟨Z,_,I⟩) aO).trans bl;have cd:X.cell? ⟨Z,aV+k*3+2,I⟩=QZ (QX b3 cw b6):=(H.cell (p:=⟨Z,_,I⟩) aO).trans bm;have c0:wr.1.size<X.1.size:=E_ aD;have ct:ad<X.1.size:=E_ P1.bx;have cY:Z<X.1.size:=oS;clear bk bl bm;refine X_ sI ?_;dsimp only[DN,DO,DQ];iterate 6 refine C_ _ ?_
   refine D_ (CH (A0v ac aa)) ?_ ?_;·intro bN aZ aY G O;obtain⟨cg,ck⟩:=F_ G;simp at O;refine G_ ?_;exact H_ (A1n _ _ ac aa _ _ aY (bc.below G) ((bS.below H).below G))
   refine D_ (CH (A3y Y (A0v ac aa))) ?_ ?_;·intro bN aZ aY G O;obtain⟨cg,ck⟩:=F_ G;simp at O;refine G_ ?_;exact H_ (A4x _ _ Y (A0v ac aa) _ _ aY (a1.below G) (by obtain⟨_,t⟩:=O;first|exact t|exact t.1|exact t.1.1))
   intro bN aZ wa G O (ch:Hid _);simp at O;have cx:=O.2.2.2.2.2.2.2;obtain⟨⟨ae,ci⟩,bA⟩:=cx;rw[<-aF.o]at ae;obtain⟨a3,bG,bd,da,a4,bH,be,db,a5,bI,bf,dc,a6,bJ,bg,dd,cz,cs,_,_,_,_⟩:=EW ae;rw[cz]at ae;have P2:=A_ (P1.below G);have cR:ad<wr.1.size:=E_ D.bx;have cW:=D.lo;have bY:=A_ (P2.set (E4q ae) (λu E=>by have:=(bA u E).1;have:=H.size;omega));have bZ:=A_ (((W.below H).below G).keep (λu E=>A0m ad [J (B4f b b1 h us (k+1)).x.1.1,QX a3 bG bd,QX a4 bH be,J (B4f b b1 h us (k+1)).y.1.1,QX a5 bI bf,QX a6 bJ bg] wa 0 u (bR u E)));obtain⟨c8,c9,cX⟩:=bx P2.bx;generalize aZ 7=cy at *;clear O ch ae ci bA cs G P1 P2 a1 bc D W aD H bL bM cA cb cc cd;go_wp2_with fail;go_roundg g;case measure=>omega
   case rel=>exact⟨k+1,a3,bG,bd,a4,bH,be,a5,bI,bf,a6,bJ,bg,cy,cn,oD,bY,.inr trivial,bZ⟩
  obtain rfl:k=3:=oS;have bV:=A_ D.o.o;obtain⟨bL,bM,-⟩:=bx D.bx;obtain⟨r0,c7,-⟩:=bx D.rs;have ct:ad<wr.1.size:=E_ D.bx;have cZ:w.1.size<wr.1.size:=E_ D.rs;clear D W bt ab;go_wp2;refine CK (v:=BJ #[J (B4f b b1 h us 3).x.1.1,QX aj m1 q1,QX ak m2 q2,J (B4f b b1 h us 3).y.1.1,QX al ar aw,QX am au ax]) (by simp[CO,results159,go_sem, *]) rfl ?_;exact bV
theorem B6z (v:AU) (m:TMesh) (b:List Nat) (B:Option AJ) (n d:Nat) (us:List TRat) (aC:List Nat) (k:Nat) (t:TTri) (w:AD) (af:Agg w v m b) (ae:Sl w B n d us aC) (aL:m.triangles[k]?=QZ t) (ag:A5v m.1.length t) (ad:n=m.1.length)
  (aK:GradOk (Z_ m.1 t.a) (Z_ m.1 t.b) (Z_ m.1 t.c)) (X:us.all J_=AF) (aH:m.1.all A1b=AF) (aD:m.1.length<=40) (aE:m.triangles.length<=48) :
  BL prog 99 #[v,QX B n d,RH RD k] w (D3j w (B4f (Z_ m.1 t.a) (Z_ m.1 t.b) (Z_ m.1 t.c) (A6n us t) 3)):=by
 have au:=A_ af;have aW:=A_ ae;have ap:=A_ aL;have aw:=A_ ag;have aV:=A_ aK;have bg:=A_ X;have aR:=A_ aH;have an:=A_ aD;have ao:=A_ aE;have aq:=A_ ad;have a1:=A_ (D8a (us:=us) (t:=t) ae.1 (by rw[ad];exact ag) X);have aZ:=A_ (B6l X);obtain⟨Z,ah,ab,bm,aa,n1,ac,bn,rfl,rfl,a6,a7⟩:=TMesh.agg af;clear a6 a7 af ae aL ag aK X aH aD aE ad;go_enter func99,ntmps99;go_upto_region 1 with fail;obtain⟨D,E⟩:∃ D,D=(w.alloc (BG #[QX Z ah ab,QX aa n1 ac] 26)).alloc (BG #[J AH,QX I 0 0,QX I 0 0,J AH,QX I 0 0,QX I 0 0] 41):=⟨_,rfl⟩
 have T:=A_ (by rw[E];exact(BP _).alloc sI _:Bw w D);have aX:=A_ (by rw[E];exact K_ (DB w _) (BP _):D.1[w.1.size]?=QZ (BG #[QX Z ah ab,QX aa n1 ac] 26));have ax:=A_ (show D.1[w.1.size+1]?=QZ (BG #[J AH,QX I 0 0,QX I 0 0,J AH,QX I 0 0,QX I 0 0] 41) by rw[E];have:=DB (w.alloc (BG #[QX Z ah ab,QX aa n1 ac] 26)) (BG #[J AH,QX I 0 0,QX I 0 0,J AH,QX I 0 0,QX I 0 0] 41);rwa [FU]at this);have a2:=A_ (by rw[E];simp:D.1.size=w.1.size+2);rw[<-E];clear E;obtain⟨a4,-,a8⟩:=bx aX;have l1:w.1.size+1<D.1.size:=E_ ax;refine X_ sI ?_;dsimp only[DN,DO,DQ];iterate 2 refine C_ _ ?_
 refine D_ (MP.sl (B5j m.1 t)) ?_ ?_;·intro ai O H h u;obtain⟨aI,aJ⟩:=F_ h;simp at u;refine G_ ?_;exact A1c (A6s _ m _ k t H ((au.below T).below h) ap aw aR an ao)
 iterate 3 refine C_ _ ?_
 refine D_ (MP.sl (A6n us t)) ?_ ?_;·intro ai O H h u;obtain⟨aI,aJ⟩:=F_ h;simp at u;refine G_ ?_;exact A1c (B9w _ m _ B n d us aC k t H ((au.o.below T.o).below h) ((aW.o.below T.o).below h) ap.o (by rw[aq.o];exact aw.o) aZ.o (by rw[aq.o];exact an) ao)
 refine D_ (MP.aggN (B4f (Z_ m.1 t.a) (Z_ m.1 t.b) (Z_ m.1 t.c) (A6n us t) 3)) ?_ ?_;·intro ai O H h u;obtain⟨aI,aJ⟩:=F_ h;simp at u;obtain⟨⟨⟨C,a9,cC,bj,aF⟩,_⟩,⟨aS,ba,a3,bk,aG⟩,_⟩:=u;obtain rfl:3=a9:=aF.1;obtain rfl:3=ba:=aG.1;refine G_ ?_;exact B8i (B7w C cC _ _ _ _ aS a3 _ _ H aF aG aV a1)
 intro ai O wa h u (a5:Hid _);simp at u;have bc:=u.2.2.2.2.2.2.2;obtain⟨W,aM⟩:=bc;generalize B4f (Z_ m.1 t.a) (Z_ m.1 t.b) (Z_ m.1 t.c) (A6n us t) 3=Y at *;obtain⟨aj,aN,ay,u1,ak,aO,az,u2,al,aP,aA,bo,am,aQ,aB,bp,be,bf,_,_,_,_⟩:=EW W;rw[be]at W;have aT:=A_ W;have ar:=A_ (show ∀ b∈O 7,w.1.size+2<=b from λb G=>by have:=(aM b G).1;have:=a2.o;omega);have aY:=A_ (K_ ax h);have aU:=A_ (BH T h);obtain⟨bh,bi,bl⟩:=bx aY;generalize O 7=bd at *;clear u a5 W aM bf h a4 a8 l1;go_wp2;refine CK (v:=BJ #[J Y.x.1.1,QX aj aN ay,QX ak aO az,J Y.y.1.1,QX al aP aA,QX am aQ aB]) (by simp[CO,results99,go_sem, *]) rfl ?_;refine⟨_,bd,rfl,aT.keep (λb G=>A0m (w.1.size+1) [J Y.x.1.1,QX aj aN ay,QX ak aO az,J Y.y.1.1,QX al aP aA,QX am aQ aB] wa 0 b (by have:=ar b G;omega)),λb G=>by have:=ar.o b G;omega,?_⟩;exact(((((aU.setCell (p:=⟨w.1.size+1,0,I⟩) (JS _) _).setCell (p:=⟨w.1.size+1,1,I⟩) (JS _) _).setCell (p:=⟨w.1.size+1,2,I⟩) (JS _) _).setCell (p:=⟨w.1.size+1,3,I⟩) (JS _) _).setCell (p:=⟨w.1.size+1,4,I⟩) (JS _) _).setCell (p:=⟨w.1.size+1,5,I⟩) (JS _) _
structure LinD (p:TProblem) (us:List TRat):Prop where
 tri:∀ t∈p.1.triangles,A5v p.1.1.length t/\(0<=t.4/\t.4<3)/\GradOk (Z_ p.1.1 t.a) (Z_ p.1.1 t.b) (Z_ p.1.1 t.c)
 ok:p.1.1.all A1b=AF
 n40:p.1.1.length<=40
 t48:p.1.triangles.length<=48
 dl:p.2.length=3
 ul:us.length=p.1.1.length
 uo:us.all J_=AF
def grT (p:TProblem) (us:List TRat) (t:TTri):TPoint:=B4f (Z_ p.1.1 t.a) (Z_ p.1.1 t.b) (Z_ p.1.1 t.c) (A6n us t) 3
def B4w (p:TProblem) (t:TTri):TRat:=p.2.getD t.4.toNat A0h
def leT (p:TProblem) (us:List TRat) (t:TTri):TRat:=A0d (A0d (B4w p t) (A6c (Z_ p.1.1 t.a) (Z_ p.1.1 t.b) (Z_ p.1.1 t.c))) (A1k (grT p us t) (grT p us t))
theorem D8t (v:AU) (p:TProblem) (b:List Nat) (B:Option AJ) (n d:Nat) (us:List TRat) (aH:List Nat) (k:Nat) (t:TTri) (w:AD) (ay:Agg w v p b) (ax:Sl w B n d us aH) (ae:LinD p us) (aw:p.1.triangles[k]?=QZ t) :
  BL prog 107 #[v,QX B n d,RH RD k] w (A0c w (leT p us t)):=by
 have aX:=A_ ay;have aW:=A_ ax;have E:=A_ ae;have al:=A_ aw;have ab:=A_ (ae.tri t (DH aw));have aU:=A_ (by rw[<-ae.ul];exact ax.1.symm:n=p.1.1.length);obtain⟨af,az,ao,bL,ag,n1,ap,bM,ah,n2,aq,bO,ai,aA,c3,bP,rfl,rfl,aM,aN,a9,ba⟩:=TProblem.agg ay;have aD:=A_ (TMesh.mkAgg (x:=p.1) aM aN);clear aM aN a9 ba ay ax ae aw;go_enter func107,ntmps107;go_upto_region 1 with fail;obtain⟨H,O⟩:∃ H,H=(w.alloc (BG #[QX af az ao,QX ag n1 ap,QX ah n2 aq,QX ai aA c3] 29)).alloc (BG #[J AH,QX I 0 0,QX I 0 0] 39):=⟨_,rfl⟩
 have aj:=A_ (by rw[O];exact(BP _).alloc sI _:Bw w H);have aE:=A_ (by rw[O];exact K_ (DB w _) (BP _):H.1[w.1.size]?=QZ (BG #[QX af az ao,QX ag n1 ap,QX ah n2 aq,QX ai aA c3] 29));have aY:=A_ (show H.1[w.1.size+1]?=QZ (BG #[J AH,QX I 0 0,QX I 0 0] 39) by rw[O];have:=DB (w.alloc (BG #[QX af az ao,QX ag n1 ap,QX ah n2 aq,QX ai aA c3] 29)) (BG #[J AH,QX I 0 0,QX I 0 0] 39);rwa [FU]at this);have a3:=A_ (by rw[O];simp:H.1.size=w.1.size+2);rw[<-O];clear O;obtain⟨ar,-,aO⟩:=bx aE;go_wp2_with fail;refine(B6z _ p.1 _ B n d us aH k t H (aD.below aj) (aW.below aj) al ab.1 aU ab.2.2 E.uo E.ok E.n40 E.t48).mono ?_;rintro _ bh ⟨v1,bN,rfl,ad,a8,aJ⟩;obtain⟨g,au⟩:∃ g,grT p us t=g:=⟨_,rfl⟩
 rw[show B4f (Z_ p.1.1 t.a) (Z_ p.1.1 t.b) (Z_ p.1.1 t.c) (A6n us t) 3=g from au]at ad;have a2:=A_ (by rw[leT,au]:leT p us t=A0d (A0d (B4w p t) (A6c (Z_ p.1.1 t.a) (Z_ p.1.1 t.b) (Z_ p.1.1 t.c))) (A1k g g));obtain⟨bm,bG,bq,u1,bn,bH,br,u2,bo,bI,bt,bR,bp,bJ,bu,bS,rfl,bk,_,_,_,_⟩:=EW ad;have aS:=A_ ad;have aa:=A_ aJ;clear ad a8 aJ bk ar aO au;go_upto_region 2 with fail;refine Code.new λan am=>?_;have W:=A_ am.b;have aG:=A_ am.k;clear am;have ak:=A_ (BH (BH aj aa) W);have aF:=A_ (K_ (K_ aE aa) W);have aZ:=A_ (K_ (K_ aY aa) W);have aC:=A_ (aS.below W);obtain⟨ar,-,-⟩:=bx aF;obtain⟨bi,-,-⟩:=bx aG;have aO:w.1.size<an.1.size:=E_ aF;have bE:bh.1.size<an.1.size:=E_ aG;have bF:w.1.size+2<=an.1.size:=by have:=a3.o;have:=aa.size;have:=W.size;omega
 refine X_ sI ?_;dsimp only[DN,DO,DQ];iterate 2 refine C_ _ ?_
 refine D_ (MP.aggS (B4w p t)) ?_ ?_;·intro T G D h u;obtain⟨X,Y⟩:=F_ h;simp at u;refine G_ ?_;exact A7t (B1h _ p _ k t D ((aX.below ak).below h) al E.dl ab.2.1)
 iterate 3 refine C_ _ ?_
 refine D_ (MP.sl (B5j p.1.1 t)) ?_ ?_;·intro T G D h u;obtain⟨X,Y⟩:=F_ h;simp at u;refine G_ ?_;exact A1c (A6s _ p.1 _ k t D ((aD.below ak).below h) al ab.1 E.ok E.n40 E.t48)
 refine D_ (CH (A6c (Z_ p.1.1 t.a) (Z_ p.1.1 t.b) (Z_ p.1.1 t.c))) ?_ ?_;·intro T G D h u;obtain⟨X,Y⟩:=F_ h;simp at u;obtain⟨⟨C,bc,cC,bA,aI⟩,_⟩:=u;obtain rfl:3=bc:=aI.1;refine G_ ?_;exact H_ (B3h C cC _ _ _ _ D aI)
 refine D_ (CH (A0d (B4w p t) (A6c (Z_ p.1.1 t.a) (Z_ p.1.1 t.b) (Z_ p.1.1 t.c)))) ?_ ?_;·intro T G D h u;obtain⟨X,Y⟩:=F_ h;simp at u;refine G_ ?_;obtain⟨⟨_,bQ,aB⟩,Z⟩:=u;exact H_ (A0n _ _ (B4w p t) _ _ _ D aB (by first|exact Z.1|exact Z.1.1))
 iterate 2 refine C_ _ ?_
 refine D_ (CH (A1k g g)) ?_ ?_;·intro T G D h u;obtain⟨X,Y⟩:=F_ h;simp at u;refine G_ ?_;exact H_ (A8z _ _ g g _ _ D (aC.below h) (aC.below h))
 refine D_ (CH (leT p us t)) ?_ ?_;·intro T G D h u;obtain⟨X,Y⟩:=F_ h;simp at u;refine G_ ?_;rw[a2.o];obtain⟨aB,Z⟩:=u;exact H_ (A0n _ _ _ (A1k g g) _ _ D aB.1 (by first|exact Z.1|exact Z.1.1))
 intro T G wa h u (a7:Hid _);simp at u;have bg:=u.2.2.2.2.2.2.2.2.2.2.2.2;obtain⟨⟨ac,aK⟩,aL⟩:=bg;generalize leT p us t=bf at *;obtain⟨aP,bd,a4,bv,aQ,be,a5,bz,bj,bl,_,_⟩:=CF ac;rw[bj]at ac;have aR:=A_ ac;have aT:=A_ aK;have aV:=A_ (show ∀ b∈G 12,w.1.size+2<=b from λb a6=>by have:=(aL b a6).1;omega);have a1:=A_ (K_ aZ h);have bB:=BH ak h;obtain⟨bT,bU,bD⟩:=bx a1;generalize G 12=bK at *;clear u a7 ac aK aL bl h ar bi;go_wp2;refine CK (v:=BJ #[J bf.1.1,QX aP bd a4,QX aQ be a5]) (by simp[CO,results107,go_sem, *]) rfl ?_;refine A1s (lo:=w.1.size+2) aR.o aT.o aV.o oS ?_ ?_;·exact Above.go
 exact Below.go
def E2o (p:TProblem) (t:TTri):TRat:=p.3.getD t.4.toNat A0h
def ixT (t:TTri) (v:Int):Nat:=if t.a=v then 0 else if t.b=v then 1 else 2
def A5g (p:TProblem) (us:List TRat) (t:TTri) (v:Int):TPiece :=
 ⟨[Z_ p.1.1 t.a,Z_ p.1.1 t.b,Z_ p.1.1 t.c],Z_ p.1.1 (A3h t v).1,Z_ p.1.1 (A3h t v).2,
  A6c (Z_ p.1.1 t.a) (Z_ p.1.1 t.b) (Z_ p.1.1 t.c),B4w p t,grT p us t,A5w (Z_ p.1.1 t.a) (Z_ p.1.1 t.b) (Z_ p.1.1 t.c) (ixT t v),E2o p t⟩
def C1f (x:TPiece):TRat:=A3t (A0d (A0d x.f x.area) (mkR 1 3)) (A0d (A0d x.k x.area) (A1k x.grad x.own))
def byP (x:TPiece):TRat:=A3u (U_ 1) (A0d (U_ 2) x.area)
def E3j (x:TPiece):TPoint:=A5x (x.list.getD 0 pt0) (x.list.getD 1 pt0) (x.list.getD 2 pt0)
def sP (x:TPiece) (first second:TRat):TPoint:=A0v (byP x) (A4a (A0v second (A4a (E3j x) x.b)) (A0v first (A4a (E3j x) x.c)))
def dP (x:TPiece):TPoint:=A0v (byP x) (A4a x.c x.b)
def B0i (x:TPiece) (first second:TRat):TRat:=A0k (A3u (A0d x.area (A1k (dP x) (sP x first second))) x.k) (A0d (A0d x.area (A1k (dP x) x.grad)) (mkR 1 3))
def B3c (x:TPiece):TRat:=A3u (A0d x.area (A1k (dP x) (dP x))) x.k
def pc0:TPiece:=⟨[],pt0,pt0,A0h,A0h,pt0,pt0,A0h⟩
def A2h (xs:List TPiece):Nat->List TRat
 |0=>[U_ 0]
 |i+1=>A2h xs i++[A0k ((A2h xs i).getD i A0h) (C1f (xs.getD i pc0))]
def B3x (xs:List TPiece):Nat->TRat
 |0=>U_ 0
 |i+1=>A0k (B3x xs i) (B0i (xs.getD i pc0) ((A2h xs (i+1)).getD i A0h) ((A2h xs (i+1)).getD (i+1) A0h))
def B2i (xs:List TPiece):Nat->TRat
 |0=>U_ 0
 |i+1=>A0k (B2i xs i) (B3c (xs.getD i pc0))
def D7a (xs:List TPiece):TRat:=C3m (A3u (B3x xs xs.length) (B2i xs xs.length))
def A9c (xs:List TPiece) (cl:Bool):List TRat:=((A2h xs xs.length).take (if cl then xs.length else xs.length+1)).map λr=>A0k r (D7a xs)
def A1h (p:TProblem) (us:List TRat) (f:TFan) (v:Int):List TPiece:=f.triangles.map λk=>A5g p us (p.1.triangles.getD k.toNat A4p) v
def A6f (p:TProblem) (us:List TRat) (f:TFan) (v:Int):List TRat:=A9c (A1h p us f v) f.closed
def B2d (es:List TEdge) (v:Int) (sp:List Int) (fl o:List TRat):Nat->List TRat
 |0=>o
 |k+1=>(B2d es v sp fl o k).set (sp.getD k 0).toNat
  (bif decide ((es.getD (sp.getD k 0).toNat A4o).a=v)then A3t ((B2d es v sp fl o k).getD (sp.getD k 0).toNat A0h) (fl.getD k A0h)else A0k ((B2d es v sp fl o k).getD (sp.getD k 0).toNat A0h) (fl.getD k A0h))
def D7s:TFan:=⟨[],[],AH⟩
def A4q (p:TProblem) (us:List TRat) (es:List TEdge) (v:Int) (fs:List TFan) (o:List TRat):Nat->List TRat
 |0=>o
 |i+1=>B2d es v (fs.getD i D7s).spokes (A6f p us (fs.getD i D7s) v) (A4q p us es v fs o i) (fs.getD i D7s).spokes.length
def A3j (p:TProblem) (us:List TRat):Nat->List TRat
 |0=>DK (P_ p.1.triangles).length (U_ 0)
 |v+1=>A4q p us (P_ p.1.triangles) v (A8x p.1.triangles v) (A3j p us v) (A8x p.1.triangles v).length
def A4i (p:TProblem) (us:List TRat):List TRat:=A3j p us p.1.1.length
def B7d (p:TProblem) (t:TTri):TRat:=A0d (E2o p t) (A6c (Z_ p.1.1 t.a) (Z_ p.1.1 t.b) (Z_ p.1.1 t.c))
def B2e (p:TProblem) (us:List TRat) (t:TTri):TPoint:=A0v (B4w p t) (grT p us t)
def D5o (p:TProblem) (us fl:List TRat) (k:Nat) (t:TTri):TRat :=
 A3u (C1a (Z_ p.1.1 t.a) (Z_ p.1.1 t.b) (Z_ p.1.1 t.c) (A7o (P_ p.1.triangles) fl k t) (B2e p us t)) (B4w p t)
def B3i (p:TProblem) (us fl:List TRat):Nat->List TRat
 |0=>[]
 |k+1=>B3i p us fl k++[D5o p us fl k (p.1.triangles.getD k A4p)]
def C3k (p:TProblem) (us fl:List TRat):List TRat:=B3i p us fl p.1.triangles.length
theorem B7o (xs:List TPiece):∀ i,(A2h xs i).length=i+1
 |0=>rfl
 |i+1=>by rw[A2h,GQ,B7o xs i];rfl
theorem D0r (es:List TEdge) (v:Int) (sp:List Int) (fl o:List TRat):∀ k,(B2d es v sp fl o k).length=o.length
 |0=>rfl
 |k+1=>by rw[B2d,List.length_set,D0r es v sp fl o k]
theorem C2w (p:TProblem) (us:List TRat) (es:List TEdge) (v:Int) (fs:List TFan) (o:List TRat):∀ i,(A4q p us es v fs o i).length=o.length
 |0=>rfl
 |i+1=>by rw[A4q,D0r,C2w p us es v fs o i]
theorem C7s (p:TProblem) (us:List TRat):∀ v,(A3j p us v).length=(P_ p.1.triangles).length
 |0=>by rw[A3j,List.length_replicate]
 |v+1=>by rw[A3j,C2w,C7s p us v]
theorem A9j {g:Bool} {l:LF} (h:(D1s g l).ok=AF):g=AF/\l.ok=AF:=by
 unfold D1s at h;cases b:g&&l.ok with
 |false=>rw[b]at h;cases h
 |true=>rw[DJ]at b;exact b
abbrev LP:=LF×LF
def LP.ok (P:LP):Bool:=P.1.ok&&P.2.ok
def E2c (P:LP):LP:=bif P.ok then P else(A4z,A4z)
def D4q (P Q:LP):LP:=E2c (C8u P.1 Q.1,C8u P.2 Q.2)
def E7o (P Q:LP):LP:=E2c (E1z P.1 Q.1,E1z P.2 Q.2)
def D6h (l:LF) (c:TPoint):LP:=E2c (A7p c.x l,A7p c.y l)
def C3y (k:TRat) (P:LP):LP:=E2c (A7p k P.1,A7p k P.2)
def C1h (c:TPoint) (P:LP):LF:=C8u (A7p c.x P.1) (A7p c.y P.2)
def RepP (s:A2c) (P:LP) (p:TPoint):Prop:=P.ok=AF->p.x=toR (P.1.at s)/\p.y=toR (P.2.at s)
theorem LP.ok_iff {P:LP}:P.ok=true↔P.1.ok=true/\P.2.ok=true:=by unfold LP.ok;simp
theorem RepP.fst {s:A2c} {P:LP} {p:TPoint} (h:RepP s P p) (h2:P.2.ok=AF):Rep s P.1 p.x:=λh1=>(h (LP.ok_iff.2 ⟨h1,h2⟩)).1
theorem RepP.snd {s:A2c} {P:LP} {p:TPoint} (h:RepP s P p) (h1:P.1.ok=AF):Rep s P.2 p.y:=λh2=>(h (LP.ok_iff.2 ⟨h1,h2⟩)).2
theorem RepP.if_ {s:A2c} {P:LP} {p:TPoint} (E:SrcIn s) (h:P.ok=AF->Rep s P.1 p.x/\Rep s P.2 p.y):RepP s (E2c P) (ifP p):=by
 unfold E2c;cases D:P.ok with
 |false=>intro h;cases h
 |true =>
  intro _
  obtain⟨b,u⟩:=h D
  obtain⟨k1,k2⟩:=LP.ok_iff.1 D
  have e:A1b p=AF:=by unfold A1b;rw[b.val E k1,u.val E k2];rfl
  unfold ifP
  rw[e]
  exact⟨b k1,u k2⟩
theorem RepP.add {s:A2c} {P Q:LP} {p q:TPoint} (u:SrcIn s) (D:RepP s P p) (E:RepP s Q q):RepP s (D4q P Q) (A3y p q):=by
 refine RepP.if_ u λG=>?_;obtain⟨k1,k2⟩:=LP.ok_iff.1 G;have b:=(A9j k1).1;have h:=(A9j k2).1;rw[DJ]at b h;exact⟨Rep.add u (D.fst h.1) (E.fst h.2),Rep.add u (D.snd b.1) (E.snd b.2)⟩
theorem RepP.sub {s:A2c} {P Q:LP} {p q:TPoint} (u:SrcIn s) (D:RepP s P p) (E:RepP s Q q):RepP s (E7o P Q) (A4a p q):=by
 refine RepP.if_ u λG=>?_;obtain⟨k1,k2⟩:=LP.ok_iff.1 G;have b:=(A9j k1).1;have h:=(A9j k2).1;rw[DJ]at b h;exact⟨Rep.sub u (D.fst h.1) (E.fst h.2),Rep.sub u (D.snd b.1) (E.snd b.2)⟩
theorem RepP.con {s:A2c} {l:LF} {r:TRat} {c:TPoint} (hs:SrcIn s) (h:Rep s l r):RepP s (D6h l c) (A0v r c) :=
 RepP.if_ hs λ_=>⟨Rep.scale' hs h,Rep.scale' hs h⟩
theorem RepP.scale {s:A2c} {k:TRat} {P:LP} {p:TPoint} (b:SrcIn s) (h:RepP s P p):RepP s (C3y k P) (A0v k p):=by
 refine RepP.if_ b λE=>?_;obtain⟨k1,k2⟩:=LP.ok_iff.1 E;have u:=(A9j k1).1;have D:=(A9j k2).1;rw[DJ]at u D;exact⟨Rep.scale b (h.fst D.2),Rep.scale b (h.snd u.2)⟩
theorem C9p {c:TPoint} {P:LP} (h:(C1h c P).ok=AF):P.1.ok=AF/\P.2.ok=AF:=by
 have a:=(A9j h).1;rw[DJ]at a;have b1:=(A9j a.1).1;have b2:=(A9j a.2).1;rw[DJ]at b1 b2;exact⟨b1.2,b2.2⟩
theorem D0s {s:A2c} {c:TPoint} {P:LP} {p:TPoint} (hs:SrcIn s) (h:RepP s P p):Rep s (C1h c P) (A1k c p):=λhk=>by
 obtain⟨k1,k2⟩:=C9p hk
 exact Rep.add hs (Rep.scale hs (h.fst k2)) (Rep.scale hs (h.snd k1)) hk
theorem D8d {s:A2c} {c:TPoint} {P:LP} {p:TPoint} (hs:SrcIn s) (h:RepP s P p):Rep s (C1h c P) (A1k p c):=λhk=>by
 obtain⟨k1,k2⟩:=C9p hk
 exact Rep.add hs (Rep.scale' hs (h.fst k2)) (Rep.scale' hs (h.snd k1)) hk
def RepL (s:A2c) (ls:List LF) (rs:List TRat):Prop:=ls.length=rs.length/\∀ i,Rep s (ls.getD i A4z) (rs.getD i A0h)
theorem RepL.nil {s:A2c}:RepL s [] []:=⟨rfl,λi=>by simpa using Rep.bad⟩
theorem C4z {α:Type} (l m:List α) (d:α) (i:Nat):(l++m).getD i d=if i<l.length then l.getD i d else m.getD (i - l.length) d:=by
 simp only[EH];split;·rw[List.getElem?_append_left (by assumption)]
 rw[List.getElem?_append_right oS]
theorem RepL.push {s:A2c} {u:List LF} {b:List TRat} {l:LF} {r:TRat} (h:RepL s u b) (D:Rep s l r):RepL s (u++[l]) (b++[r]):=by
 refine⟨by simp[h.1],λi=>?_⟩;rw[C4z,C4z,h.1];split;·exact h.2 i
 ·cases E:i - b.length with
  |zero=>exact D
  |succ n=>simpa using Rep.bad
theorem RepL.set {s:A2c} {u:List LF} {D:List TRat} {l:LF} {r:TRat} (h:RepL s u D) (k:Nat) (E:Rep s l r):RepL s (u.set k l) (D.set k r):=by
 refine⟨by simp[h.1],λi=>?_⟩;simp only[EH,List.getElem?_set];by_cases b:k=i
 ·subst b
  rw[if_pos rfl,if_pos rfl,h.1];split;·exact E
  exact Rep.bad
 rw[if_neg b,if_neg b];have:=h.2 i;simpa only [EH]using this
theorem RepL.take {s:A2c} {b:List LF} {u:List TRat} (h:RepL s b u) (n:Nat):RepL s (b.take n) (u.take n):=by
 refine⟨by simp[h.1],λi=>?_⟩;simp only[EH,List.getElem?_take];split;·have:=h.2 i;simpa only [EH]using this
 exact Rep.bad
theorem RepL.map {s:A2c} {u:List LF} {D:List TRat} {f:LF->LF} {g:TRat->TRat} (h:RepL s u D) (E:∀ l r,Rep s l r->Rep s (f l) (g r)):RepL s (u.map f) (D.map g):=by
 refine⟨by simp[h.1],λi=>?_⟩;have b:=h.2 i;simp only[EH,List.getElem?_map]at b ⊢;by_cases G:i<u.length
 ·have H:i<D.length:=by have:=h.1;omega
  rw[DU G,DU H]at b ⊢;exact E _ _ b
 rw[List.getElem?_eq_none oS];exact Rep.bad
theorem RepL.replicate {s:A2c} (n:Nat):RepL s (DK n A4k) (DK n (U_ 0)):=by
 refine⟨sI,λi=>?_⟩;simp only[EH,List.getElem?_replicate];split;·exact Rep.zero
 exact Rep.bad
def D9c (ls:List LF):Bool:=ls.all LF.ok
theorem RepL.val {s:A2c} {b:List LF} {E:List TRat} (h:RepL s b E) (T:SrcIn s) (H:D9c b=AF):∀ r∈E,J_ r=AF:=by
 intro r O;obtain⟨i,G,rfl⟩:=List.getElem_of_mem O;have u:=h.2 i;have D:i<b.length:=by have:=h.1;omega
 simp only[EH,DU G,DU D]at u;exact u.val T (CU.1 H _ (List.getElem_mem D))
def arC (ps:List TPoint) (t:TTri):TRat:=A6c (Z_ ps t.a) (Z_ ps t.b) (Z_ ps t.c)
def byC (ps:List TPoint) (t:TTri):TRat:=A3u (U_ 1) (A0d (U_ 2) (arC ps t))
def E8d (ps:List TPoint) (t:TTri):TPoint:=A5x (Z_ ps t.a) (Z_ ps t.b) (Z_ ps t.c)
def bC (ps:List TPoint) (t:TTri) (v:Int):TPoint:=Z_ ps (A3h t v).1
def cC (ps:List TPoint) (t:TTri) (v:Int):TPoint:=Z_ ps (A3h t v).2
def E9a (ps:List TPoint) (t:TTri) (v:Int):TPoint:=A5w (Z_ ps t.a) (Z_ ps t.b) (Z_ ps t.c) (ixT t v)
def dC (ps:List TPoint) (t:TTri) (v:Int):TPoint:=A0v (byC ps t) (A4a (cC ps t v) (bC ps t v))
def zbC (ps:List TPoint) (t:TTri) (v:Int):TPoint:=A4a (E8d ps t) (bC ps t v)
def zcC (ps:List TPoint) (t:TTri) (v:Int):TPoint:=A4a (E8d ps t) (cC ps t v)
def ddC (ps:List TPoint) (t:TTri) (v:Int):TRat:=A0d (arC ps t) (A1k (dC ps t v) (dC ps t v))
def E8b (a b c:TPoint) (vs:List LF):Nat->LP
 |0=>(A4k,A4k)
 |k+1=>D4q (E8b a b c vs k) (D6h (vs.getD k A4z) (A5w a b c k))
def grF (ps:List TPoint) (ul:List LF) (t:TTri):LP:=E8b (Z_ ps t.a) (Z_ ps t.b) (Z_ ps t.c) [ul.getD t.a.toNat A4z,ul.getD t.b.toNat A4z,ul.getD t.c.toNat A4z] 3
def kC (ks:List TRat) (t:TTri):TRat:=ks.getD t.4.toNat A0h
def E7y (ps:List TPoint) (ks:List TRat) (ul fl:List LF) (t:TTri) (v:Int):LF :=
 E1z (A7p (mkR 1 3) (A7p (arC ps t) (fl.getD t.4.toNat A4z))) (A7p (A0d (kC ks t) (arC ps t)) (C1h (E9a ps t v) (grF ps ul t)))
def sF (ps:List TPoint) (t:TTri) (v:Int) (first second:LF):LP:=C3y (byC ps t) (E7o (D6h second (zbC ps t v)) (D6h first (zcC ps t v)))
def D7b (ps:List TPoint) (ks:List TRat) (ul:List LF) (t:TTri) (v:Int) (first second:LF):LF :=
 C8u (E6y (A7p (arC ps t) (C1h (dC ps t v) (sF ps t v first second))) (kC ks t)) (A7p (mkR 1 3) (A7p (arC ps t) (C1h (dC ps t v) (grF ps ul t))))
def E4p (ps:List TPoint) (ks:List TRat) (t:TTri) (v:Int):TRat:=A3u (ddC ps t v) (kC ks t)
def C5w (ps:List TPoint) (ks:List TRat) (ul fl:List LF) (tl:List TTri) (v:Int):Nat->List LF
 |0=>[A4k]
 |i+1=>C5w ps ks ul fl tl v i++[C8u ((C5w ps ks ul fl tl v i).getD i A4z) (E7y ps ks ul fl (tl.getD i A4p) v)]
def D7o (ps:List TPoint) (ks:List TRat) (ul fl:List LF) (tl:List TTri) (v:Int):Nat->LF
 |0=>A4k
 |i+1=>C8u (D7o ps ks ul fl tl v i) (D7b ps ks ul (tl.getD i A4p) v ((C5w ps ks ul fl tl v (i+1)).getD i A4z) ((C5w ps ks ul fl tl v (i+1)).getD (i+1) A4z))
def D2u (ps:List TPoint) (ks:List TRat) (tl:List TTri) (v:Int):Nat->TRat
 |0=>U_ 0
 |i+1=>A0k (D2u ps ks tl v i) (E4p ps ks (tl.getD i A4p) v)
def E5f (ps:List TPoint) (ks:List TRat) (ul fl:List LF) (tl:List TTri) (v:Int):LF:=E8k (E6y (D7o ps ks ul fl tl v tl.length) (D2u ps ks tl v tl.length))
def D8q (ps:List TPoint) (ks:List TRat) (ul fl:List LF) (tl:List TTri) (v:Int) (cl:Bool):List LF :=
 ((C5w ps ks ul fl tl v tl.length).take (if cl then tl.length else tl.length+1)).map λl=>C8u l (E5f ps ks ul fl tl v)
def A6g (ts:List TTri) (f:TFan):List TTri:=f.triangles.map λk=>ts.getD k.toNat A4p
def E8y (m:TMesh) (ks:List TRat) (ul fl:List LF) (f:TFan) (v:Int):List LF:=D8q m.1 ks ul fl (A6g m.triangles f) v f.closed
def E5e (es:List TEdge) (v:Int) (sp:List Int) (xs o:List LF):Nat->List LF
 |0=>o
 |k+1=>(E5e es v sp xs o k).set (sp.getD k 0).toNat
  (bif decide ((es.getD (sp.getD k 0).toNat A4o).a=v)then E1z ((E5e es v sp xs o k).getD (sp.getD k 0).toNat A4z) (xs.getD k A4z)else C8u ((E5e es v sp xs o k).getD (sp.getD k 0).toNat A4z) (xs.getD k A4z))
def C7c (m:TMesh) (ks:List TRat) (ul fl:List LF) (es:List TEdge) (v:Int) (fs:List TFan) (o:List LF):Nat->List LF
 |0=>o
 |i+1=>E5e es v (fs.getD i D7s).spokes (E8y m ks ul fl (fs.getD i D7s) v) (C7c m ks ul fl es v fs o i) (fs.getD i D7s).spokes.length
def D1i (m:TMesh) (ks:List TRat) (ul fl:List LF):Nat->List LF
 |0=>DK (P_ m.triangles).length A4k
 |v+1=>C7c m ks ul fl (P_ m.triangles) v (A8x m.triangles v) (D1i m ks ul fl v) (A8x m.triangles v).length
def B2x (m:TMesh) (ks:List TRat) (ul fl:List LF):List LF:=D1i m ks ul fl m.1.length
def C3e (f:TEdge->Int) (es:List TEdge) (xs:List LF) (t:Int):Nat->LF
 |0=>A4k
 |k+1=>if f (es.getD k A4o)=t then C8u (C3e f es xs t k) (xs.getD k A4z)else C3e f es xs t k
def E9j (es:List TEdge) (xs:List LF) (t:Int):LF:=E1z (C3e TEdge.left es xs t es.length) (C3e TEdge.right es xs t es.length)
def E3o (ps:List TPoint) (fl:List LF) (t:TTri):LF:=A7p (arC ps t) (fl.getD t.4.toNat A4z)
def D9j (ps:List TPoint) (ks:List TRat) (ul:List LF) (t:TTri):LP:=C3y (kC ks t) (grF ps ul t)
def D4b (es:List TEdge) (xs:List LF) (k a b:Int):LF:=if (es.getD (A3z es (A2i a b)) A4o).left=k then xs.getD (A3z es (A2i a b)) A4z else E8k (xs.getD (A3z es (A2i a b)) A4z)
def D3b (es:List TEdge) (xs:List LF) (k:Int) (t:TTri):List LF:=[D4b es xs k t.b t.c,D4b es xs k t.c t.a,D4b es xs k t.a t.b]
def E5h (l:List TPoint) (xs:List LF) (z:TPoint):Nat->LP
 |0=>(A4k,A4k)
 |k+1=>D4q (E5h l xs z k) (D6h (xs.getD k A4z) (A4a z (l.getD k pt0)))
def E8v (a b c:TPoint) (xs:List LF) (z:TPoint):LP:=C3y (A3u (U_ 1) (A2y a b c)) (E5h [a,b,c] xs z 3)
theorem RepP.zero {s:A2c}:RepP s (A4k,A4k) (ptI 0 0):=λ_=>⟨Rep.zero rfl,Rep.zero rfl⟩
theorem D3m {s:A2c} {a b c:TPoint} {ls:List LF} {vs:List TRat} (hs:SrcIn s) (h:∀ i,Rep s (ls.getD i A4z) (vs.getD i A0h)):∀ k,RepP s (E8b a b c ls k) (B4f a b c vs k)
 |0=>RepP.zero
 |k+1=>RepP.add hs (D3m hs h k) (RepP.con hs (h k))
theorem D2k {s:A2c} {p:TProblem} {ul:List LF} {us:List TRat} {t:TTri} (h:SrcIn s) (b:RepL s ul us):RepP s (grF p.1.1 ul t) (grT p us t):=by
 refine D3m h (λi=>?_) 3;match i with
 |0=>exact b.2 _
 |1=>exact b.2 _
 |2=>exact b.2 _
 |n+3=>exact Rep.bad
theorem D8e (p:TProblem) (us:List TRat) (t:TTri) (v:Int):C1f (A5g p us t v)=A3t (A0d (A0d (p.3.getD t.4.toNat A0h) (arC p.1.1 t)) (mkR 1 3)) (A0d (A0d (B4w p t) (arC p.1.1 t)) (A1k (grT p us t) (E9a p.1.1 t v))):=by
 simp only[C1f,A5g,arC,E9a,E2o]
theorem D4s (p:TProblem) (us:List TRat) (t:TTri) (v:Int) (b h:TRat):B0i (A5g p us t v) b h =
  A0k (A3u (A0d (arC p.1.1 t) (A1k (dC p.1.1 t v) (A0v (byC p.1.1 t) (A4a (A0v h (zbC p.1.1 t v)) (A0v b (zcC p.1.1 t v)))))) (B4w p t)) (A0d (A0d (arC p.1.1 t) (A1k (dC p.1.1 t v) (grT p us t))) (mkR 1 3)):=by
 simp only[B0i,sP,dP,byP,E3j,A5g,arC,dC,byC,zbC,zcC,E8d,bC,cC,List.getD_cons_zero,List.getD_cons_succ]
theorem D4x (p:TProblem) (us:List TRat) (t:TTri) (v:Int):B3c (A5g p us t v)=A3u (ddC p.1.1 t v) (B4w p t):=by
 simp only[B3c,dP,byP,A5g,ddC,arC,dC,byC,bC,cC]
theorem E2p {s:A2c} {p:TProblem} {ks:List TRat} {ul h:List LF} {us:List TRat} {t:TTri} {v:Int} (b:SrcIn s) (D:kC ks t=B4w p t) (E:RepL s ul us) (u:RepL s h p.3) :
  Rep s (E7y p.1.1 ks ul h t v) (C1f (A5g p us t v)):=by
 unfold E7y;rw[D,D8e];exact Rep.sub b (Rep.scale' b (Rep.scale' b (u.2 _))) (Rep.scale b (D8d b (D2k b E)))
theorem D7y {s:A2c} {p:TProblem} {ks:List TRat} {ul:List LF} {us:List TRat} {t:TTri} {v:Int} {l1 l2:LF} {h u:TRat} (b:SrcIn s) (G:kC ks t=B4w p t) (H:RepL s ul us) (D:Rep s l1 h) (E:Rep s l2 u) :
  Rep s (D7b p.1.1 ks ul t v l1 l2) (B0i (A5g p us t v) h u):=by
 unfold D7b;rw[G,D4s];exact Rep.add b (Rep.div b (Rep.scale b (D0s b (RepP.scale b (RepP.sub b (RepP.con b E) (RepP.con b D)))))) (Rep.scale' b (Rep.scale b (D0s b (D2k b H))))
theorem C5i {α β:Type} {l:List α} {f:α->β} {i:Nat} (d:α) (e:β) (h:i<l.length):(l.map f).getD i e=f (l.getD i d):=by
 simp[EH,DU h]
theorem B9b {α:Type} {l:List α} {i:Nat} {d:α} (h:i<l.length):l.getD i d∈l:=by
 simp[EH,DU h]
def D1o (p:TProblem) (ks:List TRat) (tl:List TTri):Prop:=∀ t∈tl,kC ks t=B4w p t
def A4u (p:TProblem) (us:List TRat) (tl:List TTri) (v:Int):List TPiece:=tl.map λt=>A5g p us t v
theorem B6i {s:A2c} {p:TProblem} {ks:List TRat} {ul fl:List LF} {us:List TRat} {tl:List TTri} {v:Int} (hs:SrcIn s) (hk:D1o p ks tl) (hu:RepL s ul us) (hf:RepL s fl p.3):∀ i,i<=tl.length->RepL s (C5w p.1.1 ks ul fl tl v i) (A2h (A4u p us tl v) i)
 |0,_=>RepL.push RepL.nil Rep.zero
 |i+1,h=>by
  have ih:=B6i (tl:=tl) (v:=v) hs hk hu hf i oS
  refine RepL.push ih (Rep.add hs (ih.2 i) ?_)
  rw[A4u,C5i A4p pc0 oS]
  exact E2p hs (hk _ (B9b oS)) hu hf
theorem C6m {s:A2c} {p:TProblem} {ks:List TRat} {ul fl:List LF} {us:List TRat} {tl:List TTri} {v:Int} (hs:SrcIn s) (hk:D1o p ks tl) (hu:RepL s ul us) (hf:RepL s fl p.3):∀ i,i<=tl.length->Rep s (D7o p.1.1 ks ul fl tl v i) (B3x (A4u p us tl v) i)
 |0,_=>Rep.zero
 |i+1,h=>by
  have ho:=B6i (tl:=tl) (v:=v) hs hk hu hf (i+1) h
  refine Rep.add hs (C6m hs hk hu hf i oS) ?_
  have e:(A4u p us tl v).getD i pc0=A5g p us (tl.getD i A4p) v:=by rw[A4u,C5i A4p pc0 oS]
  rw[e]
  exact D7y hs (hk _ (B9b oS)) hu (ho.2 _) (ho.2 _)
theorem C9t {p:TProblem} {ks us:List TRat} {tl:List TTri} {v:Int} (hk:D1o p ks tl):∀ i,i<=tl.length->D2u p.1.1 ks tl v i=B2i (A4u p us tl v) i
 |0,_=>rfl
 |i+1,h=>by
  have e:(A4u p us tl v).getD i pc0=A5g p us (tl.getD i A4p) v:=by rw[A4u,C5i A4p pc0 oS]
  rw[D2u,B2i,C9t (us:=us) hk i oS,e,E4p,hk _ (B9b oS),D4x]
theorem D7u {s:A2c} {p:TProblem} {ks:List TRat} {ul u:List LF} {us:List TRat} {tl:List TTri} {v:Int} (cl:Bool) (b:SrcIn s) (h:D1o p ks tl) (E:RepL s ul us) (D:RepL s u p.3) :
  RepL s (D8q p.1.1 ks ul u tl v cl) (A9c (A4u p us tl v) cl):=by
 have e:(A4u p us tl v).length=tl.length:=by simp[A4u]
 unfold D8q A9c;rw[e];refine((B6i b h E D _ (CE _)).take _).map λl r G=>Rep.add b G ?_;unfold E5f D7a;rw[e,<-C9t (us:=us) h _ (CE _)];exact Rep.neg b (Rep.div b (C6m b h E D _ (CE _)))
theorem C9j (p:TProblem) (us:List TRat) (f:TFan) (v:Int):A1h p us f v=A4u p us (A6g p.1.triangles f) v:=by
 unfold A1h A4u A6g;rw[List.map_map];rfl
theorem D3x {s:A2c} {p:TProblem} {ks:List TRat} {ul b:List LF} {us:List TRat} {f:TFan} {v:Int} (D:SrcIn s) (u:D1o p ks (A6g p.1.triangles f)) (E:RepL s ul us) (h:RepL s b p.3) :
  RepL s (E8y p.1 ks ul b f v) (A6f p us f v):=by
 unfold A6f;rw[C9j];exact D7u _ D u E h
theorem D5a {s:A2c} {es:List TEdge} {v:Int} {sp:List Int} {xs o:List LF} {ys q:List TRat} (hs:SrcIn s) (hx:RepL s xs ys) (ho:RepL s o q):∀ k,RepL s (E5e es v sp xs o k) (B2d es v sp ys q k)
 |0=>ho
 |k+1=>by
  have ih:=D5a (es:=es) (v:=v) (sp:=sp) hs hx ho k
  refine ih.set _ ?_
  cases decide ((es.getD (sp.getD k 0).toNat A4o).a=v)
  ·exact Rep.add hs (ih.2 _) (hx.2 _)
  exact Rep.sub hs (ih.2 _) (hx.2 _)
theorem C0g {s:A2c} {p:TProblem} {ks:List TRat} {ul fl:List LF} {us:List TRat} {es:List TEdge} {v:Int} {fs:List TFan} {o:List LF} {q:List TRat} (hs:SrcIn s) (hk:∀ f,D1o p ks (A6g p.1.triangles f)) (hu:RepL s ul us) (hf:RepL s fl p.3) (ho:RepL s o q) :
  ∀ i,RepL s (C7c p.1 ks ul fl es v fs o i) (A4q p us es v fs q i)
 |0=>ho
 |i+1=>D5a hs (D3x hs (hk _) hu hf) (C0g hs hk hu hf ho i) _
theorem C2e {s:A2c} {p:TProblem} {ks:List TRat} {ul fl:List LF} {us:List TRat} (hs:SrcIn s) (hk:∀ f,D1o p ks (A6g p.1.triangles f)) (hu:RepL s ul us) (hf:RepL s fl p.3):∀ v,RepL s (D1i p.1 ks ul fl v) (A3j p us v)
 |0=>RepL.replicate _
 |v+1=>C0g hs hk hu hf (C2e hs hk hu hf v) _
theorem E1h {s:A2c} {p:TProblem} {ks:List TRat} {ul fl:List LF} {us:List TRat} (hs:SrcIn s) (hk:∀ f,D1o p ks (A6g p.1.triangles f)) (hu:RepL s ul us) (hf:RepL s fl p.3):RepL s (B2x p.1 ks ul fl) (A4i p us):=C2e hs hk hu hf _
theorem C0r {s:A2c} {es:List TEdge} {xs:List LF} {ys:List TRat} {t:Int} (hs:SrcIn s) (hx:RepL s xs ys):∀ k,Rep s (C3e TEdge.left es xs t k) (A1e es ys t k)
 |0=>Rep.zero
 |k+1=>by
  unfold C3e A1e
  split
  ·exact Rep.add hs (C0r hs hx k) (hx.2 _)
  exact C0r hs hx k
theorem B7z {s:A2c} {es:List TEdge} {xs:List LF} {ys:List TRat} {t:Int} (hs:SrcIn s) (hx:RepL s xs ys):∀ k,Rep s (C3e TEdge.right es xs t k) (A1i es ys t k)
 |0=>Rep.zero
 |k+1=>by
  unfold C3e A1i
  split
  ·exact Rep.add hs (B7z hs hx k) (hx.2 _)
  exact B7z hs hx k
theorem E4d {s:A2c} {es:List TEdge} {xs:List LF} {ys:List TRat} {t:Int} (hs:SrcIn s) (hx:RepL s xs ys):Rep s (E9j es xs t) (D1y es ys t):=Rep.sub hs (C0r hs hx _) (B7z hs hx _)
theorem E1e {s:A2c} {p:TProblem} {fl:List LF} {t:TTri} (hs:SrcIn s) (hf:RepL s fl p.3):Rep s (E3o p.1.1 fl t) (B7d p t):=Rep.scale' hs (hf.2 _)
theorem E1l {s:A2c} {p:TProblem} {ks:List TRat} {ul:List LF} {us:List TRat} {t:TTri} (b:SrcIn s) (h:kC ks t=B4w p t) (u:RepL s ul us):RepP s (D9j p.1.1 ks ul t) (B2e p us t):=by
 unfold D9j;rw[h];exact RepP.scale b (D2k b u)
theorem E6f {r:TRat} (h:J_ r=AF):D0y r=C3m r:=by unfold D0y C3m;rw[h];rfl
theorem C1o {s:A2c} {es:List TEdge} {xs:List LF} {ys:List TRat} {k a b:Int} (D:SrcIn s) (E:RepL s xs ys):Rep s (D4b es xs k a b) (B4m es ys k a b):=by
 unfold D4b B4m;split;·exact E.2 _
 intro u;have h:=E.2 (A3z es (A2i a b));rw[E6f (h.val D (A9j u).1)];exact Rep.neg D h u
theorem D5z {s:A2c} {es:List TEdge} {xs:List LF} {ys:List TRat} {k:Int} {t:TTri} (hs:SrcIn s) (hx:RepL s xs ys):RepL s (D3b es xs k t) (A7o es ys k t) :=
 ((RepL.nil.push (C1o hs hx)).push (C1o hs hx)).push (C1o hs hx)
theorem C9i {s:A2c} {l:List TPoint} {xs:List LF} {ys:List TRat} {z:TPoint} (hs:SrcIn s) (hx:RepL s xs ys):∀ k,RepP s (E5h l xs z k) (A3l l ys z k)
 |0=>RepP.zero
 |k+1=>RepP.add hs (C9i hs hx k) (RepP.con hs (hx.2 _))
theorem E4x {s:A2c} {a b c:TPoint} {xs:List LF} {ys:List TRat} {z:TPoint} (hs:SrcIn s) (hx:RepL s xs ys):RepP s (E8v a b c xs z) (A2q a b c ys z):=RepP.scale hs (C9i hs hx 3)
structure Ov (M u:Int) (r:TRat):Prop where
 m0:0<M
 m1:M<10 ^ 45
 u0:-(10 ^ 100)<u
 u1:u<10 ^ 100
 is:r=toR ⟨u,M⟩
theorem E6n {n d:Int} (b:0<d) (u:d<10 ^ 190) (D:-(10 ^ 190)<n) (E:n<10 ^ 190):(Q.ok ⟨n,d⟩)=AF:=by
 have G:=E9g;refine Q.ok_iff.2 ⟨b,?_,?_,?_⟩<;>(show _<_)<;>dsimp only<;>(generalize (10:Int) ^ 200=S at *;generalize (10:Int) ^ 190=h at *;omega)
theorem B2p {a b A B:Int} (u:-A<a) (D:a<A) (E:-B<b) (G:b<B):-(A*B)<a*b/\a*b<A*B:=by
 have h:(a*b).natAbs<(A*B).natAbs:=by rw[OL,OL];exact Nat.mul_lt_mul'' oS oS
 have H:0<=A*B:=Int.mul_nonneg oS oS;omega
theorem Ov.ok {M u:Int} {r:TRat} (h:Ov M u r):(Q.ok ⟨u,M⟩)=AF:=by
 have G:=h.m1;have H:=h.u0;have O:=h.u1;have D:(10:Int) ^ 45<10 ^ 190:=dK;have E:(10:Int) ^ 100<10 ^ 190:=dK;exact E6n h.m0 (by generalize (10:Int) ^ 45=S at *;generalize (10:Int) ^ 190=b at *;omega) (by generalize (10:Int) ^ 100=S at *;generalize (10:Int) ^ 190=b at *;omega) (by generalize (10:Int) ^ 100=S at *;generalize (10:Int) ^ 190=b at *;omega)
theorem Ov.val {M u:Int} {r:TRat} (h:Ov M u r):J_ r=AF:=by rw[h.is];exact A8q h.ok
theorem Ov.sign {M u:Int} {r:TRat} (h:Ov M u r):A9m r=sgn u:=by rw[h.is];exact D4z h.ok
theorem Ov.cong {M u b D:Int} {r:TRat} (h:Ov M u r) (E:0<b) (m1:b<10 ^ 45) (u0:-(10 ^ 100)<D) (u1:D<10 ^ 100) (e:u*b=D*M):Ov b D r:=by
 have G:Ov b D (toR ⟨D,b⟩):=⟨E,m1,u0,u1,rfl⟩
 refine⟨E,m1,u0,u1,?_⟩;rw[h.is];exact B7t h.ok G.ok (decide_eq_true e)
theorem Ov.add {M u v:Int} {r q:TRat} (b:Ov M u r) (E:Ov M v q) (u0:-(10 ^ 100)<u+v) (u1:u+v<10 ^ 100):Ov M (u+v) (A0k r q):=by
 refine⟨b.m0,b.m1,u0,u1,?_⟩;have T:Ov M (u+v) (toR ⟨u+v,M⟩):=⟨b.m0,b.m1,u0,u1,rfl⟩
 have G:(E0z ⟨u,M⟩ ⟨v,M⟩).ok=AF:=by
  have a:=B2p u0 u1 (by have:=b.m0;have:(0:Int)<10 ^ 45:=dK;omega:-(10 ^ 45)<M) b.m1;have H:=B2p (by have:=b.m0;have:(0:Int)<10 ^ 45:=dK;omega:-(10 ^ 45)<M) b.m1 (by have:=b.m0;have:(0:Int)<10 ^ 45:=dK;omega:-(10 ^ 45)<M) b.m1;have h:(10:Int) ^ 100*10 ^ 45<10 ^ 190:=dK;have O:(10:Int) ^ 45*10 ^ 45<10 ^ 190:=dK;have D:u*M+v*M=(u+v)*M:=by grind
  refine E6n (GW b.m0 b.m0) (KJ H.2 O) ?_ ?_;·show _<u*M+v*M;rw[D];exact KJ (Int.neg_lt_neg h) a.1
  show u*M+v*M<_;rw[D];exact KJ a.2 h
 rw[b.is,E.is,D9b b.ok E.ok G];refine B7t G T.ok (decide_eq_true ?_);show(u*M+v*M)*M=(u+v)*(M*M);grind
theorem Ov.mul {M u N v P t:Int} {r q:TRat} (b:Ov M u r) (h:Ov N v q) (E:0<P) (m1:P<10 ^ 45) (u0:-(10 ^ 100)<t) (u1:t<10 ^ 100) (a0:-(10 ^ 190)<u*v) (G:u*v<10 ^ 190) (e:u*v*P=t*(M*N)):Ov P t (A0d r q):=by
 have T:Ov P t (toR ⟨t,P⟩):=⟨E,m1,u0,u1,rfl⟩
 refine⟨E,m1,u0,u1,?_⟩;have W:=b.m0;have X:=h.m0;have H:=B2p (by have:(0:Int)<10 ^ 45:=dK;omega:-(10 ^ 45)<M) b.m1 (by have:(0:Int)<10 ^ 45:=dK;omega:-(10 ^ 45)<N) h.m1;have O:(10:Int) ^ 45*10 ^ 45<10 ^ 190:=dK;have D:(C0q ⟨u,M⟩ ⟨v,N⟩).ok=AF:=E6n (GW W X) (KJ H.2 O) a0 G;rw[b.is,h.is,C3v b.ok h.ok D];exact B7t D T.ok (decide_eq_true e)
theorem Ov.div {M u N v P t:Int} {r q:TRat} (b:Ov M u r) (h:Ov N v q) (E:0<v) (G:0<P) (m1:P<10 ^ 45) (u0:-(10 ^ 100)<t) (u1:t<10 ^ 100) (a0:-(10 ^ 190)<u*N) (H:u*N<10 ^ 190) (e:u*N*P=t*(M*v)):Ov P t (A3u r q):=by
 have W:Ov P t (toR ⟨t,P⟩):=⟨G,m1,u0,u1,rfl⟩
 refine⟨G,m1,u0,u1,?_⟩;have X:=b.m0;have O:=B2p (by have:(0:Int)<10 ^ 45:=dK;omega:-(10 ^ 45)<M) b.m1 h.u0 h.u1;have T:(10:Int) ^ 45*10 ^ 100<10 ^ 190:=dK;have D:(C0q ⟨u,M⟩ (D6g ⟨v,N⟩)).ok=AF:=E6n (GW X E) (KJ O.2 T) a0 H;rw[b.is,h.is,E0d b.ok h.ok E D];exact B7t D W.ok (decide_eq_true e)
theorem Ov.int {n:Int} (h0:-1000000<n) (h1:n<1000000):Ov 1 n (U_ n) :=
 ⟨dE,dK,by have:(1000000:Int)<10 ^ 100:=dK;omega,by have:(1000000:Int)<10 ^ 100:=dK;omega,B9z h0 h1⟩
theorem Ov.con {k:TRat} (h:J_ k=AF) (m1:T_ k<10 ^ 45) (u0:-(10 ^ 100)<R_ k) (u1:R_ k<10 ^ 100):Ov (T_ k) (R_ k) k :=
 ⟨(ratOkB_iff.1 h).den0,m1,u0,u1,(C4c h).symm⟩
def sv (s:A2c):List Int:=[s.1,s.2.1,s.2.2.1,s.2.2.2.1,s.2.2.2.2]
def C7r (D:Int) (l:LF):List Int:=[l.a*(D / l.d),l.b*(D / l.d),l.c*(D / l.d),l.e*(D / l.d),l.f*(D / l.d)]
theorem E8r (D:Int) (l:LF) (s:A2c):A7a (C7r D l) (sv s)=(l.at s).n*(D / l.d):=by
 unfold C7r sv LF.at;simp only[A7a];grind
def C9h (n:Int):Bool:=Nat.ble n.natAbs 99999999999999999
def E2a (D:Int) (l:LF):Bool:=(decide (l.d*(D / l.d)=D)&&C9h (D / l.d))&&(decide (0<D / l.d)&&(C9h l.a&&(C9h l.b&&(C9h l.c&&(C9h l.e&&(C9h l.f&&l.ok))))))
def E5n (D:Int) (P:LP):Bool:=E2a D P.1&&E2a D P.2
theorem E3q {n:Int}:C9h n=AF↔-(10 ^ 17)<n/\n<10 ^ 17:=by
 unfold C9h;have e:(10:Int) ^ 17=100000000000000000:=dK;rw[e];constructor;·intro h;have:=Nat.le_of_ble_eq_true h;omega
 intro h;exact Nat.ble_eq_true_of_le oS
theorem D9n {h:Int} {l:LF} (b:E2a h l=AF):l.ok=AF:=by
 unfold E2a at b;simp only[DJ]at b;exact b.2.2.2.2.2.2.2
theorem E2t {s:A2c} {b:Int} {l:LF} {r:TRat} (u:SrcIn s) (ak:0<b) (al:b<10 ^ 17) (h:Rep s l r) (E:E2a b l=AF):(-(10 ^ 37)<A7a (C7r b l) (sv s)/\A7a (C7r b l) (sv s)<10 ^ 37)/\Ov b (A7a (C7r b l) (sv s)) r:=by
 rw[E8r];have Y:=D9n E;unfold E2a at E;simp only[DJ,decide_eq_true_eq,E3q]at E;obtain⟨⟨e,ai,aj⟩,an,⟨a0,Z⟩,⟨aa,b1⟩,⟨ab,ac⟩,⟨ad,ae⟩,⟨ag,ah⟩,_⟩:=E;have ao:=B0z a0 Z u.a0 u.a1;have ap:=B0z aa b1 u.b0 u.b1;have aq:=B0z ab ac u.c0 u.c1;have ar:=B0z ad ae u.e0 u.e1;have E:=B0z ag ah u.f0 u.f1;have X:-(301*10 ^ 17)<(l.at s).n/\(l.at s).n<301*10 ^ 17:=by unfold LF.at;show _<l.a*s.1+(l.b*s.2.1+(l.c*s.2.2.1+(l.e*s.2.2.2.1+l.f*s.2.2.2.2)))/\l.a*s.1+(l.b*s.2.1+(l.c*s.2.2.1+(l.e*s.2.2.2.1+l.f*s.2.2.2.2)))<_;have au:(0:Int)<10 ^ 17:=dK;generalize l.a*s.1=ay at *;generalize l.b*s.2.1=v at *;generalize l.c*s.2.2.1=t at *;generalize l.e*s.2.2.2.1=aw at *;generalize l.f*s.2.2.2.2=ax at *;generalize (10:Int) ^ 17=am at *;omega
 have W:=B2p X.1 X.2 ai aj;have H:(301:Int)*10 ^ 17*10 ^ 17<10 ^ 37:=dK;have O:-(10 ^ 37)<(l.at s).n*(b / l.d):=KJ (Int.neg_lt_neg H) W.1;have T:(l.at s).n*(b / l.d)<10 ^ 37:=KJ W.2 H;have G:(10:Int) ^ 37<10 ^ 100:=dK;have af:(10:Int) ^ 17<10 ^ 45:=dK;have D:Ov b ((l.at s).n*(b / l.d)) (toR ⟨(l.at s).n*(b / l.d),b⟩):=⟨ak,KJ al af,KJ (Int.neg_lt_neg G) O,KJ T G,rfl⟩
 refine⟨⟨O,T⟩,D.m0,D.m1,D.u0,D.u1,?_⟩;rw[h Y];refine B7t (LF.at_ok Y u) D.ok (decide_eq_true ?_);show(l.at s).n*b=(l.at s).n*(b / l.d)*l.d;conv=>lhs;rw[<-e]
 grind
theorem E9u {b X h:Int} {p:TPoint} (T:0<b) (W:b<10 ^ 17) (D:-(10 ^ 37)<X/\X<10 ^ 37) (E:-(10 ^ 37)<h/\h<10 ^ 37) (H:Ov b X p.x) (O:Ov b h p.y):(0<=X*X+h*h/\X*X+h*h<2*10 ^ 74)/\Ov (b*b) (X*X+h*h) (A1k p p):=by
 have ae:=B2p D.1 D.2 D.1 D.2;have af:=B2p E.1 E.2 E.1 E.2;have ab:(10:Int) ^ 37*10 ^ 37=10 ^ 74:=dK;rw[ab]at ae af;have ai:=E9o X;have aj:=E9o h;have Y:0<b*b:=GW T T;have Z:=B2p (by have:(0:Int)<10 ^ 17:=dK;omega:-(10 ^ 17)<b) W (by have:(0:Int)<10 ^ 17:=dK;omega:-(10 ^ 17)<b) W;have aa:(10:Int) ^ 17*10 ^ 17<10 ^ 45:=dK;have G:=KJ Z.2 aa;have ag:2*(10:Int) ^ 74<10 ^ 100:=dK;have ah:2*(10:Int) ^ 74<10 ^ 190:=dK;have ac:=H.mul H (P:=b*b) (t:=X*X) Y G (by generalize (10:Int) ^ 74=S at *;generalize (10:Int) ^ 100=u at *;omega) (by generalize (10:Int) ^ 74=S at *;generalize (10:Int) ^ 100=u at *;omega) (by generalize (10:Int) ^ 74=S at *;generalize (10:Int) ^ 190=u at *;omega) (by generalize (10:Int) ^ 74=S at *;generalize (10:Int) ^ 190=u at *;omega) rfl;have ad:=O.mul O (P:=b*b) (t:=h*h) Y G (by generalize (10:Int) ^ 74=S at *;generalize (10:Int) ^ 100=u at *;omega) (by generalize (10:Int) ^ 74=S at *;generalize (10:Int) ^ 100=u at *;omega) (by generalize (10:Int) ^ 74=S at *;generalize (10:Int) ^ 190=u at *;omega) (by generalize (10:Int) ^ 74=S at *;generalize (10:Int) ^ 190=u at *;omega) rfl;exact⟨by generalize (10:Int) ^ 74=S at *;omega,ac.add ad (by generalize (10:Int) ^ 74=S at *;generalize (10:Int) ^ 100=u at *;omega) (by generalize (10:Int) ^ 74=S at *;generalize (10:Int) ^ 100=u at *;omega)⟩
def C4m (e:TEdge):Bool:=decide (e.left<0) || decide (e.right<0)
def B2v (n:Nat) (es:List TEdge):Nat->List Bool
 |0=>DK n AH
 |k+1=>if C4m (es.getD k A4o)then((B2v n es k).set (es.getD k A4o).a.toNat AF).set (es.getD k A4o).b.toNat AF else B2v n es k
theorem B8z (n:Nat) (es:List TEdge):∀ k,(B2v n es k).length=n
 |0=>by simp[B2v]
 |k+1=>by rw[B2v];split<;>simp[B8z n es k]
def A3k (fs:List Bool) (bd:Bool):Nat->List Int
 |0=>[]
 |k+1=>if fs.getD k AH=bd then A3k fs bd k++[(k:Int)]else A3k fs bd k
def A3f (m:TMesh) (bd:Bool):List Int:=A3k (B2v m.1.length (P_ m.triangles) (P_ m.triangles).length) bd m.1.length
theorem B7x (fs:List Bool) (bd:Bool):∀ k,(A3k fs bd k).length<=k
 |0=>CE _
 |k+1=>by rw[A3k];have:=B7x fs bd k;split<;>simp<;>omega
def B8e (m:TMesh):Prop:=∀ e∈P_ m.triangles,(0<=e.a/\e.a<m.1.length)/\(0<=e.b/\e.b<m.1.length)
theorem B6y (v:AU) (m:TMesh) (b:List Nat) (u:Bool) (w:AD) (aw:Agg w v m b) (aN:m.1.length<=40) (aO:m.triangles.length<=48) (aR:B8e m) :
  BL prog 53 #[v,J u] w (A0w w (A3f m u)):=by
 have be:=A_ aw;have a6:=A_ aO;obtain⟨ak,h,an,cc,al,n1,ao,cd,rfl,rfl,aj,br⟩:=TMesh.agg aw;have ba:=A_ aj.1;have bZ:h<=40:=by rw[<-aj.1];exact aN
 have bY:(h:Int)<=40:=oS;have aH:=A_ (by rw[<-aj.1];exact aR:∀ e∈P_ m.triangles,(0<=e.a/\e.a<h)/\(0<=e.b/\e.b<h));have aW:(P_ m.triangles).length<=144:=by unfold P_;have:=A5z m.triangles m.triangles.length;omega
 obtain⟨aZ,bp,bu,bv,bz⟩:=FB D1p;obtain⟨bA,bh,bi,bj,bk⟩:=FB A6b;have b2:=A_ (by rw[bz];omega:aZ.bytes*h<=281474976710656);have bf:=A_ (by unfold BS;omega:h<=BS);obtain⟨D,ae⟩:∃ D,P_ m.triangles=D:=⟨_,rfl⟩
 have a9:=A_ ae;rw[ae]at aH aW;have a5:=A_ (by unfold A3f;rw[ae,ba.o]:A3f m u=A3k (B2v h D D.length) u h);clear aj br aw aN aO aR ae;go_enter func53,ntmps53;go_upto_region 1 with fail;have bt:w.1.size<=(w.alloc (BG #[QX ak h an,QX al n1 ao] 26)).1.size:=sI;go_upto_region 2 with(at_make;(refine wpList_make_full _ rfl _ _ 107 rfl w.1.size 4 aZ (J AH) 1 underlying107 bp bu bv .i64 .i64 _ _ h rfl rfl rfl rfl b2 bf bt ?_);intro X ai aS)
 rw[B6q]at ai;rw[FU]at ai;have aa:=(DI (w.1.size+1) (w.alloc (BG #[QX ak h an,QX al n1 ao] 26))).grown aS sI (by intro k ah;cases ah);have ay:=A_ (show BRow X w.1.size (w.1.size+1) h (B2v h D 0)from ai);have aE:=A_ (show Bw w X from(BP _).trans (aa.mono oS));have bB:X.cell? ⟨w.1.size,0,I⟩=QZ (QX ak h an):=(aa.cell (p:=⟨w.1.size,0,I⟩) (ME _)).trans oD;have k1:X.cell? ⟨w.1.size,1,I⟩=QZ (QX al n1 ao):=(aa.cell (p:=⟨w.1.size,1,I⟩) (ME _)).trans oD;have b9:w.1.size+1<X.1.size:=ay.lt;have ca:w.1.size<X.1.size:=oS;clear ai aS aa;go_wp2_with fail;refine(A7q _ m _ X (be.below aE) a6).mono ?_;rintro _ cj ⟨a4,G,bg,aM,rfl,ac,aX,ap⟩;rw[a9.o]at ac;have H:=A_ ac;have bc:=A_ ac.1;have b4:G<=144:=by rw[<-ac.1];exact aW
 have b5:(G:Int)<=144:=oS;have a8:=A_ (show w.1.size+1∉aM from λZ=>by have:=(aX.2 _ Z).1;omega);have a7:=A_ (BH aE ap);have az:=A_ (ay.below ap);clear ac aX ap bB k1;go_wp2_with fail;go_loopg [18] G (λg s wr=>∃ k:Nat,k+g=G/\s=RH RD k/\Hid (BRow wr w.1.size (w.1.size+1) h (B2v h D k))/\Hid (Sl wr a4 G bg D aM)/\Bw w wr);case atStart=>exact⟨0,oS,rfl,az.o,H.o,a7.o⟩
 case round =>
  clear az H;obtain⟨k,ah,rfl,T,H,hb⟩:=hrel;have ad:=A_ hb;have bW:=T.lt;rcases CG k G with ab|ab
  ·have bU:(k:Int)<G:=oS
   have bV:(0:Int)<=k:=oS;obtain⟨g,rfl⟩:∃ g,gk=g+1:=⟨gk - 1,oS⟩
   have au:=A_ (by omega:k+1+g=G);have bT:k+1<=G:=ab;obtain⟨bF,cb,x,rfl,bO,ax,bG,bH,bI,bJ,bm⟩:=TEdge.elemA H ab;obtain⟨⟨bL,bM⟩,⟨bN,aa⟩⟩:=aH x (DH ax);have aC:=A_ (show D.getD k A4o=x from A0e ax);clear ah ab ax bm hb;by_cases W:C4m x=AF
   ·have O:=A_ (by rw[B2v,aC.o,if_pos W]:B2v h D (k+1)=((B2v h D k).set x.a.toNat AF).set x.b.toNat AF)
    obtain⟨ce,ch⟩:=T.cell (j:=x.a.toNat) (f:=(B2v h D k).getD x.a.toNat AH) (by rw[EH,DU (by rw[B8z];omega)];rfl);obtain⟨cg,ci⟩:=(T.set x.a.toNat AF).cell (j:=x.b.toNat) (f:=((B2v h D k).set x.a.toNat AF).getD x.b.toNat AH) (by rw[EH,DU (by simp[B8z];omega)];rfl);have b8:=ad.size;have b0:wr.1.size≠w.1.size+1:=oS;have b3:w.1.size+1≠wr.1.size:=oS;have aB:=A_ (by rw[O.o];exact(T.set _ _).set _ _:BRow ((wr.setCell ⟨w.1.size+1,x.a.toNat,I⟩ (J AF)).setCell ⟨w.1.size+1,x.b.toNat,I⟩ (J AF)) w.1.size (w.1.size+1) h (B2v h D (k+1)));have aK:=A_ (H.keep (w':=(wr.setCell ⟨w.1.size+1,x.a.toNat,I⟩ (J AF)).setCell ⟨w.1.size+1,x.b.toNat,I⟩ (J AF)) (λb hb=>by have aQ:b≠w.1.size+1:=λe=>a8.o (e ▸ hb);exact(GA _ _ _ b (by simpa using aQ)).trans (GA _ _ _ b (by simpa using aQ))));have aF:=A_ (show Bw w ((wr.setCell ⟨w.1.size+1,x.a.toNat,I⟩ (J AF)).setCell ⟨w.1.size+1,x.b.toNat,I⟩ (J AF))from(ad.setCell (p:=⟨w.1.size+1,x.a.toNat,I⟩) (JS _) _).setCell (p:=⟨w.1.size+1,x.b.toNat,I⟩) (JS _) _);clear T;rcases Int.lt_or_le x.left 0 with aP|aP
    ·clear H
     go_wp2_with fail;go_region_held3 (λw'=>w'.cell? ⟨wr.1.size,0,I⟩=QZ (RH RD x.a)/\w'.cell? ⟨wr.1.size,1,I⟩=QZ (RH RD x.b)) (constructor<;>(go_simp;done)) (fail);all_goals go_wp2_with fail
     go_roundg g;case measure=>omega
     case rel=>exact⟨k+1,au,gN,aB.below (LK (BP _)),aK.below (LK (BP _)),BH aF (LK (BP _))⟩
    have bl:x.right<0:=by unfold C4m at W;simp at W;omega
    have bK:¬ (x.left<0):=oS;clear H;go_wp2_with fail;go_region_held3 (λw'=>w'.cell? ⟨wr.1.size,0,I⟩=QZ (RH RD x.a)/\w'.cell? ⟨wr.1.size,1,I⟩=QZ (RH RD x.b)) (constructor<;>(go_simp;done)) (fail);all_goals go_wp2_with fail
    go_roundg g;case measure=>omega
    case rel=>exact⟨k+1,au,gN,aB.below (LK (BP _)),aK.below (LK (BP _)),BH aF (LK (BP _))⟩
   have O:=A_ (by rw[B2v,aC.o,if_neg W]:B2v h D (k+1)=B2v h D k);have aP:¬ (x.left<0):=by intro Z;apply W;unfold C4m;simp[Z]
   have bl:¬ (x.right<0):=by intro Z;apply W;unfold C4m;simp[Z]
   clear W;go_wp2_with fail;go_roundg g;case measure=>omega
   case rel=>exact⟨k+1,au.o,gN,(by rw[O.o];exact T.below (BP _):BRow _ w.1.size (w.1.size+1) h (B2v h D (k+1))),H.below (BP _),BH ad (BP _)⟩
  obtain rfl:k=G:=oS;have aV:¬ ((k:Int)<k):=oS;rw[<-bc.o]at T;have am:=A_ T.o;generalize ar:B2v h D D.length=E at *;have bE:=A_ ar;have bQ:E.length=h:=by rw[<-ar,B8z]
  clear ah ab H T ar;go_wp2_with fail;have aJ:=A_ (Pend.start (α:=Int) (e:=3) ad);have am:=am;go_loopg [8,42] h (λg s8 s w4=>∃ (i gB cap:Nat),i+g=h/\s=RH RD i/\s8=QX (QZ ⟨gB,0,I⟩) (A3k E u i).length cap/\Hid (Pend w wr 3 w4 gB (A3k E u i).length cap (A3k E u i)));case atStart=>exact⟨0,wr.1.size,0,oS,rfl,rfl,aJ.o⟩
  case round =>
   clear aJ;obtain⟨i,gB,cap,aU,rfl,rfl,Y⟩:=hrel;have aG:=A_ Y.bb;have b7:=aG.size;rename AD=>w4;have aA:=A_ (am.below aG);rcases CG i h with ag|ag
   ·have aV:(i:Int)<h:=oS
    have bR:(0:Int)<=i:=oS;obtain⟨g,rfl⟩:∃ g,gk=g+1:=⟨gk - 1,oS⟩
    have aT:=A_ (by omega:i+1+g=h);have bS:i+1<=h:=ag;have b6:=B7x E u i;have a2:=A_ (by unfold BS;omega:(A3k E u i).length+1<=BS);have a3:=A_ (by omega:((A3k E u i).length+1)*8<=140737488355328);obtain⟨f,aq⟩:∃ f,E[i]?=QZ f:=⟨_,DU oS⟩
    have bP:=(aA.cell aq).1;have bX:=aA.lt;have aD:=A_ (A0e (d:=AH) aq);clear aU ag aq;by_cases af:f=u
    ·have O:=A_ (by rw[A3k,aD.o,if_pos af]:A3k E u (i+1)=A3k E u i++[(i:Int)])
     have aI:=A_ (by rw[O.o];simp:(A3k E u (i+1)).length=(A3k E u i).length+1);subst af;have bn:(f==f)=AF:=sI;have a1:=A_ (show Dat.at_ (α:=Int) (w4.alloc (BG #[RH RD i] 3)) [RH RD i] (i:Int) []from⟨rfl,rfl,by constructor<;>omega⟩);go_wp2_with (at_builtin;refine A1v rfl _ _ 35 rfl 3 bA (RH RD 0) 8 underlying35 bh bi bj bk rfl Y (BP _) gD ⟨w4.1.size,0,I⟩ 1 [RH RD i] (i:Int) [] gD (A0a (DB w4 _)) a1.o ⟨List.nodup_nil,λb hb=>by simp at hb⟩ (λb hb=>by simp at hb) a2.o a3.o ?_;intro g' aL bD aY bo bq);have bd:=A_ (by rw[aI.o,O.o];exact aY:Pend w wr 3 bD g' (A3k E f (i+1)).length aL (A3k E f (i+1)));clear aY bo bq Y;go_wp2_with fail;go_roundg g;case measure=>omega
     case rel=>exact⟨i+1,g',aL,aT.o,gN,by rw[aI.o],bd⟩
    have O:=A_ (by rw[A3k,aD.o,if_neg af]:A3k E u (i+1)=A3k E u i);have bn:(f==u)=AH:=by simp[af]
    go_wp2_with fail;go_roundg g;case measure=>omega
    case rel=>exact⟨i+1,gB,cap,aT.o,gN,by rw[O.o],by rw[O.o];exact Y⟩
   obtain rfl:i=h:=oS;have aV:¬ ((i:Int)<i):=oS;clear aU ag;go_wp2;go_ret;rw[a5.o];exact Y.done

theorem A3g {w:AD} {g i:Nat} {cs:Array AU} {t:CV} {v:AU} (h:w.1[g]?=QZ (BG cs t)):(w.setCell ⟨g,i,I⟩ v).1[g]?=QZ (BG (cs.setIfInBounds i v) t):=by
 unfold World.setCell;simp[Array.getElem?_modify,h]
theorem D1j {w wa:AD} {g L:Nat} {u0 u1 u2:AU} {t:CV} (v0 v1 v2:AU) (h:wa.1[g]?=QZ (BG #[u0,u1,u2] t)) (hw:Below L w wa) (hg:L<=g) :
  ∃ X,((wa.setCell ⟨g,0,I⟩ v0).setCell ⟨g,1,I⟩ v1).setCell ⟨g,2,I⟩ v2=X/\X.1[g]?=QZ (BG #[v0,v1,v2] t)/\(∀ b,b≠g->X.1[b]?=wa.1[b]?)/\Below L w X/\X.1.size=wa.1.size :=
 ⟨_,rfl,A3g (A3g (A3g h)),λb hb=>A0m g [v0,v1,v2] wa 0 b hb,((hw.setCell (p:=⟨g,0,I⟩) hg _).setCell (p:=⟨g,1,I⟩) hg _).setCell (p:=⟨g,2,I⟩) hg _,A7d g [v0,v1,v2] wa 0⟩
theorem D6m {w wa:AD} {g L:Nat} {u0 u1 u2 u3 u4 u5:AU} {t:CV} (v0 v1 v2 v3 v4 v5:AU) (h:wa.1[g]?=QZ (BG #[u0,u1,u2,u3,u4,u5] t)) (hw:Below L w wa) (hg:L<=g) :
  ∃ X,(((((wa.setCell ⟨g,0,I⟩ v0).setCell ⟨g,1,I⟩ v1).setCell ⟨g,2,I⟩ v2).setCell ⟨g,3,I⟩ v3).setCell ⟨g,4,I⟩ v4).setCell ⟨g,5,I⟩ v5=X/\X.1[g]?=QZ (BG #[v0,v1,v2,v3,v4,v5] t)/\(∀ b,b≠g->X.1[b]?=wa.1[b]?)/\Below L w X/\X.1.size=wa.1.size :=
 ⟨_,rfl,A3g (A3g (A3g (A3g (A3g (A3g h))))),λb hb=>A0m g [v0,v1,v2,v3,v4,v5] wa 0 b hb,(((((hw.setCell (p:=⟨g,0,I⟩) hg _).setCell (p:=⟨g,1,I⟩) hg _).setCell (p:=⟨g,2,I⟩) hg _).setCell (p:=⟨g,3,I⟩) hg _).setCell (p:=⟨g,4,I⟩) hg _).setCell (p:=⟨g,5,I⟩) hg _,A7d g [v0,v1,v2,v3,v4,v5] wa 0⟩
end Go.Proofs.YtjcanieccnljfaaGreat.X
