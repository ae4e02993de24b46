/- A part of the proof. -/
import Derived.Test.YtbhemnidcleaiaaGreatY29
set_option linter.constructorNameAsVariable false
set_option maxHeartbeats 16000000
set_option maxRecDepth 10000
namespace Go.Proofs.YtbhemnidcleaiaaGreat.X
open Go.RowKit Go.XB Go.XN Proofs.Tryz
theorem C9u (ps:List TPoint) (es:List TEdge) (M:List Bool):∀ i,(A7b ps es M i).length<=ps.length+i
 |0=>Nat.le_refl _
 |i+1=>by
  have:=C9u ps es M i
  unfold A7b
  split
  ·rw[List.length_append];simp;omega
  omega
theorem C2h (es:List TEdge) (ms:List Int) (ts:List TTri):∀ k,(A3b es ms ts k).length<=4*k
 |0=>Nat.le_refl _
 |k+1=>by
  have h1:=C2h es ms ts k
  have h2:(A6w es ms 2 (ts.getD k A4p)).length<=2 ^ 2:=(B1g es ms 2 (ts.getD k A4p)).2
  rw[A3b,List.length_append];omega
attribute [local go_sem] L_ Go.XB.opAt N_ M_ Region.wanted yielded
attribute [local simp] N_ M_ MP.eq MP.agg MP.sl MP.trow MP.slbox MP.box A0r
theorem D5w (v:Value) (m:TMesh) (b:List Nat) (es:List TEdge) (A:Option Addr) (n c:Nat) (L:List Int) (cZ:List Nat) (R:List Bool) (bS:Nat) (w:World) (E:Agg w v m b) (c2:Sl w A n c L cZ) (dh:n<=144) (c8:P_ m.triangles=es) (cc:es.length<=100) (dk:m.1.length<=40) (ok:∀ p∈m.1,A1b p=true) (bX:m.triangles.length<=48)
  (dp:∀ t∈m.triangles,B4h es t=true) (c4:C8n es m.triangles bS (B0a es.length L)=some R) (c7:∀ e∈es,(0<=e.a/\e.a<m.1.length)/\0<=e.b/\e.b<m.1.length) (de:∀ t∈m.triangles,0<=t.5/\t.5<=900) :
  Calls prog 114 #[v,.slice A n c] w (λe w'=>∃ v' s,e=.returned v'/\Agg w' v' (A2m m R) s/\(∀ b∈s,w.1.size<=b)/\Bw w w'):=by
 have bE:=A_ E;have d7:=A_ dp;have dZ:=A_ c2;have d5:=A_ c4;have el:=A_ ok;have dX:=A_ c7;have a2:=A_ de;have cy:=A_ c8;have cA:=A_ dk;have bA:=A_ bX;have d3:=A_ dh;have d2:=A_ cc;obtain⟨fK,dz,f6,ha,fL,n1,f7,hb,rfl,rfl,cf,bj⟩:=TMesh.agg E;have d4:=A_ cf;have d8:=A_ bj;have gH:n1<=48:=by rw[<-bj.1];exact bX
 have gI:(n1:Int)<=48:=oM;have d1:=A_ cf.1;have d9:=A_ bj.1;obtain⟨ff,fg,fh,fi,fj⟩:=info_parts D1n;obtain⟨dw,fb,fc,fd,fe⟩:=info_parts A6b;obtain⟨fk,fl,fm,fn,fo⟩:=info_parts D2e;clear cf bj E c2 dp c4 ok c7 de dh dk bX c8 cc;go_enter func114,ntmps114;go_upto_region 1 with fail;refine Code.new2 λaO a5=>?_;have bq:=A_ a5.b;have aJ:=A_ a5.k;have bL:=A_ a5.l;clear a5;obtain⟨ai,-⟩:=B_ aJ (j:=0) rfl;obtain⟨O,-⟩:=B_ aJ (j:=1) rfl;simp at ai O;have aq:w.1.size<aO.1.size:=E_ aJ;go_wp2_with fail;refine(A7q _ m _ aO (bE.below bq) bA).mono ?_;rintro _ dA ⟨aY,D,bd,aR,rfl,aU,di,bf⟩;rw[cy.o]at aU;have bD:=A_ aU.1;have cc:D<=100:=by rw[<-aU.1];exact d2
 have gK:(D:Int)<=100:=oM;have cQ:=A_ aU;have dH:=A_ (Below.next bq bf);have cE:=A_ (K_ aJ bf);have Q1:=A_ (K_ bL bf);have fS:=A_ (show ∀ b∈aR,w.1.size+1<b from λb ab=>by have:=(di.2 b ab).1;have:=E_ bL;omega);clear aU di bf ai O aq;go_upto_region 2 with fail;refine Code.new λbQ aA=>?_;have bp:=A_ (Below.next dH aA.b);have a3:=A_ (K_ cE aA.b);have Q2:=A_ (K_ Q1 aA.b);have bu:=A_ aA.k;have cR:=A_ (cQ.below aA.b);have fT:=A_ (show w.1.size+1<dA.1.size from E_ Q1);clear cQ cE Q1 aJ bL bq aA;generalize dA.1.size=ak at *;obtain⟨ai,-⟩:=B_ a3 (j:=0) rfl;obtain⟨O,-⟩:=B_ a3 (j:=1) rfl;obtain⟨an,-⟩:=B_ bu (j:=0) rfl;simp at ai O an;have aq:w.1.size<bQ.1.size:=E_ a3;have l1:ak<bQ.1.size:=E_ bu;go_wp2_with fail;have d6:=A_ (by rw[<-bD.o];exact d5:C8n es m.triangles bS (B0a D L)=some R);refine(D5u _ m _ aY D bd es aR A n c L cZ R bS bQ (bE.o.below bp.o) cR.o (dZ.o.below bp.o) d3.o oM bA.o d7.o d6.o).mono ?_;rintro _ W ⟨eS,rfl,b5,aD⟩;have dJ:=A_ b5;have aX:=A_ (Below.next bp aD);have aK:=A_ (K_ a3 aD);have a8:=A_ (K_ Q2 aD);have aZ:=A_ (K_ bu aD);have bO:=A_ (cR.below aD);have cP:=A_ (by have:=b5.1;simpa using this:R.length=D);clear b5 aD ai O an aq l1;obtain⟨ai,-⟩:=B_ aK (j:=0) rfl;obtain⟨O,-⟩:=B_ aK (j:=1) rfl;simp at ai O;have aq:w.1.size<W.1.size:=E_ aK;go_wp2_with fail;refine(B7i _ m _ W (bE.below aX) el (by have:=cA.o;omega) (by have:=bA.o;omega)).mono ?_;rintro _ bn ⟨ay,hl,vT,zs,rfl,⟨cd,dq,-,ca,da⟩,b4⟩;obtain⟨aN,aQ,-,rfl,-,-⟩:=cd.sl;obtain⟨ep,eN,-,rfl,-,-⟩:=dq.sl;have a7:=A_ cd;have a4:=A_ ca;have cz:=A_ da;have bB:=A_ b4;have cu:=A_ (K_ aZ b4);clear cd dq ca da b4 ai O aq;have e1:∀ aO:World,(Instr.field 26 (.agg #[.slice aN m.1.length aQ,.slice ep m.triangles.length eN]) 0).run prog aO=.ok (.slice aN m.1.length aQ) aO:=λ_=>kR;go_upto_region 4 with fail;clear e1;refine Code.new λX aL=>?_;have aI:=A_ (Below.next bB aL.b);have bv:=A_ (K_ cu aL.b);have bI:=A_ aL.k;have cO:=A_ (a7.below aL.b);have aw:=A_ (show W.1.size<=bn.1.size from bB.size);have bz:=A_ (show(∀ g,(Value.slice aN m.1.length aQ).ownBlock=some g->g<bn.1.size)/\∀ g∈zs,g<bn.1.size from⟨λg ap=>(a7.lt g ap).2,λg ap=>(a7.zlt g ap).2⟩);clear cu a7 bB aL;generalize bn.1.size=gO at *;obtain⟨an,-⟩:=B_ bv (j:=0) rfl;simp at an;have l1:ak<X.1.size:=E_ bv;have b2:=A_ (by rw[fe];omega:dw.bytes*D<=281474976710656);have eC:=A_ (by unfold maxLen;omega:D<=maxLen);have az:=A_ (E_ bI);have ef:=A_ (show ay<=X.1.size from Nat.le_trans cz (Nat.le_of_lt az));go_upto_region 5 with(at_make;(refine wpList_make_full _ rfl _ _ 31 rfl X.1.size 3 dw (.int .i64 0) 1 underlying31 fb fc fd .i64 .i64 _ _ D rfl rfl rfl rfl b2 eC (Nat.le_refl _) ?_);intro aH bi c9)
 rw[A8c]at bi;have bg:=(Below.refl X.1.size X).grown c9 sI (by intro k dd;cases dd);obtain⟨ex,bZ⟩:∃ y,y=aH.alloc (.cells #[.slice (some ⟨X.1.size,0,none⟩) D D] 31):=⟨_,rfl⟩
 have ao:=A_ (show X.1.size<aH.1.size from(World.ownsRow.lt bi _ rfl).2);have cU:=A_ (show BiI W ex ay gO X.1.size aH.1.size D aN m.1.length aQ (A7b m.1 es R 0) zs (A8h m.1 es R 0)from by
  rw[bZ];refine⟨(Below.next aI bg).alloc (by have:=aI.size;have:=ao.o;omega) _,K_ (K_ bI.o bg) (Below.box _),heap_alloc_new aH _,?_,?_,(cO.o.below bg).below (Below.box _),⟨a4.o,?_,aw.o,?_,?_⟩,⟨?_,?_,?_⟩,?_,?_⟩;·have u:=I_ (A9f bi aI.size) (Below.box (.cells #[.slice (some ⟨X.1.size,0,none⟩) D D] 31));show(aH.alloc _).ownsRow W.1.size 3 1 _ D ((List.replicate es.length (0:Int)).map (.int .i64));rw[bD.o];exact u
  ·intro x E;have dt:x∈List.replicate es.length (0:Int):=E;rw[List.mem_replicate]at dt;rw[dt.2];exact⟨dE,dE⟩
  ·have:=cz.o;have:=az.o;have:=ao.o;have ca:=ef.o;simp;omega
  ·exact aI.size
  ·have:=aI.size;have:=ao.o;omega
  ·have:=az.o;omega
  ·have:=az.o;have:=ao.o;omega
  ·have:=ao.o;omega
  ·intro g ap;have I:=bz.1 g ap;have:=az.o;have:=ao.o;omega
  intro g ap;have I:=bz.2 g ap;have:=az.o;have:=ao.o;omega)
 rw[<-bZ];clear bZ bi c9 bg an l1 bv bI cO bz;generalize X.1.size=gM at *;generalize aH.1.size=g8 at *;go_wp2_with fail;go_loopg [29] D (λg s wr=>∃ (i:Nat) (J:Option Addr) (k K:Nat) (aW:List Nat),i+g=D/\s=.int .i64 i/\Hid (BiI W wr ay gO gM g8 D J k K (A7b m.1 es R i) aW (A8h m.1 es R i)));case atStart=>exact⟨0,aN,m.1.length,aQ,zs,oM,rfl,cU.o⟩
 case round =>
  clear cU;obtain⟨i,J,k,K,aW,dc,rfl,h⟩:=hrel;have br:=A_ (Below.next aX h.bl);rcases Nat.lt_or_ge i D with aE|aE
  ·have e3:(i:Int)<D:=oM
   have gF:(0:Int)<=i:=oM;obtain⟨g,rfl⟩:∃ g,gk=g+1:=⟨gk - 1,oM⟩
   have db:=A_ (by omega:i+1+g=D);have cs:=A_ (dJ.below h.bl);obtain⟨f,aT⟩:∃ f,R[i]?=some f:=⟨_,List.getElem?_eq_getElem (by rw[cP.o];exact aE)⟩
   obtain⟨u0,-⟩:=cs.cell aT;have fp:eS<wr.1.size:=cs.lt;have a1:=A_ (by rw[List.getD_eq_getElem?_getD,aT];rfl:R.getD i false=f);obtain⟨aV,-⟩:=B_ h.k8 (j:=0) rfl;simp at aV;obtain⟨fH,cm,cn⟩:=h.mcell aE;obtain⟨cj,ci,ch,-⟩:=h.lims;clear aT dc;go_upto_region 9 with fail;obtain⟨cX,b0⟩:∃ y,y=wr.setCell ⟨gM,i,none⟩ (.int .i64 (-1)):=⟨_,rfl⟩
   have af:=A_ (by rw[b0];exact h.setM i (by constructor<;>decide):BiI W cX ay gO gM g8 D J k K (A7b m.1 es R i) aW ((A8h m.1 es R i).set i (-1)));rw[<-b0];clear b0 u0 fp aV cm cn cj ci ch br h;cases f
   ·have Q1:=A_ (by rw[A7b,a1.o];rfl:A7b m.1 es R (i+1)=A7b m.1 es R i)
    have Q2:=A_ (by rw[A8h,a1.o];rfl:A8h m.1 es R (i+1)=(A8h m.1 es R i).set i (-1));go_wp2_with fail;go_roundg g;case measure=>omega
    case rel=>exact⟨i+1,J,k,K,aW,db.o,gN,by rw[Q1.o,Q2.o];exact af⟩
   have cH:=A_ (show(A7b m.1 es R i).length=k from af.pv.len);have Q1:=A_ (by rw[A7b,a1.o];rfl:A7b m.1 es R (i+1)=A7b m.1 es R i++[A2f (Z_ m.1 (es.getD i A4o).a) (Z_ m.1 (es.getD i A4o).b)]);have Q2:=A_ (by rw[A8h,a1.o,List.set_set,<-cH.o];rfl:A8h m.1 es R (i+1)=((A8h m.1 es R i).set i (-1)).set i (k:Int));have dd:k<=140:=by have I:=C9u m.1 es R i;have bW:=cA.o;rw[cH.o]at I;omega
   have gG:(k:Int)<=140:=oM;have dO:=A_ (by unfold maxLen;omega:k+1<=maxLen);have dQ:=A_ (by omega:(k+1)*112<=140737488355328);have ec:=A_ (show I64 (k:Int)from⟨oM,oM⟩);obtain⟨aV,-⟩:=B_ af.k8 (j:=0) rfl;obtain⟨Y,-⟩:=B_ af.kO (j:=0) rfl;simp at aV Y;obtain⟨fH,cm,cn⟩:=af.mcell aE;obtain⟨cj,ci,ch,-⟩:=af.lims;go_upto_region 11 with fail;obtain⟨aP,b3⟩:∃ y,y=cX.setCell ⟨gM,i,none⟩ (.int .i64 k):=⟨_,rfl⟩
   have T:=A_ (by rw[b3,Q2.o];exact af.setM i ec:BiI W aP ay gO gM g8 D J k K (A7b m.1 es R i) aW (A8h m.1 es R (i+1)));rw[<-b3];clear b3 aV Y cm cn cj ci ch af;have cF:=A_ (K_ aK T.bl);have cv:=A_ (K_ aZ T.bl);have em:=A_ (bO.below T.bl);have cB:=A_ (d4.below (Below.next aX T.bl));obtain⟨gz,g5,e,rfl,gE,aS,eF,eG,-,-,-⟩:=TEdge.elemA em aE;obtain⟨⟨a0,eB⟩,⟨f2,b1⟩⟩:=dX e (List.mem_of_getElem? aS);rw[d1.o]at eB b1;obtain⟨f3,g6,ar,fU,gV,gi,hc,fV,gW,gj,hd,fW,gX,gl,he,fX,gY,gm,hf,rfl,gC,dr,fx,p1,p2,fy,fz,fA,ds⟩:=TPoint.elemA cB.o (by omega:e.a.toNat<dz);obtain⟨f4,g7,z,fY,gZ,gn,hg,fZ,g0,gp,hi,f0,g1,gq,hj,f1,g2,gt,hk,bY,eW,du,fB,q1,q2,fC,cp,fD,dv⟩:=TPoint.elemA cB.o (by omega:e.b.toNat<dz);injection bY with bY;injection bY with aF aG _;subst aF;subst aG;have ea:=A_ ds;have eb:=A_ dv;have ek:=A_ (show A2f (Z_ m.1 (es.getD i A4o).a) (Z_ m.1 (es.getD i A4o).b)=A2f ar z by unfold Z_;rw[List.getD_eq_getElem?_getD (l:=es),aS,Option.getD_some,List.getD_eq_getElem?_getD,dr,List.getD_eq_getElem?_getD,du];rfl);have g3:((e.a.toNat:Nat):Int)=e.a:=oM;have g4:((e.b.toNat:Nat):Int)=e.b:=oM;obtain⟨dD,-⟩:=B_ cF (j:=0) rfl;obtain⟨an,-⟩:=B_ cv (j:=0) rfl;obtain⟨Y,-⟩:=B_ T.kO (j:=0) rfl;simp at dD an Y;have fq:w.1.size<aP.1.size:=E_ cF;have lx:ak<aP.1.size:=E_ cv;have am:gO<aP.1.size:=E_ T.kO;clear aS dr du ds dv eW;refine W_ 22 kR kR kR kR kR ?_;simp only[List.take_succ_cons,List.take_zero,List.drop_succ_cons,List.drop_zero];iterate 20 refine C_ _ ?_
   refine D_ (MP.agg (A2f ar z)) ?_ ?_;·intro au bo ad H G;obtain⟨eY,e2⟩:=F_ H;simp at G;refine G_ ?_;exact H_ (B1s _ _ ar z _ _ ad (ea.below H) (eb.below H))
   refine A1d (λdB=>MP.slbox (dB 20).cells 38) (by intro y dB u;simp[N_,M_]at u;simp[u]) ?_ ?_;·intro au bo ad H G;simp at G;obtain⟨fO,gP,gc,gu,fP,gQ,gd,gv,fQ,gR,gg,gw,fR,gU,gh,gx,eO,_,_,_,_,_⟩:=TPoint.agg G.1;refine⟨gD,.slice (some ⟨ad.1.size,0,none⟩) 1 1,ad.alloc (.cells (au 20).cells 38),?_,Below.box _,[ad.1.size],⟨ad.1.size,rfl,rfl,heap_alloc_new ad _⟩,sI⟩;rw[eO];go_simp
   intro au bo wa H G (b6:Hid _);simp at G;have c1:=G.2.1;have eP:=G.2.2.2.2.2.2.2.2.2.2.2.2.2.2.2.2.2.2.2.2.1;have eQ:=G.2.2.2.2.2.2.2.2.2.2.2.2.2.2.2.2.2.2.2.2.2;obtain⟨⟨c5,aT⟩,dn⟩:=eP;obtain⟨dR,fr,eI,bT,dS,fs,eJ,aC,dT,ft,eK,bU,dU,fu,eL,bV,c0,dF,k1,k2,dx,dy⟩:=TPoint.agg c5;obtain⟨⟨eT,hn,fJ,b7⟩,e8⟩:=eQ;rw[c0]at b7;have fI:au 1=.slice J k K:=c1.1.1;have dG:=A_ (TPoint.shut (x:=A2f ar z) k1 k2 dx dy);have cY:=A_ (show ∀ b∈bT++(aC++(bU++bV)),aP.1.size<=b from λb ab=>(dn b (by rw[dF];exact ab)).1);have dY:=A_ b7;have ag:=A_ (T.below H);have eh:=A_ (ag.lo.2.1);have ez:=A_ (show ∀ b∈bT++(aC++(bU++bV)),ay<=b/\(Value.slice J k K).ownBlock≠some b from λb ab=>by have I:=cY b ab;have bW:=T.lo.2.1;refine⟨oM,λu=>?_⟩;have:=(T.pv.lt b u).2;omega);have eA:=A_ (show ∀ b∈bT++(aC++(bU++bV)),b≠gO/\b≠gM/\b≠g8 from λb ab=>by have I:=cY b ab;obtain⟨bW,be,gA,-⟩:=T.lims;omega);clear G b6 c5 aT dn k1 k2 dx dy b7 e8 fJ dF c1 H dD an Y fq lx am eF eG fx p1 p2 fy fz fA fB q1 q2 fC cp fD c0;obtain⟨Y,fv⟩:=B_ ag.kO (j:=0) rfl;simp at Y;have am:gO<wa.1.size:=E_ ag.kO;go_wp2_with (at_builtin;refine D0k rfl _ _ 23 rfl 38 ff (.agg #[.bool false,.slice none 0 0,.slice none 0 0,.bool false,.slice none 0 0,.slice none 0 0]) 112 underlying23 fg fh fi fj rfl ag.pv eh gD ⟨eT,0,none⟩ 1 [.bool (A2f ar z).x.1.1,.slice dR fr eI,.slice dS fs eJ,.bool (A2f ar z).y.1.1,.slice dT ft eK,.slice dU fu eL] (A2f ar z) _ gD (A0a dY) dG ez dO dQ ?_;intro eR eM hm dl b9 dj;have al:=(b9.block gO (E_ ag.kO) (λe=>(ag.dB gO e.symm).1 rfl)).trans ag.kO;obtain⟨ac,cq⟩:=B_ al (j:=0) rfl;simp at ac;have ck:=E_ al;clear al Y fv am);have eo:=A_ (ag.pushP dl b9 dj eA);clear dl b9 dj ac cq ck;go_roundg g;case measure=>omega
   case rel=>exact⟨i+1,some ⟨eR,0,none⟩,k+1,eM,_,db.o,gN,by rw[Q1.o,ek.o];exact eo⟩
  obtain rfl:i=D:=oM;have e3:¬ ((i:Int)<i):=oM;have cN:=A_ (by rw[cP.o]:A7b m.1 es R i=A7b m.1 es R R.length);obtain⟨ms,cb⟩:∃ ms,A8h m.1 es R i=ms:=⟨_,rfl⟩
  have d0:=A_ (by rw[bD.o];exact cb:A8h m.1 es R es.length=ms);rw[cb,cN.o]at h;clear cb cN dc aE;have cG:=A_ (K_ aK h.bl);have bN:=A_ (K_ a8 h.bl);have cw:=A_ (K_ aZ h.bl);have en:=A_ (bO.below h.bl);obtain⟨co,df,dg⟩:=E7e h.mr h.mi;have S:=A_ (show MidC wr ak g8 aY i bd es aR (some ⟨gM,0,none⟩) i ms co from⟨cw.o,h.o.k8,en.o,df,oM⟩);have ej:=A_ dg;have dW:=A_ (show ak<W.1.size from E_ aZ);clear df dg;obtain⟨O,-⟩:=B_ cG (j:=1) rfl;simp at O;have aq:w.1.size<wr.1.size:=E_ cG;obtain⟨U,eU⟩:∃ U,U=wr:=⟨_,rfl⟩
  subst eU;have cL:=A_ h.kO;have cI:=A_ (show gO<U.1.size/\gM<U.1.size/\g8<U.1.size/\ak<U.1.size from⟨h.lims.1,h.lims.2.1,h.lims.2.2.1,E_ cw⟩);go_wp2_with fail;go_loopg [73] n1 (λg s wr=>∃ (q:Nat) (ah:Option Addr) (cT:Nat),q+g=n1/\s=.int .i64 q/\Hid (wr.1[gO]?=some (.cells #[.slice J k K,.slice ah (A3b es ms m.triangles q).length cT] 26))/\Hid (TrRow wr U.1.size (.slice ah (A3b es ms m.triangles q).length cT) (A3b es ms m.triangles q))/\Hid (U.grownBy wr (some gO)));case atStart=>exact⟨0,none,0,oM,rfl,cL.o,⟨World.ownsRow_nil _ _ _ _,by simp[A3b]⟩,A3p _ _⟩
  case round =>
   clear cL O aq;obtain⟨q,ah,cT,dm,rfl,aM,bc,ae⟩:=hrel;have ct:=A_ (br.grown ae br.size (λx E=>by injection E with E;subst E;have:=aw.o;have:=aX.size;omega))
   have ei:=A_ (show MidC _ ak g8 aY i bd es aR (some ⟨gM,0,none⟩) i ms co from
    ⟨(ae.block _ (E_ S.kE) (by intro e;injection e with e;have:=dW.o;have:=aw.o;omega)).trans S.o.kE,
    (ae.block _ (E_ S.kM) (by intro e;injection e with e;exact h.dX.2.1 e.symm)).trans S.kM,
    S.sE.keep (λx E=>ae.block x (S.sE.lt x E) (by intro e;injection e with e;have:=bO.lt x E;have:=aw.o;omega)),
    S.sM.keep (λx E=>ae.block x (S.sM.lt x E) (by intro e;injection e with e;have I:=ej x E;exact h.dX.1 (e.symm.trans I))),S.n144⟩)
   have ev:=A_ (C2h es ms m.triangles q);rcases Nat.lt_or_ge q n1 with ce|ce
   ·have e7:(q:Int)<n1:=oM
    obtain⟨g,rfl⟩:∃ g,gk=g+1:=⟨gk - 1,oM⟩
    have e6:=A_ (by omega:q+1+g=n1);obtain⟨f5,g9,t,rfl,eX,cg,bk,aF,aG,bl,bm,c6⟩:=TTri.elemA (d8.below ct) ce;have ba:=A_ (List.mem_of_getElem? cg);have eu:=A_ (by rw[List.getD_eq_getElem?_getD,cg];rfl:m.triangles.getD q A4p=t);have cV:=A_ (show C2c t from(TTri.agg c6).2.2);clear dm c6 cg;go_upto_region 17 with fail;refine Code.new λbR bH=>?_;have bs:=A_ bH.b;have ax:=A_ bH.k;clear bk aF aG bl bm eX bH;have cM:=A_ (K_ aM bs);obtain⟨o1,-⟩:=B_ cM (j:=1) rfl;obtain⟨bk,-⟩:=B_ ax (j:=0) rfl;obtain⟨aF,-⟩:=B_ ax (j:=1) rfl;obtain⟨aG,-⟩:=B_ ax (j:=2) rfl;obtain⟨bl,-⟩:=B_ ax (j:=3) rfl;obtain⟨bm,-⟩:=B_ ax (j:=4) rfl;simp at o1 bk aF aG bl bm;have l1:wr.1.size<bR.1.size:=E_ ax;have am:gO<bR.1.size:=E_ cM;refine W_ 5 kR kR kR kR kR ?_;simp only[List.take_succ_cons,List.take_zero,List.drop_succ_cons,List.drop_zero];iterate 4 refine C_ _ ?_
    refine D_ (MP.trow bR.1.size (A6w es ms 2 t)) ?_ ?_;·intro au bo ad H G;obtain⟨eY,e2⟩:=F_ H;simp at G;refine G_ ?_;exact(C8m ak g8 aY i bd es aR (some ⟨gM,0,none⟩) i ms co t ad ((ei.below bs).below H) cV 2 (Nat.le_refl _) ⟨(a2 t ba).1,by have:=(a2 t ba).2;omega⟩).mono λ_ _ ⟨g,c,aS,ho,_,_,ab⟩=>⟨_,aS,ab,[],⟨rfl,g,c,rfl,A9f ho H.size⟩,sI⟩
    intro au bo wa H G (b6:Hid _);simp at G;have q1:=G.2.1;have cp:=G.2.2.2.2;have fI:au 1=.slice ah (A3b es ms m.triangles q).length cT:=q1.1.1;obtain⟨⟨-,aC,eH,hp,o2⟩,-⟩:=cp;have O2:=A_ (o2.cells (g:=aC) rfl);have bt:=A_ (Below.next bs H);have a6:=A_ (K_ aM bt);have bP:=A_ (bc.below bt);have cx:=A_ (B4p ae bt);have ey:=A_ (show U.1.size<=wa.1.size from cx.size);have bG:=B1g es ms 2 t;have eg:(A6w es ms 2 t).length<=4:=bG.2;have ew:=ev.o;have dM:=A_ (by unfold maxLen;omega:(A3b es ms m.triangles q).length+(A6w es ms 2 t).length<=maxLen);have dN:=A_ (by omega:((A3b es ms m.triangles q).length+(A6w es ms 2 t).length)*40<=140737488355328);have LP:=A_ bG.1;have cK:=A_ (by rw[A3b,eu.o]:A3b es ms m.triangles (q+1)=A3b es ms m.triangles q++A6w es ms 2 t);have er:=A_ (D2q (es:=es) (ms:=ms) (λa b=>D9h S.sM es a b) 2 t cV (a2 t ba).1 (by have:=(a2 t ba).2;omega));clear G b6 H o2 bG eg ew bk aF aG bl bm l1 am o1 q1;obtain⟨o1,fw⟩:=B_ a6 (j:=1) rfl;simp at o1;have am:gO<wa.1.size:=E_ a6;generalize A3b es ms m.triangles q=aa at *;generalize A6w es ms 2 t=Z at *;go_wp2_with (at_builtin;refine wpList_append_own _ rfl _ _ 24 rfl U.1.size 93 fk (.agg #[.int .i64 0,.int .i64 0,.int .i64 0,.int .i64 0,.int .i64 0]) 5 40 underlying24 fl fm fn fo rfl dE (.slice ah aa.length cT) aa.length (aa.flatMap A7h) gD bP.1 ⟨aC,0,none⟩ Z.length eH (Z.flatMap A7h) gD (B3l Z) O2 C1s dM dN ey ?_;intro v' w3 bh b8 eV;obtain⟨aj,aB,rfl⟩:=C5p bh (by have:=LP.o;omega);have al:=(b8.block gO (E_ a6) (λe=>by have:=(World.ownsRow.lt bP.1 gO e.symm).1;have:=cI.1;omega)).trans a6.o;obtain⟨ac,cq⟩:=B_ al (j:=1) rfl;simp at ac;have ck:=E_ al;have ed:=A_ al;clear al o1 fw am eV);have ee:=A_ (A3g (i:=1) (v:=.slice (some ⟨aj,0,none⟩) (aa.length+Z.length) aB) ed);have a9:=A_ (A1f (i:=1) (v0:=.slice (some ⟨aj,0,none⟩) (aa.length+Z.length) aB) (A3p w3 (some gO)));have et:=A_ (show TrRow (w3.setCell ⟨gO,1,none⟩ (.slice (some ⟨aj,0,none⟩) (aa.length+Z.length) aB)) U.1.size (.slice (some ⟨aj,0,none⟩) (aa++Z).length aB) (aa++Z)from by
     refine⟨?_,λx E=>?_⟩;·rw[List.length_append,List.flatMap_append];exact bh.kept a9 (.inr λe=>by have gy:aj=gO:=Option.some.inj e;have:=(World.ownsRow.lt bh aj rfl).1;have:=cI.1;omega)
     rcases List.mem_append.1 E with u|u;·exact bc.2 x u
     exact er x u)
    have dV:=A_ (A1f (i:=1) (v0:=.slice (some ⟨aj,0,none⟩) (aa.length+Z.length) aB) (B9u cx b8 (λx E=>(World.ownsRow.lt bP.1 x E).1)));clear bh b8 ac cq ck;go_roundg g;case measure=>omega
    case rel=>exact⟨q+1,some ⟨aj,0,none⟩,aB,e6.o,gN,by rw[cK.o,List.length_append];exact ee.o,by rw[cK.o];exact et,dV⟩
   obtain rfl:q=n1:=oM;have e7:¬ ((q:Int)<q):=oM;have bM:=A_ (show wr.1[w.1.size+1]?=some (.cells #[.slice none 0 0,.slice none 0 0] 26)from(ae.block _ (E_ bN) (by intro e;injection e with e;have:=E_ a8;have:=aw.o;omega)).trans bN.o);obtain⟨Y,-⟩:=B_ aM (j:=0) rfl;obtain⟨o1,-⟩:=B_ aM (j:=1) rfl;obtain⟨r0,fE⟩:=B_ bM (j:=0) rfl;obtain⟨fF,fG⟩:=B_ bM (j:=1) rfl;simp at Y o1 r0 fF fE fG;have am:gO<wr.1.size:=E_ aM;have gL:w.1.size+1<wr.1.size:=E_ bM;have gJ:w.1.size+1≠gO:=by have:=E_ a8;have:=aw.o;omega
   have bK:=A_ (h.pv.keep ae (λe=>(h.dB _ e).1 rfl) (λe=>(h.dZ _ e).1 rfl));have dI:=A_ (by unfold A2m;rw[cy.o,d0.o,d9.o]:A2m m R=⟨A7b m.1 es R R.length,A3b es ms m.triangles q⟩);clear dm ce;go_wp2;have a9:=A_ (A1f (i:=1) (v0:=.slice ah (A3b es ms m.triangles q).length cT) (A1f (i:=0) (v0:=.slice J k K) (A3p wr (some (w.1.size+1)))));have bF:=A_ (show w.1.size+1<W.1.size from E_ a8);have bJ:=A_ (bK.keep a9 (λu=>by have:=(bK.lt _ u).1;have:=bF.o;have:=a4.o;omega) (λu=>by have:=(bK.o.zlt _ u).1;have:=bF.o;have:=a4.o;omega));have cJ:=A_ (show w.1.size+1<U.1.size from E_ bN);have cW:=A_ (bc.kept a9 (λu=>by have:=(World.ownsRow.lt bc.1 _ u).1;have:=cJ.o;omega));have dL:=A_ ((ct.setCell (p:=⟨w.1.size+1,0,none⟩) (Nat.le_succ _) (.slice J k K)).setCell (p:=⟨w.1.size+1,1,none⟩) (Nat.le_succ _) (.slice ah (A3b es ms m.triangles q).length cT));obtain⟨fN,f9,eE,e0,fa,e5⟩:=bJ.sl;injection e0 with I _ be;subst I;subst be;obtain⟨fM,f8,eD,eZ,e9,e4⟩:=cW.sl;injection eZ with I _ be;subst I;subst be;refine bodyPost_ret (v:=.agg #[.slice J k K,.slice ah (A3b es ms m.triangles q).length cT]) (by simp[results,results114,go_sem, *]) rfl ?_;refine⟨_,rfl,eE++eD,by rw[dI.o];exact TMesh.mkAgg (x:=⟨A7b m.1 es R R.length,A3b es ms m.triangles q⟩) fa e9,λx E=>?_,dL⟩;rcases List.mem_append.1 E with u|u
   ·have I:=bF.o;have bW:=a4.o
    rcases e5 x u with u|u;·have:=(bJ.lt x u).1;omega
    have:=(bJ.zlt x u).1;omega
   have:=(World.ownsRow.lt cW.1 x (e4 x u)).1;have:=cJ.o;omega
end Go.Proofs.YtbhemnidcleaiaaGreat.X

namespace Go.XB
open Go.RowKit Go.Proofs.YtbhemnidcleaiaaGreat.X
def MP.tupM (x:TMesh):MP:=⟨λv bs w=>∃ A0 n0 c0 A1 n1 c1,v=.tuple #[.agg #[.slice A0 n0 c0,.slice A1 n1 c1],.bool true]/\Agg w (.agg #[.slice A0 n0 c0,.slice A1 n1 c1]) x bs,λ_ _ _ _ hb h=>by
 obtain⟨A0,n0,c0,A1,n1,c1,e,h⟩:=h;exact⟨A0,n0,c0,A1,n1,c1,e,h.below hb⟩⟩
def MP.exM (y:Value):MP:=⟨λv bs _=>bs=[]/\(∃ A0 n0 c0 A1 n1 c1,v=.agg #[.slice A0 n0 c0,.slice A1 n1 c1])/\y=.tuple #[v,.bool true],λ_ _ _ _ _ h=>h⟩
end Go.XB
namespace Go.Proofs.YtbhemnidcleaiaaGreat.X
open Go.RowKit Go.XB Go.XN Proofs.Tryz
def E3z {α:Type} [Dat α] (w:World) (x:α) (e:Ending) (w':World):Prop:=∃ v' s,e=.returned v'/\Agg w' v' x s/\(∀ b∈s,w.1.size<=b)/\Bw w w'
def D2c {α:Type} [Dat α] (w:World) (x:α) (e:Ending) (w':World):Prop:=∃ v' s,e=.returned (.tuple #[v',.bool true])/\Agg w' v' x s/\(∀ b∈s,w.1.size<=b)/\Bw w w'
theorem CMesh.agg {w:World} {lo L:Nat} {E vT:Value} {m:TMesh} {zs:List Nat} (h:CMesh w lo L E vT m zs):∃ s,Agg w (.agg #[E,vT]) m s/\∀ b∈s,lo<=b:=by
 obtain⟨u,D,-,Z,-⟩:=h;obtain⟨W,Y,H,rfl,O,J⟩:=u.sl;obtain⟨T,X,G,rfl,K,I⟩:=D.sl;refine⟨H++G,TMesh.mkAgg O K,λx S=>?_⟩;rcases List.mem_append.1 S with h|h
 ·rcases J x h with h|h
  ·have:=(u.lt x h).1;omega
  have:=(u.zlt x h).1;omega
 exact(World.ownsRow.lt D.1 x (I x h)).1
theorem C7a (v:Value) (m:TMesh) (b:List Nat) (w:World) (I:Agg w v m b) (ok:∀ p∈m.1,A1b p=true) (E:m.1.length<=144) (H:m.triangles.length<=1000) :
  Calls prog 113 #[v] w (E3z w m):=by
 refine(B7i v m b w I ok E H).mono ?_;rintro _ K ⟨L,J,vT,zs,rfl,D,u⟩;obtain⟨s,G,h⟩:=D.agg;exact⟨_,s,rfl,G,h,u⟩
structure RefD (m:TMesh) (L:List Int) (R:List Bool) (xs ys xs' ys':List Int):Prop where
 mesh:MeshI m xs ys
 o:MeshI (A2m m R) xs' ys'
 sd:∀ t∈m.triangles,B4h (P_ m.triangles) t=true
 cl:C8n (P_ m.triangles) m.triangles 50 (B0a (P_ m.triangles).length (A3d m.triangles L))=some R
 el:(P_ m.triangles).length<=100
 ed:∀ e∈P_ m.triangles,(0<=e.a/\e.a<m.1.length)/\0<=e.b/\e.b<m.1.length
theorem C7b (ts:List TTri) (L:List Int):(A3d ts L).length<=(P_ ts).length:=by
 unfold A3d A9l;have h:=B4g (B4v ts (P_ ts) (B4n ts L) (B4n ts L).length) (B4v ts (P_ ts) (B4n ts L) (B4n ts L).length).length;rw[C5q]at h ⊢;exact h
attribute [local go_sem] L_ Go.XB.opAt N_ M_ Region.wanted yielded
attribute [local simp] N_ M_ MP.eq MP.agg MP.aggV MP.sl MP.tupM MP.exM MP.slbox MP.box A0r
theorem C1c (v:Value) (m:TMesh) (b:List Nat) (A:Option Addr) (n c:Nat) (L:List Int) (ar:List Nat) (R:List Bool) (xs ys aC aD:List Int) (w:World) (ad:Agg w v m b) (ax:Sl w A n c (A3d m.triangles L) ar) (az:RefD m L R xs ys aC aD) :
  Calls prog 52 #[v,.slice A n c] w (D2c w (A2m m R)):=by
 have al:=A_ ad;have aj:=A_ ax;have h:=A_ az;obtain⟨aU,a3,aW,a5,aV,n1,aX,a6,rfl,rfl,aO,aP⟩:=TMesh.agg ad;clear aO aP ad ax az;go_enter func52,ntmps52;go_upto_region 1 with fail;refine Code.new2 λaK J=>?_;have T:=A_ J.b;have X:=A_ J.k;have ao:=A_ J.l;clear J;obtain⟨u,-,D⟩:=bx X;go_wp2_with fail;refine(B1u _ m _ xs ys aK (al.below T) h.1).mono ?_;rintro _ aT ⟨rfl,K⟩;have I:=A_ (Below.next T K);have am:=A_ (K_ X K);have Q1:=A_ (K_ ao K);clear u D K X ao T;obtain⟨u,-,D⟩:=bx am;go_wp2_with fail;refine(D5w _ m _ (P_ m.triangles) A n c (A3d m.triangles L) ar R 50 aT (al.below I) (aj.below I) (by have aM:=aj.1;have aY:=C7b m.triangles L;have aZ:=h.el;omega) rfl h.o.el h.o.1.n40 (λp aN=>List.all_eq_true.1 h.o.1.ok p aN) h.o.1.t48 h.o.sd h.o.cl h.o.ed (λt aQ=>by have aw:=(h.o.1.tri t aQ).2.2.1;unfold inB at aw;simp at aw;omega)).mono ?_;rintro _ aB ⟨a7,s,rfl,ab,aA,ac⟩;obtain⟨O,ae,Z,aR,S,af,aa,aS,rfl,rfl,-,-⟩:=TMesh.agg ab;have ai:=A_ ab;have ak:=A_ (show ∀ b∈aR++aS,w.1.size+1<b from λb G=>by have aM:=aA b G;have:=E_ Q1;omega);have aE:=A_ (Below.next I ac);have Q2:=A_ (K_ Q1 ac);clear u D ac ab aA am Q1 I;go_upto_region 4 with fail;refine Code.new λaL E=>?_;have ah:=A_ (Below.next aE E.b);have Y:=A_ E.k;have ap:=A_ (K_ Q2 E.b);have W:=A_ (ai.below E.b);have aJ:=A_ (show w.1.size+1<aB.1.size from E_ Q2);clear ai Q2 E;generalize aB.1.size=au at *;obtain⟨u,-,D⟩:=bx Y;go_wp2_with fail;refine(B1u _ _ _ aC aD aL W h.o.o).mono ?_;rintro _ ag ⟨rfl,H⟩;have aF:=A_ (Below.next ah H);have an:=A_ (K_ Y H);have aq:=A_ (K_ ap H);have aH:=A_ (W.below H);clear u D H Y ap ah W;obtain⟨u,-,-⟩:=bx an;obtain⟨r0,a4,-⟩:=bx aq;have D:au<ag.1.size:=E_ an;have a2:w.1.size+1<ag.1.size:=E_ aq;have a1:w.1.size+1≠au:=by have:=aJ.o;omega
 go_wp2;have aG:=A_ ((aF.setCell (p:=⟨w.1.size+1,0,none⟩) (Nat.le_succ _) (.slice O ae Z)).setCell (p:=⟨w.1.size+1,1,none⟩) (Nat.le_succ _) (.slice S af aa))
 have aI:=A_ (aH.keep (w':=(ag.setCell ⟨w.1.size+1,0,none⟩ (.slice O ae Z)).setCell ⟨w.1.size+1,1,none⟩ (.slice S af aa)) (λb G=>by
  have ay:b≠w.1.size+1:=by have:=ak b G;omega
  exact(Below.heap_setCell _ _ _ b (by simpa using ay)).trans (Below.heap_setCell _ _ _ b (by simpa using ay))))
 refine bodyPost_ret (v:=.tuple #[.agg #[.slice O ae Z,.slice S af aa],.bool true]) (by simp[results,results52,go_sem, *]) rfl ?_;exact⟨_,_,rfl,aI,λb G=>by have:=ak b G;omega,aG.o⟩
theorem B4s (v:Value) (m:TMesh) (b:List Nat) (A:Option Addr) (n c:Nat) (L:List Int) (ah:List Nat) (R:List Bool) (xs ys ao ar:List Int) (w:World) (ad:Agg w v m b) (ak:Sl w A n c L ah) (ac:n<=48) (h:RefD m L R xs ys ao ar) :
  Calls prog 21 #[v,.slice A n c] w (D2c w (A2m m R)):=by
 have aC:=A_ ad;have aA:=A_ ak;have ab:=A_ h;obtain⟨aT,a3,aW,a5,aU,n1,aX,a6,rfl,rfl,aL,aM⟩:=TMesh.agg ad;clear aL aM ad ak h;go_enter func21,ntmps21;go_upto_region 1 with fail;refine Code.new2 λaV Y=>?_;have aa:=A_ Y.b;have aD:=A_ Y.k;have ag:=A_ Y.l;clear Y;obtain⟨aE,-,aN⟩:=bx aD;have af:=A_ (aC.below aa);have aB:=A_ (aA.below aa);refine W_ 7 kR kR kR kR kR ?_;simp only[List.take_succ_cons,List.take_zero,List.drop_succ_cons,List.drop_zero];iterate 3 refine C_ _ ?_
 refine D_ (MP.sl (A3d m.triangles L)) ?_ ?_;·intro T W S D h;obtain⟨aI,aK⟩:=F_ D;simp at h;refine G_ ?_;exact A1c (C6p _ m _ xs ys A n c L ah S (af.below D) (aB.below D) ac ab.1 ab.sd)
 refine D_ (MP.tupM (A2m m R)) ?_ ?_;·intro T W S D h;obtain⟨aI,aK⟩:=F_ D;simp at h;obtain⟨aZ,⟨⟨ax,aO,cD,aY,aH⟩,_⟩⟩:=h;refine G_ ?_;exact(C1c _ m _ ax aO cD L _ R xs ys ao ar S (af.below D) aH ab).mono λ_ _ ⟨u,s,he,X,ac,J⟩=>by obtain⟨E,K,H,aQ,G,O,I,aR,rfl,rfl,aF,aG⟩:=TMesh.agg X;exact⟨_,he,J,aQ++aR,⟨E,K,H,G,O,I,rfl,TMesh.mkAgg aF aG⟩,λb J=>⟨ac b J,X.lt b J⟩⟩
 refine A1d (λap=>MP.exM (ap 4)) (by intro y ap aj;simp[N_,M_]at aj;simp[aj]) ?_ ?_;·intro T W S D h;simp at h;obtain⟨E,K,H,G,O,I,ai,_⟩:=h;refine⟨gD,.agg #[.slice E K H,.slice G O I],S,?_,Below.refl _ _,[],⟨rfl,⟨E,K,H,G,O,I,rfl⟩,ai⟩,sI⟩;go_simp
 refine A2b (.bool true) ?_ ?_;·intro T W S D h;simp at h;obtain⟨E,K,H,G,O,I,ai,_⟩:=h;refine⟨gD,?_⟩;go_simp
 intro T W aS D h (aJ:Hid _);simp at h;have aP:=h.2.2.2.2.1;have an:=h.2.2.2.2.2.1;have Z:=h.2.2.2.2.2.2;obtain⟨⟨E,K,H,G,O,I,aq,X⟩,am⟩:=aP;have a7:T 5=.agg #[.slice E K H,.slice G O I]:=by have:=an.1.2.2;rw[aq]at this;simpa using this.symm
 have a8:T 6=.bool true:=by first|exact Z.1.1|exact Z.1|exact Z
 have ay:=A_ X;have ae:=A_ (show ∀ b∈W 4,w.1.size+1<b from λb J=>by have a1:=(am b J).1;have:=E_ ag;omega);have au:=A_ (Below.next aa D);have Q1:=A_ (K_ ag D);generalize W 4=z4 at *;clear h aJ X am an Z aq aE aN D;obtain⟨r0,a4,a2⟩:=bx Q1;go_wp2;have aw:=A_ ((au.setCell (p:=⟨w.1.size+1,0,none⟩) (Nat.le_succ _) (.slice E K H)).setCell (p:=⟨w.1.size+1,1,none⟩) (Nat.le_succ _) (.slice G O I))
 have az:=A_ (ay.keep (w':=(aS.setCell ⟨w.1.size+1,0,none⟩ (.slice E K H)).setCell ⟨w.1.size+1,1,none⟩ (.slice G O I)) (λb J=>by
  have al:b≠w.1.size+1:=by have:=ae b J;omega
  exact(Below.heap_setCell _ _ _ b (by simpa using al)).trans (Below.heap_setCell _ _ _ b (by simpa using al))))
 refine bodyPost_ret (v:=.tuple #[.agg #[.slice E K H,.slice G O I],.bool true]) (by simp[results,results21,go_sem, *]) rfl ?_;exact⟨_,_,rfl,az,λb J=>by have:=ae b J;omega,aw.o⟩
structure CopD (p:TProblem):Prop where
 ok:∀ q∈p.1.1,A1b q=true
 n:p.1.1.length<=144
 t:p.1.triangles.length<=1000
 d:p.2.length<=144/\∀ x∈p.2,B4q x
 s:p.3.length<=144/\∀ x∈p.3,B4q x
theorem C0h (v:Value) (p:TProblem) (b:List Nat) (w:World) (I:Agg w v p b) (h:CopD p) :
  Calls prog 54 #[v] w (E3z w p):=by
 have a2:=A_ I;have J:=A_ h;obtain⟨aZ,a8,a4,ba,a1,n1,a5,bc,aG,n2,aQ,bd,aH,aA,c3,be,rfl,rfl,ay,az,X,Y⟩:=TProblem.agg I;have aL:=A_ (TMesh.mkAgg (x:=p.1) ay az);have aK:=A_ X;have aM:=A_ Y;have aO:=A_ (by rw[<-X.1];exact h.d.1:n2<=144);have aP:=A_ (by rw[<-Y.1];exact h.s.1:aA<=144);clear ay az X Y I h;go_enter func54,ntmps54;go_upto_region 1 with fail;refine Code.new2 λa3 T=>?_;have S:=A_ T.b;have aN:=A_ T.k;have ah:=A_ T.l;clear T;obtain⟨aR,-,aT⟩:=bx aN;refine W_ 9 kR kR kR kR kR ?_;simp only[List.take_succ_cons,List.take_zero,List.drop_succ_cons,List.drop_zero];iterate 2 refine C_ _ ?_
 refine D_ (MP.aggV p.1) ?_ ?_;·intro Z H O D h;obtain⟨ar,au⟩:=F_ D;simp at h;refine G_ ?_;exact(C7a _ p.1 _ O ((aL.below S).below D) J.ok J.n J.t).mono λ_ _ ⟨u,s,he,K,hn,G⟩=>⟨u,he,G,s,K,λb G=>⟨hn b G,K.lt b G⟩⟩
 iterate 2 refine C_ _ ?_
 refine D_ (MP.sl p.2) ?_ ?_;·intro Z H O D h;obtain⟨ar,au⟩:=F_ D;simp at h;refine G_ ?_;exact A1c (A2l aG n2 aQ p.2 _ O ((aK.below S).below D) aO J.d.2)
 iterate 2 refine C_ _ ?_
 refine D_ (MP.sl p.3) ?_ ?_;·intro Z H O D h;obtain⟨ar,au⟩:=F_ D;simp at h;refine G_ ?_;exact A1c (A2l aH aA c3 p.3 _ O ((aM.below S).below D) aP J.s.2)
 intro Z H aY D h (aS:Hid _);simp at h;have q2:=h.2.2.1;have aU:=h.2.2.2.2.2.1;have aV:=h.2.2.2.2.2.2.2.2;obtain⟨K,W⟩:=q2;obtain⟨aa,aD,al,aW,ab,aE,am,aX,bf,aF,ap,aq⟩:=TMesh.agg K;obtain⟨⟨⟨ad,aB,aj,bg,an⟩,-⟩,aw⟩:=aU;obtain⟨⟨⟨ae,aC,ak,bh,ao⟩,-⟩,ax⟩:=aV;have af:=A_ (TProblem.mkAgg (x:=p) ap aq an ao)
 have ag:=A_ (show ∀ b∈aW++(aX++(H 5++H 8)),w.1.size+1<b from λb G=>by
  have a6:=E_ ah;rw[aF]at W;rcases List.mem_append.1 G with E|E
  ·have:=(W b (List.mem_append.2 (.inl E))).1;omega
  rcases List.mem_append.1 E with E|E;·have:=(W b (List.mem_append.2 (.inr E))).1;omega
  rcases List.mem_append.1 E with E|E;·have:=(aw b E).1;omega
  have:=(ax b E).1;omega)
 have ac:=A_ (Below.next S D);have Q1:=A_ (K_ ah D);generalize H 5=bi at *;generalize H 8=z8 at *;clear h aS K W aF ap aq an ao aw ax aR aT D;obtain⟨r0,a9,a7⟩:=bx Q1;go_wp2;have ai:=A_ (A1f (i:=3) (v0:=.slice ae aC ak) (A1f (i:=2) (v0:=.slice ad aB aj) (A1f (i:=1) (v0:=.slice ab aE am) (A1f (i:=0) (v0:=.slice aa aD al) (A3p aY (some (w.1.size+1)))))));have aI:=A_ (ac.grown ai ac.size (λx I=>by injection I with I;omega));have aJ:=A_ (af.keep (λb G=>ai.block b (af.lt b G) (by intro e;injection e with e;have:=ag b G;omega)));refine bodyPost_ret (v:=.agg #[.slice aa aD al,.slice ab aE am,.slice ad aB aj,.slice ae aC ak]) (by simp[results,results54,go_sem, *]) rfl ?_;exact⟨_,_,rfl,aJ,λb G=>by have:=ag b G;omega,aI.o⟩
def D8u:Option TRat->List TRat->List TRat
 |some r,x::_=>[A0k (U_ 0) (A0d r x)]
 |_,_=>[]
attribute [local simp] MP.aggS
def E3l (r s:TRat):Option TRat->Option TRat->Option TRat
 |some a,some b=>some (A0k (A0d r a) (A0d s b))
 |_,_=>none
structure HeatD (p:TProblem) (xs ys:List Int) (om os:Option TRat) (tau:TRat):Prop where
 pr:ProbI p xs ys
 md:MeshD p.1 xs ys
 hm:C0y p.1 (C3x p.1)=B7m om
 hs:C0y p.1 (A9s p)=B7m os
 nm:(A3f p.1 false).length=B6w om
 ns:B6w os=B6w om
 okm:Ok1 om
 oks:Ok1 os
 okc:Ok1 (E3l (U_ 1) tau om os)
 pos:∀ r,E3l (U_ 1) tau om os=some r->0<R_ r
 ld:(A6v p).any A2e=false
 ll:(A6v p).length=B6w om
 tok:J_ tau=true
 t1:A9m tau=1
structure HeatU (p:TProblem) (om os:Option TRat) (tau:TRat) (us:List TRat):Prop where
 len:us.length=p.1.1.length
 ok:us.all J_=true
 ap:(D8u om (D7i p.1 us)).any A2e=false
 rt:(E7n (D8u om (D7i p.1 us)) tau (A6v p)).all J_=true
 so:(A7r (E3l (U_ 1) tau om os) (E7n (D8u om (D7i p.1 us)) tau (A6v p))).all J_=true
def MP.aggW {α:Type} [Dat α] (x:α):MP:=⟨λv bs w=>Agg w v x bs,λ_ _ _ _ hb h=>h.below hb⟩
def MP.tupW {α:Type} [Dat α] (x:α):MP:=⟨λv bs w=>∃ u,v=.tuple #[u,.bool true]/\Agg w u x bs,λ_ _ _ _ hb ⟨u,e,h⟩=>⟨u,e,h.below hb⟩⟩
def MP.tupA (y:Value):MP:=⟨λv bs _=>bs=[]/\v=y/\∃ u,v=.tuple #[u,.bool true],λ_ _ _ _ _ h=>h⟩
def MP.tup1 (y:Value):MP:=⟨λv bs _=>bs=[]/\y=.tuple #[v,.bool true],λ_ _ _ _ _ h=>h⟩
attribute [local simp] MP.aggW MP.tupW MP.tupA MP.tup1

end Go.Proofs.YtbhemnidcleaiaaGreat.X
