/- A part of the proof. -/
import Derived.Test.YtjcanieccnljfaaGreatY30
import Derived.Test.YtjcanieccnljfaaGreatY31
set_option linter.constructorNameAsVariable false
set_option maxHeartbeats 16000000
set_option maxRecDepth 10000
open Go.Value renaming bool→J,slice→S
open Go.XB.Below renaming box→BP,next→BH
open Go.XB.TProblem renaming agg→IF
open Option renaming none→I,some→QZ
namespace Go.Proofs.YtjcanieccnljfaaGreat.X
open Go.RowKit Go.XB Go.XN Proofs.Tryz
def upL (n:Nat):List Int:=(List.range n).map (λi:Nat=>(i:Int))
theorem E7m (k:Nat):upL (k+1)=upL k++[(k:Int)]:=by unfold upL;rw[List.range_succ];simp
def A1z (p:TProblem) (R:List Bool):TProblem:=⟨A2m p.1 R,p.2,p.3⟩
structure HfD (p:TProblem) (R:List Bool) (xs ys xs' ys':List Int):Prop where
 pr:ProbI p xs ys
 ref:RefD p.1 (upL p.1.triangles.length) R xs ys xs' ys'
 cop:CopD (A1z p R)
 t48:p.1.triangles.length<=48
structure ImpD (p:TProblem) (R:List Bool) (xs ys xs' ys':List Int):Prop where
 hf:HfD p R xs ys xs' ys'
 sp:SolD p xs ys
 sq:SolD (A1z p R) xs' ys'
 lp:LinD p (A8r p)
 lq:LinD (A1z p R) (A8r (A1z p R))
 ok:J_ (A3t (enL (A1z p R) (A8r (A1z p R))) (enL p (A8r p)))=true
attribute [local go_sem] L_ Go.XB.opAt N_ M_ Region.wanted yielded
attribute [local simp] N_ M_ MP.eq MP.agg MP.aggS MP.sl MP.slbox MP.box A0r
theorem C1p (v:Value) (p:TProblem) (b:List Nat) (R:List Bool) (xs ys aH aK:List Int) (w:World) (am:Agg w v p b) (ah:HfD p R xs ys aH aK) :
  Calls prog 39 #[v] w (D3p w (A1z p R)):=by
 have a8:=A_ am;have ac:=A_ ah;obtain⟨aL,bJ,bo,bZ,aM,n1,bp,b0,aN,n2,bq,b3,aO,bK,c3,b4,rfl,rfl,aB,Z,aC,aD⟩:=IF am;have a2:=A_ (TMesh.mkAgg (x:=p.1) aB Z);have aY:=A_ aC;have aZ:=A_ aD;have bF:n1<=48:=by rw[<-Z.1];exact ah.t48
 have bX:(n1:Int)<=48:=oS;have a3:=A_ Z.1;clear aB Z aC aD am ah;go_enter func39,ntmps39;go_upto_region 1 with fail;refine Code.new2 λbl h=>?_;have ao:=A_ h.b;have ar:=A_ h.k;have R0:=A_ h.l;clear h;obtain⟨G,H,E⟩:=bx ar;go_wp2_with fail;refine(B5t _ p _ xs ys bl (a8.below ao) ac.pr).mono ?_;rintro _ bO ⟨rfl,W⟩;have aP:=A_ (BH ao W);have ba:=A_ (A0z ar W);have R1:=A_ (A0z R0 W);clear W G H E;go_upto_region 4 with fail;obtain⟨T,Y⟩:∃ g,bO.1.size=g:=⟨_,rfl⟩
 refine Code.new λbP h=>?_;have an:=A_ (BH aP h.b);have ad:=A_ (A0z ba h.b);have R2:=A_ (A0z R1 h.b);have ap:=A_ (show GrowB (α:=Int) 3 bP (S (QZ ⟨T,0,I⟩) 0 0) 0 [] [T]from⟨[],[],⟨sI,.inr ⟨T,0,#[],rfl,Nat.zero_le _,Y ▸ h.o.k,Nat.le_refl _,Nat.zero_le _,rfl,rfl⟩⟩,Filled.nil _ _,rfl,λg _=>sI,rfl⟩);have bm:=A_ (by rw[<-Y];exact E_ R1:w.1.size+1<T);rw[Y];clear h Y;obtain⟨G,H,E⟩:=bx ad;go_wp2_with fail;go_loopg [4,18] n1 (λg sA s wr=>∃ (k gO O:Nat) (ag:List Nat),k+g=n1/\s=.int .i64 k/\sA=S (QZ ⟨gO,0,I⟩) k O/\Hid (Bw w wr)/\Hid (wr.1[w.1.size]?=QZ (.cells #[S aL bJ bo,S aM n1 bp,S aN n2 bq,S aO bK c3] 29))/\Hid (wr.1[w.1.size+1]?=QZ (.cells #[S I 0 0,S I 0 0,S I 0 0,S I 0 0] 29))/\Hid (GrowB 3 wr (S (QZ ⟨gO,0,I⟩) k O) k (upL k) ag)/\Hid (∀ b∈ag,w.1.size+1<b));case atStart=>exact⟨0,T,0,_,oS,sI,sI,an.o,ad.o,R2.o,ap.o,A_ (λb hb=>by simp at hb;have:=bm.o;omega)⟩
 case round =>
  clear an ad R2 ap G H E;obtain⟨k,gO,O,ag,az,rfl,rfl,B,K,af,ab,au⟩:=hrel;rename World=>wr;rcases Nat.lt_or_ge k n1 with al|al
  ·have bE:(k:Int)<n1:=oS
   obtain⟨g,rfl⟩:∃ g,gk=g+1:=⟨gk - 1,oS⟩
   have bD:=A_ (by omega:k+1+g=n1);have aT:=A_ (by unfold maxLen;omega:k+1<=maxLen/\(k+1)*8<=140737488355328);have bf:=A_ (by unfold I64;omega:I64 (k:Int));clear az al;go_wp2_with (at_builtin;refine A9t rfl rfl underlying35 A6b ab (BP _) (A0a (heap_alloc_new _ _)) (pt:=(k:Int)) (zb:=[]) ⟨rfl,rfl,bf⟩ (λb hb=>by cases hb) aT ?_;intro g8 br cd ax bH ak bB);have ae:=A_ (show ∀ g,(S (QZ ⟨gO,0,I⟩) k O).ownBlock=QZ g->w.1.size+1<g from λg D=>au g (ab.own g D))
   have bg:=A_ (show ∀ b∈ax,w.1.size+1<b from λb hb=>by
    rcases bB b hb with u|u|u;·exact au b u
    ·cases u
    have:=E_ af;rw[World.size_alloc]at u;omega)
   have aS:=A_ (A5d (BH B (BP _)) ak (by have:=B.size;simp;omega) (λg D=>by have:=ae.o g D;omega));have be:=A_ (A6d (A0z K (BP _)) ak (λg D=>by have:=ae g D;omega));have bk:=A_ (A6d (A0z af (BP _)) ak (λg D=>by have:=ae g D;omega));go_roundg g;case measure=>omega
   case rel =>refine⟨k+1,g8,br,ax,bD,gN,rfl,aS,be,bk,?_,bg⟩;show GrowB _ _ _ _ _ _;rw[E7m];exact bH
  obtain rfl:k=n1:=oS;have bE:¬ ((k:Int)<k):=oS;obtain⟨bR,bU,bn,bI,aE,bA⟩:=ab.sl;injection bI with hv1 hv2 hv3;subst hv1;subst hv3;have a5:=A_ aE;obtain⟨G,H,E⟩:=bx K;have aq:=A_ ac.ref;rw[a3.o]at aq;clear az al aE bA;go_wp2_with fail;refine(C5h _ p.1 _ _ k O (upL k) bn R xs ys aH aK wr (a2.below B) a5 bF aq).mono ?_;rintro _ cb ⟨b9,b5,rfl,ay,bG,X⟩;obtain⟨bS,bY,bV,b7,bT,m1,bW,b8,rfl,rfl,aF,aG⟩:=TMesh.agg ay;have a6:=A_ aF;have a7:=A_ aG;have aQ:=A_ (BH B X);have bc:=A_ (A0z K X);have bi:=A_ (A0z af X);clear ay bG aF aG X G H E;go_upto_region 10 with fail;refine Code.new λbQ h=>?_;have aa:=A_ (BH aQ h.b);have a9:=A_ h.k;have bd:=A_ (A0z bc h.b);have aw:=A_ (A0z bi h.b);have a4:=A_ (TProblem.mkAgg (x:=A1z p R) (a6.below h.b) (a7.below h.b) (aY.below aa) (aZ.below aa));clear h;obtain⟨G,H,E⟩:=bx bd;obtain⟨aI,aJ,l1⟩:=bx a9;go_wp2_with fail;refine(C0h _ (A1z p R) _ bQ a4 ac.cop).mono ?_;rintro _ cc ⟨ca,b6,rfl,ai,aA,aj⟩;obtain⟨aU,bL,bt,u0,aV,q1,bu,u1,aW,q2,bv,u2,aX,bM,bz,bN,rfl,rfl,-,-,-,-⟩:=IF ai;have a1:=A_ ai;have aR:=A_ (BH aa aj);have bj:=A_ (A0z aw aj);have bh:=A_ (show ∀ b∈u0++(u1++(u2++bN)),b≠w.1.size+1 from λb hb=>by have:=aA b hb;have:=E_ aw;omega);clear ai aA aj G H E aI aJ l1;obtain⟨aI,aJ,l1⟩:=bx bj;go_wp2;refine bodyPost_ret (v:=.tuple #[.agg #[S aU bL bt,S aV q1 bu,S aW q2 bv,S aX bM bz],J true]) (by simp[results,results39,go_sem, *]) rfl ?_;exact⟨_,_,rfl,a1.o.keepG (A5y (A5y (A5y (A5y (B3a _ _))))) (λu=>bh.o _ u rfl),(((aR.o.setCell (p:=⟨w.1.size+1,0,I⟩) sI _).setCell (p:=⟨w.1.size+1,1,I⟩) sI _).setCell (p:=⟨w.1.size+1,2,I⟩) sI _).setCell (p:=⟨w.1.size+1,3,I⟩) sI _⟩
theorem C0d (v:Value) (p:TProblem) (b:List Nat) (R:List Bool) (xs ys au aw:List Int) (w:World) (ar:Agg w v p b) (aQ:ImpD p R xs ys au aw) :
  Calls prog 11 #[v] w (D3p w (A3t (enL (A1z p R) (A8r (A1z p R))) (enL p (A8r p)))):=by
 have ak:=A_ ar;have X:=A_ aQ;obtain⟨bQ,cg,bY,ci,bR,n1,bZ,cj,bS,n2,b0,ck,bT,ch,c3,cm,rfl,rfl,br,bt,bu,bv⟩:=IF ar;clear br bt bu bv ar aQ;go_enter func11,ntmps11;go_upto_region 1 with fail;refine Code.new2 λbj D=>?_;have aB:=A_ D.b;have aM:=A_ D.k;have R0:=A_ D.l;clear D;obtain⟨T,W,O⟩:=bx aM;go_wp2_with fail;refine(C1p _ p _ R xs ys au aw bj (ak.below aB) X.hf).mono ?_;rintro _ bL ⟨v1,ct,rfl,am,ag⟩;obtain⟨bU,cd,b3,cn,bV,m1,b4,co,bW,m2,b5,cp,bX,ce,b6,cq,rfl,rfl,-,-,-,-⟩:=IF am;have aH:=A_ am;have aZ:=A_ (BH aB ag);have bc:=A_ (A0z aM ag);have R1:=A_ (A0z R0 ag);clear am ag T W O;go_upto_region 2 with fail;obtain⟨cc,aT⟩:∃ g,bL.1.size=g:=⟨_,rfl⟩
 refine Code.new λbM D=>?_;have ay:=A_ (BH aZ D.b);have aK:=A_ D.k;have aN:=A_ (A0z bc D.b);have R2:=A_ (A0z R1 D.b);have aI:=A_ (aH.below D.b);rw[aT]at aK ⊢;clear D aT aH;obtain⟨T,W,O⟩:=bx aN;go_wp2_with fail;refine(B9m _ p _ xs ys bM (ak.below ay) X.sp).mono ?_;rintro _ w3 ⟨U,bD,bm,bJ,rfl,aR,-,Y⟩;have aJ:=A_ aR;have a1:=A_ (BH ay Y);have aL:=A_ (A0z aK Y);have bd:=A_ (A0z aN Y);have bh:=A_ (A0z R2 Y);have aj:=A_ (aI.below Y);clear aR Y T W O aI;obtain⟨Z,aa,l1⟩:=bx aL;go_wp2_with fail;refine(B9m _ (A1z p R) _ au aw w3 aj X.sq).mono ?_;rintro _ bN ⟨V,bE,bn,bK,rfl,aS,-,H⟩;have a8:=A_ aS;have a7:=A_ (aJ.below H);have az:=A_ (BH a1 H);have a9:=A_ (A0z aL H);have be:=A_ (A0z bd H);have aO:=A_ (A0z bh H);have a6:=A_ (aj.below H);clear aS H Z aa l1 aj aJ;obtain⟨T,W,O⟩:=bx be;obtain⟨Z,aa,l1⟩:=bx a9;go_wp2_with fail;refine X_ sI ?_;dsimp only[List.dropLast,List.getLast,List.length];iterate 2 refine C_ _ ?_
 refine D_ (MP.agg (enL (A1z p R) (A8r (A1z p R)))) ?_ ?_;·intro ab E G h u;obtain⟨ao,ap⟩:=F_ h;simp at u;refine G_ ?_;exact H_ (F4j _ (A1z p R) _ V bE bn (A8r (A1z p R)) bK G (a6.below h) (a8.below h) X.lq)
 iterate 2 refine C_ _ ?_
 refine D_ (MP.agg (enL p (A8r p))) ?_ ?_;·intro ab E G h u;obtain⟨ao,ap⟩:=F_ h;simp at u;refine G_ ?_;exact H_ (F4j _ p _ U bD bm (A8r p) bJ G (ak.below (BH az h)) (a7.below h) X.lp)
 refine D_ (MP.agg (A3t (enL (A1z p R) (A8r (A1z p R))) (enL p (A8r p)))) ?_ ?_;·intro ab E G h u;obtain⟨ao,ap⟩:=F_ h;simp at u;refine G_ ?_;obtain⟨aX,aY⟩:=u;exact H_ (A5b _ _ _ _ _ _ G (by first|exact aX.1|exact aX) (by first|exact aY.1|exact aY))
 refine A1p #[J false,S I 0 0,S I 0 0] 39 ?_ ?_;·intro ab E G h u;refine⟨gD,?_⟩;go_simp
 intro ab E wa h u (ah:Hid _);simp at u;have bH:=u.2.2.2.2.2.2.1;have bI:=u.2.2.2.2.2.2.2;obtain⟨⟨ad,-⟩,aU⟩:=bH;obtain⟨ac,af⟩:∃ ac,A3t (enL (A1z p R) (A8r (A1z p R))) (enL p (A8r p))=ac:=⟨_,rfl⟩
 have bg:=A_ (by rw[<-af];exact X.ok:J_ ac=true);rw[af]at ad;have a4:=A_ af;obtain⟨Q1,bA,bk,ca,Q2,bB,bl,cb,bo,bO,-,-⟩:=TRat.agg ad;rw[bo]at ad;obtain⟨⟨al,b9,ax,aq⟩,aV⟩:=bI;have aC:al∉E 6:=λan=>by have:=ah 6 7 dE dE dE _ an;rw[ax]at this;simp at this
 have bq:bN.1.size<=al:=(aV al (by rw[ax];simp)).1;have bf:=A_ (show ∀ b∈E 6,b≠w.1.size+1 from λb an=>by have:=(aU b an).1;have:=E_ aO;omega);have aD:=A_ ad;have aG:=A_ aq;have aF:=A_ aC;have ai:=A_ h;obtain⟨bF,bG,bz⟩:=bx aq;generalize E 6=bP at *;clear u ah ad aU bO aq aV ax aC h T W O Z aa l1 af;go_upto_region 7 with fail;refine Code.set3 aG λcs ae=>?_;have aA:=A_ (ae.low ai ai.size bq);have aE:=A_ (aD.keepG ae.gr aF);have ba:=A_ ae.k;have a2:=A_ (BH az aA);have aP:=A_ (A0z aO aA);clear ae aD aG aF ai bF bG bz;obtain⟨T,W,O⟩:=bx ba;obtain⟨Z,aa,l1⟩:=bx aP;refine W_ 3 kR kR kR kR kR ?_;simp only[List.take_succ_cons,List.take_zero,List.drop_succ_cons,List.drop_zero];iterate 2 refine C_ _ ?_
 refine D_ (MP.eq (J true)) ?_ ?_;·intro ab E G h u;obtain⟨ao,ap⟩:=F_ h;simp at u;refine G_ ?_;have C:=A2p _ ac _ G (aE.below h);rw[C6v bg.o]at C;exact A0i C
 intro ab E wb h u (ah:Hid _);simp at u;obtain⟨aW,_,q2⟩:=u;have b7:=aW.1.1;have b8:=q2.1.1;have a3:=A_ (BH a2 h);have bi:=A_ (A0z aP h);have a5:=A_ (aE.below h);clear ah aW q2 h T W O Z aa l1;obtain⟨Z,aa,l1⟩:=bx bi;go_wp2;refine bodyPost_ret (v:=.tuple #[.agg #[J ac.1.1,S Q1 bA bk,S Q2 bB bl],J true]) (by simp[results,results11,go_sem, *]) rfl ?_;rw[a4.o];exact⟨_,bP,rfl,a5.o.keepG (A5y (A5y (A5y (B3a _ _)))) (λbp=>bf.o _ bp rfl),((a3.o.setCell (p:=⟨w.1.size+1,0,I⟩) sI _).setCell (p:=⟨w.1.size+1,1,I⟩) sI _).setCell (p:=⟨w.1.size+1,2,I⟩) sI _⟩
end Go.Proofs.YtjcanieccnljfaaGreat.X
