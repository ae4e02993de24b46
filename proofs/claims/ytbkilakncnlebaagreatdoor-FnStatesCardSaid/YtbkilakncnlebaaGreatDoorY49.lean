/- A part of the proof. -/
import Derived.Test.YtbkilakncnlebaaGreatDoorY48
import Derived.Test.YtbkilakncnlebaaGreatDoorY26
set_option linter.constructorNameAsVariable false
set_option maxHeartbeats 16000000
set_option maxRecDepth 10000
open Go renaming Value→AJ,World→QT,bodyPost_ret→BI,heap_alloc_new→CF,maxLen→BG,results→BO
open Go.Code renaming new→DH
open Go.IntKind renaming i64→K
open Go.Obj renaming cells→AK
open Go.Value renaming bool→AC,int→QS,slice→QH
open Go.XB.Below renaming box→AV,next→AI
open List renaming all_eq_true→BJ,append_assoc→DM,getElem?_append_left→IV,getElem?_append_right→JO,getElem?_eq_getElem→CV,getElem?_map→IE,mem_append→CO,mem_of_getElem?→CH,take_zero→ET
open Nat renaming le_refl→BH,le_trans→BM,lt_or_ge→BN
open Option renaming none→I,some→QL
namespace Go.Proofs.YtbkilakncnlebaaGreatDoor.X
open Go.RowKit Go.XB Go.XN Proofs.Tryz
attribute [local go_sem] L_ Go.XB.opAt N_ M_ Region.wanted yielded B9n
attribute [local simp] N_ M_ MP.eq MP.agg MP.sl A0r
section
theorem D4v {t:TTri} (h:F2t t):I64 t.a/\I64 t.b/\I64 t.c/\I64 t.4/\I64 t.5:=by
 have f:∀ x∈C2g t,I64 x:=λx b=>by have:=h x b;unfold I64;omega
 exact⟨f _ (by simp[C2g]),f _ (by simp[C2g]),f _ (by simp[C2g]),f _ (by simp[C2g]),f _ (by simp[C2g])⟩
theorem C3s {α:Type} [Dat α] {w u W:QT} {g:Nat} {v:AJ} {x:α} {bs:List Nat} (ha:Agg u v x bs) (hr:∀ b∈bs,w.1.size<=b/\b≠g) (hb:Bw w u) (hg:w.1.size<=g) (h:u.grownBy W (QL g)):D2c w x (.returned (.tuple #[v,AC true])) W :=
 ⟨v,bs,rfl,ha.keepG h (λh=>(hr g h).2 rfl),λb hb=>(hr b hb).1,hb.grown h hb.size (λx hx=>by injection hx with hx;omega)⟩
def PhA (m:TMesh) (lo:Nat) (wr:QT) (i:Nat) (vP vT:AJ):Prop:=i<=m.1.length/\vT=QH I 0 0/\Grow lo 118 wr vP i (m.1.take i)
def PhB (m:TMesh) (lo:Nat) (wr:QT) (i:Nat) (vP vT:AJ):Prop :=
 m.1.length<=i/\(∃ A c bs,vP=QH A m.1.length c/\Sl wr A m.1.length c m.1 bs/\(∀ b∈bs,lo<=b)/\∀ g,vT.ownBlock=QL g->g∉bs)/\Grow lo 122 wr vT (i - m.1.length) (m.triangles.take (i - m.1.length))
section
variable {m:TMesh} {lo i:Nat} {wr wa:QT} {vP vT:AJ}
theorem PhA.toB (h:PhA m lo wr i vP vT) (hi:m.1.length<=i):PhB m lo wr i vP vT:=by
 obtain⟨O,rfl,D⟩:=h;obtain rfl:i=m.1.length:=oS;obtain⟨A,c,u,H,b,G⟩:=D.sl;rw[List.take_length]at b;refine⟨BH _,⟨A,c,u,H,b,G,λg E=>by cases E⟩,?_⟩;rw[Nat.sub_self,ET];exact Grow.nil _ _ _
theorem PhA.below (h:PhA m lo wr i vP vT) (hb:Bw wr wa):PhA m lo wa i vP vT:=⟨h.1,h.2.1,h.2.2.below hb⟩
theorem PhA.sl (h:PhA m lo wr i vP vT):(∃ A c,vP=QH A i c)/\vT=QH I 0 0:=by
 obtain⟨A,c,u,b,_⟩:=h.2.2.sl;exact⟨⟨A,c,b⟩,h.2.1⟩
end
theorem E4b (m:TMesh) (xs ys:List Int) (hi:MeshI m xs ys) (b0:∀ p∈m.1,A1b p=true) (aa:D7x m) (bW:0<m.1.length) (w:QT) (ap:TxOk w) :
  Calls prog 57 #[.string ⟨(B9a m).toArray⟩] w (D2c w m):=by
 have aq:=A_ ap;have bM:=A_ aa;have bO:=A_ b0;have ck:=A_ hi;obtain⟨bA,aY⟩:=B4s aa;have cy:=C1i bA (by have:=aa.1;have:=aa.2.1;omega);have cz:(B9a m).isEmpty=false:=by
  unfold B9a A5k;cases e:m.1 with
  |nil=>rw[e]at bW;cases bW
  |cons p r=>simp[A1z]
 have a9:=A_ bA;have cm:=A_ aY;have cN:m.1.length<=40:=aa.1;have cP:m.triangles.length<=48:=aa.2.1;clear ap aa b0 hi bA;obtain⟨S,aT⟩:∃ S,B9a m=S:=⟨_,rfl⟩
 have bc:=A_ aT;rw[aT]at cz ⊢;rw[show A1z (A5k m)=S from aT]at cy;obtain⟨N,bs⟩:∃ N,(A5k m).length=N:=⟨_,rfl⟩
 rw[bs]at aY;have aP:=A_ bs;have ba:=A_ aY;have cK:(N:Int)<=88:=oS;clear aT bs aY cm;go_enter func57,ntmps57;go_upto_region 2 with fail;refine Code.new2 λaR Y=>?_;have a5:=A_ Y.b;have bQ:=A_ Y.k;have aQ:=A_ Y.l;clear Y;obtain⟨ae,bY⟩:∃ ae,w.1.size+1=ae:=⟨_,rfl⟩
 rw[bY]at aQ ⊢;go_wp2_with fail;have C:=C2h (A5k m) a9.o.1 (by rw[show A1z (A5k m)=S from bc.o];omega) (by have:=aP.o;omega) aR (aq.o.below a5.o).m;rw[show A1z (A5k m)=S from bc.o,aP.o]at C;refine C.mono ?_;clear C;rintro _ b7 ⟨rfl,bD,aU⟩;have bm:=A_ bD;have bE:=A_ (AI a5 aU);have ar:=A_ (A0z bQ aU);have ak:=A_ (A0z aQ aU);have Z:=A_ (show w.1.size<ae/\ae<aR.1.size/\aR.1.size<b7.1.size from⟨oS,E_ aQ.o,E_ bD⟩);obtain⟨aH,ax⟩:∃ g,aR.1.size=g:=⟨_,rfl⟩
 rw[ax]at bm Z ⊢;clear bD aU bQ aQ ax bY;obtain⟨lo,bB⟩:∃ l,b7.1.size=l:=⟨_,rfl⟩
 rw[bB]at Z;have bT:=A_ bB;clear bB;go_wp2_with fail;go_loopg [15] N (λg x wr=>∃ (i:Nat) (vP vT:AJ),i+g=N/\x=QS K i/\Hid (Bw w wr)/\Hid (lo<=wr.1.size)/\Hid (wr.1[w.1.size]?=QL (AK #[QH I 0 0,QH I 0 0] 26))/\Hid (wr.1[ae]?=QL (AK #[vP,vT] 26))/\Hid (StrRow wr aH (A5k m++[[]]))/\Hid (PhA m lo wr i vP vT\/PhB m lo wr i vP vT));case atStart=>exact⟨0,_,_,oS,rfl,bE.o,Nat.le_of_eq bT.o.symm,ar.o,ak.o,bm.o,.inl ⟨Nat.zero_le _,rfl,by rw[ET];exact Grow.nil _ _ _⟩⟩
 case round =>
  clear bE ar ak bm a5 bT;obtain⟨i,vP,vT,bv,rfl,B,bR,ar,ak,R,au⟩:=hrel;rcases BN i N with aX|aX
  ·have cw:(i:Int)<N:=oS
   obtain⟨g,rfl⟩:∃ g,gk=g+1:=⟨gk - 1,oS⟩
   have bK:=A_ bv;clear bv;rcases BN i m.1.length with aK|aK
   ·have bS:=A_ (au.resolve_right (λG=>by have:=G.1;omega))
    obtain⟨⟨A,c,rfl⟩,rfl⟩:=bS.sl;obtain⟨p,a2⟩:∃ p,m.1[i]?=QL p:=⟨m.1[i],CV aK⟩
    have ai:=E1c a2;have bi:=A_ (take_step a2);have co:=A_ (bO p (CH a2));have bt:=R.o.cell (j:=i) (l:=A6d (ptW p)) (by rw[IV (by rw[aP.o];exact aX)];exact ai);have ax:=E_ R;have cL:(i:Int)+1<=40:=oS;have a8:=A_ (by unfold BG;omega:i+1<=BG/\(i+1)*112<=140737488355328);have bd:=A_ (a9.2 _ (CH ai));clear a2 ai au;go_wp2_with fail;have C:=C8e (A6d (ptW p)) 32 (by have:=bd.o;omega) wr (aq.o.below B.o).m;rw[C4x (F7w p) (by simp[ptW]),show(ptW p).length=2 from rfl]at C;refine C.mono ?_;clear C;rintro _ aO ⟨rfl,ab,h⟩;have ac:=A_ (AI B h);have aA:=A_ (A0z ar h);have aB:=A_ (A0z ak h);have bn:=A_ (R.below h);have P2:=A_ (bS.below h);have aE:=A_ (BM bR h.size);have aN:=ab.cell (j:=0) (l:=[112]) rfl;have q1:=ab.cell (j:=1) (l:=C7m p) rfl;have H:=E_ ab;have aS:=A_ ab;obtain⟨bq,aJ⟩:∃ g,wr.1.size=g:=⟨_,rfl⟩
    rw[aJ]at aN q1 H aS ⊢;clear ab h bt ax aJ;go_upto_region 9 with fail;refine DH λw3 Y=>?_;have ad:=A_ Y.b;have ag:=A_ Y.k;have a6:=A_ (AI ac ad);have cJ:=(ad.cell (p:=⟨bq,1,I⟩) H).trans q1;have aW:=Nat.lt_of_lt_of_le H ad.size;obtain⟨gB,bu⟩:∃ g,aO.1.size=g:=⟨_,rfl⟩
    clear Y aN q1 H;rw[bu]at ag ⊢;go_wp2_with fail;refine(E3n p co w3 (aq.below a6)).mono ?_;rintro _ cI ⟨cR,cQ,rfl,br,b6,an⟩;obtain⟨cb,n1,cs,cE,cc,n2,ct,cF,cd,cB,cu,cG,ce,cD,cv,cH,rfl,rfl,-,-,-,-⟩:=TPoint.agg br;have bH:=A_ br;have aj:=A_ (A0z ag an);have aF:=A_ (AI ad an);have bP:=A_ (show ∀ b∈cE++(cF++(cG++cH)),aO.1.size<=b/\b≠gB from λb hb=>by have:=(b6.2 b hb).1;have:=E_ ag;have:=ad.size;constructor<;>omega);clear br b6 an cJ aW ag;obtain⟨T,W,O⟩:=bx aj;go_upto_region 10 with fail;refine Code.set6 aj λa4 ah=>?_;have u:=A_ (ah.o.low aF.o aF.o.size oS);have be:=A_ ah.k;have cf:=A_ (bH.keepG ah.gr (λG=>(bP _ G).2 rfl));have bf:=A_ (A0z aA u);have aC:=A_ (A0z aB u);have bo:=A_ (bn.below u);clear ah T W O aj bH;obtain⟨T,W,O⟩:=bx aC;obtain⟨b9,ca,l1⟩:=bx be;have E:=A_ (by have:=Z.o;have:=aE.o;have:=u.size;simp;omega:w.1.size<lo/\ae<lo/\aH<lo/\lo<=(a4.alloc (AK #[AC p.x.1.1,QH cb n1 cs,QH cc n2 ct,AC p.y.1.1,QH cd cB cu,QH ce cD cv] 118)).1.size);go_upto_region 15 with(at_builtin;refine D5t rfl rfl underlying23 D1n P2.2.2 (u.alloc u.size _) aE (A0a (CF _ _)) (D5g (cf.below (AV _))) (λb hb=>(bP b hb).1) a8 ?_;intro g' aw b8 aL ay a1;have X:=A_ ((P2.2.2.keeps ay E.2.2.2));have al:=A_ (C7b (A0z aC (AV _)) X E.2.1);clear T W O;obtain⟨T,W,O⟩:=bx al)
    refine Code.set1 al λaf D=>?_;have az:=A_ ((((AI ac u).alloc (AI ac u).size _).trans (X.mono (Nat.le_of_lt E.1))));have aD:=A_ (show af.1[ae]?=QL (AK #[QH (QL ⟨g',0,I⟩) (i+1) aw,QH I 0 0] 26)from D.k);have bg:=A_ (B8b (C7b (A0z bf (AV _)) X E.1) D.gr (by have:=Z.o;omega));have bp:=A_ (show StrRow af aH (A5k m++[[]])from B8b (C7b (A0z bo (AV _)) X E.2.2.1) D.gr (by have:=Z.o;omega));have a7:=A_ (D.low az az.size (by have:=Z.o;omega));have ao:=aL.grown D.gr E.2.1;rw[<-bi.o]at ao;have bj:=A_ (show PhA m lo af (i+1) (QH (QL ⟨g',0,I⟩) (i+1) aw) (QH I 0 0)from⟨aK,rfl,ao⟩);have bh:=A_ (show lo<=af.1.size from BM (BM E.2.2.2 X.size) D.gr.size);clear D ao T W O a1 ay aL X al;obtain⟨T,W,O⟩:=bx aD;go_wp2_with fail;go_roundg g;case measure=>omega
    case rel=>exact⟨i+1,_,_,by have:=bK.o;omega,gN,a7.o,bh.o,bg.o,aD.o,bp.o,.inl bj.o⟩
   have bl:=au.elim (λG=>G.toB aK) id;obtain⟨j,bz⟩:∃ j,i=m.1.length+j:=⟨i - m.1.length,oS⟩
   obtain⟨-,⟨A,c,aG,rfl,aM,aI,aZ⟩,H⟩:=bl;rw[show i - m.1.length=j by omega]at H;obtain⟨bF,d,bV,rfl,-,-⟩:=H.sl;have cn:=A_ aM;have bJ:=A_ aI;have bN:=A_ aZ;have cj:=A_ H;have cx:j<m.triangles.length:=by have:=ba.o;omega
   obtain⟨t,ap⟩:∃ t,m.triangles[j]?=QL t:=⟨m.triangles[j],CV cx⟩
   have ai:=D9d ap;rw[<-bz]at ai;have bL:=A_ bz;have bi:=A_ (take_step ap);have am:=A_ (bM.2.2 t (CH ap));have bt:=R.o.cell (j:=i) (l:=A6d (D1d t)) (by rw[IV (by rw[aP.o];exact aX)];exact ai);have ax:=E_ R;have cM:(j:Int)+1<=48:=oS;have cO:(m.1.length:Int)<=40:=oS;have a8:=A_ (by unfold BG;omega:j+1<=BG/\(j+1)*40<=140737488355328);have bd:=A_ (a9.2 _ (CH ai));clear ap ai au aM aI aZ H bz aK;go_wp2_with fail;have C:=C8e (A6d (D1d t)) 32 (by have:=bd.o;omega) wr (aq.o.below B.o).m;rw[C4x (F5i am.o dE) (by simp[D1d]),show(D1d t).length=6 from rfl]at C;refine C.mono ?_;clear C;rintro _ aO ⟨rfl,ab,h⟩;have ac:=A_ (AI B h);have aA:=A_ (A0z ar h);have aB:=A_ (A0z ak h);have bn:=A_ (R.below h);have bG:=A_ (cj.below h);have cp:=A_ (cn.below h);have aE:=A_ (BM bR h.size);have aN:=ab.cell (j:=0) (l:=[116]) rfl;have H:=E_ ab;have aS:=A_ ab;obtain⟨bq,aJ⟩:∃ g,wr.1.size=g:=⟨_,rfl⟩
   rw[aJ]at aN H aS ⊢;clear ab h bt ax aJ;go_upto_region 13 with fail;refine DH λw3 Y=>?_;have ad:=A_ Y.b;have ag:=A_ Y.k;have a6:=A_ (AI ac ad);have bU:=A_ (aS.below ad);have aW:=E_ bU;obtain⟨gB,bu⟩:∃ g,aO.1.size=g:=⟨_,rfl⟩
   clear Y aN H;rw[bu]at ag ⊢;go_wp2_with fail;refine(F3i t am.o bq 1 5 w3 (λk x cA=>bU.o.cell (j:=1+k) (by rw[Nat.add_comm];show(D1d t)[k+1]?=_;unfold D1d;rw[List.getElem?_cons_succ,IE,cA];rfl)) aW dE (aq.below a6).t).mono ?_;rintro _ cI ⟨rfl,an⟩;have aj:=A_ (A0z ag an);have aF:=A_ (AI ad an);clear an aW ag;obtain⟨T,W,O⟩:=bx aj;go_upto_region 14 with fail;refine Code.set5 aj λa4 ah=>?_;have u:=A_ (ah.o.low aF.o aF.o.size oS);have be:=A_ ah.k;have bf:=A_ (A0z aA u);have aC:=A_ (A0z aB u);have bo:=A_ (bn.below u);have cq:=A_ (cp.below u);have ch:=A_ (TTri.mkAgg (w:=a4.alloc (AK #[QS K t.a,QS K t.b,QS K t.c,QS K t.4,QS K t.5] 122)) (x:=t) (D4v am).1 (D4v am).2.1 (D4v am).2.2.1 (D4v am).2.2.2.1 (D4v am).2.2.2.2);clear ah T W O aj;obtain⟨T,W,O⟩:=bx aC;obtain⟨b9,ca,l1⟩:=bx be;have E:=A_ (by have:=Z.o;have:=aE.o;have:=u.size;simp;omega:w.1.size<lo/\ae<lo/\aH<lo/\lo<=(a4.alloc (AK #[QS K t.a,QS K t.b,QS K t.c,QS K t.4,QS K t.5] 122)).1.size);go_upto_region 15 with(at_builtin;refine D5t rfl rfl underlying24 D2e bG (u.alloc u.size _) aE (A0a (CF _ _)) (D5g ch) (λb hb=>by cases hb) a8 ?_;intro g' aw b8 aL ay a1;have X:=A_ ((bG.keeps ay E.2.2.2));have al:=A_ (C7b (A0z aC (AV _)) X E.2.1);clear T W O;obtain⟨T,W,O⟩:=bx al)
   refine Code.set1 al λaf D=>?_;have az:=A_ ((((AI ac u).alloc (AI ac u).size _).trans (X.mono (Nat.le_of_lt E.1))));have aD:=A_ (show af.1[ae]?=QL (AK #[QH A m.1.length c,QH (QL ⟨g',0,I⟩) (j+1) aw] 26)from D.k);have bg:=A_ (B8b (C7b (A0z bf (AV _)) X E.1) D.gr (by have:=Z.o;omega));have bp:=A_ (show StrRow af aH (A5k m++[[]])from B8b (C7b (A0z bo (AV _)) X E.2.2.1) D.gr (by have:=Z.o;omega));have a7:=A_ (D.low az az.size (by have:=Z.o;omega));have ao:=aL.grown D.gr E.2.1;rw[<-bi.o]at ao;have a3:=cq.below (AV (AK #[QS K t.a,QS K t.b,QS K t.c,QS K t.4,QS K t.5] 122));have b4:Sl b8 A m.1.length c m.1 aG:=a3.keep (λb hb=>ay.block b (a3.lt b hb) (λe=>bN b e.symm hb));have b5:=b4.keepG D.gr (λG=>by have:=bJ _ G;have:=E.2.1;omega)
   have bZ:∀ g,(QH (QL ⟨g',0,I⟩) (j+1) aw).ownBlock=QL g->g∉aG:=λg aV aa=>by
    injection aV with aV;simp at aV;subst aV;rcases a1 with G|G
    ·exact bN _ G aa
    have:=a3.lt _ aa;omega
   have bj:=A_ (show PhB m lo af (i+1) (QH A m.1.length c) (QH (QL ⟨g',0,I⟩) (j+1) aw)from⟨by have:=bL.o;omega,⟨A,c,aG,rfl,b5,bJ.o,bZ⟩,by rw[show i+1 - m.1.length=j+1 by have:=bL.o;omega];exact ao⟩);have bh:=A_ (show lo<=af.1.size from BM (BM E.2.2.2 X.size) D.gr.size);clear D ao T W O a1 ay aL X al a3 b4 b5 bZ;obtain⟨T,W,O⟩:=bx aD;go_wp2_with fail;go_roundg g;case measure=>omega
   case rel=>exact⟨i+1,_,_,by have:=bK.o;omega,gN,a7.o,bh.o,bg.o,aD.o,bp.o,.inr bj.o⟩
  obtain rfl:i=N:=oS;have cw:¬ ((i:Int)<i):=oS;have bl:=au.elim (λG=>G.toB (by have:=ba.o;omega)) id;obtain⟨-,⟨A,c,aG,rfl,aM,aI,aZ⟩,H⟩:=bl;rw[show i - m.1.length=m.triangles.length by have:=ba.o;omega,List.take_length]at H;obtain⟨bF,d,bV,rfl,b3,bX⟩:=H.sl;have bI:=A_ (TMesh.mkAgg (x:=m) aM b3)
  have ci:=A_ (show ∀ b∈aG++bV,w.1.size<=b/\b≠w.1.size from λb hb=>by
   have:=Z.o;rcases CO.1 hb with G|G
   ·have:=aI b G;constructor<;>omega
   have:=bX b G;constructor<;>omega)
  clear aM aI aZ H b3 bX au bv aX;obtain⟨T,W,O⟩:=bx ak;go_wp2_with fail;have C:=E2u _ m _ xs ys wr bI ck bO bM (aq.below B).t;rw[bc.o]at C;refine C.mono ?_;clear C;rintro _ aO ⟨rfl,h⟩;have aA:=A_ (A0z ar h);have aB:=A_ (A0z ak h);have cg:=A_ (bI.below h);have ac:=A_ (AI B h);clear T W O h;obtain⟨T,W,O⟩:=bx aB;obtain⟨b9,ca,l1⟩:=bx aA;go_wp2;refine BI (v:=.tuple #[.agg #[QH A m.1.length c,QH bF m.triangles.length d],AC true]) (by simp[BO,results57,go_sem, *]) rfl ?_;exact C3s cg ci ac (BH _) (A5y (A5y (B3a _ _)))
end
end Go.Proofs.YtbkilakncnlebaaGreatDoor.X

namespace Go.XB
open Go.RowKit
def F6z {α:Type} [Dat α] (w:QT) (xs:List α) (e:Ending) (w':QT):Prop:=∃ A n c bs,e=.returned (.tuple #[QH A n c,AC true])/\Sl w' A n c xs bs/\(∀ b∈bs,w.1.size<=b)/\Bw w w'
end Go.XB
namespace Go.Proofs.YtbkilakncnlebaaGreatDoor.X
open Go.RowKit Go.XB Go.XN Proofs.Tryz
attribute [local go_sem] L_ Go.XB.opAt N_ M_ Region.wanted yielded B9n
attribute [local simp] N_ M_ MP.eq MP.agg MP.sl A0r
theorem C7e (word:List UInt8) (u:List TRat) (aK:∀ r∈u,J_ r=true) (aL:(32:UInt8)∉word) (aM:word.length<=1082) (aG:u.length<=3) (a9:0<u.length) (w:QT) (aJ:TxOk w) :
  Calls prog 26 #[.string ⟨(A6d (B1c word u)).toArray⟩,.string ⟨word.toArray⟩] w (F6z w u):=by
 have ap:=A_ aJ;have a1:=A_ aK;have ao:=A_ (C4x (ws:=B1c word u) (F3z dE aL) (by simp[B1c]));have bc:(A6d (B1c word u)).length<=5000:=by rw[<-F3w];exact F4b _ _ _ aM aG
 obtain⟨n,T⟩:∃ n,u.length=n:=⟨_,rfl⟩
 have an:=A_ T;have aF:(B1c word u).length=n+1:=by simp[B1c,T]
 rw[T]at aG a9;have bn:(n:Int)<=3:=oS;have bl:(0:Int)<n:=oS;have bm:n≠0:=oS;have aX:=A_ aF;clear aJ aK aL aM T aF;obtain⟨S,aA⟩:∃ S,A6d (B1c word u)=S:=⟨_,rfl⟩
 rw[aA]at bc ao ⊢;clear aA;go_enter func26,ntmps26;go_wp2_with fail;have C:=C8e S 32 oS w ap.o.m;rw[ao.o,aX.o]at C;refine C.mono ?_;clear C;rintro _ D ⟨rfl,b,aB⟩;have ab:=A_ b;have ak:=A_ aB;have X:=b.cell (j:=0) (l:=word) rfl;have aD:=E_ b;obtain⟨H,ah⟩:∃ g,w.1.size=g:=⟨_,rfl⟩
 have ax:=A_ (by omega:H<D.1.size);have am:=A_ ah;rw[ah]at X aD ab ⊢;clear b aB ah;obtain⟨lo,O⟩:∃ l,D.1.size=l:=⟨_,rfl⟩
 go_upto_region 5 with fail;have aa:=A_ (Grow.made (α:=TRat) lo 35 D oS);have E:=A_ (AV (w:=D) (AK #[] 35));generalize (D.alloc (AK #[] 35))=be at *;rw[O]at aa;have al:=A_ (AI ak E);have aw:=A_ (ab.below E);have aq:=A_ (by rw[<-O];exact E.size:lo<=be.1.size);have ac:=A_ (by rw[<-O];exact ax:H<lo);clear O aD X ak ab E ax;go_wp2_with fail;go_loopg [7,23] n (λg s x wr=>∃ i:Nat,i+g=n/\x=QS K i/\Hid (Bw w wr)/\Hid (lo<=wr.1.size)/\Hid (StrRow wr H (B1c word u))/\Hid (Grow lo 35 wr s i (u.take i)));case atStart=>exact⟨0,oS,rfl,al.o,aq.o,aw.o,by rw[ET];exact aa⟩
 case round =>
  clear al aq aw aa;obtain⟨i,ai,rfl,B,ar,R,Z⟩:=hrel;obtain⟨A,c,az,rfl,W,ag⟩:=Z.sl;rcases BN i n with aj|aj
  ·have ba:(i:Int)<n:=oS
   obtain⟨g,rfl⟩:∃ g,gk=g+1:=⟨gk - 1,oS⟩
   obtain⟨r,b⟩:∃ r,u[i]?=QL r:=⟨u[i]'(by rw[an.o];exact aj),CV _⟩
   have X:=R.o.cell (j:=1+i) (l:=A9t r) (by rw[Nat.add_comm];unfold B1c;rw[List.getElem?_cons_succ,IE,b];rfl);have a5:=A_ (a1 r (CH b));have a4:=A_ (take_step b);have aW:=A_ ai;have aS:=A_ (by unfold BG;omega:i+1<=BG/\(i+1)*56<=140737488355328);clear b W ag ai;go_wp2_with fail;refine(B7j r a5 wr (ap.below B)).mono ?_;rintro _ w3 ⟨br,bo,rfl,ae,aN,aC⟩;obtain⟨aO,n1,a7,bp,aP,n2,a8,bq,rfl,rfl,-,-⟩:=TRat.agg ae;have aT:=A_ ae;have aQ:=A_ aC;have aY:=A_ (λad af=>(aN.2 ad af).1);clear ae aN aC X;go_upto_region 9 with fail;refine DH λbf G=>?_;have h:=A_ (AI aQ G.b);have a2:=A_ G.k;have aU:=A_ (aT.below G.b);clear G;obtain⟨bh,bi,l1⟩:=bx a2;go_wp2_with (at_builtin;refine D5t rfl rfl underlying27 B2r Z (h.alloc h.size _) ar (A0a (CF _ _)) (D5g (aU.below (AV _))) aY aS ?_;intro g' bj bg aH aE bd);have ay:=A_ (by have:=ar.o;have:=h.size;simp;omega:lo<=(bf.alloc (AK #[AC r.1.1,QH aO n1 a7,QH aP n2 a8] 35)).1.size);have Y:=A_ (Z.keeps aE ay);have a6:=A_ (show StrRow bg H (B1c word u)from C7b ((R.below h).below (AV _)) Y ac);have aR:=A_ ((((AI B h).alloc (AI B h).size _).trans (Y.mono (by have:=am.o;have:=ac.o;omega))));have au:=aH.o;rw[<-a4.o]at au;have a3:=A_ (BM ay Y.size);clear aH aE bd bh bi l1;go_roundg g;case measure=>omega
   case rel=>exact⟨i+1,by have:=aW.o;omega,gN,aR.o,a3.o,a6.o,au⟩
  obtain rfl:i=n:=oS;have ba:¬ ((i:Int)<i):=oS;have aI:Sl wr A i c u az:=by rw[List.take_of_length_le (by rw[an.o];exact BH _)]at W;exact W
  have aZ:=A_ aI;have aV:=A_ ag;clear ai aj W ag aI;go_wp2;refine BI (v:=.tuple #[QH A i c,AC true]) (by simp[BO,results26,go_sem, *]) rfl ⟨A,i,c,az,rfl,aZ.o,λad af=>?_,B.o⟩;have:=aV ad af;have:=am.o;have:=ac.o;omega
theorem D3w (p:TProblem) (xs ys:List Int) (aW:ProbI p xs ys) (aV:∀ q∈p.1.1,A1b q=true) (ac:E4c p) (aR:0<p.1.1.length) (w:QT) (a2:TxOk w) :
  Calls prog 24 #[.string ⟨(B8l p).toArray⟩] w (D2c w p):=by
 have W:=A_ a2;have aj:=A_ ac;have aI:=A_ aV;have G:=A_ aW;have be:=A_ aR;obtain⟨aU,au,bO,bN⟩:=B7p ac;have bM:0<(A5k p.1).length:=by rw[(B4s ac.1).2];omega
 obtain⟨S,ap⟩:∃ S,B8l p=S:=⟨_,rfl⟩
 obtain⟨M,ao⟩:∃ M,(A5k p.1).length=M:=⟨_,rfl⟩
 rw[ao]at au bO bM;rw[ap]at bN ⊢;have ak:=A_ ap;have bf:=A_ aU;have aH:=A_ au;have E:=A_ ao;clear a2 ac aV aW aU au ap ao aR;go_enter func24,ntmps24;go_upto_region 1 with fail;refine DH λaQ D=>?_;have ax:=A_ D.b;have aL:=A_ D.k;have b0:=A_ (E_ D.k);clear D;go_wp2_with fail;have C:=C2h (A5h p) bf.o.1 (by rw[show A1z (A5h p)=S from ak.o];omega) (by have:=aH.o;omega) aQ (W.o.below ax.o).m;rw[show A1z (A5h p)=S from ak.o,aH.o]at C;refine C.mono ?_;clear C;rintro _ bV ⟨rfl,aw,aq⟩;have am:=A_ aw;have a8:=A_ (AI ax aq);have bn:=A_ (A0z aL aq);have ar:=E_ aw;obtain⟨bL,aT⟩:∃ g,aQ.1.size=g:=⟨_,rfl⟩
 rw[aT]at am ar ⊢;clear aw aq aL aT;go_upto_region 5 with fail;have Z:[(10:UInt8)].intercalate (A5k p.1)++[10]=B9a p.1:=F4y _ (by intro e;have:=E.o;rw[e]at this;simp at this;omega);obtain⟨J,an⟩:∃ J,[(10:UInt8)].intercalate (A5k p.1)=J:=⟨_,rfl⟩
 rw[an]at Z;have bd:=A_ Z;have aG:=A_ an;have b3:J.length<=1010101:=by have:=E0w aj.1;rw[<-Z,List.length_append]at this;omega
 have ad:A5h p=A5k p.1++[A6d (B1c kW p.2),A6d (B1c fW p.3)]:=rfl;have bD:=A_ (by rw[ad,DM,JO (by rw[E.o];exact BH _),E,Nat.sub_self];rfl:(A5h p++[[]])[M]?=QL (A6d (B1c kW p.2)));have bB:=A_ (by rw[ad,DM,JO (by rw[E.o];omega),E.o,Nat.add_sub_cancel_left];rfl:(A5h p++[[]])[M+1]?=QL (A6d (B1c fW p.3)));have bE:=A_ (show ∀ (j:Nat) l,(A5k p.1)[j]?=QL l->(A5h p++[[]])[j]?=QL l by intro j l h;rw[ad,DM,IV (List.getElem?_eq_some_iff.1 h).1];exact h);clear Z an ad;go_wp2_with fail;have C:=F3d bL 0 (M+2+1) (A5k p.1) 10 bV (λj l h=>by rw[Nat.zero_add];exact am.o.cell (bE.o j l h)) ar (by rw[E.o];omega) (by rw[aG.o];omega) (by rw[E.o];omega);rw[aG.o,E.o]at C;refine C.mono ?_;clear C;rintro _ bW ⟨rfl,aa⟩;have ag:=A_ (AI a8 aa);have aM:=A_ (A0z bn aa);have bF:=A_ (am.below aa);clear aa ar;go_wp2_with fail;have C:=E4b p.1 xs ys G.1 aI aj.1 be bW (W.below ag);rw[<-bd.o]at C;refine C.mono ?_;clear C;rintro _ w3 ⟨b5,a3,rfl,aS,T,ab⟩;obtain⟨a4,bP,bI,bS,a5,n1,bJ,bT,rfl,rfl,aX,aY⟩:=TMesh.agg aS;have az:=A_ aX;have aC:=A_ aY;have bs:=A_ (λb u=>BM ag.size (T b u));have bv:=A_ (show ∀ b∈bS++bT,b≠w.1.size from λb u=>by have:=T b u;have:=E_ aM;omega);have a9:=A_ (AI ag ab);have bo:=A_ (A0z aM ab);have bG:=A_ (bF.below ab);clear aS T aX aY ab;go_upto_region 6 with fail;refine DH λbX D=>?_;have X:=A_ D.b;have bi:=A_ D.k;have ah:=A_ (AI a9 X);have aN:=A_ (A0z bo X);have aP:=A_ (bG.below X);have aA:=A_ (az.below X);have aD:=A_ (aC.below X);have bR:=aP.cell bD;clear D az aC;go_wp2_with fail;refine(C7e kW p.2 (λr h=>BJ.1 G.o.dok r h) dE dE (by rw[G.o.dl];decide) (by rw[G.o.dl];decide) bX (W.o.below ah.o)).mono ?_;rintro _ bY ⟨a6,n2,bK,bU,rfl,aZ,l2,H⟩;have aF:=A_ aZ;have bt:=A_ (λb u=>BM ah.size (l2 b u));have bz:=A_ (show ∀ b∈bU,b≠w.1.size from λb u=>by have:=l2 b u;have:=E_ aN;omega);have ai:=A_ (AI ah H);have aO:=A_ (A0z aN H);have bH:=A_ (aP.below H);have bj:=A_ (A0z bi H);have aB:=A_ (aA.below H);have aE:=A_ (aD.below H);have q1:=bH.cell bB;clear aZ l2 H bR aA aD;go_wp2_with fail;refine(C7e fW p.3 (λr h=>BJ.1 G.o.sok r h) dE dE (by rw[G.o.sl];decide) (by rw[G.o.sl];decide) bY (W.o.below ai.o)).mono ?_;rintro _ b6 ⟨a7,bQ,c3,a3,rfl,a1,T,O⟩;have bu:=A_ (λb u=>BM ai.size (T b u));have bA:=A_ (show ∀ b∈a3,b≠w.1.size from λb u=>by have:=T b u;have:=E_ aO;omega);have ba:=A_ (AI ai O);have bp:=A_ (A0z aO O);have bl:=A_ (A0z bj O);have bg:=A_ (TProblem.mkAgg (x:=p) (aB.below O) (aE.below O) (aF.below O) a1);clear a1 T O q1 aB aE aF;obtain⟨ae,af,l1⟩:=bx bl;go_upto_region 9 with fail;refine DH λbZ D=>?_;have al:=A_ D.b;have aK:=A_ D.k;have ay:=A_ (AI ba al);have bq:=A_ (A0z bp al);have aJ:=A_ (bg.below al);clear D ae af l1;obtain⟨ae,af,l1⟩:=bx aK;go_wp2_with fail;have C:=C4s _ p _ xs ys bZ aJ G aI aj (W.below ay).t;rw[ak.o]at C;refine C.mono ?_;clear C ae af l1;rintro _ b7 ⟨rfl,Y⟩;have bc:=A_ (AI ay Y);have br:=A_ (A0z bq Y);have bm:=A_ (A0z aK Y);have bh:=A_ (aJ.below Y);clear Y;obtain⟨b8,b9,b4⟩:=bx br;obtain⟨ae,af,l1⟩:=bx bm;go_wp2;refine BI (v:=.tuple #[.agg #[QH a4 bP bI,QH a5 n1 bJ,QH a6 n2 bK,QH a7 bQ c3],AC true]) (by simp[BO,results24,go_sem, *]) rfl ?_;refine C3s bh (λb u=>?_) bc (BH _) (A5y (A5y (A5y (A5y (B3a _ _)))));rw[<-DM]at u;rcases CO.1 u with h|h
 ·exact⟨bs b h,bv b h⟩
 rcases CO.1 h with h|h;·exact⟨bt b h,bz b h⟩
 exact⟨bu b h,bA b h⟩
end Go.Proofs.YtbkilakncnlebaaGreatDoor.X
