/- A part of the proof. -/
import Derived.Test.YtjcanieccnljfaaGreatY23
import Derived.Test.YtjcanieccnljfaaGreatY20
set_option linter.constructorNameAsVariable false
set_option maxHeartbeats 16000000
set_option maxRecDepth 10000
open Bool renaming false→AH,true→AF
open Go renaming Addr→AJ,Calls→BL,Value→AU,World→AD,bodyPost_ret→CK,heap_alloc_new→DB,maxLen→BS,results→CO
open Go.Code renaming new→DY
open Go.IntKind renaming i64→RD
open Go.Obj renaming cells→BG
open Go.RowKit renaming Hid→BI
open Go.RowKit.Below renaming heap_setCell→GA
open Go.Value renaming agg→BJ,bool→RT,int→N,slice→S
open Go.World renaming size_alloc→FU
open Go.XB.Below renaming box→BP,next→BH
open Go.XB.MP renaming agg→CH
open Go.XB.Sl renaming getInt→DL
open Go.XB.TMatrix renaming agg→OS
open Go.XB.TRat renaming agg→CF,elemA→IM
open Int renaming lt_or_le→FH,toNat_natCast→PI
open List renaming dropLast→DN,getD_eq_getElem?_getD→EH,getElem?_append_left→LD,getElem?_append_right→MC,getElem?_eq_getElem→DU,getElem?_eq_some_iff→DM,getElem?_map→IR,getLast→DO,length→DQ,mem_append→DV,mem_of_getElem?→DH,replicate→DK,take_of_length_le→DT,take_zero→FM
open Nat renaming le_refl→CE,le_trans→CJ,lt_of_lt_of_le→JC,lt_or_ge→CG
open Option renaming none→I,some→QZ
namespace Go.Proofs.YtjcanieccnljfaaGreat.X
open Go.RowKit Go.XB Go.XN Proofs.Tryz
def A2z (r:List TRat):Nat->TRow
 |0=>⟨[],[]⟩
 |j+1=>if A2v (r.getD j A0h)=0 then A2z r j else⟨(A2z r j).cols++[(j:Int)],(A2z r j).vals++[r.getD j A0h]⟩
def B7m (r:List TRat):TRow:=A2z r r.length
def spM (M:List (List TRat)):TMatrix:=⟨M.map B7m⟩
theorem B8l (r:List TRat):∀ j,(A2z r j).cols.length=(A2z r j).vals.length/\(A2z r j).cols.length<=j
 |0=>⟨rfl,CE _⟩
 |j+1=>by
  have ih:=B8l r j
  unfold A2z
  split
  ·exact⟨ih.1,oS⟩
  simp;omega
def E5u {α:Type} [Dat α] (w:AD) (x:α) (e:Ending) (w':AD):Prop:=∃ v s,e=.returned (.tuple #[v,RT AF])/\Agg w' v x s/\(∀ b∈s,w.1.size<=b)/\Bw w w'
def E5l {α:Type} [Dat α] (w:AD) (x:α) (e:Ending) (w':AD):Prop:=∃ v s,e=.returned v/\Agg w' v x s/\(∀ b∈s,w.1.size<=b)/\Bw w w'
theorem A6d {w w':AD} {b:Nat} {r:Option Nat} {o:Obj} (h:w.1[b]?=QZ o) (hg:w.grownBy w' r) (hn:∀ g,r=QZ g->g≠b):w'.1[b]?=QZ o:=(hg.block b (E_ h) (λe=>hn b e.symm rfl)).trans h
theorem A5d {L:Nat} {w y w':AD} {r:Option Nat} (hb:Below L w y) (hg:y.grownBy w' r) (hl:L<=y.1.size) (hn:∀ g,r=QZ g->L<=g):Below L w w':=hb.grown hg hl hn
attribute [local go_sem] L_ Go.XB.opAt N_ M_ Region.wanted yielded
attribute [local simp] N_ M_ MP.eq MP.agg MP.aggS MP.sl MP.slbox A0r
theorem E8o:(prog.info? 162).map (λi=>(i.zero,i.size,i.bytes))=QZ (QZ (BJ #[S I 0 0,S I 0 0]),2,48):=kR
theorem D4j (A:Option AJ) (n c:Nat) (M:List (List TRat)) (bs:List Nat) (w:AD) (bl:Sl w A n c M bs) (dI:n<=40) (W:∀ r∈M,r.length<=40/\∀ x∈r,J_ x=AF):BL prog 176 #[S A n c] w (E5u w (spM M)):=by
 have cH:=A_ bl;have cD:=A_ W;have dM:(n:Int)<=40:=oS;obtain⟨an,bi⟩:∃ an,M.map B7m=an:=⟨_,rfl⟩
 have bK:=A_ bi;have cE:=A_ (by rw[<-bi,List.length_map];exact bl.1:an.length=n);clear bl W bi;go_enter func176,ntmps176;go_upto_region 2 with fail;refine Code.new2 λcN E=>?_;have bA:=A_ E.b;have R0:=A_ E.k;have R1:=A_ E.l;have bB:=A_ (GrowB.nil (α:=TRow) 162 cN);clear E;go_wp2_with fail;go_loopg [13] n (λg s wr=>∃ (k:Nat) (bp:AU) (a8:List Nat),k+g=n/\s=N RD k/\BI (Bw w wr)/\BI (wr.1[w.1.size]?=QZ (BG #[S I 0 0] 90))/\BI (wr.1[w.1.size+1]?=QZ (BG #[bp] 90))/\BI (GrowB 162 wr bp k (an.take k) a8)/\BI (∀ b∈a8,w.1.size+1<b));case atStart=>exact⟨0,_,_,oS,rfl,bA.o,R0.o,R1.o,by rw[FM];exact bB,λb hb=>by cases hb⟩
 case round =>
  clear bA R0 R1 bB;obtain⟨k,bp,a8,ch,rfl,B,bN,a3,af,ai⟩:=hrel;rename AD=>wr;rcases CG k n with aM|aM
  ·have c4:(k:Int)<n:=oS
   obtain⟨g,rfl⟩:∃ g,gk=g+1:=⟨gk - 1,oS⟩
   have c2:=A_ (by omega:k+1+g=n);obtain⟨dk,dV,r0,dd,n1,dl,dz,rfl,cW,W,cZ,ad,_⟩:=Sl.elemS (cH.below B) aM;have cF:=A_ ad;obtain⟨b8,cj⟩:=cD r0 (DH W);have dJ:n1<=40:=by rw[<-ad.1];exact b8
   have dL:(n1:Int)<=40:=oS;have cB:=A_ cj;have cM:=A_ (show an.take (k+1)=an.take k++[A2z r0 n1]from take_step (by rw[<-bK.o,IR,W,<-ad.1];rfl));clear W ad b8 cj ch aM;go_upto_region 6 with fail;refine DY λcq E=>?_;obtain⟨O,bf⟩:∃ g,wr.1.size=g:=⟨_,rfl⟩
   have bz:=A_ E.b;have ax:=A_ E.k;rw[bf]at ax ⊢;have aa:=A_ bf;have bD:=A_ (GrowB.nil (α:=Int) 3 cq);have bF:=A_ (GrowB.nil (α:=TRat) 39 cq);clear E bf cZ cW;obtain⟨u,D,l2⟩:=bx ax;go_wp2_with fail;go_loopg [20] n1 (λg2 s wx=>∃ (j m:Nat) (bo bq:AU) (bC al:List Nat),j+g2=n1/\s=N RD j/\m<=j/\BI (Bw wr wx)/\BI (wx.1[O]?=QZ (BG #[bo,bq] 162))/\BI (GrowB 3 wx bo m (A2z r0 j).cols bC)/\BI (GrowB 39 wx bq m (A2z r0 j).vals al)/\BI (∀ b∈bC,O<b/\b∉al)/\BI (∀ b∈al,O<b));case atStart=>exact⟨0,0,_,_,_,_,oS,rfl,CE _,bz.o,ax.o,bD.o,bF.o,A_ (λb hb=>by cases hb),A_ (λb hb=>by cases hb)⟩
   case round =>
    clear bz ax bD bF u D l2;obtain⟨j,m,bo,bq,bC,al,ce,rfl,ci,H,J,ab,aV,ah,aj⟩:=hrel;rename AD=>wx;obtain⟨u,D,l2⟩:=bx J;obtain⟨bt,cC,cP,rfl,bj,b9⟩:=ab.sl;obtain⟨ar,aF,cQ,rfl,bk,cb⟩:=aV.sl;rcases CG j n1 with aL|aL
    ·have c1:(j:Int)<n1:=oS
     obtain⟨g2,rfl⟩:∃ g2,gk=g2+1:=⟨gk - 1,oS⟩
     have cg:=A_ (by omega:j+1+g2=n1);obtain⟨aE,dW,x,de,dO,dm,dt,df,dQ,dn,du,rfl,aJ,bm,ba,bc,bd,cc⟩:=IM cF aL;replace ba:=(H.cell (p:=⟨aE,_,I⟩) aJ).trans ba;replace bc:=(H.cell (p:=⟨aE,_,I⟩) aJ).trans bc;replace bd:=(H.cell (p:=⟨aE,_,I⟩) aJ).trans bd;have dF:aE<wx.1.size:=JC aJ H.size;have aB:=A_ (cB x (DH bm));have bX:=A_ (ratOkB_iff.1 aB);have aX:=A_ cc;have a4:=A_ (by rw[A2z,A0e bm]:A2z r0 (j+1)=if A2v x=0 then A2z r0 j else⟨(A2z r0 j).cols++[(j:Int)],(A2z r0 j).vals++[x]⟩);have cx:=A_ (by unfold BS;omega:m+1<=BS/\(m+1)*8<=140737488355328);have cw:=A_ (by unfold BS;omega:m+1<=BS/\(m+1)*56<=140737488355328);have cJ:=A_ (by unfold I64;omega:I64 (j:Int));have bT:=A_ (by omega:m+1<=j+1);clear cc bm ce aL bj bk ci;go_upto_region 9 with fail;refine DY λw3 E=>?_;have aP:=A_ E.b;have ap:=A_ E.k;have bL:=A_ (A0z J E.b);clear E ba bc bd u D l2;obtain⟨Y,Z,X⟩:=bx ap;go_wp2_with fail;have C:=A2p _ x _ w3 (aX.below (BH H aP));rw[C6v aB.o]at C;refine C.mono ?_;clear C;rintro _ c9 ⟨rfl,aH⟩;have aQ:=A_ (BH aP aH);have X5:=A_ (A0z ap aH);have bM:=A_ (A0z bL aH);clear aH Y Z X;obtain⟨Y,Z,X⟩:=bx X5;go_wp2_with fail;refine(A7y _ x _ c9 (aX.below (BH H aQ)) bX.mag (A4h bX.1)).mono ?_;rintro _ da ⟨rfl,aI⟩;have au:=A_ (BH aQ aI);have a5:=A_ (A0z X5 aI);have ay:=A_ (A0z bM aI);have aT:=A_ (ab.below au);have aW:=A_ (aV.below au);clear aI Y Z X;obtain⟨u,D,l2⟩:=bx ay;by_cases bn:A2v x=0
     ·have bW:=A_ (by rw[a4.o,if_pos bn]:A2z r0 (j+1)=A2z r0 j)
      go_wp2_with fail;go_roundg g2;case measure=>omega
      case rel =>
       refine⟨j+1,m,_,_,bC,al,cg,gN,by have:=bT.o;omega,BH H.o au.o,ay.o,?_,?_,ah.o,aj.o⟩;·show GrowB _ _ _ _ _ _;rw[bW.o];exact aT
       show GrowB _ _ _ _ _ _;rw[bW.o];exact aW
     have dN:((A2v x:Int)==0)=AH:=by simpa using bn
     have bV:=A_ (by rw[a4.o,if_neg bn]:A2z r0 (j+1)=⟨(A2z r0 j).cols++[(j:Int)],(A2z r0 j).vals++[x]⟩);have a6:=A_ (by have:=E_ J;have:=E_ ap;have:=E_ a5;omega:O<wx.1.size/\wx.1.size<da.1.size);clear a4;go_wp2_with (at_builtin;refine A9t rfl rfl underlying35 A6b aT (BP _) (A0a (DB _ _)) (pt:=(j:Int)) (zb:=[]) ⟨rfl,rfl,cJ⟩ (λb hb=>by cases hb) cx ?_;intro g8 b3 dY a7 ck aq cd;have a1:=A_ (A6d (A0z ay (BP _)) aq (λg hg=>by have:=(ah g (ab.own g hg)).1;omega));clear u D l2;obtain⟨u,D,l2⟩:=bx a1)
     have aA:=A_ (show ∀ b∈a7,O<b/\b∉al from λb hb=>by
      rcases cd b hb with h|h|h;·exact ah b h
      ·cases h
      have:=a6.o;rw[FU]at h;exact⟨oS,λhv=>by have:=aV.o.lt b hv;omega⟩)
     have bG:=A_ ((aW.below (BP _)).kept aq (λg hg G=>(ah g (ab.own g hg)).2 G));have bY:=A_ (A6d (A0z a5 (BP _)) aq (λg hg e=>by have:=ab.lt g (ab.own g hg);have:=E_ ap;omega));have aS:=A_ (A5d (BH (BH H au) (BP _)) aq (by have:=aa.o;have:=a6.o;simp;omega) (λg hg=>by have:=(ah.o g (ab.o.own g hg)).1;have:=aa.o;omega));clear u D l2 aq cd aT aW ay a5 ap X5 bL bM aP aQ;refine Code.setAt (arr':=#[S (QZ ⟨g8,0,I⟩) (m+1) b3,S ar m aF]) a1 λbr ak=>?_;have az:=A_ ak.k;have aU:=A_ (ck.kept ak.gr (λg hg G=>by cases hg;have:=(aA _ G).1;omega));have ag:=A_ (bG.kept ak.gr (λg hg G=>by cases hg;have:=aj _ G;omega));have cO:=A_ (A6d bY ak.gr (λg hg e=>by cases hg;have:=a6.o;omega));have aw:=A_ (A5d aS ak.gr aS.size (λg hg=>by cases hg;have:=aa.o;omega));clear ck ak a1 bG bY aS;obtain⟨u,D,l2⟩:=bx az;obtain⟨Y,Z,X⟩:=bx cO;refine W_ 5 kR kR kR kR kR ?_;simp only[List.take_succ_cons,FM,List.drop_succ_cons,List.drop_zero];iterate 3 refine C_ _ ?_
     refine D_ (CH x) ?_ ?_;·intro aN aO ae am T;obtain⟨dG,dH⟩:=F_ am;simp at T;refine G_ ?_;exact H_ (A3n _ _ _ ae (aX.below (BH aw am)) (CJ (B1b aB).1 dE) (CJ (B1b aB).2 dE))
     refine A1d (λcs=>MP.slbox (cs 3).cells 39) (by intro y cs h;simp[N_,M_]at h;simp[h]) ?_ ?_;·intro aN aO ae am T;simp at T;obtain⟨dg,dR,dp,dv,dh,dS,dq,dy,cU,_,_,_⟩:=CF T.1;refine⟨gD,S (QZ ⟨ae.1.size,0,I⟩) 1 1,ae.alloc (BG (aN 3).cells 39),?_,BP _,[ae.1.size],⟨ae.1.size,rfl,rfl,DB ae _⟩,sI⟩;rw[cU];go_simp
     intro aN aO wa am T (cY:BI _);simp at T;have q1:=T.2.1;have c7:=T.2.2.2.1;have c8:=T.2.2.2.2;obtain⟨⟨aG,c0⟩,W⟩:=c7;obtain⟨di,dT,dr,dA,dj,dU,ds,dB,cV,db,m1,m2⟩:=CF aG;obtain⟨⟨dD,dx,dc,bg⟩,c6⟩:=c8;rw[cV]at bg aG;have bu:=A_ (A3x aG);have aY:=A_ (show ∀ b∈aO 3,br.1.size<=b from λb hb=>(W b hb).1);have ac:=A_ am;have bH:=A_ bg;have dw:aN 1=S ar m aF:=q1.1.1;generalize aO 3=dX at *;clear T cY aG c0 W db m1 m2 bg c6 dc q1 am;have a2:=A_ (A0z az ac);clear u D l2 Y Z X;obtain⟨u,D,l2⟩:=bx a2;go_wp2_with (at_builtin;refine A9t rfl rfl underlying27 B2r ag ac (A0a bH) bu (λb hb hv=>by have:=aY b hb;have:=ag.lt b hv;omega) cw.o ?_;intro b7 b5 co a9 cm aK be;have aZ:=A_ (A6d a2 aK (λg hg=>by have:=aj g (ag.own g hg);omega));clear u D l2;obtain⟨u,D,l2⟩:=bx aZ);have bZ:=A_ (show O<br.1.size/\br.1.size<=wa.1.size from⟨E_ az,ac.size⟩)
     have bS:=A_ (show ∀ b∈a9,O<b from λb hb=>by
      have:=bZ.o;rcases be b hb with h|h|h
      ·exact aj b h
      ·have:=aY b h;omega
      omega)
     have bR:=A_ (show ∀ b∈a7,O<b/\b∉a9 from λb hb=>⟨(aA b hb).1,λhv=>by
      have:=aU.lt b hb;have:=bZ.o;rcases be b hv with h|h|h
      ·exact(aA b hb).2 h
      ·have:=aY b h;omega
      omega⟩)
     have bE:=A_ ((aU.below ac).kept aK (λg hg G=>(aA g G).2 (ag.own g hg)));have aR:=A_ (A5d (BH aw ac) aK (CJ aw.size ac.size) (λg hg=>by have:=aj g (ag.own g hg);have:=aa.o;omega));clear u D l2 aK be ag aU az a2 aw ac bH bu;have ao:=A_ (show Sets co (co.setCell ⟨O,1,I⟩ (S (QZ ⟨b7,0,I⟩) (m+1) b5)) O #[S (QZ ⟨g8,0,I⟩) (m+1) b3,S (QZ ⟨b7,0,I⟩) (m+1) b5] 162 from⟨A5y (B3a _ _),B9q aZ⟩);have cI:=A_ ao.k;have cy:=A_ (bE.kept ao.gr (λg hg G=>by cases hg;have:=(bR _ G).1;omega));have cz:=A_ (cm.kept ao.gr (λg hg G=>by cases hg;have:=bS _ G;omega));have cu:=A_ (A5d aR ao.gr aR.size (λg hg=>by cases hg;have:=aa.o;omega));clear ao aZ bE cm aR;go_roundg g2;case measure=>omega
     case rel =>
      refine⟨j+1,m+1,_,_,a7,a9,cg,gN,bT,cu,cI,?_,?_,bR,bS⟩;·show GrowB _ _ _ _ _ _;rw[bV.o];exact cy
      show GrowB _ _ _ _ _ _;rw[bV.o];exact cz
    obtain rfl:j=n1:=oS;have c1:¬ ((j:Int)<j):=oS;have bU:=A_ (TRow.shut (x:=A2z r0 j) bj bk);have bI:=A_ (show ∀ b∈cP++cQ,O<b from λb hb=>(DV.1 hb).elim (λh=>(ah b (b9 b h)).1) (λh=>aj b (cb b h)));have cA:=A_ (af.below H);have cK:=A_ (A0z bN H);have bP:=A_ (A0z a3 H);have cv:=A_ (by unfold BS;omega:k+1<=BS/\(k+1)*48<=140737488355328);obtain⟨Y,Z,X⟩:=bx bP;clear ce aL ci bj bk b9 cb;go_wp2_with (at_builtin;refine A9t rfl rfl underlying88 E8o cA (BP _) (A0a (DB _ _)) (Dat.keep bU (λb hb=>(BP _).block b (Dat.lt bU b hb))) (λb hb hv=>by have:=bI b hb;have:=af.lt b hv;have:=aa.o;omega) cv.o ?_;intro b6 b4 cp aD c5 bh cX;have bO:=A_ (A6d (A0z bP (BP _)) bh (λg hg=>by have:=ai g (af.own g hg);omega));clear Y Z X;obtain⟨Y,Z,X⟩:=bx bO);have b0:=A_ (show w.1.size+1<wr.1.size/\wr.1.size<wx.1.size from⟨E_ a3,by have:=E_ J;have:=aa.o;omega⟩);have aC:=A_ (show Sets cp (cp.setCell ⟨w.1.size+1,0,I⟩ (S (QZ ⟨b6,0,I⟩) (k+1) b4)) (w.1.size+1) #[S (QZ ⟨b6,0,I⟩) (k+1) b4] 90 from⟨A5y (B3a _ _),B9q bO⟩)
    have bQ:=A_ (show ∀ b∈aD,w.1.size+1<b from λb hb=>by
     have:=b0.o;rcases cX b hb with h|h|h
     ·exact ai b h
     ·have:=bI b h;have:=aa.o;omega
     simp at h;omega)
    have bv:=A_ (A5d (BH (BH B H) (BP (BG #[S bt m cC,S ar m aF] 162))) bh (by have:=B.size;have:=b0.o;simp;omega) (λg hg=>by have:=ai.o g (af.o.own g hg);omega));have cL:=A_ (A6d (A0z cK (BP (BG #[S bt m cC,S ar m aF] 162))) bh (λg hg=>by have:=ai g (af.own g hg);omega));go_wp2_with fail;go_roundg g;case measure=>omega
    case rel =>refine⟨k+1,_,aD,c2,gN,A5d bv aC.gr bv.size (λg hg=>by cases hg;omega),A6d cL.o aC.o.gr (λg hg=>by cases hg;omega),aC.o.k,?_,bQ.o⟩;show GrowB _ _ _ _ _ _;rw[cM.o];exact c5.kept aC.gr (λg hg G=>by cases hg;have:=bQ _ G;omega)
  obtain rfl:k=n:=oS;have c4:¬ ((k:Int)<k):=oS;obtain⟨ct,cR,aD,rfl,cn,ca⟩:=af.sl;have cG:=A_ cn;have bJ:=A_ ca;obtain⟨u,D,l2⟩:=bx bN;obtain⟨Y,Z,X⟩:=bx a3;clear ch aM cn ca;go_wp2;refine CK (v:=.tuple #[BJ #[S ct k cR],RT AF]) (by simp[CO,results176,go_sem, *]) rfl ?_;have ad:=cG.o;rw[DT (by rw[cE.o];exact CE _),<-bK]at ad;refine⟨_,aD,rfl,TMatrix.mkAgg (x:=spM M) (ad.keep (λb hb=>GA _ _ _ _ (by have:=ai b (bJ b hb);simp;omega))),(λb hb=>by have:=ai.o b (bJ.o b hb);omega),B.o.setCell (p:=⟨w.1.size,0,I⟩) sI _⟩
theorem Sl.ratAt {w:AD} {g c:Nat} {n o:Nat} {xs:List TRat} {bs:List Nat} (h:Sl w (QZ ⟨g,o,I⟩) n c xs bs) {k:Nat} {x:TRat} (b:xs[k]?=QZ x) :
  ∃ (A1:Option AJ) (n1 c1:Nat) (A2:Option AJ) (n2 c2:Nat) (fs:List Nat),g<w.1.size/\w.cell? ⟨g,o+k*3,I⟩=QZ (RT x.1.1)/\w.cell? ⟨g,o+k*3+1,I⟩=QZ (S A1 n1 c1)/\w.cell? ⟨g,o+k*3+2,I⟩=QZ (S A2 n2 c2)/\Agg w (BJ #[RT x.1.1,S A1 n1 c1,S A2 n2 c2]) x fs:=by
 have O:k<n:=by rw[<-h.1];exact(DM.1 b).1
 obtain⟨W,X,y,A1,n1,c1,Y,A2,n2,c2,Z,e,H,T,u,D,E,G⟩:=IM h O;injection e with e;injection e with ea eb _;subst ea;subst eb;obtain rfl:y=x:=by rw[T]at b;exact Option.some.inj b
 exact⟨A1,n1,c1,A2,n2,c2,_,H,u,D,E,G⟩
structure SqM (n:Nat) (M:List (List TRat)):Prop where
 len:M.length=n
 n40:n<=40
 row:∀ r∈M,r.length=n
 ok:∀ r∈M,∀ x∈r,J_ x=AF
 nz:∀ r∈M,(B7m r).cols≠[]
def B4g (M:List (List TRat)) (i j:Nat):TRat:=(M.getD i []).getD j A0h
theorem B9a (r:List TRat):∀ m,∀ c∈(A2z r m).cols,0<=c/\c<m
 |0,c,h=>by cases h
 |m+1,c,h=>by
  unfold A2z at h
  split at h
  ·have:=B9a r m c h;omega
  rcases DV.1 h with h|h
  ·have:=B9a r m c h;omega
  simp at h;omega
theorem B8x (r:List TRat):∀ m,(A2z r m).cols.Pairwise (·<·)
 |0=>List.Pairwise.nil
 |m+1=>by
  unfold A2z
  split
  ·exact B8x r m
  refine List.pairwise_append.2 ⟨B8x r m,List.pairwise_singleton _ _,λa ha b hb=>?_⟩
  simp at hb
  have:=B9a r m a ha;omega
theorem E7e (r:List TRat) {j m:Nat} (h:j<=m):(A2z r m).cols.countP (λc=>decide (c<(j:Int)))=(A2z r j).cols.length:=by
 induction h with
 |refl=>exact List.countP_eq_length.2 λc b=>decide_eq_true (B9a r j c b).2
 | @step m hm ih =>
  rw[A2z]
  split
  ·exact ih
  rw[List.countP_append,ih]
  have u:j<=m:=hm
  simp;omega
theorem E2m (r:List TRat) {j:Nat}:∀ m,j<m->((A2z r m).cols.contains (j:Int)=AF↔A2v (r.getD j A0h)≠0)
 |0,h=>oS
 |m+1,h=>by
  unfold A2z
  by_cases e:j=m
  ·subst e
   split
   ·rename_i hz
    simp only[List.contains_iff_mem,ne_eq,hz,not_true_eq_false,iff_false]
    intro hm
    have:=B9a r j _ hm;omega
   rename_i hz
   exact⟨λ_=>hz,λ_=>sI⟩
  have ih:=E2m r m (by omega:j<m)
  split
  ·exact ih
  rw[<-ih]
  simp only[List.contains_iff_mem,DV,List.mem_singleton]
  constructor
  ·rintro(h|h)
   ·exact h
   exfalso;omega
  exact .inl
theorem E7n (r:List TRat) {j:Nat} (hz:A2v (r.getD j A0h)≠0):∀ m,j<m->(A2z r m).vals[(A2z r j).cols.length]?=QZ (r.getD j A0h)
 |0,h=>oS
 |m+1,h=>by
  by_cases e:j=m
  ·subst e
   rw[A2z,if_neg hz,(B8l r j).1,MC (CE _),Nat.sub_self];rfl
  have ih:=E7n r hz m (by omega:j<m)
  rw[A2z]
  split
  ·exact ih
  rw[LD (DM.1 ih).1];exact ih
theorem D7r (r:List TRat):∀ (m k:Nat) (c:Int),(A2z r m).cols[k]?=QZ c->∃ j:Nat,c=j/\j<m/\A2v (r.getD j A0h)≠0/\(A2z r m).vals[k]?=QZ (r.getD j A0h)
 |0,k,c,h=>by simp[A2z]at h
 |m+1,k,c,h=>by
  rw[A2z]at h ⊢
  split at h
  ·rename_i hz
   rw[if_pos hz]
   obtain⟨j,h1,h2,h3,h4⟩:=D7r r m k c h
   exact⟨j,h1,oS,h3,h4⟩
  rename_i hz
  rw[if_neg hz]
  have hl:=(B8l r m).1
  rcases CG k (A2z r m).cols.length with hk|hk
  ·rw[LD hk]at h
   obtain⟨j,h1,h2,h3,h4⟩:=D7r r m k c h
   exact⟨j,h1,oS,h3,by rw[LD oS];exact h4⟩
  rw[MC hk]at h
  obtain⟨h5,h6⟩:k=(A2z r m).cols.length/\c=m:=by
   cases b:k - (A2z r m).cols.length with
   |zero=>rw[b]at h;simp at h;exact⟨oS,h.symm⟩
   |succ q=>rw[b]at h;simp at h
  subst h5
  exact⟨m,h6,oS,hz,by rw[hl,MC (CE _),Nat.sub_self];rfl⟩
theorem D1r {r:List TRat} {j:Nat} (h:j<r.length):r.getD j A0h∈r:=by
 simp[EH,DU h]
theorem E8z {x:TRat} (h:J_ x=AF) (b:A2v x=0):x=U_ 0:=by
 have D:R_ x=0:=by unfold A2v sgn at b;split at b<;>(try split at b)<;>omega
 have u:mkR 0 1=x:=A9v (ratOkB_iff.1 h) dE (by rw[D];simp);exact u.symm.trans (B9z (n:=0) dE dE).symm
theorem E6b {x:TRat} (h:A2v x≠0):R_ x≠0:=λe=>h (by unfold A2v;rw[e];rfl)
theorem C0t:A4f 236:=λa w=>kR
theorem E1x {r:TRat} (b:R_ r≠0):(A2v r==0)=AH:=by
 unfold A2v sgn;simp;split;·omega
 split<;>omega
theorem C3f (v:AU) (x:TRat) (b:List Nat) (w:AD) (h:Agg w v x b) (D:J_ x=AF) (E:R_ x≠0):BL prog 236 #[v] w (A0b w (RT AH)):=by
 have H:=A_ h;have u:=A_ (ratOkB_iff.1 D);have Z:=E1x E;obtain⟨X,n1,aa,ad,Y,n2,ab,ae,rfl,rfl,O,T⟩:=CF h;clear O T h D E;go_enter func236,ntmps236;go_wp2_with fail;refine(A7y _ x _ _ (H.below Below.go) u.mag (A4h u.1)).mono ?_;rintro _ W ⟨rfl,ac⟩;have G:=A_ (show Bw w W from Below.go);go_wp2;go_ret;exact⟨rfl,G⟩
theorem C6s {w:AD} {A:Option AJ} {u c n:Nat} {M:List (List TRat)} {s:List Nat} (D:Sl w A u c (spM M).rows s) (b:SqM n M) {i:Nat} (hi:i<n) :
  u=n/\∃ (g o:Nat) (r:List TRat) (gC oC n1 c1:Nat) (A2:Option AJ) (c2:Nat) (t1 t2:List Nat),A=QZ ⟨g,o,I⟩/\g<w.1.size/\M[i]?=QZ r/\w.cell? ⟨g,o+i*2,I⟩=QZ (S (QZ ⟨gC,oC,I⟩) n1 c1)/\w.cell? ⟨g,o+i*2+1,I⟩=QZ (S A2 n1 c2)/\Sl w (QZ ⟨gC,oC,I⟩) n1 c1 (A2z r n).cols t1/\Sl w A2 n1 c2 (A2z r n).vals t2/\n1<=n:=by
 obtain rfl:u=n:=by rw[<-D.1];simp[spM,b.len]
 refine⟨rfl,?_⟩;obtain⟨g,o,x,Z,n1,c1,t1,A2,n2,c2,t2,rfl,W,H,O,T,k1,k2,_⟩:=TRow.elem D hi;obtain⟨r,h⟩:∃ r,M[i]?=QZ r:=⟨_,DU (by rw[b.len];exact hi)⟩
 have Y:x=A2z r u:=by simp only[spM,IR,h,Option.map_some,QZ.injEq]at H;rw[<-H,B7m,b.row r (DH h)]
 subst Y;have G:=b.nz r (DH h);rw[B7m,b.row r (DH h)]at G;have E:=B8l r u;obtain rfl:n1=n2:=by rw[<-k1.1,<-k2.1,E.1]
 have X:0<n1:=by rw[<-k1.1];exact List.length_pos_iff.2 G
 obtain⟨gC,oC,_,rfl,_⟩:=k1.2.2.2.2 X;exact⟨g,o,r,gC,oC,n1,c1,A2,c2,t1,t2,rfl,W,h,O,T,k1,k2,by rw[<-k1.1];exact E.2⟩
def GivesP {α:Type} [Dat α] (P:Nat->Prop) (w:AD) (x:α) (e:Ending) (w':AD):Prop:=∃ v s,e=.returned v/\Agg w' v x s/\(∀ b∈s,P b)/\Bw w w'
theorem GivesP.weak {α:Type} [Dat α] {P Q:Nat->Prop} {w:AD} {x:α} {e:Ending} {w':AD} (h:GivesP P w x e w') (O:∀ b,P b->Q b):GivesP Q w x e w':=by
 obtain⟨v,s,u,D,E,G⟩:=h;exact⟨v,s,u,D,λb H=>O b (E b H),G⟩
theorem C3x (v:AU) (M:List (List TRat)) (n:Nat) (s:List Nat) (i j:Nat) (u w:AD) (al:Agg u v (spM M) s) (Y:Bw u w) (ai:SqM n M) (hi:i<n) (a9:j<n):BL prog 174 #[v,N RD i,N RD j] w (GivesP (λb=>b<u.1.size\/w.1.size<=b) w (B4g M i j)):=by
 have aE:=A_ ai;have bq:=ai.n40;obtain⟨A,h,c,bt,rfl,rfl,aI⟩:=OS al;obtain⟨rfl,g,o,r,a6,bd,n1,aZ,bg,bh,bu,bv,rfl,X,ax,ah,T,k1,k2,bp⟩:=C6s aI ai hi;have aj:=X;replace ah:=(Y.cell (p:=⟨g,_,I⟩) aj).trans ah;replace T:=(Y.cell (p:=⟨g,_,I⟩) aj).trans T;replace X:g<w.1.size:=JC aj Y.size;have ac:=A_ (k1.below Y);have ao:=A_ k2;have O:=A_ Y;have aD:=A_ (by unfold B4g;rw[A0e ax]:B4g M i j=r.getD j A0h);have aG:=A_ (DH ax);have bm:(i:Int)<h:=oS;have bn:(0:Int)<=i:=oS;have ab:=A_ a9;have a7:g<w.1.size+1:=oS;have a8:g<w.1.size+1+1:=oS;clear al aI ai k1 k2 ax hi aj Y;go_enter func174,ntmps174;go_upto_region 1 with fail;refine Code.new2 λap ag=>?_;have aa:=A_ ag.b;have am:=A_ ag.k;have aH:=A_ ag.l;clear ag a7 a8;obtain⟨aB,aC,az⟩:=bx am;have be:=(aa.cell (p:=⟨g,_,I⟩) X).trans ah;have aM:=(aa.cell (p:=⟨g,_,I⟩) X).trans T;have aw:g<ap.1.size:=JC X aa.size;clear ah T X;go_wp2_with fail
 have C:=E7f a6 bd n1 aZ (A2z r h).cols (j:Int) ap (by rw[ac.o.1];exact CE _) oS (λq ak=>by
  obtain⟨b,br,x,e,W,al,_,H⟩:=DL (ac.o.below aa.o) (k:=q) (by rw[<-ac.o.1];exact ak);injection e with e;injection e with T e2 _;subst T;subst e2;rw[H,EH,al];rfl) (by
  rw[DT (by rw[ac.o.1];exact CE _)];exact(B8x r h).imp (λE=>Int.le_of_lt E))
 rw[DT (by rw[ac.o.1];exact CE _),E7e r (Nat.le_of_lt ab)]at C;refine C.mono ?_;clear C;rintro _ aA ⟨rfl,q,ak⟩;have G:=Go.XB.below_drewN ap q;rw[<-ak]at G;have D:=A_ (BH aa G);have aX:=A_ (A0z am G);have an:=A_ (A0z aH G);replace aM:=(G.cell (p:=⟨g,_,I⟩) aw).trans aM;have bl:g<aA.1.size:=JC aw G.size;clear ak G aB aC az be aw am aH;obtain⟨aB,aC,az⟩:=bx aX;obtain⟨aN,aO,l1⟩:=bx an;by_cases Z:A2v (r.getD j A0h)=0
 ·have H:(A2z r h).cols.contains (j:Int)=AH:=by
   cases E:(A2z r h).cols.contains (j:Int)with
   |false=>rfl
   |true=>exact absurd Z ((E2m r h ab).1 E)
  have aS:=A_ (show r.getD j A0h=U_ 0 from E8z (aE.o.ok r aG.o _ (D1r (by rw[aE.o.row r aG.o];exact ab))) Z)
  rw[H]
  clear Z H
  go_wp2_with fail
  refine(A0l 0 aA oG).mono ?_
  rintro _ bA ⟨bz,aL,rfl,aq,aK,au⟩
  obtain⟨aT,ba,a1,bi,aU,bc,a2,ad,rfl,bf,_,_⟩:=CF aq
  have aV:=A_ aq;have aF:=A_ aK;have aP:=A_ (BH D au);have aY:=A_ (A0z an au)
  clear aq aK au aB aC az aN aO l1 bf
  obtain⟨aN,aO,l1⟩:=bx aY
  go_wp2
  refine CK (v:=BJ #[RT (U_ 0).1.1,S aT ba a1,S aU bc a2]) (by simp[CO,results174,go_sem, *]) rfl ?_
  rw[aD.o,aS.o]
  have af:=A_ (show ∀ b∈aL,b≠w.1.size+1 from λb W=>by have:=(aF.2 b W).1;have:=E_ an;omega)
  exact⟨_,aL,rfl,aV.keepG (A5y (A5y (A5y (B3a _ _)))) (λE=>af _ E rfl),λb W=>.inr (by have:=(aF.2 b W).1;have:=D.size;omega),((aP.o.setCell (p:=⟨w.1.size+1,0,I⟩) sI _).setCell (p:=⟨w.1.size+1,1,I⟩) sI _).setCell (p:=⟨w.1.size+1,2,I⟩) sI _⟩
 ·have H:(A2z r h).cols.contains (j:Int)=AF:=(E2m r h ab).2 Z
  obtain⟨cnt,aJ⟩:∃ cnt,(A2z r j).cols.length=cnt:=⟨_,rfl⟩
  have ay:=E7n r Z h ab;rw[H,aJ]at *;have bo:cnt<n1:=by rw[<-ao.o.1];exact(DM.1 ay).1
  obtain⟨ad,o2,_,rfl,_⟩:=ao.o.2.2.2.2 oS;obtain⟨aQ,m1,a3,aR,m2,a4,a5,ae,u0,u1,u2,ar⟩:=Sl.ratAt ao ay;replace u0:=((BH O D).cell (p:=⟨ad,_,I⟩) ae).trans u0;replace u1:=((BH O D).cell (p:=⟨ad,_,I⟩) ae).trans u1;replace u2:=((BH O D).cell (p:=⟨ad,_,I⟩) ae).trans u2;replace ae:ad<aA.1.size:=JC ae (BH O D).size;have af:=A_ ar.lt;have aW:=A_ (ar.below (BH O D));have bj:(cnt:Int)<n1:=oS;have bk:(0:Int)<=cnt:=oS;clear Z H aJ ay ar;go_wp2;refine CK (v:=BJ #[RT (r.getD j A0h).1.1,S aQ m1 a3,S aR m2 a4]) (by simp[CO,results174,go_sem, *]) rfl ?_;rw[aD.o];exact⟨_,a5,rfl,aW.keepG (A5y (A5y (A5y (B3a _ _)))) (λE=>by have:=af _ E;have:=O.size;omega),λb W=>.inl (af.o b W),((D.o.setCell (p:=⟨w.1.size+1,0,I⟩) sI _).setCell (p:=⟨w.1.size+1,1,I⟩) sI _).setCell (p:=⟨w.1.size+1,2,I⟩) sI _⟩
theorem D8i (v:AU) (M:List (List TRat)) (n:Nat) (s:List Nat) (i j:Nat) (w:AD) (hx:Agg w v (spM M) s) (hM:SqM n M) (hi:i<n) (hj:j<n):BL prog 174 #[v,N RD i,N RD j] w (C4o w (B4g M i j)) :=
 (C3x v M n s i j w w hx (Below.refl _ _) hM hi hj).mono λ_ _ ⟨v,s,h1,h2,_,h4⟩=>⟨v,s,h1,h2,h4⟩
section
def at3 (a b c:Int):Nat->Int
 |0=>a
 |1=>b
 |_=>c
theorem ixs (a b c:Int) (i:Nat) (h:i<3) (w:AD):Sem.run prog (Instr.index 111 (BJ #[N RD a,N RD b,N RD c]) (N RD (i:Int))) w=.ok (N RD (at3 a b c i)) w:=by
 obtain rfl|rfl|rfl:i=0\/i=1\/i=2:=oS;·exact ix0 a b c w
 ·exact ix1 a b c w
 exact ix2 a b c w
theorem D6z {n:Nat} {t:TTri} (h:A5v n t) (i:Nat):0<=at3 t.a t.b t.c i/\at3 t.a t.b t.c i<n:=by
 obtain⟨⟨_,_⟩,⟨_,_⟩,⟨_,_⟩⟩:=h;match i with
 |0=>exact⟨by assumption,by assumption⟩
 |1=>exact⟨by assumption,by assumption⟩
 |_+2=>exact⟨by assumption,by assumption⟩
def B2c (rows:List Int) (p q:Int) (x:TRat) (M:List (List TRat)):List (List TRat) :=
 bif decide (0<=rows.getD p.toNat (-1))&&decide (0<=rows.getD q.toNat (-1))then
  M.set (rows.getD p.toNat (-1)).toNat ((M.getD (rows.getD p.toNat (-1)).toNat []).set (rows.getD q.toNat (-1)).toNat (A0k ((M.getD (rows.getD p.toNat (-1)).toNat []).getD (rows.getD q.toNat (-1)).toNat A0h) x))
 else M
def A6j (rows:List Int) (t:TTri) (L:List (List TRat)) (i:Nat) (M:List (List TRat)):Nat->List (List TRat)
 |0=>M
 |j+1=>B2c rows (at3 t.a t.b t.c i) (at3 t.a t.b t.c j) ((L.getD i []).getD j A0h) (A6j rows t L i M j)
def A7x (rows:List Int) (t:TTri) (L:List (List TRat)) (M:List (List TRat)):Nat->List (List TRat)
 |0=>M
 |i+1=>A6j rows t L i (A7x rows t L M i) 3
def A6h (m:TMesh) (rows:List Int) (n:Nat) (loc:Nat->List (List TRat)):Nat->List (List TRat)
 |0=>DK n (DK n (U_ 0))
 |k+1=>A7x rows (m.triangles.getD k ⟨0,0,0,0,0⟩) (loc k) (A6h m rows n loc k) 3
def C0y (m:TMesh) (loc:Nat->List (List TRat)):List (List TRat):=A6h m (B1i m) (A3f m AH).length loc m.triangles.length
theorem B4c {b:List Int} {p q:Int} {x:TRat} {M:List (List TRat)} (h:b.getD p.toNat (-1)<0\/b.getD q.toNat (-1)<0):B2c b p q x M=M:=by
 unfold B2c;have e:(decide (0<=b.getD p.toNat (-1))&&decide (0<=b.getD q.toNat (-1)))=AH:=by
  rcases h with h|h;·rw[decide_eq_false oS];rfl
  rw[decide_eq_false (p:=0<=b.getD q.toNat (-1)) oS,Bool.and_false]
 rw[e];rfl
theorem C3d {rows:List Int} {t:TTri} {L:List (List TRat)} {i:Nat} {M:List (List TRat)} (h:rows.getD (at3 t.a t.b t.c i).toNat (-1)<0):∀ j,A6j rows t L i M j=M
 |0=>rfl
 |j+1=>by rw[A6j,C3d h j,B4c (.inl h)]
theorem C2y {rows:List Int} {t:TTri} {L:List (List TRat)} {M:List (List TRat)} (h:∀ i,rows.getD (at3 t.a t.b t.c i).toNat (-1)<0):∀ i,A7x rows t L M i=M
 |0=>rfl
 |i+1=>by rw[A7x,C2y h i,C3d (h i)]
theorem C1e {m:TMesh}:∀ x∈B1i m,-1<=x/\x<(A3f m AH).length:=λx h=>C0v _ _ _ x h
theorem C0l (m:TMesh):(B1i m).length=m.1.length:=B8c _ _ _
theorem Sl.intAt {w:AD} {g n c:Nat} {xs:List Int} {bs:List Nat} (h:Sl w (QZ ⟨g,0,I⟩) n c xs bs) {k:Nat} {x:Int} (b:xs[k]?=QZ x):w.cell? ⟨g,k,I⟩=QZ (N RD x)/\g<w.1.size:=by
 have G:k<n:=by rw[<-h.1];exact(DM.1 b).1
 obtain⟨H,O,y,e,E,u,_,D⟩:=DL h G;rw[b]at u;injection e with e;injection e with e1 e2 _;subst e1;subst e2;rw[Option.some.inj u];exact⟨by simpa using D,E⟩
def Tel (c:Bool) (P:Prop):Prop:=(c=AF->P)/\(P->c=AF)
structure Kp (bad:List Nat) (w w':AD):Prop where
 sz:w.1.size<=w'.1.size
 kp:∀ b,b<w.1.size->b∉bad->w'.1[b]?=w.1[b]?
theorem Kp.refl (bad:List Nat) (w:AD):Kp bad w w:=⟨CE _,λ_ _ _=>rfl⟩
theorem Kp.below {bad:List Nat} {w w' w2:AD} (h:Kp bad w w') (hb:Bw w' w2):Kp bad w w2 :=
 ⟨CJ h.sz hb.size,λb hl hn=>(hb.block b (JC hl h.sz)).trans (h.kp b hl hn)⟩
theorem Kp.set {bad:List Nat} {w w':AD} (h:Kp bad w w') {g:Nat} (hg:g∈bad) (o1 o2 o3:Nat) (v1 v2 v3:AU):Kp bad w (((w'.setCell ⟨g,o1,I⟩ v1).setCell ⟨g,o2,I⟩ v2).setCell ⟨g,o3,I⟩ v3) :=
 ⟨by simpa[World.setCell]using h.sz,λb hl hn=>by
  have hne:b≠g:=λe=>hn (e ▸ hg)
  exact(GA _ _ _ b (by simpa using hne)).trans ((GA _ _ _ b (by simpa using hne)).trans ((GA _ _ _ b (by simpa using hne)).trans (h.kp b hl hn)))⟩
theorem Kp.sl {α:Type} [Dat α] {bad:List Nat} {w w':AD} {A:Option AJ} {n c:Nat} {xs:List α} {bs:List Nat} (h:Kp bad w w') (hs:Sl w A n c xs bs) (hd:∀ b∈bs,b∉bad):Sl w' A n c xs bs:=hs.keep λb hb=>h.kp b (hs.lt b hb) (hd b hb)
theorem Kp.cell {bad:List Nat} {w w':AD} {b:Nat} {o:Obj} (h:Kp bad w w') (hc:w.1[b]?=QZ o) (hd:b∉bad):w'.1[b]?=QZ o:=(h.kp b (E_ hc) hd).trans hc
theorem D3d {b:List Int} {p q:Int} {y z:Nat} {x a:TRat} {r:List TRat} {M:List (List TRat)} (u:b[p.toNat]?=QZ (y:Int)) (D:b[q.toNat]?=QZ (z:Int)) (E:M[y]?=QZ r) (h:r[z]?=QZ a):B2c b p q x M=M.set y (r.set z (A0k a x)):=by
 unfold B2c;rw[A0e u,A0e D];simp only[PI,A0e E,A0e h];rw[decide_eq_true oS,decide_eq_true (p:=(0:Int)<=z) oS];rfl
attribute [local go_sem] ixs D2h
set_option maxRecDepth 20000 in
theorem C6b (f:Nat) (dN:A4f f) (b7:AU) (v:AU) (m:TMesh) (b:List Nat) (D:Nat->List (List TRat)) (M:List (List TRat)) (w:AD) (br:Agg w v m b) (aN:m.1.length<=40) (bc:m.triangles.length<=48) (ch:B8e m) (aj:∀ t∈m.triangles,A5v m.1.length t)
  (cm:∀ (k:Nat) (W:AD),k<m.triangles.length->Bw w W->BL prog f #[N RD k,b7] W (D5i W (D k)))
  (aA:∀ k,k<m.triangles.length->(D k).length=3/\∀ r∈D k,r.length=3)
  (be:C0y m D=M) (ok:∀ r∈M,r.length<=40/\∀ x∈r,J_ x=AF) :
  BL prog 119 #[v,.func (.func f) #[] #[b7]] w (E5l w (spM M)):=by
 unfold A4f at dN;have ds:=A_ br;have c2:=A_ bc;have c1:=A_ aN;have db:=A_ ch;have dd:=A_ aj;have dh:=A_ cm;have dg:=A_ aA;have ek:=A_ be;have dw:=A_ ok;obtain⟨bF,af,b0,fn,bG,n1,b3,fo,rfl,rfl,aV,aF⟩:=TMesh.agg br;have dn:=A_ aF;have de:=A_ aV.1;have df:=A_ aF.1;have eS:af<=40:=by rw[<-aV.1];exact aN
 have eU:n1<=48:=by rw[<-aF.1];exact bc
 have eT:(af:Int)<=40:=oS;have eV:(n1:Int)<=48:=oS;obtain⟨n,aB⟩:∃ n,(A3f m AH).length=n:=⟨_,rfl⟩
 have cp:n<=40:=by rw[<-aB];exact CJ (B3t m AH) aN
 have eW:(n:Int)<=40:=oS;have dj:=A_ aB;obtain⟨h,aE⟩:∃ h,B1i m=h:=⟨_,rfl⟩
 have dm:=A_ aE;have bO:=A_ (by rw[<-aE,C0l,aV.1]:h.length=af);have bP:=A_ (by rw[<-aE,<-aB];exact C1e:∀ x∈h,-1<=x/\x<n);have c8:=A_ (by rw[<-be,C0y,aE,aB,aF.1]:A6h m h n D n1=M);clear br aN bc ch aj cm aA be ok aV aF aB aE;go_enter func119,ntmps119;go_wp2_with fail;have C:=B5v _ m _ ((w.alloc (BG #[S bF af b0,S bG n1 b3] 26)).alloc (BG #[S I 0 0] 90)) (ds.below Below.go) c1 c2 db;rw[dm.o,dj.o]at C;refine C.mono ?_;clear C;rintro _ G ⟨gr,nr,d9,rfl,bp,dW,ao⟩;obtain rfl:af=nr:=by rw[<-bp.1];exact bO.symm
 obtain⟨dL,dQ⟩:=F_ ao;have e4:w.1.size<G.1.size:=ltg ao;have e5:w.1.size+1<G.1.size:=ltg ao;have bQ:=A_ bp;have c9:=A_ (show Bw w G from Below.go);have bS:=A_ (show G.1[w.1.size]?=QZ (BG #[S bF af b0,S bG n1 b3] 26)from O_ (A1y [_,_] w 0 _ rfl) (ao.mono (CE _)));have dt:=A_ (show G.1[w.1.size+1]?=QZ (BG #[S I 0 0] 90)from O_ (A1y [_,_] w 1 _ rfl) (ao.mono (CE _)));clear bp dW ao dL dQ;go_wp2_with fail;refine(D6v n _ cp).mono ?_;rintro _ eb ⟨E,cap,gs,rfl,bq⟩;have bR:=A_ bq;have aS:=bq.bl;obtain⟨d4,_⟩:=B_ (O_ bS aS) (j:=0) rfl;obtain⟨d5,_⟩:=B_ (O_ bS aS) (j:=1) rfl;have d2:w.1.size<eb.1.size:=by have:=aS.size;omega
 clear bq aS;go_wp2_with fail;go_loopg [28] n1 (λg s wr=>∃ k:Nat,k+g=n1/\s=N RD k/\BI (MSt G wr E n cap n gs (A6h m h n D k)));case atStart=>exact⟨0,oS,rfl,bR.o⟩
 case round =>
  clear bR d4 d5 d2;obtain⟨k,bi,rfl,O⟩:=hrel;rename AD=>wr;have a1:=A_ (BH c9 O.bl);have e2:=O.bl.size;rcases CG k n1 with ar|ar
  ·have eQ:(k:Int)<n1:=oS
   have eR:(0:Int)<=k:=oS;obtain⟨g,rfl⟩:∃ g,gk=g+1:=⟨gk - 1,oS⟩
   have ck:=A_ (by omega:k+1+g=n1);have eP:k+1<=n1:=ar;obtain⟨eo,fm,t,rfl,eD,bt,dF,a9,ba,dG,dH,cc⟩:=TTri.elemA (dn.below a1) ar;have c7:=A_ cc;have T:=A_ (by rw[<-de.o];exact dd t (DH bt):A5v af t);have a2:=A_ (by rw[A6h,A0e bt]:A6h m h n D (k+1)=A7x h t (D k) (A6h m h n D k) 3);have bK:=A_ (by rw[df.o];exact ar:k<m.triangles.length);have dq:=A_ (bQ.below O.bl);have aD:=A_ (show ∀ p:Int,0<=p->p<af->∃ x,h[p.toNat]?=QZ x by intro p ey ab;exact⟨_,DU (by rw[bO.o];omega)⟩);obtain⟨bv,cz⟩:=aD t.a T.1.1 T.1.2;obtain⟨bz,cA⟩:=aD t.b T.2.1.1 T.2.1.2;obtain⟨bA,cB⟩:=aD t.c T.2.2.1 T.2.2.2;obtain⟨e7,e8⟩:=T.1;obtain⟨e9,fa⟩:=T.2.1;obtain⟨fb,fc⟩:=T.2.2;have a3:=A_ cz;have a4:=A_ cA;have a5:=A_ cB;have ej:=A_ bi;clear bi ar bt cc cz cA cB;go_wp2_with fail;refine(A2g _ t _ (wr.alloc (BG #[N RD t.a,N RD t.b,N RD t.c,N RD t.4,N RD t.5] 109)) (c7.below (BP _))).mono ?_;rintro _ w3 ⟨rfl,cg⟩;have bJ:=A_ (show Bw wr w3 from BH (BP _) cg);clear cg;go_upto_region 7 with fail;obtain⟨ae,aP⟩:∃ ae,ae=w3.alloc (BG #[N RD t.a,N RD t.b,N RD t.c] 111):=⟨_,rfl⟩
   obtain⟨an,aR⟩:∃ an,w3.1.size=an:=⟨_,rfl⟩
   have aw:=A_ (by rw[aP];exact BH bJ (BP _):Bw wr ae);have ax:=A_ (by rw[aP,<-aR];exact DB w3 _:ae.1[an]?=QZ (BG #[N RD t.a,N RD t.b,N RD t.c] 111));have eC:wr.1.size<=an:=by rw[<-aR];exact bJ.size
   rw[<-aP,aR];clear aP aR;have ay:=A_ (dq.below aw);obtain⟨bD,_⟩:=B_ ax (j:=0) rfl;obtain⟨bE,_⟩:=B_ ax (j:=1) rfl;obtain⟨cU,_⟩:=B_ ax (j:=2) rfl;simp at bD bE cU;obtain⟨cQ,_⟩:=Sl.intAt ay a3;obtain⟨cR,_⟩:=Sl.intAt ay a4;obtain⟨ed,_⟩:=Sl.intAt ay a5;go_cut [56] (λsb wx=>(∃ c:Bool,sb=RT c/\Tel c (bv<0/\bz<0/\bA<0))/\wx=ae);case first =>
    rcases FH bv 0 with ab|ab
    ·rcases FH bz 0 with ac|ac
     ·rcases FH bA 0 with aM|aM
      ·go_wp2_with fail;go_meet;exact⟨⟨AF,rfl,λ_=>⟨ab,ac,aM⟩,λ_=>rfl⟩,rfl⟩
      have eB:¬ (bA<0):=oS;go_wp2_with fail;go_meet;exact⟨⟨AH,rfl,(λY=>by cases Y),λY=>by have:=Y.2.2;omega⟩,rfl⟩
     have eA:¬ (bz<0):=oS;go_wp2_with fail;go_meet;exact⟨⟨AH,rfl,(λY=>by cases Y),λY=>by have:=Y.2.1;omega⟩,rfl⟩
    have ez:¬ (bv<0):=oS;go_wp2_with fail;go_meet;exact⟨⟨AH,rfl,(λY=>by cases Y),λY=>by have:=Y.1;omega⟩,rfl⟩
   case rest =>
   obtain⟨⟨dD,rfl,cE⟩,cF⟩:=hcut;obtain rfl:ae=wc:=cF.symm;have bW:=A_ cE;clear cE cF cQ cR ed bD bE cU dF a9 ba dG dH;cases dD
   ·go_wp2_with fail
    refine(dh k ae bK (BH a1 aw)).mono ?_;obtain⟨L,aO⟩:∃ L,D k=L:=⟨_,rfl⟩
    rw[aO];have bL:=A_ aO;obtain⟨aA,cy⟩:L.length=3/\∀ r∈L,r.length=3:=by rw[<-aO];exact dg k bK
    have dk:=A_ cy;rintro _ aX ⟨ef,d6,ep,dJ,rfl,aW,co,az⟩;obtain rfl:3=d6:=by rw[<-aW.1];exact aA.symm
    obtain⟨el,fj,_,rfl,_⟩:=aW.2.2.2.2 dE;have dp:=A_ aW;have ei:=A_ az;have di:=A_ co;have ai:=A_ (show MSt G aX E n cap n gs (A7x h t L (A6h m h n D k) 0)from(O.below aw).below az);have dz:=A_ (ay.below az);have am:=A_ (O_ ax az);have bM:=A_ O.ltAll;have e1:=aw.size;have cY:=A_ (show ∀ b∈d9,b∉E::gs.map (·.1)from λb Z ak=>by have ab:=bQ.lt b Z;have ac:=O.lo b ak;omega);have cX:=A_ (show ∀ b∈dJ,b∉E::gs.map (·.1)from λb Z ak=>by have ab:=di b Z;have ac:=bM b ak;omega);have aZ:=A_ (show an∉E::gs.map (·.1)from λak=>by have ac:=bM an ak;omega);have bT:=A_ (by rw[a2.o,bL.o]:A6h m h n D (k+1)=A7x h t L (A6h m h n D k) 3);have cW:=A_ (show(A6h m h n D k).length=n from O.ml);obtain⟨ad,b8⟩:∃ ad,A6h m h n D k=ad:=⟨_,rfl⟩
    rw[b8]at ai bT cW;clear aW co az aA cy aO O b8 a2 bL ay ax bW a3 a4 a5;obtain⟨aH,_⟩:=B_ am (j:=0) rfl;obtain⟨aI,_⟩:=B_ am (j:=1) rfl;obtain⟨aJ,_⟩:=B_ am (j:=2) rfl;simp at aH aI aJ;go_wp2_with fail;go_loopg [64] 3 (λg2 s wr2=>∃ i:Nat,i+g2=3/\s=N RD i/\BI (MSt G wr2 E n cap n gs (A7x h t L ad i))/\BI (Kp (E::gs.map (·.1)) aX wr2));case atStart=>exact⟨0,oS,rfl,ai.o,Kp.refl _ _⟩
    case round =>
     clear ai aH aI aJ;obtain⟨i,ci,rfl,aK,al⟩:=hrel;rename AD=>aY;rcases CG i 3 with aj|aj
     ·have dU:(i:Int)<3:=oS
      have eM:(0:Int)<=i:=oS;have dT:i<3:=aj;obtain⟨g2,rfl⟩:∃ g2,gk=g2+1:=⟨gk - 1,oS⟩
      have dS:=A_ (by omega:i+1+g2=3);obtain⟨aH,_⟩:=B_ (al.cell am aZ) (j:=0) rfl;obtain⟨aI,_⟩:=B_ (al.cell am aZ) (j:=1) rfl;obtain⟨aJ,_⟩:=B_ (al.cell am aZ) (j:=2) rfl;simp at aH aI aJ;obtain⟨cs,ct⟩:=D6z T i;obtain⟨p,cq⟩:∃ p,at3 t.a t.b t.c i=p:=⟨_,rfl⟩
      rw[cq]at cs ct;have dx:=A_ cq;obtain⟨au,bm⟩:=aD p cs ct;have a6:=A_ bm;have dX:=bP au (DH bm);obtain⟨eZ,e0⟩:=dX;have bX:=A_ (show A7x h t L ad (i+1)=A6j h t L i (A7x h t L ad i) 3 from rfl);have ai:=A_ (show MSt G aY E n cap n gs (A6j h t L i (A7x h t L ad i) 0)from aK);obtain⟨aa,b9⟩:∃ aa,A7x h t L ad i=aa:=⟨_,rfl⟩
      rw[b9]at bX ai;clear ci aj bm aK b9;go_wp2_with fail;go_loopg [69] 3 (λg3 s wr3=>∃ j:Nat,j+g3=3/\s=N RD j/\BI (MSt G wr3 E n cap n gs (A6j h t L i aa j))/\BI (Kp (E::gs.map (·.1)) aX wr3));case atStart=>exact⟨0,oS,rfl,ai.o,al.o⟩
      case round =>
       clear ai aH aI aJ al;obtain⟨j,cj,rfl,X,ag⟩:=hrel;rename AD=>bB;rcases CG j 3 with aU|aU
       ·have eN:(j:Int)<3:=oS
        have eO:(0:Int)<=j:=oS;have dV:j<3:=aU;obtain⟨g3,rfl⟩:∃ g3,gk=g3+1:=⟨gk - 1,oS⟩
        have bh:=A_ (by omega:j+1+g3=3);obtain⟨cv,cw⟩:=D6z T j;obtain⟨q,cu⟩:∃ q,at3 t.a t.b t.c j=q:=⟨_,rfl⟩
        rw[cu]at cv cw;have dy:=A_ cu;obtain⟨aG,bn⟩:=aD q cv cw;have a7:=A_ bn;obtain⟨dY,dZ⟩:=bP aG (DH bn);have aL:=A_ (by rw[A6j,dx.o,dy.o]:A6j h t L i aa (j+1)=B2c h p q ((L.getD i []).getD j A0h) (A6j h t L i aa j));have bU:=A_ (ag.sl dz cY);obtain⟨cQ,eL⟩:=Sl.intAt bU a6;obtain⟨cR,_⟩:=Sl.intAt bU a7;clear cj aU bn;by_cases bj:au<0
        ·obtain rfl:au = -1:=oS
         have ah:=A_ (show MSt G bB E n cap n gs (A6j h t L i aa (j+1)) by rw[aL.o,B4c (.inl (by rw[A0e a6.o];decide))];exact X);clear X bj;go_wp2_with fail;go_roundg g3;case measure=>omega
         case rel=>exact⟨j+1,bh,gN,ah,ag⟩
        by_cases cx:aG<0
        ·obtain rfl:aG = -1:=oS
         have ah:=A_ (show MSt G bB E n cap n gs (A6j h t L i aa (j+1)) by rw[aL.o,B4c (.inr (by rw[A0e a7.o];decide))];exact X);have eY:0≤au:=by omega
         clear X bj cx;go_wp2_with fail;go_roundg g3;case measure=>omega
         case rel=>exact⟨j+1,bh,gN,ah,ag⟩
        obtain⟨y,rfl⟩:∃ y:Nat,au=y:=⟨au.toNat,oS⟩
        obtain⟨z,rfl⟩:∃ z:Nat,aG=z:=⟨aG.toNat,oS⟩
        have d1:y<n:=oS;have cH:z<n:=oS;have dA:=A_ (ag.sl dp cX);obtain⟨em,fk,cL,bH,bu,b4,ew,bd,eE,aC,eI,bo,_⟩:=Sl.elemS dA dT;injection bd with bd;injection bd with hA7 hA8 _;subst hA7;subst hA8;obtain rfl:3=bu:=by rw[<-bo.1];exact(dk cL (DH aC)).symm
        obtain⟨en,fl,x,eg,fh,er,et,eh,fi,es,eu,rfl,eF,cG,u0,u1,u2,cd⟩:=IM bo dV;obtain⟨u,dB,d8,bg,bk,eG,eX,ca,_⟩:=X.row d1;obtain⟨a,cZ,m1,a9,c0,m2,ba,ex,cb,cM,v1,v2,cN,cO,cP,ce,_,aq⟩:=ca.elem cH;have dv:=A_ (show A6j h t L i aa (j+1)=(A6j h t L i aa j).set y (d8.set z (A0k a x)) by rw[aL.o,A0e aC,A0e cG];exact D3d a6 a7 bk cb);have c5:=A_ cd;have c6:=A_ ce;have dc:=A_ bg;have dl:=A_ bk;have dR:=A_ (show u∈E::gs.map (·.1)from List.mem_cons_of_mem _ (List.mem_map.2 ⟨(u,dB),DH bg,rfl⟩));clear aC cG cb bg bk bo ca cd ce bj cx dY dZ aL;go_wp2_with fail;refine X_ sI ?_;dsimp only[DN,DO,DQ];iterate 31 refine C_ _ ?_
        refine D_ (CH (A0k a x)) ?_ ?_;·intro ee cV ec H ap;obtain ⟨eH,eJ⟩:=F_ H;simp at ap;refine G_ ?_;exact H_ (A0x _ _ a x _ _ ec (c6.below H) (c5.below H))
        refine C_ _ ?_;intro ee cV wa H ap (dM:BI _);simp at ap;have d7:=ap.2.2.2.2.2.2.2.2.2.2.2.2.2.2.2.2.2.2.2.2.2.2.2.2.2.2.2.2.2.2.2.1;have cK:=ap.2.2.2.2.2.2.2.2.2.2.2.2.2.2.2.2.2.2.2.2.2.2.2.2.2.2.2.2.2.2.2.2;have ev:=cK.1.1;obtain⟨⟨aQ,dO⟩,bl⟩:=d7;obtain⟨bY,cI,b5,fp,bZ,cJ,b6,fq,dI,d3,_,_⟩:=CF aQ;rw[dI]at aQ;have d0:=H.size
        obtain⟨fd,k1,k2,fe,ff,fg⟩:wa.cell? ⟨u,z*3,I⟩=QZ (RT a.1.1)/\wa.cell? ⟨u,z*3+1,I⟩=QZ (S cZ m1 a9)/\wa.cell? ⟨u,z*3+2,I⟩=QZ (S c0 m2 ba)/\wa.frozen? ⟨u,z*3,I⟩=AH/\wa.frozen? ⟨u,z*3+1,I⟩=AH/\wa.frozen? ⟨u,z*3+2,I⟩=AH :=
         ⟨(H.cell (p:=⟨u,_,I⟩) aq).trans cM,(H.cell (p:=⟨u,_,I⟩) aq).trans v1,(H.cell (p:=⟨u,_,I⟩) aq).trans v2,(H.frozen (p:=⟨u,_,I⟩) aq).trans cN,(H.frozen (p:=⟨u,_,I⟩) aq).trans cO,(H.frozen (p:=⟨u,_,I⟩) aq).trans cP⟩
        have eK:u<wa.1.size:=oS;have ah:=A_ (show MSt G (((wa.setCell ⟨u,z*3,I⟩ (RT (A0k a x).1.1)).setCell ⟨u,z*3+1,I⟩ (S bY cI b5)).setCell ⟨u,z*3+2,I⟩ (S bZ cJ b6)) E n cap n gs (A6j h t L i aa (j+1)) by
         rw[dv.o]
         exact (X.below H).set dc dl (j:=z) cH aQ (fun b Z ak=>by
          have ab:=(bl b Z).1;have ac:=X.ltAll b ak;omega) (fun b Z=>by
          have ab:=(bl b Z).1;have ac:=X.bl.size;omega))
        have du:=A_ (show Kp (E::gs.map (·.1)) aX (((wa.setCell ⟨u,z*3,I⟩ (RT (A0k a x).1.1)).setCell ⟨u,z*3+1,I⟩ (S bY cI b5)).setCell ⟨u,z*3+2,I⟩ (S bZ cJ b6))from(ag.below H).set dR _ _ _ _ _ _);generalize cV 31=fs at *;clear ap dM cK aQ dO bl d3 H X ag cM v1 v2 cN cO cP d0 u0 u1 u2;go_wp2_with fail;go_roundg g3;case measure=>omega
        case rel=>exact⟨j+1,bh,gN,ah,du⟩
       obtain rfl:j=3:=oS;have a8:=A_ (by rw[bX.o];exact X:MSt G bB E n cap n gs (A7x h t L ad (i+1)));clear cj aU X;go_wp2_with fail;go_roundg g2;case measure=>omega
       case rel=>exact⟨i+1,dS,gN,a8,ag⟩
     obtain rfl:i=3:=oS;have a8:=A_ (by rw[bT.o];exact aK:MSt G aY E n cap n gs (A6h m h n D (k+1)));clear ci aj aK al;go_wp2_with fail;go_roundg g;case measure=>omega
     case rel=>exact⟨k+1,ck,gN,a8⟩
   have bV:=A_ (show A6h m h n D (k+1)=A6h m h n D k by
    rw[a2.o];obtain⟨ab,ac,aM⟩:=bW.1 rfl;refine C2y (λi=>?_) 3;match i with
    |0=>show h.getD t.a.toNat (-1)<0;rw[A0e a3.o];exact ab
    |1=>show h.getD t.b.toNat (-1)<0;rw[A0e a4.o];exact ac
    |_+2=>show h.getD t.c.toNat (-1)<0;rw[A0e a5.o];exact aM)
   have ah:=A_ (by rw[bV.o];exact O.below aw:MSt G ae E n cap n gs (A6h m h n D (k+1)));clear O bV;go_wp2_with fail;go_roundg g;case measure=>omega
   case rel=>exact⟨k+1,ck,gN,ah⟩
  obtain rfl:k=n1:=oS;have dU:¬ ((k:Int)<k):=oS;obtain⟨bs,cD,_⟩:=O.sl;have dr:=A_ cD;have bI:=A_ (show A6h m h n D k=M from c8);clear bi ar cD;go_wp2_with fail;have C:=D4j _ n cap _ bs wr dr.o cp (by rw[bI.o];exact dw);rw[bI.o]at C;refine C.mono ?_;clear C;rintro _ aY ⟨fr,ea,rfl,bf,cn,aT⟩;obtain⟨bH,bu,b4,cL,rfl,rfl,aC⟩:=OS bf;have c4:=A_ bf;have bN:=A_ cn;have da:=A_ (BH a1 aT);obtain⟨bD,bE⟩:=B_ (O_ (O_ dt O.bl) aT) (j:=0) rfl;have e6:w.1.size+1<aY.1.size:=by have:=aT.size;omega
  clear bf aC aT cn;go_wp2;have e3:=O.bl.size;refine CK (v:=BJ #[S bH bu b4]) (by simp[CO,results119,go_sem, *]) rfl ?_;exact⟨_,ea,rfl,(c4.keep (λb Z=>GA _ _ _ _ (by have:=bN b Z;simp;omega))).below (BP _),(λb Z=>by have:=bN.o b Z;omega),BH (da.o.setCell (p:=⟨w.1.size+1,0,I⟩) sI _) (BP _)⟩
end
def D6n:TTri:=⟨0,0,0,0,0⟩
structure MeshD (m:TMesh) (xs ys:List Int):Prop where
 mesh:MeshI m xs ys
 es:B8e m
 tri:∀ t∈m.triangles,TriOk m t
 grad:∀ t∈m.triangles,GradOk (Z_ m.1 t.a) (Z_ m.1 t.b) (Z_ m.1 t.c)
 massd:∀ t∈m.triangles,∀ r∈E3h m t,r.any A2e=AH
 stiffd:∀ t∈m.triangles,∀ r∈B6b m t,r.any A2e=AH
def A9s (p:TProblem) (k:Nat):List (List TRat):=A9r (p.2.getD (p.1.triangles.getD k D6n).4.toNat A0h) (B6b p.1 (p.1.triangles.getD k D6n)) 3
theorem C9v {d:TRat} {M:List (List TRat)} (h:∀ r∈M,r.length=3) (hl:M.length=3):∀ i,i<=3->∀ r∈A9r d M i,r.length=3
 |0,_,r,hr=>h r hr
 |i+1,hi,r,hr=>by
  rw[A9r]at hr
  rcases List.mem_or_eq_of_mem_set hr with hr|rfl
  ·exact C9v h hl i oS r hr
  rw[C9x]
  obtain⟨x,hx⟩:∃ x,M[i]?=QZ x:=⟨_,DU oS⟩
  rw[A0e hx]
  exact h x (DH hx)
theorem C6n (v:AU) (p:TProblem) (b:List Nat) (xs ys:List Int) (M:List (List TRat)) (w:AD) (ah:Agg w v p b) (ar:MeshD p.1 xs ys) (ap:p.2.length=3) (ao:C0y p.1 (A9s p)=M) (ok:∀ r∈M,r.length<=40/\∀ x∈r,J_ x=AF) :
  BL prog 51 #[v] w (E5l w (spM M)):=by
 have aF:=A_ ah;have h:=A_ ar;have aD:=A_ ao;have aG:=A_ ok;have aB:=A_ ap;obtain⟨X,ak,ac,aT,Y,n1,ad,aU,Z,n2,ae,aV,aa,al,c3,aW,rfl,rfl,aw,ax,aL,aM⟩:=TProblem.agg ah;have aC:=A_ (TMesh.mkAgg (x:=p.1) aw ax);clear ah ar ao ok aw ax aL aM ap;go_enter func51,ntmps51;obtain⟨u,G⟩:∃ u,u=((w.alloc (BG #[S X ak ac,S Y n1 ad,S Z n2 ae,S aa al c3] 29)).alloc (BG #[S I 0 0] 90)):=⟨_,rfl⟩
 have ab:=A_ (by rw[G];exact BH (BP _) (BP _):Bw w u);have O:=A_ (by rw[G];exact A1y [_,_] w 0 _ rfl:u.1[w.1.size]?=QZ (BG #[S X ak ac,S Y n1 ad,S Z n2 ae,S aa al c3] 29));have an:=A_ (by rw[G];exact A1y [_,_] w 1 _ rfl:u.1[w.1.size+1]?=QZ (BG #[S I 0 0] 90));have aE:=A_ G;clear G;go_wp2_with fail;rw[<-aE.o];have aQ:=lt_of_block an;have H:w.1.size<u.1.size:=oS;obtain⟨ai,_⟩:=B_ O (j:=0) rfl;obtain⟨k1,_⟩:=B_ O (j:=1) rfl;obtain⟨k2,_⟩:=B_ O (j:=2) rfl;obtain⟨aj,_⟩:=B_ O (j:=3) rfl;simp at ai k1 k2 aj;refine(C6b 120 B9j (.pointer (QZ ⟨w.1.size,0,I⟩)) _ p.1 _ (A9s p) M u (aC.below ab) h.1.n40 h.1.t48 h.es (λt E=>(h.1.tri t E).1) (λk aH aq D=>?_) (λk aq=>⟨?_,?_⟩) aD aG).mono ?_
 ·obtain⟨t,E⟩:∃ t,p.1.triangles[k]?=QZ t:=⟨_,DU aq⟩
  have W:=DH E;have aK:0<=t.4/\t.4<3:=by have:=(h.1.tri t W).2.1;unfold inB at this;simp at this;omega
  rw[A9s,A0e E];exact C1g k w.1.size X ak ac Y n1 ad Z n2 ae aa al c3 p _ t aH ((aF.below ab).below D) ((D.cell (p:=⟨w.1.size,0,I⟩) H).trans ai) ((D.cell (p:=⟨w.1.size,1,I⟩) H).trans k1) ((D.cell (p:=⟨w.1.size,2,I⟩) H).trans k2) ((D.cell (p:=⟨w.1.size,3,I⟩) H).trans aj) (JC H D.size) E (h.tri t W) (h.grad t W) h.1.ok h.1.n40 h.1.t48 (h.stiffd t W) aB aK
 ·rw[A9s,B6k];exact B1z _ _ _ 3
 ·exact C9v (B2a _ _ _ 3) (B1z _ _ _ 3) 3 (CE _)
 rintro _ aP ⟨aX,aO,rfl,af,au,T⟩;obtain⟨ay,aN,aI,aS,rfl,rfl,aJ⟩:=OS af;have az:=A_ af;have am:=A_ au;have aA:=A_ (BH ab T);obtain⟨aY,aZ⟩:=B_ (O_ an T) (j:=0) rfl;have aR:w.1.size+1<aP.1.size:=by have:=T.size;omega
 clear af aJ T au ai k1 k2 aj;go_wp2;refine CK (v:=BJ #[S ay aN aI]) (by simp[CO,results51,go_sem, *]) rfl ?_;exact⟨_,aO,rfl,az.keep (λb ag=>GA _ _ _ _ (by have:=am b ag;simp;omega)),(λb ag=>by have:=am.o b ag;omega),aA.o.setCell (p:=⟨w.1.size+1,0,I⟩) sI _⟩
section
def A7c (rows:List Int) (p:Int) (x:TRat) (V:List TRat):List TRat :=
 bif decide (0<=rows.getD p.toNat (-1))then V.set (rows.getD p.toNat (-1)).toNat (A0k (V.getD (rows.getD p.toNat (-1)).toNat A0h) x)else V
def A7n (rows:List Int) (t:TTri) (x:TRat) (V:List TRat):Nat->List TRat
 |0=>V
 |i+1=>A7c rows (at3 t.a t.b t.c i) x (A7n rows t x V i)
def C6e (p:TProblem) (t:TTri):TRat:=A0d (p.3.getD t.4.toNat A0h) (A0d (mkR 1 3) (A6c (Z_ p.1.1 t.a) (Z_ p.1.1 t.b) (Z_ p.1.1 t.c)))
def A4v (p:TProblem) (rows:List Int) (n:Nat):Nat->List TRat
 |0=>DK n (U_ 0)
 |k+1=>A7n rows (p.1.triangles.getD k D6n) (C6e p (p.1.triangles.getD k D6n)) (A4v p rows n k) 3
def A6v (p:TProblem):List TRat:=A4v p (B1i p.1) (A3f p.1 AH).length p.1.triangles.length
theorem C9b {b:List Int} {p:Int} {x:TRat} {V:List TRat} (h:b.getD p.toNat (-1)<0):A7c b p x V=V:=by
 unfold A7c;rw[decide_eq_false oS];rfl
theorem C8k {b:List Int} {p:Int} {y:Nat} {x a:TRat} {V:List TRat} (u:b[p.toNat]?=QZ (y:Int)) (h:V[y]?=QZ a):A7c b p x V=V.set y (A0k a x):=by
 unfold A7c;rw[A0e u];simp only[PI,A0e h];rw[decide_eq_true oS];rfl
theorem D0z {P:TRat->Prop} (E:∀ a b,P (A0k a b)) {D:List Int} {p:Int} {x:TRat} {V:List TRat} (h:∀ v∈V,P v):∀ v∈A7c D p x V,P v:=by
 unfold A7c;cases decide (0<=D.getD p.toNat (-1));·exact h
 intro v u;rcases List.mem_or_eq_of_mem_set u with u|rfl
 ·exact h v u
 exact E _ _
theorem C6r {P:TRat->Prop} (hr:∀ a b,P (A0k a b)) {rows:List Int} {t:TTri} {x:TRat} {V:List TRat} (h:∀ v∈V,P v):∀ i,∀ v∈A7n rows t x V i,P v
 |0=>h
 |i+1=>D0z hr (C6r hr h i)
theorem C7x {P:TRat->Prop} (hr:∀ a b,P (A0k a b)) (h0:P (U_ 0)) (p:TProblem) (rows:List Int) (n:Nat):∀ k,∀ v∈A4v p rows n k,P v
 |0,v,hv=>by rw[List.eq_of_mem_replicate (show v∈DK n (U_ 0)from hv)];exact h0
 |k+1,v,hv=>C6r hr (C7x hr h0 p rows n k) 3 v hv
attribute [local go_sem] ixs
set_option maxRecDepth 20000 in
theorem E1j (v:AU) (p:TProblem) (b:List Nat) (xs ys:List Int) (w:AD) (bu:Agg w v p b) (Y:MeshD p.1 xs ys) (cw:p.3.length=3) (cn:(A6v p).any A2e=AH) :
  BL prog 52 #[v] w (A0w w (A6v p)):=by
 have dh:=A_ bu;have ac:=A_ Y;have dc:=A_ cw;have c6:=A_ cn;obtain⟨bF,af,bY,eG,bG,n1,bZ,eH,bH,n2,b0,eI,bI,cz,c3,eJ,rfl,rfl,aF,ar,dS,ct⟩:=TProblem.agg bu;have bS:=A_ (TMesh.mkAgg (x:=p.1) aF ar);have db:=A_ ar;have c2:=A_ aF.1;have d3:=A_ ar.1;have eo:af<=40:=by rw[<-aF.1];exact Y.1.n40
 have er:n1<=48:=by rw[<-ar.1];exact Y.1.t48
 have ep:(af:Int)<=40:=oS;have es:(n1:Int)<=48:=oS;obtain⟨n,aC⟩:∃ n,(A3f p.1 AH).length=n:=⟨_,rfl⟩
 have dL:n<=40:=by rw[<-aC];exact CJ (B3t p.1 AH) Y.1.n40
 have et:(n:Int)<=40:=oS;have c4:=A_ aC;obtain⟨E,aE⟩:∃ E,B1i p.1=E:=⟨_,rfl⟩
 have da:=A_ aE;have bV:=A_ (by rw[<-aE,C0l,aF.1]:E.length=af);have c8:=A_ (by rw[<-aE,<-aC];exact C1e:∀ x∈E,-1<=x/\x<n);have bR:=A_ (by rw[A6v,aE,aC,ar.1]:A6v p=A4v p E n n1);clear bu Y cw cn aF ar dS ct aC aE;go_enter func52,ntmps52;go_wp2_with fail;have C:=B5v _ p.1 _ (w.alloc (BG #[S bF af bY,S bG n1 bZ,S bH n2 b0,S bI cz c3] 29)) (bS.below Below.go) ac.1.n40 ac.1.t48 ac.es;rw[da.o,c4.o]at C;refine C.mono ?_;clear C;rintro _ H ⟨gr,nr,cH,rfl,ae,dM,ca⟩;obtain rfl:af=nr:=by rw[<-ae.1];exact bV.symm
 have dd:=A_ ae;have cZ:=A_ (show Bw w H from Below.go);have aj:=A_ (show H.1[w.1.size]?=QZ (BG #[S bF af bY,S bG n1 bZ,S bH n2 b0,S bI cz c3] 29)from O_ (A1y [_] w 0 _ rfl) (ca.mono (CE _)));have ey:=lt_of_block aj;have c9:=A_ (show ∀ b∈cH,b<H.1.size from ae.lt);clear ae dM ca;go_wp2_with fail;refine(A0l 0 H oG).mono ?_;rintro _ wa ⟨eN,dZ,rfl,al,ck,cd⟩;obtain⟨aK,cB,b4,d9,aL,cD,b5,g2,rfl,d1,_,_⟩:=CF al;have aH:=A_ (A3x (al.below (BP (BG #[RT (U_ 0).1.1,S aK cB b4,S aL cD b5] 39))));have bT:=A_ (show ∀ b∈dZ,H.1.size<=b/\b<wa.1.size from λb G=>⟨(ck.2 b G).1,al.lt b G⟩);have bO:=A_ cd;clear al ck d1 cd;go_wp2_with fail;refine(C1n wa.1.size n [RT (U_ 0).1.1,S aK cB b4,S aL cD b5] _ (DB wa _) rfl (Dat.one aH) dL).mono ?_;rintro _ wb ⟨rfl,bq,bm⟩;rw[FU]at bq;have ev:=bO.size
 have bU:=A_ (show RR (λb=>b<H.1.size\/b=wa.1.size+1) wb (wa.1.size+1) n n (A4v p E n 0)from
  ⟨_,_,B0o bq,C0s (Dat.keep aH.o (λb G=>bm.block b (Dat.lt aH.o b G))),by simp[A4v],λb G bl=>by have eb:=bT b (B0m G);rcases bl with dD|dD<;>omega,.inr rfl⟩)
 have aM:=A_ (BH (BH bO (BP _)) bm);obtain⟨h,ce⟩:∃ h,wa.1.size+1=h:=⟨_,rfl⟩
 have bp:H.1.size<=h:=oS;simp only[FU,ce]at *;clear bq bm aH bT ce;obtain⟨bz,_⟩:=B_ (O_ aj aM) (j:=0) rfl;obtain⟨k1,_⟩:=B_ (O_ aj aM) (j:=1) rfl;have dU:w.1.size<wb.1.size:=by have:=aM.size;omega
 simp at bz k1;go_wp2_with fail;go_loopg [25] n1 (λg s wr=>∃ k:Nat,k+g=n1/\s=N RD k/\BI (RR (λb=>b<H.1.size\/b=h) wr h n n (A4v p E n k))/\BI (Bw H wr));case atStart=>exact⟨0,oS,rfl,bU.o,aM.o⟩
 case round =>
  clear bU bz k1 dU;obtain⟨k,cj,rfl,aO,ah⟩:=hrel;rename AD=>wr;have az:=A_ (BH cZ ah);have ex:=ah.size;have ec:=aO.lt;rcases CG k n1 with aB|aB
  ·have em:(k:Int)<n1:=oS
   have en:(0:Int)<=k:=oS;obtain⟨g,rfl⟩:∃ g,gk=g+1:=⟨gk - 1,oS⟩
   have dJ:=A_ (by omega:k+1+g=n1);have el:k+1<=n1:=aB;obtain⟨d4,eF,t,rfl,ed,aW,ds,bh,bi,dt,du,b8⟩:=TTri.elemA (db.below az) aB;have cW:=A_ b8;have bQ:=A_ (show p.1.triangles[k]?=QZ t from aW);have cx:=DH aW;have bP:=A_ (show A5v p.1.1.length t from(ac.1.tri t cx).1);have c1:=A_ (by rw[<-c2.o];exact bP:A5v af t);have c7:=A_ (show 0<=t.4/\t.4<3 by have:=(ac.1.tri t cx).2.1;unfold inB at this;simp at this;omega);have a3:=A_ (by rw[A4v,A0e aW]:A4v p E n (k+1)=A7n E t (C6e p t) (A4v p E n k) 3);obtain⟨au,ae⟩:∃ au,p.3.getD t.4.toNat A0h=au:=⟨_,rfl⟩
   obtain⟨ad,bk⟩:∃ ad,A6c (Z_ p.1.1 t.a) (Z_ p.1.1 t.b) (Z_ p.1.1 t.c)=ad:=⟨_,rfl⟩
   have de:=A_ ae;have cY:=A_ bk;have dm:=A_ (by rw[C6e,ae,bk]:C6e p t=A0d au (A0d (mkR 1 3) ad));obtain⟨cE,_⟩:=B_ (O_ aj ah) (j:=0) rfl;obtain⟨q1,_⟩:=B_ (O_ aj ah) (j:=1) rfl;obtain⟨q2,_⟩:=B_ (O_ aj ah) (j:=2) rfl;obtain⟨cG,_⟩:=B_ (O_ aj ah) (j:=3) rfl;simp at cE q1 q2 cG;have ez:w.1.size<wr.1.size:=oS;have eA:w.1.size<wr.1.size+1:=oS;have dO:=A_ (show ∀ p:Int,0<=p->p<af->∃ x,E[p.toNat]?=QZ x by intro p ea bj;exact⟨_,DU (by rw[bV.o];omega)⟩);clear cj aB aW b8 ae bk;obtain⟨ag,aV⟩:∃ ag,ag=wr.alloc (BG #[N RD t.a,N RD t.b,N RD t.c,N RD t.4,N RD t.5] 109):=⟨_,rfl⟩
   have dg:=A_ aV;have aN:=A_ (by rw[aV];exact BP _:Bw wr ag);have a2:=A_ (by rw[aV];exact DB wr _:ag.1[wr.1.size]?=QZ (BG #[N RD t.a,N RD t.b,N RD t.c,N RD t.4,N RD t.5] 109));have eu:wr.1.size<ag.1.size:=lt_of_block a2;have eB:w.1.size<ag.1.size:=oS;clear aV;go_upto_region 6 with fail;rw[<-dg.o];obtain⟨dG,dH⟩:=F_ aN;refine X_ sI ?_;dsimp only[DN,DO,DQ];iterate 2 refine C_ _ ?_
   refine D_ (MP.aggS au) ?_ ?_;·intro ab T O u D;obtain⟨ao,ap⟩:=F_ u;simp at D;refine G_ ?_;have C:=C1w _ p _ k t O (dh.below (BH az (BH aN u))) bQ dc c7;rw[de.o]at C;exact A7t C
   refine D_ (CH (mkR 1 3)) ?_ ?_;·intro ab T O u D;obtain⟨ao,ap⟩:=F_ u;simp at D;refine G_ ?_;exact H_ (A7u 1 3 O oG oG dE)
   iterate 3 refine C_ _ ?_
   refine D_ (MP.sl (B5j p.1.1 t)) ?_ ?_;·intro ab T O u D;obtain⟨ao,ap⟩:=F_ u;simp at D;refine G_ ?_;exact A1c (A6s _ p.1 _ k t O (bS.below (BH az (BH aN u))) bQ bP ac.1.ok ac.1.n40 ac.1.t48)
   refine D_ (CH ad) ?_ ?_;·intro ab T O u D;obtain⟨ao,ap⟩:=F_ u;simp at D;obtain⟨⟨C,dV,cC,d7,b6⟩,_⟩:=D;obtain rfl:3=dV:=b6.1;refine G_ ?_;have C:=B3h C cC _ _ _ _ O b6;rw[cY.o]at C;exact H_ C
   refine D_ (CH (A0d (mkR 1 3) ad)) ?_ ?_;·intro ab T O u D;obtain⟨ao,ap⟩:=F_ u;simp at D;refine G_ ?_;obtain⟨aw,ax,_⟩:=D;exact H_ (A0n _ _ (mkR 1 3) ad _ _ O aw.1 ax)
   refine D_ (CH (A0d au (A0d (mkR 1 3) ad))) ?_ ?_;·intro ab T O u D;obtain⟨ao,ap⟩:=F_ u;simp at D;refine G_ ?_;obtain⟨⟨_,eK,aw⟩,ax,_⟩:=D;exact H_ (A0n _ _ au (A0d (mkR 1 3) ad) _ _ O aw ax)
   refine A1p #[RT AH,S I 0 0,S I 0 0] 39 ?_ ?_;·intro ab T O u D;refine⟨gD,?_⟩;go_simp
   intro ab T wa u D (aT:BI _);simp at D;have dW:=D.2.2.2.2.2.2.2.2.2.2.1;have dX:=D.2.2.2.2.2.2.2.2.2.2.2;obtain⟨⟨X,bo⟩,aD⟩:=dW;obtain⟨⟨W,d5,d0,aA⟩,br⟩:=dX;rw[<-dm.o]at X;obtain⟨pt,dN⟩:∃ pt,C6e p t=pt:=⟨_,rfl⟩
   rw[dN]at X a3;obtain⟨a8,bA,bd,v1,ba,bD,bf,v2,dv,bv,_,_⟩:=CF X;rw[dv]at X;have bn:=aT 10 11 dE dE dE;rw[d0]at bn br;have eg:=E_ aA;have ee:ag.1.size<=W:=(br W sI).1;have cg:W∉T 10:=λdA=>bn W dA sI;obtain⟨aP,dx⟩:=B_ aA (j:=0) rfl;obtain⟨aQ,dy⟩:=B_ aA (j:=1) rfl;obtain⟨aR,dz⟩:=B_ aA (j:=2) rfl;obtain⟨ak,an⟩:∃ ak,ak=(((wa.setCell ⟨W,0,I⟩ (RT pt.1.1)).setCell ⟨W,1,I⟩ (S a8 bA bd)).setCell ⟨W,2,I⟩ (S ba bD bf)):=⟨_,rfl⟩
   have bM:=A_ (show Bw wr ak by rw[an];exact((((BH aN.o u)).setCell (p:=⟨W,0,I⟩) oR _).setCell (p:=⟨W,1,I⟩) oR _).setCell (p:=⟨W,2,I⟩) oR _);have bK:=A_ (show Agg ak (BJ #[RT pt.1.1,S a8 bA bd,S ba bD bf]) pt (T 10) by rw[an];exact X.keep (λb G=>A0p b (λe=>cg (e ▸ G))));have bN:=A_ (show ak.1[W]?=QZ (BG #[RT pt.1.1,S a8 bA bd,S ba bD bf] 39) by rw[an];exact A0u (A0u (A0u aA)));have am:=A_ (show ak.1[wr.1.size]?=QZ (BG #[N RD t.a,N RD t.b,N RD t.c,N RD t.4,N RD t.5] 109) by rw[an];exact(A0p _ oS).trans (O_ a2.o u));have dl:=A_ (show ∀ b∈T 10,ag.1.size<=b from λb G=>(aD b G).1);have dF:=A_ an;generalize T 10=d2 at *;clear D aT X bo aD br bn bv u an cg dG dH;go_upto_region 7 with fail;rw[<-dF.o];obtain⟨cI,_⟩:=B_ am (j:=0) rfl;obtain⟨aw,_⟩:=B_ am (j:=1) rfl;obtain⟨ax,_⟩:=B_ am (j:=2) rfl;obtain⟨cJ,_⟩:=B_ am (j:=3) rfl;obtain⟨cK,_⟩:=B_ am (j:=4) rfl;simp at cI aw ax cJ cK;go_wp2_with fail;refine(A2g _ t _ ak (cW.below bM)).mono ?_;rintro _ w3 ⟨rfl,aS⟩;have aZ:=A_ (BH bM aS);have aI:=A_ (O_ bN aS);have bL:=A_ (bK.below aS);have a5:=A_ (show RR (λb=>b<H.1.size\/b=h) w3 h n n (A7n E t pt (A4v p E n k) 0)from aO.below aZ);have aY:=A_ (BH ah aZ);have dp:=A_ (dd.below aY);have ct:=aZ.size;have cU:=A_ (show ∀ b∈cH,b∉[h]from λb G Y=>by have bj:=c9 b G;simp at Y;omega);have DP:=A_ (show ∀ b∈d2,b∉[h]from λb G Y=>by have bj:=dl b G;simp at Y;omega);have aJ:=A_ (show W∉[h]from λY=>by simp at Y;omega);obtain⟨aa,b7⟩:∃ aa,A4v p E n k=aa:=⟨_,rfl⟩
   rw[b7]at a5 a3;clear aS aO b7 bN bK a2 am cI aw ax cJ cK ds bh bi dt du aP dx aQ dy aR dz cE q1 q2 cG;go_wp2_with fail;go_loopg [43] 3 (λg2 s wr2=>∃ i:Nat,i+g2=3/\s=N RD i/\BI (RR (λb=>b<H.1.size\/b=h) wr2 h n n (A7n E t pt aa i))/\BI (Kp [h] w3 wr2)/\BI (Bw H wr2));case atStart=>exact⟨0,oS,rfl,a5.o,Kp.refl _ _,aY.o⟩
   case round =>
    clear a5 aY;obtain⟨i,ci,rfl,ai,Z,ay⟩:=hrel;rename AD=>aX;rcases CG i 3 with aU|aU
    ·have dI:(i:Int)<3:=oS
     have ek:(0:Int)<=i:=oS;have ej:i<3:=aU;obtain⟨g2,rfl⟩:∃ g2,gk=g2+1:=⟨gk - 1,oS⟩
     have ch:=A_ (by omega:i+1+g2=3);obtain⟨cp,cq⟩:=D6z c1 i;obtain⟨q,co⟩:∃ q,at3 t.a t.b t.c i=q:=⟨_,rfl⟩
     rw[co]at cp cq;have dn:=A_ co;obtain⟨aG,bt⟩:=dO q cp cq;have a6:=A_ bt;obtain⟨dQ,dR⟩:=c8 aG (DH bt);have a4:=A_ (by rw[A7n,dn.o]:A7n E t pt aa (i+1)=A7c E q pt (A7n E t pt aa i));have dq:=A_ (Z.sl dp cU);obtain⟨eP,ei⟩:=Sl.intAt dq a6;clear ci aU bt;by_cases cs:aG<0
     ·obtain rfl:aG = -1:=oS
      have a7:=A_ (show RR (λb=>b<H.1.size\/b=h) aX h n n (A7n E t pt aa (i+1)) by rw[a4.o,C9b (by rw[A0e a6.o];decide)];exact ai);clear ai cs;go_wp2_with fail;go_roundg g2;case measure=>omega
      case rel=>exact⟨i+1,ch,gN,a7,Z,ay⟩
     obtain⟨z,rfl⟩:∃ z:Nat,aG=z:=⟨aG.toNat,oS⟩
     have cy:z<n:=oS;obtain⟨a,aK,m1,bh,aL,m2,bi,d8,al,cO,cP,cQ,cL,cM,cN,b9,_,aq⟩:=ai.elem cy;have dk:=A_ (show A7n E t pt aa (i+1)=(A7n E t pt aa i).set z (A0k a pt) by rw[a4.o];exact C8k a6 al);have cV:=A_ b9;have cX:=A_ (bL.keep (λb G=>Z.kp b (bL.lt b G) (DP b G)));obtain⟨aP,_⟩:=B_ (Z.cell aI aJ) (j:=0) rfl;obtain⟨aQ,_⟩:=B_ (Z.cell aI aJ) (j:=1) rfl;obtain⟨aR,_⟩:=B_ (Z.cell aI aJ) (j:=2) rfl;have ef:=lt_of_block (Z.cell aI aJ);have ew:=ay.size;simp at aP aQ aR;clear al b9 cs dQ dR a4;go_wp2_with fail;refine X_ sI ?_;dsimp only[DN,DO,DQ];iterate 13 refine C_ _ ?_
     refine D_ (CH (A0k a pt)) ?_ ?_;·intro ab T O u D;obtain⟨ao,ap⟩:=F_ u;simp at D;refine G_ ?_;exact H_ (A0x _ _ a pt _ _ O (cV.below u) (cX.below u))
     refine C_ _ ?_;intro ab T wa u D (aT:BI _);simp at D;have dY:=D.2.2.2.2.2.2.2.2.2.2.2.2.2.1;have cF:=D.2.2.2.2.2.2.2.2.2.2.2.2.2.2;have d6:=cF.1.1;obtain⟨⟨X,bo⟩,aD⟩:=dY;obtain⟨a9,bB,be,eL,bc,bE,bg,eM,dw,bv,_,_⟩:=CF X;rw[dw]at X;have dT:=u.size
     obtain⟨bz,k1,k2,eC,eD,eE⟩:wa.cell? ⟨h,z*3,I⟩=QZ (RT a.1.1)/\wa.cell? ⟨h,z*3+1,I⟩=QZ (S aK m1 bh)/\wa.cell? ⟨h,z*3+2,I⟩=QZ (S aL m2 bi)/\wa.frozen? ⟨h,z*3,I⟩=AH/\wa.frozen? ⟨h,z*3+1,I⟩=AH/\wa.frozen? ⟨h,z*3+2,I⟩=AH :=
      ⟨(u.cell (p:=⟨h,_,I⟩) aq).trans cO,(u.cell (p:=⟨h,_,I⟩) aq).trans cP,(u.cell (p:=⟨h,_,I⟩) aq).trans cQ,(u.frozen (p:=⟨h,_,I⟩) aq).trans cL,(u.frozen (p:=⟨h,_,I⟩) aq).trans cM,(u.frozen (p:=⟨h,_,I⟩) aq).trans cN⟩
     have eh:h<wa.1.size:=oS;have a7:=A_ (show RR (λb=>b<H.1.size\/b=h) (((wa.setCell ⟨h,z*3,I⟩ (RT (A0k a pt).1.1)).setCell ⟨h,z*3+1,I⟩ (S a9 bB be)).setCell ⟨h,z*3+2,I⟩ (S bc bE bg)) h n n (A7n E t pt aa (i+1)) by rw[dk.o];exact(ai.below u).set cy X (λb G bl=>by have bj:=(aD b G).1;rcases bl with dB|dB<;>omega));have di:=A_ (show Kp [h] w3 (((wa.setCell ⟨h,z*3,I⟩ (RT (A0k a pt).1.1)).setCell ⟨h,z*3+1,I⟩ (S a9 bB be)).setCell ⟨h,z*3+2,I⟩ (S bc bE bg))from(Z.o.below u).set sI _ _ _ _ _ _);have cR:=A_ (show Bw H (((wa.setCell ⟨h,z*3,I⟩ (RT (A0k a pt).1.1)).setCell ⟨h,z*3+1,I⟩ (S a9 bB be)).setCell ⟨h,z*3+2,I⟩ (S bc bE bg))from(((BH ay u).setCell (p:=⟨h,_,I⟩) bp _).setCell (p:=⟨h,_,I⟩) bp _).setCell (p:=⟨h,_,I⟩) bp _);generalize T 13=eQ at *;clear D aT cF X bo aD bv u ai Z ay cO cP cQ cL cM cN dT aP aQ aR;go_wp2_with fail;go_roundg g2;case measure=>omega
     case rel=>exact⟨i+1,ch,gN,a7,di,cR⟩
    obtain rfl:i=3:=oS;have dr:=A_ (by rw[a3.o];exact ai:RR (λb=>b<H.1.size\/b=h) aX h n n (A4v p E n (k+1)));clear ci aU ai Z;go_wp2_with fail;go_roundg g;case measure=>omega
    case rel=>exact⟨k+1,dJ,gN,dr,ay⟩
  obtain rfl:k=n1:=oS;have dI:¬ ((k:Int)<k):=oS;obtain⟨bs,cv,_⟩:=aO.sl;have df:=A_ cv;have dj:=A_ (show ∀ x∈A4v p E n k,B4q x from C7x (P:=B4q) C9z (D5e 0 1) p E n k);clear cj aB cv;go_wp2_with fail;refine(A2l _ n n _ bs wr df.o oS dj.o).mono ?_;rintro _ aX ⟨bJ,cA,b3,bX,rfl,cu,cm,cb⟩;have bW:=A_ cu;have c5:=A_ cm;have c0:=A_ (BH az cb);clear cu cm cb;go_wp2_with fail;refine(A5p bJ cA b3 _ bX aX bW.o (by rw[<-bR.o];exact c6)).mono ?_;rintro _ eO ⟨rfl,cc⟩;have a1:=A_ cc;clear cc;go_wp2;go_ret;rw[bR.o];exact⟨bJ,cA,b3,bX,rfl,bW.below a1,(c5.older az.size).below a1,BH c0 a1⟩
end
theorem F3j (r:List TRat) (m:Nat) {x:TRat} (h:x∈(A2z r m).vals):∃ j:Nat,j<m/\x=r.getD j A0h/\A2v x≠0:=by
 obtain⟨k,u,rfl⟩:=List.getElem_of_mem h;obtain⟨j,-,D,E,b⟩:=D7r r m k ((A2z r m).cols[k]'(by rw[(B8l r m).1];exact u)) (DU _);rw[DU u]at b;injection b with b;exact⟨j,D,b,by rw[b];exact E⟩
theorem B7c (v:AU) (M:List (List TRat)) (n:Nat) (s:List Nat) (w:AD) (D:Agg w v (spM M) s) (O:SqM n M):BL prog 214 #[v] w (A0b w (RT AF)):=by
 have aa:=A_ O;have bf:=O.n40;obtain⟨A,b,c,bk,rfl,rfl,ag⟩:=OS D;obtain rfl:b=n:=by rw[<-ag.1];simp[spM,O.len]
 have aL:=A_ ag;have bg:(b:Int)<=40:=oS;clear D ag O;go_enter func214,ntmps214;go_upto_region 1 with fail;refine DY λay h=>?_;have ao:=A_ h.b;have au:=A_ h.k;clear h;obtain⟨aJ,a4,aZ⟩:=bx au;go_wp2_with fail;go_loopg [14] b (λg s wr=>∃ k:Nat,k+g=b/\s=N RD k/\BI (Bw w wr));case atStart=>exact⟨0,oS,rfl,ao.o⟩
 case round =>
  clear ao au aJ a4 aZ;obtain⟨k,aC,rfl,B⟩:=hrel;rename AD=>wr;rcases CG k b with T|T
  ·have aV:(k:Int)<b:=oS
   have bc:(0:Int)<b:=oS;obtain⟨g,rfl⟩:∃ g,gk=g+1:=⟨gk - 1,oS⟩
   have aU:=A_ (by omega:k+1+g=b);obtain⟨-,a6,o,r,aP,a1,n1,aN,X,af,bl,aI,rfl,aS,aG,aO,u,k1,k2,bd⟩:=C6s (aL.below B) aa T;have aw:=A_ k1;have ax:=A_ k2;have ap:=A_ (DH aG);have be:(n1:Int)<=b:=oS;have ad:=A_ (show ∀ x∈(A2z r b).vals,J_ x=AF/\R_ x≠0 from λx D=>by obtain⟨j,aT,rfl,aY⟩:=F3j r b D;exact⟨aa.o.ok r ap.o _ (D1r (by rw[aa.o.row r ap.o];exact aT)),E6b aY⟩);clear k1 k2 aG aC T;go_upto_region 5 with fail;refine DY λa3 h=>?_;have al:=A_ h.b;have aq:=A_ h.k;clear h aO u aS;obtain⟨E,G,l1⟩:=bx aq;go_wp2_with fail;refine(A5n X n1 af (A2z r b).vals aI a3 (ax.below al) (List.all_eq_true.2 λx D=>(ad x D).1)).mono ?_;rintro _ w3 ⟨rfl,ah⟩;have am:=A_ (BH al ah);have ar:=A_ (A0z aq ah);clear ah E G l1;obtain⟨E,G,l1⟩:=bx ar;go_wp2_with fail;have C:=A7e 236 C0t X n1 af (A2z r b).vals aI w3 (λ_=>AH) (ax.below am) (λv x ae ay aD aR=>C3f v x ae ay aR (ad x aD).1 (ad x aD).2);rw[show(A2z r b).vals.any (λ_=>AH)=AH by simp]at C;refine C.mono ?_;clear C;rintro _ bm ⟨rfl,ai⟩;have an:=A_ (BH am ai);have ab:=A_ (A0z ar ai);clear ai E G l1;obtain⟨E,G,l1⟩:=bx ab;go_wp2_with fail;go_loopg [33] n1 (λg2 s wx=>∃ q:Nat,q+g2=n1/\s=N RD q/\BI (Bw wr wx)/\BI (wx.1[wr.1.size]?=QZ (BG #[S (QZ ⟨aP,a1,I⟩) n1 aN,S X n1 af] 162)));case atStart=>exact⟨0,oS,rfl,an.o,ab.o⟩
   case round =>
    clear an ab E G l1;obtain⟨q,aE,rfl,Z,J⟩:=hrel;rename AD=>wx;rcases CG q n1 with W|W
    ·have aX:(q:Int)<n1:=oS
     obtain⟨g2,rfl⟩:∃ g2,gk=g2+1:=⟨gk - 1,oS⟩
     have aF:=A_ (by omega:q+1+g2=n1);obtain⟨ae,a2,x,e,aA,ak,a7,az⟩:=DL (aw.below Z) W;injection e with e;injection e with u H _;subst u;subst H;obtain⟨aJ,bo⟩:=B9a r b x (DH ak);have aB:inB 0 x ((b:Int) - 1)=AF:=by unfold inB;simp;omega
     have aK:=A_ aB;have aM:=A_ ak;clear ak aB aE W;go_wp2_with fail;refine(A0s x 0 ((b:Int) - 1) wx).mono ?_;rw[aK.o];rintro _ bn ⟨rfl,aj⟩;have Y:=A_ (BH Z aj);have ac:=A_ (A0z J aj);clear aj az aA;obtain⟨E,G,l1⟩:=bx ac;by_cases aW:q=0
     ·subst aW
      go_wp2_with fail;go_roundg g2;case measure=>omega
      case rel=>exact⟨0+1,aF,gN,Y,ac⟩
     have bj:(0:Int)<q:=oS;obtain⟨p,rfl⟩:∃ p,q=p+1:=⟨q - 1,oS⟩
     obtain⟨ae,a2,z,e,aA,aH,a8,az⟩:=DL (aw.o.below Y.o) (k:=p) oS;injection e with e;injection e with u H _;subst u;subst H;have ba:z<x:=by have aQ:=B8x r b;obtain⟨l1,u⟩:=DM.1 aH;obtain⟨l2,H⟩:=DM.1 aM;rw[<-u,<-H];exact List.pairwise_iff_getElem.1 aQ p (p+1) l1 l2 oS
     have a9:¬ (x<=z):=oS;have a5:((p+1:Nat):Int) - 1=p:=oS;have bh:(0:Int)<=p:=oS;have bi:(p:Int)<n1:=oS;clear aH;go_wp2_with fail;go_roundg g2;case measure=>omega
     case rel=>exact⟨p+1+1,aF,gN,Y,ac⟩
    obtain rfl:q=n1:=oS;have aX:¬ ((q:Int)<q):=oS;clear aE W;go_wp2_with fail;go_roundg g;case measure=>omega
    case rel=>exact⟨k+1,aU,gN,BH B Z⟩
  obtain rfl:k=b:=oS;have aV:¬ ((k:Int)<k):=oS;clear aC T;go_wp2;go_ret;exact⟨rfl,B⟩
theorem B3d (v:AU) (M:List (List TRat)) (n:Nat) (s:List Nat) (w:AD) (aj:Agg w v (spM M) s) (O:SqM n M) (aw:∀ i j,i<n->j<n->B4g M i j=B4g M j i):BL prog 172 #[v] w (A0b w (RT AF)):=by
 have aq:=A_ aj;have aa:=A_ O;have aO:=A_ aw;have bo:=O.n40;obtain⟨A,b,c,br,rfl,rfl,ag⟩:=OS aj;obtain rfl:b=n:=by rw[<-ag.1];simp[spM,O.len]
 have aN:=A_ ag;have bp:(b:Int)<=40:=oS;clear aj ag O aw;go_enter func172,ntmps172;go_upto_region 1 with fail;refine DY λaS u=>?_;have Z:=A_ u.b;have ac:=A_ u.k;clear u;obtain⟨X,Y,W⟩:=bx ac;go_wp2_with fail;refine(B7c _ M b _ aS (aq.below Z) aa).mono ?_;rintro _ bu ⟨rfl,ah⟩;have al:=A_ (BH Z ah);have ad:=A_ (A0z ac ah);clear ah X Y W Z ac;obtain⟨X,Y,W⟩:=bx ad;go_wp2_with fail;go_loopg [13] b (λg s wr=>∃ k:Nat,k+g=b/\s=N RD k/\BI (Bw w wr)/\BI (wr.1[w.1.size]?=QZ (BG #[S A b c] 90)));case atStart=>exact⟨0,oS,rfl,al.o,ad.o⟩
 case round =>
  clear al ad X Y W;obtain⟨k,az,rfl,B,K⟩:=hrel;rename AD=>wr;rcases CG k b with H|H
  ·have a4:(k:Int)<b:=oS
   obtain⟨g,rfl⟩:∃ g,gk=g+1:=⟨gk - 1,oS⟩
   have a3:=A_ (by omega:k+1+g=b);obtain⟨-,aW,o,r,aX,a8,n1,aT,aJ,aU,a9,aE,rfl,a2,aB,aV,af,k1,k2,bm⟩:=C6s (aN.below B) aa H;have aR:=A_ k1;have au:=A_ k2;have aM:=A_ aB;have ap:=A_ H;have bn:(n1:Int)<=b:=oS;clear k1 k2 aB az H;go_upto_region 6 with fail;refine DY λbv u=>?_;have am:=A_ u.b;have ab:=A_ u.k;have ar:=A_ (A0z K u.b);clear u aV af a2;obtain⟨aF,aG,l1⟩:=bx ab;go_wp2_with fail;go_loopg [21] n1 (λg2 s wx=>∃ q:Nat,q+g2=n1/\s=N RD q/\BI (Bw wr wx)/\BI (wx.1[wr.1.size]?=QZ (BG #[S (QZ ⟨aX,a8,I⟩) n1 aT,S aJ n1 aU] 162))/\BI (wx.1[w.1.size]?=QZ (BG #[S (QZ ⟨aW,o,I⟩) b c] 90)));case atStart=>exact⟨0,oS,rfl,am.o,ab.o,ar.o⟩
   case round =>
    clear am ab ar aF aG l1;obtain⟨q,aA,rfl,E,J,ae⟩:=hrel;rename AD=>wx;obtain⟨aF,aG,l1⟩:=bx J;obtain⟨X,Y,W⟩:=bx ae;rcases CG q n1 with T|T
    ·have a6:(q:Int)<n1:=oS
     obtain⟨g2,rfl⟩:∃ g2,gk=g2+1:=⟨gk - 1,oS⟩
     have a5:=A_ (by omega:q+1+g2=n1);obtain⟨bd,bq,x,e,bk,aD,bj,bg⟩:=DL (aR.below E) T;injection e with e;injection e with af e2 _;subst af;subst e2;obtain⟨j,rfl,ai,a7,aC⟩:=D7r r b q x aD;obtain⟨bi,o2,_,rfl,_⟩:=au.o.2.2.2.2 oS;obtain⟨ba,m1,be,bc,m2,bf,bh,bl,u0,u1,u2,ay⟩:=Sl.ratAt (au.below E) aC;have ao:=A_ ay;have aL:=A_ ai;have an:=A_ (by rw[aO.o j k ai ap.o];unfold B4g;rw[A0e aM.o]:B4g M j k=r.getD j A0h);obtain⟨G,ax⟩:∃ G,r.getD j A0h=G:=⟨_,rfl⟩
     rw[ax]at an ao u0;clear aD aC ay ai a7 ax aA T;go_wp2_with fail;refine A0g ?_;iterate 8 refine C_ _ ?_
     refine D_ (MP.aggS G) ?_ ?_;·intro aH aI ak h D;obtain⟨aY,a1⟩:=F_ h;simp at D;refine G_ ?_;have C:=D8i _ M b _ j k ak (aq.below (BH (BH B E) h)) aa aL ap;rw[an.o]at C;exact A7t C
     refine D_ (MP.eq (RT AF)) ?_ ?_;·intro aH aI ak h D;obtain⟨aY,a1⟩:=F_ h;simp at D;refine G_ ?_;obtain⟨a9,_,bt,aE⟩:=D;exact A0i (by have C:=A2s _ _ G G _ _ ak (ao.below h) aE;rw[decide_eq_true rfl]at C;exact C)
     refine C_ _ ?_;intro aH aI wa h D (aZ:BI _);simp at D;go_simp;have aK:=A_ (BH E h);have aP:=A_ (A0z J h);have aQ:=A_ (A0z ae h);clear D aZ h;go_wp2_with fail;go_roundg g2;case measure=>omega
     case rel=>exact⟨q+1,a5,gN,aK,aP,aQ⟩
    obtain rfl:q=n1:=oS;have a6:¬ ((q:Int)<q):=oS;clear aA T;go_wp2_with fail;go_roundg g;case measure=>omega
    case rel=>exact⟨k+1,a3,gN,BH B E,ae⟩
  obtain rfl:k=b:=oS;have a4:¬ ((k:Int)<k):=oS;clear az H;go_wp2;go_ret;exact⟨rfl,B⟩
def A7r (P a b:List TRat) (r:TRat):Nat->TRat
 |0=>r
 |k+1=>A3t (A7r P a b r k) (A0d (A0d (a.getD k A0h) (P.getD k A0h)) (b.getD k A0h))
theorem C6t (aQ:AU) (F:TFactor) (br:List Nat) (aR:AU) (r:TRat) (aq:List Nat) (A:Option AJ) (n c:Nat) (a:List TRat) (bp:List Nat) (B:Option AJ) (d:Nat) (b:List TRat) (bq:List Nat) (w:AD)
  (aE:Agg w aQ F br) (af:Agg w aR r aq) (aw:Sl w A n c a bp) (aB:Sl w B n d b bq) (cb:n<=40) (aH:n<=F.pivots.length) (ar:F.pivots.length<=40) :
  BL prog 173 #[aQ,aR,S A n c,S B n d] w (GivesP (λx=>x∈aq\/w.1.size<=x) w (A7r F.pivots a b r n)):=by
 have aT:=A_ aw;have aU:=A_ aB;obtain⟨bz,cn,bM,cD,bA,n1,bN,cE,rfl,rfl,bf,aa⟩:=TFactor.agg aE;obtain⟨R1,cx,bW,aO,R2,cy,bX,aP,rfl,ae,_,_⟩:=CF af;subst ae;have ak:=A_ aa;have ab:=A_ af;have cc:n1<=40:=by rw[<-aa.1];exact ar
 have cd:(n1:Int)<=40:=oS;have ce:n<=n1:=by rw[<-aa.1];exact aH
 have cg:(n:Int)<=n1:=oS;obtain⟨P,au⟩:∃ P,F.pivots=P:=⟨_,rfl⟩
 rw[au]at ak ⊢;clear aE aw aB bf aa aH ar af au;go_enter func173,ntmps173;go_upto_region 1 with fail;refine Code.new3 λad G=>?_;have ai:=A_ G.b;have aZ:=A_ G.k;have a2:=A_ G.m;have ao:=A_ (show RatBox ad (w.1.size+1) (A7r P a b r 0) (aO++aP)from⟨_,_,_,_,_,_,G.l,ab.below G.b,λh=>by have:=ab.lt _ h;omega⟩);clear G;have ca:min (n:Int) (n:Int)=n:=oS;go_wp2_with fail;go_loopg [15] n (λg s wr=>∃ (k:Nat) (T:List Nat),k+g=n/\s=N RD k/\BI (ad.grownBy wr (QZ (w.1.size+1)))/\BI (RatBox wr (w.1.size+1) (A7r P a b r k) T)/\BI (w.1.size+1+1∉T)/\BI (∀ x∈T,x∈aO++aP\/w.1.size<=x));case atStart=>exact⟨0,_,oS,rfl,B3a ad _,ao.o,A_ (λh=>by have:=ab.o.lt _ h;omega),A_ (λx h=>.inl h)⟩
 case round =>
  clear ao;obtain⟨k,T,aG,rfl,Y,aC,be,ae⟩:=hrel;rename AD=>wr;have X:=A_ (ai.grown Y ai.size (λx aI=>by injection aI with aI;omega));have a1:=A_ (B8b aZ.o Y.o oS);have al:=A_ (B8b a2.o Y.o oS);obtain⟨P1,p1,m1,P2,p2,m2,aM,ax,ch⟩:=aC.o;have am:=A_ aM;have ah:=A_ ax;obtain⟨bu,bv,bk⟩:=bx a1;obtain⟨bl,bm,bj⟩:=bx am;clear aM ax aC;rcases CG k n with O|O
  ·have bd:(k:Int)<n:=oS
   have b9:(k:Int)<n1:=oS;obtain⟨g,rfl⟩:∃ g,gk=g+1:=⟨gk - 1,oS⟩
   have bc:=A_ (by omega:k+1+g=n);obtain⟨bK,cz,x,bB,co,bO,bY,bD,cp,bP,bZ,rfl,b6,aJ,a4,a5,a6,ay⟩:=IM (aT.below X) O;obtain⟨bb,cA,y,bE,cq,bQ,b0,bF,cs,bR,b3,rfl,b7,aK,a7,a8,a9,az⟩:=IM (aU.below X) O;obtain⟨bL,cB,z,bG,ct,bS,b4,bH,cu,bT,b5,rfl,b8,aL,bg,bh,bi,aA⟩:=IM (ak.o.below X.o) (k:=k) oS;have a3:=A_ (by rw[A7r,A0e aJ,A0e aK,A0e aL]:A3t (A7r P a b r k) (A0d (A0d x z) y)=A7r P a b r (k+1));have aW:=A_ ay;have aX:=A_ az;have aY:=A_ aA;generalize A7r P a b r k=aN at *;clear aG O aJ aK aL ay az aA;go_wp2_with fail;refine X_ sI ?_;dsimp only[DN,DO,DQ];iterate 10 refine C_ _ ?_
   refine D_ (CH (A0d x z)) ?_ ?_;·intro ag E W u D;obtain⟨aD,aF⟩:=F_ u;simp at D;refine G_ ?_;exact H_ (A0n _ _ x z _ _ W (aW.below u) (aY.below u))
   iterate 4 refine C_ _ ?_
   refine D_ (CH (A0d (A0d x z) y)) ?_ ?_;·intro ag E W u D;obtain⟨aD,aF⟩:=F_ u;simp at D;refine G_ ?_;obtain⟨t,_⟩:=D;exact H_ (A0n _ _ (A0d x z) y _ _ W (by first|exact t.1|exact t) (aX.o.below u))
   refine D_ (CH (A3t aN (A0d (A0d x z) y))) ?_ ?_;·intro ag E W u D;obtain⟨aD,aF⟩:=F_ u;simp at D;refine G_ ?_;obtain⟨_,t,_⟩:=D;exact H_ (A5b _ _ aN (A0d (A0d x z) y) _ _ W (ah.o.below u) (by first|exact t|exact t.1))
   intro ag E wb u D (ba:BI _);simp at D;have bn:=D.2.2.2.2.2.2.2.2.2.2.2.2.2.2.2.2;obtain⟨⟨H,-⟩,Z⟩:=bn;rw[a3.o]at H;obtain⟨bI,cv,bU,v1,bJ,cw,bV,v2,bt,-,-,-⟩:=CF H;rw[bt]at H;have aj:=A_ u;have aS:=A_ H;have ac:=A_ (show w.1.size+1∉E 16/\w.1.size+1+1∉E 16/\∀ x∈E 16,w.1.size<=x from⟨λh=>by have:=(Z _ h).1;omega,λh=>by have:=(Z _ h).1;have:=E_ al;omega,λx h=>by have:=(Z _ h).1;omega⟩);have an:=A_ (A0z am aj);have aV:=A_ (E1s Y aj);obtain⟨cj,ck,ci⟩:=bx an;generalize E 16=bo at *;clear D ba H Z u bu bv bk bl bm bj a4 a5 a6 a7 a8 a9 bg bh bi;go_upto_region 5 with fail;refine Code.set3 an λV ap=>?_;go_wp2_with fail;go_roundg g;case measure=>omega
   case rel=>exact⟨k+1,bo,bc,gN,gtr aV ap.gr,RatBox.set aS ap ac.1,ac.2.1,A_ (λx h=>.inr (ac.2.2 x h))⟩
  obtain rfl:k=n:=oS;have bd:¬ ((k:Int)<k):=oS;obtain⟨cF,cG,cm⟩:=bx al;clear aG O;go_wp2;refine CK (v:=BJ #[RT (A7r P a b r k).1.1,S P1 p1 m1,S P2 p2 m2]) (by simp[CO,results173,go_sem, *]) rfl ?_;exact⟨_,T,rfl,ah.o.keepG (A5y (A5y (A5y (B3a _ _)))) be.o,(λx h=>by simpa using ae.o x h),((X.o.setCell (p:=⟨w.1.size+1+1,0,I⟩) oR _).setCell (p:=⟨w.1.size+1+1,1,I⟩) oR _).setCell (p:=⟨w.1.size+1+1,2,I⟩) oR _⟩
end Go.Proofs.YtjcanieccnljfaaGreat.X
