/- A part of the proof. -/
import Derived.Test.YtjcanieccnljfaaGreatY24
set_option linter.constructorNameAsVariable false
set_option maxHeartbeats 16000000
set_option maxRecDepth 10000
open Bool renaming false→AH,true→AF
open Go renaming Addr→AJ,Calls→BL,Value→AU,World→AD,bodyPost_ret→CK,heap_alloc_new→DB,info_parts→FB,maxLen→BS,results→CO
open Go.Code renaming new→DY
open Go.IntKind renaming i64→K
open Go.Obj renaming cells→BG
open Go.RowKit renaming Hid→BI
open Go.Value renaming agg→BJ,bool→RT,int→N,slice→QX
open Go.World renaming size_alloc→FU
open Go.XB.Below renaming box→BP,next→BH
open Go.XB.MP renaming agg→CH
open Go.XB.TRat renaming agg→CF,elemA→IM
open List renaming dropLast→DN,drop_succ_cons→GU,drop_zero→FF,getD→JG,getElem?_eq_getElem→DU,getElem?_map→IR,getLast→DO,length→DQ,length_map→JV,mem_append→DV,mem_of_getElem?→DH,take_of_length_le→DT,take_succ_cons→GT,take_zero→FM
open Nat renaming le_refl→CE,le_trans→CJ,lt_or_ge→CG,zero_le→EO
open Option renaming none→QY,some→QZ
namespace Go.XB
open Go.RowKit Go.Proofs.YtjcanieccnljfaaGreat.X
def MP.aggP {α:Type} [Dat α] (P:Nat->Prop) (x:α):MP:=⟨λv bs w=>bs=[]/\∃ s,Agg w v x s/\∀ b∈s,P b,λ_ _ _ _ hb h=>by
 obtain⟨e,s,h1,h2⟩:=h;exact⟨e,s,h1.below hb,h2⟩⟩
theorem C7k {α:Type} [Dat α] {P:Nat->Prop} {p:Program} {f:FuncId} {args:Array AU} {w:AD} {x:α} (h:BL p f args w (GivesP P w x)) :
  BL p f args w λe w'=>∃ u,e=.returned u/\Bw w w'/\∃ bs,(MP.aggP P x).p u bs w'/\∀ b∈bs,w.1.size<=b/\b<w'.1.size :=
 h.mono λ_ _ ⟨v,s,he,ha,hp,hb⟩=>⟨v,he,hb,[],⟨rfl,s,ha,hp⟩,λb hb=>by simp at hb⟩
theorem Agg.keepR {α:Type} [Dat α] {w w':AD} {v:AU} {x:α} {bs:List Nat} {r:Option Nat} (h:Agg w v x bs) (hg:w.grownBy w' r) (hn:∀ g,r=QZ g->g∉bs):Agg w' v x bs :=
 h.keep λb hb=>hg.block b (h.lt b hb) (λe=>hn b e.symm hb)
end Go.XB
namespace Go.Proofs.YtjcanieccnljfaaGreat.X
open Go.RowKit Go.XB Go.XN Proofs.Tryz
section
def A7i (F:TFactor) (M:List (List TRat)) (i:Nat):Nat->List TRat
 |0=>[]
 |j+1=>A7i F M i j++[A3u (A7r F.pivots (A7i F M i j) (F.lower.getD j []) (B4g M i j) j) (F.pivots.getD j A0h)]
def B3s (F:TFactor) (M:List (List TRat)) (i:Nat):TRat:=A7r F.pivots (A7i F M i i) (A7i F M i i) (B4g M i i) i
def A5h (M:List (List TRat)):Nat->TFactor
 |0=>⟨[],[]⟩
 |i+1=>⟨(A5h M i).lower++[A7i (A5h M i) M i i],(A5h M i).pivots++[B3s (A5h M i) M i]⟩
structure FacOk (n:Nat) (M:List (List TRat)):Prop where
 sq:SqM n M
 sy:∀ i j,i<n->j<n->B4g M i j=B4g M j i
 row:∀ i,i<n->(A7i (A5h M i) M i i).any A2e=AH
 piv:∀ i,i<n->J_ (B3s (A5h M i) M i)=AF/\0<R_ (B3s (A5h M i) M i)
theorem C8e (F:TFactor) (M:List (List TRat)) (i:Nat):∀ j,(A7i F M i j).length=j
 |0=>rfl
 |j+1=>by rw[A7i,List.length_append,C8e F M i j];rfl
theorem B5g (M:List (List TRat)):∀ i,(A5h M i).lower.length=i/\(A5h M i).pivots.length=i
 |0=>⟨rfl,rfl⟩
 |i+1=>by have ih:=B5g M i;rw[A5h];simp[ih.1,ih.2]
theorem C2o (M:List (List TRat)):∀ (i j:Nat) (r:List TRat),(A5h M i).lower[j]?=QZ r->r.length=j
 |0,j,r,h=>by simp[A5h]at h
 |i+1,j,r,h=>by
  rw[A5h]at h
  have hl:=(B5g M i).1
  rcases CG j (A5h M i).lower.length with hj|hj
  ·rw[List.getElem?_append_left hj]at h;exact C2o M i j r h
  ·rw[List.getElem?_append_right hj]at h
   cases hq:j - (A5h M i).lower.length with
   |zero=>rw[hq]at h;simp at h;rw[<-h,C8e];omega
   |succ q=>rw[hq]at h;simp at h
theorem D9d {w:AD} {A:Option AJ} {n c:Nat} {xs:List Int} {bs:List Nat} (h:Sl w A n c xs bs) {g:Nat} {arr:Array AU} {t:TypeId} (hg:w.1[g]?=QZ (BG arr t)) (hn:∀ (j:Nat) (z:Int),arr[j]?≠QZ (N K z)):g∉bs:=λhm=>by
 rcases Nat.eq_zero_or_pos n with h0|h0
 ·rw[h.2.2.2.1 h0]at hm;cases hm
 obtain⟨b,off,x,e,_,_,_,hc⟩:=Sl.getInt h h0
 obtain⟨b',off',bss,e',hbs,hl,_,he⟩:=h.2.2.2.2 h0
 rw[e]at e'
 injection e' with e'
 injection e' with e1 e2 _
 subst e1
 rw[hbs]at hm
 rcases List.mem_cons.1 hm with rfl|hm
 ·rw[(bx hg).1]at hc
  exact hn _ _ hc
 obtain⟨fs,hfs,hgf⟩:=List.mem_flatten.1 hm
 obtain⟨k,hk,rfl⟩:=List.getElem_of_mem hfs
 obtain⟨cs,_,_,h2,_⟩:=he k _ _ (DU oS) (DU hk)
 rw[h2]at hgf;cases hgf
theorem F2x {w:AD} {v:AU} {x:TRat} {s:List Nat} (h:Agg w v x s) {g:Nat} {b:Bool} {D E:Option AJ} {n1 G n2 H:Nat} {t:TypeId} (O:w.1[g]?=QZ (BG #[RT b,QX D n1 G,QX E n2 H] t)):g∉s:=by
 obtain⟨Y,m1,aa,ac,Z,m2,ab,ad,rfl,rfl,W,X⟩:=CF h
 have T:∀ (j:Nat) (z:Int),(#[RT b,QX D n1 G,QX E n2 H]:Array AU)[j]?≠QZ (N K z):=λj z=>by
  match j with
  |0=>simp
  |1=>simp
  |2=>simp
  |j+3=>simp
 intro u;rcases DV.1 u with u|u
 ·exact D9d W O T u
 exact D9d X O T u
attribute [local go_sem] L_ Go.XB.opAt N_ M_ Region.wanted yielded
attribute [local go_sem] D2s
attribute [local simp] N_ M_ MP.eq MP.agg MP.aggS MP.aggP MP.sl MP.slbox MP.box A0r
theorem E6d:(prog.info? 27).map (λi=>(i.zero,i.size,i.bytes))=QZ (QZ (QX QY 0 0),1,24):=kR
set_option maxRecDepth 20000 in
theorem B8s (v:AU) (M:List (List TRat)) (n:Nat) (s:List Nat) (w:AD) (bS:Agg w v (spM M) s) (a7:FacOk n M):BL prog 117 #[v] w (E5u w (A5h M n)):=by
 have bm:=A_ bS;have au:=A_ a7;have eR:=a7.sq.n40;obtain⟨A,ac,c,eZ,rfl,rfl,cP⟩:=TMatrix.agg bS;obtain rfl:ac=n:=by rw[<-cP.1];simp[spM,a7.sq.len]
 have eS:(ac:Int)<=40:=oS;clear bS cP a7;go_enter func117,ntmps117;go_upto_region 1 with fail;refine Code.new2 λdF X=>?_;have bi:=A_ X.b;have ay:=A_ X.k;have aI:=A_ X.l;clear X;obtain⟨aq,ar,ap⟩:=bx ay;go_wp2_with fail;refine(B3d _ M ac _ dF (bm.below bi) au.sq au.sy).mono ?_;rintro _ es ⟨rfl,a8⟩;have b6:=A_ (BH bi a8);have cs:=A_ (A0z ay a8);have bo:=A_ (A0z aI a8);clear a8 aq ar ap bi ay aI;go_upto_region 4 with fail;obtain⟨O,bL⟩:∃ g,es.1.size=g:=⟨_,rfl⟩
 refine DY λc9 X=>?_;have b8:=A_ (BH b6 X.b);have af:=A_ X.k;have bn:=A_ (A0z cs X.b);have cv:=A_ (A0z bo X.b);rw[bL]at af ⊢;have H:=A_ (by rw[<-bL];exact E_ bo:w.1.size+1<O);have cc:=A_ (GrowB.nil (α:=List TRat) 27 c9);have cg:=A_ (GrowB.nil (α:=TRat) 39 c9);clear X bL cs bo b6;obtain⟨aq,ar,ap⟩:=bx bn;go_wp2_with fail;go_loopg [17] ac (λg s wr=>∃ (k:Nat) (bV bW:AU) (bz aM:List Nat),k+g=ac/\s=N K k/\BI (Bw w wr)/\BI (wr.1[w.1.size]?=QZ (BG #[QX A ac c] 90))/\BI (wr.1[w.1.size+1]?=QZ (BG #[QX QY 0 0,QX QY 0 0] 151))/\BI (wr.1[O]?=QZ (BG #[bV,bW] 151))/\BI (GrowB 27 wr bV k (A5h M k).lower bz)/\BI (GrowB 39 wr bW k (A5h M k).pivots aM)/\BI (∀ b∈bz,O<b/\b∉aM)/\BI (∀ b∈aM,O<b));case atStart=>exact⟨0,_,_,_,_,oS,rfl,b8.o,bn.o,cv.o,af.o,cc.o,cg.o,A_ (λb hb=>by cases hb),A_ (λb hb=>by cases hb)⟩
 case round =>
  clear b8 bn cv af cc cg aq ar ap;obtain⟨k,bV,bW,bz,aM,c1,rfl,B,ay,aI,af,ae,aF,aJ,LP⟩:=hrel;rename AD=>wr;obtain⟨b5,cK,dH,rfl,be,cU⟩:=ae.sl;obtain⟨aW,a6,dI,rfl,bf,cV⟩:=aF.sl;have cp:=A_ be;have cq:=A_ bf;have aZ:=A_ (TFactor.mkAgg (x:=A5h M k) be bf);rcases CG k ac with aD|aD
  ·have d6:(k:Int)<ac:=oS
   obtain⟨g,rfl⟩:∃ g,gk=g+1:=⟨gk - 1,oS⟩
   have d5:=A_ (by omega:k+1+g=ac);have a1:=A_ aD;have bM:k<=40:=oS;have eQ:(k:Int)<=40:=oS;obtain⟨F,ak⟩:∃ F,A5h M k=F:=⟨_,rfl⟩
   have eC:=A_ ak;have aY:=A_ (by rw[<-ak];exact B5g M k:F.lower.length=k/\F.pivots.length=k);have dk:=A_ (by rw[<-ak];exact C2o M k:∀ (j:Nat) (r:List TRat),F.lower[j]?=QZ r->r.length=j);have cG:=A_ (by rw[<-ak];exact au.row k aD:(A7i F M k k).any A2e=AH);have am:=A_ (by rw[<-ak];exact au.piv k aD:J_ (B3s F M k)=AF/\0<R_ (B3s F M k));have a3:=A_ (by rw[A5h,ak]:A5h M (k+1)=⟨F.lower++[A7i F M k k],F.pivots++[B3s F M k]⟩);rw[ak]at cp cq aZ ae aF;clear be bf c1 aD ak;go_upto_region 8 with fail;have dp:=A_ (GrowB.made (α:=TRat) 39 wr);obtain⟨ad,bd⟩:∃ g,wr.1.size=g:=⟨_,rfl⟩
   refine DY λw3 X=>?_;have b9:=A_ X.b;have cj:=A_ (show GrowB (α:=TRat) 39 w3 (QX (QZ ⟨ad,0,QY⟩) 0 0) 0 [] [ad]from⟨[],[],⟨sI,.inr ⟨ad,0,#[],rfl,EO _,bd ▸ X.o.k,CE _,EO _,rfl,rfl⟩⟩,Filled.nil _ _,rfl,λg _=>sI,rfl⟩);have ai:=A_ bd;rw[bd];clear X dp bd;go_wp2_with fail;go_loopg [6,22] k (λg2 sR s wx=>∃ (j an aj:Nat) (bD:List Nat),j+g2=k/\s=N K j/\sR=QX (QZ ⟨an,0,QY⟩) j aj/\BI (Bw wr wx)/\BI (GrowB 39 wx (QX (QZ ⟨an,0,QY⟩) j aj) j (A7i F M k j) bD)/\BI (∀ b∈bD,ad<=b));case atStart=>exact⟨0,ad,0,_,oS,rfl,rfl,b9.o,cj.o,A_ (λb hb=>by simp at hb;omega)⟩
   case round =>
    clear b9 cj;obtain⟨j,an,aj,bD,c0,rfl,rfl,Y,aH,bu⟩:=hrel;rename AD=>wx;obtain⟨ex,eK,aA,hv,c5,dZ⟩:=aH.sl;injection hv with hv1 hv2 hv3;subst hv1;subst hv3;have ax:=A_ c5;have bt:=A_ (A0z af Y);have dx:=A_ (A0z ay Y);obtain⟨aq,ar,ap⟩:=bx dx;obtain⟨aa,ab,l1⟩:=bx bt;clear c5;rcases CG j k with aC|aC
    ·have d4:(j:Int)<k:=oS
     obtain⟨g2,rfl⟩:∃ g2,gk=g2+1:=⟨gk - 1,oS⟩
     have d3:=A_ (by omega:j+1+g2=k);have dq:=A_ aC;obtain⟨eE,eX,bg,dd,ec,dJ,dV,rfl,eO,bN,d1,bR,_⟩:=Sl.elemS (cp.below Y) aC;obtain rfl:j=ec:=by rw[<-bR.1];exact(dk j bg bN).symm
     obtain⟨eF,eY,z,ey,eT,eG,cQ,ez,eU,eH,cR,rfl,eP,c6,d9,ea,eb,cW⟩:=IM (cq.below Y) aC;have cE:=A_ (by rw[A7i,A0e bN,A0e c6]:A7i F M k (j+1)=A7i F M k j++[A3u (A7r F.pivots (A7i F M k j) bg (B4g M k j) j) z]);obtain⟨aL,bI⟩:∃ aL,A7r F.pivots (A7i F M k j) bg (B4g M k j) j=aL:=⟨_,rfl⟩
     have dt:=A_ bI;have ds:=A_ bR;have du:=A_ cW;rw[bI]at cE;clear bN bR c6 cW c0 aC bI;go_wp2_with fail;refine W_ 20 kR kR kR kR kR ?_;simp only[GT,FM,GU,FF];iterate 5 refine C_ _ ?_
     refine D_ (MP.aggS (B4g M k j)) ?_ ?_;·intro T W E D u;obtain⟨aO,aQ⟩:=F_ D;simp at u;refine G_ ?_;exact A7t (D8i _ M ac _ k j E (bm.below (BH (BH B Y) D)) au.sq a1 (Nat.lt_trans dq a1))
     iterate 6 refine C_ _ ?_
     refine D_ (MP.aggS aL) ?_ ?_;·intro T W E D u;obtain⟨aO,aQ⟩:=F_ D;simp at u;refine G_ ?_;obtain⟨_,⟨_,bT,bU⟩,_⟩:=u;have C:=C6t _ F _ _ (B4g M k j) bT (QZ ⟨an,0,QY⟩) j aj (A7i F M k j) aA dd dJ bg dV E ((aZ.o.below Y.o).below D) bU (ax.o.below D) (ds.o.below D) oS (by rw[aY.o.2];omega) (by rw[aY.o.2];exact bM);rw[dt.o]at C;exact A7t (C.mono λ_ _ ⟨v,s,cQ,cR,_,h4⟩=>⟨v,s,cQ,cR,h4⟩)
     iterate 5 refine C_ _ ?_
     refine D_ (CH (A3u aL z)) ?_ ?_;·intro T W E D u;obtain⟨aO,aQ⟩:=F_ D;simp at u;refine G_ ?_;obtain⟨_,_,_,e0,er⟩:=u;exact H_ (A8m _ _ aL z _ _ E er (du.below D))
     refine A1d (λaV=>MP.slbox (aV 18).cells 39) (by intro y aV h;simp[N_,M_]at h;simp[h]) ?_ ?_;·intro T W E D u;simp at u;obtain⟨dh,ed,dL,dR,di,ee,dM,dT,bE,_,_,_⟩:=CF u.1;refine⟨gD,QX (QZ ⟨E.1.size,0,QY⟩) 1 1,E.alloc (BG (T 18).cells 39),?_,BP _,[E.1.size],⟨E.1.size,rfl,rfl,DB E _⟩,sI⟩;rw[bE];go_simp
     intro T W wa D u (aP:BI _);simp at u;have c7:=u.1;have eh:=u.2.2.2.2.2.2.2.2.2.2.2.2.2.2.2.2.2.2.1;have ei:=u.2.2.2.2.2.2.2.2.2.2.2.2.2.2.2.2.2.2.2;obtain⟨⟨ah,bK⟩,aS⟩:=eh;obtain⟨dl,ef,dN,dW,dm,eg,dO,dX,bF,bY,m1,m2⟩:=CF ah;obtain⟨⟨dY,dS,bZ,ao⟩,bO⟩:=ei;rw[bF]at ao ah;have bh:=A_ (A3x ah);have aw:=A_ (show ∀ b∈W 18,wx.1.size<=b from λb hb=>(aS b hb).1);have G:=A_ D;have bl:=A_ ao;have eL:T 0=QX (QZ ⟨an,0,QY⟩) j aj:=c7.1.1;have bk:=A_ (by unfold BS;omega:j+1<=BS/\(j+1)*56<=140737488355328);generalize W 18=eo at *;clear u aP ah bK aS bY m1 m2 ao bO bZ c7 D aq ar ap aa ab l1 d1 d9 ea eb;go_wp2_with (at_builtin;refine A9t rfl rfl underlying27 B2r aH G (A0a bl) bh (λb hb hv=>by have:=aw b hb;have:=aH.lt b hv;omega) bk.o ?_;intro g8 dQ e2 cJ d7 d2 d0);have df:=A_ (A5d (BH Y G) d2 (CJ Y.size G.size) (λg hg=>by have:=bu g (aH.own g hg);have:=ai.o;omega))
     have dD:=A_ (show ∀ b∈cJ,ad<=b from λb hb=>by
      have:=G.size;have:=Y.size;have:=ai.o;rcases d0 b hb with h|h|h
      ·exact bu b h
      ·have:=aw b h;omega
      omega)
     go_roundg g2;case measure=>omega
     case rel =>refine⟨j+1,g8,dQ,cJ,d3,gN,rfl,df,?_,dD⟩;show GrowB _ _ _ _ _ _;rw[cE.o];exact d7
    obtain rfl:j=k:=oS;have d4:¬ ((j:Int)<j):=oS;obtain⟨row,bQ⟩:∃ row,A7i F M j j=row:=⟨_,rfl⟩
    obtain⟨PV,bH⟩:∃ PV,B3s F M j=PV:=⟨_,rfl⟩
    have dj:=A_ (by rw[<-bH,B3s,bQ]:A7r F.pivots row row (B4g M j j) j=PV);rw[bQ]at ax cG a3 aH;rw[bH]at am a3;have eD:=A_ (ratOkB_iff.1 am.1);clear c0 aC bQ bH;go_wp2_with fail;refine X_ sI ?_;dsimp only[DN,DO,DQ];iterate 4 refine C_ _ ?_
    refine D_ (MP.aggP (λb=>b<w.1.size\/wx.1.size<=b) (B4g M j j)) ?_ ?_;·intro T W E D u;obtain⟨aO,aQ⟩:=F_ D;simp at u;refine G_ ?_;exact C7k ((C3x _ M ac _ j j w E bm (BH (BH B Y) D) au.sq a1 a1).mono λ_ _ h=>h.weak λb hb=>hb.imp id λh=>CJ D.size h)
    iterate 2 refine C_ _ ?_
    refine D_ (MP.aggP (λb=>b<w.1.size\/wx.1.size<=b) PV) ?_ ?_;·intro T W E D u;obtain⟨aO,aQ⟩:=F_ D;simp at u;refine G_ ?_;obtain⟨_,⟨_,bT,bU,el⟩,_⟩:=u;have C:=C6t _ F _ _ (B4g M j j) bT (QZ ⟨an,0,QY⟩) j aj row aA (QZ ⟨an,0,QY⟩) aj row aA E ((aZ.o.below Y.o).below D) bU (ax.o.below D) (ax.o.below D) bM (by rw[aY.o.2];exact CE _) (by rw[aY.o.2];exact bM);rw[dj.o]at C;exact C7k (C.mono λ_ _ h=>h.weak λb hb=>hb.elim (el b) λh=>.inr (CJ D.size h))
    refine A1p #[RT AH,QX QY 0 0,QX QY 0 0] 39 ?_ ?_;·intro T W E D u;refine⟨gD,?_⟩;go_simp
    intro T W wa D u (aP:BI _);simp at u;have em:=u.2.2.2.2.2.2.2.1;have en:=u.2.2.2.2.2.2.2.2;obtain⟨⟨bG,eN,da,bc⟩,bP⟩:=en;obtain⟨⟨_,ep,aN,c2⟩,_⟩:=em;obtain⟨eA,eV,eI,e3,eB,eW,eJ,e4,dU,ew,_,_⟩:=CF aN;rw[dU]at aN;rw[da]at bP;have cZ:wx.1.size<=bG:=(bP bG sI).1;have cY:=F2x aN bc;have cm:=A_ bc;have ck:=A_ aN;have cn:=A_ cY;have dr:=A_ c2;have G:=A_ D;obtain⟨aT,aU,aR⟩:=bx bc;clear u aP bP bc D da aN ew cY c2 aq ar ap aa ab l1;go_upto_region 14 with fail;refine Code.set3 cm λev a4=>?_;have de:=A_ (a4.low G G.size cZ);have b4:=A_ (ck.keepG a4.gr cn);have cz:=A_ a4.k;clear a4 cm ck cn G aT aU aR;have dG:=A_ (by have:=cZ;have:=E_ bt;omega:O<bG);obtain⟨aT,aU,aR⟩:=bx cz;go_wp2_with fail;have C:=B8u _ PV _ ev b4;rw[show A9m PV=1 by unfold A9m;rw[if_pos am.o.1];unfold A2v sgn;rw[if_neg (by have:=am.o.2;omega),if_pos am.o.2]]at C;refine C.mono ?_;clear C;rintro _ et ⟨rfl,a9⟩;have b7:=A_ (BH de a9);have dA:=A_ (A0z cz a9);have db:=A_ (b4.below a9);clear a9 aT aU aR;go_wp2_with fail;refine(A5p _ j aj row aA et (ax.below b7) cG).mono ?_;rintro _ eu ⟨rfl,ba⟩;have aX:=A_ (BH b7 ba);have cx:=A_ (A0z dA ba);have b0:=A_ (db.below ba);clear ba;have bp:=A_ (A0z bt aX);have aE:=A_ (BH Y aX);have cd:=A_ (ae.below aE);have ch:=A_ (aF.below aE);have dg:=A_ (by unfold BS;omega:j+1<=BS/\(j+1)*24<=140737488355328);have bk:=A_ (by unfold BS;omega:j+1<=BS/\(j+1)*56<=140737488355328);have cF:=A_ (show ∀ b∈aA,ad<=b from λb hb=>bu b (dZ b hb));have a5:=A_ (show ad<=wx.1.size/\wx.1.size<=eu.1.size from⟨by have:=Y.size;have:=ai.o;omega,aX.o.size⟩);obtain⟨aa,ab,l1⟩:=bx bp;go_wp2_with (at_builtin;refine A9t rfl rfl underlying149 E6d cd (BP _) (A0a (DB _ _)) (pt:=row) (zb:=aA) ⟨_,_,_,rfl,(ax.below aX).below (BP _)⟩ (λb hb hv=>by have:=cF b hb;have:=ae.lt b hv;have:=ai.o;omega) dg.o ?_;intro cN cL e1 bA c4 al cX;have bq:=A_ (A6d (A0z bp (BP _)) al (λg hg=>by have:=(aJ g (ae.own g hg)).1;omega));clear aa ab l1;obtain⟨aa,ab,l1⟩:=bx bq)
    have a2:=A_ (show ∀ b∈bA,O<b/\b∉aM from λb hb=>by
     have:=a5.o;have:=ai.o;rcases cX b hb with h|h|h
     ·exact aJ b h
     ·have:=cF b h;exact⟨by have:=E_ af;omega,λhv=>by have:=aF.o.lt b hv;omega⟩
     rw[FU]at h;exact⟨by have:=E_ af;omega,λhv=>by have:=aF.o.lt b hv;omega⟩)
    have aK:=A_ (show ∀ g,(QX b5 j cK).ownBlock=QZ g->O<g/\g<ad from λg hg=>⟨(aJ g (ae.own g hg)).1,by have:=ae.lt g (ae.own g hg);have:=ai.o;omega⟩);have cH:=A_ (show ∀ b∈ep,b<O\/ad<=b from λb hb=>by have:=dr b hb;have:=a5.o;have:=H.o;omega);have ct:=A_ (A6d (A0z (A0z ay aE) (BP _)) al (λg hg=>by have:=aK g hg;have:=H.o;omega));have cu:=A_ (A6d (A0z (A0z aI aE) (BP _)) al (λg hg=>by have:=aK g hg;have:=H.o;omega));have bj:=A_ (A5d (BH (BH B aE) (BP _)) al (by have:=B.size;have:=ai.o;have:=a5.o;simp;omega) (λg hg=>by have:=aK.o g hg;have:=H.o;omega));have ci:=A_ ((ch.below (BP _)).kept al (λg hg=>(aJ g (ae.own g hg)).2));have cy:=A_ (A6d (A0z cx (BP _)) al (λg hg=>by have:=aK g hg;have:=a5.o;omega));have b3:=A_ ((b0.below (BP _)).keepR al (λg hg Z=>by have:=aK g hg;have:=cH g Z;omega));clear aa ab l1 al cX cd ch cx b0 bp;refine Code.setAt (arr':=#[QX (QZ ⟨cN,0,QY⟩) (j+1) cL,QX aW j a6]) bq λbX ag=>?_;have br:=A_ ag.k;have ce:=A_ (c4.kept ag.gr (λg hg Z=>by cases hg;have:=(a2 _ Z).1;omega));have aG:=A_ (ci.kept ag.gr (λg hg Z=>by cases hg;have:=LP _ Z;omega));have dB:=A_ (A6d cy ag.gr (λg hg e=>by cases hg;have:=dG.o;omega));have dc:=A_ (b3.keepR ag.gr (λg hg Z=>by cases hg;have:=cH _ Z;have:=E_ af;have:=ai.o;omega));have dv:=A_ (A6d ct ag.gr (λg hg e=>by cases hg;have:=H.o;omega));have dy:=A_ (A6d cu ag.gr (λg hg e=>by cases hg;have:=H.o;omega));have ca:=A_ (A5d bj ag.gr bj.size (λg hg=>by cases hg;have:=H.o;omega));clear c4 ag bq ci cy b3 ct cu bj;obtain⟨aa,ab,l1⟩:=bx br;obtain⟨aT,aU,aR⟩:=bx dB;refine W_ 5 kR kR kR kR kR ?_;simp only[GT,FM,GU,FF];iterate 3 refine C_ _ ?_
    refine D_ (CH PV) ?_ ?_;·intro T W E D u;obtain⟨aO,aQ⟩:=F_ D;simp at u;refine G_ ?_;exact H_ (A3n _ _ _ E (dc.below D) (CJ (B1b am.1).1 dE) (CJ (B1b am.1).2 dE))
    refine A1d (λaV=>MP.slbox (aV 3).cells 39) (by intro y aV h;simp[N_,M_]at h;simp[h]) ?_ ?_;·intro T W E D u;simp at u;obtain⟨dh,ed,dL,dR,di,ee,dM,dT,bE,_,_,_⟩:=CF u.1;refine⟨gD,QX (QZ ⟨E.1.size,0,QY⟩) 1 1,E.alloc (BG (T 3).cells 39),?_,BP _,[E.1.size],⟨E.1.size,rfl,rfl,DB E _⟩,sI⟩;rw[bE];go_simp
    intro T W wa D u (aP:BI _);simp at u;have q1:=u.2.1;have ej:=u.2.2.2.1;have ek:=u.2.2.2.2;obtain⟨⟨ah,bK⟩,aS⟩:=ej;obtain⟨dl,ef,dN,dW,dm,eg,dO,dX,bF,bY,m1,m2⟩:=CF ah;obtain⟨⟨dY,dS,bZ,ao⟩,bO⟩:=ek;rw[bF]at ao ah;have bh:=A_ (A3x ah);have aw:=A_ (show ∀ b∈W 3,bX.1.size<=b from λb hb=>(aS b hb).1);have G:=A_ D;have bl:=A_ ao;have eM:T 1=QX aW j a6:=q1.1.1;generalize W 3=eo at *;clear u aP ah bK aS bY m1 m2 ao bO bZ q1 D aa ab l1 aT aU aR;have cA:=A_ (A0z br G);obtain⟨aa,ab,l1⟩:=bx cA;go_wp2_with (at_builtin;refine A9t rfl rfl underlying27 B2r aG G (A0a bl) bh (λb hb hv=>by have:=aw b hb;have:=aG.lt b hv;omega) bk.o ?_;intro cO cM c8 bB d8 aB bJ;have cw:=A_ (A6d cA aB (λg hg=>by have:=LP g (aG.own g hg);omega));clear aa ab l1;obtain⟨aa,ab,l1⟩:=bx cw);have bv:=A_ (show ∀ g,(QX aW j a6).ownBlock=QZ g->O<g from λg hg=>LP g (aG.own g hg));have cI:=A_ (show O<bX.1.size/\bX.1.size<=wa.1.size from⟨E_ br,G.size⟩)
    have cD:=A_ (show ∀ b∈bB,O<b from λb hb=>by
     have:=cI.o;rcases bJ b hb with h|h|h
     ·exact LP b h
     ·have:=aw b h;omega
     omega)
    have cB:=A_ (show ∀ b∈bA,O<b/\b∉bB from λb hb=>⟨(a2 b hb).1,λhv=>by
     have:=ce.lt b hb;have:=cI.o;rcases bJ b hv with h|h|h
     ·exact(a2 b hb).2 h
     ·have:=aw b h;omega
     omega⟩)
    have az:=A_ (show Sets c8 (c8.setCell ⟨O,1,QY⟩ (QX (QZ ⟨cO,0,QY⟩) (j+1) cM)) O #[QX (QZ ⟨cN,0,QY⟩) (j+1) cL,QX (QZ ⟨cO,0,QY⟩) (j+1) cM] 151 from⟨A5y (B3a _ _),B9q cw⟩);have dn:=A_ ((ce.below G).kept aB (λg hg Z=>(a2 g Z).2 (aG.own g hg)));have dw:=A_ (A6d (A0z dv G) aB (λg hg=>by have:=bv g hg;have:=H.o;omega));have dz:=A_ (A6d (A0z dy G) aB (λg hg=>by have:=bv g hg;have:=H.o;omega));have cb:=A_ (A5d (BH ca G) aB (CJ ca.size G.size) (λg hg=>by have:=bv g hg;have:=H.o;omega));clear aa ab l1 aB bJ;go_roundg g;case measure=>omega
    case rel =>
     refine⟨j+1,_,_,bA,bB,d5,gN,A5d cb az.gr cb.size (λg hg=>by cases hg;have:=H.o;omega),A6d dw.o az.o.gr (λg hg e=>by cases hg;have:=H.o;omega),A6d dz.o az.o.gr (λg hg e=>by cases hg;have:=H.o;omega),az.o.k,?_,?_,cB.o,cD.o⟩;·show GrowB _ _ _ _ _ _;rw[a3.o];exact dn.kept az.gr (λg hg Z=>by cases hg;have:=(cB _ Z).1;omega)
     show GrowB _ _ _ _ _ _;rw[a3.o];exact d8.kept az.gr (λg hg Z=>by cases hg;have:=cD _ Z;omega)
  obtain rfl:k=ac:=oS;have d6:¬ ((k:Int)<k):=oS;have co:=A_ (show ∀ b∈dH++dI,O<b from λb hb=>(DV.1 hb).elim (λh=>(aJ b (cU b h)).1) (λh=>LP b (cV b h)));obtain⟨aa,ab,l1⟩:=bx aI;obtain⟨aq,ar,ap⟩:=bx af;clear c1 aD be bf cU cV;go_wp2;refine CK (v:=.tuple #[BJ #[QX b5 k cK,QX aW k a6],RT AF]) (by simp[CO,results117,go_sem, *]) rfl ?_;exact⟨_,_,rfl,aZ.keepG (A5y (A5y (B3a _ _))) (λh=>by have:=co _ h;have:=H.o;omega),(λb hb=>by have:=co.o b hb;have:=H.o;omega),(B.o.setCell (p:=⟨w.1.size+1,0,QY⟩) sI _).setCell (p:=⟨w.1.size+1,1,QY⟩) sI _⟩
end
end Go.Proofs.YtjcanieccnljfaaGreat.X

namespace Go.XB
open Go.RowKit Go.Proofs.YtjcanieccnljfaaGreat.X
structure VSt (w1 wr:AD) (g n cap:Nat) (V:List TRat):Prop where
 rr:RR (λb=>b<w1.1.size\/b=g) wr g n cap V
 lo:w1.1.size<=g
 kp:Bw w1 wr
theorem VSt.below {w1 wr wa:AD} {g n cap:Nat} {V:List TRat} (h:VSt w1 wr g n cap V) (hC:Bw wr wa):VSt w1 wa g n cap V:=⟨h.rr.below hC,h.lo,BH h.kp hC⟩
theorem VSt.set {w1 wr wa:AD} {g n cap:Nat} {V:List TRat} (h:VSt w1 wr g n cap V) (hC:Bw wr wa) {k:Nat} (hk:k<n) {y:TRat} {O1:Option AJ} {o1 u1:Nat} {O2:Option AJ} {o2 u2:Nat} {fs:List Nat} (ha:Agg wa (BJ #[RT y.1.1,QX O1 o1 u1,QX O2 o2 u2]) y fs) (hf:∀ b∈fs,wr.1.size<=b/\b<wa.1.size) :
  VSt w1 (((wa.setCell ⟨g,k*3,QY⟩ (RT y.1.1)).setCell ⟨g,k*3+1,QY⟩ (QX O1 o1 u1)).setCell ⟨g,k*3+2,QY⟩ (QX O2 o2 u2)) g n cap (V.set k y) :=
 ⟨(h.rr.below hC).set hk ha (λb hb hbad=>by have h1:=(hf b hb).1;have:=h.kp.size;have:=h.rr.lt;rcases hbad with h2|h2<;>omega),h.lo,
  (((BH h.kp hC).setCell (p:=⟨g,_,QY⟩) h.lo _).setCell (p:=⟨g,_,QY⟩) h.lo _).setCell (p:=⟨g,_,QY⟩) h.lo _⟩
theorem VSt.start {b w2:AD} {g n cap:Nat} {V:List TRat} (h:Pend b b 39 w2 g n cap V):VSt b w2 g n cap V:=by
 have Y:=h.lt;obtain⟨cells,fss,E,G,H,O,T,Z,W,aa⟩:=h;exact⟨⟨cells,fss,B0o E,G,H,λD u X=>X.elim (λh=>by have:=(O.2 D u).1;omega) (λh=>T (h ▸ u)),.inr rfl⟩,Y.1,W⟩
end Go.XB
namespace Go.Proofs.YtjcanieccnljfaaGreat.X
open Go.RowKit Go.XB Go.XN Proofs.Tryz
def B6w (row:List TRat) (i:Nat) (V:List TRat):Nat->List TRat
 |0=>V
 |k+1=>(B6w row i V k).set i (A3t ((B6w row i V k).getD i A0h) (A0d (row.getD k A0h) ((B6w row i V k).getD k A0h)))
def C5k (L:List (List TRat)) (V:List TRat):Nat->List TRat
 |0=>V
 |i+1=>B6w (L.getD i []) i (C5k L V i) i
def C5l (P V:List TRat):Nat->List TRat
 |0=>V
 |i+1=>(C5l P V i).set i (A3u ((C5l P V i).getD i A0h) (P.getD i A0h))
def B4s (L:List (List TRat)) (i:Nat) (V:List TRat):Nat->List TRat
 |0=>V
 |q+1=>(B4s L i V q).set i (A3t ((B4s L i V q).getD i A0h) (A0d ((L.getD (i+1+q) []).getD i A0h) ((B4s L i V q).getD (i+1+q) A0h)))
def C3r (L:List (List TRat)) (n:Nat) (V:List TRat):Nat->List TRat
 |0=>V
 |m+1=>B4s L (n - 1 - m) (C3r L n V m) m
def B1g (F:TFactor) (n:Nat) (b:List TRat):List TRat:=C3r F.lower n (C5l F.pivots (C5k F.lower b n) n) n
structure FacD (F:TFactor) (n:Nat):Prop where
 n40:n<=40
 ll:F.lower.length=n
 pl:F.pivots.length=n
 row:∀ (j:Nat) (r:List TRat),F.lower[j]?=QZ r->r.length=j
attribute [local go_sem] L_ Go.XB.opAt N_ M_ Region.wanted yielded
attribute [local simp] N_ M_ MP.eq MP.agg MP.aggS MP.sl MP.slbox A0r
theorem C2r (A:Option AJ) (n c:Nat) (xs:List TRat) (bs:List Nat) (w:AD) (al:Sl w A n c xs bs) (aW:n<=144) (aj:∀ x∈xs,B4q x) :
  BL prog 62 #[QX A n c] w (λe w'=>∃ gV cap,e=.returned (QX (QZ ⟨gV,0,QY⟩) n cap)/\Pend w w 39 w' gV n cap xs):=by
 have ac:=A_ al;have au:=A_ aj;have aX:(n:Int)<=144:=oS;obtain⟨aH,aA,aE,aF,aG⟩:=FB B2r;clear al aj;go_enter func62,ntmps62;go_wp2_with fail;have ae:=A_ (Pend.start (α:=TRat) (e:=39) (Below.refl w.1.size w));go_loopg [3,9] n (λg s3 s wr=>∃ (i gB cap:Nat),i+g=n/\s=N K i/\s3=QX (QZ ⟨gB,0,QY⟩) i cap/\BI (Pend w w 39 wr gB i cap (xs.take i)));case atStart=>exact⟨0,w.1.size,0,oS,rfl,rfl,ae.o⟩
 case round =>
  clear ae;obtain⟨i,gB,cap,ai,rfl,rfl,h⟩:=hrel;have aq:=A_ h.bw;rcases CG i n with b|b
  ·have aC:(i:Int)<n:=oS
   obtain⟨g,rfl⟩:∃ g,gk=g+1:=⟨gk - 1,oS⟩
   have aB:=A_ (by omega:i+1+g=n);have aV:i+1<=n:=b;have an:=A_ (by unfold BS;omega:i+1<=BS);have ao:=A_ (by omega:(i+1)*56<=140737488355328);obtain⟨aM,aY,x,aK,n1,aN,aZ,aL,n2,aO,a1,rfl,aU,W,aP,aQ,aR,ag⟩:=IM (ac.below aq) b;have ad:=A_ (au x (DH W));have ax:=A_ (take_step W);have ap:=A_ ag;clear ai b ag W;go_wp2_with fail;refine(A3n _ x _ _ (ap.below Below.go) (CJ ad.1 dE) (CJ ad.2 dE)).mono ?_;rintro _ wa ⟨a2,am,rfl,O,T,ah⟩;obtain⟨u,X,G,aS,D,Y,H,aT,rfl,aJ,_,_⟩:=CF O;have Z:=A_ (A3x (O.below (BP (BG #[RT x.1.1,QX u X G,QX D Y H] 39))));have aa:=A_ ((T.below (BP (BG #[RT x.1.1,QX u X G,QX D Y H] 39))).free);have ab:=A_ (show ∀ E∈am,wr.1.size<=E from λE ay=>by have:=(T.2 E ay).1;simp at this;omega);have ar:=A_ (show Bw wr wa from Below.trans (BP _) (ah.mono sI));clear O T aJ ah;go_wp2_with (at_builtin;refine A1v rfl _ _ 27 rfl 39 aH (BJ #[RT AH,QX QY 0 0,QX QY 0 0]) 56 underlying27 aA aE aF aG rfl h (BH ar (BP _)) gD ⟨wa.1.size,0,QY⟩ 1 [RT x.1.1,QX u X G,QX D Y H] x am gD (A0a (DB wa _)) Z aa ab an ao ?_;intro g' af aI ak az aD);have aw:=A_ (by rw[ax.o];exact ak:Pend w w 39 aI g' (i+1) af (xs.take (i+1)));clear ak az aD Z aa ab h;go_wp2_with fail;go_roundg g;case measure=>omega
   case rel=>exact⟨i+1,g',af,aB,gN,rfl,aw⟩
  obtain rfl:i=n:=oS;have aC:¬ ((i:Int)<i):=oS;clear ai b;go_wp2;go_ret;have:=h.o;rw[DT (by rw[ac.o.1];exact CE _)]at this;exact⟨_,_,rfl,this⟩
set_option maxRecDepth 20000 in
theorem D7t (v:AU) (F:TFactor) (n:Nat) (b:List TRat) (s:List Nat) (B:Option AJ) (d:Nat) (bS:List Nat) (w:AD) (b4:Agg w v F s) (bU:Sl w B n d b bS) (aJ:FacD F n) (ce:b.all J_=AF) (ok:(B1g F n b).any A2e=AH) :
  BL prog 118 #[v,QX B n d] w (λe w'=>∃ gV cap bs,e=.returned (QX (QZ ⟨gV,0,QY⟩) n cap)/\Sl w' (QZ ⟨gV,0,QY⟩) n cap (B1g F n b) bs/\Bw w w'):=by
 have cj:=A_ bU;have bB:=A_ aJ;have cw:=A_ ce;have cv:=A_ ok;obtain⟨cN,ca,cP,c2,cO,n1,cQ,c4,rfl,rfl,bp,bq⟩:=TFactor.agg b4;obtain rfl:ca=n:=by rw[<-bp.1];exact aJ.ll
 obtain rfl:n1=ca:=by rw[<-bq.1];exact aJ.pl
 have bE:=A_ bp;have cn:=A_ bq;have cX:=aJ.n40;have cZ:(n1:Int)<=40:=oS;clear b4 bU aJ ce ok bp bq;go_enter func118,ntmps118;go_upto_region 1 with fail;refine DY λT H=>?_;have au:=A_ H.b;have a9:=A_ H.k;clear H;go_wp2_with fail;refine(C2r B n1 d b bS T (cj.o.below au.o) oS (B6l cw.o)).mono ?_;rintro _ c5 ⟨gV,cap,rfl,bZ⟩;have bf:=A_ (VSt.start bZ);clear bZ;have bG:=A_ (A0z a9 bf.kp);obtain⟨aY,aZ,aX⟩:=bx bG;go_wp2_with fail;go_loopg [19] n1 (λg s wr=>∃ i:Nat,i+g=n1/\s=N K i/\BI (VSt T wr gV n1 cap (C5k F.lower b i)));case atStart=>exact⟨0,oS,rfl,bf.o⟩
 case round =>
  clear bf bG aY aZ aX;obtain⟨i,aQ,rfl,am⟩:=hrel;rename AD=>wr;have a7:=A_ (BH au am.kp);rcases CG i n1 with aS|aS
  ·have cI:(i:Int)<n1:=oS
   have cH:(0:Int)<=i:=oS;obtain⟨g,rfl⟩:∃ g,gk=g+1:=⟨gk - 1,oS⟩
   have cG:=A_ (by omega:i+1+g=n1);have ck:=A_ aS;obtain⟨bh,cM,al,ch,D,cE,cF,rfl,bW,ap,aN,aq,_⟩:=Sl.elemS bE aS;replace aN:=(a7.cell (p:=⟨bh,_,QY⟩) bW).trans aN;have bk:bh<wr.1.size:=Nat.lt_of_lt_of_le bW a7.size;obtain rfl:D=i:=by rw[<-aq.1];exact bB.row _ al ap
   have az:=A_ (by rw[C5k,A0e ap]:C5k F.lower b (D+1)=B6w al D (C5k F.lower b D) D);have co:=A_ aq;obtain⟨O,ao⟩:∃ O,C5k F.lower b D=O:=⟨_,rfl⟩
   have X:=A_ (show VSt T wr gV n1 cap (B6w al D O 0)from ao ▸ am.o);rw[ao]at az;clear ap aq aQ aS am ao;go_wp2_with fail;go_loopg [26] D (λg2 s wx=>∃ k:Nat,k+g2=D/\s=N K k/\BI (VSt T wx gV n1 cap (B6w al D O k)) );case atStart=>exact⟨0,oS,rfl,X.o⟩
   case round =>
    clear X aN bk;obtain⟨k,aT,rfl,E⟩:=hrel;rename AD=>wx;rcases CG k D with ab|ab
    ·have bm:(k:Int)<D:=oS
     have cJ:(0:Int)<=k:=oS;have cW:(k:Int)<n1:=oS;obtain⟨g2,rfl⟩:∃ g2,gk=g2+1:=⟨gk - 1,oS⟩
     have bl:=A_ (by omega:k+1+g2=D);have W:=A_ (show D<n1 from ck);have a1:=A_ (by omega:k<n1);obtain⟨bN,cd,r,bz,cb,bO,bQ,bA,cc,bP,bR,rfl,aL,ai,aG,aH,aI,ag⟩:=IM (co.below (BH au E.kp)) ab;have ay:=A_ ag;have a8:=A_ ai;clear ag ai aT ab;go_upto_region 8 with fail;refine DY λw3 H=>?_;have a6:=A_ H.b;have bg:=A_ H.k;have aa:=A_ (E.below H.b);clear H aG aH aI aL;obtain⟨bt,bu,br⟩:=bx bg;obtain⟨Y,P1,bL,bI,P2,bM,bJ,bK,ak,aB,aC,aD,-,-,-,ah,-,-⟩:=aa.rr.elem W;obtain⟨Z,Q1,cA,cx,Q2,cB,cy,cz,aU,ba,bc,bd,-,-,-,aK,-,-⟩:=aa.rr.elem a1;have aP:=aa.rr.lt;have aA:=A_ (by rw[B6w,A0e ak,A0e a8.o,A0e aU]:B6w al D O (k+1)=(B6w al D O k).set D (A3t Y (A0d r Z)));have aw:=A_ ah;have a5:=A_ aK;have cY:(D:Int)<n1:=oS;clear ak aU ah aK;refine X_ sI ?_;dsimp only[DN,DO,DQ];iterate 11 refine C_ _ ?_
     refine D_ (CH (A0d r Z)) ?_ ?_;·intro ar ac af u h;obtain⟨a2,a3⟩:=F_ u;simp at h;refine G_ ?_;exact H_ (A0n _ _ r Z _ _ af ((ay.below a6).below u) (a5.below u))
     refine D_ (CH (A3t Y (A0d r Z))) ?_ ?_;·intro ar ac af u h;obtain⟨a2,a3⟩:=F_ u;simp at h;refine G_ ?_;exact H_ (A5b _ _ Y (A0d r Z) _ _ af (aw.o.below u) (by first|exact h.1|exact h|exact h.2|exact h.2.1))
     refine C_ _ ?_;intro ar ac wa u h (aM:BI _);simp at h;have q1:=h.2.2.2.2.2.2.2.2.2.2.2.2.1;have q2:=h.2.2.2.2.2.2.2.2.2.2.2.2.2;have bT:=q2.1.1;obtain⟨⟨G,aO⟩,aj⟩:=q1;obtain⟨O1,p1,o1,_,O2,p2,o2,_,aF,aV,_,_⟩:=CF G;rw[aF]at G;obtain⟨_,_,_,_,_,_,_,_,_,b6,k1,k2,b7,b8,b9,_,_,bX⟩:=(aa.below u).rr.elem W;have aE:=A_ (aa.set u W G aj);generalize ac 12=cg at *;clear h aM q2 G aO aj aV u bt bu br aB aC aD ba bc bd aP;go_wp2_with fail;go_roundg g2;case measure=>omega
     case rel=>exact⟨k+1,bl.o,gN,by rw[aA.o];exact aE⟩
    obtain rfl:k=D:=oS;have bm:¬ ((k:Int)<k):=oS;have be:=A_ (by rw[az.o];exact E:VSt T wx gV n1 cap (C5k F.lower b (k+1)));clear aT ab E;go_wp2_with fail;go_roundg g;case measure=>omega
    case rel=>exact⟨k+1,cG,gN,be⟩
  obtain rfl:i=n1:=oS;have cI:¬ ((i:Int)<i):=oS;obtain⟨an,bi⟩:∃ an,C5k F.lower b i=an:=⟨_,rfl⟩
  have cp:=A_ bi;rw[bi]at am;have X:=A_ (show VSt T wr gV i cap (C5l F.pivots an 0)from am);have bH:=A_ (A0z a9 am.kp);obtain⟨aY,aZ,aX⟩:=bx bH;clear aQ aS bi am;go_wp2_with fail;go_loopg [50] i (λg s wx=>∃ k:Nat,k+g=i/\s=N K k/\BI (VSt T wx gV i cap (C5l F.pivots an k)));case atStart=>exact⟨0,oS,rfl,X.o⟩
  case round =>
   clear X aY aZ aX bH a7;obtain⟨k,aT,rfl,E⟩:=hrel;rename AD=>wx;have ax:=A_ (BH au E.kp);rcases CG k i with ab|ab
   ·have bm:(k:Int)<i:=oS
    have cJ:(0:Int)<=k:=oS;obtain⟨g,rfl⟩:∃ g,gk=g+1:=⟨gk - 1,oS⟩
    have bl:=A_ (by omega:k+1+g=i);have W:=A_ ab;obtain⟨bN,cd,r,bz,cb,bO,bQ,bA,cc,bP,bR,rfl,aL,ai,aG,aH,aI,ag⟩:=IM (cn.below ax) ab;have ay:=A_ ag;have a8:=A_ ai;clear ag ai aT ab;go_upto_region 14 with fail;refine DY λw3 H=>?_;have a6:=A_ H.b;have bg:=A_ H.k;have aa:=A_ (E.below H.b);clear H aG aH aI aL;obtain⟨bt,bu,br⟩:=bx bg;obtain⟨Y,P1,bL,bI,P2,bM,bJ,bK,ak,aB,aC,aD,-,-,-,ah,-,-⟩:=aa.rr.elem W;have aP:=aa.rr.lt;have aA:=A_ (by rw[C5l,A0e ak,A0e a8.o]:C5l F.pivots an (k+1)=(C5l F.pivots an k).set k (A3u Y r));have aw:=A_ ah;clear ak ah;refine X_ sI ?_;dsimp only[DN,DO,DQ];iterate 7 refine C_ _ ?_
    refine D_ (CH (A3u Y r)) ?_ ?_;·intro ar ac af u h;obtain⟨a2,a3⟩:=F_ u;simp at h;refine G_ ?_;exact H_ (A8m _ _ Y r _ _ af (aw.below u) ((ay.below a6).below u))
    refine C_ _ ?_;intro ar ac wa u h (aM:BI _);simp at h;have q1:=h.2.2.2.2.2.2.2.1;have q2:=h.2.2.2.2.2.2.2.2;have bT:=q2.1.1;obtain⟨⟨G,aO⟩,aj⟩:=q1;obtain⟨O1,p1,o1,_,O2,p2,o2,_,aF,aV,_,_⟩:=CF G;rw[aF]at G;obtain⟨_,_,_,_,_,_,_,_,_,b6,k1,k2,b7,b8,b9,_,_,bX⟩:=(aa.below u).rr.elem W;have aE:=A_ (aa.set u W G aj);generalize ac 7=cg at *;clear h aM q2 G aO aj aV u bt bu br aB aC aD aP;go_wp2_with fail;go_roundg g;case measure=>omega
    case rel=>exact⟨k+1,bl.o,gN,by rw[aA.o];exact aE⟩
   obtain rfl:k=i:=oS;have bm:¬ ((k:Int)<k):=oS;obtain⟨ae,bj⟩:∃ ae,C5l F.pivots an k=ae:=⟨_,rfl⟩
   have cq:=A_ bj;rw[bj]at E;have X:=A_ (show VSt T wx gV k cap (C3r F.lower k ae 0)from E);clear aT ab bj E;go_wp2_with fail;go_loopg [12] k (λg s wx=>∃ m:Nat,m+g=k/\s=N K ((k:Int) - 1 - m)/\BI (VSt T wx gV k cap (C3r F.lower k ae m)));case atStart=>exact⟨0,oS,sI,X.o⟩
   case round =>
    clear X ax;obtain⟨m,bY,rfl,E⟩:=hrel;rename AD=>wx;have ax:=A_ (BH au E.kp);rcases CG m k with bn|bn
    ·obtain⟨g,rfl⟩:∃ g,gk=g+1:=⟨gk - 1,oS⟩
     have cK:=A_ (by omega:m+1+g=k);obtain⟨i,aQ⟩:∃ i:Nat,i=k - 1 - m:=⟨_,rfl⟩
     have aR:(k:Int) - 1 - m=i:=oS;have a4:i+1+m=k:=oS;have cH:(0:Int)<=i:=oS;have cR:(i:Int)<k:=oS;have bD:=A_ a4;have az:=A_ (by rw[C3r,aQ]:C3r F.lower k ae (m+1)=B4s F.lower i (C3r F.lower k ae m) m);obtain⟨O,ao⟩:∃ O,C3r F.lower k ae m=O:=⟨_,rfl⟩
     have X:=A_ (show VSt T wx gV k cap (B4s F.lower i O 0)from ao ▸ E.o);rw[ao]at az;rw[aR];have cm:=A_ aR;clear bY bn aQ aR a4 E ao;go_wp2_with fail;go_loopg [13] m (λg2 s wy=>∃ q:Nat,q+g2=m/\s=N K ((i:Int)+1+q)/\BI (VSt T wy gV k cap (B4s F.lower i O q)));case atStart=>exact⟨0,oS,sI,X.o⟩
     case round =>
      clear X ax;obtain⟨q,b0,rfl,ad⟩:=hrel;rename AD=>wy;have ci:=A_ (BH au ad.kp);have ct:=A_ (A0z a9 ad.kp);rcases CG q m with bo|bo
      ·obtain⟨g2,rfl⟩:∃ g2,gk=g2+1:=⟨gk - 1,oS⟩
       have cL:=A_ (by omega:q+1+g2=m);have a4:=bD.o;obtain⟨z,b5⟩:∃ z:Nat,z=i+1+q:=⟨_,rfl⟩
       have aW:(i:Int)+1+q=z:=oS;have c1:(z:Int)<k:=oS;have c0:(0:Int)<=z:=oS;have cU:(i:Int)<z:=oS;have W:=A_ (by omega:i<k);have a1:=A_ (by omega:z<k);have cu:=A_ (by omega:i<z);obtain⟨bh,cM,al,ch,D,cE,cF,rfl,bk,ap,aN,aq,_⟩:=Sl.elemS (bE.below ci) a1;obtain rfl:D=z:=by rw[<-aq.1];exact bB.row _ al ap
       obtain⟨bN,cd,r,bz,cb,bO,bQ,bA,cc,bP,bR,rfl,aL,ai,aG,aH,aI,ag⟩:=IM aq cu;obtain⟨aY,aZ,aX⟩:=bx ct;obtain⟨Y,P1,bL,bI,P2,bM,bJ,bK,ak,aB,aC,aD,-,-,-,ah,-,-⟩:=ad.rr.elem W;obtain⟨Z,Q1,cA,cx,Q2,cB,cy,cz,aU,ba,bc,bd,-,-,-,aK,-,-⟩:=ad.rr.elem a1;have aP:=ad.rr.lt;have aA:=A_ (by rw[B4s,<-b5,A0e ap,A0e ak,A0e ai,A0e aU]:B4s F.lower i O (q+1)=(B4s F.lower i O q).set i (A3t Y (A0d r Z)));have ay:=A_ ag;have aw:=A_ ah;have a5:=A_ aK;have cs:=A_ aW;rw[aW];clear ak aU ah aK ap aq ai ag b0 bo a4 b5 aW;go_wp2_with fail;refine X_ sI ?_;dsimp only[DN,DO,DQ];iterate 18 refine C_ _ ?_
       refine D_ (CH (A0d r Z)) ?_ ?_;·intro ar ac af u h;obtain⟨a2,a3⟩:=F_ u;simp at h;refine G_ ?_;exact H_ (A0n _ _ r Z _ _ af (ay.below u) (a5.below u))
       refine D_ (CH (A3t Y (A0d r Z))) ?_ ?_;·intro ar ac af u h;obtain⟨a2,a3⟩:=F_ u;simp at h;refine G_ ?_;exact H_ (A5b _ _ Y (A0d r Z) _ _ af (aw.o.below u) (by first|exact h.1|exact h|exact h.2|exact h.2.1))
       refine C_ _ ?_;intro ar ac wa u h (aM:BI _);simp at h;have q1:=h.2.2.2.2.2.2.2.2.2.2.2.2.2.2.2.2.2.2.2.1;have q2:=h.2.2.2.2.2.2.2.2.2.2.2.2.2.2.2.2.2.2.2.2;have bT:=q2.1.1;obtain⟨⟨G,aO⟩,aj⟩:=q1;obtain⟨O1,p1,o1,_,O2,p2,o2,_,aF,aV,_,_⟩:=CF G;rw[aF]at G;obtain⟨_,_,_,_,_,_,_,_,_,b6,k1,k2,b7,b8,b9,_,_,bX⟩:=(ad.below u).rr.elem W;have aE:=A_ (ad.set u W G aj);generalize ac 19=cg at *;clear h aM q2 G aO aj aV u aY aZ aX aB aC aD ba bc bd aP aG aH aI aN bk aL;go_wp2_with fail;go_roundg g2;case measure=>omega
       case rel=>exact⟨q+1,cL,by(try go_num);(try congr 1);(try (have:=cs.o;omega)),by rw[aA.o];exact aE⟩
      obtain rfl:q=m:=oS;have aW:(i:Int)+1+q=k:=by have:=bD.o;omega
      have be:=A_ (by rw[az.o];exact ad:VSt T wy gV k cap (C3r F.lower k ae (q+1)));have cV:¬ ((k:Int)<k):=oS;rw[aW];clear b0 bo ad;go_wp2_with fail;go_roundg g;case measure=>omega
      case rel=>exact⟨q+1,cK,by(try go_num);(try congr 1);(try (have:=cm.o;omega)),be.o⟩
    obtain rfl:m=k:=oS;have aR:(m:Int) - 1 - m = -1:=oS;have cD:=A_ (by rw[B1g,cp.o,cq.o]:C3r F.lower m ae m=B1g F m b);rw[cD.o]at E;obtain⟨bs,b3,-⟩:=E.rr.sl;have bF:=A_ b3;rw[aR];clear bY bn b3;go_wp2_with fail;refine(A5p _ m cap (B1g F m b) bs wx bF cv).mono ?_;rintro _ c6 ⟨rfl,bV⟩;have bv:=A_ bV;clear bV;go_wp2;go_ret;exact⟨gV,cap,bs,rfl,bF.below bv,BH ax bv⟩
def A8o (u:List TRat) (i:Int):TRat:=bif decide (0<=i)then u.getD i.toNat A0h else U_ 0
def B4j (m:TMesh) (u:List TRat):List TRat:=(B1i m).map (A8o u)
def E8x (u:List TRat) (i:Int):TRat:=u.getD i.toNat A0h
def D7i (m:TMesh) (u:List TRat):List TRat:=(A3f m AH).map (E8x u)
theorem E0a (v:AU) (m:TMesh) (b:List Nat) (B:Option AJ) (u d:Nat) (us:List TRat) (a9:List Nat) (w:AD) (al:Agg w v m b) (ac:m.1.length<=40) (aC:m.triangles.length<=48) (aG:B8e m) (aN:Sl w B u d us a9) (aj:u=m.1.length) (aJ:∀ x∈us,B4q x) :
  BL prog 55 #[v,QX B u d] w (A0w w (D7i m us)):=by
 have a5:=A_ al;have aT:=A_ ac;have aU:=A_ aC;have aY:=A_ aG;have a4:=A_ aN;have aZ:=A_ aJ;obtain⟨G,ae,Y,bV,H,n1,Z,bW,rfl,rfl,bi,bj⟩:=TMesh.agg al;have bM:u<=40:=by rw[aj];exact ac
 have bN:(u:Int)<=40:=oS;obtain⟨ps,E⟩:∃ ps,A3f m AH=ps:=⟨_,rfl⟩
 have a3:=A_ E;have a7:=A_ (by rw[<-E,aj];exact D8p:∀ x∈ps,0<=x/\x<u);have bO:ps.length<=40:=by rw[<-E];exact CJ (B3t m AH) ac
 have aR:=A_ (by rw[D7i,E]:D7i m us=ps.map (E8x us));obtain⟨bn,bd,bk,bl,bm⟩:=FB B2r;clear al ac aC aG aN aj aJ bi bj E;go_enter func55,ntmps55;go_wp2_with fail;have aA:=A_ (Pend.start (α:=TRat) (e:=39) (BP (w:=w) (BG #[QX G ae Y,QX H n1 Z] 26)));refine(B6y _ m _ AH ((w.alloc (BG #[QX G ae Y,QX H n1 Z] 26)).alloc (BG #[] 39)) (a5.below Below.go) aT aU aY).mono ?_;rw[a3.o];rintro _ bo ⟨aS,h,a8,ah,rfl,ad,aK,aE⟩;have aw:=A_ (aA.below aE);have ay:=A_ ad;have bK:h<=40:=by rw[<-ad.1];omega
 have bL:(h:Int)<=40:=oS;have a1:=A_ ad.1;have aq:=A_ (show w.1.size+1∉ah from λba=>by have:=(aK.2 _ ba).1;simp at this;omega);clear ad aK aE aA;go_wp2_with fail;have au:=A_ (by have:=aw.o;rwa [FU]at this:Pend w (w.alloc (BG #[QX G ae Y,QX H n1 Z] 26)) 39 bo (w.1.size+1) 0 0 ((ps.map (E8x us)).take 0));clear aw;go_loopg [5,12] h (λg s3 s wr=>∃ (i gB cap:Nat),i+g=h/\s=N K i/\s3=QX (QZ ⟨gB,0,QY⟩) i cap/\BI (Pend w (w.alloc (BG #[QX G ae Y,QX H n1 Z] 26)) 39 wr gB i cap ((ps.map (E8x us)).take i))/\BI (Sl wr aS h a8 ps ah/\gB∉ah));case atStart=>exact⟨0,w.1.size+1,0,oS,rfl,rfl,au.o,ay.o,aq.o⟩
 case round =>
  clear au ay aq;obtain⟨i,gB,cap,aI,rfl,rfl,X,W⟩:=hrel;rename AD=>wr;have aW:=A_ X.bw;rcases CG i h with D|D
  ·have bg:(i:Int)<h:=oS
   obtain⟨g,rfl⟩:∃ g,gk=g+1:=⟨gk - 1,oS⟩
   have be:=A_ (by omega:i+1+g=h);have bJ:i+1<=h:=D;have aP:=A_ (by unfold BS;omega:i+1<=BS);have aQ:=A_ (by omega:(i+1)*56<=140737488355328);obtain⟨bu,bT,q,rfl,bH,am,bf,bA⟩:=Sl.getInt W.1 D;obtain⟨bP,bQ⟩:=a7 q (DH am);obtain⟨k,rfl⟩:∃ k:Nat,q=k:=⟨q.toNat,oS⟩
   have bh:k<u:=oS;obtain⟨bv,bU,x,br,bR,c3,s3,bt,bS,bz,bX,rfl,bI,an,bB,bD,bE,aD⟩:=IM (a4.below aW) bh;have aV:=A_ aD;have az:=A_ (aZ x (DH an));have a6:=A_ (show(ps.map (E8x us)).take (i+1)=(ps.map (E8x us)).take i++[x]from take_step (by rw[IR,am];simp[E8x,an,JG]));clear aI D am bf aD an;go_wp2_with fail;refine(A3n _ x _ wr aV (CJ az.1 dE) (CJ az.2 dE)).mono ?_;rintro _ wa ⟨bY,aO,rfl,ai,ak,aF⟩;obtain⟨O,af,aa,bF,T,ag,ab,bG,rfl,bq,_,_⟩:=CF ai;have ao:=A_ (A3x (ai.below (BP (BG #[RT x.1.1,QX O af aa,QX T ag ab] 39))));have ar:=A_ ((ak.below (BP (BG #[RT x.1.1,QX O af aa,QX T ag ab] 39))).free);have ax:=A_ (show ∀ b∈aO,wr.1.size<=b from λb bc=>(ak.2 b bc).1);have ap:=A_ (show Bw wr (wa.alloc (BG #[RT x.1.1,QX O af aa,QX T ag ab] 39))from BH aF (BP _));clear ai ak bq aF;go_wp2_with (at_builtin;refine A1v rfl _ _ 27 rfl 39 bn (BJ #[RT AH,QX QY 0 0,QX QY 0 0]) 56 underlying27 bd bk bl bm rfl X ap gD ⟨wa.1.size,0,QY⟩ 1 [RT x.1.1,QX O af aa,QX T ag ab] x aO gD (A0a (DB wa _)) ao ar ax aP aQ ?_;intro g' aB bp aM aH aL);have a2:=A_ (by rw[a6.o];exact aM:Pend w _ 39 bp g' (i+1) aB ((ps.map (E8x us)).take (i+1)));have aX:=A_ (Sl.pushed W.1 ap aH aL W.2);clear aM aH aL ao ar ax X W;go_wp2_with fail;go_roundg g;case measure=>omega
   case rel=>exact⟨i+1,g',aB,be,gN,rfl,a2,aX⟩
  obtain rfl:i=h:=oS;have bg:¬ ((i:Int)<i):=oS;clear aI D;go_wp2;go_ret;rw[aR.o];have:=X.done;rwa [DT (by rw[JV,a1.o];exact CE _)]at this
theorem D6b (v:AU) (m:TMesh) (b:List Nat) (B:Option AJ) (ak d:Nat) (us:List TRat) (bW:List Nat) (w:AD) (aY:Agg w v m b) (aG:m.1.length<=40) (bd:m.triangles.length<=48) (bf:B8e m) (bl:Sl w B ak d us bW) (aW:ak=(A3f m AH).length) (bj:∀ x∈us,B4q x) :
  BL prog 54 #[v,QX B ak d] w (A0w w (B4j m us)):=by
 have bS:=A_ aY;have bE:=A_ aG;have bF:=A_ bd;have bK:=A_ bf;have bP:=A_ bl;have bM:=A_ bj;obtain⟨bu,u,bT,cF,bv,n1,bU,cG,rfl,rfl,aX,ca⟩:=TMesh.agg aY;have cv:u<=40:=by rw[<-aX.1];exact aG
 have cw:(u:Int)<=40:=oS;have cx:ak<=40:=by rw[aW];exact CJ (B3t m AH) aG
 have cy:(ak:Int)<=40:=oS;obtain⟨h,aE⟩:∃ h,B1i m=h:=⟨_,rfl⟩
 have bO:=A_ aE;have aP:=A_ (by rw[<-aE,C0l,aX.1]:h.length=u);have bN:=A_ (by rw[<-aE,aW];exact C1e:∀ x∈h,-1<=x/\x<ak);have bB:=A_ (by rw[B4j,aE]:B4j m us=h.map (A8o us));obtain⟨bp,bg,bm,bn,bo⟩:=FB B2r;clear aY aG bd bf bl bj aX ca aE aW;go_enter func54,ntmps54;go_wp2_with fail;have C:=B5v _ m _ (w.alloc (BG #[QX bu u bT,QX bv n1 bU] 26)) (bS.below Below.go) bE bF bK;rw[bO.o]at C;refine C.mono ?_;clear C;rintro _ al ⟨gr,nr,a1,rfl,aK,b8,b3⟩;obtain rfl:u=nr:=by rw[<-aK.1];exact aP.symm
 have a9:=A_ (aK.below (BP (BG #[] 39)));have bH:=A_ (show Bw w al from Below.go);have a7:=A_ (show Pend w al 39 (al.alloc (BG #[] 39)) al.1.size 0 0 ((h.map (A8o us)).take 0)from Pend.start bH);have a6:=A_ (show al.1.size∉a1 from λaS=>by have:=aK.lt _ aS;omega);clear aK b8 b3;go_wp2_with fail;go_loopg [7,19] u (λg s3 s wr=>∃ (i gB cap:Nat),i+g=u/\s=N K i/\s3=QX (QZ ⟨gB,0,QY⟩) i cap/\BI (Pend w al 39 wr gB i cap ((h.map (A8o us)).take i))/\BI (Sl wr (QZ ⟨gr,0,QY⟩) u u h a1/\gB∉a1));case atStart=>exact⟨0,al.1.size,0,oS,rfl,rfl,a7.o,a9.o,a6.o⟩
 case round =>
  clear a7 a9 a6;obtain⟨i,gB,cap,bi,rfl,rfl,ap,Y⟩:=hrel;rename AD=>wr;have bJ:=A_ ap.bw;rcases CG i u with aB|aB
  ·have b6:(i:Int)<u:=oS
   obtain⟨g,rfl⟩:∃ g,gk=g+1:=⟨gk - 1,oS⟩
   have bh:=A_ (by omega:i+1+g=u);have cu:i+1<=u:=aB;have a4:=A_ (by unfold BS;omega:i+1<=BS);have a5:=A_ (by omega:(i+1)*56<=140737488355328);obtain⟨q,aJ⟩:∃ q,h[i]?=QZ q:=⟨_,DU (by rw[aP.o];exact aB)⟩
   obtain⟨cp,ct⟩:=Sl.intAt Y.1 aJ;obtain⟨b9,cz⟩:=bN q (DH aJ);have a8:=A_ aJ;clear bi aB aJ;go_wp2_with fail;refine(A0l 0 wr oG).mono ?_;rintro _ wa ⟨cc,aL,rfl,af,T,D⟩;obtain⟨W,ag,ab,cq,X,ah,ac,cs,rfl,a3,_,_⟩:=CF af;obtain⟨G,aq⟩:∃ G,G=wa.alloc (BG #[RT (U_ 0).1.1,QX W ag ab,QX X ah ac] 39):=⟨_,rfl⟩
   obtain⟨g8,aH⟩:∃ g8,wa.1.size=g8:=⟨_,rfl⟩
   have aM:=A_ (by rw[aq];exact BH D (BP _):Bw wr G);have O:=A_ (by rw[aq,<-aH];exact DB wa _:G.1[g8]?=QZ (BG #[RT (U_ 0).1.1,QX W ag ab,QX X ah ac] 39));have bz:=A_ (by rw[aq];exact af.below (BP _):Agg G (BJ #[RT (U_ 0).1.1,QX W ag ab,QX X ah ac]) (U_ 0) aL);have bc:=A_ (by rw[aq];exact T.below (BP _):Own wr G aL);have aT:wr.1.size<=g8:=by rw[<-aH];exact D.size
   have bQ:=A_ aq;have bL:=A_ aH;clear af T D a3 aq aH;go_upto_region 7 with fail;rw[<-bQ.o,bL.o];have aI:=lt_of_block O;by_cases bk:q<0
   ·obtain rfl:q = -1:=oS
    have aR:=A_ (show(h.map (A8o us)).take (i+1)=(h.map (A8o us)).take i++[U_ 0]from take_step (by rw[IR,a8.o];rfl));obtain⟨am,_⟩:=B_ O (j:=0) rfl;obtain⟨an,_⟩:=B_ O (j:=1) rfl;obtain⟨ao,_⟩:=B_ O (j:=2) rfl;simp at am an ao;have ar:=A_ (A3x (bz.below (BP (BG #[RT (U_ 0).1.1,QX W ag ab,QX X ah ac] 39))));have aw:=A_ ((bc.below (BP (BG #[RT (U_ 0).1.1,QX W ag ab,QX X ah ac] 39))).free);have ax:=A_ (show ∀ b∈aL,wr.1.size<=b from λb H=>(bc.2 b H).1);have au:=A_ (show Bw wr (G.alloc (BG #[RT (U_ 0).1.1,QX W ag ab,QX X ah ac] 39))from BH aM (BP _));clear bk;go_wp2_with (at_builtin;refine A1v rfl _ _ 27 rfl 39 bp (BJ #[RT AH,QX QY 0 0,QX QY 0 0]) 56 underlying27 bg bm bn bo rfl ap au gD ⟨G.1.size,0,QY⟩ 1 [RT (U_ 0).1.1,QX W ag ab,QX X ah ac] (U_ 0) aL gD (A0a (DB G _)) ar aw ax a4 a5 ?_;intro g' ay a2 aD aA aC);have aO:=A_ (by rw[aR.o];exact aD:Pend w _ 39 a2 g' (i+1) ay ((h.map (A8o us)).take (i+1)));have aN:=A_ (Sl.pushed Y.1 au aA aC Y.2);clear aD aA aC ar aw ax ap Y;go_wp2_with fail;go_roundg g;case measure=>omega
    case rel=>exact⟨i+1,g',ay,bh,gN,rfl,aO,aN⟩
   obtain⟨k,rfl⟩:∃ k:Nat,q=k:=⟨q.toNat,oS⟩
   have b7:k<ak:=oS;obtain⟨cn,cE,x,ck,cB,c3,s3,cm,cD,co,cH,rfl,b4,aZ,bY,bZ,b0,be⟩:=IM (bP.below (BH bJ aM)) b7;have bG:=A_ be;have ba:=A_ (bM x (DH aZ));have aR:=A_ (show(h.map (A8o us)).take (i+1)=(h.map (A8o us)).take i++[x]from take_step (by rw[IR,a8.o];simp[A8o,aZ,JG]));obtain⟨am,bq⟩:=B_ O (j:=0) rfl;obtain⟨an,br⟩:=B_ O (j:=1) rfl;obtain⟨ao,bt⟩:=B_ O (j:=2) rfl;simp at am an ao;clear be aZ bk b9;go_wp2_with fail;refine(A3n _ x _ G bG (CJ ba.1 dE) (CJ ba.2 dE)).mono ?_;rintro _ wb ⟨cc,aF,rfl,af,T,D⟩;obtain⟨Z,ai,ad,v1,aa,aj,ae,v2,rfl,a3,_,_⟩:=CF af;obtain⟨E,az⟩:∃ E,E=(((wb.setCell ⟨g8,0,QY⟩ (RT x.1.1)).setCell ⟨g8,1,QY⟩ (QX Z ai ad)).setCell ⟨g8,2,QY⟩ (QX aa aj ae)):=⟨_,rfl⟩
   have bR:=A_ az;have aU:g8∉aF:=λaS=>by have:=(T.2 _ aS).1;omega
   have aV:∀ b,b≠g8->E.1[b]?=wb.1[b]?:=λb H=>by rw[az];exact A0p b H
   have bI:=A_ (show Bw wr E by rw[az];exact(((BH aM D).setCell (p:=⟨g8,0,QY⟩) aT _).setCell (p:=⟨g8,1,QY⟩) aT _).setCell (p:=⟨g8,2,QY⟩) aT _);have aQ:=A_ (by rw[az];exact A0u (A0u (A0u (O_ O D))):E.1[g8]?=QZ (BG #[RT x.1.1,QX Z ai ad,QX aa aj ae] 39));have bA:=A_ (show Agg E (BJ #[RT x.1.1,QX Z ai ad,QX aa aj ae]) x aF from af.keep (λb H=>aV b (λe=>aU (e ▸ H))));have bD:=A_ (show Free E aF from⟨T.1,λb H=>by obtain⟨bV,t,e⟩:=(T.2 b H).2;exact⟨bV,t,(aV b (λbX=>aU (bX ▸ H))).trans e⟩⟩);have ax:=A_ (show ∀ b∈aF,wr.1.size<=b from λb H=>by have:=(T.2 b H).1;omega);have cA:=D.size;have b5:g8<wb.1.size:=oS;have cb:=λo=>D.cell (p:=⟨g8,o,QY⟩) aI;have cd:=am;have cg:=an;have ci:=ao;have ce:=(D.frozen (p:=⟨g8,0,QY⟩) aI).trans bq;have ch:=(D.frozen (p:=⟨g8,1,QY⟩) aI).trans br;have cj:=(D.frozen (p:=⟨g8,2,QY⟩) aI).trans bt;clear af T D a3 az aU aV am an ao bq br bt;go_upto_region 9 with fail;rw[<-bR.o];clear cd cg ci ce ch cj bY bZ b0 b4 b5 cb;obtain⟨am,_⟩:=B_ aQ (j:=0) rfl;obtain⟨an,_⟩:=B_ aQ (j:=1) rfl;obtain⟨ao,_⟩:=B_ aQ (j:=2) rfl;simp at am an ao;have ar:=A_ (A3x (bA.below (BP (BG #[RT x.1.1,QX Z ai ad,QX aa aj ae] 39))));have aw:=A_ (bD.below (BP (w:=E) (BG #[RT x.1.1,QX Z ai ad,QX aa aj ae] 39)));have au:=A_ (show Bw wr (E.alloc (BG #[RT x.1.1,QX Z ai ad,QX aa aj ae] 39))from BH bI (BP _));go_wp2_with (at_builtin;refine A1v rfl _ _ 27 rfl 39 bp (BJ #[RT AH,QX QY 0 0,QX QY 0 0]) 56 underlying27 bg bm bn bo rfl ap au gD ⟨E.1.size,0,QY⟩ 1 [RT x.1.1,QX Z ai ad,QX aa aj ae] x aF gD (A0a (DB E _)) ar aw ax a4 a5 ?_;intro g' ay a2 aD aA aC);have aO:=A_ (by rw[aR.o];exact aD:Pend w _ 39 a2 g' (i+1) ay ((h.map (A8o us)).take (i+1)));have aN:=A_ (Sl.pushed Y.1 au aA aC Y.2);clear aD aA aC ar aw ax ap Y;go_wp2_with fail;go_roundg g;case measure=>omega
   case rel=>exact⟨i+1,g',ay,bh,gN,rfl,aO,aN⟩
  obtain rfl:i=u:=oS;have b6:¬ ((i:Int)<i):=oS;clear bi aB;go_wp2;go_ret;rw[bB.o];have:=ap.done;rwa [DT (by rw[JV,aP.o];exact CE _)]at this
def stM (p:TProblem):List (List TRat):=C0y p.1 (A9s p)
def inN (p:TProblem):Nat:=(A3f p.1 AH).length
def D7x (p:TProblem):List TRat:=B1g (A5h (stM p) (inN p)) (inN p) (A6v p)
def A8r (p:TProblem):List TRat:=B4j p.1 (D7x p)
structure SolD (p:TProblem) (xs ys:List Int):Prop where
 md:MeshD p.1 xs ys
 pr:ProbI p xs ys
 fac:FacOk (inN p) (stM p)
 lo:(A6v p).all J_=AF
 ld:(A6v p).any A2e=AH
 so:(D7x p).all J_=AF
 sd:(D7x p).any A2e=AH
 nl:(A6v p).length=inN p
def B7y (w:AD) (xs:List TRat) (e:Ending) (w':AD):Prop:=∃ A n c bs,e=.returned (.tuple #[QX A n c,RT AF])/\Sl w' A n c xs bs/\Own w w' bs/\Bw w w'
def E7u (w:AD) (xs:List TRat) (e:Ending) (w':AD):Prop:=∃ A n c bs,e=.returned (.tuple #[QX A n c,RT AF])/\Sl w' A n c xs bs/\(∀ b∈bs,b<w'.1.size)/\Bw w w'
theorem D0e (row:List TRat) (i:Nat) (V:List TRat):∀ k,(B6w row i V k).length=V.length
 |0=>rfl
 |k+1=>by rw[B6w,List.length_set,D0e row i V k]
theorem D4l (L:List (List TRat)) (V:List TRat):∀ k,(C5k L V k).length=V.length
 |0=>rfl
 |k+1=>by rw[C5k,D0e,D4l L V k]
theorem D4f (P V:List TRat):∀ k,(C5l P V k).length=V.length
 |0=>rfl
 |k+1=>by rw[C5l,List.length_set,D4f P V k]
theorem D1b (L:List (List TRat)) (i:Nat) (V:List TRat):∀ k,(B4s L i V k).length=V.length
 |0=>rfl
 |k+1=>by rw[B4s,List.length_set,D1b L i V k]
theorem D5w (L:List (List TRat)) (n:Nat) (V:List TRat):∀ k,(C3r L n V k).length=V.length
 |0=>rfl
 |k+1=>by rw[C3r,D1b,D5w L n V k]
theorem E0b (F:TFactor) (n:Nat) (b:List TRat):(B1g F n b).length=b.length:=by rw[B1g,D5w,D4f,D4l]
theorem F3w {M:List (List TRat)} {n:Nat} (h:FacOk n M):FacD (A5h M n) n:=⟨h.sq.n40,(B5g M n).1,(B5g M n).2,C2o M n⟩
attribute [local simp] MP.aggV MP.tupS MP.tupB MP.tupC MP.box
theorem C1q (v:AU) (M:List (List TRat)) (xs:List TRat) (s:List Nat) (B:Option AJ) (n d:Nat) (E:List Nat) (w:AD) (O:Agg w v (spM M) s) (ah:Sl w B n d xs E) (u:FacOk n M) (ak:xs.all J_=AF) (ok:(B1g (A5h M n) n xs).any A2e=AH) :
  BL prog 50 #[v,QX B n d] w (E7u w (B1g (A5h M n) n xs)):=by
 have aq:=A_ O;have ab:=A_ ah;have ac:=A_ u;have af:=A_ ak;have ay:=A_ ok;have aL:=u.sq.n40;have aM:(n:Int)<=40:=oS;obtain⟨A,h,c,aR,rfl,rfl,ag⟩:=TMatrix.agg O;obtain rfl:h=n:=by rw[<-ag.1];simp[spM,u.sq.len]
 clear O ah ag u ak ok;go_enter func50,ntmps50;go_upto_region 1 with fail;refine DY λaz b=>?_;have aa:=A_ b.b;have ae:=A_ b.k;clear b;obtain⟨W,X,T⟩:=bx ae;go_wp2_with fail;refine(B8s _ M h _ az (aq.below aa) ac).mono ?_;rintro _ aU ⟨aT,aS,rfl,G,aA,H⟩;obtain⟨aG,aN,aI,aP,aH,aO,aJ,aQ,rfl,rfl,aB,aC⟩:=TFactor.agg G;have ap:=A_ G;have al:=A_ (BH aa H);have aw:=A_ (A0z ae H);clear G aA aB aC H W X T;go_upto_region 2 with fail;refine DY λaD b=>?_;have Y:=A_ (BH al b.b);have ar:=A_ b.k;have ax:=A_ (A0z aw b.b);have an:=A_ (ap.below b.b);clear b;obtain⟨W,X,T⟩:=bx ax;go_wp2_with fail;refine(A5n B h d xs E aD (ab.below Y) af).mono ?_;rintro _ w3 ⟨rfl,D⟩;have Z:=A_ (BH Y D);have au:=A_ (A0z ar D);have ao:=A_ (an.below D);clear D W X T;obtain⟨aE,aF,l1⟩:=bx au;go_wp2_with fail;refine(D7t _ (A5h M h) h xs _ B d E w3 ao (ab.below Z) (F3w ac) af ay).mono ?_;rintro _ aV ⟨aK,cap,bs,rfl,aj,ai⟩;have ad:=A_ aj;have am:=A_ (BH Z ai);clear aj ai aE aF l1;go_wp2;go_ret2;exact⟨_,h,cap,bs,rfl,ad,ad.lt,am⟩
theorem C8t (v:AU) (p:TProblem) (b:List Nat) (xs ys:List Int) (w:AD) (ap:Agg w v p b) (h:SolD p xs ys) :
  BL prog 20 #[v] w (B7y w (A8r p)):=by
 have aU:=A_ ap;have D:=A_ h;obtain⟨a8,bl,bd,bo,a9,n1,be,bp,ba,n2,bf,bq,bc,bm,c3,br,rfl,rfl,aK,aL,a3,a4⟩:=TProblem.agg ap;have aw:=A_ (TMesh.mkAgg (x:=p.1) aK aL);clear aK aL a3 a4 ap h;go_enter func20,ntmps20;go_upto_region 1 with fail;refine DY λaX al=>?_;have au:=A_ al.b;have ab:=A_ al.k;clear al;obtain⟨ac,-⟩:=B_ ab (j:=0) rfl;obtain⟨aA,-⟩:=B_ ab (j:=1) rfl;obtain⟨aB,-⟩:=B_ ab (j:=2) rfl;obtain⟨aC,-⟩:=B_ ab (j:=3) rfl;simp at ac aA aB aC;have ad:w.1.size<aX.1.size:=E_ ab;have ay:=A_ (aU.below au);refine A0g ?_;refine C_ _ ?_;refine D_ (MP.aggV (spM (stM p))) ?_ ?_;·intro G O H E h;obtain⟨an,ao⟩:=F_ E;simp at h;refine G_ ?_;exact(C6n _ p _ xs ys (stM p) H (ay.o.below E) D.o.md D.o.pr.dl rfl (λr aJ=>⟨by rw[D.o.fac.sq.row r aJ];exact D.fac.sq.n40,D.fac.sq.ok r aJ⟩)).mono λ_ _ ⟨u,s,he,ha,hn,Y⟩=>⟨u,he,Y,s,ha,λb Y=>⟨hn b Y,ha.lt b Y⟩⟩
 refine C_ _ ?_;refine D_ (MP.sl (A6v p)) ?_ ?_;·intro G O H E h;obtain⟨an,ao⟩:=F_ E;simp at h;refine G_ ?_;exact A1c (E1j _ p _ xs ys H (ay.below E) D.md D.pr.sl D.ld)
 refine D_ (MP.tupS (D7x p)) ?_ ?_
 ·intro G O H E h
  obtain⟨an,ao⟩:=F_ E;simp at h;obtain⟨aZ,⟨⟨T,Z,W,bj,aE⟩,_⟩⟩:=h;refine G_ ?_;obtain rfl:Z=inN p:=by rw[<-aE.1];exact D.nl
  exact(C1q _ (stM p) (A6v p) _ T _ W _ H aZ aE D.fac D.lo D.sd).mono λ_ _ ⟨A,n,c,bs,he,hs,ho,Y⟩=>⟨_,he,Y,[],⟨rfl,A,n,c,bs,rfl,hs⟩,λb Y=>by cases Y⟩
 refine A1d (λaa=>MP.tupB (aa 4)) (by intro y aa X;simp[N_,M_]at X;simp[X]) ?_ ?_;·intro G O H E h;simp at h;obtain⟨_,T,Z,W,af,_⟩:=h;refine⟨gD,G 4,H,?_,Below.refl _ _,[],⟨rfl,rfl,T,Z,W,af⟩,sI⟩;go_simp
 refine A1d (λaa=>MP.tupC (aa 5)) (by intro y aa X;simp[N_,M_]at X;simp[X]) ?_ ?_;·intro G O H E h;simp at h;obtain⟨_,ac,T,Z,W,ag⟩:=h;clear ac;refine⟨gD,QX T Z W,H,?_,Below.refl _ _,[],⟨rfl,⟨T,Z,W,rfl⟩,ag⟩,sI⟩;go_simp
 refine A2b (RT AF) ?_ ?_;·intro G O H E h;simp at h;obtain⟨_,ac,T,Z,W,ag⟩:=h;clear ac;refine⟨gD,?_⟩;go_simp
 refine A9h (λaa=>aa 6) (by intro y aa X;simp[N_,M_]at X;simp[X]) ?_ ?_;·intro G O H E h;obtain⟨an,ao⟩:=F_ E;simp at h;obtain⟨_,⟨T,Z,W,aD⟩,_⟩:=h;refine⟨gD,?_⟩;go_simp;try simp[*,Value.cells]
 refine A2b (RT AF) ?_ ?_;·intro G O H E h;simp at h;refine⟨gD,?_⟩;go_simp
 intro G O aP E h (a1:BI _);simp at h;have a6:=h.2.2.2.2.1;have aN:=h.2.2.2.2.2.1;have aO:=h.2.2.2.2.2.2.1;have ai:=h.2.2.2.2.2.2.2.2.1;have aj:=h.2.2.2.2.2.2.2.2.2;obtain⟨⟨_,S,ae,cS,af,bt,am⟩,a2⟩:=a6;have ag:G 5=.tuple #[QX S ae cS,RT AF]:=by rw[<-af];exact aN.1.2.1
 have aD:G 6=QX S ae cS:=by have:=aO.1.2.2;rw[ag]at this;simpa using this.symm
 have bh:G 8=QX S ae cS:=by rw[<-aD];first|exact ai.1.1|exact ai.1|exact ai
 have bi:G 9=RT AF:=by first|exact aj.1.1|exact aj.1|exact aj
 have aR:=A_ am;have ax:=A_ (by rw[<-am.1,D7x,E0b];exact D.nl:ae=(A3f p.1 AH).length);have ar:=A_ (BH au E);have az:=A_ (K_ ab E);generalize O 4=bn at *;clear h a1 aN aO ai aj am a2 E ac aA aB aC ad af;obtain⟨aq,-,ad⟩:=bx az;have l1:w.1.size<aP.1.size:=ad;go_wp2_with fail;refine(B6y _ p.1 _ AH aP (aw.below ar) D.md.1.n40 D.md.1.t48 D.md.es).mono ?_;rintro _ a7 ⟨I,aM,bg,bk,rfl,aF,-,ah⟩;obtain rfl:aM=ae:=by rw[ax.o,aF.1]
 have ak:=A_ (BH ar ah);have aV:=A_ (K_ az ah);have aS:=A_ (aR.below ah);clear aF ah aq ad l1;obtain⟨aq,-,ad⟩:=bx aV;go_wp2_with fail;refine(D6b _ p.1 _ S aM cS (D7x p) _ a7 (aw.below ak) D.md.1.n40 D.md.1.t48 D.md.es aS ax (B6l D.so)).mono ?_;rintro _ w3 ⟨U,a5,aY,bu,rfl,aG,aI,aH⟩;have aT:=A_ aG;have aQ:=A_ (BH ak aH);have aW:=A_ (aI.older (w0:=w) ak.size);clear aG aI aH aq ad;go_wp2;refine CK (v:=.tuple #[QX U a5 aY,RT AF]) (by simp[CO,results20,go_sem, *]) rfl ?_;exact⟨_,_,_,_,rfl,aT,aW,aQ⟩
theorem B9m (v:AU) (p:TProblem) (b:List Nat) (xs ys:List Int) (w:AD) (G:Agg w v p b) (aa:SolD p xs ys) :
  BL prog 5 #[v] w (B7y w (A8r p)):=by
 have W:=A_ G;have T:=A_ aa;obtain⟨ao,ay,au,aA,ap,n1,aw,aB,aq,n2,ax,aC,ar,az,c3,aD,rfl,rfl,ai,aj,ak,al⟩:=TProblem.agg G;clear ai aj ak al G aa;go_enter func5,ntmps5;go_upto_region 1 with fail;refine DY λag u=>?_;have O:=A_ u.b;have X:=A_ u.k;clear u;obtain⟨D,-,H⟩:=bx X;go_wp2_with fail;refine(B5t _ p _ xs ys ag (W.below O) T.pr).mono ?_;rintro _ an ⟨rfl,E⟩;have h:=A_ (BH O E);have ae:=A_ (K_ X E);clear E D H;obtain⟨D,-,H⟩:=bx ae;go_wp2_with fail;refine(C8t _ p _ xs ys an (W.below h) T).mono ?_;rintro _ aF ⟨U,am,ah,aE,rfl,Y,ab,Z⟩;have ad:=A_ Y;have ac:=A_ (BH h Z);have af:=A_ (ab.older (w0:=w) h.size);clear Y ab Z D H;go_wp2;refine CK (v:=.tuple #[QX U am ah,RT AF]) (by simp[CO,results5,go_sem, *]) rfl ?_;exact⟨_,_,_,_,rfl,ad,af,ac⟩
def C9s (R:TRow) (u:List TRat):Nat->TRat
 |0=>U_ 0
 |k+1=>A0k (C9s R u k) (A0d (R.vals.getD k A0h) (u.getD (R.cols.getD k 0).toNat A0h))
def F3c (u:List TRat) (r:List TRat):TRat:=C9s (B7m r) u (B7m r).cols.length
def B4o (M:List (List TRat)) (u:List TRat):List TRat:=M.map (F3c u)
theorem E0t (v:AU) (M:List (List TRat)) (n:Nat) (s:List Nat) (B:Option AJ) (d:Nat) (us:List TRat) (bG:List Nat) (w:AD) (aa:Agg w v (spM M) s) (Y:SqM n M) (bc:Sl w B n d us bG) (ok:(B4o M us).any A2e=AH) :
  BL prog 57 #[v,QX B n d] w (λe w'=>∃ A m c bs,e=.returned (QX A m c)/\Sl w' A m c (B4o M us) bs/\Bw w w'):=by
 have aK:=A_ Y;have bt:=A_ bc;have aW:=A_ ok;have cP:=Y.n40;obtain⟨A,h,c,c8,rfl,rfl,an⟩:=TMatrix.agg aa;obtain rfl:h=n:=by rw[<-an.1];simp[spM,Y.len]
 have br:=A_ an;have cQ:(h:Int)<=40:=oS;obtain⟨T,af⟩:∃ T,B4o M us=T:=⟨_,rfl⟩
 have aM:=A_ af;have bq:=A_ (by rw[<-af,B4o,JV];exact Y.len:T.length=h);rw[af]at aW;clear aa an Y bc ok af;go_enter func57,ntmps57;go_upto_region 2 with fail;have bn:=A_ (GrowB.made (α:=TRat) 39 (w.alloc (BG #[QX A h c] 90)));refine Code.new2 λbE u=>?_;have aH:=A_ u.b;have aQ:=A_ u.k;have E:=A_ (show GrowB (α:=TRat) 39 bE (QX (QZ ⟨w.1.size+1,0,QY⟩) 0 0) 0 [] [w.1.size+1]from⟨[],[],⟨sI,.inr ⟨w.1.size+1,0,#[],rfl,EO _,u.o.l,CE _,EO _,rfl,rfl⟩⟩,Filled.nil _ _,rfl,λg _=>sI,rfl⟩);clear u bn;obtain⟨b8,b9,bY⟩:=bx aQ;go_wp2_with fail;go_loopg [5,15] h (λg sO s wr=>∃ (k gO X:Nat) (ak:List Nat),k+g=h/\s=N K k/\sO=QX (QZ ⟨gO,0,QY⟩) k X/\BI (Bw w wr)/\BI (GrowB 39 wr (QX (QZ ⟨gO,0,QY⟩) k X) k (T.take k) ak)/\BI (∀ b∈ak,w.1.size<b));case atStart=>exact⟨0,w.1.size+1,0,_,oS,sI,sI,aH.o,by rw[FM];exact E.o,A_ (λb hb=>by simp at hb;omega)⟩
 case round =>
  clear aH aQ E b8 b9 bY;obtain⟨k,gO,X,ak,a7,rfl,rfl,B,E,ac⟩:=hrel;rename AD=>wr;rcases CG k h with ad|ad
  ·have bQ:(k:Int)<h:=oS
   obtain⟨g,rfl⟩:∃ g,gk=g+1:=⟨gk - 1,oS⟩
   have bP:=A_ (by omega:k+1+g=h);obtain⟨-,cB,o,r,cE,c5,n1,co,cb,cp,c9,da,rfl,ar,ax,bH,am,k1,k2,cN⟩:=C6s (br.below B) aK ad;have bA:=A_ k1;have aT:=A_ k2;have cO:(n1:Int)<=h:=oS;have bD:=A_ (show r.length=h from aK.row r (DH ax));have bB:=A_ (show T.take (k+1)=T.take k++[C9s (A2z r h) us n1]from take_step (by rw[<-aM.o,B4o,IR,ax,Option.map_some,F3c,B7m,bD.o,k1.1]));clear k1 k2 ax a7 ad;go_upto_region 5 with fail;refine DY λb7 u=>?_;have aE:=A_ u.b;have bz:=A_ u.k;clear u bH am ar;go_wp2_with fail;refine(A0l 0 b7 oG).mono ?_;rintro _ w3 ⟨db,b6,rfl,ao,a8,aq⟩;obtain⟨O1,c1,cv,o1,O2,c2,cw,o2,rfl,-,-,-⟩:=CF ao;have aI:=A_ ao;have aL:=A_ (show ∀ b∈b6,wr.1.size<=b from λb hb=>by have:=(a8.2 b hb).1;have:=aE.size;omega);have bj:=A_ (BH aE aq);have aO:=A_ (A0z bz aq);clear ao a8 aq;go_upto_region 6 with fail;refine DY λbg u=>?_;obtain⟨gS,au⟩:∃ g,w3.1.size=g:=⟨_,rfl⟩
   have ai:=A_ (RatBox.new (x:=C9s (A2z r h) us 0) aI u);have aF:=A_ (BH bj u.b);have aP:=A_ (A0z aO u.b);have aj:=A_ (by rw[<-au];exact E_ aO:wr.1.size<gS);rw[au]at ai ⊢;clear u au aI;obtain⟨ag,ah,l1⟩:=bx aP;go_wp2_with fail;go_loopg [23] n1 (λg2 s wx=>∃ (q:Nat) (aB:List Nat),q+g2=n1/\s=N K q/\BI (bg.grownBy wx (QZ gS))/\BI (RatBox wx gS (C9s (A2z r h) us q) aB)/\BI (∀ b∈aB,wr.1.size<=b));case atStart=>exact⟨0,_,oS,rfl,B3a bg _,ai.o,aL.o⟩
   case round =>
    clear ai ag ah l1 aL;obtain⟨q,aB,a9,rfl,aw,a5,aU⟩:=hrel;rename AD=>wx;have O:=A_ (aF.grown aw aF.size (λx aa=>by injection aa with aa;have:=aj.o;omega));have J:=A_ (B8b aP aw (by have:=aj.o;omega));obtain⟨P1,p1,m1,P2,p2,m2,be,a2,cR⟩:=a5.o;have aR:=A_ be;have aD:=A_ a2;obtain⟨ag,ah,l1⟩:=bx J;obtain⟨b0,b3,bZ⟩:=bx aR;clear be a2 a5;rcases CG q n1 with ae|ae
    ·have bT:(q:Int)<n1:=oS
     obtain⟨g2,rfl⟩:∃ g2,gk=g2+1:=⟨gk - 1,oS⟩
     have bS:=A_ (by omega:q+1+g2=n1);obtain⟨b,c6,x,e,cI,aA,cH,bI⟩:=Sl.getInt (bA.below O) ae;injection e with e;injection e with am e2 _;subst am;subst e2;obtain⟨j,rfl,a6,bU,hv⟩:=D7r r h q x aA;obtain⟨cD,c4,_,rfl,_⟩:=aT.o.2.2.2.2 oS;obtain⟨cd,ck,cy,ce,cm,cz,cA,cM,u0,u1,u2,ap⟩:=Sl.ratAt (aT.below O) hv;obtain⟨cn,c7,y,cg,cX,cq,cF,ch,cY,cs,cG,rfl,cJ,bd,bV,bW,bX,a3⟩:=IM (bt.below (BH B O)) a6;have aV:=A_ (by rw[C9s,A0e hv,A0e aA,Int.toNat_natCast,A0e bd]:A0k (C9s (A2z r h) us q) (A0d (r.getD j A0h) y)=C9s (A2z r h) us (q+1));obtain⟨W,a1⟩:∃ W,r.getD j A0h=W:=⟨_,rfl⟩
     have cL:(j:Int)<h:=oS;have cK:(0:Int)<=j:=oS;rw[a1]at aV ap u0;have bu:=A_ ap;have bv:=A_ a3;generalize C9s (A2z r h) us q=bf at *;clear aA hv ap a3 bd a6 bU a1 a9 ae;go_wp2_with fail;refine X_ sI ?_;dsimp only[DN,DO,DQ];iterate 10 refine C_ _ ?_
     refine D_ (CH (A0d W y)) ?_ ?_;·intro bh ab aC H D;obtain⟨bL,bN⟩:=F_ H;simp at D;refine G_ ?_;exact H_ (A0n _ _ W y _ _ aC (bu.below H) (bv.below H))
     refine D_ (CH (A0k bf (A0d W y))) ?_ ?_;·intro bh ab aC H D;obtain⟨bL,bN⟩:=F_ H;simp at D;refine G_ ?_;exact H_ (A0x _ _ bf (A0d W y) _ _ aC (aD.o.below H) (by first|exact D.1|exact D|exact D.2|exact D.2.1))
     intro bh ab wb H D (bM:BI _);simp at D;have b4:=D.2.2.2.2.2.2.2.2.2.2.2;obtain⟨⟨Z,-⟩,ay⟩:=b4;rw[aV.o]at Z;obtain⟨ci,cZ,ct,v1,cj,c0,cu,v2,ca,-,-,-⟩:=CF Z;rw[ca]at Z;have aJ:=A_ H;have bi:=A_ Z;have aX:=A_ (show gS∉ab 11/\∀ b∈ab 11,wr.1.size<=b from⟨λG=>by have:=(ay _ G).1;omega,λb G=>by have:=(ay _ G).1;have:=O.size;omega⟩);have aS:=A_ (A0z aR aJ);have bp:=A_ (E1s aw aJ);obtain⟨cV,cW,cU⟩:=bx aS;generalize ab 11=b5 at *;clear D bM Z ay H ag ah l1 b0 b3 bZ bI u0 u1 u2 bV bW bX;go_upto_region 10 with fail;refine Code.set3 aS λV aY=>?_;go_wp2_with fail;go_roundg g2;case measure=>omega
     case rel=>exact⟨q+1,b5,bS,gN,gtr bp aY.gr,RatBox.set bi aY aX.1,aX.2⟩
    obtain rfl:q=n1:=oS;have bT:¬ ((q:Int)<q):=oS;have bm:=A_ (by unfold BS;omega:k+1<=BS/\(k+1)*56<=140737488355328);have bo:=A_ (E.below O);clear a9 ae ag ah l1;go_wp2_with (at_builtin;refine A9t rfl rfl underlying27 B2r bo (BP _) (A0a (DB _ _)) (A3x (aD.below (BP _))) (λb hb hv=>by have:=aU b hb;have:=E.lt b hv;omega) bm.o ?_;intro g8 bF dd aZ bR bO bK)
    have bl:=A_ (show ∀ b∈aZ,w.1.size<b from λb hb=>by
     have:=B.size;have:=O.size;have:=aj.o;rcases bK b hb with G|G|G
     ·exact ac b G
     ·have:=aU b G;have:=ac.o;have:=E.own gO rfl;have:=E.lt gO this;have:=ac gO (E.own gO rfl);omega
     rw[FU]at G;omega)
    have bk:=A_ (A5d (BH (BH B O) (BP _)) bO (by have:=B.size;have:=O.size;simp;omega) (λg ar=>by have:=ac.o g (E.o.own g ar);omega));go_roundg g;case measure=>omega
    case rel =>refine⟨k+1,g8,bF,aZ,bP,gN,rfl,bk,?_,bl⟩;show GrowB _ _ _ _ _ _;rw[bB.o];exact bR
  obtain rfl:k=h:=oS;have bQ:¬ ((k:Int)<k):=oS;obtain⟨cc,cx,al,hv,az,bJ⟩:=E.sl;injection hv with hv1 hv2 hv3;subst hv1;subst hv3;have ba:Sl wr (QZ ⟨gO,0,QY⟩) k X T al:=by rw[DT (by rw[bq.o];exact CE _)]at az;exact az
  have aN:=A_ ba;clear a7 ad az bJ ba;go_wp2_with fail;refine(A5p _ k X T al wr aN aW).mono ?_;rintro _ dc ⟨rfl,a4⟩;have aG:=A_ a4;clear a4;go_wp2;go_ret;exact⟨_,k,X,al,rfl,aM.o ▸ aN.o.below aG.o,BH B.o aG.o⟩
end Go.Proofs.YtjcanieccnljfaaGreat.X
