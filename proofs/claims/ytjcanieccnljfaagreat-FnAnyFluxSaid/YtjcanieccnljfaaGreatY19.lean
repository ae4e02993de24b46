/- A part of the proof. -/
import Derived.Test.YtjcanieccnljfaaGreatY18
set_option linter.constructorNameAsVariable false
set_option maxHeartbeats 16000000
set_option maxRecDepth 10000
open Bool renaming and_eq_true→DJ,false→AH,true→AF
open Decidable renaming decide→BQ
open Go renaming Addr→AJ,Calls→BL,Value→AU,World→AD,bodyPost_ret→CK,heap_alloc_new→DB,info_parts→FB,maxLen→BS,results→CO
open Go.Code renaming new→DY
open Go.IntKind renaming i64→RD
open Go.Obj renaming cells→BG
open Go.RowKit.Below renaming drew→LK,heap_setCell→GA,refl→DI
open Go.Value renaming agg→BJ,bool→J,int→N,slice→S
open Go.XB.Below renaming box→BP,next→BH
open Go.XB.MP renaming agg→CH
open List renaming all_eq_true→CU,dropLast→DN,drop_succ_cons→GU,drop_zero→FF,getD_eq_getElem?_getD→EH,getElem?_eq_getElem→DU,getLast→DO,length→DQ,length_append→GQ,mem_of_getElem?→DH,mem_range→JW,range→GE,replicate→DK,take_succ_cons→GT,take_zero→FM
open Nat renaming le_refl→CE,le_trans→CJ,lt_or_ge→CG,one_mul→KL
open Option renaming none→I,some→QZ
namespace Go.Proofs.YtjcanieccnljfaaGreat.X
open Go.RowKit Go.XB Go.XN Proofs.Tryz
structure EqD (p:TProblem) (fs:List TRat):Prop where
 tri:∀ t∈p.1.triangles,A5v p.1.1.length t/\(0<=t.4/\t.4<3)
 ok:p.1.1.all A1b=AF
 n40:p.1.1.length<=40
 t48:p.1.triangles.length<=48
 sl:p.3.length=3
 fl:fs.length=(P_ p.1.triangles).length
 eq:∀ (k:Nat) (t:TTri),p.1.triangles[k]?=QZ t->(B7d p t).2.isEmpty=AH/\D1y (P_ p.1.triangles) fs k=B7d p t
attribute [local go_sem] L_ Go.XB.opAt N_ M_ Region.wanted yielded
attribute [local simp] N_ M_ MP.eq MP.agg MP.aggS MP.aggN MP.sl MP.slbox MP.box A0r
theorem B6v (v:AU) (p:TProblem) (b:List Nat) (B:Option AJ) (n d:Nat) (ab:List TRat) (a8:List Nat) (w:AD) (aq:Agg w v p b) (aP:Sl w B n d ab a8) (an:EqD p ab) :
  BL prog 96 #[v,S B n d] w (A0b w (J AF)):=by
 have a5:=A_ aq;have aY:=A_ aP;have H:=A_ an;obtain⟨bp,bH,bz,bK,bq,n1,bA,bL,br,n2,bB,bM,bt,bI,c3,bN,rfl,rfl,aR,ai,be,bf⟩:=TProblem.agg aq;have a3:=A_ (TMesh.mkAgg (x:=p.1) aR ai);have a2:=A_ ai.1;have bE:n1<=48:=by rw[<-ai.1];exact an.t48
 have bF:(n1:Int)<=48:=oS;clear aR ai be bf aq aP an;go_enter func96,ntmps96;go_wp2_with fail;refine DY λa7 al=>?_;have aW:=A_ al.b;have a6:=A_ al.k;clear al;go_loopg [11] n1 (λg s wr=>∃ k:Nat,k+g=n1/\s=N RD k/\Hid (Bw a7 wr));case atStart=>exact⟨0,oS,rfl,DI _ _⟩
 case round =>
  obtain⟨k,aQ,rfl,ae⟩:=hrel;have Z:=A_ (BH aW ae);have aH:=A_ (K_ a6 ae);rcases CG k n1 with ah|ah
  ·have bc:(k:Int)<n1:=oS
   obtain⟨g,rfl⟩:∃ g,gk=g+1:=⟨gk - 1,oS⟩
   have ba:=A_ (by omega:k+1+g=n1);obtain⟨t,aj⟩:∃ t,p.1.triangles[k]?=QZ t:=⟨_,DU (by rw[a2.o];exact ah)⟩
   have aA:=A_ aj;have aD:=A_ (H.tri t (DH aj));have aC:=A_ (H.eq k t aj);have aE:=A_ (a5.below Z);have aB:=A_ (a3.below Z);have aZ:=A_ (aY.below Z);obtain⟨am,-,aS⟩:=bx aH;clear aQ ah aj;go_wp2_with fail;refine X_ sI ?_;dsimp only[DN,DO,DQ];iterate 2 refine C_ _ ?_
   refine D_ (MP.aggS (E2o p t)) ?_ ?_;·intro G E D u h;obtain⟨W,X⟩:=F_ u;simp at h;refine G_ ?_;exact A7t (C1w _ p _ k t D (aE.below u) aA H.sl aD.2)
   iterate 3 refine C_ _ ?_
   refine D_ (MP.sl (B5j p.1.1 t)) ?_ ?_;·intro G E D u h;obtain⟨W,X⟩:=F_ u;simp at h;refine G_ ?_;exact A1c (A6s _ p.1 _ k t D (aB.below u) aA aD.1 H.ok H.n40 H.t48)
   refine D_ (CH (A6c (Z_ p.1.1 t.a) (Z_ p.1.1 t.b) (Z_ p.1.1 t.c))) ?_ ?_;·intro G E D u h;obtain⟨W,X⟩:=F_ u;simp at h;obtain⟨⟨C,bg,cC,bD,aO⟩,_⟩:=h;obtain rfl:3=bg:=aO.1;refine G_ ?_;exact H_ (B3h C cC _ _ _ _ D aO)
   refine D_ (CH (B7d p t)) ?_ ?_;·intro G E D u h;obtain⟨W,X⟩:=F_ u;simp at h;refine G_ ?_;obtain⟨⟨_,bO,ar⟩,ak⟩:=h;exact H_ (A0n _ _ (E2o p t) _ _ _ D ar (by first|exact ak.1|exact ak.1.1))
   refine A1p #[J AH,S I 0 0,S I 0 0] 39 ?_ ?_;·intro G E D u h;refine⟨gD,?_⟩;go_simp
   intro G E wa u h (ag:Hid _);simp at h;have bi:=h.2.2.2.2.2.2.2.2.1;have bh:=h.2.2.2.2.2.2.2.2.2;obtain⟨⟨af,-⟩,bd⟩:=bi;obtain⟨⟨gb,bo,au,Y⟩,ap⟩:=bh;obtain⟨aK,aT,aM,_,aL,aU,aN,_,aV,-,_,_⟩:=TRat.agg af;rw[aV]at af;rw[au]at ap;have ao:=(ap gb sI).1;have aw:=A_ (show ∀ b∈E 8,b≠gb from λb ad e=>by have:=ag 8 9 dE dE dE b ad;rw[au]at this;simp[e]at this);have ax:=A_ af;have aF:=A_ Y;have az:=A_ u;obtain⟨bj,bk⟩:=B_ Y (j:=0) rfl;obtain⟨ar,bl⟩:=B_ Y (j:=1) rfl;obtain⟨ak,bm⟩:=B_ Y (j:=2) rfl;have a9:gb<wa.1.size:=E_ Y;generalize E 8=bJ at *;clear h ag af bd ap au Y u am aS;go_upto_region 5 with fail;obtain⟨O,ac⟩:∃ O,O=((wa.setCell ⟨gb,0,I⟩ (J (B7d p t).1.1)).setCell ⟨gb,1,I⟩ (S aK aT aM)).setCell ⟨gb,2,I⟩ (S aL aU aN):=⟨_,rfl⟩
   have aG:∀ b,b≠gb->O.1[b]?=wa.1[b]?:=λb ad=>by rw[ac];exact A0p b ad
   have aJ:=A_ (by rw[ac];exact A3g (A3g (A3g aF)):O.1[gb]?=QZ (BG #[J (B7d p t).1.1,S aK aT aM,S aL aU aN] 39));have T:=A_ (by rw[ac];exact((az.setCell (p:=⟨gb,0,I⟩) ao _).setCell (p:=⟨gb,1,I⟩) ao _).setCell (p:=⟨gb,2,I⟩) ao _:Bw wr O);have ay:=A_ (ax.keep λb ad=>aG b (aw b ad));rw[<-ac];clear ac aG aV bo bj bk ar bl ak bm a9 aF az ax aw;have bv:=A_ (aE.below T);have a4:=A_ (aB.below T);have a1:=A_ (aZ.below T);have aI:=A_ (K_ aH T);have bu:=A_ (BH Z T);obtain⟨am,-,-⟩:=bx aI;obtain⟨bn,-,-⟩:=bx aJ;have aS:w.1.size<O.1.size:=E_ aI;have bG:gb<O.1.size:=E_ aJ;refine X_ sI ?_;dsimp only[DN,DO,DQ];refine C_ _ ?_;refine D_ (MP.eq (J AF)) ?_ ?_;·intro G E D u h;obtain⟨W,X⟩:=F_ u;simp at h;refine G_ ?_;exact A0i (by have aa:=A2p _ (B7d p t) _ D (ay.below u);rw[aC.o.1]at aa;exact aa)
   iterate 6 refine C_ _ ?_
   refine D_ (CH (D1y (P_ p.1.triangles) ab k)) ?_ ?_;·intro G E D u h;obtain⟨W,X⟩:=F_ u;simp at h;refine G_ ?_;exact H_ (D1a _ p.1 _ B n d ab _ k D (a4.below u) H.t48 (a1.below u) H.fl)
   refine C_ _ ?_;refine D_ (MP.eq (J AF)) ?_ ?_;·intro G E D u h;obtain⟨W,X⟩:=F_ u;simp at h;refine G_ ?_;exact A0i (by have aa:=A2s _ _ (D1y (P_ p.1.triangles) ab k) (B7d p t) _ _ D (by first|exact h.1.1|exact h.1) (ay.o.below u);rw[decide_eq_true aC.o.2]at aa;exact aa)
   refine C_ _ ?_;intro G E bP u h (ag:Hid _);simp at h;go_simp;have aX:=A_ (ae.trans ((BH (T) u).mono ae.size));clear h ag am bn;go_wp2_with fail;go_roundg g;case measure=>omega
   case rel=>exact⟨k+1,ba,gN,aX⟩
  obtain rfl:k=n1:=oS;have bc:¬ ((k:Int)<k):=oS;clear aQ ah;go_wp2;go_ret;exact⟨rfl,Z⟩
structure IndD (p:TProblem) (us fs:List TRat):Prop where
 lin:LinD p us
 fl:fs.length=(P_ p.1.triangles).length
 fo:fs.all J_=AF
 si:∀ t∈p.1.triangles,D1h (P_ p.1.triangles) t
 ok:(C3k p us fs).any A2e=AH
theorem B6p (p:TProblem) (us fs:List TRat):∀ k,(B3i p us fs k).length=k
 |0=>rfl
 |k+1=>by rw[B3i,GQ,B6p p us fs k];rfl
theorem C3o (v:AU) (p:TProblem) (b:List Nat) (B:Option AJ) (n d:Nat) (us:List TRat) (be:List Nat) (aF:Option AJ) (m c:Nat) (E:List TRat) (es:List Nat) (w:AD) (aK:Agg w v p b) (aJ:Sl w B n d us be) (ao:Sl w aF m c E es) (hi:IndD p us E) :
  BL prog 36 #[v,S B n d,S aF m c] w (A0w w (C3k p us E)):=by
 have bW:=A_ aK;have bV:=A_ aJ;have bL:=A_ ao;have au:=A_ hi;have O:=A_ hi.lin;have bP:=A_ (by rw[<-hi.lin.ul];exact aJ.1.symm:n=p.1.1.length);obtain⟨cU,c8,cZ,dc,cV,n1,c0,dd,cW,n2,c1,de,cX,c9,c3,s3,rfl,rfl,bo,aC,cp,cq⟩:=TProblem.agg aK;have bO:=A_ (TMesh.mkAgg (x:=p.1) bo aC);have a3:=A_ aC.1;have c6:n1<=48:=by rw[<-aC.1];exact hi.lin.t48
 have c7:(n1:Int)<=48:=oS;obtain⟨cv,ck,cs,ct,cu⟩:=FB B2r;clear bo aC cp cq aK aJ ao hi;go_enter func36,ntmps36;go_upto_region 1 with fail;refine DY λax aG=>?_;have bF:=A_ aG.b;have aw:=A_ aG.k;have a8:=A_ (Pend.start (α:=TRat) (e:=39) bF);clear aG;obtain⟨Y,-⟩:=B_ aw (j:=0) rfl;obtain⟨T,-⟩:=B_ aw (j:=1) rfl;simp at Y T;have aq:w.1.size<ax.1.size:=E_ aw;go_wp2_with fail;go_loopg [7,15] n1 (λg s3 s wr=>∃ (i gB cap:Nat),i+g=n1/\s=N RD i/\s3=S (QZ ⟨gB,0,I⟩) i cap/\Hid (Pend w ax 39 wr gB i cap (B3i p us E i)));case atStart=>exact⟨0,ax.1.size,0,oS,rfl,rfl,a8.o⟩
 case round =>
  clear a8 Y T aq;obtain⟨k,gB,cap,bl,rfl,rfl,al⟩:=hrel;have aj:=A_ al.bw;have ah:=A_ (K_ aw al.bb);rcases CG k n1 with aA|aA
  ·have cn:(k:Int)<n1:=oS
   obtain⟨g,rfl⟩:∃ g,gk=g+1:=⟨gk - 1,oS⟩
   have cm:=A_ (by omega:k+1+g=n1);have bG:=A_ (by unfold BS;omega:k+1<=BS);have bH:=A_ (by omega:(k+1)*56<=140737488355328);obtain⟨t,ap⟩:∃ t,p.1.triangles[k]?=QZ t:=⟨_,DU (by rw[a3.o];exact aA)⟩
   have ak:=A_ ap;have ag:=A_ (O.tri t (DH ap));have bU:=A_ (au.si t (DH ap));have bY:=A_ (show B3i p us E (k+1)=B3i p us E k++[D5o p us E k t] by rw[B3i,EH,ap];rfl);have a5:=A_ (bW.below aj);have aY:=A_ (bO.below aj);have a4:=A_ (bV.below aj);have bM:=A_ (bL.below aj);obtain⟨Y,-⟩:=B_ ah (j:=0) rfl;obtain⟨T,-⟩:=B_ ah (j:=1) rfl;obtain⟨ac,-⟩:=B_ ah (j:=2) rfl;obtain⟨ad,-⟩:=B_ ah (j:=3) rfl;simp at Y T ac ad;have aq:w.1.size<wr.1.size:=E_ ah;clear bl aA ap;go_wp2_with fail;refine X_ sI ?_;dsimp only[DN,DO,DQ];iterate 2 refine C_ _ ?_
   refine D_ (MP.aggS (B4w p t)) ?_ ?_;·intro H G D u h;obtain⟨ae,af⟩:=F_ u;simp at h;refine G_ ?_;exact A7t (B1h _ p _ k t D (a5.below u) ak O.dl ag.2.1)
   iterate 4 refine C_ _ ?_
   refine D_ (MP.aggN (grT p us t)) ?_ ?_;·intro H G D u h;obtain⟨ae,af⟩:=F_ u;simp at h;refine G_ ?_;exact B8i (B6z _ p.1 _ B n d us be k t D (aY.below u) (a4.below u) ak ag.1 bP ag.2.2 O.uo O.ok O.n40 O.t48)
   refine D_ (CH (B2e p us t)) ?_ ?_;·intro H G D u h;obtain⟨ae,af⟩:=F_ u;simp at h;refine G_ ?_;obtain⟨⟨_,cF,ai⟩,Z⟩:=h;exact H_ (A1n _ _ (B4w p t) (grT p us t) _ _ D ai (by first|exact Z|exact Z.1|exact Z.1.1))
   refine A1p #[J AH,S I 0 0,S I 0 0,J AH,S I 0 0,S I 0 0] 41 ?_ ?_;·intro H G D u h;refine⟨gD,?_⟩;go_simp
   intro H G wa u h (az:Hid _);simp at h;have aM:=h.2.2.2.2.2.2.2.2.1;have aL:=h.2.2.2.2.2.2.2.2.2;obtain⟨⟨W,-⟩,aB⟩:=aM;obtain⟨⟨gb,bE,ar,X⟩,aI⟩:=aL;obtain⟨bZ,cz,b7,_,b0,cA,b8,_,b3,cB,b9,_,b4,cD,ca,_,aE,-,_,_,_,_⟩:=TPoint.agg W;rw[aE]at W;rw[ar]at aI;have ch:=(aI gb sI).1;have aQ:=A_ (show ∀ b∈G 8,b≠gb from λb an e=>by have:=az 8 9 dE dE dE b an;rw[ar]at this;simp[e]at this);have aS:=A_ W;have a6:=A_ X;have aT:=A_ u;obtain⟨cG,cH⟩:=B_ X (j:=0) rfl;obtain⟨ai,cI⟩:=B_ X (j:=1) rfl;obtain⟨Z,cJ⟩:=B_ X (j:=2) rfl;obtain⟨cK,cL⟩:=B_ X (j:=3) rfl;obtain⟨cM,cN⟩:=B_ X (j:=4) rfl;obtain⟨cO,cP⟩:=B_ X (j:=5) rfl;have cj:gb<wa.1.size:=E_ X;generalize G 8=db at *;clear h az W aB aI ar X u Y T ac ad aq;go_upto_region 6 with fail;obtain⟨a9,bk,bj,a7,bg,-⟩:=D6m (J (B2e p us t).x.1.1) (S bZ cz b7) (S b0 cA b8) (J (B2e p us t).y.1.1) (S b3 cB b9) (S b4 cD ca) a6 aT ch;rw[bk];have ab:=A_ bj;have aa:=A_ bg;have bJ:=A_ (aS.keep λb an=>a7 b (aQ b an));clear bk a7 bj bg aE bE cG cH ai cI Z cJ cK cL cM cN cO cP cj a6 aT aS aQ;have bX:=A_ (a5.below aa);have aZ:=A_ (aY.below aa);have cY:=A_ (a4.below aa);have bN:=A_ (bM.below aa);have am:=A_ (K_ ah aa);obtain⟨Y,-⟩:=B_ am (j:=0) rfl;obtain⟨T,-⟩:=B_ am (j:=1) rfl;obtain⟨ac,-⟩:=B_ am (j:=2) rfl;obtain⟨ad,-⟩:=B_ am (j:=3) rfl;obtain⟨bt,-⟩:=B_ ab (j:=0) rfl;obtain⟨bu,-⟩:=B_ ab (j:=1) rfl;obtain⟨bv,-⟩:=B_ ab (j:=2) rfl;obtain⟨bz,-⟩:=B_ ab (j:=3) rfl;obtain⟨bA,-⟩:=B_ ab (j:=4) rfl;obtain⟨bB,-⟩:=B_ ab (j:=5) rfl;simp at Y T ac ad bt bu bv bz bA bB;have aq:w.1.size<a9.1.size:=E_ am;have cw:gb<a9.1.size:=E_ ab;have aR:=A_ ag.2.2;refine W_ 17 kR kR kR kR kR ?_;simp only[GT,FM,GU,FF];iterate 4 refine C_ _ ?_
   refine D_ (MP.sl (B5j p.1.1 t)) ?_ ?_;·intro H G D u h;obtain⟨ae,af⟩:=F_ u;simp at h;refine G_ ?_;exact A1c (A6s _ p.1 _ k t D (aZ.below u) ak ag.1 O.ok O.n40 O.t48)
   iterate 4 refine C_ _ ?_
   refine D_ (MP.sl (A7o (P_ p.1.triangles) E k t)) ?_ ?_;·intro H G D u h;obtain⟨ae,af⟩:=F_ u;simp at h;refine G_ ?_;exact A1c (C8a _ p.1 _ aF m c E _ k t D (aZ.below u) O.t48 (bN.below u) au.fl ak bU au.fo)
   refine C_ _ ?_;refine D_ (CH (C1a (Z_ p.1.1 t.a) (Z_ p.1.1 t.b) (Z_ p.1.1 t.c) (A7o (P_ p.1.triangles) E k t) (B2e p us t))) ?_ ?_;·intro H G D u h;obtain⟨ae,af⟩:=F_ u;simp at h;obtain⟨⟨⟨C,cx,cC,c4,bh⟩,_⟩,⟨⟨bI,cy,b6,c5,bi⟩,_⟩,_⟩:=h;obtain rfl:3=cx:=bh.1;obtain rfl:3=cy:=bi.1;refine G_ ?_;exact H_ (C3h C cC _ _ _ _ bI b6 _ _ _ (B2e p us t) _ D bh bi (bJ.below u) aR.d aR.d0)
   iterate 2 refine C_ _ ?_
   refine D_ (MP.aggS (B4w p t)) ?_ ?_;·intro H G D u h;obtain⟨ae,af⟩:=F_ u;simp at h;refine G_ ?_;exact A7t (B1h _ p _ k t D (bX.below u) ak O.dl ag.2.1)
   refine D_ (CH (D5o p us E k t)) ?_ ?_;·intro H G D u h;obtain⟨ae,af⟩:=F_ u;simp at h;refine G_ ?_;obtain⟨ai,⟨_,cF,Z⟩⟩:=h;exact H_ (A8m _ _ _ (B4w p t) _ _ D (by first|exact ai.1|exact ai.1.1) (by first|exact Z|exact Z.1))
   refine A1d (λbD=>MP.slbox (bD 15).cells 39) (by intro y bD bf;simp[N_,M_]at bf;simp[bf]) ?_ ?_;·intro H G D u h;simp at h;obtain⟨aO,bq,ba,cb,aP,br,bc,cc,cd,_,_,_⟩:=TRat.agg h.1;refine⟨gD,S (QZ ⟨D.1.size,0,I⟩) 1 1,D.alloc (BG (H 15).cells 39),?_,BP _,[D.1.size],⟨D.1.size,rfl,rfl,DB D _⟩,sI⟩;rw[cd];go_simp
   intro H G cR u h (az:Hid _);simp at h;have aD:=h.1;have aM:=h.2.2.2.2.2.2.2.2.2.2.2.2.2.2.2.1;have aL:=h.2.2.2.2.2.2.2.2.2.2.2.2.2.2.2.2;obtain⟨⟨W,ao⟩,aB⟩:=aM;obtain⟨aO,bq,ba,cb,aP,br,bc,cc,aE,-,_,_⟩:=TRat.agg W;obtain⟨⟨ce,bE,ar,aH⟩,-⟩:=aL;rw[aE]at aH W;have aN:=A_ (A3x W);have aV:=A_ ao;have a1:=A_ (show ∀ b∈G 15,wr.1.size<=b from λb an=>by have:=(aB b an).1;have:=aa.size;omega);have aW:=A_ aH;have aU:=A_ (show Bw wr cR from BH aa u);have dg:H 0=S (QZ ⟨gB,0,I⟩) k cap:=by first|exact aD.1.1|exact aD.1|exact aD
   clear aD;generalize G 15=cE at *;clear h az W ao aB aH ar Y T ac ad bt bu bv bz bA bB aq cw u;go_wp2_with (at_builtin;refine A1v rfl _ _ 27 rfl 39 cv (BJ #[J AH,S I 0 0,S I 0 0]) 56 underlying27 ck cs ct cu rfl al aU gD ⟨ce,0,I⟩ 1 [J (D5o p us E k t).1.1,S aO bq ba,S aP br bc] (D5o p us E k t) cE gD (A0a aW) aN aV a1 bG bH ?_;intro g' bd cQ bn ci co);have bS:=A_ (by rw[bY.o];exact bn:Pend w ax 39 cQ g' (k+1) bd (B3i p us E (k+1)));clear bn ci co aN aV a1 al aW aU;go_wp2_with fail;go_roundg g;case measure=>omega
   case rel=>exact⟨k+1,g',bd,cm,gN,rfl,bS⟩
  obtain rfl:k=n1:=oS;have cn:¬ ((k:Int)<k):=oS;obtain⟨F,da,c2,b5,e,bp,bm,cg⟩:=al.done;injection e with e;injection e with T ac ad;subst T;subst ac;subst ad;have aX:=A_ (by rw[C3k,a3.o]:C3k p us E=B3i p us E k);have a2:=A_ bp;have bR:=A_ bm;clear bl aA bp bm cg;go_wp2_with fail;refine(A5p _ k cap (B3i p us E k) b5 wr a2.o (by rw[<-aX.o];exact au.ok)).mono ?_;rintro _ df ⟨rfl,ay⟩;have bT:=A_ (a2.below ay);have bQ:=A_ (bR.below ay);have bK:=A_ (BH aj ay);clear ay;go_wp2;go_ret;rw[aX.o];exact⟨_,_,_,_,rfl,bT,bQ,bK⟩

def E2i (p:TProblem) (us:List TRat):Nat->TRat
 |0=>U_ 0
 |k+1=>A0k (E2i p us k) (leT p us (p.1.triangles.getD k ⟨0,0,0,0,0⟩))
def enL (p:TProblem) (us:List TRat):TRat:=E2i p us p.1.triangles.length
theorem F4j (v:AU) (p:TProblem) (b:List Nat) (B:Option AJ) (n d:Nat) (us:List TRat) (aN:List Nat) (w:AD) (aB:Agg w v p b) (aR:Sl w B n d us aN) (ax:LinD p us) :
  BL prog 41 #[v,S B n d] w (A0c w (enL p us)):=by
 have a5:=A_ aB;have a4:=A_ aR;have a2:=A_ ax;obtain⟨ad,ao,ah,bO,ae,n1,ai,bP,af,n2,aj,bQ,ag,ap,c3,bR,rfl,rfl,bi,az,bj,bk⟩:=TProblem.agg aB;have aJ:=A_ az.1;have bF:n1<=48:=by rw[<-az.1];exact ax.t48
 have bG:(n1:Int)<=48:=oS;clear bi az bj bk aB aR ax;go_enter func41,ntmps41;go_upto_region 1 with fail;obtain⟨G,Y⟩:∃ G,G=(w.alloc (BG #[S ad ao ah,S ae n1 ai,S af n2 aj,S ag ap c3] 29)).alloc (BG #[J AH,S I 0 0,S I 0 0] 39):=⟨_,rfl⟩
 have aF:=A_ (by rw[Y];exact(BP _).alloc sI _:Bw w G);have a6:=A_ (by rw[Y];exact K_ (DB w _) (BP _):G.1[w.1.size]?=QZ (BG #[S ad ao ah,S ae n1 ai,S af n2 aj,S ag ap c3] 29));have a7:=A_ (show G.1[w.1.size+1]?=QZ (BG #[J AH,S I 0 0,S I 0 0] 39) by rw[Y];have:=DB (w.alloc (BG #[S ad ao ah,S ae n1 ai,S af n2 aj,S ag ap c3] 29)) (BG #[J AH,S I 0 0,S I 0 0] 39);rwa [World.size_alloc]at this);have aK:=A_ (by rw[Y];simp:G.1.size=w.1.size+2);rw[<-Y];clear Y;go_wp2_with fail;refine(A0l 0 G oG).mono ?_;rintro _ wa ⟨bV,aU,rfl,al,ay,ac⟩;obtain⟨P1,p1,q1,X,P2,p2,q2,au,rfl,-,-,-⟩:=TRat.agg al;have bl:=ac.size;obtain⟨W,ak⟩:∃ W,W=wa.alloc (BG #[J (U_ 0).1.1,S P1 p1 q1,S P2 p2 q2] 39):=⟨_,rfl⟩
 have O:=A_ (by rw[ak];exact BP _:Bw wa W);have D:=A_ (by rw[ak];exact DB wa _:W.1[wa.1.size]?=QZ (BG #[J (U_ 0).1.1,S P1 p1 q1,S P2 p2 q2] 39));have Z:=A_ (K_ (K_ a6 ac) O);have aI:=A_ (show AccSt w W wa.1.size (w.1.size+1) (E2i p us 0) P1 p1 q1 P2 p2 q2 aU from by have z:=aK.o;refine⟨BH (BH aF ac) O,⟨E_ D,⟨(B_ D (j:=0) rfl).1,(B_ D (j:=1) rfl).1,(B_ D (j:=2) rfl).1⟩,⟨(B_ D (j:=0) rfl).2,(B_ D (j:=1) rfl).2,(B_ D (j:=2) rfl).2⟩⟩,al.below O,(ay.older aF.size).below O,⟨λH=>by have:=al.lt _ H;omega,λH=>by have:=(ay.2 _ H).1;omega⟩,K_ (K_ a7.o ac) O.o,oS⟩);clear al ay ac;go_upto_region 2 with fail;rw[<-ak];clear ak;have bu:w.1.size<wa.1.size:=by have:=aK.o;omega
 obtain⟨aa,-⟩:=B_ Z (j:=0) rfl;obtain⟨X,-⟩:=B_ Z (j:=1) rfl;simp at aa X;have aC:w.1.size<W.1.size:=E_ Z;go_wp2_with fail;generalize wa.1.size=aw at *;go_loopg [12] n1 (λg s wr=>∃ (k:Nat) (P1:Option AJ) (p1 q1:Nat) (P2:Option AJ) (p2 q2:Nat) (rl:List Nat),k+g=n1/\s=N RD k/\Hid (AccSt w wr aw (w.1.size+1) (E2i p us k) P1 p1 q1 P2 p2 q2 rl)/\Hid (wr.1[w.1.size]?=QZ (BG #[S ad ao ah,S ae n1 ai,S af n2 aj,S ag ap c3] 29)));case atStart=>exact⟨0,P1,p1,q1,P2,p2,q2,aU,oS,rfl,aI.o,Z.o⟩
 case round =>
  clear aI Z aa X aC D O bl;obtain⟨k,P1,p1,q1,P2,p2,q2,rl,aQ,rfl,h,T⟩:=hrel;have bz:=h.rb.1;have aq:=A_ h.bl;rcases CG k n1 with am|am
  ·have bB:(k:Int)<n1:=oS
   have bD:(0:Int)<=k:=oS;obtain⟨g,rfl⟩:∃ g,gk=g+1:=⟨gk - 1,oS⟩
   have bg:=A_ (by omega:k+1+g=n1);obtain⟨t,aA⟩:∃ t,p.1.triangles[k]?=QZ t:=⟨_,DU (by rw[aJ.o];exact am)⟩
   have a1:=A_ aA;have a9:=A_ (by rw[E2i,A0e aA]:E2i p us (k+1)=A0k (E2i p us k) (leT p us t));obtain⟨aa,-⟩:=B_ T (j:=0) rfl;obtain⟨X,-⟩:=B_ T (j:=1) rfl;obtain⟨au,-⟩:=B_ T (j:=2) rfl;obtain⟨aO,-⟩:=B_ T (j:=3) rfl;simp at aa X au aO;have aC:w.1.size<wr.1.size:=E_ T;obtain⟨_,⟨bq,br,bt⟩,_⟩:=h.rb;clear aQ am aA;go_wp2_with fail;refine X_ sI ?_;dsimp only[DN,DO,DQ];iterate 4 refine C_ _ ?_
   refine D_ (CH (leT p us t)) ?_ ?_;·intro aX aE aD u E;obtain⟨bd,bf⟩:=F_ u;simp at E;refine G_ ?_;exact H_ (D8t _ p _ B n d us aN k t aD ((a5.below aq).below u) ((a4.below aq).below u) a2 a1)
   refine D_ (CH (A0k (E2i p us k) (leT p us t))) ?_ ?_;·intro aX aE aD u E;obtain⟨bd,bf⟩:=F_ u;simp at E;refine G_ ?_;obtain⟨_,aV⟩:=E;exact H_ (A0x _ _ (E2i p us k) (leT p us t) _ _ aD (h.o.ag.below u) (by first|exact aV.1|exact aV.1.1))
   intro aX aE wb u E (be:Hid _);simp at E;have bn:=E.2.2.2.2.2;obtain⟨⟨ab,aP⟩,an⟩:=bn;rw[<-a9.o]at ab;obtain⟨aG,aS,aL,bW,aH,aT,aM,bX,bp,bm,-,-⟩:=TRat.agg ab;rw[bp]at ab;have aY:=A_ ab;have ar:=A_ (h.below u);have bh:=h.lo;have bI:=aq.size;have ba:=A_ (ar.o.set aY.o (F6l aP (λb bc=>(an b bc).1) oS) ⟨λH=>by have:=(an _ H).1;omega,λH=>by have:=(an _ H).1;omega⟩);have bv:aw<wb.1.size:=by have:=u.size;omega
   have a8:=A_ ((A0p (g:=aw) (v0:=J (E2i p us (k+1)).1.1) (v1:=S aG aS aL) (v2:=S aH aT aM) w.1.size oS).trans (K_ T.o u));obtain⟨_,⟨aW,v1,v2⟩,⟨bS,bT,bU⟩⟩:=ar.rb;generalize aE 5=bo at *;clear E be ab aP an bm u h ar bh bq br bt aa X au aO aC;go_wp2_with fail;go_roundg g;case measure=>omega
   case rel=>exact⟨k+1,aG,aS,aL,aH,aT,aM,bo,bg,gN,ba,a8⟩
  obtain rfl:n1=k:=oS;have bA:¬ ((n1:Int)<n1):=oS;have a3:=A_ h.o.o;have aZ:=A_ (by unfold enL;rw[aJ.o]:E2i p us n1=enL p us);obtain⟨_,⟨aW,v1,v2⟩,_⟩:=h.rb;have bE:=h.lo;have bH:w.1.size+1<wr.1.size:=oS;obtain⟨r0,bJ,bK⟩:wr.cell? ⟨w.1.size+1,0,I⟩=QZ (J AH)/\wr.cell? ⟨w.1.size+1,1,I⟩=QZ (S I 0 0)/\wr.cell? ⟨w.1.size+1,2,I⟩=QZ (S I 0 0):=⟨(B_ h.rs rfl).1,(B_ h.rs rfl).1,(B_ h.rs rfl).1⟩
  obtain⟨bL,bM,bN⟩:wr.frozen? ⟨w.1.size+1,0,I⟩=AH/\wr.frozen? ⟨w.1.size+1,1,I⟩=AH/\wr.frozen? ⟨w.1.size+1,2,I⟩=AH:=⟨(B_ h.rs rfl).2,(B_ h.rs rfl).2,(B_ h.rs rfl).2⟩
  clear aQ am h;go_wp2;refine CK (v:=BJ #[J (E2i p us n1).1.1,S P1 p1 q1,S P2 p2 q2]) (by simp[CO,results41,go_sem, *]) rfl ?_;rw[<-aZ.o];exact a3
theorem C5z (A:Option AJ) (n c:Nat) (es:List TEdge) (bs:List Nat) (a b:Int) (w:AD) (T:Sl w A n c es bs) (aa:n<=65536) (D:I64 a) (E:I64 b) (H:A6o es (A2i a b)=AH) :
  BL prog 166 #[S A n c,N RD a,N RD b] w (A0b w (N RD (-1))):=by
 have Y:=A_ T;have W:=A_ H;have ab:=A_ D;have ac:=A_ E;obtain⟨u,O⟩:∃ u,min a b=u:=⟨_,rfl⟩
 obtain⟨h,G⟩:∃ h,max a b=h:=⟨_,rfl⟩
 have X:=A_ (by unfold A2i;rw[O,G]:A2i a b=⟨u,h,0,0⟩);have K:=A_ (show Agg w (BJ #[N RD u,N RD h,N RD 0,N RD 0]) (⟨u,h,0,0⟩:TEdge) []from TEdge.mkAgg (x:=⟨u,h,0,0⟩) (by show I64 u;rw[<-O];unfold I64 at *;omega) (by show I64 h;rw[<-G];unfold I64 at *;omega) (by show I64 0;constructor<;>decide) (by show I64 0;constructor<;>decide));clear T H D E;go_enter func166,ntmps166;go_wp2_with fail;have C:=B4a A n c es bs _ ⟨u,h,0,0⟩ [] w Y aa K;rw[<-X.o,W.o]at C;refine C.mono ?_;clear C;rintro _ ad ⟨rfl,Z⟩;go_wp2;go_ret;exact⟨rfl,Z⟩
structure MidC (w:AD) (gE gM:Nat) (E:Option AJ) (n cE:Nat) (es:List TEdge) (eb:List Nat) (M:Option AJ) (cM:Nat) (ms:List Int) (mb:List Nat):Prop where
 kE:w.1[gE]?=QZ (BG #[S E n cE] 62)
 kM:w.1[gM]?=QZ (BG #[S M n cM] 35)
 sE:Sl w E n cE es eb
 sM:Sl w M n cM ms mb
 n144:n<=144
theorem MidC.below {w w':AD} {gE gM:Nat} {E:Option AJ} {n cE:Nat} {es:List TEdge} {eb:List Nat} {M:Option AJ} {cM:Nat} {ms:List Int} {mb:List Nat} (h:MidC w gE gM E n cE es eb M cM ms mb) (hb:Bw w w'):MidC w' gE gM E n cE es eb M cM ms mb :=
 ⟨K_ h.kE hb,K_ h.kM hb,h.sE.below hb,h.sM.below hb,h.n144⟩
theorem E9x {es:List TEdge} {ms:List Int} {a b:Int} (h:A6o es (A2i a b)=AH):A7f es ms a b = -1:=by unfold A7f;rw[h];rfl
theorem E6k {es:List TEdge} {ms:List Int} {a b:Int} (h:A6o es (A2i a b)=AF):A7f es ms a b=ms.getD (A3z es (A2i a b)) 0:=by unfold A7f;rw[h];rfl
theorem E9i {es:List TEdge} {e:TEdge} (h:A6o es e=AF):A3z es e<es.length:=by unfold A6o at h;simp at h;exact h.1
theorem D4v (X gM:Nat) (G:Option AJ) (n T:Nat) (es:List TEdge) (W:List Nat) (M:Option AJ) (aj:Nat) (ms:List Int) (an:List Nat) (a b:Int) (w:AD) (D:MidC w X gM G n T es W M aj ms an) (ac:I64 a) (ad:I64 b) :
  BL prog 232 #[N RD a,N RD b,.pointer (QZ ⟨X,0,I⟩),.pointer (QZ ⟨gM,0,I⟩)] w (A0b w (N RD (A7f es ms a b))):=by
 have E:=A_ D;have Y:=A_ ac;have Z:=A_ ad;have aa:=A_ D.n144;obtain⟨ab,-⟩:=B_ D.kE (j:=0) rfl;have am:X<w.1.size:=E_ D.kE;simp at ab;clear D ac ad;go_enter func232,ntmps232;go_wp2_with fail;cases h:A6o es (A2i a b);·have H:=A_ (E9x (ms:=ms) h);refine(C5z G n T es W a b w E.sE (by have:=aa.o;omega) Y.o Z.o h).mono ?_;rintro _ af ⟨rfl,u⟩;clear h;go_wp2;go_ret;rw[H.o];exact⟨rfl,u⟩
 have H:=A_ (E6k (ms:=ms) h);have ah:=A_ (by have:=E9i h;rw[E.o.sE.1]at this;exact this:A3z es (A2i a b)<n);refine(A2t G n T es W a b w E.sE (by have:=aa.o;omega) Y.o Z.o h).mono ?_;rintro _ af ⟨rfl,u⟩;clear h ab am;generalize A3z es (A2i a b)=q at *;have al:q<n:=ah.o;have ar:(q:Int)<n:=oS;have O:=A_ (E.below u);obtain⟨ap,au,x,rfl,aq,ae,ao,aw⟩:=Sl.getInt O.sM al;have ai:=A_ (by rw[EH,ae];rfl:ms.getD q 0=x);have ag:=A_ u;obtain⟨ak,-⟩:=B_ O.kM (j:=0) rfl;have l1:gM<af.1.size:=E_ O.kM;simp at ak;clear ae ao u;go_wp2;go_ret;rw[H.o,ai.o];exact⟨rfl,ag⟩
def A7h (t:TTri):List AU:=[N RD t.a,N RD t.b,N RD t.c,N RD t.4,N RD t.5]
def C2c (t:TTri):Prop:=I64 t.a/\I64 t.b/\I64 t.c/\I64 t.4/\I64 t.5
theorem D2e:(prog.info? 109).map (λi=>(i.zero,i.size,i.bytes))=QZ (QZ (BJ #[N RD 0,N RD 0,N RD 0,N RD 0,N RD 0]),5,40):=kR
def C7l (w:AD) (ts:List TTri) (e:Ending) (w':AD):Prop:=∃ g c,e=.returned (S (QZ ⟨g,0,I⟩) ts.length c)/\w'.ownsRow w.1.size 109 5 (S (QZ ⟨g,0,I⟩) ts.length c) ts.length (ts.flatMap A7h)/\(∀ t∈ts,C2c t)/\0<ts.length/\Bw w w'
theorem D5n (t:TTri) (x:Int) (w:AD) (h:I64 (t.5+1)) :
  BL prog 242 #[BJ #[N RD t.a,N RD t.b,N RD t.c,N RD t.4,N RD t.5],N RD x] w (λe w'=>e=.returned (.tuple #[BJ #[N RD x,N RD t.a,N RD t.b,N RD t.4,N RD (t.5+1)],BJ #[N RD x,N RD t.c,N RD t.a,N RD t.4,N RD (t.5+1)]])/\Bw w w'):=by
 have E:=A_ h;have u:=h.1;have D:=h.2;obtain⟨a,b,c,r,l⟩:=t;simp only at u D;clear h;go_enter func242,ntmps242;go_upto_region 1 with fail;have G:IntKind.wrap RD (l+1)=l+1:=IntWalk.i64_in _ ⟨u,D⟩;go_region_held3 (λw'=>w'.cell? ⟨w.1.size,0,I⟩=QZ (N RD a)/\w'.cell? ⟨w.1.size,1,I⟩=QZ (N RD b)/\w'.cell? ⟨w.1.size,2,I⟩=QZ (N RD c)/\w'.cell? ⟨w.1.size,3,I⟩=QZ (N RD r)/\w'.cell? ⟨w.1.size,4,I⟩=QZ (N RD l)) (refine⟨?_,?_,?_,?_,?_⟩<;>(go_simp;done)) (fail);all_goals (go_upto_region 2 with fail)
 all_goals (go_region_held3 (λw'=>w'.cell? ⟨w.1.size,0,I⟩=QZ (N RD a)/\w'.cell? ⟨w.1.size,1,I⟩=QZ (N RD b)/\w'.cell? ⟨w.1.size,2,I⟩=QZ (N RD c)/\w'.cell? ⟨w.1.size,3,I⟩=QZ (N RD r)/\w'.cell? ⟨w.1.size,4,I⟩=QZ (N RD l)) (refine⟨?_,?_,?_,?_,?_⟩<;>(go_simp;done)) (fail))
 all_goals (go_upto_region 3 with fail)
 all_goals (go_region_held3 (λw'=>w'.cell? ⟨w.1.size,0,I⟩=QZ (N RD a)/\w'.cell? ⟨w.1.size,1,I⟩=QZ (N RD b)/\w'.cell? ⟨w.1.size,2,I⟩=QZ (N RD c)/\w'.cell? ⟨w.1.size,3,I⟩=QZ (N RD r)/\w'.cell? ⟨w.1.size,4,I⟩=QZ (N RD l)) (refine⟨?_,?_,?_,?_,?_⟩<;>(go_simp;done)) (fail))
 all_goals (go_upto_region 4 with fail)
 ·go_region_held3 (λw'=>w'.cell? ⟨w.1.size+1+1+1,0,I⟩=QZ (N RD x)/\w'.cell? ⟨w.1.size+1+1+1,1,I⟩=QZ (N RD a)/\w'.cell? ⟨w.1.size+1+1+1,2,I⟩=QZ (N RD b)/\w'.cell? ⟨w.1.size+1+1+1,3,I⟩=QZ (N RD r)/\w'.cell? ⟨w.1.size+1+1+1,4,I⟩=QZ (N RD (l+1))/\w'.cell? ⟨w.1.size+1+1+1+1,0,I⟩=QZ (N RD x)/\w'.cell? ⟨w.1.size+1+1+1+1,1,I⟩=QZ (N RD c)/\w'.cell? ⟨w.1.size+1+1+1+1,2,I⟩=QZ (N RD a)/\w'.cell? ⟨w.1.size+1+1+1+1,3,I⟩=QZ (N RD r)/\w'.cell? ⟨w.1.size+1+1+1+1,4,I⟩=QZ (N RD (l+1))) (refine⟨?_,?_,?_,?_,?_,?_,?_,?_,?_,?_⟩<;>(go_simp;done)) (fail);go_wp2;refine CK (v:=.tuple #[BJ #[N RD x,N RD a,N RD b,N RD r,N RD (l+1)],BJ #[N RD x,N RD c,N RD a,N RD r,N RD (l+1)]]) (by simp[CO,results242,go_sem, *]) rfl ?_;refine⟨rfl,?_⟩;repeat (first|(with_reducible exact DI _ _)|(with_reducible refine LK ?_)|(with_reducible refine Below.box_ ?_ _))
 go_region_held3 (λw'=>w'.cell? ⟨w.1.size+1+1+1+1,0,I⟩=QZ (N RD x)/\w'.cell? ⟨w.1.size+1+1+1+1,1,I⟩=QZ (N RD a)/\w'.cell? ⟨w.1.size+1+1+1+1,2,I⟩=QZ (N RD b)/\w'.cell? ⟨w.1.size+1+1+1+1,3,I⟩=QZ (N RD r)/\w'.cell? ⟨w.1.size+1+1+1+1,4,I⟩=QZ (N RD (l+1))/\w'.cell? ⟨w.1.size+1+1+1,0,I⟩=QZ (N RD x)/\w'.cell? ⟨w.1.size+1+1+1,1,I⟩=QZ (N RD c)/\w'.cell? ⟨w.1.size+1+1+1,2,I⟩=QZ (N RD a)/\w'.cell? ⟨w.1.size+1+1+1,3,I⟩=QZ (N RD r)/\w'.cell? ⟨w.1.size+1+1+1,4,I⟩=QZ (N RD (l+1))) (refine⟨?_,?_,?_,?_,?_,?_,?_,?_,?_,?_⟩<;>(go_simp;done)) (fail);go_wp2;refine CK (v:=.tuple #[BJ #[N RD x,N RD a,N RD b,N RD r,N RD (l+1)],BJ #[N RD x,N RD c,N RD a,N RD r,N RD (l+1)]]) (by simp[CO,results242,go_sem, *]) rfl ?_;refine⟨rfl,?_⟩;repeat (first|(with_reducible exact DI _ _)|(with_reducible refine LK ?_)|(with_reducible refine Below.box_ ?_ _))
theorem A9f {w:AD} {base b:Nat} {e:TypeId} {size:Nat} {v:AU} {n:Nat} {xs:List AU} (h:w.ownsRow base e size v n xs) (H:b<=base):w.ownsRow b e size v n xs:=by
 obtain⟨D,E⟩:=h;refine⟨D,?_⟩;rcases E with G|⟨g',cap,u,T,O,r⟩;·exact .inl G
 exact .inr ⟨g',cap,u,T,CJ H O,r⟩
theorem C5p {w:AD} {base:Nat} {e:TypeId} {size:Nat} {v:AU} {n:Nat} {xs:List AU} (h:w.ownsRow base e size v n xs) (E:0<n):∃ g c,v=S (QZ ⟨g,0,I⟩) n c:=by
 rcases h.2 with⟨_,D⟩|⟨g',cap,u,b,_⟩;·omega
 exact⟨g',cap,b⟩
def MP.trow (base:Nat) (ts:List TTri):MP:=⟨λv bs w=>bs=[]/\∃ g c,v=S (QZ ⟨g,0,I⟩) ts.length c/\w.ownsRow base 109 5 (S (QZ ⟨g,0,I⟩) ts.length c) ts.length (ts.flatMap A7h),λ_ _ _ _ hb ⟨h0,g,c,h1,h2⟩=>⟨h0,g,c,h1,I_ h2 hb⟩⟩
theorem B3l (ts:List TTri):(ts.flatMap A7h).length=ts.length*5:=by
 induction ts with
 |nil=>rfl
 |cons t ts ih=>rw[List.flatMap_cons,GQ,ih,List.length_cons];show 5+_=_;omega
theorem C1s {ts:List TTri}:∀ u∈ts.flatMap A7h,u.oneCell'=AF:=by
 intro u h;obtain⟨t,_,b⟩:=List.mem_flatMap.1 h;unfold A7h at b;simp at b;rcases b with rfl|rfl|rfl|rfl|rfl<;>rfl
theorem B1o (es:List TEdge) (ms:List Int):∀ (d:Nat) (t:TTri),0<(A6w es ms d t).length/\(A6w es ms d t).length<=2 ^ d
 |0,t=>⟨by simp[A6w],by simp[A6w]⟩
 |d+1,t=>by
  unfold A6w
  split
  ·exact⟨sI,by simpa using Nat.one_le_two_pow⟩
  have h1:=B1o es ms d (B7h t (A7f es ms t.b t.c));have h2:=B1o es ms d (B7k t (A7f es ms t.b t.c))
  rw[GQ,Nat.pow_succ];omega
theorem E4k {w:AD} {M:Option AJ} {n c:Nat} {ms:List Int} {D:List Nat} (h:Sl w M n c ms D) (es:List TEdge) (a b:Int):I64 (A7f es ms a b):=by
 unfold A7f;split
 ·rw[EH]
  cases u:ms[A3z es (A2i a b)]? with
  |none=>exact⟨dE,dE⟩
  |some x=>exact Sl.i64 h x (DH u)
 exact⟨dE,dE⟩
theorem D2o {es:List TEdge} {ms:List Int} (hm:∀ a b,I64 (A7f es ms a b)):∀ (d:Nat) (t:TTri),C2c t->0<=t.5->t.5+d<=1000->∀ s∈A6w es ms d t,C2c s
 |0,t,ht,_,_=>λs hs=>by simp[A6w]at hs;subst hs;exact ht
 |d+1,t,ht,h0,h1=>λs hs=>by
  unfold A6w at hs
  split at hs
  ·simp at hs;subst hs;exact ht
  have hl:I64 (t.5+1):=⟨oS,oS⟩
  rcases List.mem_append.1 hs with h|h
  ·exact D2o hm d (B7h t (A7f es ms t.b t.c)) ⟨hm _ _,ht.1,ht.2.1,ht.2.2.2.1,hl⟩ (by show 0<=t.5+1;omega) (by show t.5+1+d<=1000;omega) s h
  exact D2o hm d (B7k t (A7f es ms t.b t.c)) ⟨hm _ _,ht.2.2.1,ht.1,ht.2.2.2.1,hl⟩ (by show 0<=t.5+1;omega) (by show t.5+1+d<=1000;omega) s h
theorem F2w {w:AD} {base:Nat} {e:TypeId} {cs:List AU} {size:Nat} (hl:cs.length=size) (hb:base<=w.1.size):(w.alloc (BG cs.toArray e)).ownsRow base e size (S (QZ ⟨w.1.size,0,I⟩) 1 1) 1 cs :=
 ⟨by rw[hl,KL],.inr ⟨w.1.size,1,cs.toArray,rfl,hb,DB w _,CE _,by unfold BS;decide,by simp[hl],by rw[KL,<-hl];simp⟩⟩
attribute [local simp] MP.trow
theorem C0b (Z gM:Nat) (ac:Option AJ) (n af:Nat) (es:List TEdge) (ah:List Nat) (M:Option AJ) (ag:Nat) (ms:List Int) (al:List Nat) (t:TTri) (w:AD) (h:MidC w Z gM ac n af es ah M ag ms al) (ak:C2c t) (d:Nat) (ax:d<=2) (aj:A7f es ms t.b t.c<0\/d=0) :
  BL prog 233 #[BJ #[N RD t.a,N RD t.b,N RD t.c,N RD t.4,N RD t.5],.func (.func 232) #[] #[.pointer (QZ ⟨Z,0,I⟩),.pointer (QZ ⟨gM,0,I⟩)],N RD d] w (C7l w [t]):=by
 have an:=A_ aj;have ay:(d:Int)<=2:=oS;clear aj;have ad:=A_ h;obtain⟨aD,az,aA,aB,aC⟩:=FB D2e;have Y:=A_ ak;clear h ak;go_enter func233,ntmps233;go_upto_region 1 with fail;refine DY λae X=>?_;have u:=A_ X.k;have aa:=A_ X.b;clear X;obtain⟨O,-⟩:=B_ u (j:=1) rfl;obtain⟨T,-⟩:=B_ u (j:=2) rfl;simp at O T;have ap:w.1.size<ae.1.size:=E_ u;go_wp2_with fail;refine(D4v Z gM ac n af es ah M ag ms al t.b t.c ae (ad.below aa) Y.2.1 Y.2.2.1).mono ?_;rintro _ H ⟨rfl,D⟩;have b:=A_ (K_ u D);have W:=A_ (BH aa D);obtain⟨x,G⟩:∃ x,A7f es ms t.b t.c=x:=⟨_,rfl⟩
 have am:=A_ G;have aw:=A_ (by rw[<-G];exact E4k ad.sM es _ _:I64 x);rw[G];clear D G O T ap;obtain⟨aq,-⟩:=B_ b (j:=0) rfl;obtain⟨O,-⟩:=B_ b (j:=1) rfl;obtain⟨T,-⟩:=B_ b (j:=2) rfl;obtain⟨ar,-⟩:=B_ b (j:=3) rfl;obtain⟨au,-⟩:=B_ b (j:=4) rfl;simp at aq O T ar au;have l1:w.1.size<H.1.size:=E_ b
 have ab:=A_ (show C7l w [t] (.returned (S (QZ ⟨H.1.size,0,I⟩) 1 1)) (H.alloc (BG #[N RD t.a,N RD t.b,N RD t.c,N RD t.4,N RD t.5] 109))from
  ⟨H.1.size,1,rfl,F2w (e:=109) (size:=5) (cs:=[N RD t.a,N RD t.b,N RD t.c,N RD t.4,N RD t.5]) rfl W.o.size,λx h=>by simp at h;subst h;exact Y.o,sI,W.o.alloc W.o.size _⟩)
 by_cases E:x<0;·have ao:BQ (x<0)=AF:=decide_eq_true E;clear E;go_wp2;go_ret;exact ab
 have ao:BQ (x<0)=AH:=decide_eq_false E;have ai:(d:Int)=0:=by have:=an.o;rw[am.o]at this;omega
 have D:((d:Int)==0)=AF:=by simp[ai]
 clear E ai;go_wp2;go_ret;exact ab
theorem C9u (X gM:Nat) (ac:Option AJ) (n ae:Nat) (es:List TEdge) (ag:List Nat) (M:Option AJ) (af:Nat) (ms:List Int) (ak:List Nat) (t:TTri) (w:AD) (ai:MidC w X gM ac n ae es ag M af ms ak) (ah:C2c t) (d:Nat) (aJ:d<=2) (aK:0<=t.5/\t.5+d<=1000) :
  BL prog 233 #[BJ #[N RD t.a,N RD t.b,N RD t.c,N RD t.4,N RD t.5],.func (.func 232) #[] #[.pointer (QZ ⟨X,0,I⟩),.pointer (QZ ⟨gM,0,I⟩)],N RD d] w (C7l w (A6w es ms d t)):=by
 induction d generalizing t w with
 |zero=>exact C0b X gM ac n ae es ag M af ms ak t w ai ah 0 aJ (.inr rfl)
 |succ d ih =>
 by_cases Z:A7f es ms t.b t.c<0
 ·have e:A6w es ms (d+1) t=[t]:=by unfold A6w;rw[if_pos Z]
  rw[e];exact C0b X gM ac n ae es ag M af ms ak t w ai ah (d+1) aJ (.inl Z)
 have an:=A_ (by rw[A6w,if_neg Z]:A6w es ms (d+1) t=A6w es ms d (B7h t (A7f es ms t.b t.c))++A6w es ms d (B7k t (A7f es ms t.b t.c)));have a1:=A_ Z;have aB:=A_ ih;have H:=A_ aK;have bn:(d:Int)<=1:=oS;have am:=A_ (by omega:d<=2);have aL:I64 (t.5+1):=⟨oS,oS⟩
 have ao:=A_ aL;clear Z ih aK aL;have T:=A_ ai;obtain⟨bg,bc,bd,be,bf⟩:=FB D2e;have h:=A_ ah;clear ai ah;go_enter func233,ntmps233;go_upto_region 1 with fail;refine DY λaE au=>?_;have ad:=A_ au.k;have az:=A_ au.b;clear au;obtain⟨aa,-⟩:=B_ ad (j:=1) rfl;obtain⟨ab,-⟩:=B_ ad (j:=2) rfl;simp at aa ab;have bh:w.1.size<aE.1.size:=E_ ad;go_wp2_with fail;refine(D4v X gM ac n ae es ag M af ms ak t.b t.c aE (T.below az) h.2.1 h.2.2.1).mono ?_;rintro _ aN ⟨rfl,aw⟩;have G:=A_ (K_ ad aw);have aS:=A_ (BH az aw);obtain⟨x,aj⟩:∃ x,A7f es ms t.b t.c=x:=⟨_,rfl⟩
 have aA:=A_ aj;have aG:=A_ (by rw[<-aj];exact E4k T.sM es _ _:I64 x);rw[aj];clear aw aj aa ab bh;obtain⟨aO,-⟩:=B_ G (j:=0) rfl;obtain⟨aa,-⟩:=B_ G (j:=1) rfl;obtain⟨ab,-⟩:=B_ G (j:=2) rfl;obtain⟨aP,-⟩:=B_ G (j:=3) rfl;obtain⟨ay,-⟩:=B_ G (j:=4) rfl;simp at aO aa ab aP ay;have l1:w.1.size<aN.1.size:=E_ G;have bl:BQ (x<0)=AH:=decide_eq_false (by have:=a1.o;rw[aA.o]at this;omega);rw[aA.o]at an;have bp:((d:Int)+1==0)=AH:=oR;have bo:IntKind.wrap RD ((d:Int)+1 - 1)=d:=by rw[Int.add_sub_cancel];exact IntWalk.i64_in _ ⟨oS,oS⟩
 go_wp2_with fail;refine(D5n t x aN ao).mono ?_;rintro _ E ⟨rfl,aI⟩;have al:=A_ (BH aS aI);clear aI aO aa ab aP ay l1;go_upto_region 5 with fail;obtain⟨D,Y⟩:∃ W,W=(E.alloc (BG #[N RD x,N RD t.a,N RD t.b,N RD t.4,N RD (t.5+1)] 109)).alloc (BG #[N RD x,N RD t.c,N RD t.a,N RD t.4,N RD (t.5+1)] 109):=⟨_,rfl⟩
 have aX:=A_ (by rw[Y];exact K_ (DB E _) (BP _):D.1[E.1.size]?=QZ (BG #[N RD x,N RD t.a,N RD t.b,N RD t.4,N RD (t.5+1)] 109));have aC:=A_ (by rw[Y];exact(by simpa using DB (E.alloc (BG #[N RD x,N RD t.a,N RD t.b,N RD t.4,N RD (t.5+1)] 109)) (BG #[N RD x,N RD t.c,N RD t.a,N RD t.4,N RD (t.5+1)] 109)):D.1[E.1.size+1]?=QZ (BG #[N RD x,N RD t.c,N RD t.a,N RD t.4,N RD (t.5+1)] 109));have O:=A_ (by rw[Y];exact(al.alloc al.size _).alloc (by have:=al.size;simp;omega) _:Bw w D);rw[<-Y];clear Y;obtain⟨a0,-,-⟩:=bx aX;obtain⟨a3,-,-⟩:=bx aC;have l2:E.1.size+1<D.1.size:=E_ aC;have bi:E.1.size<D.1.size:=oS;refine W_ 10 kR kR kR kR kR ?_;simp only[GT,FM,GU,FF];iterate 4 refine C_ _ ?_
 refine D_ (MP.trow D.1.size (A6w es ms d (B7h t x))) ?_ ?_;·intro aQ aR ax b u;obtain⟨a7,a9⟩:=F_ b;simp at u;refine G_ ?_;exact(aB (B7h t x) ax (((T.below O).below b)) ⟨aG,h.1,h.2.1,h.2.2.2.1,ao⟩ am ⟨by have:=H.o;show 0<=t.5+1;omega,by have:=H.o;show t.5+1+d<=1000;omega⟩).mono λ_ _ ⟨g,c,he,ho,_,_,hb⟩=>⟨_,he,hb,[],⟨rfl,g,c,rfl,A9f ho b.size⟩,sI⟩
 iterate 4 refine C_ _ ?_
 refine D_ (MP.trow D.1.size (A6w es ms d (B7k t x))) ?_ ?_;·intro aQ aR ax b u;obtain⟨a7,a9⟩:=F_ b;simp at u;refine G_ ?_;exact(aB (B7k t x) ax (((T.below O).below b)) ⟨aG,h.2.2.1,h.1,h.2.2.2.1,ao⟩ am ⟨by have:=H.o;show 0<=t.5+1;omega,by have:=H.o;show t.5+1+d<=1000;omega⟩).mono λ_ _ ⟨g,c,he,ho,_,_,hb⟩=>⟨_,he,hb,[],⟨rfl,g,c,rfl,A9f ho b.size⟩,sI⟩
 intro aQ aR wa b u (a8:Hid _);simp at u;have bj:=u.2.2.2.2.1;have bk:=u.2.2.2.2.2.2.2.2.2;obtain⟨⟨-,a6,a4,ay,o1⟩,-⟩:=bj;obtain⟨⟨-,aH,a5,br,o2⟩,-⟩:=bk;have O1:=A_ (A9f o1 O.size);have O2:=A_ (o2.cells (g:=aH) rfl);have aF:=A_ (show w.1.size<=wa.1.size from CJ O.size b.size);have aU:=A_ (BH O b);have aY:=B1o es ms d (B7h t x);have aZ:=B1o es ms d (B7k t x);have P2:2 ^ d<=4:=by rcases d with _|_|_|d<;>first|decide|(exfalso;have:=am.o;omega)
 have aV:=A_ (by unfold BS;omega:(A6w es ms d (B7h t x)).length+(A6w es ms d (B7k t x)).length<=BS);have aW:=A_ (by omega:((A6w es ms d (B7h t x)).length+(A6w es ms d (B7k t x)).length)*40<=140737488355328);have aD:=A_ (D2o (es:=es) (ms:=ms) (λa a2=>E4k T.sM es a a2) (d+1) t h H.1 (by have:=H.o;push_cast;omega));have ar:=A_ (B1o es ms (d+1) t).1;clear u a8 b o1 o2 aY aZ P2 a0 a3 l2 bi;rw[an.o]at aD ar ⊢;generalize A6w es ms d (B7h t x)=ap at *;generalize A6w es ms d (B7k t x)=aq at *;go_wp2_with (at_builtin;refine wpList_append_own _ rfl _ _ 24 rfl w.1.size 109 bg (BJ #[N RD 0,N RD 0,N RD 0,N RD 0,N RD 0]) 5 40 underlying24 bc bd be bf rfl dE (.slice (QZ ⟨a6,0,I⟩) ap.length a4) ap.length (ap.flatMap A7h) gD O1 ⟨aH,0,I⟩ aq.length a5 (aq.flatMap A7h) gD (B3l aq) O2 C1s aV aW aF ?_;intro bq w3 aM ba bm);have aT:=A_ (aU.grown ba aF (B0b O1));obtain⟨g,c,rfl⟩:=C5p aM (by have:=ar.o;rwa [GQ]at this);go_wp2;go_ret;rw[an.o];exact⟨g,c,by rw[GQ];rfl,by rw[GQ,List.flatMap_append];exact aM,aD,ar,aT⟩
theorem C7g {es:List TEdge} {t:TTri} (h:B4h es t=AF):A6o es (A2i t.b t.c)=AF/\A6o es (A2i t.c t.a)=AF/\A6o es (A2i t.a t.b)=AF:=by
 unfold B4h at h;simpa using h
theorem C7m (v:AU) (m:TMesh) (b:List Nat) (A:Option AJ) (n c:Nat) (L:List Int) (bs:List Nat) (w:AD) (T:Agg w v m b) (aU:Sl w A n c L bs) (cz:n<=48) (aw:m.triangles.length<=48) (a4:∀ t∈m.triangles,B4h (P_ m.triangles) t=AF) :
  BL prog 213 #[v,S A n c] w (A0w w (A3d m.triangles L)):=by
 have bt:=A_ T;have aI:=A_ aw;have bj:=A_ aU;have bm:=A_ a4;obtain⟨cc,cK,ci,cN,cd,n1,cj,cO,rfl,rfl,bS,Z⟩:=TMesh.agg T;have bq:=A_ Z;have br:=A_ Z.1;have cA:n1<=48:=by rw[<-Z.1];exact aw
 have cB:(n1:Int)<=48:=oS;have a2:(P_ m.triangles).length<=144:=by unfold P_;have:=A5z m.triangles m.triangles.length;omega
 obtain⟨a7,bN,bT,bU,bV⟩:=FB D1p;obtain⟨u,ag⟩:∃ u,P_ m.triangles=u:=⟨_,rfl⟩
 obtain⟨ks,aj⟩:∃ ks,B4n m.triangles L=ks:=⟨_,rfl⟩
 have ap:=A_ ag;have aM:=A_ aj;have bd:=A_ (by rw[A3d,ag,aj]:A3d m.triangles L=A9l (B4v m.triangles u ks ks.length));have bi:=A_ (show ∀ x∈ks,0<=x/\x<n1 by intro x T;rw[<-aj]at T;have:=C1i T;rw[B0a,B3f,Z.1]at this;exact this);rw[ag]at a2;clear bS Z T aU a4 ag aj aw;go_enter func213,ntmps213;go_upto_region 1 with fail;refine DY λbD ar=>?_;have aF:=A_ ar.b;have aO:=A_ ar.k;clear ar;obtain⟨Y,-,ab⟩:=bx aO;go_wp2_with fail;refine(A7q _ m _ bD (bt.below aF) aI).mono ?_;rintro _ h ⟨bc,D,bJ,aT,rfl,O,bR,ax⟩;rw[ap.o]at O;have bn:=A_ O;have aq:=A_ O.1;have cD:D<=144:=by rw[<-O.1];exact a2
 have cE:(D:Int)<=144:=oS;have b2:=A_ (by rw[bV];omega:a7.bytes*D<=281474976710656);have bE:=A_ (by unfold BS;omega:D<=BS);have aD:=A_ (BH aF ax);have aP:=A_ (K_ aO ax);have cg:=A_ (show ∀ b∈aT,b<h.1.size from O.lt);clear O bR ax Y ab;go_upto_region 3 with(at_make;(refine wpList_make_full _ rfl _ _ 107 rfl h.1.size 4 a7 (J AH) 1 underlying107 bN bT bU .i64 .i64 _ _ D rfl rfl rfl rfl b2 bE (CE _) ?_);intro w3 az aZ)
 rw[B6q]at az;have ad:=(DI h.1.size h).grown aZ sI (by intro k ah;cases ah);have al:=A_ (show BRow w3 h.1.size h.1.size D (B4v m.triangles u ks 0) by show BRow w3 h.1.size h.1.size D (DK u.length AH);rw[aq.o];exact az);have aJ:=A_ ad;have a8:=A_ (BH aD ad);have bu:=A_ (K_ aP ad);clear az aZ ad;obtain⟨Y,-,ab⟩:=bx bu;go_wp2_with fail;refine(B9r A n c L bs n1 w3 (bj.o.below a8.o) oS oS).mono ?_;rintro _ b6 ⟨cm,rfl,aY,aV⟩;obtain⟨bH,a5,-⟩:=aY.sl;have aN:=A_ a5;have aK:=A_ aV;clear aY a5 aV Y ab;go_wp2_with fail;refine(C4v _ n1 n1 (B0a n1 L) bH b6 aN.o oS).mono ?_;rintro _ b7 ⟨K,E,aS,au,rfl,aa,a3,aW⟩;rw[show A9l (B0a n1 L)=ks by rw[<-aM.o,B4n,br.o]]at aa;have bk:=A_ aa.1;have cs:h.1.size<w3.1.size:=al.lt;have bh:=A_ (show ∀ b∈au,b≠h.1.size from λb H=>by have:=(a3.2 b H).1;have:=aK.size;omega);have X:=A_ aa;have am:=A_ (BH aK aW);have aE:=A_ (al.below am);have aH:=A_ (show Bw h b7 from aJ.trans (am.mono (by have:=aJ.size;omega)));have cF:E<=48:=by rw[<-aa.1,<-aM.o];unfold B4n A9l;have:=B7j (B0a m.triangles.length L) (B0a m.triangles.length L).length;have e:(B0a m.triangles.length L).length=m.triangles.length:=B3f _ _ _;have:=aI.o;omega
 have cG:(E:Int)<=48:=oS;clear aa a3 aW al aN;go_wp2_with fail;go_loopg [21] E (λg s wr=>∃ k:Nat,k+g=E/\s=N RD k/\Hid (BRow wr h.1.size h.1.size D (B4v m.triangles u ks k))/\Hid (Sl wr K E aS ks au)/\Hid (Bw h wr));case atStart=>exact⟨0,oS,rfl,aE.o,X.o,aH.o⟩
 case round =>
  clear aE X aH am;obtain⟨k,ah,rfl,an,X,W⟩:=hrel;have ao:=A_ (BH aD W);have cy:=an.lt;have bv:=A_ (K_ aP W);rcases CG k E with ai|ai
  ·have bQ:(k:Int)<E:=oS
   have cw:(0:Int)<=k:=oS;obtain⟨g,rfl⟩:∃ g,gk=g+1:=⟨gk - 1,oS⟩
   have bP:=A_ (by omega:k+1+g=E);obtain⟨bG,bY,x,rfl,cn,aC,bL,ct⟩:=B9i X ai;obtain⟨cH,cI⟩:=bi x (DH aC);have bf:=A_ (show ks.getD k 0=x from A0e aC);obtain⟨ch,cM,t,rfl,co,aB,bZ,b0,b3,b4,b5,bK⟩:=TTri.elemA (bq.o.below ao.o) (by omega:x.toNat<n1);obtain⟨-,-,cJ,bW,bX,-,-⟩:=TTri.agg bK;have aR:=A_ (show I64 t.b/\I64 t.c from⟨bW,bX⟩);have aQ:=A_ (C7g (bm t (DH aB)));have bz:=A_ (show B4v m.triangles u ks (k+1)=(B4v m.triangles u ks k).set (A3z u (A2i t.b t.c)) AF by rw[B4v,bf.o,A0e aB]);clear ah ai aC aB;have ae:=B9y aQ.1;rw[ap.o]at ae;have ce:=A_ ae;have a1:A3z u (A2i t.b t.c)<D:=by rw[<-aq.o];exact ae
   obtain⟨j,ay⟩:∃ j,A3z u (A2i t.b t.c)=j:=⟨_,rfl⟩
   rw[ay]at a1;have aL:=A_ ay;have bO:j<(B4v m.triangles u ks k).length:=by rw[C7i,aq.o];exact a1
   have cv:(j:Int)<D:=oS;have cu:(0:Int)<=j:=oS;obtain⟨Y,-,ab⟩:=bx bv;have bA:=A_ (bn.below W);clear ay ae;go_wp2_with fail;refine X_ sI ?_;dsimp only[DN,DO,DQ];iterate 14 refine C_ _ ?_
   refine D_ (MP.eq (N RD j)) ?_ ?_;·intro ca cb b9 G af;obtain⟨cp,cq⟩:=F_ G;simp at af;refine G_ ?_;exact A0i (by have aG:=A2t bc D bJ u aT t.b t.c b9 (bA.o.below G) oS aR.o.1 aR.o.2 (by have:=aQ.o.1;rw[ap.o]at this;exact this);rw[aL.o]at aG;exact aG)
   refine C_ _ ?_;intro ca cb wa G af (bM:Hid _);simp at af;have ac:=an.below G;obtain⟨cP,cQ⟩:=ac.cell (j:=j) (f:=(B4v m.triangles u ks k).getD j AH) (by rw[EH,DU bO];rfl);have cx:=ac.lt;have ba:=A_ (by rw[bz.o,aL.o];exact ac.set _ _:BRow (wa.setCell ⟨h.1.size,j,I⟩ (J AF)) h.1.size h.1.size D (B4v m.triangles u ks (k+1)));have bg:=A_ (show Bw h (wa.setCell ⟨h.1.size,j,I⟩ (J AF))from(W.trans (G.mono W.size)).setCell (p:=⟨h.1.size,j,I⟩) (CE _) _);have bB:=A_ (show Sl (wa.setCell ⟨h.1.size,j,I⟩ (J AF)) (QZ ⟨bG,bY,I⟩) E aS ks au from(X.o.below G).keep λb H=>GA _ _ _ b (by simpa using bh.o b H));go_simp;clear af bM Y ab bZ b0 b3 b4 b5 bL ac;go_wp2_with fail;go_roundg g;case measure=>omega
   case rel=>exact⟨k+1,bP,gN,ba,bB,bg⟩
  obtain rfl:k=E:=oS;have bQ:¬ ((k:Int)<k):=oS;obtain⟨bI,a6,-⟩:=an.sl;have bp:=A_ a6;have be:=A_ (by rw[bd.o,bk.o]:A3d m.triangles L=A9l (B4v m.triangles u ks k));clear ah ai a6;go_wp2_with fail;refine(C4v _ D D (B4v m.triangles u ks k) bI wr bp.o oS).mono ?_;rintro _ b8 ⟨F,cL,ck,bF,rfl,aA,ak,aX⟩;rw[<-be.o]at aA;have bo:=A_ aA;have bl:=A_ (show Own w b8 bF from⟨ak.1,λb H=>⟨by have:=(ak.2 b H).1;have:=ao.size;omega,(ak.2 b H).2⟩⟩);have a9:=A_ (BH ao aX);clear aA ak aX;go_wp2;go_ret;exact⟨_,_,_,_,rfl,bo,bl,a9⟩
theorem C8h (v:AU) (m:TMesh) (b:List Nat) (xs ys:List Int) (A:Option AJ) (n c:Nat) (L:List Int) (bs:List Nat) (w:AD) (H:Agg w v m b) (Z:Sl w A n c L bs) (an:n<=48) (ac:MeshI m xs ys) (ad:∀ t∈m.triangles,B4h (P_ m.triangles) t=AF) :
  BL prog 169 #[v,S A n c] w (A0w w (A3d m.triangles L)):=by
 have X:=A_ H;have ag:=A_ Z;have ai:=A_ ad;have W:=A_ ac;obtain⟨au,aA,ax,aC,aw,n1,ay,aD,rfl,rfl,ao,ap⟩:=TMesh.agg H;clear ao ap H Z ad ac;go_enter func169,ntmps169;go_upto_region 1 with fail;refine DY λal D=>?_;have T:=A_ D.b;have Y:=A_ D.k;clear D;obtain⟨E,-,O⟩:=bx Y;go_wp2_with fail;refine(B1u _ m _ xs ys al (X.below T) W).mono ?_;rintro _ aq ⟨rfl,G⟩;have h:=A_ (BH T G);have ak:=A_ (K_ Y G);clear E O G;obtain⟨E,-,O⟩:=bx ak;go_wp2_with fail;refine(C7m _ m _ A n c L bs aq (X.below h) (ag.below h) an W.t48 ai).mono ?_;rintro _ ar ⟨F,aB,az,am,rfl,ae,u,ab⟩;have aj:=A_ ae;have ah:=A_ (show Own w ar am from⟨u.1,λb aa=>⟨by have:=(u.2 b aa).1;have:=h.size;omega,(u.2 b aa).2⟩⟩);have af:=A_ (BH h ab);clear ae u ab E O;go_wp2;go_ret;exact⟨_,_,_,_,rfl,aj,ah,af⟩
theorem D8u (w:AD) (r:Option Nat):w.grownBy w r:=⟨rfl,rfl,rfl,CE _,λ_ _ _=>rfl⟩
theorem C2h {X w w':AD} {r:Option Nat} (h:X.grownBy w r) (hb:Bw w w'):X.grownBy w' r :=
 ⟨hb.os.trans h.os,hb.tape.trans h.tape,hb.output.trans h.output,CJ h.size hb.size,λk hk hn=>(hb.block k (Nat.lt_of_lt_of_le hk h.size)).trans (h.block k hk hn)⟩
theorem F2q {X w:AD} {g i:Nat} {v0:AU} (h:X.grownBy w (QZ g)):X.grownBy (w.setCell ⟨g,i,I⟩ v0) (QZ g) :=
 ⟨h.os,h.tape,h.output,by simpa using h.size,λb hb hn=>by
  have hne:b≠g:=λe=>hn (by rw[e])
  exact(GA _ _ _ b (by simpa using hne)).trans (h.block b hb hn)⟩
theorem D5s (v:AU) (m:TMesh) (b:List Nat) (a8:Option AJ) (h bp:Nat) (es:List TEdge) (b3:List Nat) (A:Option AJ) (n c:Nat) (L:List Int) (bs:List Nat) (R:List Bool) (br:Nat) (w:AD) (a4:Agg w v m b) (aW:Sl w a8 h bp es b3) (bu:Sl w A n c L bs) (b9:n<=144) (ca:h<=144) (bt:m.triangles.length<=48)
  (bE:∀ t∈m.triangles,B4h es t=AF) (bv:C8n es m.triangles br (B0a h L)=QZ R) :
  BL prog 231 #[v,S a8 h bp,S A n c] w (E5m w h R):=by
 have cq:=A_ a4;have bV:=A_ bE;have bP:=A_ aW;have bQ:=A_ bu;have bU:=A_ bv;obtain⟨cm,cJ,cu,cL,cn,n1,cv,cM,rfl,rfl,cb,aJ⟩:=TMesh.agg a4;have bW:=A_ aJ;have bX:=A_ aJ.1;have aS:=A_ aW.1;have cG:n1<=48:=by rw[<-aJ.1];exact bt
 have cH:(n1:Int)<=48:=oS;have cI:(h:Int)<=144:=oS;clear cb aJ a4 bu aW bE bt bv;go_enter func231,ntmps231;go_upto_region 1 with fail;refine DY λbn aV=>?_;have aP:=A_ aV.b;have bm:=A_ aV.k;clear aV;go_wp2_with fail;refine(B9r A n c L bs h bn (bQ.below aP) b9 ca).mono ?_;rintro _ an ⟨D,rfl,aE,aX⟩;have a5:=A_ (show BRow an w.1.size D h (B0a h L)from⟨aE.1,by
  obtain⟨cw,ak⟩:=aE;rcases ak with ak|⟨g,cap,b0,cc,cx,ak⟩;·exact .inl ak
  exact .inr ⟨g,cap,b0,cc,by have:=aP.size;omega,ak⟩⟩)
 have bL:=A_ (show bn.1.size<=D from(World.ownsRow.lt aE _ rfl).1);have ao:=A_ (BH aP aX);have aA:=A_ (K_ bm aX);have ay:=A_ (by have:=bL.o;have:=E_ bm;omega:w.1.size<D);clear aE aX;go_wp2_with fail;go_loopg [8] br (λg s8 wr=>∃ (M:List Bool) (ai:Bool),s8=J ai/\Hid ((ai=AF/\C8n es m.triangles g M=QZ R)\/(ai=AH/\M=R))/\Hid (BRow wr w.1.size D h M)/\Hid (an.grownBy wr (QZ D)));case atStart=>exact⟨B0a h L,AF,rfl,.inl ⟨rfl,bU⟩,a5,D8u _ _⟩
 case round =>
  clear a5;obtain⟨M,ai,rfl,af,aN,ax⟩:=hrel;have a7:=A_ (ao.grown ax ao.size (λk ac=>by injection ac with u;subst u;exact Nat.le_of_lt ay));have aT:=A_ (show wr.1[w.1.size]?=_ from(ax.block _ (E_ aA) (by intro e;injection e with e;have:=ay.o;omega)).trans aA.o);cases ai;·have bR:=A_ (show M=R from by rcases af with⟨u,_⟩|⟨_,u⟩;cases u;exact u);clear af;go_wp2;go_ret;exact⟨D,rfl,by rw[<-bR.o];exact aN,a7⟩
  obtain⟨g,rfl⟩:∃ g,gk=g+1:=by
   cases gk with
   |zero=>rcases af with⟨_,u⟩|⟨u,_⟩;cases u;cases u
   |succ g=>exact⟨g,rfl⟩
  have bN:=A_ (show C8n es m.triangles (g+1) M=QZ R from by rcases af with⟨_,u⟩|⟨u,_⟩;exact u;cases u);clear af;obtain⟨bq,-⟩:=B_ aT (j:=1) rfl;simp at bq;have cd:w.1.size<wr.1.size:=E_ aT;go_wp2_with fail;go_loopg [8,20] n1 (λg s8 s20 w2=>∃ k:Nat,k+g=n1/\s20=N RD k/\s8=J (B2o es m.triangles M k).2/\Hid (BRow w2 w.1.size D h (B2o es m.triangles M k).1)/\Hid (an.grownBy w2 (QZ D)));case atStart=>exact⟨0,oS,rfl,rfl,aN.o,ax.o⟩
  case round =>
   clear aN ax a7 aT bq cd;obtain⟨k,ac,rfl,rfl,Y,ae⟩:=hrel;rename AD=>w2;have a6:=A_ (ao.grown ae ao.size (λk ac=>by injection ac with u;subst u;exact Nat.le_of_lt ay));have bY:=A_ (show w2.1[w.1.size]?=_ from(ae.block _ (E_ aA) (by intro e;injection e with e;have:=ay.o;omega)).trans aA.o);have aB:=A_ (by have:=Y.1;simpa using this:(B2o es m.triangles M k).1.length=h);rcases CG k n1 with aI|aI
   ·have b8:(k:Int)<n1:=oS
    have cF:(0:Int)<=k:=oS;obtain⟨aj,rfl⟩:∃ g,gk=g+1:=⟨gk - 1,oS⟩
    have aH:=A_ (by omega:k+1+aj=n1);obtain⟨ct,cK,t,rfl,b4,a3,ce,cg,ch,ci,cj,bz⟩:=TTri.elemA (bW.below a6) aI;obtain⟨-,-,bF,bG,bH,-,-⟩:=TTri.agg bz;have bj:=A_ bF;have bk:=A_ bG;have bl:=A_ bH;have ab:=A_ (C7g (bV t (DH a3)));have aC:=A_ (by rw[B2o,A0e a3]:B2o es m.triangles M (k+1)=clT es t (B2o es m.triangles M k));clear ac aI a3 bz bF bG bH;generalize B2o es m.triangles M k=bZ at *;obtain⟨G,aD⟩:=bZ;simp only at Y aB ⊢;go_upto_region 8 with fail;refine DY λbo aU=>?_;have aQ:=A_ aU.b;have aa:=A_ aU.k;clear ce cg ch ci cj b4 aU;obtain⟨bx,aF⟩:∃ y,w2.1.size=y:=⟨_,rfl⟩
    have co:=A_ (by rw[<-aF];exact Y.lt:D<bx);rw[aF]at aa;simp only[aF];clear aF;have a9:=A_ ((bP.below a6).below aQ);have bK:=A_ (Y.below aQ);have bM:=A_ (C2h ae aQ);obtain⟨E,a1⟩:∃ j,A3z es (A2i t.b t.c)=j:=⟨_,rfl⟩
    obtain⟨aK,aY⟩:∃ j,A3z es (A2i t.a t.b)=j:=⟨_,rfl⟩
    obtain⟨aL,aZ⟩:∃ j,A3z es (A2i t.c t.a)=j:=⟨_,rfl⟩
    have bi:=A_ a1;have bg:=A_ aY;have bh:=A_ aZ;have b7:E<h:=by rw[<-a1,<-aS.o];exact B9y ab.1
    have b5:aK<h:=by rw[<-aY,<-aS.o];exact B9y ab.2.2
    have b6:aL<h:=by rw[<-aZ,<-aS.o];exact B9y ab.2.1
    have cE:(E:Int)<h:=oS;have cz:(aK:Int)<h:=oS;have cB:(aL:Int)<h:=oS;have cD:(0:Int)<=E:=oS;have cy:(0:Int)<=aK:=oS;have cA:(0:Int)<=aL:=oS;clear a1 aY aZ Y ae bY;obtain⟨bI,a2⟩:∃ x,G[E]?=QZ x:=⟨_,DU (by rw[aB.o];exact b7)⟩
    obtain⟨m1,hm1⟩:∃ x,G[aK]?=QZ x:=⟨_,DU (by rw[aB.o];exact b5)⟩
    obtain⟨m2,hm2⟩:∃ x,G[aL]?=QZ x:=⟨_,DU (by rw[aB.o];exact b6)⟩
    have az:=A_ a2;have bS:=A_ hm1;have bT:=A_ hm2;have aw:=A_ (show clT es t (G,aD)=if !bI&&(m1 || m2)then(G.set E AF,AF)else(G,aD) by unfold clT;simp only[bi.o,bg.o,bh.o,A0e a2,A0e hm1,A0e hm2]);clear a2 hm1 hm2;obtain⟨T,-⟩:=B_ aa (j:=0) rfl;obtain⟨W,-⟩:=B_ aa (j:=1) rfl;obtain⟨X,-⟩:=B_ aa (j:=2) rfl;simp at T W X;have al:bx<bo.1.size:=E_ aa;go_wp2_with fail;have H:=A2t _ _ _ es _ t.b t.c bo a9.o oS bk.o bl.o ab.o.1;rw[bi.o]at H;refine H.mono ?_;clear H;rintro _ wa ⟨rfl,bA⟩;have ap:=A_ bA;have ag:=A_ (K_ aa ap);have au:=A_ (bK.below ap);have bd:=A_ (C2h bM ap);have ba:=A_ (a9.below ap);clear bA T W X al;obtain⟨am,-⟩:=au.cell az;have aG:=au.lt;cases bI
    ·obtain⟨T,-⟩:=B_ ag (j:=0) rfl
     obtain⟨W,-⟩:=B_ ag (j:=1) rfl;obtain⟨X,-⟩:=B_ ag (j:=2) rfl;simp at T W X;have al:bx<wa.1.size:=E_ ag;go_wp2_with fail;have H:=A2t _ _ _ es _ t.a t.b wa ba.o oS bj.o bk.o ab.o.2.2;rw[bg.o]at H;refine H.mono ?_;clear H;rintro _ aM ⟨rfl,bB⟩;have aq:=A_ bB;have ah:=A_ (K_ ag aq);have Z:=A_ (au.below aq);have be:=A_ (C2h bd aq);have bc:=A_ (ba.below aq);clear bB T W X al am aG;obtain⟨am,-⟩:=Z.cell az;obtain⟨u1,-⟩:=Z.cell bS;have aG:=Z.lt;cases m1
     ·obtain⟨T,-⟩:=B_ ah (j:=0) rfl
      obtain⟨W,-⟩:=B_ ah (j:=1) rfl;obtain⟨X,-⟩:=B_ ah (j:=2) rfl;simp at T W X;have al:bx<aM.1.size:=E_ ah;go_wp2_with fail;have H:=A2t _ _ _ es _ t.c t.a aM bc.o oS bl.o bj.o ab.o.2.1;rw[bh.o]at H;refine H.mono ?_;clear H;rintro _ bJ ⟨rfl,bD⟩;have ar:=A_ bD;have cs:=A_ (K_ ah ar);have ad:=A_ (Z.below ar);have bf:=A_ (C2h be ar);have cp:=A_ (bc.below ar);clear bD T W X al am u1 aG;obtain⟨am,ck⟩:=ad.cell az;obtain⟨u2,-⟩:=ad.cell bT;have aG:=ad.lt;cases m2
      ·have O:=A_ (by rw[aC.o,aw.o];rfl:B2o es m.triangles M (k+1)=(G,aD))
       go_wp2_with fail;go_roundg aj;case measure=>omega
       case rel=>exact⟨k+1,aH.o,gN,by rw[O.o],by rw[O.o];exact ad,bf⟩
      have O:=A_ (by rw[aC.o,aw.o];rfl:B2o es m.triangles M (k+1)=(G.set E AF,AF));have aO:=A_ (show BRow (bJ.setCell ⟨D,E,I⟩ (J AF)) w.1.size D h (G.set E AF)from ad.set _ _);have aR:=A_ (show an.grownBy (bJ.setCell ⟨D,E,I⟩ (J AF)) (QZ D)from F2q bf);go_wp2_with fail;go_roundg aj;case measure=>omega
      case rel=>exact⟨k+1,aH.o,gN,by rw[O.o],by rw[O.o];exact aO,aR⟩
     obtain⟨am,ck⟩:=Z.cell az;have O:=A_ (by rw[aC.o,aw.o];rfl:B2o es m.triangles M (k+1)=(G.set E AF,AF));have aO:=A_ (show BRow (aM.setCell ⟨D,E,I⟩ (J AF)) w.1.size D h (G.set E AF)from Z.set _ _);have aR:=A_ (show an.grownBy (aM.setCell ⟨D,E,I⟩ (J AF)) (QZ D)from F2q be);go_wp2_with fail;go_roundg aj;case measure=>omega
     case rel=>exact⟨k+1,aH.o,gN,by rw[O.o],by rw[O.o];exact aO,aR⟩
    have O:=A_ (by rw[aC.o,aw.o];rfl:B2o es m.triangles M (k+1)=(G,aD));go_wp2_with fail;go_roundg aj;case measure=>omega
    case rel=>exact⟨k+1,aH.o,gN,by rw[O.o],by rw[O.o];exact au,bd⟩
   obtain rfl:k=n1:=oS;have b8:¬ ((k:Int)<k):=oS;have bO:=A_ (show(if (B2o es m.triangles M k).2 then C8n es m.triangles g (B2o es m.triangles M k).1 else QZ (B2o es m.triangles M k).1)=QZ R by have:=bN.o;rw[C8n,bX.o]at this;exact this);clear ac aI;go_wp2_with fail;go_roundg g;case measure=>omega
   case rel =>
    refine⟨(B2o es m.triangles M k).1,(B2o es m.triangles M k).2,rfl,?_,Y,ae⟩;have u:=bO.o;cases hh:(B2o es m.triangles M k).2;·rw[hh]at u;exact .inr ⟨rfl,by simpa using u⟩
    rw[hh]at u;exact .inl ⟨rfl,by simpa using u⟩
def D2p (n:Nat) (t:TTri):Bool:=(BQ (0<=t.a)&&BQ (t.a<n))&&((BQ (0<=t.b)&&BQ (t.b<n))&&(BQ (0<=t.c)&&BQ (t.c<n)))
theorem C7y {n:Nat} {t:TTri} (h:D2p n t=AF):A5v n t:=by
 unfold D2p at h;simp only[DJ,decide_eq_true_eq]at h;exact⟨h.1,h.2.1,h.2.2⟩
def D3a (xs ys:List Int) (a b:Int) (n:Nat):Bool:=(GE n).all λc=>BQ ((c:Int)=a) || (BQ ((c:Int)=b) || !A5t xs ys a b c)
theorem B8d {xs ys:List Int} {a b:Int} {n:Nat} (h:D3a xs ys a b n=AF):D9z xs ys a b n:=by
 intro c u;have:=CU.1 h c (JW.2 u);simp only[Bool.or_eq_true,decide_eq_true_eq,Bool.not_eq_true']at this;exact this
def E5k (xs ys:List Int) (n:Nat) (ts:List TTri):Bool :=
 (xs.all λx=>BQ (-100<=x)&&BQ (x<=100))&&((ys.all λx=>BQ (-100<=x)&&BQ (x<=100))&&(BQ (3<=n)&&(BQ (n<=40)&&(BQ (1<=ts.length)&&(BQ (ts.length<=48) &&
 ((ts.all λt=>D2p n t&&(inB 0 t.4 2&&(inB 0 t.5 60&&BQ (0<A5u xs ys t.a t.b t.c)))) &&
 (((GE ts.length).all λk=>(GE k).all λj=>B9s xs ys (ts.getD j ⟨0,0,0,0,0⟩) (ts.getD k ⟨0,0,0,0,0⟩) || B9s xs ys (ts.getD k ⟨0,0,0,0,0⟩) (ts.getD j ⟨0,0,0,0,0⟩)) &&
 (BQ (A4t n ts ts.length=DK n AF) &&
 ((ts.all λt=>D3a xs ys t.a t.b n&&(D3a xs ys t.b t.c n&&D3a xs ys t.c t.a n)) &&
 ((P_ ts).all λe=>(BQ (0<=e.a)&&BQ (e.a<n))&&(BQ (0<=e.b)&&BQ (e.b<n))))))))))))
theorem D8r {m:TMesh} {xs ys:List Int} {n:Nat} (ah:m.1.length=n) (ak:A6a xs->A6a ys->E5p m.1 xs ys) (aj:m.1.all A1b=AF) (ai:m.1.Nodup) (h:E5k xs ys n m.triangles=AF) :
  MeshI m xs ys/\∀ e∈P_ m.triangles,(0<=e.a/\e.a<m.1.length)/\(0<=e.b/\e.b<m.1.length):=by
 subst ah;unfold E5k at h;simp only[DJ,decide_eq_true_eq]at h;obtain⟨H,W,X,Y,Z,aa,ab,ac,ad,O,T⟩:=h;have E:A6a xs:=λx u=>by have:=CU.1 H x u;simpa using this
 have G:A6a ys:=λx u=>by have:=CU.1 W x u;simpa using this
 refine⟨⟨ak E G,E,G,X,Y,aj,ai,Z,aa,?_,?_,ad,?_⟩,?_⟩;·intro t b;have:=CU.1 ab t b;simp only[DJ,decide_eq_true_eq]at this;exact⟨C7y this.1,this.2.1,this.2.2.1,this.2.2.2⟩
 ·intro k t j s D af al;have ag:=(List.getElem?_eq_some_iff.1 D).1;have:=CU.1 (CU.1 ac k (JW.2 ag)) j (JW.2 af);rw[EH,EH,D,al]at this;simpa using this
 ·intro t b;have:=CU.1 O t b;simp only[DJ]at this;exact⟨B8d this.1,B8d this.2.1,B8d this.2.2⟩
 intro e ae;have:=CU.1 T e ae;simpa using this
def E3k (a b c:TPoint):Bool:=A7m [a,b,c]&&(J_ (A2y a b c)&&(!(A2y a b c).1.2.isEmpty&&((GE 3).all λi=>A1b (C9m a b c i)&&A1b (A5w a b c i))))
theorem D0i {a b c:TPoint} (h:E3k a b c=AF):GradOk a b c:=by
 unfold E3k at h;simp only[DJ,CU,JW,Bool.not_eq_true',List.isEmpty_eq_false_iff]at h;exact⟨h.1,h.2.1,h.2.2.1,λi u=>(h.2.2.2 i u).1,λi u=>(h.2.2.2 i u).2⟩
end Go.Proofs.YtjcanieccnljfaaGreat.X
