/- A part of the proof. -/
import Derived.Test.YtbhemnidcleaiaaGreatY17
set_option linter.constructorNameAsVariable false
set_option maxHeartbeats 16000000
set_option maxRecDepth 10000
namespace Go.Proofs.YtbhemnidcleaiaaGreat.X
open Go.RowKit Go.XB Go.XN Proofs.Tryz
structure EqD (p:TProblem) (fs:List TRat):Prop where
 tri:∀ t∈p.1.triangles,A5v p.1.1.length t/\(0<=t.4/\t.4<3)
 ok:p.1.1.all A1b=true
 n40:p.1.1.length<=40
 t48:p.1.triangles.length<=48
 sl:p.3.length=3
 fl:fs.length=(P_ p.1.triangles).length
 eq:∀ (k:Nat) (t:TTri),p.1.triangles[k]?=some t->(B7d p t).2.isEmpty=false/\D1y (P_ p.1.triangles) fs k=B7d p t
attribute [local go_sem] L_ Go.XB.opAt N_ M_ Region.wanted yielded
attribute [local simp] N_ M_ MP.eq MP.agg MP.aggS MP.aggN MP.sl MP.slbox MP.box A0r
theorem B6v (v:Value) (p:TProblem) (b:List Nat) (B:Option Addr) (n d:Nat) (X:List TRat) (a4:List Nat) (w:World) (am:Agg w v p b) (aL:Sl w B n d X a4) (aj:EqD p X) :
  Calls prog 108 #[v,.slice B n d] w (A0b w (.bool true)):=by
 have a1:=A_ am;have aU:=A_ aL;have H:=A_ aj;obtain⟨bl,bB,br,bF,bm,n1,bs,bG,bn,n2,bt,bH,bo,bD,c3,bI,rfl,rfl,aN,ae,a9,ba⟩:=TProblem.agg am;have aY:=A_ (TMesh.mkAgg (x:=p.1) aN ae);have aX:=A_ ae.1;have bv:n1<=48:=by rw[<-ae.1];exact aj.t48
 have bz:(n1:Int)<=48:=oM;clear aN ae a9 ba am aL aj;go_enter func108,ntmps108;go_wp2_with fail;refine Code.new λa3 ah=>?_;have aS:=A_ ah.b;have a2:=A_ ah.k;clear ah;go_loopg [11] n1 (λg s wr=>∃ k:Nat,k+g=n1/\s=.int .i64 k/\Hid (Bw a3 wr));case atStart=>exact⟨0,oM,rfl,Below.refl _ _⟩
 case round =>
  obtain⟨k,aM,rfl,aa⟩:=hrel;have T:=A_ (Below.next aS aa);have aD:=A_ (K_ a2 aa);rcases Nat.lt_or_ge k n1 with ad|ad
  ·have a7:(k:Int)<n1:=oM
   obtain⟨g,rfl⟩:∃ g,gk=g+1:=⟨gk - 1,oM⟩
   have a6:=A_ (by omega:k+1+g=n1);obtain⟨t,af⟩:∃ t,p.1.triangles[k]?=some t:=⟨_,List.getElem?_eq_getElem (by rw[aX.o];exact ad)⟩
   have aw:=A_ af;have az:=A_ (H.tri t (List.mem_of_getElem? af));have ay:=A_ (H.eq k t af);have aA:=A_ (a1.below T);have ax:=A_ (aY.below T);have aV:=A_ (aU.below T);obtain⟨ai,-,aO⟩:=bx aD;clear aM ad af;go_wp2_with fail;refine X_ sI ?_;dsimp only[List.dropLast,List.getLast,List.length];iterate 2 refine C_ _ ?_
   refine D_ (MP.aggS (E2o p t)) ?_ ?_;·intro G E D u h;obtain⟨K,O⟩:=F_ u;simp at h;refine G_ ?_;exact A7t (C1w _ p _ k t D (aA.below u) aw H.sl az.2)
   iterate 3 refine C_ _ ?_
   refine D_ (MP.sl (B5j p.1.1 t)) ?_ ?_;·intro G E D u h;obtain⟨K,O⟩:=F_ u;simp at h;refine G_ ?_;exact A1c (A6s _ p.1 _ k t D (ax.below u) aw az.1 H.ok H.n40 H.t48)
   refine D_ (MP.agg (A6c (Z_ p.1.1 t.a) (Z_ p.1.1 t.b) (Z_ p.1.1 t.c))) ?_ ?_;·intro G E D u h;obtain⟨K,O⟩:=F_ u;simp at h;obtain⟨⟨C,bc,cC,bu,aK⟩,_⟩:=h;obtain rfl:3=bc:=aK.1;refine G_ ?_;exact H_ (B3h C cC _ _ _ _ D aK)
   refine D_ (MP.agg (B7d p t)) ?_ ?_;·intro G E D u h;obtain⟨K,O⟩:=F_ u;simp at h;refine G_ ?_;obtain⟨⟨_,bJ,an⟩,ag⟩:=h;exact H_ (A0n _ _ (E2o p t) _ _ _ D an (by first|exact ag.1|exact ag.1.1))
   refine A1p #[.bool false,.slice none 0 0,.slice none 0 0] 35 ?_ ?_;·intro G E D u h;refine⟨gD,?_⟩;go_simp
   intro G E wa u h (ac:Hid _);simp at h;have be:=h.2.2.2.2.2.2.2.2.1;have bd:=h.2.2.2.2.2.2.2.2.2;obtain⟨⟨ab,-⟩,a8⟩:=be;obtain⟨⟨gb,bk,ao,S⟩,al⟩:=bd;obtain⟨aG,aP,aI,_,aH,aQ,aJ,_,aR,-,_,_⟩:=TRat.agg ab;rw[aR]at ab;rw[ao]at al;have ak:=(al gb sI).1;have ap:=A_ (show ∀ b∈E 8,b≠gb from λb Z e=>by have:=ac 8 9 dE dE dE b Z;rw[ao]at this;simp[e]at this);have aq:=A_ ab;have aB:=A_ S;have au:=A_ u;obtain⟨bf,bg⟩:=B_ S (j:=0) rfl;obtain⟨an,bh⟩:=B_ S (j:=1) rfl;obtain⟨ag,bi⟩:=B_ S (j:=2) rfl;have a5:gb<wa.1.size:=E_ S;generalize E 8=bE at *;clear h ac ab a8 al ao S u ai aO;go_upto_region 5 with fail;obtain⟨I,Y⟩:∃ I,I=((wa.setCell ⟨gb,0,none⟩ (.bool (B7d p t).1.1)).setCell ⟨gb,1,none⟩ (.slice aG aP aI)).setCell ⟨gb,2,none⟩ (.slice aH aQ aJ):=⟨_,rfl⟩
   have aC:∀ b,b≠gb->I.1[b]?=wa.1[b]?:=λb Z=>by rw[Y];exact A0p b Z
   have aF:=A_ (by rw[Y];exact A3g (A3g (A3g aB)):I.1[gb]?=some (.cells #[.bool (B7d p t).1.1,.slice aG aP aI,.slice aH aQ aJ] 35));have J:=A_ (by rw[Y];exact((au.setCell (p:=⟨gb,0,none⟩) ak _).setCell (p:=⟨gb,1,none⟩) ak _).setCell (p:=⟨gb,2,none⟩) ak _:Bw wr I);have ar:=A_ (aq.keep λb Z=>aC b (ap b Z));rw[<-Y];clear Y aC aR bk bf bg an bh ag bi a5 aB au aq ap;have bq:=A_ (aA.below J);have aZ:=A_ (ax.below J);have aW:=A_ (aV.below J);have aE:=A_ (K_ aD J);have bp:=A_ (Below.next T J);obtain⟨ai,-,-⟩:=bx aE;obtain⟨bj,-,-⟩:=bx aF;have aO:w.1.size<I.1.size:=E_ aE;have bA:gb<I.1.size:=E_ aF;refine X_ sI ?_;dsimp only[List.dropLast,List.getLast,List.length];refine C_ _ ?_;refine D_ (MP.eq (.bool true)) ?_ ?_;·intro G E D u h;obtain⟨K,O⟩:=F_ u;simp at h;refine G_ ?_;exact A0i (by have W:=A2p _ (B7d p t) _ D (ar.below u);rw[ay.o.1]at W;exact W)
   iterate 6 refine C_ _ ?_
   refine D_ (MP.agg (D1y (P_ p.1.triangles) X k)) ?_ ?_;·intro G E D u h;obtain⟨K,O⟩:=F_ u;simp at h;refine G_ ?_;exact H_ (D1a _ p.1 _ B n d X _ k D (aZ.below u) H.t48 (aW.below u) H.fl)
   refine C_ _ ?_;refine D_ (MP.eq (.bool true)) ?_ ?_;·intro G E D u h;obtain⟨K,O⟩:=F_ u;simp at h;refine G_ ?_;exact A0i (by have W:=A2s _ _ (D1y (P_ p.1.triangles) X k) (B7d p t) _ _ D (by first|exact h.1.1|exact h.1) (ar.o.below u);rw[decide_eq_true ay.o.2]at W;exact W)
   refine C_ _ ?_;intro G E bK u h (ac:Hid _);simp at h;go_simp;have aT:=A_ (aa.trans ((Below.next (J) u).mono aa.size));clear h ac ai bj;go_wp2_with fail;go_roundg g;case measure=>omega
   case rel=>exact⟨k+1,a6,gN,aT⟩
  obtain rfl:k=n1:=oM;have a7:¬ ((k:Int)<k):=oM;clear aM ad;go_wp2;go_ret;exact⟨rfl,T⟩
structure IndD (p:TProblem) (us fs:List TRat):Prop where
 lin:LinD p us
 fl:fs.length=(P_ p.1.triangles).length
 fo:fs.all J_=true
 si:∀ t∈p.1.triangles,D1h (P_ p.1.triangles) t
 ok:(C3k p us fs).any A2e=false
theorem B6p (p:TProblem) (us fs:List TRat):∀ k,(B3i p us fs k).length=k
 |0=>rfl
 |k+1=>by rw[B3i,List.length_append,B6p p us fs k];rfl
theorem C3o (v:Value) (p:TProblem) (b:List Nat) (B:Option Addr) (n d:Nat) (us:List TRat) (a9:List Nat) (aB:Option Addr) (m c:Nat) (E:List TRat) (es:List Nat) (w:World) (aG:Agg w v p b) (aF:Sl w B n d us a9) (ak:Sl w aB m c E es) (hi:IndD p us E) :
  Calls prog 109 #[v,.slice B n d,.slice aB m c] w (A0w w (C3k p us E)):=by
 have bR:=A_ aG;have bQ:=A_ aF;have bG:=A_ ak;have ao:=A_ hi;have I:=A_ hi.lin;have bK:=A_ (by rw[<-hi.lin.ul];exact aF.1.symm:n=p.1.1.length);obtain⟨cM,c1,cR,c6,cN,n1,cU,c7,cO,n2,cV,c8,cP,c2,c3,s3,rfl,rfl,bk,ay,ch,ci⟩:=TProblem.agg aG;have bJ:=A_ (TMesh.mkAgg (x:=p.1) bk ay);have aY:=A_ ay.1;have cZ:n1<=48:=by rw[<-ay.1];exact hi.lin.t48
 have c0:(n1:Int)<=48:=oM;obtain⟨cn,cd,cj,ck,cm⟩:=info_parts B2r;clear bk ay ch ci aG aF ak hi;go_enter func109,ntmps109;go_upto_region 1 with fail;refine Code.new λaq aC=>?_;have bz:=A_ aC.b;have ap:=A_ aC.k;have a4:=A_ (Pend.start (α:=TRat) (e:=35) bz);clear aC;obtain⟨S,-⟩:=B_ ap (j:=0) rfl;obtain⟨J,-⟩:=B_ ap (j:=1) rfl;simp at S J;have am:w.1.size<aq.1.size:=E_ ap;go_wp2_with fail;go_loopg [7,15] n1 (λg s3 s wr=>∃ (i gB cap:Nat),i+g=n1/\s=.int .i64 i/\s3=.slice (some ⟨gB,0,none⟩) i cap/\Hid (Pend w aq 35 wr gB i cap (B3i p us E i)));case atStart=>exact⟨0,aq.1.size,0,oM,rfl,rfl,a4.o⟩
 case round =>
  clear a4 S J am;obtain⟨k,gB,cap,bh,rfl,rfl,ah⟩:=hrel;have af:=A_ ah.bw;have ad:=A_ (K_ ap ah.bb);rcases Nat.lt_or_ge k n1 with aw|aw
  ·have cf:(k:Int)<n1:=oM
   obtain⟨g,rfl⟩:∃ g,gk=g+1:=⟨gk - 1,oM⟩
   have ce:=A_ (by omega:k+1+g=n1);have bA:=A_ (by unfold maxLen;omega:k+1<=maxLen);have bB:=A_ (by omega:(k+1)*56<=140737488355328);obtain⟨t,al⟩:∃ t,p.1.triangles[k]?=some t:=⟨_,List.getElem?_eq_getElem (by rw[aY.o];exact aw)⟩
   have ag:=A_ al;have ac:=A_ (I.tri t (List.mem_of_getElem? al));have bP:=A_ (ao.si t (List.mem_of_getElem? al));have bT:=A_ (show B3i p us E (k+1)=B3i p us E k++[D5o p us E k t] by rw[B3i,List.getD_eq_getElem?_getD,al];rfl);have a1:=A_ (bR.below af);have aU:=A_ (bJ.below af);have aZ:=A_ (bQ.below af);have bH:=A_ (bG.below af);obtain⟨S,-⟩:=B_ ad (j:=0) rfl;obtain⟨J,-⟩:=B_ ad (j:=1) rfl;obtain⟨Y,-⟩:=B_ ad (j:=2) rfl;obtain⟨Z,-⟩:=B_ ad (j:=3) rfl;simp at S J Y Z;have am:w.1.size<wr.1.size:=E_ ad;clear bh aw al;go_wp2_with fail;refine X_ sI ?_;dsimp only[List.dropLast,List.getLast,List.length];iterate 2 refine C_ _ ?_
   refine D_ (MP.aggS (B4w p t)) ?_ ?_;·intro H G D u h;obtain⟨aa,ab⟩:=F_ u;simp at h;refine G_ ?_;exact A7t (B1h _ p _ k t D (a1.below u) ag I.dl ac.2.1)
   iterate 4 refine C_ _ ?_
   refine D_ (MP.aggN (grT p us t)) ?_ ?_;·intro H G D u h;obtain⟨aa,ab⟩:=F_ u;simp at h;refine G_ ?_;exact B8i (B6z _ p.1 _ B n d us a9 k t D (aU.below u) (aZ.below u) ag ac.1 bK ac.2.2 I.uo I.ok I.n40 I.t48)
   refine D_ (MP.agg (B2e p us t)) ?_ ?_;·intro H G D u h;obtain⟨aa,ab⟩:=F_ u;simp at h;refine G_ ?_;obtain⟨⟨_,cx,ae⟩,T⟩:=h;exact H_ (A1n _ _ (B4w p t) (grT p us t) _ _ D ae (by first|exact T|exact T.1|exact T.1.1))
   refine A1p #[.bool false,.slice none 0 0,.slice none 0 0,.bool false,.slice none 0 0,.slice none 0 0] 38 ?_ ?_;·intro H G D u h;refine⟨gD,?_⟩;go_simp
   intro H G wa u h (au:Hid _);simp at h;have aI:=h.2.2.2.2.2.2.2.2.1;have aH:=h.2.2.2.2.2.2.2.2.2;obtain⟨⟨K,-⟩,ax⟩:=aI;obtain⟨⟨gb,bv,an,O⟩,aE⟩:=aH;obtain⟨bU,cs,bZ,_,bV,ct,b0,_,bW,cu,b3,_,bX,cv,b4,_,aA,-,_,_,_,_⟩:=TPoint.agg K;rw[aA]at K;rw[an]at aE;have ca:=(aE gb sI).1;have aM:=A_ (show ∀ b∈G 8,b≠gb from λb aj e=>by have:=au 8 9 dE dE dE b aj;rw[an]at this;simp[e]at this);have aO:=A_ K;have a2:=A_ O;have aP:=A_ u;obtain⟨cy,cz⟩:=B_ O (j:=0) rfl;obtain⟨ae,cA⟩:=B_ O (j:=1) rfl;obtain⟨T,cB⟩:=B_ O (j:=2) rfl;obtain⟨cE,cF⟩:=B_ O (j:=3) rfl;obtain⟨cG,cH⟩:=B_ O (j:=4) rfl;obtain⟨cI,cJ⟩:=B_ O (j:=5) rfl;have cc:gb<wa.1.size:=E_ O;generalize G 8=c5 at *;clear h au K ax aE an O u S J Y Z am;go_upto_region 6 with fail;obtain⟨a5,bg,bf,a3,bc,-⟩:=D6m (.bool (B2e p us t).x.1.1) (.slice bU cs bZ) (.slice bV ct b0) (.bool (B2e p us t).y.1.1) (.slice bW cu b3) (.slice bX cv b4) a2 aP ca;rw[bg];have X:=A_ bf;have W:=A_ bc;have bE:=A_ (aO.keep λb aj=>a3 b (aM b aj));clear bg a3 bf bc aA bv cy cz ae cA T cB cE cF cG cH cI cJ cc a2 aP aO aM;have bS:=A_ (a1.below W);have aV:=A_ (aU.below W);have cQ:=A_ (aZ.below W);have bI:=A_ (bH.below W);have ai:=A_ (K_ ad W);obtain⟨S,-⟩:=B_ ai (j:=0) rfl;obtain⟨J,-⟩:=B_ ai (j:=1) rfl;obtain⟨Y,-⟩:=B_ ai (j:=2) rfl;obtain⟨Z,-⟩:=B_ ai (j:=3) rfl;obtain⟨bo,-⟩:=B_ X (j:=0) rfl;obtain⟨bp,-⟩:=B_ X (j:=1) rfl;obtain⟨bq,-⟩:=B_ X (j:=2) rfl;obtain⟨br,-⟩:=B_ X (j:=3) rfl;obtain⟨bs,-⟩:=B_ X (j:=4) rfl;obtain⟨bt,-⟩:=B_ X (j:=5) rfl;simp at S J Y Z bo bp bq br bs bt;have am:w.1.size<a5.1.size:=E_ ai;have co:gb<a5.1.size:=E_ X;have aN:=A_ ac.2.2;refine W_ 17 kR kR kR kR kR ?_;simp only[List.take_succ_cons,List.take_zero,List.drop_succ_cons,List.drop_zero];iterate 4 refine C_ _ ?_
   refine D_ (MP.sl (B5j p.1.1 t)) ?_ ?_;·intro H G D u h;obtain⟨aa,ab⟩:=F_ u;simp at h;refine G_ ?_;exact A1c (A6s _ p.1 _ k t D (aV.below u) ag ac.1 I.ok I.n40 I.t48)
   iterate 4 refine C_ _ ?_
   refine D_ (MP.sl (A7o (P_ p.1.triangles) E k t)) ?_ ?_;·intro H G D u h;obtain⟨aa,ab⟩:=F_ u;simp at h;refine G_ ?_;exact A1c (C8a _ p.1 _ aB m c E _ k t D (aV.below u) I.t48 (bI.below u) ao.fl ag bP ao.fo)
   refine C_ _ ?_;refine D_ (MP.agg (C1a (Z_ p.1.1 t.a) (Z_ p.1.1 t.b) (Z_ p.1.1 t.c) (A7o (P_ p.1.triangles) E k t) (B2e p us t))) ?_ ?_;·intro H G D u h;obtain⟨aa,ab⟩:=F_ u;simp at h;obtain⟨⟨⟨C,cp,cC,cX,bd⟩,_⟩,⟨⟨bD,cq,cD,cY,be⟩,_⟩,_⟩:=h;obtain rfl:3=cp:=bd.1;obtain rfl:3=cq:=be.1;refine G_ ?_;exact H_ (C3h C cC _ _ _ _ bD cD _ _ _ (B2e p us t) _ D bd be (bE.below u) aN.d aN.d0)
   iterate 2 refine C_ _ ?_
   refine D_ (MP.aggS (B4w p t)) ?_ ?_;·intro H G D u h;obtain⟨aa,ab⟩:=F_ u;simp at h;refine G_ ?_;exact A7t (B1h _ p _ k t D (bS.below u) ag I.dl ac.2.1)
   refine D_ (MP.agg (D5o p us E k t)) ?_ ?_;·intro H G D u h;obtain⟨aa,ab⟩:=F_ u;simp at h;refine G_ ?_;obtain⟨ae,⟨_,cx,T⟩⟩:=h;exact H_ (A8m _ _ _ (B4w p t) _ _ D (by first|exact ae.1|exact ae.1.1) (by first|exact T|exact T.1))
   refine A1d (λbu=>MP.slbox (bu 15).cells 35) (by intro y bu ba;simp[N_,M_]at ba;simp[ba]) ?_ ?_;·intro H G D u h;simp at h;obtain⟨aK,bm,a6,b5,aL,bn,a7,b6,b7,_,_,_⟩:=TRat.agg h.1;refine⟨gD,.slice (some ⟨D.1.size,0,none⟩) 1 1,D.alloc (.cells (H 15).cells 35),?_,Below.box _,[D.1.size],⟨D.1.size,rfl,rfl,heap_alloc_new D _⟩,sI⟩;rw[b7];go_simp
   intro H G cL u h (au:Hid _);simp at h;have az:=h.1;have aI:=h.2.2.2.2.2.2.2.2.2.2.2.2.2.2.2.1;have aH:=h.2.2.2.2.2.2.2.2.2.2.2.2.2.2.2.2;obtain⟨⟨K,ak⟩,ax⟩:=aI;obtain⟨aK,bm,a6,b5,aL,bn,a7,b6,aA,-,_,_⟩:=TRat.agg K;obtain⟨⟨b8,bv,an,aD⟩,-⟩:=aH;rw[aA]at aD K;have aJ:=A_ (A3x K);have aR:=A_ ak;have aW:=A_ (show ∀ b∈G 15,wr.1.size<=b from λb aj=>by have:=(ax b aj).1;have:=W.size;omega);have aS:=A_ aD;have aQ:=A_ (show Bw wr cL from Below.next W u);have da:H 0=.slice (some ⟨gB,0,none⟩) k cap:=by first|exact az.1.1|exact az.1|exact az
   clear az;generalize G 15=cw at *;clear h au K ak ax aD an S J Y Z bo bp bq br bs bt am co u;go_wp2_with (at_builtin;refine A1v rfl _ _ 27 rfl 35 cn (.agg #[.bool false,.slice none 0 0,.slice none 0 0]) 56 underlying27 cd cj ck cm rfl ah aQ gD ⟨b8,0,none⟩ 1 [.bool (D5o p us E k t).1.1,.slice aK bm a6,.slice aL bn a7] (D5o p us E k t) cw gD (A0a aS) aJ aR aW bA bB ?_;intro g' a8 cK bj cb cg);have bN:=A_ (by rw[bT.o];exact bj:Pend w aq 35 cK g' (k+1) a8 (B3i p us E (k+1)));clear bj cb cg aJ aR aW ah aS aQ;go_wp2_with fail;go_roundg g;case measure=>omega
   case rel=>exact⟨k+1,g',a8,ce,gN,rfl,bN⟩
  obtain rfl:k=n1:=oM;have cf:¬ ((k:Int)<k):=oM;obtain⟨F,c4,cW,bY,e,bl,bi,b9⟩:=ah.done;injection e with e;injection e with J Y Z;subst J;subst Y;subst Z;have aT:=A_ (by rw[C3k,aY.o]:C3k p us E=B3i p us E k);have aX:=A_ bl;have bM:=A_ bi;clear bh aw bl bi b9;go_wp2_with fail;refine(A5p _ k cap (B3i p us E k) bY wr aX.o (by rw[<-aT.o];exact ao.ok)).mono ?_;rintro _ c9 ⟨rfl,ar⟩;have bO:=A_ (aX.below ar);have bL:=A_ (bM.below ar);have bF:=A_ (Below.next af ar);clear ar;go_wp2;go_ret;rw[aT.o];exact⟨_,_,_,_,rfl,bO,bL,bF⟩
theorem C3s (A:Option Addr) (n c:Nat) (es:List TEdge) (D:List Nat) (a b:Int) (w:World) (K:Sl w A n c es D) (Y:n<=65536) (E:I64 a) (G:I64 b) (I:A6o es (A2i a b)=false) :
  Calls prog 174 #[.slice A n c,.int .i64 a,.int .i64 b] w (A0b w (.int .i64 (-1))):=by
 have T:=A_ K;have O:=A_ I;have Z:=A_ E;have aa:=A_ G;obtain⟨u,J⟩:∃ u,min a b=u:=⟨_,rfl⟩
 obtain⟨h,H⟩:∃ h,max a b=h:=⟨_,rfl⟩
 have S:=A_ (by unfold A2i;rw[J,H]:A2i a b=⟨u,h,0,0⟩);have W:=A_ (show Agg w (.agg #[.int .i64 u,.int .i64 h,.int .i64 0,.int .i64 0]) (⟨u,h,0,0⟩:TEdge) []from TEdge.mkAgg (x:=⟨u,h,0,0⟩) (by show I64 u;rw[<-J];unfold I64 at *;omega) (by show I64 h;rw[<-H];unfold I64 at *;omega) (by show I64 0;constructor<;>decide) (by show I64 0;constructor<;>decide));clear K I E G;go_enter func174,ntmps174;go_wp2_with fail;have C:=B4a A n c es D _ ⟨u,h,0,0⟩ [] w T Y W;rw[<-S.o,O.o]at C;refine C.mono ?_;clear C;rintro _ ab ⟨rfl,X⟩;go_wp2;go_ret;exact⟨rfl,X⟩
structure MidC (w:World) (gE gM:Nat) (E:Option Addr) (n cE:Nat) (es:List TEdge) (eb:List Nat) (M:Option Addr) (cM:Nat) (ms:List Int) (mb:List Nat):Prop where
 kE:w.1[gE]?=some (.cells #[.slice E n cE] 42)
 kM:w.1[gM]?=some (.cells #[.slice M n cM] 31)
 sE:Sl w E n cE es eb
 sM:Sl w M n cM ms mb
 n144:n<=144
theorem MidC.below {w w':World} {gE gM:Nat} {E:Option Addr} {n cE:Nat} {es:List TEdge} {eb:List Nat} {M:Option Addr} {cM:Nat} {ms:List Int} {mb:List Nat} (h:MidC w gE gM E n cE es eb M cM ms mb) (hb:Bw w w'):MidC w' gE gM E n cE es eb M cM ms mb :=
 ⟨K_ h.kE hb,K_ h.kM hb,h.sE.below hb,h.sM.below hb,h.n144⟩
theorem E3i {es:List TEdge} {ms:List Int} {a b:Int} (h:A6o es (A2i a b)=false):A7f es ms a b = -1:=by unfold A7f;rw[h];rfl
theorem E1n {es:List TEdge} {ms:List Int} {a b:Int} (h:A6o es (A2i a b)=true):A7f es ms a b=ms.getD (A3z es (A2i a b)) 0:=by unfold A7f;rw[h];rfl
theorem E5l {es:List TEdge} {e:TEdge} (h:A6o es e=true):A3z es e<es.length:=by unfold A6o at h;simp at h;exact h.1
theorem D4f (O gM:Nat) (G:Option Addr) (n J:Nat) (es:List TEdge) (K:List Nat) (M:Option Addr) (af:Nat) (ms:List Int) (aj:List Nat) (a b:Int) (w:World) (D:MidC w O gM G n J es K M af ms aj) (Y:I64 a) (Z:I64 b) :
  Calls prog 173 #[.int .i64 a,.int .i64 b,.pointer (some ⟨O,0,none⟩),.pointer (some ⟨gM,0,none⟩)] w (A0b w (.int .i64 (A7f es ms a b))):=by
 have E:=A_ D;have S:=A_ Y;have T:=A_ Z;have W:=A_ D.n144;obtain⟨X,-⟩:=B_ D.kE (j:=0) rfl;have ai:O<w.1.size:=E_ D.kE;simp at X;clear D Y Z;go_enter func173,ntmps173;go_wp2_with fail;cases h:A6o es (A2i a b);·have H:=A_ (E3i (ms:=ms) h);refine(C3s G n J es K a b w E.sE (by have:=W.o;omega) S.o T.o h).mono ?_;rintro _ ab ⟨rfl,u⟩;clear h;go_wp2;go_ret;rw[H.o];exact⟨rfl,u⟩
 have H:=A_ (E1n (ms:=ms) h);have ad:=A_ (by have:=E5l h;rw[E.o.sE.1]at this;exact this:A3z es (A2i a b)<n);refine(A2t G n J es K a b w E.sE (by have:=W.o;omega) S.o T.o h).mono ?_;rintro _ ab ⟨rfl,u⟩;clear h X ai;generalize A3z es (A2i a b)=q at *;have ah:q<n:=ad.o;have an:(q:Int)<n:=oM;have I:=A_ (E.below u);obtain⟨al,ao,x,rfl,am,aa,ak,ap⟩:=Sl.getInt I.sM ah;have ae:=A_ (by rw[List.getD_eq_getElem?_getD,aa];rfl:ms.getD q 0=x);have ac:=A_ u;obtain⟨ag,-⟩:=B_ I.kM (j:=0) rfl;have l1:gM<ab.1.size:=E_ I.kM;simp at ag;clear aa ak u;go_wp2;go_ret;rw[H.o,ae.o];exact⟨rfl,ac⟩
def A7h (t:TTri):List Value:=[.int .i64 t.a,.int .i64 t.b,.int .i64 t.c,.int .i64 t.4,.int .i64 t.5]
def C2c (t:TTri):Prop:=I64 t.a/\I64 t.b/\I64 t.c/\I64 t.4/\I64 t.5
theorem D2e:(prog.info? 93).map (λi=>(i.zero,i.size,i.bytes))=some (some (.agg #[.int .i64 0,.int .i64 0,.int .i64 0,.int .i64 0,.int .i64 0]),5,40):=kR
def C7i (w:World) (ts:List TTri) (e:Ending) (w':World):Prop:=∃ g c,e=.returned (.slice (some ⟨g,0,none⟩) ts.length c)/\w'.ownsRow w.1.size 93 5 (.slice (some ⟨g,0,none⟩) ts.length c) ts.length (ts.flatMap A7h)/\(∀ t∈ts,C2c t)/\0<ts.length/\Bw w w'
theorem D5j (t:TTri) (x:Int) (w:World) (h:I64 (t.5+1)) :
  Calls prog 229 #[.agg #[.int .i64 t.a,.int .i64 t.b,.int .i64 t.c,.int .i64 t.4,.int .i64 t.5],.int .i64 x] w (λe w'=>e=.returned (.tuple #[.agg #[.int .i64 x,.int .i64 t.a,.int .i64 t.b,.int .i64 t.4,.int .i64 (t.5+1)],.agg #[.int .i64 x,.int .i64 t.c,.int .i64 t.a,.int .i64 t.4,.int .i64 (t.5+1)]])/\Bw w w'):=by
 have E:=A_ h;have u:=h.1;have D:=h.2;obtain⟨a,b,c,r,l⟩:=t;simp only at u D;clear h;go_enter func229,ntmps229;go_upto_region 1 with fail;have G:IntKind.wrap .i64 (l+1)=l+1:=IntWalk.i64_in _ ⟨u,D⟩;go_region_held3 (λw'=>w'.cell? ⟨w.1.size,0,none⟩=some (.int .i64 a)/\w'.cell? ⟨w.1.size,1,none⟩=some (.int .i64 b)/\w'.cell? ⟨w.1.size,2,none⟩=some (.int .i64 c)/\w'.cell? ⟨w.1.size,3,none⟩=some (.int .i64 r)/\w'.cell? ⟨w.1.size,4,none⟩=some (.int .i64 l)) (refine⟨?_,?_,?_,?_,?_⟩<;>(go_simp;done)) (fail);all_goals (go_upto_region 2 with fail)
 all_goals (go_region_held3 (λw'=>w'.cell? ⟨w.1.size,0,none⟩=some (.int .i64 a)/\w'.cell? ⟨w.1.size,1,none⟩=some (.int .i64 b)/\w'.cell? ⟨w.1.size,2,none⟩=some (.int .i64 c)/\w'.cell? ⟨w.1.size,3,none⟩=some (.int .i64 r)/\w'.cell? ⟨w.1.size,4,none⟩=some (.int .i64 l)) (refine⟨?_,?_,?_,?_,?_⟩<;>(go_simp;done)) (fail))
 all_goals (go_upto_region 3 with fail)
 all_goals (go_region_held3 (λw'=>w'.cell? ⟨w.1.size,0,none⟩=some (.int .i64 a)/\w'.cell? ⟨w.1.size,1,none⟩=some (.int .i64 b)/\w'.cell? ⟨w.1.size,2,none⟩=some (.int .i64 c)/\w'.cell? ⟨w.1.size,3,none⟩=some (.int .i64 r)/\w'.cell? ⟨w.1.size,4,none⟩=some (.int .i64 l)) (refine⟨?_,?_,?_,?_,?_⟩<;>(go_simp;done)) (fail))
 all_goals (go_upto_region 4 with fail)
 ·go_region_held3 (λw'=>w'.cell? ⟨w.1.size+1+1+1,0,none⟩=some (.int .i64 x)/\w'.cell? ⟨w.1.size+1+1+1,1,none⟩=some (.int .i64 a)/\w'.cell? ⟨w.1.size+1+1+1,2,none⟩=some (.int .i64 b)/\w'.cell? ⟨w.1.size+1+1+1,3,none⟩=some (.int .i64 r)/\w'.cell? ⟨w.1.size+1+1+1,4,none⟩=some (.int .i64 (l+1))/\w'.cell? ⟨w.1.size+1+1+1+1,0,none⟩=some (.int .i64 x)/\w'.cell? ⟨w.1.size+1+1+1+1,1,none⟩=some (.int .i64 c)/\w'.cell? ⟨w.1.size+1+1+1+1,2,none⟩=some (.int .i64 a)/\w'.cell? ⟨w.1.size+1+1+1+1,3,none⟩=some (.int .i64 r)/\w'.cell? ⟨w.1.size+1+1+1+1,4,none⟩=some (.int .i64 (l+1))) (refine⟨?_,?_,?_,?_,?_,?_,?_,?_,?_,?_⟩<;>(go_simp;done)) (fail);go_wp2;refine bodyPost_ret (v:=.tuple #[.agg #[.int .i64 x,.int .i64 a,.int .i64 b,.int .i64 r,.int .i64 (l+1)],.agg #[.int .i64 x,.int .i64 c,.int .i64 a,.int .i64 r,.int .i64 (l+1)]]) (by simp[results,results229,go_sem, *]) rfl ?_;refine⟨rfl,?_⟩;repeat (first|(with_reducible exact Below.refl _ _)|(with_reducible refine Below.drew ?_)|(with_reducible refine Below.box_ ?_ _))
 go_region_held3 (λw'=>w'.cell? ⟨w.1.size+1+1+1+1,0,none⟩=some (.int .i64 x)/\w'.cell? ⟨w.1.size+1+1+1+1,1,none⟩=some (.int .i64 a)/\w'.cell? ⟨w.1.size+1+1+1+1,2,none⟩=some (.int .i64 b)/\w'.cell? ⟨w.1.size+1+1+1+1,3,none⟩=some (.int .i64 r)/\w'.cell? ⟨w.1.size+1+1+1+1,4,none⟩=some (.int .i64 (l+1))/\w'.cell? ⟨w.1.size+1+1+1,0,none⟩=some (.int .i64 x)/\w'.cell? ⟨w.1.size+1+1+1,1,none⟩=some (.int .i64 c)/\w'.cell? ⟨w.1.size+1+1+1,2,none⟩=some (.int .i64 a)/\w'.cell? ⟨w.1.size+1+1+1,3,none⟩=some (.int .i64 r)/\w'.cell? ⟨w.1.size+1+1+1,4,none⟩=some (.int .i64 (l+1))) (refine⟨?_,?_,?_,?_,?_,?_,?_,?_,?_,?_⟩<;>(go_simp;done)) (fail);go_wp2;refine bodyPost_ret (v:=.tuple #[.agg #[.int .i64 x,.int .i64 a,.int .i64 b,.int .i64 r,.int .i64 (l+1)],.agg #[.int .i64 x,.int .i64 c,.int .i64 a,.int .i64 r,.int .i64 (l+1)]]) (by simp[results,results229,go_sem, *]) rfl ?_;refine⟨rfl,?_⟩;repeat (first|(with_reducible exact Below.refl _ _)|(with_reducible refine Below.drew ?_)|(with_reducible refine Below.box_ ?_ _))
theorem A9f {w:World} {base b:Nat} {e:TypeId} {size:Nat} {v:Value} {n:Nat} {xs:List Value} (h:w.ownsRow base e size v n xs) (H:b<=base):w.ownsRow b e size v n xs:=by
 obtain⟨D,E⟩:=h;refine⟨D,?_⟩;rcases E with G|⟨g',cap,u,J,I,r⟩;·exact .inl G
 exact .inr ⟨g',cap,u,J,Nat.le_trans H I,r⟩
theorem C5p {w:World} {base:Nat} {e:TypeId} {size:Nat} {v:Value} {n:Nat} {xs:List Value} (h:w.ownsRow base e size v n xs) (E:0<n):∃ g c,v=.slice (some ⟨g,0,none⟩) n c:=by
 rcases h.2 with⟨_,D⟩|⟨g',cap,u,b,_⟩;·omega
 exact⟨g',cap,b⟩
def MP.trow (base:Nat) (ts:List TTri):MP:=⟨λv bs w=>bs=[]/\∃ g c,v=.slice (some ⟨g,0,none⟩) ts.length c/\w.ownsRow base 93 5 (.slice (some ⟨g,0,none⟩) ts.length c) ts.length (ts.flatMap A7h),λ_ _ _ _ hb ⟨h0,g,c,h1,h2⟩=>⟨h0,g,c,h1,I_ h2 hb⟩⟩
theorem B3l (ts:List TTri):(ts.flatMap A7h).length=ts.length*5:=by
 induction ts with
 |nil=>rfl
 |cons t ts ih=>rw[List.flatMap_cons,List.length_append,ih,List.length_cons];show 5+_=_;omega
theorem C1s {ts:List TTri}:∀ u∈ts.flatMap A7h,u.oneCell'=true:=by
 intro u h;obtain⟨t,_,b⟩:=List.mem_flatMap.1 h;unfold A7h at b;simp at b;rcases b with rfl|rfl|rfl|rfl|rfl<;>rfl
theorem B1g (es:List TEdge) (ms:List Int):∀ (d:Nat) (t:TTri),0<(A6w es ms d t).length/\(A6w es ms d t).length<=2 ^ d
 |0,t=>⟨by simp[A6w],by simp[A6w]⟩
 |d+1,t=>by
  unfold A6w
  split
  ·exact⟨sI,by simpa using Nat.one_le_two_pow⟩
  have h1:=B1g es ms d (B7h t (A7f es ms t.b t.c));have h2:=B1g es ms d (B7k t (A7f es ms t.b t.c))
  rw[List.length_append,Nat.pow_succ];omega
theorem D9h {w:World} {M:Option Addr} {n c:Nat} {ms:List Int} {D:List Nat} (h:Sl w M n c ms D) (es:List TEdge) (a b:Int):I64 (A7f es ms a b):=by
 unfold A7f;split
 ·rw[List.getD_eq_getElem?_getD]
  cases u:ms[A3z es (A2i a b)]? with
  |none=>exact⟨dE,dE⟩
  |some x=>exact Sl.i64 h x (List.mem_of_getElem? u)
 exact⟨dE,dE⟩
theorem D2q {es:List TEdge} {ms:List Int} (hm:∀ a b,I64 (A7f es ms a b)):∀ (d:Nat) (t:TTri),C2c t->0<=t.5->t.5+d<=1000->∀ s∈A6w es ms d t,C2c s
 |0,t,ht,_,_=>λs hs=>by simp[A6w]at hs;subst hs;exact ht
 |d+1,t,ht,h0,h1=>λs hs=>by
  unfold A6w at hs
  split at hs
  ·simp at hs;subst hs;exact ht
  have hl:I64 (t.5+1):=⟨oM,oM⟩
  rcases List.mem_append.1 hs with h|h
  ·exact D2q hm d (B7h t (A7f es ms t.b t.c)) ⟨hm _ _,ht.1,ht.2.1,ht.2.2.2.1,hl⟩ (by show 0<=t.5+1;omega) (by show t.5+1+d<=1000;omega) s h
  exact D2q hm d (B7k t (A7f es ms t.b t.c)) ⟨hm _ _,ht.2.2.1,ht.1,ht.2.2.2.1,hl⟩ (by show 0<=t.5+1;omega) (by show t.5+1+d<=1000;omega) s h
theorem E5u {w:World} {base:Nat} {e:TypeId} {cs:List Value} {size:Nat} (hl:cs.length=size) (hb:base<=w.1.size):(w.alloc (.cells cs.toArray e)).ownsRow base e size (.slice (some ⟨w.1.size,0,none⟩) 1 1) 1 cs :=
 ⟨by rw[hl,Nat.one_mul],.inr ⟨w.1.size,1,cs.toArray,rfl,hb,heap_alloc_new w _,Nat.le_refl _,by unfold maxLen;decide,by simp[hl],by rw[Nat.one_mul,<-hl];simp⟩⟩
attribute [local simp] MP.trow
theorem B7j (T gM:Nat) (Y:Option Addr) (n ab:Nat) (es:List TEdge) (ad:List Nat) (M:Option Addr) (ac:Nat) (ms:List Int) (ah:List Nat) (t:TTri) (w:World) (h:MidC w T gM Y n ab es ad M ac ms ah) (ag:C2c t) (d:Nat) (aq:d<=2) (af:A7f es ms t.b t.c<0\/d=0) :
  Calls prog 175 #[.agg #[.int .i64 t.a,.int .i64 t.b,.int .i64 t.c,.int .i64 t.4,.int .i64 t.5],.func (.func 173) #[] #[.pointer (some ⟨T,0,none⟩),.pointer (some ⟨gM,0,none⟩)],.int .i64 d] w (C7i w [t]):=by
 have aj:=A_ af;have ar:(d:Int)<=2:=oM;clear af;have Z:=A_ h;obtain⟨az,au,aw,ax,ay⟩:=info_parts D2e;have S:=A_ ag;clear h ag;go_enter func175,ntmps175;go_upto_region 1 with fail;refine Code.new λaa O=>?_;have u:=A_ O.k;have W:=A_ O.b;clear O;obtain⟨I,-⟩:=B_ u (j:=1) rfl;obtain⟨J,-⟩:=B_ u (j:=2) rfl;simp at I J;have al:w.1.size<aa.1.size:=E_ u;go_wp2_with fail;refine(D4f T gM Y n ab es ad M ac ms ah t.b t.c aa (Z.below W) S.2.1 S.2.2.1).mono ?_;rintro _ H ⟨rfl,D⟩;have b:=A_ (K_ u D);have K:=A_ (Below.next W D);obtain⟨x,G⟩:∃ x,A7f es ms t.b t.c=x:=⟨_,rfl⟩
 have ai:=A_ G;have ap:=A_ (by rw[<-G];exact D9h Z.sM es _ _:I64 x);rw[G];clear D G I J al;obtain⟨am,-⟩:=B_ b (j:=0) rfl;obtain⟨I,-⟩:=B_ b (j:=1) rfl;obtain⟨J,-⟩:=B_ b (j:=2) rfl;obtain⟨an,-⟩:=B_ b (j:=3) rfl;obtain⟨ao,-⟩:=B_ b (j:=4) rfl;simp at am I J an ao;have l1:w.1.size<H.1.size:=E_ b
 have X:=A_ (show C7i w [t] (.returned (.slice (some ⟨H.1.size,0,none⟩) 1 1)) (H.alloc (.cells #[.int .i64 t.a,.int .i64 t.b,.int .i64 t.c,.int .i64 t.4,.int .i64 t.5] 93))from
  ⟨H.1.size,1,rfl,E5u (e:=93) (size:=5) (cs:=[.int .i64 t.a,.int .i64 t.b,.int .i64 t.c,.int .i64 t.4,.int .i64 t.5]) rfl K.o.size,λx h=>by simp at h;subst h;exact S.o,sI,K.o.alloc K.o.size _⟩)
 by_cases E:x<0;·have ak:decide (x<0)=true:=decide_eq_true E;clear E;go_wp2;go_ret;exact X
 have ak:decide (x<0)=false:=decide_eq_false E;have ae:(d:Int)=0:=by have:=aj.o;rw[ai.o]at this;omega
 have D:((d:Int)==0)=true:=by simp[ae]
 clear E ae;go_wp2;go_ret;exact X
theorem C8m (K gM:Nat) (Y:Option Addr) (n aa:Nat) (es:List TEdge) (ac:List Nat) (M:Option Addr) (ab:Nat) (ms:List Int) (ag:List Nat) (t:TTri) (w:World) (ae:MidC w K gM Y n aa es ac M ab ms ag) (ad:C2c t) (d:Nat) (aF:d<=2) (aG:0<=t.5/\t.5+d<=1000) :
  Calls prog 175 #[.agg #[.int .i64 t.a,.int .i64 t.b,.int .i64 t.c,.int .i64 t.4,.int .i64 t.5],.func (.func 173) #[] #[.pointer (some ⟨K,0,none⟩),.pointer (some ⟨gM,0,none⟩)],.int .i64 d] w (C7i w (A6w es ms d t)):=by
 induction d generalizing t w with
 |zero=>exact B7j K gM Y n aa es ac M ab ms ag t w ae ad 0 aF (.inr rfl)
 |succ d ih =>
 by_cases S:A7f es ms t.b t.c<0
 ·have e:A6w es ms (d+1) t=[t]:=by unfold A6w;rw[if_pos S]
  rw[e];exact B7j K gM Y n aa es ac M ab ms ag t w ae ad (d+1) aF (.inl S)
 have aj:=A_ (by rw[A6w,if_neg S]:A6w es ms (d+1) t=A6w es ms d (B7h t (A7f es ms t.b t.c))++A6w es ms d (B7k t (A7f es ms t.b t.c)));have aW:=A_ S;have ax:=A_ ih;have H:=A_ aG;have bj:(d:Int)<=1:=oM;have ai:=A_ (by omega:d<=2);have aH:I64 (t.5+1):=⟨oM,oM⟩
 have ak:=A_ aH;clear S ih aG aH;have J:=A_ ae;obtain⟨bc,a7,a8,a9,ba⟩:=info_parts D2e;have h:=A_ ad;clear ae ad;go_enter func175,ntmps175;go_upto_region 1 with fail;refine Code.new λaA ao=>?_;have Z:=A_ ao.k;have au:=A_ ao.b;clear ao;obtain⟨T,-⟩:=B_ Z (j:=1) rfl;obtain⟨X,-⟩:=B_ Z (j:=2) rfl;simp at T X;have bd:w.1.size<aA.1.size:=E_ Z;go_wp2_with fail;refine(D4f K gM Y n aa es ac M ab ms ag t.b t.c aA (J.below au) h.2.1 h.2.2.1).mono ?_;rintro _ aJ ⟨rfl,ap⟩;have G:=A_ (K_ Z ap);have aO:=A_ (Below.next au ap);obtain⟨x,af⟩:∃ x,A7f es ms t.b t.c=x:=⟨_,rfl⟩
 have aw:=A_ af;have aC:=A_ (by rw[<-af];exact D9h J.sM es _ _:I64 x);rw[af];clear ap af T X bd;obtain⟨aK,-⟩:=B_ G (j:=0) rfl;obtain⟨T,-⟩:=B_ G (j:=1) rfl;obtain⟨X,-⟩:=B_ G (j:=2) rfl;obtain⟨aL,-⟩:=B_ G (j:=3) rfl;obtain⟨ar,-⟩:=B_ G (j:=4) rfl;simp at aK T X aL ar;have l1:w.1.size<aJ.1.size:=E_ G;have bh:decide (x<0)=false:=decide_eq_false (by have:=aW.o;rw[aw.o]at this;omega);rw[aw.o]at aj;have bl:((d:Int)+1==0)=false:=sO;have bk:IntKind.wrap .i64 ((d:Int)+1 - 1)=d:=by rw[Int.add_sub_cancel];exact IntWalk.i64_in _ ⟨oM,oM⟩
 go_wp2_with fail;refine(D5j t x aJ ak).mono ?_;rintro _ E ⟨rfl,aE⟩;have ah:=A_ (Below.next aO aE);clear aE aK T X aL ar l1;go_upto_region 5 with fail;obtain⟨D,O⟩:∃ W,W=(E.alloc (.cells #[.int .i64 x,.int .i64 t.a,.int .i64 t.b,.int .i64 t.4,.int .i64 (t.5+1)] 93)).alloc (.cells #[.int .i64 x,.int .i64 t.c,.int .i64 t.a,.int .i64 t.4,.int .i64 (t.5+1)] 93):=⟨_,rfl⟩
 have aT:=A_ (by rw[O];exact K_ (heap_alloc_new E _) (Below.box _):D.1[E.1.size]?=some (.cells #[.int .i64 x,.int .i64 t.a,.int .i64 t.b,.int .i64 t.4,.int .i64 (t.5+1)] 93));have ay:=A_ (by rw[O];exact(by simpa using heap_alloc_new (E.alloc (.cells #[.int .i64 x,.int .i64 t.a,.int .i64 t.b,.int .i64 t.4,.int .i64 (t.5+1)] 93)) (.cells #[.int .i64 x,.int .i64 t.c,.int .i64 t.a,.int .i64 t.4,.int .i64 (t.5+1)] 93)):D.1[E.1.size+1]?=some (.cells #[.int .i64 x,.int .i64 t.c,.int .i64 t.a,.int .i64 t.4,.int .i64 (t.5+1)] 93));have I:=A_ (by rw[O];exact(ah.alloc ah.size _).alloc (by have:=ah.size;simp;omega) _:Bw w D);rw[<-O];clear O;obtain⟨a0,-,-⟩:=bx aT;obtain⟨aY,-,-⟩:=bx ay;have l2:E.1.size+1<D.1.size:=E_ ay;have be:E.1.size<D.1.size:=oM;refine W_ 10 kR kR kR kR kR ?_;simp only[List.take_succ_cons,List.take_zero,List.drop_succ_cons,List.drop_zero];iterate 4 refine C_ _ ?_
 refine D_ (MP.trow D.1.size (A6w es ms d (B7h t x))) ?_ ?_;·intro aM aN aq b u;obtain⟨a3,a5⟩:=F_ b;simp at u;refine G_ ?_;exact(ax (B7h t x) aq (((J.below I).below b)) ⟨aC,h.1,h.2.1,h.2.2.2.1,ak⟩ ai ⟨by have:=H.o;show 0<=t.5+1;omega,by have:=H.o;show t.5+1+d<=1000;omega⟩).mono λ_ _ ⟨g,c,he,ho,_,_,hb⟩=>⟨_,he,hb,[],⟨rfl,g,c,rfl,A9f ho b.size⟩,sI⟩
 iterate 4 refine C_ _ ?_
 refine D_ (MP.trow D.1.size (A6w es ms d (B7k t x))) ?_ ?_;·intro aM aN aq b u;obtain⟨a3,a5⟩:=F_ b;simp at u;refine G_ ?_;exact(ax (B7k t x) aq (((J.below I).below b)) ⟨aC,h.2.2.1,h.1,h.2.2.2.1,ak⟩ ai ⟨by have:=H.o;show 0<=t.5+1;omega,by have:=H.o;show t.5+1+d<=1000;omega⟩).mono λ_ _ ⟨g,c,he,ho,_,_,hb⟩=>⟨_,he,hb,[],⟨rfl,g,c,rfl,A9f ho b.size⟩,sI⟩
 intro aM aN wa b u (a4:Hid _);simp at u;have bf:=u.2.2.2.2.1;have bg:=u.2.2.2.2.2.2.2.2.2;obtain⟨⟨-,a2,aZ,ar,o1⟩,-⟩:=bf;obtain⟨⟨-,aD,a1,bn,o2⟩,-⟩:=bg;have O1:=A_ (A9f o1 I.size);have O2:=A_ (o2.cells (g:=aD) rfl);have aB:=A_ (show w.1.size<=wa.1.size from Nat.le_trans I.size b.size);have aQ:=A_ (Below.next I b);have aU:=B1g es ms d (B7h t x);have aV:=B1g es ms d (B7k t x);have P2:2 ^ d<=4:=by rcases d with _|_|_|d<;>first|decide|(exfalso;have:=ai.o;omega)
 have aR:=A_ (by unfold maxLen;omega:(A6w es ms d (B7h t x)).length+(A6w es ms d (B7k t x)).length<=maxLen);have aS:=A_ (by omega:((A6w es ms d (B7h t x)).length+(A6w es ms d (B7k t x)).length)*40<=140737488355328);have az:=A_ (D2q (es:=es) (ms:=ms) (λa aX=>D9h J.sM es a aX) (d+1) t h H.1 (by have:=H.o;push_cast;omega));have an:=A_ (B1g es ms (d+1) t).1;clear u a4 b o1 o2 aU aV P2 a0 aY l2 be;rw[aj.o]at az an ⊢;generalize A6w es ms d (B7h t x)=al at *;generalize A6w es ms d (B7k t x)=am at *;go_wp2_with (at_builtin;refine wpList_append_own _ rfl _ _ 24 rfl w.1.size 93 bc (.agg #[.int .i64 0,.int .i64 0,.int .i64 0,.int .i64 0,.int .i64 0]) 5 40 underlying24 a7 a8 a9 ba rfl dE (.slice (some ⟨a2,0,none⟩) al.length aZ) al.length (al.flatMap A7h) gD O1 ⟨aD,0,none⟩ am.length a1 (am.flatMap A7h) gD (B3l am) O2 C1s aR aS aB ?_;intro bm w3 aI a6 bi);have aP:=A_ (aQ.grown a6 aB (B0b O1));obtain⟨g,c,rfl⟩:=C5p aI (by have:=an.o;rwa [List.length_append]at this);go_wp2;go_ret;rw[aj.o];exact⟨g,c,by rw[List.length_append];rfl,by rw[List.length_append,List.flatMap_append];exact aI,az,an,aP⟩
theorem C7m {es:List TEdge} {t:TTri} (h:B4h es t=true):A6o es (A2i t.b t.c)=true/\A6o es (A2i t.c t.a)=true/\A6o es (A2i t.a t.b)=true:=by
 unfold B4h at h;simpa using h
theorem C5h (v:Value) (m:TMesh) (b:List Nat) (A:Option Addr) (n c:Nat) (L:List Int) (aO:List Nat) (w:World) (J:Agg w v m b) (aR:Sl w A n c L aO) (cu:n<=48) (ap:m.triangles.length<=48) (a1:∀ t∈m.triangles,B4h (P_ m.triangles) t=true) :
  Calls prog 115 #[v,.slice A n c] w (A0w w (A3d m.triangles L)):=by
 have bp:=A_ J;have aE:=A_ ap;have bg:=A_ aR;have bj:=A_ a1;obtain⟨b8,cG,cd,cJ,b9,n1,ce,cK,rfl,rfl,bP,T⟩:=TMesh.agg J;have bn:=A_ T;have bo:=A_ T.1;have cv:n1<=48:=by rw[<-T.1];exact ap
 have cw:(n1:Int)<=48:=oM;have aY:(P_ m.triangles).length<=144:=by unfold P_;have:=A5z m.triangles m.triangles.length;omega
 obtain⟨a4,bK,bQ,bR,bS⟩:=info_parts D1p;obtain⟨u,ac⟩:∃ u,P_ m.triangles=u:=⟨_,rfl⟩
 obtain⟨ks,af⟩:∃ ks,B4n m.triangles L=ks:=⟨_,rfl⟩
 have al:=A_ ac;have aI:=A_ af;have a9:=A_ (by rw[A3d,ac,af]:A3d m.triangles L=A9l (B4v m.triangles u ks ks.length));have bf:=A_ (show ∀ x∈ks,0<=x/\x<n1 by intro x J;rw[<-af]at J;have:=B8l J;rw[B0a,B1o,T.1]at this;exact this);rw[ac]at aY;clear bP T J aR a1 ac af ap;go_enter func115,ntmps115;go_upto_region 1 with fail;refine Code.new λbz an=>?_;have aB:=A_ an.b;have aK:=A_ an.k;clear an;obtain⟨S,-,X⟩:=bx aK;go_wp2_with fail;refine(A7q _ m _ bz (bp.below aB) aE).mono ?_;rintro _ h ⟨a8,D,bG,aQ,rfl,I,bO,aq⟩;rw[al.o]at I;have bk:=A_ I;have am:=A_ I.1;have cx:D<=144:=by rw[<-I.1];exact aY
 have cy:(D:Int)<=144:=oM;have b2:=A_ (by rw[bS];omega:a4.bytes*D<=281474976710656);have bA:=A_ (by unfold maxLen;omega:D<=maxLen);have az:=A_ (Below.next aB aq);have aL:=A_ (K_ aK aq);have cb:=A_ (show ∀ b∈aQ,b<h.1.size from I.lt);clear I bO aq S X;go_upto_region 3 with(at_make;(refine wpList_make_full _ rfl _ _ 129 rfl h.1.size 4 a4 (.bool false) 1 underlying129 bK bQ bR .i64 .i64 _ _ D rfl rfl rfl rfl b2 bA (Nat.le_refl _) ?_);intro w3 au aW)
 rw[B6q]at au;have Z:=(Below.refl h.1.size h).grown aW sI (by intro k ad;cases ad);have ah:=A_ (show BRow w3 h.1.size h.1.size D (B4v m.triangles u ks 0) by show BRow w3 h.1.size h.1.size D (List.replicate u.length false);rw[am.o];exact au);have aF:=A_ Z;have a5:=A_ (Below.next az Z);have br:=A_ (K_ aL Z);clear au aW Z;obtain⟨S,-,X⟩:=bx br;go_wp2_with fail;refine(B7g A n c L aO n1 w3 (bg.o.below a5.o) oM oM).mono ?_;rintro _ b0 ⟨cg,rfl,aV,aS⟩;obtain⟨bE,a2,-⟩:=aV.sl;have aJ:=A_ a2;have aG:=A_ aS;clear aV a2 aS S X;go_wp2_with fail;refine(C2x _ n1 n1 (B0a n1 L) bE b0 aJ.o oM).mono ?_;rintro _ b3 ⟨bq,E,aP,ao,rfl,W,aZ,aT⟩;rw[show A9l (B0a n1 L)=ks by rw[<-aI.o,B4n,bo.o]]at W;have bh:=A_ W.1;have cm:h.1.size<w3.1.size:=ah.lt;have be:=A_ (show ∀ b∈ao,b≠h.1.size from λb H=>by have:=(aZ.2 b H).1;have:=aG.size;omega);have O:=A_ W;have ai:=A_ (Below.next aG aT);have aA:=A_ (ah.below ai);have aD:=A_ (show Bw h b3 from aF.trans (ai.mono (by have:=aF.size;omega)));have cz:E<=48:=by rw[<-W.1,<-aI.o];unfold B4n A9l;have:=B4g (B0a m.triangles.length L) (B0a m.triangles.length L).length;have e:(B0a m.triangles.length L).length=m.triangles.length:=B1o _ _ _;have:=aE.o;omega
 have cA:(E:Int)<=48:=oM;clear W aZ aT ah aJ;go_wp2_with fail;go_loopg [21] E (λg s wr=>∃ k:Nat,k+g=E/\s=.int .i64 k/\Hid (BRow wr h.1.size h.1.size D (B4v m.triangles u ks k))/\Hid (Sl wr bq E aP ks ao)/\Hid (Bw h wr));case atStart=>exact⟨0,oM,rfl,aA.o,O.o,aD.o⟩
 case round =>
  clear aA O aD ai;obtain⟨k,ad,rfl,aj,O,K⟩:=hrel;have ak:=A_ (Below.next az K);have ct:=aj.lt;have bs:=A_ (K_ aL K);rcases Nat.lt_or_ge k E with ae|ae
  ·have bN:(k:Int)<E:=oM
   have cq:(0:Int)<=k:=oM;obtain⟨g,rfl⟩:∃ g,gk=g+1:=⟨gk - 1,oM⟩
   have bM:=A_ (by omega:k+1+g=E);obtain⟨bD,bU,x,rfl,ch,ay,bI,cn⟩:=B9i O ae;obtain⟨cB,cE⟩:=bf x (List.mem_of_getElem? ay);have bc:=A_ (show ks.getD k 0=x from A0e ay);obtain⟨cc,cI,t,rfl,ci,ax,bV,bW,bX,bY,bZ,bH⟩:=TTri.elemA (bn.o.below ak.o) (by omega:x.toNat<n1);obtain⟨-,-,cF,i2,bT,-,-⟩:=TTri.agg bH;have aN:=A_ (show I64 t.b/\I64 t.c from⟨i2,bT⟩);have aM:=A_ (C7m (bj t (List.mem_of_getElem? ax)));have bt:=A_ (show B4v m.triangles u ks (k+1)=(B4v m.triangles u ks k).set (A3z u (A2i t.b t.c)) true by rw[B4v,bc.o,A0e ax]);clear ad ae ay ax;have aa:=B9y aM.1;rw[al.o]at aa;have ca:=A_ aa;have aX:A3z u (A2i t.b t.c)<D:=by rw[<-am.o];exact aa
   obtain⟨j,ar⟩:∃ j,A3z u (A2i t.b t.c)=j:=⟨_,rfl⟩
   rw[ar]at aX;have aH:=A_ ar;have bL:j<(B4v m.triangles u ks k).length:=by rw[C5q,am.o];exact aX
   have cp:(j:Int)<D:=oM;have co:(0:Int)<=j:=oM;obtain⟨S,-,X⟩:=bx bs;have bu:=A_ (bk.below K);clear ar aa;go_wp2_with fail;refine X_ sI ?_;dsimp only[List.dropLast,List.getLast,List.length];iterate 14 refine C_ _ ?_
   refine D_ (MP.eq (.int .i64 j)) ?_ ?_;·intro b6 b7 b5 G ab;obtain⟨cj,ck⟩:=F_ G;simp at ab;refine G_ ?_;exact A0i (by have aC:=A2t a8 D bG u aQ t.b t.c b5 (bu.o.below G) oM aN.o.1 aN.o.2 (by have:=aM.o.1;rw[al.o]at this;exact this);rw[aH.o]at aC;exact aC)
   refine C_ _ ?_;intro b6 b7 wa G ab (bJ:Hid _);simp at ab;have Y:=aj.below G;obtain⟨cL,cM⟩:=Y.cell (j:=j) (f:=(B4v m.triangles u ks k).getD j false) (by rw[List.getD_eq_getElem?_getD,List.getElem?_eq_getElem bL];rfl);have cs:=Y.lt;have a7:=A_ (by rw[bt.o,aH.o];exact Y.set _ _:BRow (wa.setCell ⟨h.1.size,j,none⟩ (.bool true)) h.1.size h.1.size D (B4v m.triangles u ks (k+1)));have bd:=A_ (show Bw h (wa.setCell ⟨h.1.size,j,none⟩ (.bool true))from(K.trans (G.mono K.size)).setCell (p:=⟨h.1.size,j,none⟩) (Nat.le_refl _) _);have bv:=A_ (show Sl (wa.setCell ⟨h.1.size,j,none⟩ (.bool true)) (some ⟨bD,bU,none⟩) E aP ks ao from(O.o.below G).keep λb H=>Below.heap_setCell _ _ _ b (by simpa using be.o b H));go_simp;clear ab bJ S X bV bW bX bY bZ bI Y;go_wp2_with fail;go_roundg g;case measure=>omega
   case rel=>exact⟨k+1,bM,gN,a7,bv,bd⟩
  obtain rfl:k=E:=oM;have bN:¬ ((k:Int)<k):=oM;obtain⟨bF,a3,-⟩:=aj.sl;have bm:=A_ a3;have ba:=A_ (by rw[a9.o,bh.o]:A3d m.triangles L=A9l (B4v m.triangles u ks k));clear ad ae a3;go_wp2_with fail;refine(C2x _ D D (B4v m.triangles u ks k) bF wr bm.o oM).mono ?_;rintro _ b4 ⟨F,cH,cf,bB,rfl,aw,ag,aU⟩;rw[<-ba.o]at aw;have bl:=A_ aw;have bi:=A_ (show Own w b4 bB from⟨ag.1,λb H=>⟨by have:=(ag.2 b H).1;have:=ak.size;omega,(ag.2 b H).2⟩⟩);have a6:=A_ (Below.next ak aU);clear aw ag aU;go_wp2;go_ret;exact⟨_,_,_,_,rfl,bl,bi,a6⟩
theorem C6p (v:Value) (m:TMesh) (b:List Nat) (xs ys:List Int) (A:Option Addr) (n c:Nat) (L:List Int) (T:List Nat) (w:World) (H:Agg w v m b) (W:Sl w A n c L T) (ak:n<=48) (Z:MeshI m xs ys) (aa:∀ t∈m.triangles,B4h (P_ m.triangles) t=true) :
  Calls prog 53 #[v,.slice A n c] w (A0w w (A3d m.triangles L)):=by
 have O:=A_ H;have ad:=A_ W;have af:=A_ aa;have K:=A_ Z;obtain⟨ap,ax,ar,az,aq,n1,au,aA,rfl,rfl,al,am⟩:=TMesh.agg H;clear al am H W aa Z;go_enter func53,ntmps53;go_upto_region 1 with fail;refine Code.new λai D=>?_;have J:=A_ D.b;have S:=A_ D.k;clear D;obtain⟨E,-,I⟩:=bx S;go_wp2_with fail;refine(B1u _ m _ xs ys ai (O.below J) K).mono ?_;rintro _ an ⟨rfl,G⟩;have h:=A_ (Below.next J G);have ah:=A_ (K_ S G);clear E I G;obtain⟨E,-,I⟩:=bx ah;go_wp2_with fail;refine(C5h _ m _ A n c L T an (O.below h) (ad.below h) ak K.t48 af).mono ?_;rintro _ ao ⟨F,ay,aw,aj,rfl,ab,u,Y⟩;have ag:=A_ ab;have ae:=A_ (show Own w ao aj from⟨u.1,λb X=>⟨by have:=(u.2 b X).1;have:=h.size;omega,(u.2 b X).2⟩⟩);have ac:=A_ (Below.next h Y);clear ab u Y E I;go_wp2;go_ret;exact⟨_,_,_,_,rfl,ag,ae,ac⟩
theorem D4c (w:World) (r:Option Nat):w.grownBy w r:=⟨rfl,rfl,rfl,Nat.le_refl _,λ_ _ _=>rfl⟩
theorem C0f {X w w':World} {r:Option Nat} (h:X.grownBy w r) (hb:Bw w w'):X.grownBy w' r :=
 ⟨hb.os.trans h.os,hb.tape.trans h.tape,hb.output.trans h.output,Nat.le_trans h.size hb.size,λk hk hn=>(hb.block k (Nat.lt_of_lt_of_le hk h.size)).trans (h.block k hk hn)⟩
theorem E3n {X w:World} {g i:Nat} {v0:Value} (h:X.grownBy w (some g)):X.grownBy (w.setCell ⟨g,i,none⟩ v0) (some g) :=
 ⟨h.os,h.tape,h.output,by simpa using h.size,λb hb hn=>by
  have hne:b≠g:=λe=>hn (by rw[e])
  exact(Below.heap_setCell _ _ _ b (by simpa using hne)).trans (h.block b hb hn)⟩
theorem D5u (v:Value) (m:TMesh) (b:List Nat) (a6:Option Addr) (h bo:Nat) (es:List TEdge) (bY:List Nat) (A:Option Addr) (n c:Nat) (L:List Int) (bn:List Nat) (R:List Bool) (bq:Nat) (w:World) (a2:Agg w v m b) (aS:Sl w a6 h bo es bY) (bs:Sl w A n c L bn) (b6:n<=144) (b7:h<=144) (br:m.triangles.length<=48)
  (bB:∀ t∈m.triangles,B4h es t=true) (bt:C8n es m.triangles bq (B0a h L)=some R) :
  Calls prog 171 #[v,.slice a6 h bo,.slice A n c] w (E0a w h R):=by
 have cm:=A_ a2;have bS:=A_ bB;have bM:=A_ aS;have bN:=A_ bs;have bR:=A_ bt;obtain⟨ch,cG,cp,cI,ci,n1,cq,cJ,rfl,rfl,b8,aF⟩:=TMesh.agg a2;have bT:=A_ aF;have bU:=A_ aF.1;have aO:=A_ aS.1;have cB:n1<=48:=by rw[<-aF.1];exact br
 have cE:(n1:Int)<=48:=oM;have cF:(h:Int)<=144:=oM;clear b8 aF a2 bs aS bB br bt;go_enter func171,ntmps171;go_upto_region 1 with fail;refine Code.new λbl aR=>?_;have aL:=A_ aR.b;have bk:=A_ aR.k;clear aR;go_wp2_with fail;refine(B7g A n c L bn h bl (bN.below aL) b6 b7).mono ?_;rintro _ aj ⟨D,rfl,aA,aT⟩;have a3:=A_ (show BRow aj w.1.size D h (B0a h L)from⟨aA.1,by
  obtain⟨cs,ag⟩:=aA;rcases ag with ag|⟨g,cap,bX,b9,ct,ag⟩;·exact .inl ag
  exact .inr ⟨g,cap,bX,b9,by have:=aL.size;omega,ag⟩⟩)
 have bI:=A_ (show bl.1.size<=D from(World.ownsRow.lt aA _ rfl).1);have ak:=A_ (Below.next aL aT);have aw:=A_ (K_ bk aT);have ar:=A_ (by have:=bI.o;have:=E_ bk;omega:w.1.size<D);clear aA aT;go_wp2_with fail;go_loopg [8] bq (λg s8 wr=>∃ (M:List Bool) (ae:Bool),s8=.bool ae/\Hid ((ae=true/\C8n es m.triangles g M=some R)\/(ae=false/\M=R))/\Hid (BRow wr w.1.size D h M)/\Hid (aj.grownBy wr (some D)));case atStart=>exact⟨B0a h L,true,rfl,.inl ⟨rfl,bR⟩,a3,D4c _ _⟩
 case round =>
  clear a3;obtain⟨M,ae,rfl,ab,aJ,aq⟩:=hrel;have a5:=A_ (ak.grown aq ak.size (λk Y=>by injection Y with u;subst u;exact Nat.le_of_lt ar));have aP:=A_ (show wr.1[w.1.size]?=_ from(aq.block _ (E_ aw) (by intro e;injection e with e;have:=ar.o;omega)).trans aw.o);cases ae;·have bO:=A_ (show M=R from by rcases ab with⟨u,_⟩|⟨_,u⟩;cases u;exact u);clear ab;go_wp2;go_ret;exact⟨D,rfl,by rw[<-bO.o];exact aJ,a5⟩
  obtain⟨g,rfl⟩:∃ g,gk=g+1:=by
   cases gk with
   |zero=>rcases ab with⟨_,u⟩|⟨u,_⟩;cases u;cases u
   |succ g=>exact⟨g,rfl⟩
  have bK:=A_ (show C8n es m.triangles (g+1) M=some R from by rcases ab with⟨_,u⟩|⟨u,_⟩;exact u;cases u);clear ab;obtain⟨bp,-⟩:=B_ aP (j:=1) rfl;simp at bp;have ca:w.1.size<wr.1.size:=E_ aP;go_wp2_with fail;go_loopg [8,20] n1 (λg s8 s20 w2=>∃ k:Nat,k+g=n1/\s20=.int .i64 k/\s8=.bool (B2o es m.triangles M k).2/\Hid (BRow w2 w.1.size D h (B2o es m.triangles M k).1)/\Hid (aj.grownBy w2 (some D)));case atStart=>exact⟨0,oM,rfl,rfl,aJ.o,aq.o⟩
  case round =>
   clear aJ aq a5 aP bp ca;obtain⟨k,Y,rfl,rfl,S,aa⟩:=hrel;rename World=>w2;have a4:=A_ (ak.grown aa ak.size (λk Y=>by injection Y with u;subst u;exact Nat.le_of_lt ar));have bV:=A_ (show w2.1[w.1.size]?=_ from(aa.block _ (E_ aw) (by intro e;injection e with e;have:=ar.o;omega)).trans aw.o);have ax:=A_ (by have:=S.1;simpa using this:(B2o es m.triangles M k).1.length=h);rcases Nat.lt_or_ge k n1 with aE|aE
   ·have b5:(k:Int)<n1:=oM
    have cA:(0:Int)<=k:=oM;obtain⟨af,rfl⟩:∃ g,gk=g+1:=⟨gk - 1,oM⟩
    have aD:=A_ (by omega:k+1+af=n1);obtain⟨co,cH,t,rfl,bZ,a1,cb,cc,cd,ce,cf,bu⟩:=TTri.elemA (bT.below a4) aE;obtain⟨-,-,bD,i2,bE,-,-⟩:=TTri.agg bu;have bh:=A_ bD;have bi:=A_ i2;have bj:=A_ bE;have X:=A_ (C7m (bS t (List.mem_of_getElem? a1)));have ay:=A_ (by rw[B2o,A0e a1]:B2o es m.triangles M (k+1)=clT es t (B2o es m.triangles M k));clear Y aE a1 bu bD i2 bE;generalize B2o es m.triangles M k=bW at *;obtain⟨G,az⟩:=bW;simp only at S ax ⊢;go_upto_region 8 with fail;refine Code.new λbm aQ=>?_;have aM:=A_ aQ.b;have W:=A_ aQ.k;clear cb cc cd ce cf bZ aQ;obtain⟨bx,aB⟩:∃ y,w2.1.size=y:=⟨_,rfl⟩
    have cj:=A_ (by rw[<-aB];exact S.lt:D<bx);rw[aB]at W;simp only[aB];clear aB;have a7:=A_ ((bM.below a4).below aM);have bH:=A_ (S.below aM);have bJ:=A_ (C0f aa aM);obtain⟨E,aW⟩:∃ j,A3z es (A2i t.b t.c)=j:=⟨_,rfl⟩
    obtain⟨aG,aU⟩:∃ j,A3z es (A2i t.a t.b)=j:=⟨_,rfl⟩
    obtain⟨aH,aV⟩:∃ j,A3z es (A2i t.c t.a)=j:=⟨_,rfl⟩
    have bg:=A_ aW;have be:=A_ aU;have bf:=A_ aV;have b4:E<h:=by rw[<-aW,<-aO.o];exact B9y X.1
    have b0:aG<h:=by rw[<-aU,<-aO.o];exact B9y X.2.2
    have b3:aH<h:=by rw[<-aV,<-aO.o];exact B9y X.2.1
    have cz:(E:Int)<h:=oM;have cv:(aG:Int)<h:=oM;have cx:(aH:Int)<h:=oM;have cy:(0:Int)<=E:=oM;have cu:(0:Int)<=aG:=oM;have cw:(0:Int)<=aH:=oM;clear aW aU aV S aa bV;obtain⟨bF,aZ⟩:∃ x,G[E]?=some x:=⟨_,List.getElem?_eq_getElem (by rw[ax.o];exact b4)⟩
    obtain⟨m1,aX⟩:∃ x,G[aG]?=some x:=⟨_,List.getElem?_eq_getElem (by rw[ax.o];exact b0)⟩
    obtain⟨m2,aY⟩:∃ x,G[aH]?=some x:=⟨_,List.getElem?_eq_getElem (by rw[ax.o];exact b3)⟩
    have au:=A_ aZ;have bP:=A_ aX;have bQ:=A_ aY;have ap:=A_ (show clT es t (G,az)=if !bF&&(m1 || m2)then(G.set E true,true)else(G,az) by unfold clT;simp only[bg.o,be.o,bf.o,A0e aZ,A0e aX,A0e aY]);clear aZ aX aY;obtain⟨J,-⟩:=B_ W (j:=0) rfl;obtain⟨K,-⟩:=B_ W (j:=1) rfl;obtain⟨O,-⟩:=B_ W (j:=2) rfl;simp at J K O;have ah:bx<bm.1.size:=E_ W;go_wp2_with fail;have H:=A2t _ _ _ es _ t.b t.c bm a7.o oM bi.o bj.o X.o.1;rw[bg.o]at H;refine H.mono ?_;clear H;rintro _ wa ⟨rfl,bv⟩;have al:=A_ bv;have ac:=A_ (K_ W al);have ao:=A_ (bH.below al);have ba:=A_ (C0f bJ al);have a8:=A_ (a7.below al);clear bv J K O ah;obtain⟨ai,-⟩:=ao.cell au;have aC:=ao.lt;cases bF
    ·obtain⟨J,-⟩:=B_ ac (j:=0) rfl
     obtain⟨K,-⟩:=B_ ac (j:=1) rfl;obtain⟨O,-⟩:=B_ ac (j:=2) rfl;simp at J K O;have ah:bx<wa.1.size:=E_ ac;go_wp2_with fail;have H:=A2t _ _ _ es _ t.a t.b wa a8.o oM bh.o bi.o X.o.2.2;rw[be.o]at H;refine H.mono ?_;clear H;rintro _ aI ⟨rfl,bz⟩;have am:=A_ bz;have ad:=A_ (K_ ac am);have T:=A_ (ao.below am);have bc:=A_ (C0f ba am);have a9:=A_ (a8.below am);clear bz J K O ah ai aC;obtain⟨ai,-⟩:=T.cell au;obtain⟨u1,-⟩:=T.cell bP;have aC:=T.lt;cases m1
     ·obtain⟨J,-⟩:=B_ ad (j:=0) rfl
      obtain⟨K,-⟩:=B_ ad (j:=1) rfl;obtain⟨O,-⟩:=B_ ad (j:=2) rfl;simp at J K O;have ah:bx<aI.1.size:=E_ ad;go_wp2_with fail;have H:=A2t _ _ _ es _ t.c t.a aI a9.o oM bj.o bh.o X.o.2.1;rw[bf.o]at H;refine H.mono ?_;clear H;rintro _ bG ⟨rfl,bA⟩;have an:=A_ bA;have cn:=A_ (K_ ad an);have Z:=A_ (T.below an);have bd:=A_ (C0f bc an);have ck:=A_ (a9.below an);clear bA J K O ah ai u1 aC;obtain⟨ai,cg⟩:=Z.cell au;obtain⟨u2,-⟩:=Z.cell bQ;have aC:=Z.lt;cases m2
      ·have I:=A_ (by rw[ay.o,ap.o];rfl:B2o es m.triangles M (k+1)=(G,az))
       go_wp2_with fail;go_roundg af;case measure=>omega
       case rel=>exact⟨k+1,aD.o,gN,by rw[I.o],by rw[I.o];exact Z,bd⟩
      have I:=A_ (by rw[ay.o,ap.o];rfl:B2o es m.triangles M (k+1)=(G.set E true,true));have aK:=A_ (show BRow (bG.setCell ⟨D,E,none⟩ (.bool true)) w.1.size D h (G.set E true)from Z.set _ _);have aN:=A_ (show aj.grownBy (bG.setCell ⟨D,E,none⟩ (.bool true)) (some D)from E3n bd);go_wp2_with fail;go_roundg af;case measure=>omega
      case rel=>exact⟨k+1,aD.o,gN,by rw[I.o],by rw[I.o];exact aK,aN⟩
     obtain⟨ai,cg⟩:=T.cell au;have I:=A_ (by rw[ay.o,ap.o];rfl:B2o es m.triangles M (k+1)=(G.set E true,true));have aK:=A_ (show BRow (aI.setCell ⟨D,E,none⟩ (.bool true)) w.1.size D h (G.set E true)from T.set _ _);have aN:=A_ (show aj.grownBy (aI.setCell ⟨D,E,none⟩ (.bool true)) (some D)from E3n bc);go_wp2_with fail;go_roundg af;case measure=>omega
     case rel=>exact⟨k+1,aD.o,gN,by rw[I.o],by rw[I.o];exact aK,aN⟩
    have I:=A_ (by rw[ay.o,ap.o];rfl:B2o es m.triangles M (k+1)=(G,az));go_wp2_with fail;go_roundg af;case measure=>omega
    case rel=>exact⟨k+1,aD.o,gN,by rw[I.o],by rw[I.o];exact ao,ba⟩
   obtain rfl:k=n1:=oM;have b5:¬ ((k:Int)<k):=oM;have bL:=A_ (show(if (B2o es m.triangles M k).2 then C8n es m.triangles g (B2o es m.triangles M k).1 else some (B2o es m.triangles M k).1)=some R by have:=bK.o;rw[C8n,bU.o]at this;exact this);clear Y aE;go_wp2_with fail;go_roundg g;case measure=>omega
   case rel =>
    refine⟨(B2o es m.triangles M k).1,(B2o es m.triangles M k).2,rfl,?_,S,aa⟩;have u:=bL.o;cases hh:(B2o es m.triangles M k).2;·rw[hh]at u;exact .inr ⟨rfl,by simpa using u⟩
    rw[hh]at u;exact .inl ⟨rfl,by simpa using u⟩
def D2p (n:Nat) (t:TTri):Bool:=(decide (0<=t.a)&&decide (t.a<n))&&((decide (0<=t.b)&&decide (t.b<n))&&(decide (0<=t.c)&&decide (t.c<n)))
theorem C7y {n:Nat} {t:TTri} (h:D2p n t=true):A5v n t:=by
 unfold D2p at h;simp only[Bool.and_eq_true,decide_eq_true_eq]at h;exact⟨h.1,h.2.1,h.2.2⟩
def D3a (xs ys:List Int) (a b:Int) (n:Nat):Bool:=(List.range n).all λc=>decide ((c:Int)=a) || (decide ((c:Int)=b) || !A5t xs ys a b c)
theorem B8d {xs ys:List Int} {a b:Int} {n:Nat} (h:D3a xs ys a b n=true):D9z xs ys a b n:=by
 intro c u;have:=List.all_eq_true.1 h c (List.mem_range.2 u);simp only[Bool.or_eq_true,decide_eq_true_eq,Bool.not_eq_true']at this;exact this
def E5k (xs ys:List Int) (n:Nat) (ts:List TTri):Bool :=
 (xs.all λx=>decide (-100<=x)&&decide (x<=100))&&((ys.all λx=>decide (-100<=x)&&decide (x<=100))&&(decide (3<=n)&&(decide (n<=40)&&(decide (1<=ts.length)&&(decide (ts.length<=48) &&
 ((ts.all λt=>D2p n t&&(inB 0 t.4 2&&(inB 0 t.5 60&&decide (0<A5u xs ys t.a t.b t.c)))) &&
 (((List.range ts.length).all λk=>(List.range k).all λj=>B9s xs ys (ts.getD j ⟨0,0,0,0,0⟩) (ts.getD k ⟨0,0,0,0,0⟩) || B9s xs ys (ts.getD k ⟨0,0,0,0,0⟩) (ts.getD j ⟨0,0,0,0,0⟩)) &&
 (decide (A4t n ts ts.length=List.replicate n true) &&
 ((ts.all λt=>D3a xs ys t.a t.b n&&(D3a xs ys t.b t.c n&&D3a xs ys t.c t.a n)) &&
 ((P_ ts).all λe=>(decide (0<=e.a)&&decide (e.a<n))&&(decide (0<=e.b)&&decide (e.b<n))))))))))))
theorem D8r {m:TMesh} {xs ys:List Int} {n:Nat} (ad:m.1.length=n) (ag:A6a xs->A6a ys->E5p m.1 xs ys) (af:m.1.all A1b=true) (ae:m.1.Nodup) (h:E5k xs ys n m.triangles=true) :
  MeshI m xs ys/\∀ e∈P_ m.triangles,(0<=e.a/\e.a<m.1.length)/\(0<=e.b/\e.b<m.1.length):=by
 subst ad;unfold E5k at h;simp only[Bool.and_eq_true,decide_eq_true_eq]at h;obtain⟨H,K,O,S,T,W,X,Y,Z,I,J⟩:=h;have E:A6a xs:=λx u=>by have:=List.all_eq_true.1 H x u;simpa using this
 have G:A6a ys:=λx u=>by have:=List.all_eq_true.1 K x u;simpa using this
 refine⟨⟨ag E G,E,G,O,S,af,ae,T,W,?_,?_,Z,?_⟩,?_⟩;·intro t b;have:=List.all_eq_true.1 X t b;simp only[Bool.and_eq_true,decide_eq_true_eq]at this;exact⟨C7y this.1,this.2.1,this.2.2.1,this.2.2.2⟩
 ·intro k t j s D ab ah;have ac:=(List.getElem?_eq_some_iff.1 D).1;have:=List.all_eq_true.1 (List.all_eq_true.1 Y k (List.mem_range.2 ac)) j (List.mem_range.2 ab);rw[List.getD_eq_getElem?_getD,List.getD_eq_getElem?_getD,D,ah]at this;simpa using this
 ·intro t b;have:=List.all_eq_true.1 I t b;simp only[Bool.and_eq_true]at this;exact⟨B8d this.1,B8d this.2.1,B8d this.2.2⟩
 intro e aa;have:=List.all_eq_true.1 J e aa;simpa using this
def E3k (a b c:TPoint):Bool:=A7m [a,b,c]&&(J_ (A2y a b c)&&(!(A2y a b c).1.2.isEmpty&&((List.range 3).all λi=>A1b (C9m a b c i)&&A1b (A5w a b c i))))
theorem D0i {a b c:TPoint} (h:E3k a b c=true):GradOk a b c:=by
 unfold E3k at h;simp only[Bool.and_eq_true,List.all_eq_true,List.mem_range,Bool.not_eq_true',List.isEmpty_eq_false_iff]at h;exact⟨h.1,h.2.1,h.2.2.1,λi u=>(h.2.2.2 i u).1,λi u=>(h.2.2.2 i u).2⟩
end Go.Proofs.YtbhemnidcleaiaaGreat.X
