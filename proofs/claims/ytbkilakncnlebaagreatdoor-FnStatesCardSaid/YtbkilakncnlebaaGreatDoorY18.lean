/- A part of the proof. -/
import Derived.Test.YtbkilakncnlebaaGreatDoorY17
set_option linter.constructorNameAsVariable false
set_option maxHeartbeats 16000000
set_option maxRecDepth 10000
open Bool renaming and_eq_true→CK,false→AF,true→AD
open Decidable renaming decide→AU
open Go renaming Calls→AR,Value→AJ,World→J
open Go.Code renaming new→DH
open Go.IntKind renaming i64→K
open Go.Value renaming bool→AC,int→N,slice→S
open Go.XB.Below renaming next→AI
open List renaming all_eq_true→BJ,dropLast→DJ,drop_zero→EH,getD_eq_getElem?_getD→DY,getElem?_eq_getElem→CV,getLast→DK,length→DI,length_append→EF,mem_of_getElem?→CH,mem_range→IQ,range→EZ
open Option renaming none→I,some→QL
namespace Go.Proofs.YtbkilakncnlebaaGreatDoor.X
open Go.RowKit Go.XB Go.XN Proofs.Tryz
attribute [local go_sem] L_ Go.XB.opAt N_ M_ Region.wanted yielded
attribute [local simp] N_ M_ MP.eq MP.agg MP.sl A0r
theorem B8p {ts:List TTri} {es:List TEdge} {v k:Int} (h:D5b ts es v k=AD):∃ (i:Nat) (t:TTri),k=i/\i<ts.length/\ts[i]?=QL t/\B6x t v=AD/\A6o es (A2i v (A3h t v).1)=AD/\A6o es (A2i v (A3h t v).2)=AD/\spT ts es v k=(A3z es (A2i v (A3h t v).1),A3z es (A2i v (A3h t v).2)):=by
 unfold D5b at h;simp only[CK,decide_eq_true_eq]at h;obtain⟨⟨H,O⟩,u,D,E⟩:=h;obtain⟨i,rfl⟩:∃ i:Nat,k=i:=⟨k.toNat,oS⟩
 have b:i<ts.length:=oS;have G:ts.getD i A4p=ts[i]:=by rw[DY,CV b];rfl
 rw[Int.toNat_natCast,G]at u D E;exact⟨i,ts[i],rfl,b,CV b,u,D,E,by unfold spT;rw[Int.toNat_natCast,G]⟩
theorem E0j {t:TTri} {v:Int} (b:I64 t.a) (h:I64 t.b) (u:I64 t.c):I64 (A3h t v).1/\I64 (A3h t v).2:=by
 unfold A3h;split;·exact⟨h,u⟩
 split;·exact⟨u,b⟩
 exact⟨b,h⟩
theorem B5f (val:AJ) (x:TAround) (b:List Nat) (k:Int) (w:J) (ax:Agg w val x b) (aq:D5b x.m.triangles x.edges x.v k=AD) (aO:x.edges.length<=144) :
  AR prog 241 #[val,N K k] w (A0b w (.tuple #[N K (spT x.m.triangles x.edges x.v k).1,N K (spT x.m.triangles x.edges x.v k).2])):=by
 obtain⟨i,t,rfl,ap,au,hh,al,am,ar⟩:=B8p aq;obtain⟨aX,a9,a3,bd,aY,n1,a4,be,aZ,n2,a5,bf,a1,ba,a6,bg,rfl,rfl,aP,ac,ad,aw,aQ⟩:=TAround.agg ax;have aI:=A_ ac;have ag:=A_ ad;have ai:=A_ aw;have aJ:=A_ au;have aE:=A_ hh;have aF:=A_ al;have aG:=A_ am;have aH:=A_ ar;have aN:i<n1:=by rw[<-ac.1];exact ap
 have a8:(i:Int)<n1:=oS;have a7:(0:Int)<=i:=oS;have ah:=A_ (by rw[<-ad.1];omega:n2<=65536);clear aP ac ad aQ aw ax aq au hh al am ar ap aO;go_enter func241,ntmps241;go_upto_region 1 with fail;refine DH λaK Z=>?_;have af:=A_ Z.b;have D:=A_ Z.k;clear Z;obtain⟨ak,-⟩:=B_ D (j:=0) rfl;obtain⟨E,-⟩:=B_ D (j:=1) rfl;obtain⟨G,-⟩:=B_ D (j:=2) rfl;obtain⟨H,-⟩:=B_ D (j:=3) rfl;simp at ak E G H;have ae:w.1.size<aK.1.size:=E_ D;obtain⟨a2,bc,aR,aL,aM,ay,aS,aT,aU,aV,aW,aa⟩:=TTri.elemA (aI.below af) aN;obtain rfl:t=aR:=by have:=aJ.o;rw[ay]at this;exact(Option.some.inj this).symm
 obtain⟨_,_,az,aA,aB,_,_⟩:=TTri.agg aa;have aj:=A_ (E0j (v:=x.v) az aA aB);have aD:=A_ aa;subst aL;clear ay aa az aA aB;refine A0g ?_;iterate 8 refine C_ _ ?_
 refine D_ (MP.eq (.tuple #[N K (A3h t x.v).1,N K (A3h t x.v).2,AC AD])) ?_ ?_;·intro W X O h u;obtain⟨an,ao⟩:=F_ h;simp at u;refine G_ ?_;exact A0i (B5z _ t _ x.v O (aD.below h) aE)
 iterate 7 refine C_ _ ?_
 intro W X wa h u ab;clear ab;simp at u;go_simp;have Y:=A_ (AI af h);have T:=A_ (K_ D h);clear u ak E G H aS aT aU aV aW aM ae h;obtain⟨E,-⟩:=B_ T (j:=1) rfl;obtain⟨G,-⟩:=B_ T (j:=2) rfl;obtain⟨H,-⟩:=B_ T (j:=3) rfl;simp at E G H;have ae:w.1.size<wa.1.size:=E_ T;go_upto_region 2 with fail;refine A0g ?_;iterate 5 refine C_ _ ?_
 refine D_ (MP.eq (N K (A3z x.edges (A2i x.v (A3h t x.v).1)))) ?_ ?_;·intro W X O h u;obtain⟨an,ao⟩:=F_ h;simp at u;refine G_ ?_;exact A0i (A2t _ _ _ x.edges _ x.v (A3h t x.v).1 O ((ag.below Y).below h) ah ai aj.1 aF)
 iterate 5 refine C_ _ ?_
 refine D_ (MP.eq (N K (A3z x.edges (A2i x.v (A3h t x.v).2)))) ?_ ?_;·intro W X O h u;obtain⟨an,ao⟩:=F_ h;simp at u;refine G_ ?_;exact A0i (A2t _ _ _ x.edges _ x.v (A3h t x.v).2 O ((ag.below Y).below h) ah ai aj.2 aG)
 iterate 2 refine C_ _ ?_
 intro W X wb h u ab;clear ab;simp at u;have aC:=A_ (AI Y h);clear E G H ae;go_simp;go_wp2_with fail;refine bodyPost_ret (v:=.tuple #[N K (A3z x.edges (A2i x.v (A3h t x.v).1)),N K (A3z x.edges (A2i x.v (A3h t x.v).2))]) (by simp[results,results241,go_sem, *]) rfl ?_;exact⟨by rw[aH.o],aC.o⟩
theorem E1f (val:AJ) (x:TAround) (b:List Nat) (e:Int) (w:J) (Z:Agg w val x b) (al:∀ k∈x.list,D5b x.m.triangles x.edges x.v k=AD) (an:x.edges.length<=144) (am:x.list.length<=48) :
  AR prog 242 #[val,N K e] w (A0b w (N K (A8e x.m.triangles x.edges x.v x.list e))):=by
 have au:=A_ Z;have ao:=A_ al;have ar:=A_ an;obtain⟨aH,aT,aM,aV,aI,n1,aN,aW,aJ,n2,aO,aX,aK,h,aP,aY,rfl,rfl,aD,aE,aF,aG,T⟩:=TAround.agg Z;have ap:=A_ T;have aS:h<=48:=by rw[<-T.1];exact am
 have aq:=A_ T.1;clear aD aE aF T aG Z al an am;go_enter func242,ntmps242;go_upto_region 1 with fail;refine DH λax Y=>?_;have W:=A_ Y.b;have ad:=A_ Y.k;clear Y;obtain⟨G,-⟩:=B_ ad (j:=4) rfl;simp at G;go_wp2_with fail;go_loopg [12] h (λg s wr=>∃ i:Nat,i+g=h/\s=N K i/\Hid (A8e x.m.triangles x.edges x.v x.list e=A8e x.m.triangles x.edges x.v (x.list.drop i) e)/\Hid (Bw ax wr));case atStart=>exact⟨0,oS,rfl,(by rw[EH]:_=_),Below.refl _ _⟩
 case round =>
  clear G;obtain⟨i,ak,rfl,X,H⟩:=hrel;have ac:=A_ (AI W H);rcases Nat.lt_or_ge i h with O|O
  ·have aB:(i:Int)<h:=oS
   have aR:(0:Int)<=i:=oS;obtain⟨g,rfl⟩:∃ g,gk=g+1:=⟨gk - 1,oS⟩
   have aA:=A_ (by omega:i+1+g=h);obtain⟨aL,aU,k,rfl,ay,aa,aQ,az⟩:=Sl.getInt (ap.below ac) O;have aw:=A_ (ao k (CH aa));have ae:=A_ (D8l (ts:=x.m.triangles) (es:=x.edges) (v:=x.v) (e:=e) aa);have D:=A_ (K_ ad H);obtain⟨af,-⟩:=B_ D (j:=0) rfl;obtain⟨ag,-⟩:=B_ D (j:=1) rfl;obtain⟨ah,-⟩:=B_ D (j:=2) rfl;obtain⟨ai,-⟩:=B_ D (j:=3) rfl;obtain⟨G,-⟩:=B_ D (j:=4) rfl;simp at af ag ah ai G;clear ak O aa;go_wp2_with fail;refine(B5f _ x _ k wr (au.below ac) aw ar).mono ?_;rintro _ aZ ⟨rfl,aj⟩;have ab:=A_ (AI H aj);clear aj af ag ah ai G az ay;by_cases u:((spT x.m.triangles x.edges x.v k).1:Int)=e
   ·have E:=A_ (by rw[X.o,ae.o,if_pos u]:A8e x.m.triangles x.edges x.v x.list e=k)
    have aC:(((spT x.m.triangles x.edges x.v k).1:Int)==e)=AD:=by simp[u]
    clear u;go_wp2;go_ret;exact⟨by rw[E.o];rfl,AI W ab⟩
   have E:=A_ (by rw[X.o,ae.o,if_neg u]:A8e x.m.triangles x.edges x.v x.list e=A8e x.m.triangles x.edges x.v (x.list.drop (i+1)) e);have aC:(((spT x.m.triangles x.edges x.v k).1:Int)==e)=AF:=by simp[u]
   clear u;go_wp2_with fail;go_roundg g;case measure=>omega
   case rel=>exact⟨i+1,aA,gN,E,ab⟩
  obtain rfl:h=i:=oS;have aB:¬ ((h:Int)<h):=oS;have E:=A_ (by rw[X.o,List.drop_of_length_le (by rw[aq.o];exact Nat.le_refl _)];rfl:A8e x.m.triangles x.edges x.v x.list e = -1);clear ak O;go_wp2;go_ret;exact⟨by rw[E.o];rfl,AI W H⟩
theorem D2f (val:AJ) (x:TAround) (b:List Nat) (k:Int) (w:J) (Z:Agg w val x b) (X:D5b x.m.triangles x.edges x.v k=AD) (ai:x.edges.length<=144) :
  AR prog 188 #[val,N K k] w (A0b w (AC (B8j x.m.triangles x.edges x.v k))):=by
 have an:=A_ Z;have al:=A_ X;have am:=A_ ai;obtain⟨aB,aN,aG,aQ,aC,n1,aH,aR,aD,n2,aI,aS,aE,aO,aJ,aT,rfl,rfl,aw,ax,Y,aA,ay⟩:=TAround.agg Z;have ak:=A_ Y;obtain⟨f,G⟩:∃ f,(spT x.m.triangles x.edges x.v k).1=f:=⟨_,rfl⟩
 have au:f<n2:=by obtain⟨i,t,_,_,_,_,T,_,az⟩:=B8p X;rw[az]at G;rw[<-Y.1,<-G];unfold A6o at T;simp only[CK,decide_eq_true_eq]at T;exact T.1
 have aM:(f:Int)<n2:=oS;have aL:(0:Int)<=f:=oS;have ab:=A_ G;clear aw ax Y ay aA Z X ai G;go_enter func188,ntmps188;go_upto_region 1 with fail;refine DH λap O=>?_;have aa:=A_ O.b;have h:=A_ O.k;clear O;obtain⟨ac,-⟩:=B_ h (j:=0) rfl;obtain⟨ad,-⟩:=B_ h (j:=1) rfl;obtain⟨E,-⟩:=B_ h (j:=2) rfl;obtain⟨ae,-⟩:=B_ h (j:=3) rfl;obtain⟨af,-⟩:=B_ h (j:=4) rfl;simp at ac ad E ae af;go_wp2_with fail;refine(B5f _ x _ k ap (an.below aa) al am).mono ?_;rw[ab.o];rintro _ aU ⟨rfl,W⟩;have ao:=A_ (K_ h W);have D:=A_ (AI aa W);clear W ac ad E ae af;obtain⟨E,-⟩:=B_ ao (j:=2) rfl;simp at E;obtain⟨aF,aP,y,aq,aK,aj,aV,aW,aX,aY,ar⟩:=TEdge.elemA (ak.below D) au;have H:=A_ (by unfold B8j;rw[ab.o,show x.edges.getD f A4o=y from A0e aj]:B8j x.m.triangles x.edges x.v k=(AU (y.left<0) || AU (y.right<0)));subst aq;clear aj ar;by_cases ag:y.left<0;·have u:=A_ (by simp[ag]:(AU (y.left<0) || AU (y.right<0))=AD);go_wp2;go_ret;exact⟨by rw[H.o,u.o];simp,D.o⟩
 by_cases ah:y.right<0;·have u:=A_ (by simp[ah]:(AU (y.left<0) || AU (y.right<0))=AD);go_wp2;go_ret;exact⟨by rw[H.o,u.o];simp,D.o⟩
 have u:=A_ (by simp[ag,ah]:(AU (y.left<0) || AU (y.right<0))=AF);go_wp2;go_ret;exact⟨by rw[H.o,u.o];simp,D.o⟩
structure EqD (p:TProblem) (fs:List TRat):Prop where
 tri:∀ t∈p.1.triangles,A5v p.1.1.length t/\(0<=t.4/\t.4<3)
 ok:p.1.1.all A1b=AD
 n40:p.1.1.length<=40
 t48:p.1.triangles.length<=48
 sl:p.3.length=3
 fl:fs.length=(P_ p.1.triangles).length
 eq:∀ (k:Nat) (t:TTri),p.1.triangles[k]?=QL t->(B7d p t).2.isEmpty=AF/\D1y (P_ p.1.triangles) fs k=B7d p t
attribute [local simp] MP.aggS MP.aggN MP.slbox MP.box
theorem B6v (v:AJ) (p:TProblem) (b:List Nat) (B:Option Addr) (n d:Nat) (Z:List TRat) (a8:List Nat) (w:J) (aq:Agg w v p b) (aP:Sl w B n d Z a8) (an:EqD p Z) :
  AR prog 79 #[v,S B n d] w (A0b w (AC AD)):=by
 have a5:=A_ aq;have aY:=A_ aP;have H:=A_ an;obtain⟨bp,bF,bu,bI,bq,n1,bv,bJ,br,n2,bz,bK,bs,bG,c3,bL,rfl,rfl,aR,ai,bd,be⟩:=TProblem.agg aq;have a3:=A_ (TMesh.mkAgg (x:=p.1) aR ai);have a2:=A_ ai.1;have bB:n1<=48:=by rw[<-ai.1];exact an.t48
 have bD:(n1:Int)<=48:=oS;clear aR ai bd be aq aP an;go_enter func79,ntmps79;go_wp2_with fail;refine DH λa7 al=>?_;have aW:=A_ al.b;have a6:=A_ al.k;clear al;go_loopg [11] n1 (λg s wr=>∃ k:Nat,k+g=n1/\s=N K k/\Hid (Bw a7 wr));case atStart=>exact⟨0,oS,rfl,Below.refl _ _⟩
 case round =>
  obtain⟨k,aQ,rfl,ae⟩:=hrel;have ad:=A_ (AI aW ae);have aH:=A_ (K_ a6 ae);rcases Nat.lt_or_ge k n1 with ah|ah
  ·have ba:(k:Int)<n1:=oS
   obtain⟨g,rfl⟩:∃ g,gk=g+1:=⟨gk - 1,oS⟩
   have a9:=A_ (by omega:k+1+g=n1);obtain⟨t,aj⟩:∃ t,p.1.triangles[k]?=QL t:=⟨_,CV (by rw[a2.o];exact ah)⟩
   have aA:=A_ aj;have aD:=A_ (H.tri t (CH aj));have aC:=A_ (H.eq k t aj);have aE:=A_ (a5.below ad);have aB:=A_ (a3.below ad);have aZ:=A_ (aY.below ad);obtain⟨am,-,aS⟩:=bx aH;clear aQ ah aj;go_wp2_with fail;refine X_ sI ?_;dsimp only[DJ,DK,DI];iterate 2 refine C_ _ ?_
   refine D_ (MP.aggS (E2o p t)) ?_ ?_;·intro G E D u h;obtain⟨T,W⟩:=F_ u;simp at h;refine G_ ?_;exact A7t (C1w _ p _ k t D (aE.below u) aA H.sl aD.2)
   iterate 3 refine C_ _ ?_
   refine D_ (MP.sl (B5j p.1.1 t)) ?_ ?_;·intro G E D u h;obtain⟨T,W⟩:=F_ u;simp at h;refine G_ ?_;exact A1c (A6s _ p.1 _ k t D (aB.below u) aA aD.1 H.ok H.n40 H.t48)
   refine D_ (MP.agg (A6c (Z_ p.1.1 t.a) (Z_ p.1.1 t.b) (Z_ p.1.1 t.c))) ?_ ?_;·intro G E D u h;obtain⟨T,W⟩:=F_ u;simp at h;obtain⟨⟨C,bf,cC,bA,aO⟩,_⟩:=h;obtain rfl:3=bf:=aO.1;refine G_ ?_;exact H_ (B3h C cC _ _ _ _ D aO)
   refine D_ (MP.agg (B7d p t)) ?_ ?_;·intro G E D u h;obtain⟨T,W⟩:=F_ u;simp at h;refine G_ ?_;obtain⟨⟨_,bM,ar⟩,ak⟩:=h;exact H_ (A0n _ _ (E2o p t) _ _ _ D ar (by first|exact ak.1|exact ak.1.1))
   refine A1p #[AC AF,S I 0 0,S I 0 0] 35 ?_ ?_;·intro G E D u h;refine⟨gD,?_⟩;go_simp
   intro G E wa u h (ag:Hid _);simp at h;have bh:=h.2.2.2.2.2.2.2.2.1;have bg:=h.2.2.2.2.2.2.2.2.2;obtain⟨⟨af,-⟩,bc⟩:=bh;obtain⟨⟨gb,bo,au,ac⟩,ap⟩:=bg;obtain⟨aK,aT,aM,_,aL,aU,aN,_,aV,-,_,_⟩:=TRat.agg af;rw[aV]at af;rw[au]at ap;have ao:=(ap gb sI).1;have aw:=A_ (show ∀ b∈E 8,b≠gb from λb ab e=>by have:=ag 8 9 dE dE dE b ab;rw[au]at this;simp[e]at this);have ax:=A_ af;have aF:=A_ ac;have az:=A_ u;obtain⟨bi,bj⟩:=B_ ac (j:=0) rfl;obtain⟨ar,bl⟩:=B_ ac (j:=1) rfl;obtain⟨ak,bm⟩:=B_ ac (j:=2) rfl;generalize E 8=bH at *;clear h ag af bc ap au ac u am aS;go_upto_region 5 with fail;obtain⟨O,aa⟩:∃ O,O=((wa.setCell ⟨gb,0,I⟩ (AC (B7d p t).1.1)).setCell ⟨gb,1,I⟩ (S aK aT aM)).setCell ⟨gb,2,I⟩ (S aL aU aN):=⟨_,rfl⟩
   have aG:∀ b,b≠gb->O.1[b]?=wa.1[b]?:=λb ab=>by rw[aa];exact A0p b ab
   have aJ:=A_ (by rw[aa];exact A3g (A3g (A3g aF)):O.1[gb]?=QL (.cells #[AC (B7d p t).1.1,S aK aT aM,S aL aU aN] 35));have X:=A_ (by rw[aa];exact((az.setCell (p:=⟨gb,0,I⟩) ao _).setCell (p:=⟨gb,1,I⟩) ao _).setCell (p:=⟨gb,2,I⟩) ao _:Bw wr O);have ay:=A_ (ax.keep λb ab=>aG b (aw b ab));rw[<-aa];clear aa aG aV bo bi bj ar bl ak bm aF az ax aw;have bt:=A_ (aE.below X);have a4:=A_ (aB.below X);have a1:=A_ (aZ.below X);have aI:=A_ (K_ aH X);obtain⟨am,-,-⟩:=bx aI;obtain⟨bn,-,-⟩:=bx aJ;have aS:w.1.size<O.1.size:=E_ aI;have bE:gb<O.1.size:=E_ aJ;refine X_ sI ?_;dsimp only[DJ,DK,DI];refine C_ _ ?_;refine D_ (MP.eq (AC AD)) ?_ ?_;·intro G E D u h;obtain⟨T,W⟩:=F_ u;simp at h;refine G_ ?_;exact A0i (by have Y:=A2p _ (B7d p t) _ D (ay.below u);rw[aC.o.1]at Y;exact Y)
   iterate 6 refine C_ _ ?_
   refine D_ (MP.agg (D1y (P_ p.1.triangles) Z k)) ?_ ?_;·intro G E D u h;obtain⟨T,W⟩:=F_ u;simp at h;refine G_ ?_;exact H_ (D1a _ p.1 _ B n d Z _ k D (a4.below u) H.t48 (a1.below u) H.fl)
   refine C_ _ ?_;refine D_ (MP.eq (AC AD)) ?_ ?_;·intro G E D u h;obtain⟨T,W⟩:=F_ u;simp at h;refine G_ ?_;exact A0i (by have Y:=A2s _ _ (D1y (P_ p.1.triangles) Z k) (B7d p t) _ _ D (by first|exact h.1.1|exact h.1) (ay.o.below u);rw[decide_eq_true aC.o.2]at Y;exact Y)
   refine C_ _ ?_;intro G E bN u h (ag:Hid _);simp at h;go_simp;have aX:=A_ (ae.trans ((AI (X) u).mono ae.size));clear h ag am bn;go_wp2_with fail;go_roundg g;case measure=>omega
   case rel=>exact⟨k+1,a9,gN,aX⟩
  obtain rfl:k=n1:=oS;have ba:¬ ((k:Int)<k):=oS;clear aQ ah;go_wp2;go_ret;exact⟨rfl,ad⟩
structure IndD (p:TProblem) (us fs:List TRat):Prop where
 lin:LinD p us
 fl:fs.length=(P_ p.1.triangles).length
 fo:fs.all J_=AD
 si:∀ t∈p.1.triangles,D1h (P_ p.1.triangles) t
 ok:(C3k p us fs).any A2e=AF
theorem B6p (p:TProblem) (us fs:List TRat):∀ k,(B3i p us fs k).length=k
 |0=>rfl
 |k+1=>by rw[B3i,EF,B6p p us fs k];rfl
theorem C3o (v:AJ) (p:TProblem) (b:List Nat) (B:Option Addr) (n d:Nat) (us:List TRat) (be:List Nat) (aF:Option Addr) (m c:Nat) (E:List TRat) (es:List Nat) (w:J) (aK:Agg w v p b) (aJ:Sl w B n d us be) (ao:Sl w aF m c E es) (hi:IndD p us E) :
  AR prog 80 #[v,S B n d,S aF m c] w (A0w w (C3k p us E)):=by
 have bW:=A_ aK;have bV:=A_ aJ;have bL:=A_ ao;have au:=A_ hi;have O:=A_ hi.lin;have bP:=A_ (by rw[<-hi.lin.ul];exact aJ.1.symm:n=p.1.1.length);obtain⟨cQ,c6,cX,da,cR,n1,cY,db,cU,n2,cZ,dc,cV,c7,c3,s3,rfl,rfl,bp,aC,cn,co⟩:=TProblem.agg aK;have bO:=A_ (TMesh.mkAgg (x:=p.1) bp aC);have a3:=A_ aC.1;have c4:n1<=48:=by rw[<-aC.1];exact hi.lin.t48
 have c5:(n1:Int)<=48:=oS;obtain⟨ct,ci,cp,cq,cs⟩:=info_parts B2r;clear bp aC cn co aK aJ ao hi;go_enter func80,ntmps80;go_upto_region 1 with fail;refine DH λax aG=>?_;have bF:=A_ aG.b;have aw:=A_ aG.k;have a8:=A_ (Pend.start (α:=TRat) (e:=35) bF);clear aG;obtain⟨X,-⟩:=B_ aw (j:=0) rfl;obtain⟨T,-⟩:=B_ aw (j:=1) rfl;simp at X T;have aq:w.1.size<ax.1.size:=E_ aw;go_wp2_with fail;go_loopg [7,15] n1 (λg s3 s wr=>∃ (i gB cap:Nat),i+g=n1/\s=N K i/\s3=S (QL ⟨gB,0,I⟩) i cap/\Hid (Pend w ax 35 wr gB i cap (B3i p us E i)));case atStart=>exact⟨0,ax.1.size,0,oS,rfl,rfl,a8.o⟩
 case round =>
  clear a8 X T aq;obtain⟨k,gB,cap,bm,rfl,rfl,al⟩:=hrel;have aj:=A_ al.bw;have ah:=A_ (K_ aw al.bb);rcases Nat.lt_or_ge k n1 with aA|aA
  ·have ck:(k:Int)<n1:=oS
   obtain⟨g,rfl⟩:∃ g,gk=g+1:=⟨gk - 1,oS⟩
   have cj:=A_ (by omega:k+1+g=n1);have bG:=A_ (by unfold maxLen;omega:k+1<=maxLen);have bH:=A_ (by omega:(k+1)*56<=140737488355328);obtain⟨t,ap⟩:∃ t,p.1.triangles[k]?=QL t:=⟨_,CV (by rw[a3.o];exact aA)⟩
   have ak:=A_ ap;have ag:=A_ (O.tri t (CH ap));have bU:=A_ (au.si t (CH ap));have bY:=A_ (show B3i p us E (k+1)=B3i p us E k++[D5o p us E k t] by rw[B3i,DY,ap];rfl);have a5:=A_ (bW.below aj);have aY:=A_ (bO.below aj);have a4:=A_ (bV.below aj);have bM:=A_ (bL.below aj);obtain⟨X,-⟩:=B_ ah (j:=0) rfl;obtain⟨T,-⟩:=B_ ah (j:=1) rfl;obtain⟨ac,-⟩:=B_ ah (j:=2) rfl;obtain⟨ad,-⟩:=B_ ah (j:=3) rfl;simp at X T ac ad;have aq:w.1.size<wr.1.size:=E_ ah;clear bm aA ap;go_wp2_with fail;refine X_ sI ?_;dsimp only[DJ,DK,DI];iterate 2 refine C_ _ ?_
   refine D_ (MP.aggS (B4w p t)) ?_ ?_;·intro H G D u h;obtain⟨ae,af⟩:=F_ u;simp at h;refine G_ ?_;exact A7t (B1h _ p _ k t D (a5.below u) ak O.dl ag.2.1)
   iterate 4 refine C_ _ ?_
   refine D_ (MP.aggN (grT p us t)) ?_ ?_;·intro H G D u h;obtain⟨ae,af⟩:=F_ u;simp at h;refine G_ ?_;exact B8i (B6z _ p.1 _ B n d us be k t D (aY.below u) (a4.below u) ak ag.1 bP ag.2.2 O.uo O.ok O.n40 O.t48)
   refine D_ (MP.agg (B2e p us t)) ?_ ?_;·intro H G D u h;obtain⟨ae,af⟩:=F_ u;simp at h;refine G_ ?_;obtain⟨⟨_,cD,ai⟩,Z⟩:=h;exact H_ (A1n _ _ (B4w p t) (grT p us t) _ _ D ai (by first|exact Z|exact Z.1|exact Z.1.1))
   refine A1p #[AC AF,S I 0 0,S I 0 0,AC AF,S I 0 0,S I 0 0] 118 ?_ ?_;·intro H G D u h;refine⟨gD,?_⟩;go_simp
   intro H G wa u h (az:Hid _);simp at h;have aM:=h.2.2.2.2.2.2.2.2.1;have aL:=h.2.2.2.2.2.2.2.2.2;obtain⟨⟨W,-⟩,aB⟩:=aM;obtain⟨⟨gb,bE,ar,Y⟩,aI⟩:=aL;obtain⟨bZ,cx,b7,_,b0,cy,b8,_,b3,cz,b9,_,b4,cA,ca,_,aE,-,_,_,_,_⟩:=TPoint.agg W;rw[aE]at W;rw[ar]at aI;have cg:=(aI gb sI).1;have aQ:=A_ (show ∀ b∈G 8,b≠gb from λb an e=>by have:=az 8 9 dE dE dE b an;rw[ar]at this;simp[e]at this);have aS:=A_ W;have a6:=A_ Y;have aT:=A_ u;obtain⟨cE,cF⟩:=B_ Y (j:=0) rfl;obtain⟨ai,cG⟩:=B_ Y (j:=1) rfl;obtain⟨Z,cH⟩:=B_ Y (j:=2) rfl;obtain⟨cI,cJ⟩:=B_ Y (j:=3) rfl;obtain⟨cK,cL⟩:=B_ Y (j:=4) rfl;obtain⟨cM,cN⟩:=B_ Y (j:=5) rfl;generalize G 8=c9 at *;clear h az W aB aI ar Y u X T ac ad aq;go_upto_region 6 with fail;obtain⟨a9,bl,bj,a7,bg,-⟩:=D6m (AC (B2e p us t).x.1.1) (S bZ cx b7) (S b0 cy b8) (AC (B2e p us t).y.1.1) (S b3 cz b9) (S b4 cA ca) a6 aT cg;rw[bl];have ab:=A_ bj;have aa:=A_ bg;have bJ:=A_ (aS.keep λb an=>a7 b (aQ b an));clear bl a7 bj bg aE bE cE cF ai cG Z cH cI cJ cK cL cM cN a6 aT aS aQ;have bX:=A_ (a5.below aa);have aZ:=A_ (aY.below aa);have cW:=A_ (a4.below aa);have bN:=A_ (bM.below aa);have am:=A_ (K_ ah aa);obtain⟨X,-⟩:=B_ am (j:=0) rfl;obtain⟨T,-⟩:=B_ am (j:=1) rfl;obtain⟨ac,-⟩:=B_ am (j:=2) rfl;obtain⟨ad,-⟩:=B_ am (j:=3) rfl;obtain⟨bt,-⟩:=B_ ab (j:=0) rfl;obtain⟨bu,-⟩:=B_ ab (j:=1) rfl;obtain⟨bv,-⟩:=B_ ab (j:=2) rfl;obtain⟨bz,-⟩:=B_ ab (j:=3) rfl;obtain⟨bA,-⟩:=B_ ab (j:=4) rfl;obtain⟨bB,-⟩:=B_ ab (j:=5) rfl;simp at X T ac ad bt bu bv bz bA bB;have aq:w.1.size<a9.1.size:=E_ am;have cu:gb<a9.1.size:=E_ ab;have aR:=A_ ag.2.2;refine W_ 17 kR kR kR kR kR ?_;simp only[List.take_succ_cons,List.take_zero,List.drop_succ_cons,EH];iterate 4 refine C_ _ ?_
   refine D_ (MP.sl (B5j p.1.1 t)) ?_ ?_;·intro H G D u h;obtain⟨ae,af⟩:=F_ u;simp at h;refine G_ ?_;exact A1c (A6s _ p.1 _ k t D (aZ.below u) ak ag.1 O.ok O.n40 O.t48)
   iterate 4 refine C_ _ ?_
   refine D_ (MP.sl (A7o (P_ p.1.triangles) E k t)) ?_ ?_;·intro H G D u h;obtain⟨ae,af⟩:=F_ u;simp at h;refine G_ ?_;exact A1c (C8a _ p.1 _ aF m c E _ k t D (aZ.below u) O.t48 (bN.below u) au.fl ak bU au.fo)
   refine C_ _ ?_;refine D_ (MP.agg (C1a (Z_ p.1.1 t.a) (Z_ p.1.1 t.b) (Z_ p.1.1 t.c) (A7o (P_ p.1.triangles) E k t) (B2e p us t))) ?_ ?_;·intro H G D u h;obtain⟨ae,af⟩:=F_ u;simp at h;obtain⟨⟨⟨C,cv,cC,c1,bh⟩,_⟩,⟨⟨bI,cw,b6,c2,bi⟩,_⟩,_⟩:=h;obtain rfl:3=cv:=bh.1;obtain rfl:3=cw:=bi.1;refine G_ ?_;exact H_ (C3h C cC _ _ _ _ bI b6 _ _ _ (B2e p us t) _ D bh bi (bJ.below u) aR.d aR.d0)
   iterate 2 refine C_ _ ?_
   refine D_ (MP.aggS (B4w p t)) ?_ ?_;·intro H G D u h;obtain⟨ae,af⟩:=F_ u;simp at h;refine G_ ?_;exact A7t (B1h _ p _ k t D (bX.below u) ak O.dl ag.2.1)
   refine D_ (MP.agg (D5o p us E k t)) ?_ ?_;·intro H G D u h;obtain⟨ae,af⟩:=F_ u;simp at h;refine G_ ?_;obtain⟨ai,⟨_,cD,Z⟩⟩:=h;exact H_ (A8m _ _ _ (B4w p t) _ _ D (by first|exact ai.1|exact ai.1.1) (by first|exact Z|exact Z.1))
   refine A1d (λbD=>MP.slbox (bD 15).cells 35) (by intro y bD bf;simp[N_,M_]at bf;simp[bf]) ?_ ?_;·intro H G D u h;simp at h;obtain⟨aO,br,ba,cb,aP,bs,bc,cc,cd,_,_,_⟩:=TRat.agg h.1;refine⟨gD,S (QL ⟨D.1.size,0,I⟩) 1 1,D.alloc (.cells (H 15).cells 35),?_,Below.box _,[D.1.size],⟨D.1.size,rfl,rfl,heap_alloc_new D _⟩,sI⟩;rw[cd];go_simp
   intro H G cP u h (az:Hid _);simp at h;have aD:=h.1;have aM:=h.2.2.2.2.2.2.2.2.2.2.2.2.2.2.2.1;have aL:=h.2.2.2.2.2.2.2.2.2.2.2.2.2.2.2.2;obtain⟨⟨W,ao⟩,aB⟩:=aM;obtain⟨aO,br,ba,cb,aP,bs,bc,cc,aE,-,_,_⟩:=TRat.agg W;obtain⟨⟨ce,bE,ar,aH⟩,-⟩:=aL;rw[aE]at aH W;have aN:=A_ (A3x W);have aV:=A_ ao;have a1:=A_ (show ∀ b∈G 15,wr.1.size<=b from λb an=>by have:=(aB b an).1;have:=aa.size;omega);have aW:=A_ aH;have aU:=A_ (show Bw wr cP from AI aa u);have de:H 0=S (QL ⟨gB,0,I⟩) k cap:=by first|exact aD.1.1|exact aD.1|exact aD
   clear aD;generalize G 15=cB at *;clear h az W ao aB aH ar X T ac ad bt bu bv bz bA bB aq cu u;go_wp2_with (at_builtin;refine A1v rfl _ _ 27 rfl 35 ct (.agg #[AC AF,S I 0 0,S I 0 0]) 56 underlying27 ci cp cq cs rfl al aU gD ⟨ce,0,I⟩ 1 [AC (D5o p us E k t).1.1,S aO br ba,S aP bs bc] (D5o p us E k t) cB gD (A0a aW) aN aV a1 bG bH ?_;intro g' bd cO bo ch cm);have bS:=A_ (by rw[bY.o];exact bo:Pend w ax 35 cO g' (k+1) bd (B3i p us E (k+1)));clear bo ch cm aN aV a1 al aW aU;go_wp2_with fail;go_roundg g;case measure=>omega
   case rel=>exact⟨k+1,g',bd,cj,gN,rfl,bS⟩
  obtain rfl:k=n1:=oS;have ck:¬ ((k:Int)<k):=oS;obtain⟨F,c8,c0,b5,e,bq,bn,cf⟩:=al.done;injection e with e;injection e with T ac ad;subst T;subst ac;subst ad;have aX:=A_ (by rw[C3k,a3.o]:C3k p us E=B3i p us E k);have a2:=A_ bq;have bR:=A_ bn;clear bm aA bq bn cf;go_wp2_with fail;refine(A5p _ k cap (B3i p us E k) b5 wr a2.o (by rw[<-aX.o];exact au.ok)).mono ?_;rintro _ dd ⟨rfl,ay⟩;have bT:=A_ (a2.below ay);have bQ:=A_ (bR.below ay);have bK:=A_ (AI aj ay);clear ay;go_wp2;go_ret;rw[aX.o];exact⟨_,_,_,_,rfl,bT,bQ,bK⟩
structure MidC (w:J) (gE gM:Nat) (E:Option Addr) (n cE:Nat) (es:List TEdge) (eb:List Nat) (M:Option Addr) (cM:Nat) (ms:List Int) (mb:List Nat):Prop where
 kE:w.1[gE]?=QL (.cells #[S E n cE] 181)
 kM:w.1[gM]?=QL (.cells #[S M n cM] 31)
 sE:Sl w E n cE es eb
 sM:Sl w M n cM ms mb
 n144:n<=144
def A7h (t:TTri):List AJ:=[N K t.a,N K t.b,N K t.c,N K t.4,N K t.5]
def C2c (t:TTri):Prop:=I64 t.a/\I64 t.b/\I64 t.c/\I64 t.4/\I64 t.5
theorem D2e:(prog.info? 122).map (λi=>(i.zero,i.size,i.bytes))=QL (QL (.agg #[N K 0,N K 0,N K 0,N K 0,N K 0]),5,40):=kR
theorem A9f {w:J} {base b:Nat} {e:TypeId} {size:Nat} {v:AJ} {n:Nat} {xs:List AJ} (h:w.ownsRow base e size v n xs) (H:b<=base):w.ownsRow b e size v n xs:=by
 obtain⟨D,E⟩:=h;refine⟨D,?_⟩;rcases E with G|⟨g',cap,u,T,O,r⟩;·exact .inl G
 exact .inr ⟨g',cap,u,T,Nat.le_trans H O,r⟩
theorem C5p {w:J} {base:Nat} {e:TypeId} {size:Nat} {v:AJ} {n:Nat} {xs:List AJ} (h:w.ownsRow base e size v n xs) (E:0<n):∃ g c,v=S (QL ⟨g,0,I⟩) n c:=by
 rcases h.2 with⟨_,D⟩|⟨g',cap,u,b,_⟩;·omega
 exact⟨g',cap,b⟩
def MP.trow (base:Nat) (ts:List TTri):MP:=⟨λv bs w=>bs=[]/\∃ g c,v=S (QL ⟨g,0,I⟩) ts.length c/\w.ownsRow base 122 5 (S (QL ⟨g,0,I⟩) ts.length c) ts.length (ts.flatMap A7h),λ_ _ _ _ hb ⟨h0,g,c,h1,h2⟩=>⟨h0,g,c,h1,I_ h2 hb⟩⟩
theorem B3l (ts:List TTri):(ts.flatMap A7h).length=ts.length*5:=by
 induction ts with
 |nil=>rfl
 |cons t ts ih=>rw[List.flatMap_cons,EF,ih,List.length_cons];show 5+_=_;omega
theorem C1s {ts:List TTri}:∀ u∈ts.flatMap A7h,u.oneCell'=AD:=by
 intro u h;obtain⟨t,_,b⟩:=List.mem_flatMap.1 h;unfold A7h at b;simp at b;rcases b with rfl|rfl|rfl|rfl|rfl<;>rfl
attribute [local simp] MP.trow

def D2p (n:Nat) (t:TTri):Bool:=(AU (0<=t.a)&&AU (t.a<n))&&((AU (0<=t.b)&&AU (t.b<n))&&(AU (0<=t.c)&&AU (t.c<n)))
theorem C7y {n:Nat} {t:TTri} (h:D2p n t=AD):A5v n t:=by
 unfold D2p at h;simp only[CK,decide_eq_true_eq]at h;exact⟨h.1,h.2.1,h.2.2⟩
def D3a (xs ys:List Int) (a b:Int) (n:Nat):Bool:=(EZ n).all λc=>AU ((c:Int)=a) || (AU ((c:Int)=b) || !A5t xs ys a b c)
theorem B8d {xs ys:List Int} {a b:Int} {n:Nat} (h:D3a xs ys a b n=AD):D9z xs ys a b n:=by
 intro c u;have:=BJ.1 h c (IQ.2 u);simp only[Bool.or_eq_true,decide_eq_true_eq,Bool.not_eq_true']at this;exact this
def E5k (xs ys:List Int) (n:Nat) (ts:List TTri):Bool :=
 (xs.all λx=>AU (-100<=x)&&AU (x<=100))&&((ys.all λx=>AU (-100<=x)&&AU (x<=100))&&(AU (3<=n)&&(AU (n<=40)&&(AU (1<=ts.length)&&(AU (ts.length<=48) &&
 ((ts.all λt=>D2p n t&&(inB 0 t.4 2&&(inB 0 t.5 60&&AU (0<A5u xs ys t.a t.b t.c)))) &&
 (((EZ ts.length).all λk=>(EZ k).all λj=>B9s xs ys (ts.getD j ⟨0,0,0,0,0⟩) (ts.getD k ⟨0,0,0,0,0⟩) || B9s xs ys (ts.getD k ⟨0,0,0,0,0⟩) (ts.getD j ⟨0,0,0,0,0⟩)) &&
 (AU (A4t n ts ts.length=List.replicate n AD) &&
 ((ts.all λt=>D3a xs ys t.a t.b n&&(D3a xs ys t.b t.c n&&D3a xs ys t.c t.a n)) &&
 ((P_ ts).all λe=>(AU (0<=e.a)&&AU (e.a<n))&&(AU (0<=e.b)&&AU (e.b<n))))))))))))
theorem D8r {m:TMesh} {xs ys:List Int} {n:Nat} (ah:m.1.length=n) (ak:A6a xs->A6a ys->E5p m.1 xs ys) (aj:m.1.all A1b=AD) (ai:m.1.Nodup) (h:E5k xs ys n m.triangles=AD) :
  MeshI m xs ys/\∀ e∈P_ m.triangles,(0<=e.a/\e.a<m.1.length)/\(0<=e.b/\e.b<m.1.length):=by
 subst ah;unfold E5k at h;simp only[CK,decide_eq_true_eq]at h;obtain⟨H,W,X,Y,Z,aa,ab,ac,ad,O,T⟩:=h;have E:A6a xs:=λx u=>by have:=BJ.1 H x u;simpa using this
 have G:A6a ys:=λx u=>by have:=BJ.1 W x u;simpa using this
 refine⟨⟨ak E G,E,G,X,Y,aj,ai,Z,aa,?_,?_,ad,?_⟩,?_⟩;·intro t b;have:=BJ.1 ab t b;simp only[CK,decide_eq_true_eq]at this;exact⟨C7y this.1,this.2.1,this.2.2.1,this.2.2.2⟩
 ·intro k t j s D af al;have ag:=(List.getElem?_eq_some_iff.1 D).1;have:=BJ.1 (BJ.1 ac k (IQ.2 ag)) j (IQ.2 af);rw[DY,DY,D,al]at this;simpa using this
 ·intro t b;have:=BJ.1 O t b;simp only[CK]at this;exact⟨B8d this.1,B8d this.2.1,B8d this.2.2⟩
 intro e ae;have:=BJ.1 T e ae;simpa using this
def E3k (a b c:TPoint):Bool:=A7m [a,b,c]&&(J_ (A2y a b c)&&(!(A2y a b c).1.2.isEmpty&&((EZ 3).all λi=>A1b (C9m a b c i)&&A1b (A5w a b c i))))
theorem D0i {a b c:TPoint} (h:E3k a b c=AD):GradOk a b c:=by
 unfold E3k at h;simp only[CK,BJ,IQ,Bool.not_eq_true',List.isEmpty_eq_false_iff]at h;exact⟨h.1,h.2.1,h.2.2.1,λi u=>(h.2.2.2 i u).1,λi u=>(h.2.2.2 i u).2⟩
end Go.Proofs.YtbkilakncnlebaaGreatDoor.X
