/- A part of the proof. -/
import Derived.Test.YtbkilakncnlebaaGreatDoorY31
import Derived.Test.YtbkilakncnlebaaGreatDoorY49
set_option linter.constructorNameAsVariable false
set_option maxHeartbeats 16000000
set_option maxRecDepth 10000
open Bool renaming and_eq_true→CK,false→AF,true→AD
open Go renaming Calls→AR,Value→AJ,World→QT,bodyPost_ret→BI,heap_alloc_new→CF,maxLen→BG,results→BO,results_tmp→FQ
open Go.Code renaming new→DH
open Go.IntKind renaming i64→QO
open Go.Lib renaming itoa→FS
open Go.Obj renaming cells→AK
open Go.Value renaming agg→AM,bool→AC,int→N,slice→QH
open Go.XB.Below renaming box→AV,next→AI
open Go.XB.TProblem renaming agg→FG,mkAgg→JS
open Go.XB.TRat renaming agg→BK,mkAgg→CU
open Go.XB.TReport renaming agg→OC
open List renaming append_assoc→DM,dropLast→DJ,getElem?_append_left→IV,getElem?_append_right→JO,getElem?_eq_getElem→CV,getElem?_eq_some_iff→CQ,getLast→DK,length→DI,length_append→EF,mem_append→CO,mem_of_getElem?→CH,take_of_length_le→CZ,take_zero→ET
open Nat renaming le_refl→BH,le_trans→BM,lt_or_ge→BN
open Option renaming none→QJ,some→QL
namespace Go.Proofs.YtbkilakncnlebaaGreatDoor.X
open Go.RowKit Go.XB Go.XN Proofs.Tryz
attribute [local go_sem] L_ Go.XB.opAt N_ M_ Region.wanted yielded
attribute [local simp] N_ M_ MP.eq MP.agg MP.sl A0r
attribute [local simp] MP.box
theorem F3l (v:AJ) (p:TProblem) (b:List Nat) (xs ys:List Int) (os:Option TRat) (w:QT) (H:Agg w v p b) (aN:SdD p xs ys os) :
  AR prog 41 #[v] w (λe w'=>∃ U nU cU uU I m cI A3 n3 c3 A4 n4 c4 br,e=.returned (.tuple #[AM #[QH U nU cU,QH (QL I) m cI,AC (A2z p os).bound.1.1,QH A3 n3 c3,QH A4 n4 c4],AC AD])/\Sl w' U nU cU (A8r p os) uU/\Agg w' (AM #[AC (A2z p os).bound.1.1,QH A3 n3 c3,QH A4 n4 c4]) (A2z p os).bound br/\(∀ b∈br,w.1.size<=b)/\Bw w w'):=by
 have X:=A_ H;have D:=A_ aN;obtain⟨ac,am,af,bl,ad,n1,ag,bm,ae,n2,ah,bn,A3,n3,c3,bo,rfl,rfl,bd,be,bf,bg⟩:=FG H;clear bd be bf bg H aN;go_enter func41,ntmps41;go_upto_region 1 with fail;obtain⟨E,O⟩:∃ E,E=(w.alloc (AK #[QH ac am af,QH ad n1 ag,QH ae n2 ah,QH A3 n3 c3] 29)).alloc (AK #[QH QJ 0 0,QH QJ 0 0,AC AF,QH QJ 0 0,QH QJ 0 0] 86):=⟨_,rfl⟩
 have aw:=A_ (by rw[O];exact(AV _).alloc sI _:Bw w E);have aA:=A_ (by rw[O];exact K_ (CF w _) (AV _):E.1[w.1.size]?=QL (AK #[QH ac am af,QH ad n1 ag,QH ae n2 ah,QH A3 n3 c3] 29));have aD:=A_ (show E.1[w.1.size+1]?=QL (AK #[QH QJ 0 0,QH QJ 0 0,AC AF,QH QJ 0 0,QH QJ 0 0] 86) by rw[O];have:=CF (w.alloc (AK #[QH ac am af,QH ad n1 ag,QH ae n2 ah,QH A3 n3 c3] 29)) (AK #[QH QJ 0 0,QH QJ 0 0,AC AF,QH QJ 0 0,QH QJ 0 0] 86);rwa [World.size_alloc]at this);rw[<-O];clear O;obtain⟨h,-,u⟩:=bx aA;go_wp2_with fail;refine(B9m _ p _ xs ys os E (X.below aw) D.sol).mono ?_;rintro _ bh ⟨U,nU,cU,uU,rfl,aM,aO,Z⟩;have ay:=A_ aM;have a8:=A_ (show ∀ b∈uU,b≠w.1.size+1 from λb T=>by have:=(aO.2 b T).1;have:=E_ aD;omega);have ao:=A_ (AI aw Z);have aB:=A_ (K_ aA Z);have a3:=A_ (K_ aD Z);clear aM aO Z h u;obtain⟨h,-,u⟩:=bx aB;go_wp2_with fail;refine(E2h _ p _ xs ys U nU cU (A8r p os) uU bh (X.below ao) ay D.sol.pr D.flux).mono ?_;rintro _ bi ⟨F,aS,aI,aH,rfl,aL,-,W⟩;have ax:=A_ aL;have aZ:=A_ (ay.below W);have ap:=A_ (AI ao W);have aC:=A_ (K_ aB W);have a4:=A_ (K_ a3 W);clear aL W h u;obtain⟨h,-,u⟩:=bx aC;go_wp2_with fail;refine(B6v _ p _ F aS aI (A4i p (A8r p os)) aH bi (X.below ap) ax D.eq).mono ?_;rintro _ w3 ⟨rfl,G⟩;have aW:=A_ (ax.below G);have az:=A_ (aZ.below G);have aq:=A_ (AI ap G);have a2:=A_ (K_ aC G);have a5:=A_ (K_ a4 G);clear G h u;obtain⟨h,-,u⟩:=bx a2;go_wp2_with fail;refine(C3o _ p _ U nU cU (A8r p os) uU F aS aI (A4i p (A8r p os)) aH w3 (X.below aq) az aW D.ind).mono ?_;rintro _ bj ⟨I,m,cI,ba,rfl,Y,bc,aa⟩;obtain⟨⟨aP,aQ,aR⟩,rfl⟩:=E7b Y (by rw[<-Y.1,D3z];exact D.t1);have aX:=A_ Y;have ar:=A_ (AI aq aa);have aV:=A_ aa;have aE:=A_ (K_ a5 aa);clear Y bc aa h u;have q1:∀ (w:QT) (a:Option Addr) (n c al c':Nat),(binOp .eql 27 (QH a n c) (QH QJ al c')).run prog w=.ok (AC a.isNone) w:=λw a n c al c'=>Lib.run_eql_slice_nil w _ _ a n c al c' underlying27;go_wp2_with fail;refine(D6a _ m cI _ ba bj aX).mono ?_;rintro _ bq ⟨bp,an,rfl,ak,aj,ab⟩;obtain⟨aF,aT,aJ,_,aG,aU,aK,_,rfl,-,_,_⟩:=BK ak;have au:=A_ (AI ar ab);have a6:=A_ (K_ aE ab);have a1:=A_ ((az.below aV).below ab);have aY:=A_ ak;have a9:=A_ (show ∀ b∈an,w.1.size<=b from λb T=>by have:=(aj.2 b T).1;have:=ar.size;omega);have a7:=A_ (show ∀ b∈an,b≠w.1.size+1 from λb T=>by have:=(aj.2 b T).1;have:=E_ aE;omega);clear ak aj ab q1;obtain⟨bs,bt,l1⟩:=bx a6;go_wp2;refine BI (v:=.tuple #[AM #[QH U nU cU,QH (QL ⟨aP,aQ,aR⟩) m cI,AC (A8v (C3k p (A8r p os) (A4i p (A8r p os)))).1.1,QH aF aT aJ,QH aG aU aK],AC AD]) (by simp[BO,results41,go_sem, *]) rfl ?_;exact⟨U,nU,cU,uU,⟨aP,aQ,aR⟩,m,cI,aF,aT,aJ,aG,aU,aK,an,rfl,a1.keepG (A5y (A5y (A5y (A5y (A5y (B3a _ _)))))) (λai=>a8 _ ai rfl),aY.keepG (A5y (A5y (A5y (A5y (A5y (B3a _ _)))))) (λai=>a7 _ ai rfl),a9,au.grown (row:=QL (w.1.size+1)) (A5y (A5y (A5y (A5y (A5y (B3a _ _)))))) au.size (λx H=>by injection H with H;omega)⟩

theorem F6y {r:TRat} (h:J_ r=AD):(!r.den.isEmpty)=AD:=by
 unfold J_ at h;simp only[CK]at h;exact h.2.2.1
def B3q (p:TProblem) (os:Option TRat):TReport:=⟨p.1.triangles.length,enL p (A8r p os),(A2z p os).bound⟩
structure RepD (p:TProblem) (xs ys:List Int) (os:Option TRat):Prop where
 sd:SdD p xs ys os
 lin:LinD p (A8r p os)
 en:J_ (enL p (A8r p os))=AD
 bd:J_ (A2z p os).bound=AD
theorem D1k (v:AJ) (p:TProblem) (b:List Nat) (xs ys:List Int) (os:Option TRat) (w:QT) (aF:Agg w v p b) (h:RepD p xs ys os) :
  AR prog 14 #[v] w (D2c w (B3q p os)):=by
 have aS:=A_ aF;have am:=A_ h;have bp:=A_ (F6y h.en);have bq:=A_ (F6y h.bd);obtain⟨cm,cx,cq,cz,cn,n1,cs,cA,co,n2,ct,cB,cp,cy,c3,cD,rfl,rfl,b6,a9,b7,b8⟩:=FG aF;have bt:=A_ a9.1;clear b6 a9 b7 b8 aF h;go_enter func14,ntmps14;go_upto_region 1 with fail;refine Code.new2 λbM E=>?_;have aM:=A_ E.b;have an:=A_ E.k;have ao:=A_ E.l;clear E;obtain⟨bh,bi,af⟩:=bx an;go_wp2_with fail;refine(F3l _ p _ xs ys os bM (aS.below aM) am.sd).mono ?_;rintro _ ch ⟨U,b9,bO,cg,I,cw,cu,aq,aI,az,ar,aJ,aA,bN,rfl,a3,a2,be,ae⟩;have aR:=A_ a3;have aN:=A_ a2;have bL:=A_ (show ∀ b∈bN,w.1.size<=b/\b≠w.1.size+1 from λb G=>by have:=be b G;have:=E_ ao;constructor<;>omega);have bl:=A_ (AI aM ae);have bF:=A_ (A0z an ae);have bG:=A_ (A0z ao ae);clear a3 a2 be ae bh bi af an ao;go_upto_region 2 with fail;refine DH λci E=>?_;have Y:=A_ E.b;have H:=A_ E.k;have ah:=A_ (AI bl Y);have X:=A_ (A0z bF Y);have aT:=A_ (A0z bG Y);have bA:=A_ (aR.below Y);have bv:=A_ (aN.below Y);obtain⟨gS,a5⟩:∃ g,ch.1.size=g:=⟨_,rfl⟩
 rw[a5]at H ⊢;clear E aR aN a5;have bP:=(bx X).1 0;have bQ:=(bx X).1 1;have bR:=(bx X).1 2;have bS:=(bx X).1 3;have bT:=(bx H).1 0;have bU:=(bx H).1 2;have bV:=(bx H).1 3;have bW:=(bx H).1 4;have af:=E_ X;have l1:=E_ H;go_wp2_with fail;refine X_ sI ?_;dsimp only[DJ,DK,DI];iterate 7 refine C_ _ ?_
 refine D_ (MP.agg (enL p (A8r p os))) ?_ ?_;·intro ag ab aK D h;obtain⟨b3,b4⟩:=F_ D;simp at h;refine G_ ?_;exact H_ (F4j _ p _ U b9 bO _ cg aK (aS.below (AI ah D)) (bA.below D) am.lin)
 iterate 2 refine C_ _ ?_
 refine A9h (λbj=>AM ((#[N QO n1]++(bj 7).cells)++#[AC (A2z p os).bound.1.1,QH aq aI az,QH ar aJ aA])) (by intro y bj u;simp[N_,M_]at u;simp[u]) ?_ ?_;·intro ag ab aK D h;obtain⟨b3,b4⟩:=F_ D;simp at h;obtain⟨_,⟨ad,_⟩,_⟩:=h;obtain⟨aj,aG,ax,_,ak,aH,ay,_,aB,_,_,_⟩:=BK ad;refine⟨gD,?_⟩;go_simp;try simp[*,Value.cells]
 refine A1p #[N QO 0,AC AF,QH QJ 0 0,QH QJ 0 0,AC AF,QH QJ 0 0,QH QJ 0 0] 52 ?_ ?_;·intro ag ab aK D h;refine⟨gD,?_⟩;go_simp
 intro ag ab wa D h (a4:Hid _);simp at h;have cb:=h.2.2.2.2.2.2.2.1;have bf:=h.2.2.2.2.2.2.2.2.2.2.1;have ca:=h.2.2.2.2.2.2.2.2.2.2.2;obtain⟨⟨ad,-⟩,a8⟩:=cb;obtain⟨⟨gb,cF,aL,aD⟩,aE⟩:=ca;rw[aL]at aE;have b5:=(aE gb sI).1;have ac:=A_ (show ∀ b∈ab 7,b≠gb from λb G e=>by have:=a4 7 11 dE dE dE b G;rw[aL]at this;simp[e]at this);have ap:=A_ (show ∀ b∈ab 7,ci.1.size<=b from λb G=>(a8 b G).1);obtain⟨aj,aG,ax,ce,ak,aH,ay,cf,aB,bd,ba,bc⟩:=BK ad;have cv:ag 10=AM #[N QO n1,AC (enL p (A8r p os)).1.1,QH aj aG ax,QH ak aH ay,AC (A2z p os).bound.1.1,QH aq aI az,QH ar aJ aA]:=by rw[bf.1.1,aB];rfl
 rw[bd]at ac ap;have aP:=A_ ba;have aQ:=A_ bc;have aW:=A_ aD;have al:=A_ D;clear h a4 ad a8 bf aE aL aB bd ba bc D;obtain⟨T,W,l2⟩:=bx aD;clear aD bP bQ bR bS bT bU bV bW af l1;go_upto_region 5 with fail;refine Code.set7 aW λbg Z=>?_;have aU:=A_ Z.k;have ai:=A_ (Z.low al al.size b5);have au:=A_ (aP.keepG Z.gr (λu=>ac gb (List.mem_append_left _ u) rfl));have aw:=A_ (aQ.keepG Z.gr (λu=>ac gb (List.mem_append_right _ u) rfl));have aO:=A_ (bv.below ai);obtain⟨Q1,m1,aX,cc,Q2,m2,aY,cd,aC,ck,a6,a7⟩:=BK aO;obtain⟨rfl,rfl,rfl,rfl,rfl,rfl⟩:Q1=aq/\m1=aI/\aX=az/\Q2=ar/\m2=aJ/\aY=aA:=by simp at aC;obtain⟨⟨bX,aZ,a1⟩,bY,bZ,b0⟩:=aC;exact⟨bX.symm,aZ.symm,a1.symm,bY.symm,bZ.symm,b0.symm⟩
 have bs:=A_ (CU (x:=enL p (A8r p os)) au aw);have bE:=A_ (TReport.mkAgg (w:=bg) (x:=B3q p os) (by have:=am.sd.sol.md.1.t48;unfold I64;omega:I64 (p.1.triangles.length:Int)) au.o aw.o a6 a7)
 have br:=A_ (show ∀ b∈ce++(cf++(cc++cd)),w.1.size<=b/\b≠w.1.size+1 from λb G=>by
  have aZ:=ah.size;have a1:=E_ aT;rw[<-DM]at G;rcases CO.1 G with u|u
  ·have:=ap b u;constructor<;>omega
  exact bL.o b (ck ▸ u))
 have bm:=A_ (AI ah ai);have bH:=A_ (A0z aT ai);have bu:=A_ (by rw[bt.o]:(p.1.triangles.length:Int)=n1);clear Z aW al T W l2 ac ap aP aQ au aw aC a6 a7;obtain⟨T,W,l2⟩:=bx aU;go_wp2_with fail;have C:=A2p _ (enL p (A8r p os)) _ bg bs;rw[bp.o]at C;refine C.mono ?_;clear C T W l2;rintro _ cj ⟨rfl,O⟩;have aV:=A_ (A0z aU O);have bI:=A_ (A0z bH O);have bn:=A_ (AI bm O);have bz:=A_ (aO.below O);have bB:=A_ (bE.below O);clear O;obtain⟨T,W,l2⟩:=bx aV;go_wp2_with fail;have C:=A2p _ (A2z p os).bound _ cj bz;rw[bq.o]at C;refine C.mono ?_;clear C T W l2;rintro _ cE ⟨rfl,aa⟩;have bK:=A_ (A0z aV aa);have bJ:=A_ (A0z bI aa);have bo:=A_ (AI bn aa);have bD:=A_ (bB.below aa);clear aa;obtain⟨bh,bi,af⟩:=bx bJ;obtain⟨T,W,l2⟩:=bx bK;go_wp2;refine BI (v:=.tuple #[AM #[N QO n1,AC (enL p (A8r p os)).1.1,QH aj aG ax,QH ak aH ay,AC (A2z p os).bound.1.1,QH Q1 m1 aX,QH Q2 m2 aY],AC AD]) (by simp[BO,results14,go_sem, *]) rfl ?_;refine C3s (x:=B3q p os) ?_ br bo (Nat.le_succ _) (A5y (A5y (A5y (A5y (A5y (A5y (A5y (B3a _ _))))))));have u:=bD.o;rwa [show(B3q p os).triangles=(n1:Int)from bu.o]at u
structure RepOk (r:TReport):Prop where
 t0:1<=r.triangles
 t1:r.triangles<=48
 en:J_ r.energy=AD
 bd:J_ r.bound=AD
theorem F2z (v:AJ) (r:TReport) (b:List Nat) (w:QT) (Y:Agg w v r b) (u:RepOk r):AR prog 35 #[v] w (A0b w (AC AD)):=by
 obtain⟨an,n2,ar,aA,ao,ax,c3,aB,ap,ay,au,aC,aq,az,aw,aD,rfl,rfl,al,O,T,W,X⟩:=OC Y;have ag:=A_ (CU (x:=r.energy) O T);have af:=A_ (CU (x:=r.bound) W X);have ad:=A_ (by have:=u.t0;have:=u.t1;unfold inB;simp;omega:inB 1 r.triangles 48=AD);have ae:=A_ (by simp[u.en,u.bd]:[r.energy,r.bound].all J_=AD);clear Y al O T W X u;go_enter func35,ntmps35;go_upto_region 1 with fail;refine DH λaj h=>?_;have ac:=A_ h.b;have H:=A_ h.k;clear h;obtain⟨aa,ab,Z⟩:=bx H;go_wp2_with fail;have C:=A0s r.triangles 1 48 aj;rw[ad.o]at C;refine C.mono ?_;clear C;rintro _ aE ⟨rfl,G⟩;have D:=A_ (AI ac G);have ai:=A_ (A0z H G);clear G aa ab Z;obtain⟨aa,ab,Z⟩:=bx ai;go_wp2_with fail;refine AR.new λak h=>?_;have E:=A_ h.b;have ah:=A_ h.k;clear h;have C:=A1r _ 2 2 [r.energy,r.bound] _ ak (sl2 ah ((ag.below D).below E) ((af.below D).below E));rw[ae.o]at C;refine C.mono ?_;clear C;rintro _ w3 ⟨rfl,am⟩;go_wp2;refine BI (FQ rfl _ _ _) rfl ⟨rfl,AI (AI D E) am⟩
theorem E3e:A4f 34:=λa w=>kR
theorem E5u (v:AJ) (r:TReport) (b:List Nat) (w:QT) (u:Agg w v r b) (E:RepOk r):AR prog 34 #[v] w (A0b w (AC AF)):=by
 have H:=A_ u;have G:=A_ E;obtain⟨X,n2,ab,ai,Y,af,c3,aj,Z,ag,ac,ak,aa,ah,ad,al,rfl,rfl,-,-,-,-,-⟩:=OC u;clear u E;go_enter func34,ntmps34;go_upto_region 1 with fail;refine DH λT h=>?_;have D:=A_ h.b;have O:=A_ h.k;clear h;obtain⟨an,ao,ae⟩:=bx O;go_wp2_with fail;refine(F2z _ r _ T (H.below D) G).mono ?_;rintro _ am ⟨rfl,W⟩;go_wp2;refine BI (FQ rfl _ _ _) rfl ⟨rfl,AI D W⟩
theorem F2v (A:Option Addr) (n c:Nat) (xs:List TReport) (bs:List Nat) (w:QT) (b:Sl w A n c xs bs) (ok:∀ r∈xs,RepOk r) :
  AR prog 33 #[QH A n c,.func (.func 34) #[] #[]] w (A0b w (AC AF)):=by
 have X:=A_ b;have T:=A_ ok;have ad:n<=BG:=BM b.2.1 b.2.2.1;unfold BG at ad;have I:AR prog 65 #[QH A n c,.func (.func 34) #[] #[]] w (A0b w (N QO (-1))):=by
  have aa:=E3e;unfold A4f at aa;clear b ok;go_enter func65,ntmps65;go_wp2_with fail;go_loopg [8] n (λg s8 wr=>∃ k:Nat,k+g=n/\s8=N QO k/\Bw w wr);case atStart=>exact⟨0,oS,rfl,Below.refl _ _⟩
  case round =>
   obtain⟨k,G,rfl,u⟩:=hrel;rcases BN k n with h|h
   ·obtain⟨aj,aB,x,af,n2,ak,aC,ag,ay,c3,aD,ah,az,al,aE,ai,aA,am,aF,rfl,ax,H,an,ao,ap,aq,ar,au,aw,E⟩:=TReport.elemA (Sl.below X u) h
    have W:=A_ (T x (CH H));have O:=A_ E;have ac:(k:Int)<n:=oS;obtain⟨g,rfl⟩:∃ g,gk=g+1:=⟨gk - 1,oS⟩
    have ab:=A_ (by omega:k+1+g=n);clear H G h E;go_wp2_with fail;refine(E5u _ x _ wr O W).mono ?_;rintro _ ae ⟨rfl,D⟩;have Z:=AI u D;go_wp2_with fail;go_roundg g;case measure=>omega
    case rel=>exact⟨k+1,ab,gN,Z⟩
   have ac:¬ ((k:Int)<n):=oS;clear G h;go_wp2;go_ret;exact⟨rfl,u⟩
 have Y:=A_ I;clear b ok I;go_enter func33,ntmps33;go_wp2_with fail;refine Y.mono ?_;rintro _ ae ⟨rfl,D⟩;go_wp2;refine BI (FQ rfl _ _ _) rfl ⟨rfl,D⟩
structure StD (s:TState) (xs ys:List Int) (os:Option TRat):Prop where
 rep:RepD s.problem xs ys os
 part:B3f s.part=AD
 l1:1<=s.reports.length
 l10:s.reports.length<=10
 ok:∀ r∈s.reports,RepOk r
 last:s.reports[s.reports.length - 1]?=QL (B3q s.problem os)
theorem D4f (v:AJ) (s:TState) (b:List Nat) (xs ys:List Int) (os:Option TRat) (w:QT) (af:Agg w v s b) (D:StD s xs ys os) :
  AR prog 10 #[v] w (A0b w (AC AD)):=by
 have bi:=A_ af;have X:=A_ D;obtain⟨a3,bQ,bl,b3,a4,n1,bm,b4,a5,n2,bn,b5,a6,bR,c3,b6,a7,bS,bo,b7,a8,bT,bp,b9,aG,aF,aS,aU,rfl,rfl,aw,ax,ay,az,T,aA,Z⟩:=TState.agg af;have al:=A_ (JS (x:=s.problem) aw ax ay az);have aN:=A_ (CU (x:=s.part) T aA);have am:=A_ Z;have aD:=Z.1;obtain⟨k,rfl⟩:∃ k,aF=k+1:=⟨aF - 1,by have:=D.l1;omega⟩
 have bK:(k:Int)<=9:=by have:=D.l10;omega
 have aJ:=A_ (by unfold inB;simp;omega:inB 1 (k+1) 10=AD);have aP:=A_ (by have:=D.last;rwa [aD]at this:s.reports[k]?=QL (B3q s.problem os));clear aw ax ay az T aA Z af D aD;go_enter func10,ntmps10;go_upto_region 1 with fail;refine DH λaR O=>?_;have aH:=A_ O.b;have an:=A_ O.k;clear O;obtain⟨G,H,E⟩:=bx an;go_wp2_with fail;have C:=A0s (k+1) 1 10 aR;rw[aJ.o]at C;refine C.mono ?_;clear C;rintro _ aV ⟨rfl,aa⟩;have ag:=A_ (AI aH aa);have ao:=A_ (A0z an aa);clear aa G H E;obtain⟨G,H,E⟩:=bx ao;go_wp2_with fail;have C:=B5g _ s.part _ aV (aN.below ag);rw[X.o.part]at C;refine C.mono ?_;clear C;rintro _ aW ⟨rfl,ab⟩;have ah:=A_ (AI ag ab);have ap:=A_ (A0z ao ab);clear ab G H E;obtain⟨G,H,E⟩:=bx ap;go_wp2_with fail;refine(F2v aG (k+1) aS s.reports aU aW (am.below ah) X.ok).mono ?_;rintro _ w3 ⟨rfl,ac⟩;have ai:=A_ (AI ah ac);have aq:=A_ (A0z ap ac);clear ac G H E;obtain⟨G,H,E⟩:=bx aq;go_wp2_with fail;refine(B5t _ s.problem _ xs ys w3 (al.below ai) X.rep.sd.sol.pr).mono ?_;rintro _ aX ⟨rfl,ad⟩;have aj:=A_ (AI ai ad);have ar:=A_ (A0z aq ad);clear ad G H E;obtain⟨G,H,E⟩:=bx ar;go_wp2_with fail;refine(D1k _ s.problem _ xs ys os aX (al.below aj) X.rep).mono ?_;rintro _ aY ⟨ca,b8,rfl,T,-,ae⟩;obtain⟨be,m2,bq,_,bf,bN,br,_,bg,bO,bs,_,bh,bP,bt,_,rfl,-,-,-,-,-,-⟩:=OC T;have aK:=A_ T;have aI:=A_ (AI aj ae);have aO:=A_ (A0z ar ae);clear T ae G H E;go_upto_region 5 with fail;refine DH λcb O=>?_;have Y:=A_ O.b;have u:=A_ O.k;have ak:=A_ (AI aI Y);have au:=A_ (A0z aO Y);have aL:=A_ (aK.below Y);obtain⟨bG,aC⟩:∃ g,aY.1.size=g:=⟨_,rfl⟩
 rw[aC]at u ⊢;clear O aC;obtain⟨bj,bU,x,a9,p2,q2,_,ba,bV,bY,_,bc,bW,bZ,_,bd,bX,b0,_,rfl,bH,aE,bu,bv,bz,bA,bB,bD,bE,aB⟩:=TReport.elemA (am.below ak) (Nat.lt_succ_self k);obtain rfl:x=B3q s.problem os:=by have:=aP.symm.trans aE;injection this with h;exact h.symm
 have aM:=A_ aB;have aQ:=A_ (by simp:decide (B3q s.problem os=B3q s.problem os)=AD);generalize B3q s.problem os=r at *;have bF:=(bx au).1 7;have bL:=E_ au;have cc:=(bx u).1 0;have cd:=(bx u).1 1;have ce:=(bx u).1 2;have cf:=(bx u).1 3;have cg:=(bx u).1 4;have ch:=(bx u).1 5;have ci:=(bx u).1 6;have bM:=E_ u;clear aE aB;refine A0g ?_;iterate 9 refine C_ _ ?_
 refine D_ (MP.eq (AC AD)) ?_ ?_;·intro a1 a2 aZ W D;obtain⟨bI,bJ⟩:=F_ W;simp at D;refine G_ ?_;have C:=C2f _ _ r r _ _ aZ (aL.below W) (aM.below W);rw[aQ.o]at C;exact A0i C
 iterate 2 refine C_ _ ?_
 intro a1 a2 wa W D aT;clear aT;simp at D;go_simp;go_wp2;refine BI (FQ rfl _ _ _) rfl ⟨rfl,AI ak W⟩
end Go.Proofs.YtbkilakncnlebaaGreatDoor.X

namespace Go.XB
open Go.RowKit Go.Proofs.YtbkilakncnlebaaGreatDoor.X
def MP.slboxN (n:Nat) (cs:Array AJ) (t:TypeId):MP:=⟨λv bs w=>∃ g,v=QH (QL ⟨g,0,QJ⟩) n n/\bs=[g]/\w.1[g]?=QL (AK cs t),λv bs w w' hb h=>by
 obtain⟨g,e,hz,hg⟩:=h;exact⟨g,e,hz,(hb.block g (E_ hg)).trans hg⟩⟩
theorem sl1 {α:Type} [Dat α] {h:QT} {g:Nat} {L:List AJ} {t:TypeId} {x:α} {b:List Nat} (K:h.1[g]?=QL (AK L.toArray t)) (G:Agg h (AM L.toArray) x b):Sl h (QL ⟨g,0,QJ⟩) 1 1 [x] (g::b):=by
 refine⟨rfl,BH _,by unfold BG;decide,λE=>absurd E dE,λ_=>⟨g,0,[b],rfl,sI,rfl,E_ K,λk y O u D=>?_⟩⟩;rcases k with _|k
 ·simp at u D;subst u;subst D;refine⟨L,λj T H=>?_,D5g G⟩;rw[show 0+(0*Dat.sz α+j)=j by omega,(bxL K).1 j];exact H
 simp at u
end Go.XB
namespace Go.Proofs.YtbkilakncnlebaaGreatDoor.X
open Go.RowKit Go.XB Go.XN Proofs.Tryz
attribute [local go_sem] L_ Go.XB.opAt N_ M_ Region.wanted yielded
attribute [local simp] N_ M_ MP.eq MP.agg MP.sl A0r
section
attribute [local go_sem] B9n
attribute [local simp] MP.slbox MP.slboxN
theorem F5m (r:TReport):A6d (B1c ([114,32]++FS r.triangles) [r.energy,r.bound])=A6d (C9d r):=by
 unfold B1c C9d;rw[C0m,C0m];simp
theorem E5l (s:TState):A1z ((A5d s).take ((A5h s.problem).length+1))=B8l s.problem++(A6d (B1c C8m [s.part])++[10]):=by
 have e:(A5d s).take ((A5h s.problem).length+1)=A5h s.problem++[A6d (B1c C8m [s.part])]:=by unfold A5d;rw[List.take_append,CZ oS,Nat.add_sub_cancel_left];rfl
 rw[e];unfold B8l;simp[A1z]
theorem D4c {s:TState} {i:Nat} {r:TReport} (h:s.reports[i]?=QL r):(A5d s)[(A5h s.problem).length+1+i]?=QL (A6d (C9d r)):=by
 unfold A5d;rw[JO oS,show(A5h s.problem).length+1+i - (A5h s.problem).length=i+1 by omega,List.getElem?_cons_succ,List.getElem?_map,h];rfl
structure StX (s:TState) (xs ys:List Int):Prop where
 pr:ProbI s.problem xs ys
 pt:∀ q∈s.problem.1.1,A1b q=AD
 tx:F3n s
 ok:∀ r∈s.reports,RepOk r
theorem D4l {s:TState} (h:F3n s):(C1k s).length<=1010101:=by
 refine C1i (C5s h).1 ?_;rw[(C5s h).2];have:=(B7p h.1).2;have:=h.2.1;omega
theorem D6k (v:AJ) (s:TState) (b:List Nat) (xs ys:List Int) (w:QT) (a8:Agg w v s b) (h:StX s xs ys) (a7:TabOk w) :
  AR prog 28 #[v] w (A0b w (.string ⟨(C1k s).toArray⟩)):=by
 have ae:=A_ h;have ah:=A_ a7;obtain⟨bP,b6,bW,b9,bQ,n1,bX,ca,bR,n2,bY,cb,bS,b7,c3,cc,aK,a9,aT,cd,aL,ba,aU,ce,bT,n,bZ,cf,rfl,rfl,aY,aZ,a1,a2,a3,a4,ak⟩:=TState.agg a8;have bt:=A_ (JS (x:=s.problem) aY aZ a1 a2);have bu:=A_ (CU (x:=s.part) a3 a4);have bv:=A_ ak;have bs:=A_ ak.1;have b5:(n:Int)<=10:=by have:=h.tx.2.1;have:=ak.1;omega
 have br:=A_ (λi=>BM (D5s (A5d s) i) (D4l h.tx));have am:=A_ (E5l s);have bK:(B8l s.problem).length<=1010101:=(B7p h.tx.1).2.2.2;have bL:=(C3r (word:=C8m) (u:=[s.part]) dE dE sI).2;obtain⟨ai,aC⟩:∃ T,B8l s.problem=T:=⟨_,rfl⟩
 obtain⟨aj,aD⟩:∃ T,A6d (B1c C8m [s.part])=T:=⟨_,rfl⟩
 rw[aC]at bK am;rw[aD]at bL am;have bm:=A_ aC;have bn:=A_ aD;clear aY aZ a1 a2 a3 a4 ak a8 h a7 aC aD;go_enter func28,ntmps28;go_upto_region 1 with fail;refine DH λbU Y=>?_;have ad:=A_ Y.b;have W:=A_ Y.k;clear Y;have ar:=(bx W).1 0;have au:=(bx W).1 1;have aw:=(bx W).1 2;have ax:=(bx W).1 3;have ay:=(bx W).1 4;have az:=(bx W).1 5;have aA:=(bx W).1 6;have ag:=E_ W;refine A0g ?_;iterate 2 refine C_ _ ?_
 refine D_ (MP.eq (.string ⟨ai.toArray⟩)) ?_ ?_;·intro H O E D h;obtain⟨ab,ac⟩:=F_ D;simp at h;refine G_ ?_;have C:=C4s _ s.problem _ xs ys E (Agg.below bt (AI ad D)) ae.pr ae.pt ae.tx.1 (ah.below (AI ad D));rw[bm.o]at C;refine C.mono ?_;rintro e w' ⟨rfl,G⟩;exact⟨_,rfl,G,[],⟨rfl,rfl⟩,λb G=>by simp at G⟩
 iterate 2 refine C_ _ ?_
 refine D6o (MP.slboxN 1 #[AC s.part.1.1,QH aK a9 aT,QH aL ba aU] 35) ?_ ?_;·intro H O E D h;simp at h;refine⟨gD,QH (QL ⟨E.1.size,0,QJ⟩) 1 1,E.alloc (AK #[AC s.part.1.1,QH aK a9 aT,QH aL ba aU] 35),?_,AV _,[E.1.size],⟨E.1.size,rfl,rfl,CF E _⟩,sI⟩;go_simp
 refine D_ (MP.eq (.string ⟨(aj++[10]).toArray⟩)) ?_ ?_;·intro H O E D h;obtain⟨ab,ac⟩:=F_ D;simp at h;obtain⟨⟨aa,aq,bO,aF⟩,_⟩:=h;refine G_ ?_;have C:=C1c C8m (QL ⟨aa,0,QJ⟩) 1 1 [s.part] _ E (sl1 aF (Agg.below bu (AI ad D))) dE dE (ah.below (AI ad D));rw[bn.o]at C;refine C.mono ?_;rintro e w' ⟨rfl,G⟩;exact⟨_,rfl,G,[],⟨rfl,rfl⟩,λb G=>by simp at G⟩
 refine A2b (.string ⟨(ai++(aj++[10])).toArray⟩) ?_ ?_;·intro H O E D h;obtain⟨ab,ac⟩:=F_ D;simp at h;refine⟨gD,?_⟩;go_simp;omega
 refine C_ _ ?_;intro H O wa D h aE;clear aE;simp at h;go_simp;have bi:=A_ (AI ad D);have bz:=A_ (A0z W D);have aM:=A_ (show ai++(aj++[10])=A1z ((A5d s).take ((A5h s.problem).length+1+0))from am.symm);clear ar au aw ax ay az aA ag D h;obtain⟨bM,bN,ag⟩:=bx bz;generalize H 5=ck at *;obtain⟨M,aB⟩:∃ M,(A5h s.problem).length+1=M:=⟨_,rfl⟩
 have aR:=A_ aB;rw[aB]at aM;clear aB;go_wp2_with fail;go_loopg [3,17] n (λg t x wr=>∃ i:Nat,i+g=n/\x=N QO i/\t=.string ⟨(A1z ((A5d s).take (M+i))).toArray⟩/\Hid (Bw w wr));case atStart=>exact⟨0,oS,rfl,by show Value.string ⟨(ai++(aj++[10])).toArray⟩=_;rw[aM.o];rfl,bi⟩
 case round =>
  clear bM bN ag;obtain⟨i,aG,rfl,rfl,B⟩:=hrel;rcases BN i n with aH|aH
  ·have bJ:(i:Int)<n:=oS
   obtain⟨g,rfl⟩:∃ g,gk=g+1:=⟨gk - 1,oS⟩
   obtain⟨bV,b8,r,aN,p2,q2,u2,aO,bc,bf,cg,aP,bd,bg,ch,aQ,be,bh,ci,rfl,bI,aJ,bA,bB,bD,bE,bF,aq,bG,bH,aV,aW,aa,aX,-⟩:=TReport.elem (bv.below B) aH;have bp:=A_ (CU (x:=r.energy) aV aW);have bo:=A_ (CU (x:=r.bound) aa aX);have aI:=D4c aJ;rw[aR.o]at aI;have ap:=A_ (C8h aI);have Z:=A_ (ae.ok r (CH aJ));have bq:=A_ aG;have a6:=D4o (r:=r) (by have:=Z.t0;omega) (by have:=Z.o.t1;omega);have b4:=D0q (n:=r.triangles) (by have:=Z.t0;omega) (by have:=Z.o.t1;omega);have aS:=A_ (F5m r);obtain⟨af,a5⟩:∃ af,A6d (C9d r)=af:=⟨_,rfl⟩
   rw[a5]at ap a6 aS;have an:=A_ (br (M+i+1));rw[ap.o,EF,EF]at an;have b3:(A1z ((A5d s).take (M+i))).length+(af.length+1)<=1010101:=an.o;generalize A1z ((A5d s).take (M+i))=U at *;clear aI aJ aG a5 a6 bH aV aW aa aX an;go_upto_region 5 with fail;refine DH λcj Y=>?_;have ao:=A_ Y.b;have X:=A_ Y.k;have al:=A_ (AI B ao);clear Y bA bB bD bE bF aq bG bI;have ar:=(bx X).1 0;have au:=(bx X).1 1;have aw:=(bx X).1 2;have ax:=(bx X).1 3;have ay:=(bx X).1 4;have az:=(bx X).1 5;have aA:=(bx X).1 6;have ag:=E_ X;refine A0g ?_;iterate 3 refine C_ _ ?_
   refine D_ (MP.eq (.string ⟨(FS r.triangles).toArray⟩)) ?_ ?_;·intro H O E D h;obtain⟨ab,ac⟩:=F_ D;simp at h;refine G_ ?_;refine(C0f r.triangles (by have:=Z.t0;omega) (by have:=Z.o.t1;omega) E (ah.o.below (AI al.o D))).mono ?_;rintro e w' ⟨rfl,G⟩;exact⟨_,rfl,G,[],⟨rfl,rfl⟩,λb G=>by simp at G⟩
   refine A2b (.string ⟨([114,32]++FS r.triangles).toArray⟩) ?_ ?_;·intro H O E D h;obtain⟨ab,ac⟩:=F_ D;simp at h;refine⟨gD,?_⟩;go_simp;omega
   iterate 4 refine C_ _ ?_
   refine D6o (MP.slboxN 2 #[AC r.energy.1.1,QH aN p2 q2,QH aO bc bf,AC r.bound.1.1,QH aP bd bg,QH aQ be bh] 35) ?_ ?_;·intro H O E D h;simp at h;refine⟨gD,QH (QL ⟨E.1.size,0,QJ⟩) 2 2,E.alloc (AK #[AC r.energy.1.1,QH aN p2 q2,QH aO bc bf,AC r.bound.1.1,QH aP bd bg,QH aQ be bh] 35),?_,AV _,[E.1.size],⟨E.1.size,rfl,rfl,CF E _⟩,sI⟩;go_simp
   refine D_ (MP.eq (.string ⟨(af++[10]).toArray⟩)) ?_ ?_;·intro H O E D h;obtain⟨ab,ac⟩:=F_ D;simp at h;obtain⟨b0,⟨aa,aq,bO,aF⟩,_⟩:=h;refine G_ ?_;have C:=C1c ([114,32]++FS r.triangles) (QL ⟨aa,0,QJ⟩) 2 2 [r.energy,r.bound] _ E (sl2 aF (Agg.below bp.o (AI ao.o D)) (Agg.below bo.o (AI ao.o D))) oR dE (ah.o.below (AI al.o D));rw[aS.o]at C;refine C.mono ?_;rintro e w' ⟨rfl,G⟩;exact⟨_,rfl,G,[],⟨rfl,rfl⟩,λb G=>by simp at G⟩
   refine A2b (.string ⟨(U++(af++[10])).toArray⟩) ?_ ?_;·intro H O E D h;obtain⟨ab,ac⟩:=F_ D;simp at h;refine⟨gD,?_⟩;go_simp;omega
   refine C_ _ ?_;intro H O wb D h aE;clear aE;simp at h;go_simp;have bj:=A_ (AI al D);clear ar au aw ax ay az aA ag D h;generalize H 9=cm at *;go_wp2_with fail;go_roundg g;case measure=>omega
   case rel=>exact⟨i+1,by have:=bq.o;omega,gN,by show _=Value.string ⟨(A1z ((A5d s).take (M+i+1))).toArray⟩;rw[ap.o],bj.o⟩
  obtain rfl:i=n:=oS;have bJ:¬ ((i:Int)<i):=oS;have bl:=A_ (by rw[CZ (by rw[(C5s ae.o.tx).2,aR.o,bs.o];exact BH _)];rfl:A1z ((A5d s).take (M+i))=C1k s);clear aG aH;go_wp2;refine BI (FQ rfl _ _ _) rfl ⟨?_,B⟩;rw[<-bl.o];rfl
theorem C7l (v:AJ) (s:TState) (b:List Nat) (xs ys:List Int) (os:Option TRat) (w:QT) (E:Agg w v s b) (W:StD s xs ys os) (T:StX s xs ys) (X:TabOk w) :
  AR prog 8 #[v] w (A0b w (.string ⟨(C1k s).toArray⟩)):=by
 have H:=A_ E;have ac:=A_ W;have ab:=A_ T;have ad:=A_ X;obtain⟨ai,ay,ap,aC,aj,n1,aq,aD,ak,n2,ar,aE,al,az,c3,aF,am,aA,au,aG,an,aB,aw,aH,ao,n,ax,aI,rfl,rfl,-,-,-,-,-,-,-⟩:=TState.agg E;clear E W T X;go_enter func8,ntmps8;go_upto_region 1 with fail;refine DH λaf u=>?_;have G:=A_ u.b;have O:=A_ u.k;clear u;obtain⟨Z,aa,Y⟩:=bx O;go_wp2_with fail;refine(D4f _ s _ xs ys os af (H.below G) ac).mono ?_;rintro _ ah ⟨rfl,D⟩;have h:=A_ (AI G D);have ae:=A_ (A0z O D);clear D Z aa Y;obtain⟨Z,aa,Y⟩:=bx ae;go_wp2_with fail;refine(D6k _ s _ xs ys ah (H.below h) ab (ad.below h)).mono ?_;rintro _ aJ ⟨rfl,ag⟩;go_wp2;refine BI (FQ rfl _ _ _) rfl ⟨rfl,AI h ag⟩
end
attribute [local simp] MP.aggV MP.slbox MP.slboxN
def C9l (p:TProblem) (part:TRat) (os:Option TRat):TState:=⟨p,part,[B3q p os]⟩
theorem E3g (v:AJ) (p:TProblem) (b:List Nat) (bv:AJ) (part:TRat) (bN:List Nat) (xs ys:List Int) (os:Option TRat) (w:QT) (aw:Agg w v p b) (au:Agg w bv part bN) (h:RepD p xs ys os) (ae:B3f part=AD) (aZ:CopD p) :
  AR prog 5 #[v,bv] w (D2c w (C9l p part os)):=by
 have aN:=A_ aw;have aJ:=A_ au;have bG:=A_ h;have bH:=A_ ae;have bF:=A_ aZ;have V:=A_ (ratOkB_iff.1 (by unfold B3f at ae;simp only[CK]at ae;exact ae.1:J_ part=AD));obtain⟨cb,cm,cf,cq,cc,n1,cg,cs,cd,n2,ch,ct,ce,cn,c3,cu,rfl,rfl,-,-,-,-⟩:=FG aw;obtain⟨P1,m1,ci,co,P2,m2,cj,cp,rfl,rfl,-,-⟩:=BK au;clear aw au h ae aZ;go_enter func5,ntmps5;go_upto_region 1 with fail;refine Code.new3 λbM O=>?_;have ax:=A_ O.b;have am:=A_ O.k;have aQ:=A_ O.l;have ao:=A_ O.m;clear O;obtain⟨ah,ai,X⟩:=bx am;go_wp2_with fail;refine(D1k _ p _ xs ys os bM (aN.below ax) bG).mono ?_;rintro _ b0 ⟨v1,bn,rfl,ac,l1,ad⟩;obtain⟨aF,p2,q2,_,aG,bd,bg,_,aH,be,bh,_,aI,bf,bi,_,rfl,a4,-,-,-,-,-⟩:=OC ac;rw[<-a4]at *;have aK:=A_ ac;have bL:=A_ (show ∀ b∈bn,w.1.size+1+1<b from λb G=>by have:=l1 b G;have:=E_ ao;omega);have bD:=A_ (AI ax ad);have aO:=A_ (A0z am ad);have aR:=A_ (A0z aQ ad);have aS:=A_ (A0z ao ad);clear ac l1 ad a4 ah ai X am aQ ao;go_upto_region 2 with fail;refine DH λb3 O=>?_;have aa:=A_ O.b;have al:=A_ O.k;have aA:=A_ (AI bD aa);have aP:=A_ (A0z aO aa);have an:=A_ (A0z aR aa);have aT:=A_ (A0z aS aa);have aL:=A_ (aK.below aa);obtain⟨gB,a3⟩:∃ g,b0.1.size=g:=⟨_,rfl⟩
 rw[a3]at al ⊢;clear O a3 aK aO aR aS;obtain⟨ah,ai,X⟩:=bx an;go_wp2_with fail;have C:=B5g _ part _ b3 (aJ.below aA);rw[bH.o]at C;refine C.mono ?_;clear C ah ai X;rintro _ w3 ⟨rfl,W⟩;have ak:=A_ (AI aA W);have Z:=A_ (A0z aP W);have ag:=A_ (A0z an W);have aU:=A_ (A0z aT W);have T:=A_ (A0z al W);have bI:=A_ (aL.below W);clear W aP an aT al aL;go_upto_region 4 with fail;have bO:=(bx Z).1 0;have bP:=(bx Z).1 1;have bQ:=(bx Z).1 2;have bR:=(bx Z).1 3;have bS:=(bx ag).1 0;have bT:=(bx ag).1 1;have bU:=(bx ag).1 2;have b4:=(bx T).1 0;have b5:=(bx T).1 1;have b6:=(bx T).1 2;have b7:=(bx T).1 3;have b8:=(bx T).1 4;have b9:=(bx T).1 5;have ca:=(bx T).1 6;have X:=E_ Z;have l1:=E_ ag;have l2:=E_ T;refine W_ 7 kR kR kR kR kR ?_;simp only[List.take_succ_cons,ET,List.drop_succ_cons,List.drop_zero];refine C_ _ ?_;refine D_ (MP.aggV p) ?_ ?_;·intro af Y H E h;obtain⟨a1,a2⟩:=F_ E;simp at h;refine G_ ?_;exact(C0h _ p _ H ((aN.below ak).below E) bF).mono λ_ _ ⟨u,s,he,ha,hn,G⟩=>⟨u,he,G,s,ha,λb G=>⟨hn b G,ha.lt b G⟩⟩
 refine C_ _ ?_;refine D_ (MP.agg part) ?_ ?_;·intro af Y H E h;obtain⟨a1,a2⟩:=F_ E;simp at h;refine G_ ?_;exact H_ (A3n _ part _ H ((aJ.below ak).below E) (BM V.num24 dE) (BM V.den24 dE))
 refine C_ _ ?_;refine D6o (MP.slboxN 1 #[N QO (B3q p os).triangles,AC (B3q p os).energy.1.1,QH aF p2 q2,QH aG bd bg,AC (B3q p os).bound.1.1,QH aH be bh,QH aI bf bi] 52) ?_ ?_;·intro af Y H E h;simp at h;refine⟨gD,QH (QL ⟨H.1.size,0,QJ⟩) 1 1,H.alloc (AK #[N QO (B3q p os).triangles,AC (B3q p os).energy.1.1,QH aF p2 q2,QH aG bd bg,AC (B3q p os).bound.1.1,QH aH be bh,QH aI bf bi] 52),?_,AV _,[H.1.size],⟨H.1.size,rfl,rfl,CF H _⟩,sI⟩;go_simp
 refine A9h (λaj=>AM (((aj 1).cells++(aj 3).cells)++#[aj 5])) (by intro y aj D;simp[N_,M_]at D;simp[D]) ?_ ?_;·intro af Y H E h;obtain⟨a1,a2⟩:=F_ E;simp at h;obtain⟨ac,⟨bV,_⟩,⟨ab,ap,_,_⟩⟩:=h;obtain⟨_,_,_,_,_,_,_,_,_,_,_,_,_,_,_,_,aq,_⟩:=FG ac;obtain⟨_,_,_,_,_,_,_,_,ar,_⟩:=BK bV;refine⟨gD,?_⟩;go_simp;try simp[*,Value.cells]
 intro af Y wa E h bW;clear bW;simp at h;have u1:=h.2.1;have bY:=h.2.2.2.1;have bZ:=h.2.2.2.2.2.1;have bu:=h.2.2.2.2.2.2;obtain⟨aW,bj⟩:=u1;obtain⟨⟨aX,-⟩,bl⟩:=bY;obtain⟨⟨ab,ap,bz,aY⟩,bm⟩:=bZ;obtain⟨ay,a5,a8,_,az,a6,a9,_,aB,i2,ba,_,aC,a7,bc,_,aq,bA,bo,bp,bq,br⟩:=FG aW;obtain⟨aD,k1,o1,_,aE,k2,o2,_,ar,bB,bs,bt⟩:=BK aX;have ck:af 6=AM #[QH ay a5 a8,QH az a6 a9,QH aB i2 ba,QH aC a7 bc,AC part.1.1,QH aD k1 o1,QH aE k2 o2,QH (QL ⟨ab,0,QJ⟩) 1 1]:=by rw[bu.1.1,aq,ar,ap];rfl
 have bE:=A_ (AI ak E);have bK:=A_ (A0z aU E);have bX:=E_ aU;have aM:=bI.below E;have bJ:=A_ (TState.mkAgg (x:=C9l p part os) bo bp bq br bs bt (sl1 aY aM))
 have aV:=A_ (show ∀ b∈Y 1++(Y 3++(ab::bn)),w.1.size+1+1<b from λb G=>by
  rcases CO.1 G with D|D;·have:=(bj b D).1;omega
  rcases CO.1 D with D|D;·have:=(bl b D).1;omega
  rcases List.mem_cons.1 D with D|D;·have:=(bm ab (by rw[bz];simp)).1;omega
  exact bL b D)
 rw[bA,bB]at aV;clear h bu aW aX bj bl bm bz aY aq ar ap bA bB bo bp bq br bs bt aM bO bP bQ bR bS bT bU b4 b5 b6 b7 b8 b9 ca X l1 l2 bX E;obtain⟨ah,ai,X⟩:=bx bK;go_wp2;refine BI (v:=.tuple #[AM #[QH ay a5 a8,QH az a6 a9,QH aB i2 ba,QH aC a7 bc,AC part.1.1,QH aD k1 o1,QH aE k2 o2,QH (QL ⟨ab,0,QJ⟩) 1 1],AC AD]) (by simp[BO,results5,go_sem, *]) rfl ?_;refine C3s (x:=C9l p part os) (g:=w.1.size+1+1) bJ.o (λb G=>?_) bE.o oS (A5y (A5y (A5y (A5y (A5y (A5y (A5y (A5y (B3a _ _)))))))));have:=aV.o b (by simpa[DM]using G);constructor<;>omega
section
attribute [local go_sem] B9n
theorem E2m (r:TReport) (ok:RepOk r) (w:QT) (aB:TxOk w) :
  AR prog 27 #[.string ⟨(A6d (C9d r)).toArray⟩] w (D2c w r):=by
 have O:=A_ aB;have u:=A_ ok;have aj:=A_ (C4x (ws:=C9d r) (F5d (by have:=ok.t0;omega) dE) (by simp[C9d]));have a3:=(D4o (r:=r) (by have:=ok.t0;omega) (by have:=ok.t1;omega)).2;clear aB ok;obtain⟨S,ar⟩:∃ S,A6d (C9d r)=S:=⟨_,rfl⟩
 rw[ar]at a3 aj ⊢;clear ar;go_enter func27,ntmps27;go_upto_region 1 with fail;refine DH λW b=>?_;have ad:=A_ b.b;have ab:=A_ b.k;clear b;go_wp2_with fail;have C:=C8e S 32 oS W (O.o.below ad.o).m;rw[aj.o,show(C9d r).length=4 from rfl]at C;refine C.mono ?_;clear C;rintro _ aD ⟨rfl,G,ac⟩;have am:=A_ G;have ae:=A_ (AI ad ac);have aR:=A_ (A0z ab ac);have ao:=A_ (show w.1.size<W.1.size/\W.1.size<aD.1.size from⟨E_ ab,E_ G⟩);have aC:=G.cell (j:=0) (l:=[114]) rfl;have q1:=G.cell (j:=1) (l:=FS r.triangles) rfl;have au:=E_ G;obtain⟨bf,aw⟩:∃ g,W.1.size=g:=⟨_,rfl⟩
 rw[aw]at aC q1 au am ao ⊢;clear G ac ab aw;go_wp2_with fail;refine(D1r r.triangles (by have:=u.t0;omega) (by have:=u.o.t1;omega) aD (O.o.below ae.o).t).mono ?_;rintro _ a7 ⟨rfl,X⟩;have an:=A_ (am.below X);have Z:=A_ (AI ae X);have ak:=A_ (A0z aR X);have q2:=an.cell (j:=2) (l:=A9t r.energy) rfl;clear X aC q1 au;go_wp2_with fail;refine(B7j r.energy u.en a7 (O.below Z)).mono ?_;rintro _ w3 ⟨v1,bh,rfl,ap,o1,Y⟩;obtain⟨aE,n1,aY,bj,aF,n2,aZ,bl,rfl,rfl,ax,ay⟩:=BK ap;have af:=A_ ax;have ah:=A_ ay;have O1:=A_ (λD h=>(o1.2 D h).1);have aI:=A_ (AI Z Y);have aS:=A_ (A0z ak Y);have aV:=A_ (an.below Y);clear ap o1 ax ay Y q2;go_upto_region 6 with fail;refine DH λa8 b=>?_;have H:=A_ b.b;have aO:=A_ b.k;have aa:=A_ (AI aI H);have al:=A_ (A0z aS H);have aW:=A_ (aV.below H);have ag:=A_ (af.below H);have ai:=A_ (ah.below H);have a6:=aW.cell (j:=3) (l:=A9t r.bound) rfl;clear b af ah;go_wp2_with fail;refine(B7j r.bound u.bd a8 (O.below aa)).mono ?_;rintro _ bo ⟨v2,bi,rfl,aq,o2,E⟩;obtain⟨aG,a4,a1,bm,aH,a5,a2,bn,rfl,rfl,az,aA⟩:=BK aq;have O2:=A_ (λD h=>(o2.2 D h).1);have aJ:=A_ (AI aa E);have aT:=A_ (A0z al E);have aP:=A_ (A0z aO E);have aL:=A_ (TReport.mkAgg (x:=r) (by have:=u.t0;have:=u.t1;unfold I64;omega:I64 r.triangles) (ag.o.below E) (ai.o.below E) az aA);have aX:=A_ aa.size;clear aq o2 az aA E a6 ag ai;go_upto_region 7 with fail;refine DH λbp b=>?_;have T:=A_ b.b;have aN:=A_ b.k;have aK:=A_ (AI aJ T);have aU:=A_ (A0z aT T);have aQ:=A_ (A0z aP T);have aM:=A_ (aL.below T);clear b;obtain⟨bq,br,bg⟩:=bx aU;obtain⟨bs,bt,l1⟩:=bx aQ;obtain⟨bu,bv,l2⟩:=bx aN;go_wp2;refine BI (v:=.tuple #[AM #[N QO r.triangles,AC r.energy.1.1,QH aE n1 aY,QH aF n2 aZ,AC r.bound.1.1,QH aG a4 a1,QH aH a5 a2],AC AD]) (by simp[BO,results27,go_sem, *]) rfl ?_;refine C3s aM (λD h=>?_) aK (BH _) (A5y (A5y (A5y (A5y (A5y (A5y (A5y (B3a _ _))))))));have a9:=ao.o;have ba:=aX.o;have bc:=E_ al;have bd:=Z.size;have be:=E_ ak;rw[<-DM]at h;rcases CO.1 h with h|h
 ·have:=O1 D h;constructor<;>omega
 have:=O2 D h;constructor<;>omega
theorem D2q:A4f 22:=λa w=>kR
theorem C6s (l:List UInt8) (w:QT):AR prog 22 #[.string ⟨l.toArray⟩] w (A0b w (AC (D0x l))):=by
 go_enter func22,ntmps22;go_wp2_with fail;refine(F2w l [112,97,114,116,32] w).mono ?_;rintro _ h ⟨rfl,b⟩;go_wp2;refine BI (FQ rfl _ _ _) rfl ⟨rfl,b⟩
theorem F4t (O n c Q:Nat) (L:List (List UInt8)) (w:QT) (Z:StrRow w O (L++[[]])) (D:L.length=n) (al:n<=c) (am:c<=1000000) (l:List UInt8) (E:L[Q]?=QL l) (Y:D0x l=AD) (X:∀ j l,j<Q->L[j]?=QL l->D0x l=AF) :
  AR prog 21 #[QH (QL ⟨O,0,QJ⟩) n c,.func (.func 22) #[] #[]] w (A0b w (N QO Q)):=by
 have ag:=A_ Z;have H:=A_ D;have af:=A_ E;have ae:=A_ Y;have ad:=A_ X;have ak:Q<n:=by rw[<-D];exact(CQ.1 E).1
 have ah:=D2q;unfold A4f at ah;clear Z D E Y X;go_enter func21,ntmps21;go_wp2_with fail;go_loopg [8] n (λg s8 wr=>∃ k:Nat,k+g=n/\s8=N QO k/\Hid (k<=Q)/\Hid (Bw w wr));case atStart=>exact⟨0,oS,rfl,Nat.zero_le _,Below.refl _ _⟩
 case round =>
  obtain⟨k,T,rfl,G,B⟩:=hrel;have W:k<n:=by have:=G.o;omega
  obtain⟨x,h⟩:∃ x,L[k]?=QL x:=⟨L[k]'(by rw[H.o];exact W),CV _⟩
  have R:=A_ (ag.below B);have q:=R.o.cell (j:=k) (l:=x) (by rw[IV (by rw[H.o];exact W)];exact h);have ao:(k:Int)<n:=oS;have an:(k:Int)<c:=oS;obtain⟨g,rfl⟩:∃ g,gk=g+1:=⟨gk - 1,oS⟩
  have ai:=A_ (by omega:k+1+g=n);rcases BN k Q with b|b
  ·have ab:=A_ (ad k x b h)
   have ac:=A_ b;clear T h b;go_wp2_with fail;have C:=C6s x wr;rw[ab.o]at C;refine C.mono ?_;clear C;rintro _ aj ⟨rfl,u⟩;have aa:=A_ (AI B u);clear u q;go_wp2_with fail;go_roundg g;case measure=>omega
   case rel=>exact⟨k+1,ai,gN,ac,aa⟩
  obtain rfl:k=Q:=by have:=G.o;omega
  obtain rfl:x=l:=by have:=h.symm.trans af;injection this
  clear T h b;go_wp2_with fail;have C:=C6s x wr;rw[ae.o]at C;refine C.mono ?_;clear C;rintro _ aj ⟨rfl,u⟩;go_wp2;refine BI (FQ rfl _ _ _) rfl ⟨rfl,AI B u⟩
theorem F7m:(prog.info? 52).map (λi=>(i.zero,i.size,i.bytes))=QL (QL (AM #[N QO 0,AC AF,QH QJ 0 0,QH QJ 0 0,AC AF,QH QJ 0 0,QH QJ 0 0]),7,120):=kR
theorem F4o {w:QT} {v0 v1 v2 v3 v4 v5 v6:AJ} {s:TState} {b E:List Nat} {D:Option Addr} {H G:Nat} (h:Agg w (AM #[v0,v1,v2,v3,v4,v5,v6,QH QJ 0 0]) (⟨s.problem,s.part,[]⟩:TState) b) (aa:Sl w D H G s.reports E) :
  ∃ b',Agg w (AM #[v0,v1,v2,v3,v4,v5,v6,QH D H G]) s b'/\∀ x∈b',x∈b\/x∈E:=by
 obtain⟨ab,ap,ai,aw,ac,n1,aj,ax,ad,n2,ak,ay,ae,aq,c3,az,af,ar,al,aA,ag,au,am,aB,ah,ao,an,aC,e,rfl,O,T,W,X,Y,Z,-⟩:=TState.agg h;simp at e;obtain⟨rfl,rfl,rfl,rfl,rfl,rfl,rfl,-⟩:=e;refine⟨_,TState.mkAgg O T W X Y Z aa,λx u=>?_⟩;simp only[CO]at u ⊢;rcases u with u|u|u|u|u|u|u;·exact .inl (.inl u)
 ·exact .inl (.inr (.inl u))
 ·exact .inl (.inr (.inr (.inl u)))
 ·exact .inl (.inr (.inr (.inr (.inl u))))
 ·exact .inl (.inr (.inr (.inr (.inr (.inl u)))))
 ·exact .inl (.inr (.inr (.inr (.inr (.inr (.inl u))))))
 exact .inr u
theorem F4r {w:QT} {v0 v1 v2 v3 v4 v5 v6:AJ} {s:TState} {b u:List Nat} (h:Agg w (AM #[v0,v1,v2,v3]) s.problem b) (X:Agg w (AM #[v4,v5,v6]) s.part u) :
  Agg w (AM #[v0,v1,v2,v3,v4,v5,v6,QH QJ 0 0]) (⟨s.problem,s.part,[]⟩:TState) (b++u):=by
 obtain⟨Y,aj,ae,an,Z,n1,af,ao,aa,n2,ag,ap,ab,ak,c3,aq,e,rfl,E,G,H,O⟩:=FG h;obtain⟨ac,al,ah,ar,ad,am,ai,au,D,rfl,T,W⟩:=BK X;simp at e D;obtain⟨rfl,rfl,rfl,rfl⟩:=e;obtain⟨rfl,rfl,rfl⟩:=D;have:=TState.mkAgg (x:=(⟨s.problem,s.part,[]⟩:TState)) E G H O T W (Sl.nil w);simpa using this
theorem F7r {r:TRat} (h:B3f r=AD):J_ r=AD:=by
 unfold B3f at h;simp only[CK]at h;first|exact h.1|exact h.1.1
theorem E3i (s:TState) (xs ys:List Int) (os:Option TRat) (bq:StD s xs ys os) (G:StX s xs ys) (cc:0<s.problem.1.1.length) (w:QT) (cs:TxOk w) :
  AR prog 7 #[.string ⟨(C1k s).toArray⟩] w (D2c w s):=by
 have ak:=A_ cs;have bP:=A_ bq;have aj:=A_ G;have cO:=A_ cc;obtain⟨cn,bm⟩:=C5s G.tx;obtain⟨cp,dA,dy,-⟩:=B7p G.tx.1;have dx:=D4l G.tx;have du:(C1k s).isEmpty=AF:=by
  have:B8l s.problem≠[]:=by rw[<-E7e];simp
  unfold C1k A5d;have af:A1z (A5h s.problem)≠[]:=this;cases e:A1z (A5h s.problem++(A6d (B1c C8m [s.part])::s.reports.map λr=>A6d (C9d r)))with
  |nil=>unfold A1z at e af;rw[List.flatMap_append]at e;exact absurd (List.append_eq_nil_iff.1 e).1 af
  |cons=>rfl
 obtain⟨S,bg⟩:∃ S,C1k s=S:=⟨_,rfl⟩
 obtain⟨Q,aa⟩:∃ Q,(A5h s.problem).length=Q:=⟨_,rfl⟩
 obtain⟨R,bf⟩:∃ R,s.reports.length=R:=⟨_,rfl⟩
 rw[bg]at dx du ⊢;rw[aa,bf]at bm;have a2:=A_ aa;have bO:=A_ bf;have a3:=A_ bg;have cX:=A_ cn;have aY:=A_ bm;have dJ:=A_ cp;have dR:(R:Int)<=10:=by have:=bq.l10;omega
 have dQ:(Q:Int)<=90:=oS;have dO:(2:Int)<=Q:=oS;have T:A5d s=A5h s.problem++(A6d (B1c C8m [s.part])::s.reports.map λr=>A6d (C9d r)):=rfl;have b3:=A_ (by rw[T,JO oS,aa,Nat.sub_self];rfl:(A5d s)[Q]?=QL (A6d (B1c C8m [s.part])));have dk:=A_ (show ∀ (i:Nat) r,s.reports[i]?=QL r->(A5d s)[Q+1+i]?=QL (A6d (C9d r))from λi r h=>by have:=D4c h;rwa [aa]at this);have di:=A_ (show ∀ (j:Nat) l,(A5h s.problem)[j]?=QL l->(A5d s)[j]?=QL l from λj l h=>by rw[T,IV (CQ.1 h).1];exact h);have dj:=A_ (show ∀ j l,j<Q->(A5d s)[j]?=QL l->D0x l=AF from λj l dU h=>by rw[T,IV oS]at h;exact F5z l (CH h));have a7:=A_ (show ∀ (j:Nat) l,(A5d s)[j]?=QL l->(A5d s++[[]])[j]?=QL l from λj l h=>by rw[IV (CQ.1 h).1];exact h);have aL:[(10:UInt8)].intercalate (A5h s.problem)++[10]=B8l s.problem:=F4y _ (by intro e;rw[e]at aa;simp at aa;omega);obtain⟨J,be⟩:∃ J,[(10:UInt8)].intercalate (A5h s.problem)=J:=⟨_,rfl⟩
 rw[be]at aL;have cN:=A_ aL;have bK:=A_ be;have dN:J.length<=1010101:=by have:=(B7p G.tx.1).2.2.2;rw[<-aL,EF]at this;omega
 clear cs bq G cn bm cp dA dy bg aa bf T aL be cc;go_enter func7,ntmps7;go_upto_region 1 with fail;refine DH λb8 E=>?_;have bv:=A_ E.b;have bS:=A_ E.k;clear E;go_wp2_with fail;have C:=C2h (A5d s) cX.o.1 (by rw[show A1z (A5d s)=S from a3.o];omega) (by have:=aY.o;omega) b8 (ak.o.below bv.o).m;rw[show A1z (A5d s)=S from a3.o,aY.o]at C;refine C.mono ?_;clear C;rintro _ dD ⟨rfl,ac,bh⟩;have a8:=A_ ac;have cG:=A_ (AI bv bh);have c0:=A_ (A0z bS bh);obtain⟨ae,cj⟩:∃ g,b8.1.size=g:=⟨_,rfl⟩
 rw[cj]at a8 ⊢;clear ac bh bS cj;go_wp2_with fail;refine(F4t ae (Q+1+R) (Q+1+R+1) Q (A5d s) dD a8.o aY.o oS oS _ b3.o (F5r _) dj.o).mono ?_;rintro _ aS ⟨rfl,D⟩;have cH:=A_ (AI cG D);have c1:=A_ (A0z c0 D);have a9:=A_ (a8.below D);have ch:=E_ a9;clear D;go_wp2_with fail;have C:=F3d ae 0 (Q+1+R+1) (A5h s.problem) 10 aS (λj l h=>by rw[Nat.zero_add];exact a9.o.cell (a7.o j l (di.o j l h))) ch (by rw[a2.o];omega) (by rw[bK.o];omega) (by rw[a2.o];omega);rw[bK.o,a2.o]at C;refine C.mono ?_;clear C;rintro _ w3 ⟨rfl,ab⟩;have bz:=A_ (AI cH ab);have am:=A_ (A0z c1 ab);have ba:=A_ (a9.below ab);clear ab ch;go_wp2_with fail;have C:=D3w s.problem xs ys aj.pr aj.pt aj.tx.1 cO w3 (ak.below bz);rw[<-cN.o]at C;refine C.mono ?_;clear C;rintro _ dZ ⟨dY,dX,rfl,bd,cv,aM⟩;obtain⟨ax,aN,aG,ao,ay,n1,aH,ap,az,n2,aI,aq,aA,aO,c3,ar,rfl,rfl,-,-,-,-⟩:=FG bd;have bL:=A_ bd;have LP:=A_ (show ∀ b∈ao++(ap++(aq++ar)),w.1.size<=b/\b≠w.1.size from λb u=>by have:=cv b u;have:=E_ am;constructor<;>omega);have cJ:=A_ (AI bz aM);have c4:=A_ (A0z am aM);have dl:=A_ (ba.below aM);clear bd cv aM;go_upto_region 6 with fail;refine DH λdF E=>?_;have aE:=A_ E.b;have cZ:=A_ E.k;have bA:=A_ (AI cJ aE);have bU:=A_ (A0z c4 aE);have b4:=A_ (dl.below aE);have bM:=A_ (bL.below aE);have bs:=b4.cell (a7 _ _ b3);clear E bL;go_wp2_with fail;refine(C7e C8m [s.part] (λr h=>by simp at h;subst h;exact F7r bP.o.part) dE dE sI sI dF (ak.o.below bA.o)).mono ?_;rintro _ d0 ⟨A,n,c,dB,rfl,br,cw,ag⟩;obtain rfl:1=n:=br.1;have bN:=A_ br;have dd:=A_ (show ∀ b∈dB,w.1.size<=b/\b≠w.1.size from λb u=>by have:=cw b u;have:=E_ bU;constructor<;>omega);have cK:=A_ (AI bA ag);have bV:=A_ (A0z bU ag);have b5:=A_ (b4.below ag);have al:=A_ (A0z cZ ag);have aZ:=A_ (bM.below ag);clear br cw ag bs bM;go_upto_region 9 with fail;obtain⟨dM,dV,x,aB,aP,aJ,au,aC,aQ,aK,aw,rfl,dS,ct,b9,ca,cb,ce,cf,cq⟩:=TRat.elem bN (by decide:0<1);obtain rfl:x=s.part:=by simpa using ct.symm
 have a1:=A_ (CU ce cf);have b0:=A_ (show ∀ b∈au++aw,w.1.size<=b/\b≠w.1.size from λb u=>dd b (cq b u));clear ct ce cf cq bN;have dq:=(bx al).1 0;have dr:=(bx al).1 1;have ds:=(bx al).1 2;have dt:=(bx al).1 3;have X:=E_ al;simp only[Nat.zero_mul,Nat.add_zero]at b9 ca cb;refine X_ sI ?_;dsimp only[DJ,DK,DI];iterate 5 refine C_ _ ?_
 refine A1p #[QH QJ 0 0,QH QJ 0 0,QH QJ 0 0,QH QJ 0 0,AC AF,QH QJ 0 0,QH QJ 0 0,QH QJ 0 0] 38 ?_ ?_;·intro dH dI d2 an G;refine⟨gD,?_⟩;go_simp
 intro dH dI wa an G dv;clear dv;simp at G;have aR:=G.2.2.2.2.2;obtain⟨⟨O,dG,cF,bc⟩,bp⟩:=aR;rw[cF]at bp;have ck:=(bp O sI).1;have bT:=A_ bc;have aX:=A_ an;have bJ:=A_ (F4r (s:=s) (aZ.below an) (a1.below an))
 have a6:=A_ (show ∀ b∈(ao++(ap++(aq++ar)))++(au++aw),(w.1.size<=b/\b≠w.1.size)/\b≠O from λb u=>by
  rcases CO.1 u with h|h;·exact⟨LP b h,by have:=aZ.lt b h;omega⟩
  exact⟨b0 b h,by have:=a1.lt b h;omega⟩)
 have cB:=G.2.2.2.2.1;have dp:=cB.1.1;clear cB G cF bp an b9 ca cb dq dr ds dt X;obtain⟨aT,aU,l1⟩:=bx bc;clear bc;go_upto_region 10 with fail;refine Code.set8 bT λcE aF=>?_;have a4:=A_ aF.k;have aD:=A_ (aF.low aX aX.size ck);have aW:=A_ (bJ.keepG aF.gr (λh=>(a6 _ h).2 rfl));have bB:=A_ (AI cK aD);have bX:=A_ (A0z bV aD);have b6:=A_ (b5.below aD);have ad:=A_ (by have:=E_ bV;have:=E_ b5;have:=E_ a4;omega:w.1.size<O/\ae<O/\O<cE.1.size);clear aF bT aX bJ aZ a1 LP b0 aT aU l1 aD ck;obtain⟨lo,bn⟩:∃ l,cE.1.size=l:=⟨_,rfl⟩
 rw[bn]at ad;have bZ:=A_ (Nat.le_of_eq bn.symm);have dc:=A_ (show ∀ b∈(ao++(ap++(aq++ar)))++(au++aw),b<lo from λb u=>by have:=aW.lt b u;omega);clear bn;go_wp2_with fail;clear dp dG
 go_loopg [62] R (λg x wr=>∃ (i:Nat) (bt:AJ),i+g=R/\x=N QO i/\Hid (Bw w wr)/\Hid (lo<=wr.1.size)/\Hid (wr.1[w.1.size]?=QL (AK #[QH QJ 0 0,QH QJ 0 0,QH QJ 0 0,QH QJ 0 0,AC AF,QH QJ 0 0,QH QJ 0 0,QH QJ 0 0] 38))/\Hid (wr.1[O]?=QL (AK #[QH ax aN aG,QH ay n1 aH,QH az n2 aI,QH aA aO c3,AC s.part.1.1,QH aB aP aJ,QH aC aQ aK,bt] 38))/\Hid (StrRow wr ae (A5d s++[[]])) /\
  Hid (Agg wr (AM #[QH ax aN aG,QH ay n1 aH,QH az n2 aI,QH aA aO c3,AC s.part.1.1,QH aB aP aJ,QH aC aQ aK,QH QJ 0 0]) (⟨s.problem,s.part,[]⟩:TState) ((ao++(ap++(aq++ar)))++(au++aw)))/\Hid (Grow lo 52 wr bt i (s.reports.take i)))
 case atStart=>exact⟨0,_,oS,rfl,bB.o,bZ.o,bX.o,a4.o,b6.o,aW.o,by rw[ET];exact Grow.nil _ _ _⟩
 case round =>
  clear bB bZ bX a4 b6 aW;obtain⟨i,bt,bj,rfl,B,bY,bW,K,b7,bI,aV⟩:=hrel;obtain⟨F,d,dL,rfl,T,bi⟩:=aV.sl;have db:=A_ (show ∀ b∈(ao++(ap++(aq++ar)))++(au++aw),b≠O from λb u=>(a6 b u).2);rcases BN i R with bl|bl
  ·have dw:(i:Int)<R:=oS
   obtain⟨g,rfl⟩:∃ g,gk=g+1:=⟨gk - 1,oS⟩
   obtain⟨r,ac⟩:∃ r,s.reports[i]?=QL r:=⟨s.reports[i]'(by rw[bO.o];exact bl),CV _⟩
   have bs:=b7.cell (a7 _ _ (dk i r ac));have dg:=A_ (aj.ok r (CH ac));have df:=A_ (take_step ac);have cW:=A_ bj;have dT:((i:Int)==10)=AF:=oR;have cM:=A_ (by unfold BG;omega:i+1<=BG/\(i+1)*120<=140737488355328);clear ac T bi bj;go_wp2_with fail;refine(E2m r dg wr (ak.below B)).mono ?_;rintro _ aS ⟨v2,dW,rfl,af,l2,D⟩;obtain⟨bE,p2,q2,_,bF,cx,cA,_,bG,cy,aR,_,bH,cz,cD,_,rfl,cu,-,-,-,-,-⟩:=OC af;rw[<-cu]at *;have cP:=A_ af;have c9:=A_ l2;have de:=A_ D;clear af l2 D bs cu;go_upto_region 14 with fail;refine DH λw3 E=>?_;have H:=A_ (AI de E.b);have bR:=A_ E.k;have cQ:=A_ (cP.below E.b);have am:=A_ (A0z K H);have c7:=A_ (A0z bW H);have ba:=A_ (b7.below H);have cR:=A_ (bI.below H);obtain⟨gB,ci⟩:∃ g,aS.1.size=g:=⟨_,rfl⟩
   rw[ci]at bR ⊢;clear E ci;obtain⟨ah,ai,X⟩:=bx am;obtain⟨aT,aU,l1⟩:=bx bR;have Z:=A_ (by have:=ad.o;have:=bY.o;have:=H.size;simp;omega:w.1.size<lo/\O<lo/\ae<lo/\lo<=(w3.alloc (AK #[N QO r.triangles,AC r.energy.1.1,QH bE p2 q2,QH bF cx cA,AC r.bound.1.1,QH bG cy aR,QH bH cz cD] 52)).1.size);go_upto_region 17 with(at_builtin;refine D5t rfl rfl underlying36 F7m aV (H.alloc H.size _) bY (A0a (CF _ _)) (D5g (cQ.below (AV _))) c9 cM ?_;intro g' dn d1 co cm dz;have Y:=A_ ((aV.keeps cm Z.2.2.2));have a5:=A_ (C7b (A0z am (AV _)) Y Z.2.1);clear ah ai X;obtain⟨ah,ai,X⟩:=bx a5)
   refine Code.set1 a5 λbu W=>?_;have bD:=A_ ((((AI B H).alloc (AI B H).size _).trans (Y.mono (Nat.le_of_lt Z.1))));have c5:=A_ (show bu.1[O]?=QL (AK #[QH ax aN aG,QH ay n1 aH,QH az n2 aI,QH aA aO c3,AC s.part.1.1,QH aB aP aJ,QH aC aQ aK,QH (QL ⟨g',0,QJ⟩) (i+1) dn] 38)from W.k);have c8:=A_ (B8b (C7b (A0z c7 (AV _)) Y Z.1) W.gr (by have:=ad.o;omega));have dm:=A_ (show StrRow bu ae (A5d s++[[]])from B8b (C7b (A0z ba (AV _)) Y Z.2.2.1) W.gr (by have:=ad.o;omega));have cL:=A_ (W.low bD bD.size (by have:=ad.o;omega));have ab:=cR.below (AV (AK #[N QO r.triangles,AC r.energy.1.1,QH bE p2 q2,QH bF cx cA,AC r.bound.1.1,QH bG cy aR,QH bH cz cD] 52));have cU:=A_ ((ab.keep (λb u=>Y.block b (dc b u))).keepG W.gr (λh=>db _ h rfl));have bo:=co.grown W.gr Z.2.1;rw[<-df.o]at bo;have dh:=A_ bo;have da:=A_ (show lo<=bu.1.size from BM (BM Z.2.2.2 Y.size) W.gr.size);clear W bo ah ai X aT aU l1 dz cm co Y a5 ab;go_wp2_with fail;go_roundg g;case measure=>omega
   case rel=>exact⟨i+1,_,by have:=cW.o;omega,gN,cL.o,da.o,c8.o,c5.o,dm.o,cU.o,dh.o⟩
  obtain rfl:i=R:=oS;have dw:¬ ((i:Int)<i):=oS;rw[CZ (by rw[bO.o];exact BH _)]at T;obtain⟨bb,cd,cg⟩:=F4o bI T;have bQ:=A_ cd
  have cV:=A_ (show ∀ b∈bb,w.1.size<=b/\b≠w.1.size from λb u=>by
   rcases cg b u with h|h;·exact(a6 b h).1
   have:=bi b h;have:=ad.o;constructor<;>omega)
  clear bj bl T bi cd cg;obtain⟨ah,ai,X⟩:=bx K;go_wp2_with fail;have C:=C7l _ s _ xs ys os wr bQ bP aj (ak.below B).t;rw[a3.o]at C;refine C.mono ?_;clear C;rintro _ aS ⟨rfl,D⟩;have c6:=A_ (A0z bW D);have c2:=A_ (A0z K D);have cY:=A_ (bQ.below D);have cI:=A_ (AI B D);clear ah ai X D;obtain⟨ah,ai,X⟩:=bx c2;obtain⟨aT,aU,l1⟩:=bx c6;go_wp2;refine BI (v:=.tuple #[AM #[QH ax aN aG,QH ay n1 aH,QH az n2 aI,QH aA aO c3,AC s.part.1.1,QH aB aP aJ,QH aC aQ aK,QH F i d],AC AD]) (by simp[BO,results7,go_sem, *]) rfl ?_;exact C3s cY cV cI (BH _) (A5y (A5y (A5y (A5y (A5y (A5y (A5y (A5y (B3a _ _)))))))))
end
end Go.Proofs.YtbkilakncnlebaaGreatDoor.X
