/- A part of the proof. -/
import Derived.Test.YtjcanieccnljfaaGreatY7
set_option linter.constructorNameAsVariable false
set_option maxHeartbeats 16000000
set_option maxRecDepth 10000
open Bool renaming and_eq_true→DJ,false→AH,true→AF
open Go renaming Calls→BL,Value→AU,World→AD,bodyPost_ret→CK,results→CO
open Go.IntKind renaming i64→K
open Go.IntWalk renaming i64_in→OQ
open Go.Obj renaming cells→BG
open Go.Value renaming agg→BJ,bool→J,int→RH,slice→QX
open Go.XB.Agg renaming below→IE
open Go.XB.Below renaming next→BH
open Go.XB.MP renaming agg→CH
open Go.XB.Sl renaming below→BN
open Go.XB.TBigInt renaming agg→FZ,mkAgg→FV
open Go.XB.TRat renaming agg→CF,mkAgg→FK
open Int renaming ediv_nonneg→MV,ediv_one→PH,gcd→CQ,lt_or_le→FH,mul_ediv_cancel_left→QH,mul_pos→GW,natAbs_mul→OL
open List renaming dropLast→DN,getLast→DO,length→DQ,length_pos_iff→MZ
open Nat renaming eq_zero_or_pos→IG,le_trans→CJ
open Option renaming none→I
namespace Go.Proofs.YtjcanieccnljfaaGreat.X
open Go.RowKit Go.XB Go.XN Proofs.Tryz
attribute [local go_sem] L_ opAt N_ M_ Region.wanted yielded
attribute [local simp] N_ M_ MP.eq MP.agg MP.sl A0r
theorem A3n (v:AU) (x:TRat) (b:List Nat) (w:AD) (ak:Agg w v x b) (lx:x.1.2.length<=1048576) (al:x.2.length<=1048576) :
  BL prog 126 #[v] w (A0c w x):=by
 obtain⟨ao,n1,aC,aS,ap,n2,aD,aT,rfl,rfl,D,E⟩:=CF ak;have aq:=A_ D;have ar:=A_ E;have aI:n1<=1048576:=by rw[<-D.1];exact lx
 have aJ:n2<=1048576:=by rw[<-E.1];exact al
 clear D E ak lx al;go_enter func126,ntmps126;go_wp2_with fail;refine X_ sI ?_;dsimp only[DN,DO,DQ];iterate 6 refine C_ _ ?_
 refine D_ (MP.sl x.1.2) ?_ ?_;·intro T X O u h;obtain⟨Z,aa⟩:=F_ u;simp at h;refine G_ ?_;exact A1c (A9d ao n1 aC x.1.2 _ O (BN aq Below.go) aI)
 refine A9h (λG=>BJ #[J x.1.1,G 6]) (by intro y G H;simp[N_,M_]at H;simp[H]) ?_ ?_;·intro T X O u h;obtain⟨Z,aa⟩:=F_ u;simp at h;obtain⟨_,⟨A,n,c,e,_⟩,_⟩:=h;refine⟨gD,?_⟩;go_simp;try simp[*,Value.cells]
 iterate 2 refine C_ _ ?_
 refine D_ (MP.sl x.2) ?_ ?_;·intro T X O u h;obtain⟨Z,aa⟩:=F_ u;simp at h;refine G_ ?_;exact A1c (A9d ap n2 aD x.2 _ O (BN ar Below.go) aJ)
 refine A9h (λG=>BJ ((G 7).cells++#[G 10])) (by intro y G H;simp[N_,M_]at H;simp[H]) ?_ ?_;·intro T X O u h;obtain⟨Z,aa⟩:=F_ u;simp at h;obtain⟨⟨aN,_⟩,⟨A,n,c,e,_⟩,_⟩:=h;refine⟨gD,?_⟩;go_simp;try simp[*,Value.cells]
 intro T X wa u h (af:Hid _);simp at h;go_simp;have aL:=h.2.2.2.2.2.2.1;have an:=h.2.2.2.2.2.2.2.1;have aK:=h.2.2.2.2.2.2.2.2.2.2.1;have am:=h.2.2.2.2.2.2.2.2.2.2.2;obtain⟨⟨⟨ab,m1,ad,aF,D⟩,ag⟩,ai⟩:=aL;obtain⟨⟨⟨ac,m2,ae,aE,E⟩,ah⟩,aj⟩:=aK;have aM:T 11=BJ #[J x.1.1,QX ab m1 ad,QX ac m2 ae]:=by rw[am.1.1,an.1.1,aF,aE];rfl
 have aA:=A_ D;have aw:=A_ ag;have ay:=A_ ai;have aB:=A_ E;have ax:=A_ ah;have az:=A_ aj;have au:=A_ (af 6 10 dE dE dE);clear h af an am D ag ai E ah aj;obtain⟨aO,aP⟩:=F_ u;have aQ:w.1.size<wa.1.size:=ltg u;have aR:w.1.size+1<wa.1.size:=ltg u;go_wp2;refine CK (v:=BJ #[J x.1.1,QX ab m1 ad,QX ac m2 ae]) (by simp[CO,results126,go_sem, *]) rfl ?_;have aG:=fun(W:AD) (ha:Above (w.1.size+2) wa W)=>A7j (w:=w) aA.o aw.o (λb Y=>(ay.o b Y).1) oS ha;have aH:=fun(W:AD) (ha:Above (w.1.size+2) wa W)=>A7j (w:=w) aB.o ax.o (λb Y=>(az.o b Y).1) oS ha;refine B4k (x:=x) (aG _ ?_) (aH _ ?_) au ?_;·exact Above.go
 ·exact Above.go
 exact Below.go

theorem E2s {x:Int} (h0:0<=x) (h1:x<=18446744073709551615):IntKind.u64.wrap x=x:=by simp[IntKind.wrap,IntKind.signed,IntKind.bits];omega
theorem C0e {a:Int} {g:Nat} (h:(g:Int)∣a):a.tdiv g=a / g:=by
 obtain⟨q,rfl⟩:=h;rcases IG g with b|b;·subst b;simp
 rw[Int.mul_tdiv_cancel_left _ oS,QH _ oS]
theorem B6e {a M:Int} {g:Nat} (G:0<g) (h:(g:Int)∣a) (D:-M<=a) (E:a<=M):-M<=a / g/\a / g<=M:=by
 obtain⟨q,rfl⟩:=h;rw[QH _ oS];have b:(1:Int)<=g:=oS;rcases FH q 0 with u|u;·have:(g:Int)*q<=1*q:=Int.mul_le_mul_of_nonpos_right b oS;omega
 have:1*q<=(g:Int)*q:=Int.mul_le_mul_of_nonneg_right b u;omega
theorem E1o {n d:Int} (h:0<d) (D:-4000000000000000000<=n) (E:n<=4000000000000000000) (u:d<=4000000000000000000) :
  mkR n d=⟨A0f (n / (CQ n d:Nat)),dig (d / (CQ n d:Nat)).toNat⟩:=by
 have b:=A5o (a:=n) h;have G:=B6e b (Int.gcd_dvd_left n d) D E;have H:=B6e b (Int.gcd_dvd_right n d) (by omega:-4000000000000000000<=d) u;have O:0<=d / (CQ n d:Nat):=MV oS oS;have e:(d / (CQ n d:Nat)).natAbs=(d / (CQ n d:Nat)).toNat:=oS;unfold mkR;rw[e,if_pos];have p:=A6t (by decide:3<=24);rw[pw_vals.2.2]at p;exact⟨A4r oS,A4r oS⟩

theorem C2n (n d:Int) (w:AD) (aG:0<d) (aN:-4000000000000000000<=n) (aO:n<=4000000000000000000) (aL:d<=4000000000000000000) :
  BL prog 88 #[RH K n,RH K d] w (A0c w (mkR n d)):=by
 have aK:=A_ (E1o aG aN aO aL);have aM:=A5o (a:=n) aG;have aq:=A_ (Int.gcd_dvd_left n d);have ar:=A_ (Int.gcd_dvd_right n d);have aS:=B6e aM aq aN aO;have aT:=B6e aM ar.o (by omega:-4000000000000000000<=d) aL;have ap:0<=d / (CQ n d:Nat):=MV oS oS;have ba:(CQ n d:Int)<=d:=Int.gcd_le_right n aG;obtain⟨a6,a7⟩:=aS;obtain⟨a8,a9⟩:=aT;rcases FH n 0 with aZ|aZ
 ·have aY:n<=-n:=oS
  go_enter func88,ntmps88;go_wp2_with fail;have C:=B2z (-n) d (w.alloc (BG #[J AH,QX I 0 0,QX I 0 0] 39)) oS oS oS oS;rw[Int.neg_gcd]at C;refine C.mono ?_;clear C;rintro _ aJ ⟨rfl,ah⟩;generalize CQ n d=g at *;obtain⟨aU,aW⟩:=F_ ah;have a1:w.1.size<aJ.1.size:=ltg ah;go_wp2_with fail;refine X_ sI ?_;dsimp only[DN,DO,DQ];iterate 2 refine C_ _ ?_
  refine A2b (RH K (n / g)) ?_ ?_;·intro D E u h b;obtain⟨G,H⟩:=F_ h;simp at b;refine⟨gD,?_⟩;go_simp;(rw[if_neg oS];simp only[C0e aq.o];rw[OQ _ oS])
  refine D_ (CH (A0f (n / g))) ?_ ?_;·intro D E u h b;obtain⟨G,H⟩:=F_ h;simp at b;refine G_ ?_;exact H_ (A9i (n / g) u ⟨oS,oS⟩)
  iterate 2 refine C_ _ ?_
  refine A2b (RH K (d / g)) ?_ ?_;·intro D E u h b;obtain⟨G,H⟩:=F_ h;simp at b;refine⟨gD,?_⟩;go_simp;(rw[if_neg oS];first|done|(simp only[C0e ar.o];first|done|rw[OQ _ oS]))
  refine A2b (RH .u64 (d / g)) ?_ ?_;·intro D E u h b;obtain⟨G,H⟩:=F_ h;simp at b;refine⟨gD,?_⟩;go_simp;rw[E2s ap oS]
  refine D_ (MP.sl (dig (d / g).toNat)) ?_ ?_;·intro D E u h b;obtain⟨G,H⟩:=F_ h;simp at b;refine G_ ?_;exact A1c (B3p (d / g) u ap oS)
  refine A9h (λZ=>BJ ((Z 3).cells++#[Z 8])) (by intro y Z af;simp[N_,M_]at af;simp[af]) ?_ ?_;·intro D E u h b;obtain⟨G,H⟩:=F_ h;simp at b;obtain⟨⟨aF,_⟩,⟨A,n,c,e,_⟩,_⟩:=b;obtain⟨aP,a3,c',a4,aQ,_,_⟩:=FZ aF;refine⟨gD,?_⟩;go_simp;try simp[*,Value.cells]
  intro D E wa h b (ai:Hid _);simp at b;have aH:=b.2.2.2.1;have aI:=b.2.2.2.2.2.2.2.2.1;have ao:=b.2.2.2.2.2.2.2.2.2;obtain⟨⟨ag,X⟩,Y⟩:=aH;obtain⟨aa,m1,ad,a5,aB,an,al⟩:=FZ ag;obtain⟨⟨⟨ab,m2,ae,aC,am⟩,aj⟩,ak⟩:=aI;have aR:D 9=BJ #[J (A0f (n / g)).neg,QX aa m1 ad,QX ab m2 ae]:=by rw[ao.1.1,aB,aC];rfl
  have ac:=A_ (ai 3 8 dE dE dE);rw[an]at ac X Y;have az:=A_ al;have au:=A_ X;have ax:=A_ Y;have aA:=A_ am;have aw:=A_ aj;have ay:=A_ ak;clear b ai ao al X Y am aj ak ag an;obtain⟨aV,aX⟩:=F_ h;have a2:w.1.size<wa.1.size:=ltg h;go_wp2;refine CK (v:=BJ #[J (A0f (n / g)).neg,QX aa m1 ad,QX ab m2 ae]) (by simp[CO,results88,go_sem, *]) rfl ?_;have aD:=fun(W:AD) (ha:Above (w.1.size+1) wa W)=>A7j (w:=w) az au (λO T=>by have:=(ax O T).1;omega) oS ha;have aE:=fun(W:AD) (ha:Above (w.1.size+1) wa W)=>A7j (w:=w) aA aw (λO T=>by have:=(ay O T).1;omega) oS ha;rw[aK.o];refine B4k (x:=⟨A0f (n / g),dig (d / g).toNat⟩) (aD _ ?_) (aE _ ?_) ac ?_;·exact Above.go
  ·exact Above.go
  exact Below.go
 have aY:-n<=n:=oS;go_enter func88,ntmps88;go_wp2_with fail;have C:=B2z n d (w.alloc (BG #[J AH,QX I 0 0,QX I 0 0] 39)) oS oS oS oS;refine C.mono ?_;clear C;rintro _ aJ ⟨rfl,ah⟩;generalize CQ n d=g at *;obtain⟨aU,aW⟩:=F_ ah;have a1:w.1.size<aJ.1.size:=ltg ah;go_wp2_with fail;refine X_ sI ?_;dsimp only[DN,DO,DQ];iterate 2 refine C_ _ ?_
 refine A2b (RH K (n / g)) ?_ ?_;·intro D E u h b;obtain⟨G,H⟩:=F_ h;simp at b;refine⟨gD,?_⟩;go_simp;(rw[if_neg oS];simp only[C0e aq.o];rw[OQ _ oS])
 refine D_ (CH (A0f (n / g))) ?_ ?_;·intro D E u h b;obtain⟨G,H⟩:=F_ h;simp at b;refine G_ ?_;exact H_ (A9i (n / g) u ⟨oS,oS⟩)
 iterate 2 refine C_ _ ?_
 refine A2b (RH K (d / g)) ?_ ?_;·intro D E u h b;obtain⟨G,H⟩:=F_ h;simp at b;refine⟨gD,?_⟩;go_simp;(rw[if_neg oS];first|done|(simp only[C0e ar.o];first|done|rw[OQ _ oS]))
 refine A2b (RH .u64 (d / g)) ?_ ?_;·intro D E u h b;obtain⟨G,H⟩:=F_ h;simp at b;refine⟨gD,?_⟩;go_simp;rw[E2s ap oS]
 refine D_ (MP.sl (dig (d / g).toNat)) ?_ ?_;·intro D E u h b;obtain⟨G,H⟩:=F_ h;simp at b;refine G_ ?_;exact A1c (B3p (d / g) u ap oS)
 refine A9h (λZ=>BJ ((Z 3).cells++#[Z 8])) (by intro y Z af;simp[N_,M_]at af;simp[af]) ?_ ?_;·intro D E u h b;obtain⟨G,H⟩:=F_ h;simp at b;obtain⟨⟨aF,_⟩,⟨A,n,c,e,_⟩,_⟩:=b;obtain⟨aP,a3,c',a4,aQ,_,_⟩:=FZ aF;refine⟨gD,?_⟩;go_simp;try simp[*,Value.cells]
 intro D E wa h b (ai:Hid _);simp at b;have aH:=b.2.2.2.1;have aI:=b.2.2.2.2.2.2.2.2.1;have ao:=b.2.2.2.2.2.2.2.2.2;obtain⟨⟨ag,X⟩,Y⟩:=aH;obtain⟨aa,m1,ad,a5,aB,an,al⟩:=FZ ag;obtain⟨⟨⟨ab,m2,ae,aC,am⟩,aj⟩,ak⟩:=aI;have aR:D 9=BJ #[J (A0f (n / g)).neg,QX aa m1 ad,QX ab m2 ae]:=by rw[ao.1.1,aB,aC];rfl
 have ac:=A_ (ai 3 8 dE dE dE);rw[an]at ac X Y;have az:=A_ al;have au:=A_ X;have ax:=A_ Y;have aA:=A_ am;have aw:=A_ aj;have ay:=A_ ak;clear b ai ao al X Y am aj ak ag an;obtain⟨aV,aX⟩:=F_ h;have a2:w.1.size<wa.1.size:=ltg h;go_wp2;refine CK (v:=BJ #[J (A0f (n / g)).neg,QX aa m1 ad,QX ab m2 ae]) (by simp[CO,results88,go_sem, *]) rfl ?_;have aD:=fun(W:AD) (ha:Above (w.1.size+1) wa W)=>A7j (w:=w) az au (λO T=>by have:=(ax O T).1;omega) oS ha;have aE:=fun(W:AD) (ha:Above (w.1.size+1) wa W)=>A7j (w:=w) aA aw (λO T=>by have:=(ay O T).1;omega) oS ha;rw[aK.o];refine B4k (x:=⟨A0f (n / g),dig (d / g).toNat⟩) (aD _ ?_) (aE _ ?_) ac ?_;·exact Above.go
 ·exact Above.go
 exact Below.go
theorem C2i {x:TBigInt} {ys:List Int} {b B:Option Addr} {n1 h m d:Nat} {b1 b2:List Nat} {w:AD} (T:Sl w b n1 h x.mag b1) (W:Sl w B m d ys b2) (u:XN.Can x.mag) (D:XN.Can ys) (hm0:0<m) (lx:x.mag.length<=65536) (X:m<=65536)
  (G:CQ (val x.mag) (val ys)=1) (H:x.mag.length<=24) (E:m<=24) :
  BL prog 91 #[BJ #[J x.neg,QX b n1 h],QX B m d] w (A0b w (BJ #[J x.neg,QX b n1 h,QX B m d])):=by
 obtain⟨A,n,c,O,_,C⟩:=D7v (FV (x:=x) T) W u D hm0 lx X G H E;cases O;exact C
def _root_.Go.XB.MP.sgd (s:Bool) (mag:List Int) (u:AU):MP:=⟨λv bs w=>v=BJ #[J s,u]/\bs=[]/\∃ A n c b',u=QX A n c/\Sl w A n c mag b',λ_ _ _ _ hb h=>⟨h.1,h.2.1,by obtain⟨A,n,c,b',e,hs⟩:=h.2.2;exact⟨A,n,c,b',e,hs.below hb⟩⟩⟩
theorem D0t {P:Program} {f:FuncId} {args:Array AU} {w:AD} {s:Bool} {mag:List Int} {A:Option Addr} {n c:Nat} {b':List Nat} (hs:Sl w A n c mag b') (h:BL P f args w (A0b w (BJ #[J s,QX A n c]))) :
  BL P f args w λe w'=>∃ u,e=.returned u/\Bw w w'/\∃ bs,(MP.sgd s mag (QX A n c)).p u bs w'/\∀ b∈bs,w.1.size<=b/\b<w'.1.size :=
 h.mono λ_ _ ⟨he,hb⟩=>⟨_,he,hb,[],⟨rfl,rfl,A,n,c,b',rfl,hs.below hb⟩,λb hb=>by simp at hb⟩
theorem E4a {X:TBigInt} {ys:List Int} (b:XN.Can X.mag) (H:NegOk X) (h:XN.Can ys) (G:0<val ys) (D:CQ (val X.mag) (val ys)=1) (E:X.mag.length<=24) (u:ys.length<=24):mkR (A0q X) (val ys)=⟨X,ys⟩:=by
 rw[D6t b H G,D,Int.natCast_one,PH,PH,<-b.eq_dig,<-h.eq_dig,if_pos ⟨E,u⟩]

attribute [local simp] MP.sgd

theorem A1s {α:Type} [Dat α] {w u W:AD} {lo:Nat} {v:AU} {x:α} {bs:List Nat} (h:Agg u v x bs) (hf:Free u bs) (hr:∀ b∈bs,lo<=b) (hl:w.1.size<=lo) (ha:Above lo u W) (hb:Bw w W):A0c w x (.returned v) W :=
 have hk:∀ g∈bs,W.1[g]?=u.1[g]?:=λg hg=>ha.block g (hr g hg) (h.lt g hg)
 ⟨v,bs,rfl,h.keep hk,⟨hf.1,λb hb=>⟨CJ hl (hr b hb),by obtain⟨cs,t,e⟩:=hf.2 b hb;exact⟨cs,t,(hk b hb).trans e⟩⟩⟩,hb⟩
def A0y (x y:TBigInt):TBigInt:=⟨(x.neg != y.neg)&&!x.mag.isEmpty,x.mag⟩
theorem D2z (x y:TBigInt):NegOk (A0y x y):=by
 intro u e;have h:x.mag=[]:=e;have b:((x.neg != y.neg)&&!x.mag.isEmpty)=AF:=u;rw[h]at b;simp at b

theorem D3i (v1 v2:AU) (x y:TBigInt) (b1 b2:List Nat) (w:AD) (aG:Agg w v1 x b1) (aH:Agg w v2 y b2) (aB:A2j x=AF) (aC:A2j y=AF) (aI:y.mag≠[]) :
  BL prog 180 #[v1,v2] w (A0c w (mkR (A0q (A0y x y)) (val y.mag))):=by
 have aK:=A_ aG;have aL:=A_ aH;obtain⟨al,n1,au,bL,rfl,rfl,T⟩:=FZ aG;obtain⟨am,n2,aw,bM,rfl,rfl,u⟩:=FZ aH;have aq:=A_ T;have ar:=A_ u;have a3:=A_ (bigOkB_iff.1 aB).1.2;have ap:=A_ (bigOkB_iff.1 aC).1.2;have be:x.mag.length<=60:=(bigOkB_iff.1 aB).1.1;have bf:y.mag.length<=60:=(bigOkB_iff.1 aC).1.1;have aV:0<n2:=by rw[<-u.1];exact MZ.2 aI
 have bI:n1<=60:=by rw[<-T.1];exact be
 have bJ:n2<=60:=by rw[<-u.1];exact bf
 have bg:=A_ (ap.pos aI);have aO:=A_ aB;have aP:=A_ aC;have aQ:=A_ (show((x.neg != y.neg)&&decide (0<n1))=(A0y x y).neg by unfold A0y;rw[<-T.1];simp only;cases x.mag<;>simp);have aZ:((n2:Int)==0)=AH:=oR;have aN:=A_ (D2z x y);have bH:=A_ (show(A0y x y).mag=x.mag from rfl);have aE:=A_ (show XN.Can (A0y x y).mag from a3);have aM:=A_ (by show x.mag.length<=65536;omega:(A0y x y).mag.length<=65536);clear T u aG aH aB aC aI;by_cases aA:CQ (val (A0y x y).mag) (val y.mag)=1/\(A0y x y).mag.length<=24/\y.mag.length<=24
 ·have aa:=A_ aA
  clear aA;go_enter func180,ntmps180;go_wp2_with fail;have C:=A1o _ x _ (((w.alloc (BG #[J x.neg,QX al n1 au] 37)).alloc (BG #[J y.neg,QX am n2 aw] 37)).alloc (BG #[J AH,QX I 0 0,QX I 0 0] 39)) (IE aK Below.go);rw[aO.o]at C;refine C.mono ?_;clear C;rintro _ X ⟨rfl,G⟩;obtain⟨bk,bn⟩:=F_ G;have bq:w.1.size<X.1.size:=ltg G;have bu:w.1.size+1<X.1.size:=ltg G;have bA:w.1.size+1+1<X.1.size:=ltg G;go_wp2_with fail;have C:=A1o _ y _ X (IE aL Below.go);rw[aP.o]at C;refine C.mono ?_;clear C;rintro _ ac ⟨rfl,H⟩;obtain⟨bl,bo⟩:=F_ H;have br:w.1.size<ac.1.size:=ltg H;have bv:w.1.size+1<ac.1.size:=ltg H;have bB:w.1.size+1+1<ac.1.size:=ltg H;go_wp2_with fail;refine X_ sI ?_;dsimp only[DN,DO,DQ];iterate 7 refine C_ _ ?_
  refine D_ (MP.sl (A0y x y).mag) ?_ ?_;·intro E Z D h b;obtain⟨ag,ah⟩:=F_ h;simp at b;refine G_ ?_;exact A1c (A9d al n1 au x.mag _ D (BN aq.o Below.go) oS)
  refine A3q (λY=>MP.sgd (A0y x y).neg (A0y x y).mag (Y 7)) (by intro y Y ab;simp[N_,M_]at ab;simp[ab]) ?_ ?_;·intro E Z D h b;obtain⟨ag,ah⟩:=F_ h;simp at b;refine G_ ?_;obtain⟨_,⟨A,n,c,e,O⟩,_⟩:=b;rw[e];have C:=A3s (!(x.neg==y.neg)) A n c D;rw[show((!(x.neg==y.neg))&&decide (0<n))=(A0y x y).neg by rw[<-aQ.o,<-O.1,<-aq.o.1];rfl]at C;exact D0t O C
  iterate 2 refine C_ _ ?_
  refine D_ (MP.sl y.mag) ?_ ?_;·intro E Z D h b;obtain⟨ag,ah⟩:=F_ h;simp at b;refine G_ ?_;exact A1c (A9d am n2 aw y.mag _ D (BN ar.o Below.go) oS)
  refine A3q (λY=>MP.eq (BJ ((Y 8).cells++#[Y 11]))) (by intro y Y ab;simp[N_,M_]at ab;simp[ab]) ?_ ?_
  ·intro E Z D h b
   obtain⟨ag,ah⟩:=F_ h;simp at b;refine G_ ?_;obtain⟨⟨aF,_,A,n,c,ae,bh,O⟩,⟨a2,bE,c',ad,u⟩,_⟩:=b;first|rw[aF,ae,ad]|rw[ae,ad]
   have ak:=u.1;exact A0i (C2i (x:=A0y x y) O u aE.o ap.o (by rw[<-ak,ar.o.1];exact aV) aM.o oS aa.o.1 aa.o.2.1 (by rw[<-ak];exact aa.2.2))
  intro E Z wa h b (az:Hid _);simp at b;have bG:=b.2.2.2.2.2.2.2.1;have a1:=b.2.2.2.2.2.2.2.2.1;have bF:=b.2.2.2.2.2.2.2.2.2.2.2.1;have aD:=b.2.2.2.2.2.2.2.2.2.2.2.2;obtain⟨⟨⟨an,m1,ax,ae,T⟩,aT⟩,aX⟩:=bG;obtain⟨⟨⟨ao,m2,ay,ad,u⟩,aU⟩,aY⟩:=bF;have aR:E 12=BJ #[J (A0y x y).neg,QX an m1 ax,QX ao m2 ay]:=by rw[aD.1.1,a1.1.1,ae,ad];rfl
  have a4:=A_ (az 7 11 dE dE dE);have bc:=A_ T;have a6:=A_ aT;have a9:=A_ aX;have bd:=A_ u;have a7:=A_ aU;have ba:=A_ aY;clear b az aD a1 T aT aX u aU aY;obtain⟨bm,bp⟩:=F_ h;have bt:w.1.size<wa.1.size:=ltg h;have bz:w.1.size+1<wa.1.size:=ltg h;have bD:w.1.size+1+1<wa.1.size:=ltg h;go_wp2;refine CK (v:=BJ #[J (A0y x y).neg,QX an m1 ax,QX ao m2 ay]) (by simp[CO,results180,go_sem, *]) rfl ?_;rw[E4a aE.o aN.o ap.o bg.o aa.o.1 aa.o.2.1 aa.o.2.2];have bK:w.1.size+3<=ac.1.size:=oS;have bi:=fun(W:AD) (af:Above (w.1.size+3) wa W)=>A7j (w:=w) bc a6 (λai aj=>by have:=(a9 ai aj).1;omega) oS af;have bj:=fun(W:AD) (af:Above (w.1.size+3) wa W)=>A7j (w:=w) bd a7 (λai aj=>by have:=(ba ai aj).1;omega) oS af;refine B4k (x:=⟨A0y x y,y.mag⟩) (bi _ ?_) (bj _ ?_) a4 ?_;·exact Above.go
  ·exact Above.go
  exact Below.go
 have aa:=A_ aA;clear aA;go_enter func180,ntmps180;go_wp2_with fail;have C:=A1o _ x _ (((w.alloc (BG #[J x.neg,QX al n1 au] 37)).alloc (BG #[J y.neg,QX am n2 aw] 37)).alloc (BG #[J AH,QX I 0 0,QX I 0 0] 39)) (IE aK Below.go);rw[aO.o]at C;refine C.mono ?_;clear C;rintro _ X ⟨rfl,G⟩;obtain⟨bk,bn⟩:=F_ G;have bq:w.1.size<X.1.size:=ltg G;have bu:w.1.size+1<X.1.size:=ltg G;have bA:w.1.size+1+1<X.1.size:=ltg G;go_wp2_with fail;have C:=A1o _ y _ X (IE aL Below.go);rw[aP.o]at C;refine C.mono ?_;clear C;rintro _ ac ⟨rfl,H⟩;obtain⟨bl,bo⟩:=F_ H;have br:w.1.size<ac.1.size:=ltg H;have bv:w.1.size+1<ac.1.size:=ltg H;have bB:w.1.size+1+1<ac.1.size:=ltg H;go_wp2_with fail;refine X_ sI ?_;dsimp only[DN,DO,DQ];iterate 7 refine C_ _ ?_
 refine D_ (MP.sl (A0y x y).mag) ?_ ?_;·intro E Z D h b;obtain⟨ag,ah⟩:=F_ h;simp at b;refine G_ ?_;exact A1c (A9d al n1 au x.mag _ D (BN aq.o Below.go) oS)
 refine A3q (λY=>MP.sgd (A0y x y).neg (A0y x y).mag (Y 7)) (by intro y Y ab;simp[N_,M_]at ab;simp[ab]) ?_ ?_;·intro E Z D h b;obtain⟨ag,ah⟩:=F_ h;simp at b;refine G_ ?_;obtain⟨_,⟨A,n,c,e,O⟩,_⟩:=b;rw[e];have C:=A3s (!(x.neg==y.neg)) A n c D;rw[show((!(x.neg==y.neg))&&decide (0<n))=(A0y x y).neg by rw[<-aQ.o,<-O.1,<-aq.o.1];rfl]at C;exact D0t O C
 iterate 2 refine C_ _ ?_
 refine D_ (MP.sl y.mag) ?_ ?_;·intro E Z D h b;obtain⟨ag,ah⟩:=F_ h;simp at b;refine G_ ?_;exact A1c (A9d am n2 aw y.mag _ D (BN ar.o Below.go) oS)
 refine D_ (CH (mkR (A0q (A0y x y)) (val y.mag))) ?_ ?_
 ·intro E Z D h b
  obtain⟨ag,ah⟩:=F_ h;simp at b;refine G_ ?_;obtain⟨⟨aF,_,A,n,c,ae,bh,O⟩,⟨a2,bE,c',ad,u⟩,_⟩:=b;first|rw[aF,ae,ad]|rw[ae,ad]
  have ak:=u.1;exact H_ (E0g (FV (x:=A0y x y) O) u aE.o ap.o (by rw[<-ak,ar.o.1];exact aV) aM.o oS aN.o (by rw[<-ak];exact aa))
 intro E Z wa h b (az:Hid _);simp at b;have aD:=b.2.2.2.2.2.2.2.2.2.2.2.2;obtain⟨⟨af,aS⟩,aW⟩:=aD;obtain⟨an,m1,ax,bN,ao,m2,ay,bO,aR,aZ,T,u⟩:=CF af;have aJ:=A_ af;have a5:=A_ aS;have a8:=A_ aW;clear b az aZ T u af aS aW;obtain⟨bm,bp⟩:=F_ h;have bt:w.1.size<wa.1.size:=ltg h;have bz:w.1.size+1<wa.1.size:=ltg h;have bD:w.1.size+1+1<wa.1.size:=ltg h;go_wp2;refine CK (v:=BJ #[J (mkR (A0q (A0y x y)) (val y.mag)).1.1,QX an m1 ax,QX ao m2 ay]) (by simp[CO,results180,go_sem, *]) rfl ?_;rw[aR]at aJ;refine A1s (lo:=w.1.size+3) aJ a5 (λai aj=>by have:=(a8 ai aj).1;omega) oS ?_ ?_;·exact Above.go
 exact Below.go

theorem D1g (n:Int) (h:I64 n):A2j (A0f n)=AF:=by
 rw[bigOkB_iff];refine⟨⟨?_,A7g n⟩,?_⟩;·have p:=A6t (by decide:3<=60);rw[pw_vals.2.2]at p;exact A4r (by have:=h.1;have:=h.2;omega)
 intro b;unfold A0f at b ⊢;simp at b;simp only[Ne,B1x];omega
theorem D1m {n d:Int} (u:0<d):A0q (A0y (A0f n) (A0f d))=n/\val (A0f d).mag=d:=by
 refine⟨?_,by show val (dig d.natAbs)=d;rw[A1j];omega⟩;have e:(A0f d).neg=AH:=by unfold A0f;simp;omega
 have h:=D6d (x:=A0y (A0f n) (A0f d));unfold A0y A0q;rw[e];show(if ((A0f n).neg != AH&&!(dig n.natAbs).isEmpty)=AF then -val (dig n.natAbs)else val (dig n.natAbs))=n;rw[A1j];unfold A0f;by_cases b:n<0
 ·have:dig n.natAbs≠[]:=by rw[Ne,B1x];omega
  rw[if_pos (by simp[b,this])];omega
 rw[if_neg (by simp[b])];omega

theorem A7u (n d:Int) (w:AD) (Z:I64 n) (Y:I64 d) (H:0<d):BL prog 124 #[RH K n,RH K d] w (A0c w (mkR n d)):=by
 have E:=A_ Z;have D:=A_ Y;have b:=A_ (D1m (n:=n) H);have ae:=A_ (by intro e;have:=b.2;rw[e]at this;simp[val]at this;omega:(A0f d).mag≠[]);clear Z Y H;go_enter func124,ntmps124;go_wp2_with fail;refine(A9i n _ E).mono ?_;rintro _ aw ⟨v1,ar,rfl,O,am,W⟩;have af:=A_ O;clear O am;obtain⟨ax,aA⟩:=F_ W;have aD:w.1.size<aw.1.size:=ltg W;go_wp2_with fail;refine(A9i d _ D).mono ?_;rintro _ ab ⟨v2,au,rfl,T,an,u⟩;have ag:=A_ T;clear T an;obtain⟨ay,aB⟩:=F_ u;have aE:w.1.size<ab.1.size:=ltg u;go_wp2_with fail;refine(D3i v1 v2 (A0f n) (A0f d) ar au ab (IE af u) ag (D1g n E) (D1g d D) ae).mono ?_;rw[b.o.1,b.o.2];rintro _ w3 ⟨aJ,aG,rfl,h,aa,X⟩;obtain⟨ac,m1,aj,aH,ad,m2,ak,aI,rfl,aq,ao,ap⟩:=CF h;have ah:=A_ h;have G:=A_ aa;clear aq ao ap h aa;obtain⟨az,aC⟩:=F_ X;have aF:w.1.size<w3.1.size:=ltg X;go_wp2;refine CK (v:=BJ #[J (mkR n d).1.1,QX ac m1 aj,QX ad m2 ak]) (by simp[CO,results124,go_sem, *]) rfl ?_;refine A1s (lo:=w.1.size+1) ah G.free (λai al=>by have:=(G.2 ai al).1;omega) oS ?_ ?_;·exact Above.go
 exact Below.go

theorem E5y (n:Int) (h:I64 n):mkR n 1=U_ n:=by
 unfold mkR U_;rw[Int.gcd_one_right,Int.natCast_one,PH,PH,if_pos];·rfl
 have p:=A6t (by decide:3<=24);rw[pw_vals.2.2]at p;exact⟨A4r (by have:=h.1;have:=h.2;omega),dE⟩

theorem A0l (n:Int) (w:AD) (h:I64 n):BL prog 59 #[RH K n] w (A0c w (U_ n)):=by
 have W:=A_ h;have O:=A_ (E5y n h);clear h;go_enter func59,ntmps59;go_wp2_with fail;refine(A7u n 1 _ W (by unfold I64;omega) dE).mono ?_;rw[O.o];rintro _ ae ⟨al,ai,rfl,b,E,D⟩;obtain⟨G,m1,Y,aj,H,m2,Z,ak,rfl,ad,ab,ac⟩:=CF b;have T:=A_ b;have u:=A_ E;clear ad ab ac b E;obtain⟨af,ag⟩:=F_ D;have ah:w.1.size<ae.1.size:=ltg D;go_wp2;refine CK (v:=BJ #[J (U_ n).1.1,QX G m1 Y,QX H m2 Z]) (by simp[CO,results59,go_sem, *]) rfl ?_;refine A1s (lo:=w.1.size+1) T u.free (λX aa=>by have:=(u.2 X aa).1;simp at this;omega) oS ?_ ?_;·exact Above.go
 exact Below.go
section
attribute [local simp] MP.box
section
variable {r s:TRat}
theorem _root_.Go.XN.RatV.lim (h:RatV r) (b:A2a r=AF):(0<T_ r/\T_ r<1000000000)/\(-1000000000<R_ r/\R_ r<1000000000):=by
 unfold A2a at b;simp only[DJ,decide_eq_true_eq]at b;exact⟨⟨h.den0,(C5o h.2 b.2).2⟩,C5m h.mag.1 b.1⟩
theorem B1p {a b:Int} (u:-1000000000<a/\a<1000000000) (D:-1000000000<b/\b<1000000000):-1000000000000000000<=a*b/\a*b<=1000000000000000000:=by
 have h:(a*b).natAbs<=1000000000*1000000000:=by rw[OL];exact Nat.mul_le_mul oS oS
 omega
theorem B6g {a b:Int} {m n:Nat} (D:(a.natAbs:Int)<pw m) (H:(b.natAbs:Int)<pw n):((a*b).natAbs:Int)<pw (m+n):=by
 rw[OL,B0f,Int.natCast_mul];have u:=A5r n;rcases IG b.natAbs with h|h
 ·rw[h];simp;exact GW (A5r m) u
 have E:(a.natAbs:Int)*b.natAbs<pw m*b.natAbs:=Int.mul_lt_mul_of_pos_right D oS;have G:pw m*b.natAbs<=pw m*pw n:=Int.mul_le_mul_of_nonneg_left oS (Int.le_of_lt (A5r m));omega
theorem E5v {a b:Int} {m:Nat} (h:(a.natAbs:Int)<pw m) (u:(b.natAbs:Int)<pw m):((a+b).natAbs:Int)<pw (m+1):=by
 rw[A1l];omega
theorem C3t {T:Int} {m:Nat} (h:(T.natAbs:Int)<pw m):(A0f T).mag.length<=m:=A4r h
theorem B0w (T:Int):NegOk (A0f T):=by
 intro h;unfold A0f at h ⊢;simp only[decide_eq_true_eq]at h;simp only[Ne,B1x];omega
theorem _root_.Go.XN.RatV.numlt (h:RatV r):((R_ r).natAbs:Int)<pw 24:=by
 have b:=A4j h.mag.1;have u:=A6t h.num24;have D:=S_ h.mag.1;unfold R_ A0q;split<;>omega
theorem _root_.Go.XN.RatV.denlt (h:RatV r):((T_ r).natAbs:Int)<pw 24:=by
 have b:=A4j h.2.1;have u:=A6t h.den24;have D:=h.den0;unfold T_;omega
structure DenD (D:Int):Prop where
 can:XN.Can (dig D.toNat)
 v:val (dig D.toNat)=D
 pos:0<(dig D.toNat).length
 le:(dig D.toNat).length<=65536
theorem _root_.Go.XN.RatV.denD (h:RatV r) (b:RatV s):DenD (T_ r*T_ s):=by
 have D:0<T_ r*T_ s:=GW h.den0 b.den0;have u:=B6g h.denlt b.denlt;rw[show 24+24=48 from rfl]at u;refine⟨A0j _,by rw[A1j];omega,MZ.2 (by rw[Ne,B1x];omega),?_⟩;have:(dig (T_ r*T_ s).toNat).length<=48:=A4r oS;omega
end

def _root_.Go.XB.MP.red (X:TBigInt) (ys:List Int) (v:AU) (x:TRat):MP:=⟨λu bs w=>(u=v/\bs=[]/\x=⟨X,ys⟩)\/(Agg w u x bs/\Free w bs),λ_ _ _ _ hb h=>h.imp id λh=>⟨h.1.below hb,h.2.below hb⟩⟩
theorem D0d {T u:Int} {u4 O:AU} {ab ac:List Nat} {w:AD} (Z:Agg w u4 (A0f T) ab) (ae:∃ A n c,O=QX A n c/\Sl w A n c (dig u.toNat) ac) (h:DenD u) (ad:0<u) (W:(A0f T).mag.length<=65536) :
  BL prog 91 #[u4,O] w λe w'=>∃ v,e=.returned v/\Bw w w'/\∃ bs,(MP.red (A0f T) (dig u.toNat) (BJ (u4.cells++#[O])) (mkR T u)).p v bs w'/\∀ b∈bs,w.1.size<=b/\b<w'.1.size:=by
 obtain⟨ai,n2,ak,rfl,H⟩:=ae;have E:=H.1;by_cases D:CQ (val (A0f T).mag) (val (dig u.toNat))=1/\(A0f T).mag.length<=24/\(dig u.toNat).length<=24;·have Y:=E4a (X:=A0f T) (A7g _) (B0w _) h.can (by rw[h.v];exact ad) D.1 D.2.1 D.2.2;rw[A5m,h.v]at Y;obtain⟨ah,n1,aj,al,rfl,-,ag⟩:=FZ Z;refine(C2i ag H (A7g _) h.can (by rw[<-E];exact h.pos) W (by rw[<-E];exact h.le) D.1 D.2.1 (by rw[<-E];exact D.2.2)).mono ?_;rintro _ w' ⟨rfl,G⟩;exact⟨_,rfl,G,[],.inl ⟨rfl,rfl,Y⟩,sI⟩
 have C:=E0g Z H (A7g _) h.can (by rw[<-E];exact h.pos) W (by rw[<-E];exact h.le) (B0w _) (by rw[<-E];exact D);rw[A5m,h.v]at C;refine C.mono ?_;rintro _ w' ⟨v,bs,rfl,af,aa,G⟩;exact⟨v,rfl,G,bs,.inr ⟨af,aa.free⟩,aa.range⟩
theorem D8x {X:TBigInt} {ys:List Int} {x:TRat} {u4 T u:AU} {D E bs:List Nat} {w:AD} (H:Agg w u4 X D/\Free w D) (W:(∃ A n c,T=QX A n c/\Sl w A n c ys E)/\Free w E) (h:(MP.red X ys (BJ (u4.cells++#[T])) x).p u bs w) (Y:∀ b∈D,b∉E) :
  ∃ B1 m1 d1 B2 m2 d2 s,u=BJ #[J x.1.1,QX B1 m1 d1,QX B2 m2 d2]/\Hid (Agg w (BJ #[J x.1.1,QX B1 m1 d1,QX B2 m2 d2]) x s)/\Hid (Free w s)/\∀ b∈s,b∈D\/b∈E\/b∈bs:=by
 rcases h with⟨rfl,-,rfl⟩|⟨O,Z⟩;·obtain⟨ad,n1,af,ah,rfl,rfl,ab⟩:=FZ H.1;obtain⟨⟨ae,n2,ag,rfl,ac⟩,aa⟩:=W;exact⟨_,_,_,_,_,_,_,rfl,FK (x:=⟨X,ys⟩) ab ac,Free.join H.2 aa Y,λb G=>(List.mem_append.1 G).imp id .inl⟩
 obtain⟨B1,m1,d1,ai,B2,m2,d2,aj,rfl,-,-,-⟩:=CF O;exact⟨_,_,_,_,_,_,_,rfl,O,Z,λb G=>.inr (.inr G)⟩
theorem A0n (v1 v2:AU) (r s:TRat) (b1 b2:List Nat) (w:AD) (Y:Agg w v1 r b1) (aA:Agg w v2 s b2) :
  BL prog 75 #[v1,v2] w (A0c w (A0d r s)):=by
 have ao:=A_ Y;have ap:=A_ aA;obtain⟨bt,n1,bv,bH,a2,n2,bf,bI,rfl,rfl,aU,aV⟩:=CF Y;obtain⟨bu,bE,c3,bJ,a3,br,bg,bK,rfl,rfl,aW,aX⟩:=CF aA;have a7:=A_ aU;have aK:=A_ aV;have a8:=A_ aW;have aL:=A_ aX;clear aU aV aW aX Y aA;go_enter func75,ntmps75;go_wp2_with fail;refine BL.new4 λw0 N=>?_;refine(A1r (some ⟨w.1.size+1+1+1,0,I⟩) 2 2 [r,s] _ w0 (sl2 N.n (ao.below N.b) (ap.below N.b))).mono ?_;rintro _ a1 ⟨rfl,ad⟩;have ab:=A_ (BH N.b ad);have ar:=A_ (A0z N.k ad);have ac:=A_ (A0z N.l ad);have aq:=A_ (A0z N.m ad);clear ad N;obtain⟨aB,-,af⟩:=bx ar;obtain⟨ks,-,Z⟩:=bx ac;obtain⟨ko,aO,aZ⟩:=bx aq;rw[show [r,s].all J_=(J_ r&&J_ s) by simp];cases W:J_ r&&J_ s;·have ag:=A_ (by unfold A0d;rw[W];rfl:A0d r s=A0h);clear W;go_wp2;refine CK (v:=BJ #[J AH,QX I 0 0,QX I 0 0]) (by simp[CO,results75,go_sem, *]) rfl ?_;rw[ag.o];exact A3e (ab.grown (A5y (A5y (A5y (B3a _ _)))) ab.size (λx Y=>by injection Y with Y;omega))
 have ag:=A_ (by unfold A0d;rw[W];rfl:A0d r s=mkR (R_ r*R_ s) (T_ r*T_ s));rw[DJ]at W;have E:=A_ (ratOkB_iff.1 W.1);have G:=A_ (ratOkB_iff.1 W.2);clear W;go_upto_region 3 with fail;go_cut [20] (λs20 wx=>s20=J (A2a r&&A2a s)/\Hid (Bw a1 wx));case first =>
  go_wp2_with fail;refine(A1g _ r _ a1 (ao.below ab)).mono ?_;rintro _ aa ⟨rfl,H⟩;have X:=A_ H;obtain⟨ks,-,Z⟩:=bx (A0z ac H);clear H;cases aj:A2a r;·have au:=A_ aj;clear aj;go_wp2_with fail;go_meet;exact⟨by rw[au.o];rfl,X⟩
  have au:=A_ aj;clear aj;go_wp2_with fail;refine(A1g _ s _ aa (ap.below (BH ab X))).mono ?_;rintro _ w3 ⟨rfl,ae⟩;have ah:=A_ ae;clear ae;go_wp2_with fail;go_meet;exact⟨by rw[au.o];rfl,BH X ah⟩
 case rest =>
 obtain⟨rfl,h⟩:=hcut;rename AD=>wx;rename (∀ (a:Act) (w:AD),Code.wp _ _ _ a w->_)=>aP;refine aP _ _ ?_;clear aP aB ks ko aO af Z aZ;have O:=A_ (BH ab h);obtain⟨aB,-,af⟩:=bx (A0z ar h);obtain⟨ks,-,Z⟩:=bx (A0z ac h);have ai:=A_ (A0z aq h);have bd:=A_ (A0z ac h);clear h ar ac aq;cases az:A2a r&&A2a s
 ·clear az
  have a6:=A_ (E.denD G);have be:=A_ (show(A0f (R_ r*R_ s)).mag.length<=65536 from CJ (C3t (B6g E.numlt G.numlt)) dE);go_wp2_with fail;refine X_ sI ?_;dsimp only[DN,DO,DQ];iterate 4 refine C_ _ ?_
  refine D_ (CH (A0f (R_ r*R_ s))) ?_ ?_;·intro aI aJ ak u D;obtain⟨aQ,aS⟩:=F_ u;simp at D;refine G_ ?_;exact H_ (A6e _ _ r.1 s.num _ _ ak (FV (BN a7 (BH O u))) (FV (BN a8 (BH O u))) E.mag.1 G.mag.1 (CJ E.num24 dE) (CJ G.num24 dE))
  iterate 4 refine C_ _ ?_
  refine D_ (MP.sl (dig (T_ r*T_ s).toNat)) ?_ ?_;·intro aI aJ ak u D;obtain⟨aQ,aS⟩:=F_ u;simp at D;refine G_ ?_;exact A1c (B5n a2 a3 n2 br bf bg r.2 s.2 _ _ ak (BN aK.o (BH O.o u)) (BN aL.o (BH O.o u)) E.o.2.1 G.o.2.1 (by rw[<-aK.o.1];exact CJ E.o.den24 dE) (by rw[<-aL.o.1];exact CJ G.den24 dE))
  refine A3q (λaH=>MP.red (A0f (R_ r*R_ s)) (dig (T_ r*T_ s).toNat) (BJ ((aH 4).cells++#[aH 9])) (mkR (R_ r*R_ s) (T_ r*T_ s))) (by intro y aH T;simp[N_,M_]at T;simp[T]) ?_ ?_;·intro aI aJ ak u D;obtain⟨aQ,aS⟩:=F_ u;simp at D;refine G_ ?_;exact D0d D.1.1 D.2.1 a6 (GW E.den0 G.den0) be
  intro aI aJ wa u D (aR:Hid _);simp at D;have aD:=D.2.2.2.2.1;have aE:=D.2.2.2.2.2.2.2.2.2.1;have aC:=D.2.2.2.2.2.2.2.2.2.2;obtain⟨al,m1,aw,am,m2,ax,z,bz,an,ba,aY⟩:=D8x aD.1 aE.1 aC.1 (aR 4 9 dE dE dE)
  have bc:=A_ (show ∀ b∈z,wx.1.size<=b from λb h=>by
   rcases aY b h with T|T|T;·exact(aD.2 b T).1
   ·exact(aE.2 b T).1
   exact(aC.2 b T).1)
  have a9:=A_ u;obtain⟨ko,aO,aZ⟩:=bx (A0z ai u);have:=E_ ai;clear D aR aD aE aC aY u;go_wp2;refine CK (v:=BJ #[J (mkR (R_ r*R_ s) (T_ r*T_ s)).1.1,QX al m1 aw,QX am m2 ax]) (by simp[CO,results75,go_sem, *]) rfl ?_;rw[ag.o];exact B8v an ba (λb h=>by have:=bc b h;omega) (BH O.o a9.o) oS (A5y (A5y (A5y (B3a _ _))))
 rw[DJ]at az;obtain⟨aF,aG⟩:=az;have af:=E.lim aF;have Z:=G.lim aG;have a4:=A_ (A3c _ r _ wx (ao.below O) aF E.mag.1 (A4h E.1));have a5:=A_ (λaa (H:Bw wx aa)=>A3c _ s _ aa (ap.below (BH O H)) aG G.mag.1 (A4h G.1));clear aF aG;generalize R_ r=a at *;generalize T_ r=b at *;generalize R_ s=c at *;generalize T_ s=d at *;obtain⟨⟨bj,bk⟩,bh,bi⟩:=af;obtain⟨⟨bn,bo⟩,bl,bm⟩:=Z;obtain⟨bF,p1⟩:=B1p (a:=a) (b:=c) ⟨bh,bi⟩ ⟨bl,bm⟩;obtain⟨_,bG⟩:=B1p (a:=b) (b:=d) ⟨oS,bk⟩ ⟨oS,bo⟩;have p2:=GW bj bn;go_wp2_with fail;refine a4.mono ?_;rintro _ aa ⟨rfl,H⟩;have X:=A_ H;obtain⟨bp,-,bq⟩:=bx (A0z bd H);clear H ks Z aB af;go_wp2_with fail;refine(a5 aa X).mono ?_;rintro _ w3 ⟨rfl,ae⟩;have ah:=A_ (BH X ae);clear ae bp bq;go_wp2_with fail;refine(C2n (a*c) (b*d) w3 p2 oS oS oS).mono ?_;rintro _ bN ⟨v,bs,rfl,ay,aT,h⟩;obtain⟨al,m1,aw,bL,am,m2,ax,bM,rfl,-,-,-⟩:=CF ay;have an:=A_ ay;have aN:=A_ aT;have aM:=A_ (BH ah h);obtain⟨bB,bA,bD⟩:=bx (A0z ai aM);clear ay aT h;go_wp2;refine CK (v:=BJ #[J (mkR (a*c) (b*d)).1.1,QX al m1 aw,QX am m2 ax]) (by simp[CO,results75,go_sem, *]) rfl ?_;rw[ag.o];have:=E_ ai;have:=ah.size;exact B8v an aN.free (λb h=>by have:=(aN.2 b h).1;omega) (BH O.o aM.o) oS (A5y (A5y (A5y (B3a _ _))))
end
attribute [local simp] MP.box
def _root_.Go.XB.MP.aggS {α:Type} [Dat α] (x:α):MP:=⟨λv bs w=>bs=[]/\∃ s,Agg w v x s,λ_ _ _ _ hb h=>⟨h.1,by obtain⟨s,hs⟩:=h.2;exact⟨s,hs.below hb⟩⟩⟩
def C4o {α:Type} [Dat α] (w:AD) (x:α) (e:Ending) (w':AD):Prop:=∃ v s,e=.returned v/\Agg w' v x s/\Bw w w'
theorem A7t {α:Type} [Dat α] {P:Program} {f:FuncId} {args:Array AU} {w:AD} {x:α} (h:BL P f args w (C4o w x)) :
  BL P f args w λe w'=>∃ u,e=.returned u/\Bw w w'/\∃ bs,(MP.aggS x).p u bs w'/\∀ b∈bs,w.1.size<=b/\b<w'.1.size :=
 h.mono λ_ _ ⟨v,s,he,ha,hb⟩=>⟨v,he,hb,[],⟨rfl,s,ha⟩,λb hb=>by simp at hb⟩
attribute [local simp] MP.aggS

theorem B6n {r:TRat} {W:AD} {A:Option Addr} {n c:Nat} {b:List Nat} (h:Sl W A n c r.2 b):Agg W (BJ #[J AH,QX A n c]) (⟨AH,r.2⟩:TBigInt) b/\A0q ⟨AH,r.2⟩=T_ r :=
 ⟨FV (x:=⟨AH,r.2⟩) h,by unfold A0q T_;simp⟩

theorem B0t (v1 v2:AU) (r s:TRat) (b1 b2:List Nat) (w:AD) (aB:Agg w v1 r b1) (aC:Agg w v2 s b2) (aY:RatV r) (vs:RatV s) :
  BL prog 45 #[v1,v2] w (A0b w (RH K (A6u r s))):=by
 have ae:=A_ aB;have ap:=A_ aC;obtain⟨al,n1,aq,bv,am,n2,ar,bz,rfl,rfl,aQ,aR⟩:=CF aB;obtain⟨an,aD,c3,bA,ao,aE,au,bB,rfl,rfl,aS,aT⟩:=CF aC;have aI:=A_ aQ;have aJ:=A_ aR;have aK:=A_ aS;have aL:=A_ aT;have G:=A_ aY;have H:=A_ vs;have aM:=G;have aN:=H;clear aQ aR aS aT aB aC aY vs;by_cases ak:A2a r=AF/\A2a s=AF
 ·obtain⟨aF,aG⟩:=ak
  have aW:=G.lim aF;have aX:=H.lim aG;have Z:=A_ aF;have af:=A_ aG;clear aF aG;obtain⟨a,ag⟩:∃ a,R_ r=a:=⟨_,rfl⟩
  obtain⟨T,ah⟩:∃ T,T_ r=T:=⟨_,rfl⟩
  obtain⟨c,ai⟩:∃ c,R_ s=c:=⟨_,rfl⟩
  obtain⟨d,aj⟩:∃ d,T_ s=d:=⟨_,rfl⟩
  rw[ag,ah]at aW;rw[ai,aj]at aX;have aZ:=A_ ag;have a1:=A_ ah;have a2:=A_ ai;have a3:=A_ aj;have a4:=A_ (by unfold A6u;rw[ag,ah,ai,aj]:sgn (a*d - c*T)=A6u r s);clear ag ah ai aj;obtain⟨⟨bq,bd⟩,ba,bc⟩:=aW;obtain⟨⟨br,bg⟩,be,bf⟩:=aX;obtain⟨bt,p1⟩:=B1p (a:=a) (b:=d) ⟨ba,bc⟩ ⟨oS,bg⟩;obtain⟨p2,bu⟩:=B1p (a:=c) (b:=T) ⟨be,bf⟩ ⟨oS,bd⟩;go_enter func45,ntmps45;go_wp2_with fail;have C:=A1g _ r _ ((w.alloc (BG #[J r.1.1,QX al n1 aq,QX am n2 ar] 39)).alloc (BG #[J s.1.1,QX an aD c3,QX ao aE au] 39)) (IE ae Below.go);rw[Z.o]at C;refine C.mono ?_;clear C;rintro _ O ⟨rfl,E⟩;obtain⟨aO,aP⟩:=F_ E;have aU:w.1.size<O.1.size:=ltg E;have aV:w.1.size+1<O.1.size:=ltg E;go_wp2_with fail;have C:=A1g _ s _ O (IE ap Below.go);rw[af.o]at C;refine C.mono ?_;clear C;rintro _ aa ⟨rfl,W⟩;obtain⟨a6,a7⟩:=F_ W;have a8:w.1.size<aa.1.size:=ltg W;have a9:w.1.size+1<aa.1.size:=ltg W;go_wp2_with fail;have C:=A3c _ r _ aa (IE ae Below.go) Z aM.mag.1 (A4h aM.1);rw[aZ.o,a1.o]at C;refine C.mono ?_;clear C;rintro _ w3 ⟨rfl,ay⟩;obtain⟨bi,bk⟩:=F_ ay;have bm:w.1.size<w3.1.size:=ltg ay;have bo:w.1.size+1<w3.1.size:=ltg ay;go_wp2_with fail;have C:=A3c _ s _ w3 (IE ap Below.go) af aN.mag.1 (A4h aN.1);rw[a2.o,a3.o]at C;refine C.mono ?_;clear C;rintro _ aH ⟨rfl,az⟩;obtain⟨bj,bl⟩:=F_ az;have bn:w.1.size<aH.1.size:=ltg az;have bp:w.1.size+1<aH.1.size:=ltg az;go_wp2_with fail;refine(C2j (a*d - c*T) aH).mono ?_;rintro _ bD ⟨rfl,bh⟩;go_wp2;go_ret;exact⟨A1x a4,Below.go⟩
 cases ad:A2a r
 ·have Z:=A_ ad
  clear ad ak;go_enter func45,ntmps45;go_wp2_with fail;have C:=A1g _ r _ ((w.alloc (BG #[J r.1.1,QX al n1 aq,QX am n2 ar] 39)).alloc (BG #[J s.1.1,QX an aD c3,QX ao aE au] 39)) (IE ae Below.go);rw[Z.o]at C;refine C.mono ?_;clear C;rintro _ O ⟨rfl,E⟩;obtain⟨aO,aP⟩:=F_ E;have aU:w.1.size<O.1.size:=ltg E;have aV:w.1.size+1<O.1.size:=ltg E;go_wp2_with fail;refine A0g ?_;iterate 5 refine C_ _ ?_
  refine D_ (CH (A0f (R_ r*T_ s))) ?_ ?_;·intro X Y h u b;obtain⟨ab,ac⟩:=F_ u;simp at b;refine G_ ?_;have D:=B6n (r:=s) (BN aL (show Bw w h from Below.go));have C:=A6e _ _ r.1 ⟨AH,s.2⟩ _ _ h (FV (BN aI Below.go)) D.1 G.mag.1 H.2.1 (CJ G.num24 dE) (CJ H.den24 dE);rw[D.2]at C;exact H_ C
  iterate 5 refine C_ _ ?_
  refine D_ (CH (A0f (R_ s*T_ r))) ?_ ?_;·intro X Y h u b;obtain⟨ab,ac⟩:=F_ u;simp at b;refine G_ ?_;have D:=B6n (r:=r) (BN aJ (show Bw w h from Below.go));have C:=A6e _ _ s.1 ⟨AH,r.2⟩ _ _ h (FV (BN aK Below.go)) D.1 H.mag.1 G.2.1 (CJ H.num24 dE) (CJ G.den24 dE);rw[D.2]at C;exact H_ C
  refine D_ (MP.eq (RH K (A6u r s))) ?_ ?_;·intro X Y h u b;obtain⟨ab,ac⟩:=F_ u;simp at b;refine G_ ?_;obtain⟨⟨aw,_⟩,ax,_⟩:=b;have C:=C2v _ _ _ _ _ _ h aw ax (A7g _) (A7g _) (B0w _) (B0w _);rw[A5m,A5m]at C;exact A0i C
  refine C_ _ ?_;intro X Y wa u b (aA:Hid _);simp at b;go_simp;clear b aA;go_wp2;go_ret;exact⟨rfl,Below.go⟩
 have af:=A_ (show A2a s=AH by cases a5:A2a s;rfl;exact absurd ⟨ad,a5⟩ ak);have Z:=A_ ad;clear ad ak;go_enter func45,ntmps45;go_wp2_with fail;have C:=A1g _ r _ ((w.alloc (BG #[J r.1.1,QX al n1 aq,QX am n2 ar] 39)).alloc (BG #[J s.1.1,QX an aD c3,QX ao aE au] 39)) (IE ae Below.go);rw[Z.o]at C;refine C.mono ?_;clear C;rintro _ O ⟨rfl,E⟩;obtain⟨aO,aP⟩:=F_ E;have aU:w.1.size<O.1.size:=ltg E;have aV:w.1.size+1<O.1.size:=ltg E;go_wp2_with fail;have C:=A1g _ s _ O (IE ap Below.go);rw[af.o]at C;refine C.mono ?_;clear C;rintro _ aa ⟨rfl,W⟩;obtain⟨a6,a7⟩:=F_ W;have a8:w.1.size<aa.1.size:=ltg W;have a9:w.1.size+1<aa.1.size:=ltg W;go_wp2_with fail;refine A0g ?_;iterate 5 refine C_ _ ?_
 refine D_ (CH (A0f (R_ r*T_ s))) ?_ ?_;·intro X Y h u b;obtain⟨ab,ac⟩:=F_ u;simp at b;refine G_ ?_;have D:=B6n (r:=s) (BN aL (show Bw w h from Below.go));have C:=A6e _ _ r.1 ⟨AH,s.2⟩ _ _ h (FV (BN aI Below.go)) D.1 G.mag.1 H.2.1 (CJ G.num24 dE) (CJ H.den24 dE);rw[D.2]at C;exact H_ C
 iterate 5 refine C_ _ ?_
 refine D_ (CH (A0f (R_ s*T_ r))) ?_ ?_;·intro X Y h u b;obtain⟨ab,ac⟩:=F_ u;simp at b;refine G_ ?_;have D:=B6n (r:=r) (BN aJ (show Bw w h from Below.go));have C:=A6e _ _ s.1 ⟨AH,r.2⟩ _ _ h (FV (BN aK Below.go)) D.1 H.mag.1 G.2.1 (CJ H.num24 dE) (CJ G.den24 dE);rw[D.2]at C;exact H_ C
 refine D_ (MP.eq (RH K (A6u r s))) ?_ ?_;·intro X Y h u b;obtain⟨ab,ac⟩:=F_ u;simp at b;refine G_ ?_;obtain⟨⟨aw,_⟩,ax,_⟩:=b;have C:=C2v _ _ _ _ _ _ h aw ax (A7g _) (A7g _) (B0w _) (B0w _);rw[A5m,A5m]at C;exact A0i C
 refine C_ _ ?_;intro X Y wa u b (aA:Hid _);simp at b;go_simp;clear b aA;go_wp2;go_ret;exact⟨rfl,Below.go⟩

theorem B9l {x:TBigInt} (h:A2j x=AF):A0f (-A0q x)=⟨!x.neg&&!x.mag.isEmpty,x.mag⟩:=by
 have b:=(bigOkB_iff.1 h).1.2;have:=C5a (neg:=!x.neg) b (v:=-A0q x) (by unfold A0q;cases x.neg<;>simp);exact this.symm
theorem B7f (v:AU) (x:TRat) (b:List Nat) (w:AD) (O:Agg w v x b) (ok:A2j x.1=AF) :
  BL prog 106 #[v] w (C4o w (⟨A0f (-R_ x),x.2⟩:TRat)):=by
 obtain⟨D,n1,E,ab,T,n2,Z,ac,rfl,rfl,G,H⟩:=CF O;have X:=A_ G;have Y:=A_ H;have W:=A_ (show A0f (-R_ x)=⟨!x.num.neg&&decide (0<n1),x.1.2⟩ by unfold R_;rw[B9l ok,<-G.1];cases x.1.2<;>simp);clear G H O;go_enter func106,ntmps106;go_wp2_with fail;refine X_ sI ?_;dsimp only[DN,DO,DQ];iterate 7 refine C_ _ ?_
 refine D_ (MP.eq (BJ #[J (!x.num.neg&&decide (0<n1)),QX D n1 E])) ?_ ?_;·intro ae af ad h u;obtain⟨ah,aj⟩:=F_ h;simp at u;refine G_ ?_;exact A0i (A3s (!x.num.neg) D n1 E ad)
 iterate 3 refine C_ _ ?_
 intro ae af wa h u (aa:Hid _);simp at u;go_simp;clear u aa;obtain⟨ag,ai⟩:=F_ h;have ak:w.1.size<wa.1.size:=ltg h;have al:w.1.size+1<wa.1.size:=ltg h;go_wp2;refine CK (v:=BJ #[J (!x.num.neg&&decide (0<n1)),QX D n1 E,QX T n2 Z]) (by simp[CO,results106,go_sem, *]) rfl ?_;refine⟨_,ab++ac,rfl,?_,Below.go⟩;rw[W.o];exact FK (x:=⟨⟨!x.num.neg&&decide (0<n1),x.1.2⟩,x.2⟩) (BN X Below.go) (BN Y Below.go)
theorem D0m (v1 v2:AU) (r s:TRat) (b1 b2:List Nat) (w:AD) (aI:Agg w v1 r b1) (aJ:Agg w v2 s b2) (bc:RatV r) (vs:RatV s) :
  BL prog 32 #[v1,v2] w (A0c w (mkR (R_ r*T_ s+R_ s*T_ r) (T_ r*T_ s))):=by
 have aT:=A_ aI;have aU:=A_ aJ;obtain⟨bX,n1,b0,cg,bf,n2,bt,ch,rfl,rfl,a3,a4⟩:=CF aI;obtain⟨bY,ca,c3,ci,bg,bT,bu,cj,rfl,rfl,a5,a6⟩:=CF aJ;have bj:=A_ a3;have az:=A_ a4;have bk:=A_ a5;have aA:=A_ a6;have E:=A_ bc;have G:=A_ vs;clear a3 a4 a5 a6 aI aJ bc vs;go_enter func32,ntmps32;go_upto_region 1 with fail;refine Code.new3 λbd N=>?_;obtain⟨ad,-,Y⟩:=bx N.k;have aC:=A_ N.b;have aD:=A_ N.k;have an:=A_ N.l;have aV:=A_ N.m;clear N;go_cut [15] (λs15 wx=>s15=J (A2a r&&A2a s)/\Hid (Bw bd wx));case first =>
  go_wp2_with fail;refine(A1g _ r _ bd (aT.below aC)).mono ?_;rintro _ ae ⟨rfl,O⟩;have ab:=A_ O;obtain⟨ks,-,Z⟩:=bx (A0z an O);clear O;cases au:A2a r;·have aE:=A_ au;clear au;go_wp2_with fail;go_meet;exact⟨by rw[aE.o];rfl,ab⟩
  have aE:=A_ au;clear au;go_wp2_with fail;refine(A1g _ s _ ae (aU.below (BH aC ab))).mono ?_;rintro _ w3 ⟨rfl,aj⟩;have al:=A_ aj;clear aj;go_wp2_with fail;go_meet;exact⟨by rw[aE.o];rfl,BH ab al⟩
 case rest =>
 obtain⟨rfl,u⟩:=hcut;rename AD=>wx;rename (∀ (a:Act) (w:AD),Code.wp _ _ _ a w->_)=>aX;refine aX _ _ ?_;clear aX ad Y;have H:=A_ (BH aC u);obtain⟨ad,-,Y⟩:=bx (A0z aD u);obtain⟨ks,-,Z⟩:=bx (A0z an u);have am:=A_ (A0z aV u);have aW:=A_ (A0z an u);have bq:=A_ (A0z aD u);clear u aD an aV;cases aH:A2a r&&A2a s
 ·clear aH
  have bi:=A_ (E.denD G);have br:=A_ (show(A0f (R_ r*T_ s+R_ s*T_ r)).mag.length<=65536 from CJ (C3t (E5v (B6g E.numlt G.denlt) (B6g G.numlt E.denlt))) dE);go_wp2_with fail;refine X_ sI ?_;dsimp only[DN,DO,DQ];iterate 5 refine C_ _ ?_
  refine D_ (CH (A0f (R_ r*T_ s))) ?_ ?_;·intro aa W T h D;obtain⟨ap,ar⟩:=F_ h;simp at D;refine G_ ?_;have ag:=B6n (r:=s) (BN aA (BH H h));have C:=A6e _ _ r.1 ⟨AH,s.2⟩ _ _ T (FV (BN bj (BH H h))) ag.1 E.mag.1 G.2.1 (CJ E.num24 dE) (CJ G.den24 dE);rw[ag.2]at C;exact H_ C
  iterate 5 refine C_ _ ?_
  refine D_ (CH (A0f (R_ s*T_ r))) ?_ ?_;·intro aa W T h D;obtain⟨ap,ar⟩:=F_ h;simp at D;refine G_ ?_;have ag:=B6n (r:=r) (BN az (BH H h));have C:=A6e _ _ s.1 ⟨AH,r.2⟩ _ _ T (FV (BN bk (BH H h))) ag.1 G.mag.1 E.2.1 (CJ G.num24 dE) (CJ E.den24 dE);rw[ag.2]at C;exact H_ C
  refine D_ (CH (A0f (R_ r*T_ s+R_ s*T_ r))) ?_ ?_;·intro aa W T h D;obtain⟨ap,ar⟩:=F_ h;simp at D;refine G_ ?_;obtain⟨⟨ai,_⟩,u,_⟩:=D;have C:=D6e _ _ _ _ _ _ T ai u (A7g _) (A7g _) (CJ (C3t (B6g E.numlt G.denlt)) dE) (CJ (C3t (B6g G.numlt E.denlt)) dE);rw[A5m,A5m]at C;exact H_ C
  refine A1p #[J AH,QX I 0 0] 37 ?_ ?_;·intro aa W T h D;refine⟨gD,?_⟩;go_simp
  intro aa W wa h D (aq:Hid _);simp at D;have bU:=D.2.2.2.2.2.2.2.2.2.2.2.2.1;have bV:=D.2.2.2.2.2.2.2.2.2.2.2.2.2;obtain⟨⟨ao,aY⟩,a1⟩:=bU;obtain⟨af,m1,ah,bW,bB,-,-⟩:=FZ ao;obtain⟨⟨g,b4,a8,aF⟩,a2⟩:=bV;have aG:=A_ (show g∉W 12 from λu=>by have:=aq 12 13 dE dE dE g u;rw[a8]at this;simp at this);have bG:wx.1.size<=g:=(a2 g (by rw[a8];simp)).1;rw[bB]at ao;have ak:=A_ ao;have aQ:=A_ aY;have aR:=A_ aF;have aO:=A_ h;have bo:=A_ (λb u=>(a1 b u).1);obtain⟨bD,gf,bO⟩:=bx aF;generalize W 12=cn at *;clear D aq ao aY a1 a2 aF h ad Y ks Z;go_upto_region 6 with fail;refine Code.set2 aR λbZ S=>?_;have ac:=A_ (S.low aO aO.size bG);have aB:=A_ (ak.keepG S.gr aG);have bn:=A_ (Free.keepG aQ S.gr aG);obtain⟨bE,-,bP⟩:=bx S.k;obtain⟨ad,-,Y⟩:=bx (A0z bq ac);obtain⟨ks,-,Z⟩:=bx (A0z aW ac);clear bD gf bO S ak aQ aR aG;refine X_ sI ?_;dsimp only[DN,DO,DQ];iterate 5 refine C_ _ ?_
  refine D_ (MP.sl (dig (T_ r*T_ s).toNat)) ?_ ?_;·intro aa W T h D;obtain⟨ap,ar⟩:=F_ h;simp at D;refine G_ ?_;exact A1c (B5n bf bg n2 bT bt bu r.2 s.2 _ _ T (BN az.o (BH H.o (BH ac.o h))) (BN aA.o (BH H.o (BH ac.o h))) E.o.2.1 G.o.2.1 (by rw[<-az.o.1];exact CJ E.o.den24 dE) (by rw[<-aA.o.1];exact CJ G.den24 dE))
  refine A3q (λbe=>MP.red (A0f (R_ r*T_ s+R_ s*T_ r)) (dig (T_ r*T_ s).toNat) (BJ #[J (A0f (R_ r*T_ s+R_ s*T_ r)).neg,QX af m1 ah,be 5]) (mkR (R_ r*T_ s+R_ s*T_ r) (T_ r*T_ s))) (by intro y be X;simp[N_,M_]at X;simp[X]) ?_ ?_;·intro aa W T h D;obtain⟨ap,ar⟩:=F_ h;simp at D;refine G_ ?_;exact D0d (u4:=BJ #[J (A0f (R_ r*T_ s+R_ s*T_ r)).neg,QX af m1 ah]) (aB.below h) D.2.1 bi (GW E.den0 G.den0) br
  intro aa W wb h D (aq:Hid _);simp at D;have aw:=D.2.2.2.2.2.1;have aK:=D.2.2.2.2.2.2;obtain⟨ax,bR,bz,ay,bS,bA,z,b3,bl,bm,a7⟩:=D8x (u4:=BJ #[J (A0f (R_ r*T_ s+R_ s*T_ r)).neg,QX af m1 ah]) ⟨aB.below h,bn.below h⟩ aw.1 aK.1 (λb u bF=>by have:=(aw.2 b bF).1;have:=aB.lt b u;omega)
  have bp:=A_ (show ∀ b∈z,wx.1.size<=b from λb u=>by
   have:=ac.size;rcases a7 b u with X|X|X
   ·exact bo b X
   ·have:=(aw.2 b X).1;omega
   have:=(aK.2 b X).1;omega)
  have aP:=A_ (BH ac h);obtain⟨ko,b5,b8⟩:=bx (A0z am aP);have:=E_ am;clear D aq aw aK a7 h ad ks Y Z bE bP;go_wp2;refine CK (v:=BJ #[J (mkR (R_ r*T_ s+R_ s*T_ r) (T_ r*T_ s)).1.1,QX ax bR bz,QX ay bS bA]) (by simp[CO,results32,go_sem, *]) rfl ?_;exact B8v bl bm (λb u=>by have:=bp b u;omega) (BH H.o aP.o) oS (A5y (A5y (A5y (B3a _ _))))
 rw[DJ]at aH;obtain⟨aL,aM⟩:=aH;have Y:=E.lim aL;have Z:=G.lim aM;have ax:=A_ (A3c _ r _ wx (aT.below H) aL E.mag.1 (A4h E.1));have ay:=A_ (λae (O:Bw wx ae)=>A3c _ s _ ae (aU.below (BH H O)) aM G.mag.1 (A4h G.1));clear aL aM;generalize R_ r=a at *;generalize T_ r=b at *;generalize R_ s=c at *;generalize T_ s=d at *;obtain⟨⟨bJ,a9⟩,bH,bI⟩:=Y;obtain⟨⟨bM,ba⟩,bK,bL⟩:=Z;obtain⟨cb,p1⟩:=B1p (a:=a) (b:=d) ⟨bH,bI⟩ ⟨oS,ba⟩;obtain⟨cd,ce⟩:=B1p (a:=c) (b:=b) ⟨bK,bL⟩ ⟨oS,a9⟩;obtain⟨_,cc⟩:=B1p (a:=b) (b:=d) ⟨oS,a9⟩ ⟨oS,ba⟩;have p2:=GW bJ bM;go_wp2_with fail;refine ax.mono ?_;rintro _ ae ⟨rfl,O⟩;have ab:=A_ O;obtain⟨bN,-,bQ⟩:=bx (A0z aW O);clear O ks Z ad Y;go_wp2_with fail;refine(ay ae ab).mono ?_;rintro _ w3 ⟨rfl,aj⟩;have al:=A_ (BH ab aj);clear aj bN bQ;go_wp2_with fail;refine(C2n (a*d+c*b) (b*d) w3 p2 oS oS oS).mono ?_;rintro _ cm ⟨v,bs,rfl,ai,aZ,u⟩;obtain⟨af,m1,ah,bW,bh,m2,bv,ck,rfl,-,-,-⟩:=CF ai;have ak:=A_ ai;have aS:=A_ aZ;have aN:=A_ (BH al u);obtain⟨b7,b6,b9⟩:=bx (A0z am aN);clear ai aZ u;go_wp2;refine CK (v:=BJ #[J (mkR (a*d+c*b) (b*d)).1.1,QX af m1 ah,QX bh m2 bv]) (by simp[CO,results32,go_sem, *]) rfl ?_;have:=E_ am;have:=al.size;exact B8v ak aS.free (λb u=>by have:=(aS.2 b u).1;omega) (BH H.o aN.o) oS (A5y (A5y (A5y (B3a _ _))))

theorem _root_.Go.XN.RatV.neg {x:TRat} (h:RatV x):RatV ⟨A0f (-R_ x),x.2⟩:=by
 have e:A0f (-R_ x)=⟨!x.num.neg&&!x.num.mag.isEmpty,x.1.2⟩:=by unfold R_;exact B9l h.1
 have D:=bigOkB_iff.1 h.1;refine⟨?_,h.2,h.den0,?_,h.den24,?_⟩;·show A2j (A0f (-R_ x))=AF;rw[e,bigOkB_iff];refine⟨D.1,λb=>?_⟩;simp at b;simp only;intro u;rw[u]at b;simp at b
 ·show(A0f (-R_ x)).mag.length<=24;rw[e];exact h.num24
 show CQ (val (A0f (-R_ x)).mag) (val x.2)=1;rw[e];exact h.one
theorem D4a (x:TRat):R_ ⟨A0f (-R_ x),x.2⟩ = -R_ x/\T_ ⟨A0f (-R_ x),x.2⟩=T_ x:=⟨by show A0q (A0f (-R_ x))=_;rw[A5m],rfl⟩
theorem A0x (v1 v2:AU) (r s:TRat) (b1 b2:List Nat) (w:AD) (h:Agg w v1 r b1) (T:Agg w v2 s b2) :
  BL prog 9 #[v1,v2] w (A0c w (A0k r s)):=by
 have Y:=A_ h;have Z:=A_ T;obtain⟨ao,n1,au,aD,ap,n2,aw,aE,rfl,rfl,-,-⟩:=CF h;obtain⟨aq,aB,c3,aF,ar,aC,ax,aG,rfl,rfl,al,am⟩:=CF T;clear al am h T;go_enter func9,ntmps9;go_wp2_with fail;refine BL.new4 λw0 N=>?_;refine(A1r (some ⟨w.1.size+1+1+1,0,I⟩) 2 2 [r,s] _ w0 (sl2 N.n (Y.below N.b) (Z.below N.b))).mono ?_;rintro _ an ⟨rfl,D⟩;have u:=A_ (BH N.b D);obtain⟨ay,-,az⟩:=bx (A0z N.k D);obtain⟨ks,-,aA⟩:=bx (A0z N.l D);have H:=A_ (A0z N.m D);clear D N;obtain⟨ko,aa,ac⟩:=bx H;rw[show [r,s].all J_=(J_ r&&J_ s) by simp];cases b:J_ r&&J_ s;·have G:=A_ (by unfold A0k;rw[b];rfl:A0k r s=A0h);clear b;go_wp2;refine CK (v:=BJ #[J AH,QX I 0 0,QX I 0 0]) (by simp[CO,results9,go_sem, *]) rfl ?_;rw[G.o];exact A3e (u.grown (A5y (A5y (A5y (B3a _ _)))) u.size (λx h=>by injection h with h;omega))
 have G:=A_ (by unfold A0k;rw[b];rfl:A0k r s=mkR (R_ r*T_ s+R_ s*T_ r) (T_ r*T_ s));rw[DJ]at b;have ag:=A_ (ratOkB_iff.1 b.1);have ah:=A_ (ratOkB_iff.1 b.2);clear b;go_wp2_with fail;refine(D0m _ _ r s _ _ an (Y.below u) (Z.below u) ag ah).mono ?_;rintro _ aJ ⟨v,bs,rfl,O,ab,E⟩;obtain⟨ad,m1,aj,aH,ae,m2,ak,aI,rfl,-,-,-⟩:=CF O;have af:=A_ O;have X:=A_ ab;have W:=A_ E;clear O ab E ko aa ac;obtain⟨ko,aa,ac⟩:=bx (A0z H W);go_wp2;refine CK (v:=BJ #[J (mkR (R_ r*T_ s+R_ s*T_ r) (T_ r*T_ s)).1.1,QX ad m1 aj,QX ae m2 ak]) (by simp[CO,results9,go_sem, *]) rfl ?_;rw[G.o];have:=E_ H;exact B8v af X.free (λai E=>by have:=(X.2 ai E).1;omega) (BH u.o W.o) oS (A5y (A5y (A5y (B3a _ _))))
theorem A5b (v1 v2:AU) (r s:TRat) (b1 b2:List Nat) (w:AD) (E:Agg w v1 r b1) (W:Agg w v2 s b2) :
  BL prog 40 #[v1,v2] w (A0c w (A3t r s)):=by
 have Z:=A_ E;have aa:=A_ W;obtain⟨aE,n1,aI,aQ,aF,n2,aJ,aR,rfl,rfl,-,-⟩:=CF E;obtain⟨aG,aO,c3,aS,aH,aP,aK,aT,rfl,rfl,az,aA⟩:=CF W;clear az aA E W;go_enter func40,ntmps40;go_wp2_with fail;refine BL.new4 λw0 N=>?_;refine(A1r (some ⟨w.1.size+1+1+1,0,I⟩) 2 2 [r,s] _ w0 (sl2 N.n (Z.below N.b) (aa.below N.b))).mono ?_;rintro _ aW ⟨rfl,H⟩;have G:=A_ (BH N.b H);obtain⟨aL,-,aM⟩:=bx (A0z N.k H);obtain⟨ks,-,aN⟩:=bx (A0z N.l H);have T:=A_ (A0z N.m H);clear H N;obtain⟨ko,ac,af⟩:=bx T;rw[show [r,s].all J_=(J_ r&&J_ s) by simp];cases u:J_ r&&J_ s;·have O:=A_ (by unfold A3t;rw[u];rfl:A3t r s=A0h);clear u;go_wp2;refine CK (v:=BJ #[J AH,QX I 0 0,QX I 0 0]) (by simp[CO,results40,go_sem, *]) rfl ?_;rw[O.o];exact A3e (G.grown (A5y (A5y (A5y (B3a _ _)))) G.size (λx E=>by injection E with E;omega))
 have O:=A_ (by unfold A3t;rw[u];rfl:A3t r s=mkR (R_ r*T_ s - R_ s*T_ r) (T_ r*T_ s));rw[DJ]at u;have an:=A_ (ratOkB_iff.1 u.1);have ab:=A_ (ratOkB_iff.1 u.2);clear u;go_wp2_with fail;refine X_ sI ?_;dsimp only[DN,DO,DQ];iterate 2 refine C_ _ ?_
 refine D_ (MP.aggS (⟨A0f (-R_ s),s.2⟩:TRat)) ?_ ?_;·intro ag ah X b h;obtain⟨aw,ay⟩:=F_ b;simp at h;refine G_ ?_;exact A7t (B7f _ s _ X (aa.below (BH G b)) ab.1)
 refine D_ (CH (mkR (R_ r*T_ s - R_ s*T_ r) (T_ r*T_ s))) ?_ ?_;·intro ag ah X b h;obtain⟨aw,ay⟩:=F_ b;simp at h;refine G_ ?_;obtain⟨_,_,t,D⟩:=h;have C:=D0m _ _ r ⟨A0f (-R_ s),s.2⟩ _ t X (Z.below (BH G b)) D an ab.neg;rw[(D4a s).1,(D4a s).2,Int.neg_mul,<-Int.sub_eq_add_neg]at C;exact H_ C
 intro ag ah wa b h (ax:Hid _);simp at h;have aD:=h.2.2.2;obtain⟨⟨D,ad⟩,ae⟩:=aD;obtain⟨ai,aB,ap,aU,aj,aC,aq,aV,ar,-,-,-⟩:=CF D;rw[ar]at D;have ak:=A_ D;have al:=A_ ad;have am:=A_ ae;have Y:=A_ b;clear h ax D ad ae b ko ac af;obtain⟨ko,ac,af⟩:=bx (A0z T Y);go_wp2;refine CK (v:=BJ #[J (mkR (R_ r*T_ s - R_ s*T_ r) (T_ r*T_ s)).1.1,QX ai aB ap,QX aj aC aq]) (by simp[CO,results40,go_sem, *]) rfl ?_;rw[O.o];have:=E_ T;exact B8v ak al (λao au=>by have:=(am ao au).1;omega) (BH G.o Y.o) oS (A5y (A5y (A5y (B3a _ _))))
theorem A2p (v:AU) (x:TRat) (b:List Nat) (w:AD) (u:Agg w v x b) :
  BL prog 38 #[v] w (A0b w (J (!x.den.isEmpty))):=by
 obtain⟨G,n1,O,W,H,n2,T,X,rfl,rfl,E,h⟩:=CF u;have D:=A_ (show decide (0<n2)=!x.den.isEmpty by rw[<-h.1];cases x.2<;>simp);clear E h u;go_enter func38,ntmps38;go_wp2;go_ret;exact⟨Q_ D,Below.go⟩
end Go.Proofs.YtjcanieccnljfaaGreat.X
