/- A part of the proof. -/
import Derived.Test.YtbkilakncnlebaaGreatDoorY5
import Derived.Deep.LoopGhost
set_option linter.constructorNameAsVariable false
set_option maxHeartbeats 16000000
set_option maxRecDepth 10000
open Bool renaming and_eq_true→CK,false→AF,true→AD,true_and→NN
open Decidable renaming decide→AU
open Go renaming Addr→AH,Calls→AR,Value→AJ,World→J,bodyPost_ret→BI,maxLen→BG,results→BO
open Go.IntKind renaming i64→K,u64→JR
open Go.Obj renaming cells→AK
open Go.Value renaming agg→AM,bool→AC,int→QS,slice→QH
open Go.XB.Agg renaming below→DT
open Go.XB.Below renaming next→AI
open Go.XB.Sl renaming below→AQ,getInt→DB
open Go.XB.TBigInt renaming agg→FU,mkAgg→FB
open Go.XB.TRat renaming agg→BK,mkAgg→CU
open Int renaming ediv_one→NK,emod_lt_of_pos→JY,emod_nonneg→LH,gcd→BQ,le_of_lt→JC,lt_or_le→EO,mul_ediv_cancel_left→PG,toNat_of_nonneg→IM
open List renaming dropLast→DJ,eq_nil_of_length_eq_zero→IF,getLast→DK,length→DI,length_pos_iff→MF,mem_of_getElem?→CH,take_of_length_le→CZ
open Nat renaming eq_zero_or_pos→FV,le_trans→BM,lt_or_ge→BN
open Option renaming none→I,some→QL
namespace Go.Proofs.YtbkilakncnlebaaGreatDoor.X
open Go.RowKit Go.XB Go.XN Proofs.Tryz
attribute [local go_sem] L_ opAt N_ M_ Region.wanted yielded
attribute [local simp] N_ M_ MP.eq A0r
theorem B8y {a b:Int}:BQ b (a % b)=BQ a b:=by
 have h:=Int.gcd_add_mul_left_right b (a % b) (a / b);rw[Int.emod_add_mul_ediv]at h;rw[<-h,Int.gcd_comm]
theorem A8u {w:J} {b D:Nat} {e:TypeId} {size:Nat} {v:AJ} {n:Nat} {xs:List AJ} (h:w.ownsRow b e size v n xs) (O:D<=b):w.ownsRow D e size v n xs:=by
 refine⟨h.1,?_⟩;rcases h.2 with u|⟨g,cap,E,G,u,H⟩
 ·exact .inl u
 exact .inr ⟨g,cap,E,G,BM O u,H⟩

theorem C1y (A B:Option AH) (n m c d:Nat) (xs ys:List Int) (bs b:List Nat) (w:J) (D:Sl w A n c xs bs) (h:Sl w B m d ys b) (ad:XN.Can xs) (ae:XN.Can ys) (T:n<=65536) (O:m<=65536) :
  AR prog 89 #[QH A n c,QH B m d] w (B3k w 3 (dig (BQ (val xs) (val ys)))):=by
 have al:=A_ D;have am:=A_ h;have aj:=A_ ad;have aa:=A_ ae;clear D h ad ae;go_enter func89,ntmps89;go_wp2_with fail;go_loopg [0,1,6] (val ys).toNat (λg s0 s1 s6 wr=>∃ (A B:Option AH) (n m c d:Nat) (x y:List Int) (bs b:List Nat),s0=QH A n c/\s1=QH B m d/\Hid (Sl wr A n c x bs)/\Hid (Sl wr B m d y b)/\Hid (XN.Can x)/\Hid (XN.Can y)/\n<=65536/\m<=65536/\Hid (BQ (val x) (val y)=BQ (val xs) (val ys))/\Hid (val y=g)/\Bw w wr);case atStart=>exact⟨A,B,n,m,c,d,xs,ys,bs,b,rfl,rfl,al,am,aj,aa,T,O,rfl,(IM (S_ aa.1)).symm,Below.refl _ _⟩
 case round =>
  obtain⟨A,B,n,m,c,d,x,y,bs,b,rfl,rfl,D,h,ab,G,T,O,af,ar,H⟩:=hrel;have X:=A_ (show y.length=m from h.1);by_cases au:0<m
  ·have E:=A_ (G.pos (by intro e;have:=X.o;rw[e]at this;simp at this;omega))
   go_wp2_with fail;refine(B5w A B n m c d x y bs b wr D h ab G T au).mono ?_;rintro _ Z ⟨aD,n1,aE,b1,ah,n2,ao,b2,rfl,ay,Y,aw,u⟩;have ak:=A_ Y;have an:=A_ (AQ h u);have W:Bw w Z:=AI H u;have rl:=A_ (show n2<=m by rw[<-Y.1];refine A4r ?_;have ap:=JY (val x) E;have aq:=LH (val x) (by have:=E.o;omega:val y≠0);have ac:=A4j G.1;rw[X.o]at ac;omega);have az:=A_ (show BQ (val y) (val (dig (val x % val y).toNat))=BQ (val xs) (val ys) by rw[A1j,IM (LH _ (by have:=E.o;omega)),B8y];exact af);have aA:=A_ (show val (dig (val x % val y).toNat)=((val x % val y).toNat:Int)from A1j _);have aB:=A_ (show(val x % val y).toNat<gk by have ap:=JY (val x) E;have aq:=ar.o;have ac:=E.o;omega);have aC:=A_ (show n2<=65536 from BM rl O);clear ay Y aw H u;have ai:=A_ (A0j (val x % val y).toNat);go_wp2_with fail;go_roundg (val x % val y).toNat;case measure=>exact aB
   case rel=>exact⟨B,ah,m,n2,d,ao,y,_,b,b2,rfl,rfl,an,ak,G,ai,O,aC,az,aA,W⟩
  obtain rfl:m=0:=oS;have e:=A_ (show x=dig (BQ (val xs) (val ys)) by rw[<-af.o,show val y=0 by rw[IF X.o];rfl,Int.gcd_zero_right];exact(ab.dig_natAbs).symm);go_wp2_with fail;refine(B6m A n c x bs wr D (BM T dE)).mono ?_;rintro _ Z ⟨v1,rfl,ax,u⟩;have W:Bw w Z:=AI H u;have ag:=A8u ax H.size;rw[e.o]at ag;go_wp2;go_ret;exact⟨_,rfl,ag,W⟩

theorem B2z (a b:Int) (w:J) (O:0<=a) (E:0<=b) (T:a<=9223372036854775807) (W:b<=9223372036854775807) :
  AR prog 87 #[QS K a,QS K b] w (A0b w (QS K (BQ a b))):=by
 go_enter func87,ntmps87;go_wp2_with fail;go_loopg [0,1] b.toNat (λg s0 s1 wr=>∃ x y:Int,s0=QS K x/\s1=QS K y/\0<=x/\x<=9223372036854775807/\0<=y/\y<=9223372036854775807/\Hid (BQ x y=BQ a b)/\Hid (y=g)/\Bw w wr);case atStart=>exact⟨a,b,rfl,rfl,O,T,E,W,rfl,(IM E).symm,Below.refl _ _⟩
 case round =>
  obtain⟨x,y,rfl,rfl,aa,aj,ac,ad,H,Z,G⟩:=hrel;by_cases ab:0<y
  ·have r0:=A_ (show 0<=x % y/\x % y<y from⟨LH _ oS,JY _ ab⟩)
   have ae:=A_ (by rw[B8y];exact H:BQ y (x % y)=BQ a b);have D:=A_ (by have:=r0.o;have:=Z.o;omega:(x % y).toNat<gk/\x % y<=9223372036854775807/\x % y=((x % y).toNat:Int));go_wp2_with fail;refine A0g ?_;iterate 3 refine C_ _ ?_
   refine A2b (QS K (x % y)) ?_ ?_;·intro af ag ak h u;obtain⟨ah,ai⟩:=F_ h;simp at u;refine⟨gD,?_⟩;go_simp;rw[if_neg oS,Int.tmod_eq_emod_of_nonneg aa]
   iterate 2 refine C_ _ ?_
   intro af ag wa h u Y;clear Y;simp at u;go_simp;clear u;have X:=AI G h;clear h;go_wp2_with fail;go_roundg (x % y).toNat;case measure=>exact D.1
   case rel=>exact⟨y,x % y,rfl,rfl,ac,ad,r0.1,D.2.1,ae,D.2.2,X⟩
  obtain rfl:y=0:=oS;have e:=A_ (by rw[<-H.o,Int.gcd_zero_right];omega:x=(BQ a b:Int));go_wp2;go_ret;exact⟨A1x e,G⟩

theorem B1f (A:Option AH) (n c:Nat) (xs:List Int) (bs:List Nat) (w:J) (b:Sl w A n c xs bs) :
  AR prog 88 #[QH A n c] w (A0b w (AC (AU (xs=[1])))):=by
 have E:=A_ b.1;by_cases u:n=1
 ·subst u
  obtain⟨H,X,x,rfl,T,D,O,G⟩:=DB b (k:=0) dE;simp only[Nat.add_zero]at G;have e:=A_ (show(x==1)=AU (xs=[1]) by
   have h:=E.o;match xs,h with
   | [y],_=>simp at D;subst D;simp;rfl)
  clear b D;go_enter func88,ntmps88;go_wp2;go_ret;exact⟨Q_ e,Below.go⟩
 have e:=A_ (show AU (xs=[1])=AF by simp;intro h;apply u;rw[<-E.o,h];rfl);have W:((n:Int)==1)=AF:=oR;clear b u;go_enter func88,ntmps88;go_wp2;go_ret;exact⟨Q_ e.symm,Below.go⟩

theorem A3s (neg:Bool) (A:Option AH) (n c:Nat) (w:J) :
  AR prog 53 #[AC neg,QH A n c] w (A0b w (AM #[AC (neg&&AU (0<n)),QH A n c])):=by
 cases neg;·go_enter func53,ntmps53;go_wp2;exact BI (v:=AM #[AC AF,QH A n c]) (by simp[BO,results53,go_sem]) rfl ⟨rfl,Below.go⟩
 by_cases b:0<n
 ·have e:AU (0<n)=AD:=by simpa using b
  rw[e];go_enter func53,ntmps53;go_wp2;exact BI (v:=AM #[AC AD,QH A n c]) (by simp[BO,results53,go_sem]) rfl ⟨rfl,Below.go⟩
 obtain rfl:n=0:=oS;go_enter func53,ntmps53;go_wp2;exact BI (v:=AM #[AC AF,QH A 0 c]) (by simp[BO,results53,go_sem]) rfl ⟨rfl,Below.go⟩

theorem E6t {n:Int} (b:n<0) (h:-9223372036854775808<=n):JR.wrap (-JR.wrap n) = -n:=by
 simp[IntKind.wrap,IntKind.signed,IntKind.bits];omega
theorem A7w {α:Type} [Dat α] {w w0 u W:J} {lo:Nat} {A:Option AH} {n c:Nat} {xs:List α} {bs:List Nat} (h:Sl u A n c xs bs) (ho:Own w0 u bs) (hs:w.1.size<=w0.1.size) (hl:lo<=w0.1.size) (ha:Above lo u W):Sl W A n c xs bs/\Own w W bs :=
 ⟨Sl.above h ho ha hl,(ho.above ha hl).older hs⟩

theorem A9i (N:Int) (w:J) (h:I64 N):AR prog 19 #[QS K N] w (A0c w (A0f N)):=by
 have ad:=h.1;have ak:=h.2;rcases EO N 0 with H|H
 ·have ab:=A_ (E6t H ad)
  have ac:=A_ (by rw[ab.o];omega:0<=JR.wrap (-JR.wrap N)/\JR.wrap (-JR.wrap N)<=18446744073709551615);have T:=A_ (by rw[ab.o,show(-N).toNat=N.natAbs by omega];rfl:dig (JR.wrap (-JR.wrap N)).toNat=(A0f N).mag);go_enter func19,ntmps19;go_wp2_with fail;refine(B3p (JR.wrap (-JR.wrap N)) _ ac.1 ac.2).mono ?_;rintro _ u ⟨A,n,c,Z,rfl,b,G,D⟩;rw[T.o]at b;have Y:=A_ b;have X:=A_ G;obtain⟨ae,ag⟩:=F_ D;have ai:w.1.size<u.1.size:=ltg D;have O:=A_ (show(AD&&AU (0<n))=(A0f N).neg by
   have:=b.1;unfold A0f at this ⊢;simp only[H,NN,decide_true,decide_eq_true_eq];rw[<-this];have:dig N.natAbs≠[]:=by rw[Ne,B1x];omega
   exact MF.2 this)
  clear b G;go_wp2_with fail;have C:=A3s AD A n c u;rw[O.o]at C;refine C.mono ?_;clear C;rintro _ aa ⟨rfl,E⟩;obtain⟨af,ah⟩:=F_ E;have aj:w.1.size<aa.1.size:=ltg E;go_wp2;refine BI (v:=AM #[AC (A0f N).neg,QH A n c]) (by simp[BO,results19,go_sem, *]) rfl ?_;have f:=fun(W:J) (ha:Above (w.1.size+1) u W)=>A7w (w:=w) Y.o X.o sI sI ha;exact⟨_,Z,rfl,FB (f _ Above.go).1,(f _ Above.go).2,Below.go⟩
 have T:=A_ (by rw[show N.toNat=N.natAbs by omega];rfl:dig N.toNat=(A0f N).mag);go_enter func19,ntmps19;go_wp2_with fail;refine(B3p N _ H oS).mono ?_;rintro _ u ⟨A,n,c,Z,rfl,b,G,D⟩;rw[T.o]at b;have Y:=A_ b;have X:=A_ G;obtain⟨ae,ag⟩:=F_ D;have ai:w.1.size<u.1.size:=ltg D;clear b G;go_wp2_with fail;have O:=A_ (by unfold A0f;simp;omega:(AF&&AU (0<n))=(A0f N).neg);have C:=A3s AF A n c u;rw[O.o]at C;refine C.mono ?_;clear C;rintro _ aa ⟨rfl,E⟩;obtain⟨af,ah⟩:=F_ E;have aj:w.1.size<aa.1.size:=ltg E;go_wp2;refine BI (v:=AM #[AC (A0f N).neg,QH A n c]) (by simp[BO,results19,go_sem, *]) rfl ?_;have f:=fun(W:J) (ha:Above (w.1.size+1) u W)=>A7w (w:=w) Y.o X.o sI sI ha;exact⟨_,Z,rfl,FB (f _ Above.go).1,(f _ Above.go).2,Below.go⟩
section
attribute [local simp] MP.agg MP.sl
theorem _root_.Go.XN.enc_of {neg:Bool} {N:Nat} {v:Int} (b:v=if neg then -(N:Int)else N):(A0f v).mag=dig N/\(A0f v).neg=(neg&&AU (0<(dig N).length)):=by
 have:=C5a (neg:=neg) (A0j N) (v:=v) (by rw[A1j];exact b);rw[<-this];refine⟨rfl,?_⟩;cases dig N<;>simp
theorem _root_.Go.XN.mul_val {x y:TBigInt} (h:Lims x.mag) (u:Lims y.mag):A0q x*A0q y=if x.neg != y.neg then -((val x.mag*val y.mag).toNat:Int)else(val x.mag*val y.mag).toNat:=by
 have b:=Int.mul_nonneg (S_ h) (S_ u);rw[IM b];unfold A0q;cases x.neg<;>cases y.neg<;>simp[Int.neg_mul,Int.mul_neg]
theorem C3w {w W:J} {t:Int} {A:Option AH} {n c:Nat} {bs:List Nat} (h:Sl W A n c (A0f t).mag bs/\Own w W bs) (hb:Bw w W):A0c w (A0f t) (.returned (AM #[AC (A0f t).neg,QH A n c])) W :=
 ⟨_,bs,rfl,FB h.1,h.2,hb⟩

theorem A7j {α:Type} [Dat α] {w u W:J} {lo:Nat} {A:Option AH} {n c:Nat} {xs:List α} {bs:List Nat} (h:Sl u A n c xs bs) (hf:Free u bs) (hr:∀ b∈bs,lo<=b) (hl:w.1.size<=lo) (ha:Above lo u W):Sl W A n c xs bs/\Own w W bs :=
 have hk:∀ g∈bs,W.1[g]?=u.1[g]?:=λg hg=>ha.block g (hr g hg) (h.lt g hg)
 ⟨h.keep hk,hf.1,λb hb=>⟨BM hl (hr b hb),by obtain⟨cs,t,e⟩:=hf.2 b hb;exact⟨cs,t,(hk b hb).trans e⟩⟩⟩

theorem A6e (v1 v2:AJ) (x y:TBigInt) (b1 b2:List Nat) (w:J) (ac:Agg w v1 x b1) (ad:Agg w v2 y b2) (E:Lims x.mag) (G:Lims y.mag) (lx:x.mag.length<=1048576) (ae:y.mag.length<=1048576) :
  AR prog 92 #[v1,v2] w (A0c w (A0f (A0q x*A0q y))):=by
 obtain⟨ai,n1,au,aJ,rfl,rfl,aa⟩:=FU ac;obtain⟨aj,n2,aw,aK,rfl,rfl,ab⟩:=FU ad;have O:=A_ aa;have T:=A_ ab;have D:=A_ (enc_of (mul_val E G));have ak:=A_ E;have al:=A_ G;have ap:=A_ lx;have aq:=A_ ae;clear aa ab ac ad E G lx ae;go_enter func92,ntmps92;go_wp2_with fail;refine X_ sI ?_;dsimp only[DJ,DK,DI];iterate 9 refine C_ _ ?_
 refine D_ (MP.sl (A0f (A0q x*A0q y)).mag) ?_ ?_;·intro ag ah H h b;obtain⟨ay,aA⟩:=F_ h;simp at b;refine G_ ?_;have:=B5n ai aj n1 n2 au aw x.mag y.mag _ _ H (AQ O.o Below.go) (AQ T.o Below.go) ak.o al.o (by rw[<-O.o.1];exact ap.o) (by rw[<-T.o.1];exact aq);rw[<-D.o.1]at this;exact A1c this
 refine A3q (λaf=>MP.eq (AM #[AC (A0f (A0q x*A0q y)).neg,af 9])) (by intro y af X;simp[N_,M_]at X;simp[X]) ?_ ?_;·intro ag ah H h b;obtain⟨ay,aA⟩:=F_ h;simp at b;refine G_ ?_;obtain⟨_,⟨A,n,c,e,u⟩,_⟩:=b;rw[e];have C:=A3s (!(x.neg==y.neg)) A n c H;rw[show((!(x.neg==y.neg))&&AU (0<n))=(A0f (A0q x*A0q y)).neg by rw[D.o.2,<-D.o.1,u.1];rfl]at C;exact A0i C
 intro ag ah wa h b az;clear az;simp at b;go_simp;have aC:=b.2.2.2.2.2.2.2.2.2.1;have aB:=b.2.2.2.2.2.2.2.2.2.2;obtain⟨⟨⟨A,n,c,aD,u⟩,Y⟩,Z⟩:=aC;have ao:=A_ u;have am:=A_ Y;have an:=A_ Z;clear b aB u Y Z;obtain⟨aE,aF⟩:=F_ h;have aG:w.1.size<wa.1.size:=ltg h;have aH:w.1.size+1<wa.1.size:=ltg h;have aI:w.1.size+1+1<wa.1.size:=ltg h;go_wp2;refine BI (v:=AM #[AC (A0f (A0q x*A0q y)).neg,QH A n c]) (by simp[BO,results92,go_sem, *]) rfl ?_;have f:=fun(W:J) (ha:Above (w.1.size+3) wa W)=>A7j (w:=w) ao.o am.o (λar ax=>(an.o ar ax).1) oS ha;exact C3w (f _ Above.go) Below.go

theorem _root_.Go.XN.add_same {x y:TBigInt} (b:Lims x.mag) (u:Lims y.mag) (h:x.neg=y.neg):A0q x+A0q y=if x.neg then -((val x.mag+val y.mag).toNat:Int)else(val x.mag+val y.mag).toNat:=by
 have D:=S_ b;have E:=S_ u;unfold A0q;rw[<-h];cases x.neg<;>simp<;>omega
theorem _root_.Go.XN.add_ge {x y:TBigInt} (h:¬ x.neg=y.neg) (b:val y.mag<=val x.mag):A0q x+A0q y=if x.neg then -((val x.mag - val y.mag).toNat:Int)else(val x.mag - val y.mag).toNat:=by
 unfold A0q;cases u:x.neg<;>cases D:y.neg<;>simp_all<;>omega
theorem _root_.Go.XN.add_lt {x y:TBigInt} (h:¬ x.neg=y.neg) (b:val x.mag<=val y.mag):A0q x+A0q y=if y.neg then -((val y.mag - val x.mag).toNat:Int)else(val y.mag - val x.mag).toNat:=by
 unfold A0q;cases u:x.neg<;>cases D:y.neg<;>simp_all<;>omega

theorem D6e (v1 v2:AJ) (x y:TBigInt) (b1 b2:List Nat) (w:J) (aI:Agg w v1 x b1) (aJ:Agg w v2 y b2) (aB:XN.Can x.mag) (aC:XN.Can y.mag) (lx:x.mag.length<=1048576) (aN:y.mag.length<=1048576) :
  AR prog 203 #[v1,v2] w (A0c w (A0f (A0q x+A0q y))):=by
 obtain⟨ai,n1,ao,aT,rfl,rfl,aG⟩:=FU aI;obtain⟨aj,n2,ap,aU,rfl,rfl,aH⟩:=FU aJ;have ac:=A_ aG;have ad:=A_ aH;have ag:=A_ aB;have ah:=A_ aC;have az:=A_ lx;have aA:=A_ aN;clear aG aH aI aJ aB aC lx aN;by_cases X:x.neg=y.neg
 ·have D:=A_ (enc_of (add_same ag.1 ah.1 X))
  have ae:(x.neg==y.neg)=AD:=by simp[X]
  clear X;go_enter func203,ntmps203;go_wp2_with fail;refine X_ sI ?_;dsimp only[DJ,DK,DI];iterate 6 refine C_ _ ?_
  refine D_ (MP.sl (A0f (A0q x+A0q y)).mag) ?_ ?_;·intro aa ab E h b;obtain⟨aq,au⟩:=F_ h;simp at b;refine G_ ?_;have:=D5r ai aj n1 n2 ao ap x.mag y.mag _ _ E (AQ ac.o Below.go) (AQ ad.o Below.go) ag.o ah.o (by rw[<-ac.o.1];exact az.o) (by rw[<-ad.o.1];exact aA);rw[<-D.o.1]at this;exact A1c this
  refine A3q (λZ=>MP.eq (AM #[AC (A0f (A0q x+A0q y)).neg,Z 6])) (by intro y Z O;simp[N_,M_]at O;simp[O]) ?_ ?_;·intro aa ab E h b;obtain⟨aq,au⟩:=F_ h;simp at b;refine G_ ?_;obtain⟨_,⟨A,n,c,e,u⟩,_⟩:=b;rw[e];have C:=A3s x.neg A n c E;rw[show(x.neg&&AU (0<n))=(A0f (A0q x+A0q y)).neg by rw[D.o.2,<-D.o.1,u.1]]at C;exact A0i C
  intro aa ab wa h b ar;clear ar;simp at b;go_simp;have aw:=b.2.2.2.2.2.2.1;have ax:=b.2.2.2.2.2.2.2;obtain⟨⟨⟨A,n,c,aD,u⟩,T⟩,Y⟩:=aw;have am:=A_ u;have ak:=A_ T;have al:=A_ Y;clear b ax u T Y;obtain⟨aE,aF⟩:=F_ h;have aK:w.1.size<wa.1.size:=ltg h;have aL:w.1.size+1<wa.1.size:=ltg h;have aM:w.1.size+1+1<wa.1.size:=ltg h;go_wp2;refine BI (v:=AM #[AC (A0f (A0q x+A0q y)).neg,QH A n c]) (by simp[BO,results203,go_sem, *]) rfl ?_;have f:=fun(W:J) (ha:Above (w.1.size+3) wa W)=>A7j (w:=w) am ak (λan ae=>by have:=(al an ae).1;omega) oS ha;exact C3w (f _ Above.go) Below.go
 have ae:(x.neg==y.neg)=AF:=by simp[X]
 rcases EO (val x.mag) (val y.mag)with H|H
 ·have D:=A_ (enc_of (add_lt X (JC H)))
  have S:=A_ (B2q H);have ay:=A_ H;clear X H;go_enter func203,ntmps203;go_wp2_with fail;refine(A9u ai aj n1 n2 ao ap x.mag y.mag _ _ _ (AQ ac Below.go) (AQ ad Below.go) ag ah).mono ?_;rintro _ af ⟨rfl,G⟩;rw[S.o];obtain⟨aO,aP⟩:=F_ G;have aQ:w.1.size<af.1.size:=ltg G;have aR:w.1.size+1<af.1.size:=ltg G;have aS:w.1.size+1+1<af.1.size:=ltg G;go_wp2_with fail;refine X_ sI ?_;dsimp only[DJ,DK,DI];iterate 6 refine C_ _ ?_
  refine D_ (MP.sl (A0f (A0q x+A0q y)).mag) ?_ ?_;·intro aa ab E h b;obtain⟨aq,au⟩:=F_ h;simp at b;refine G_ ?_;have:=C2l aj ai n2 n1 ap ao y.mag x.mag _ _ E (AQ ad.o Below.go) (AQ ac.o Below.go) ah.o ag.o (by rw[<-ad.o.1];exact aA) (JC ay);rw[<-D.o.1]at this;exact A1c this
  refine A3q (λZ=>MP.eq (AM #[AC (A0f (A0q x+A0q y)).neg,Z 6])) (by intro y Z O;simp[N_,M_]at O;simp[O]) ?_ ?_;·intro aa ab E h b;obtain⟨aq,au⟩:=F_ h;simp at b;refine G_ ?_;obtain⟨_,⟨A,n,c,e,u⟩,_⟩:=b;rw[e];have C:=A3s y.neg A n c E;rw[show(y.neg&&AU (0<n))=(A0f (A0q x+A0q y)).neg by rw[D.o.2,<-D.o.1,u.1]]at C;exact A0i C
  intro aa ab wa h b ar;clear ar;simp at b;go_simp;have aw:=b.2.2.2.2.2.2.1;have ax:=b.2.2.2.2.2.2.2;obtain⟨⟨⟨A,n,c,aD,u⟩,T⟩,Y⟩:=aw;have am:=A_ u;have ak:=A_ T;have al:=A_ Y;clear b ax u T Y;obtain⟨aE,aF⟩:=F_ h;have aK:w.1.size<wa.1.size:=ltg h;have aL:w.1.size+1<wa.1.size:=ltg h;have aM:w.1.size+1+1<wa.1.size:=ltg h;go_wp2;refine BI (v:=AM #[AC (A0f (A0q x+A0q y)).neg,QH A n c]) (by simp[BO,results203,go_sem, *]) rfl ?_;have f:=fun(W:J) (ha:Above (w.1.size+3) wa W)=>A7j (w:=w) am ak (λan ae=>by have:=(al an ae).1;omega) oS ha;exact C3w (f _ Above.go) Below.go
 have D:=A_ (enc_of (add_ge X H));have S:=B8n H;have ay:=A_ H;clear X H;go_enter func203,ntmps203;go_wp2_with fail;refine(A9u ai aj n1 n2 ao ap x.mag y.mag _ _ _ (AQ ac Below.go) (AQ ad Below.go) ag ah).mono ?_;rintro _ af ⟨rfl,G⟩;generalize sgn (val x.mag - val y.mag)=aV at *;obtain⟨aO,aP⟩:=F_ G;have aQ:w.1.size<af.1.size:=ltg G;have aR:w.1.size+1<af.1.size:=ltg G;have aS:w.1.size+1+1<af.1.size:=ltg G;go_wp2_with fail;refine X_ sI ?_;dsimp only[DJ,DK,DI];iterate 6 refine C_ _ ?_
 refine D_ (MP.sl (A0f (A0q x+A0q y)).mag) ?_ ?_;·intro aa ab E h b;obtain⟨aq,au⟩:=F_ h;simp at b;refine G_ ?_;have:=C2l ai aj n1 n2 ao ap x.mag y.mag _ _ E (AQ ac.o Below.go) (AQ ad.o Below.go) ag.o ah.o (by rw[<-ac.o.1];exact az) ay;rw[<-D.o.1]at this;exact A1c this
 refine A3q (λZ=>MP.eq (AM #[AC (A0f (A0q x+A0q y)).neg,Z 6])) (by intro y Z O;simp[N_,M_]at O;simp[O]) ?_ ?_;·intro aa ab E h b;obtain⟨aq,au⟩:=F_ h;simp at b;refine G_ ?_;obtain⟨_,⟨A,n,c,e,u⟩,_⟩:=b;rw[e];have C:=A3s x.neg A n c E;rw[show(x.neg&&AU (0<n))=(A0f (A0q x+A0q y)).neg by rw[D.o.2,<-D.o.1,u.1]]at C;exact A0i C
 intro aa ab wa h b ar;clear ar;simp at b;go_simp;have aw:=b.2.2.2.2.2.2.1;have ax:=b.2.2.2.2.2.2.2;obtain⟨⟨⟨A,n,c,aD,u⟩,T⟩,Y⟩:=aw;have am:=A_ u;have ak:=A_ T;have al:=A_ Y;clear b ax u T Y;obtain⟨aE,aF⟩:=F_ h;have aK:w.1.size<wa.1.size:=ltg h;have aL:w.1.size+1<wa.1.size:=ltg h;have aM:w.1.size+1+1<wa.1.size:=ltg h;go_wp2;refine BI (v:=AM #[AC (A0f (A0q x+A0q y)).neg,QH A n c]) (by simp[BO,results203,go_sem, *]) rfl ?_;have f:=fun(W:J) (ha:Above (w.1.size+3) wa W)=>A7j (w:=w) am ak (λan ae=>by have:=(al an ae).1;omega) oS ha;exact C3w (f _ Above.go) Below.go

def NegOk (x:TBigInt):Prop:=x.neg=AD->x.mag≠[]
theorem NegOk.lt {x:TBigInt} (h:NegOk x) (u:XN.Can x.mag) (b:x.neg=AD):A0q x<0:=by
 have:=u.pos (h b);unfold A0q;rw[if_pos b];omega
theorem NegOk.ge {x:TBigInt} (b:XN.Can x.mag) (h:x.neg=AF):0<=A0q x:=by
 have:=S_ b.1;unfold A0q;rw[if_neg (by simp[h])];omega
theorem C7z {a:Int} (h:a<0):sgn a = -1:=by unfold sgn;rw[if_pos h]
theorem B5h {a:Int} (h:0<a):sgn a=1:=by unfold sgn;rw[if_neg oS,if_pos h]
theorem E3f {a:Int} (h:a=0):sgn a=0:=by subst h;rfl

theorem C2v (v1 v2:AJ) (x y:TBigInt) (b1 b2:List Nat) (w:J) (ae:Agg w v1 x b1) (af:Agg w v2 y b2) (aa:XN.Can x.mag) (ab:XN.Can y.mag) (D:NegOk x) (E:NegOk y) :
  AR prog 91 #[v1,v2] w (A0b w (QS K (sgn (A0q x - A0q y)))):=by
 obtain⟨O,n1,Y,ai,rfl,rfl,ac⟩:=FU ae;obtain⟨T,n2,Z,aj,rfl,rfl,ad⟩:=FU af;have W:=A_ ac;have X:=A_ ad;have G:=A_ aa;have H:=A_ ab;clear ac ad ae af aa ab;cases h:x.neg
 ·cases b:y.neg
  ·have u:=A_ (by unfold A0q;rw[if_neg (by simp[h]),if_neg (by simp[b])]:sgn (val x.mag - val y.mag)=sgn (A0q x - A0q y));clear h b D E;go_enter func91,ntmps91;go_wp2_with fail;refine(A9u O T n1 n2 Y Z x.mag y.mag _ _ _ (AQ W Below.go) (AQ X Below.go) G H).mono ?_;rintro _ ah ⟨rfl,ag⟩;go_wp2;go_ret;exact⟨A1x u,Below.go⟩
  have u:=A_ (B5h (a:=A0q x - A0q y) (by have:=NegOk.ge G h;have:=E.lt H b;omega));clear h b D E;go_enter func91,ntmps91;go_wp2;go_ret;exact⟨A1x u.symm,Below.go⟩
 cases b:y.neg;·have u:=A_ (C7z (a:=A0q x - A0q y) (by have:=NegOk.ge H b;have:=D.lt G h;omega));clear h b D E;go_enter func91,ntmps91;go_wp2;go_ret;exact⟨A1x u.symm,Below.go⟩
 have u:=A_ (by unfold A0q;rw[if_pos h,if_pos b];congr 1;omega:sgn (val y.mag - val x.mag)=sgn (A0q x - A0q y));clear h b D E;go_enter func91,ntmps91;go_wp2_with fail;refine(A9u T O n2 n1 Z Y y.mag x.mag _ _ _ (AQ X Below.go) (AQ W Below.go) H G).mono ?_;rintro _ ah ⟨rfl,ag⟩;go_wp2;go_ret;exact⟨A1x u,Below.go⟩

theorem C2j (n:Int) (w:J):AR prog 90 #[QS K n] w (A0b w (QS K (sgn n))):=by
 rcases Int.lt_trichotomy n 0 with b|b|b;·have h:=A_ (C7z b);go_enter func90,ntmps90;go_wp2;go_ret;exact⟨A1x h.symm,Below.go⟩
 ·subst b;go_enter func90,ntmps90;go_wp2;go_ret;exact⟨rfl,Below.go⟩
 have h:=A_ (B5h b);have u:¬ n<0:=oS;go_enter func90,ntmps90;go_wp2;go_ret;exact⟨A1x h.symm,Below.go⟩

def inB (lo n hi:Int):Bool:=AU (lo<=n)&&AU (n<=hi)

theorem A0s (n lo hi:Int) (w:J):AR prog 32 #[QS K n,QS K lo,QS K hi] w (A0b w (AC (inB lo n hi))):=by
 rcases EO n lo with h|h;·have b:=A_ (by unfold inB;simp;omega:AF=inB lo n hi);have u:¬ (lo<=n):=oS;go_enter func32,ntmps32;go_wp2;go_ret;exact⟨Q_ b,Below.go⟩
 have b:=A_ (by unfold inB;simp[h]:AU (n<=hi)=inB lo n hi);go_enter func32,ntmps32;go_wp2;go_ret;exact⟨Q_ b,Below.go⟩

theorem A7y (v:AJ) (x:TRat) (b:List Nat) (w:J) (T:Agg w v x b) (u:XN.Can x.1.2) (E:NegOk x.1) :
  AR prog 45 #[v] w (A0b w (QS K (A2v x))):=by
 obtain⟨X,n1,Z,ac,Y,n2,aa,ad,rfl,rfl,O,W⟩:=BK T;have G:=A_ O.1;clear O W T;rcases FV n1 with H|H;·subst H;have h:=A_ (E3f (a:=A0q x.1) (by have:=IF G;unfold A0q;rw[this];simp[val]));clear u E;go_enter func45,ntmps45;go_wp2;go_ret;exact⟨A1x h.symm,Below.go⟩
 have ab:((n1:Int)==0)=AF:=oR;cases D:x.1.1
 ·have h:=A_ (B5h (a:=A0q x.1) (by
   have:=u.pos (by intro e;have:=G.o;rw[e]at this;simp at this;omega)
   unfold A0q;rw[if_neg (by simp[D])];exact this))
  clear u E D
  go_enter func45,ntmps45
  go_wp2
  go_ret
  exact⟨A1x h.symm,Below.go⟩
 ·have h:=A_ (C7z (E.lt u D));clear u E D;go_enter func45,ntmps45;go_wp2;go_ret;exact⟨A1x h.symm,Below.go⟩

def A2a (x:TRat):Bool:=AU (x.1.2.length<=1)&&AU (x.2.length=1)

theorem A1g (v:AJ) (x:TRat) (b:List Nat) (w:J) (H:Agg w v x b) :
  AR prog 85 #[v] w (A0b w (AC (A2a x))):=by
 obtain⟨W,n1,Y,aa,X,n2,Z,ab,rfl,rfl,E,G⟩:=BK H;have u:=A_ E.1;have O:=A_ G.1;clear E G H;rcases BN 1 n1 with D|D;·have h:=A_ (by unfold A2a;rw[u.o];simp;omega:AF=A2a x);have T:¬ ((n1:Int)<=1):=oS;go_enter func85,ntmps85;go_wp2;go_ret;exact⟨Q_ h,Below.go⟩
 have h:=A_ (show((n2:Int)==1)=A2a x by unfold A2a;rw[u.o,O.o,decide_eq_true D,NN,Bool.eq_iff_iff];simp;omega);have T:(n1:Int)<=1:=oS;go_enter func85,ntmps85;go_wp2;go_ret;exact⟨Q_ h,Below.go⟩

def E0u (w:J) (a b:Int) (e:Ending) (w':J):Prop:=e=.returned (.tuple #[QS K a,QS K b])/\Bw w w'

theorem E2j {x:TRat} {d:Int} (h:x.2=[d]):T_ x=d:=by unfold T_;rw[h];simp[val]
theorem D7l {x:TRat} (h:x.1.2=[]):R_ x=0:=by unfold R_ A0q;rw[h];simp[val]
theorem D7g {x:TRat} {a:Int} (h:x.1.2=[a]):R_ x=if x.1.1 then -a else a:=by unfold R_ A0q;rw[h];simp[val]

theorem A3c (v:AJ) (x:TRat) (b:List Nat) (w:J) (Z:Agg w v x b) (O:A2a x=AD) (X:Lims x.1.2) (Y:NegOk x.1) :
  AR prog 86 #[v] w (E0u w (R_ x) (T_ x)):=by
 obtain⟨am,n1,ar,aE,an,n2,au,aF,rfl,rfl,D,E⟩:=BK Z;have af:=A_ D.1;have ao:=A_ E.1;unfold A2a at O;rw[D.1,E.1]at O;simp only[CK,decide_eq_true_eq]at O;obtain⟨ac,rfl⟩:=O;obtain⟨ap,aC,d,rfl,ay,T,aA,ai⟩:=DB E (by decide:0<1);have aa:=A_ (E2j (x:=x) (d:=d) (by
  match x.2,E.1,T with
  | [y],_,h=>simp at h;rw[h]))
 simp only[Nat.add_zero]at ai;rcases FV n1 with ab|ab
 ·subst ab
  have u:x.1.2=[]:=IF af;have H:=A_ (D7l (x:=x) u);have ae:x.1.1=AF:=by
   cases h:x.1.1;·rfl
   exact absurd u (Y h)
  clear D E Z T X Y u ac;go_enter func86,ntmps86;go_wp2_with fail;refine A0g ?_;iterate 7 refine C_ _ ?_
  intro ak al wa ag G W;clear W;simp at G;go_simp;clear G;go_wp2;go_ret2;refine⟨?_,Below.go⟩;rw[H.o,aa.o];rfl
 obtain rfl:n1=1:=oS;obtain⟨aq,aD,a,rfl,az,ad,aB,aj⟩:=DB D (by decide:0<1);have u:x.1.2=[a]:=by
  match x.1.2,D.1,ad with
  | [y],_,h=>simp at h;rw[h]
 have H:=A_ (D7g (x:=x) (a:=a) u);have ah:=X a (by rw[u];simp);obtain⟨aw,ax⟩:=ah;simp only[Nat.add_zero]at aj;cases ae:x.1.1
 all_goals
  rw[ae]at H;clear D E Z T X Y u ac ad;go_enter func86,ntmps86;go_wp2_with fail;refine A0g ?_;iterate 7 refine C_ _ ?_
  intro ak al wa ag G W;clear W;simp at G;go_simp;clear G;go_wp2;go_ret2;refine⟨?_,Below.go⟩;rw[H.o,aa.o];rfl

def B9x (w:J) (b:Bool) (e:Ending) (w':J):Prop:=∃ r:Int,e=.returned (QS K r)/\AU (0<=r)=b/\Bw w w'

def A9a (x:Int):Bool:=!inB 0 x 999999999

theorem B9d (x:Int) (w:J):AR prog 146 #[QS K x] w (A0b w (AC (A9a x))):=by
 go_enter func146,ntmps146;go_wp2_with fail;refine(A0s x 0 999999999 w).mono ?_;rintro _ h ⟨rfl,b⟩;go_wp2;go_ret;exact⟨rfl,b⟩

theorem D1e {α:Type} {xs:List α} {p:α->Bool} {k:Nat} {x:α} (h:xs[k]?=QL x) (hp:p x=AD):xs.any p=AD :=
 List.any_eq_true.2 ⟨x,CH h,hp⟩
theorem B6c {α:Type} {xs:List α} {p:α->Bool} {k:Nat} {x:α} (h:xs[k]?=QL x) (b:(xs.take k).any p=AF) (u:p x=AF):(xs.take (k+1)).any p=AF:=by
 rw[take_step h,List.any_append,b];simp[u]

def A4f (f:Nat):Prop:=∀ (a:Array AJ) (w:J),Sem.run prog (callFunc f a) w=.ok (.enter f a) w
theorem B7l:A4f 146:=λa w=>kR

theorem _root_.gN {p:Prop} (h:p:=by go_num):p:=h
theorem D6s (f:Nat) (ad:A4f f) (A:Option AH) (n c:Nat) (xs:List Int) (bs:List Nat) (w:J) (p:Int->Bool) (b:Sl w A n c xs bs)
  (X:∀ (x:Int) (w:J),AR prog f #[QS K x] w (A0b w (AC (p x)))) :
  AR prog 204 #[QH A n c,.func (.func f) #[] #[]] w (B9x w (xs.any p)):=by
 have Z:=A_ b.1;have ab:=A_ b;have aa:=A_ X;unfold A4f at ad;have af:n<=BG:=BM b.2.1 b.2.2.1;unfold BG at af;clear b X;go_enter func204,ntmps204;go_wp2_with fail;go_loopg [8] n (λg s8 wr=>∃ k:Nat,k+g=n/\s8=QS K k/\Hid ((xs.take k).any p=AF)/\Bw w wr);case atStart=>exact⟨0,oS,rfl,by show(xs.take 0).any p=AF;simp,Below.refl _ _⟩
 case round =>
  obtain⟨k,T,rfl,H,D⟩:=hrel;rcases BN k n with h|h
  ·obtain⟨ag,al,x,rfl,ai,Y,ah,aj⟩:=DB (AQ ab D) h
   have G:=A_ Y;have ae:(k:Int)<n:=oS;obtain⟨g,rfl⟩:∃ g,gk=g+1:=⟨gk - 1,oS⟩
   have W:=A_ (by omega:k+1+g=n);clear Y T h;have ak:k+1<=n:=by have:=W.o;omega
   go_wp2_with fail;refine(aa x wr).mono ?_;rintro _ am ⟨rfl,ac⟩;have O:=AI D ac;cases u:p x
   ·have E:=A_ (B6c G H u)
    clear u;go_wp2_with fail;go_roundg g;case measure=>omega
    case rel=>exact⟨k+1,W,gN,E,O⟩
   have E:=A_ (D1e G u);clear u;go_wp2;go_ret;exact⟨k,rfl,by rw[E.o];simp,O⟩
  have e:=A_ (show xs.any p=AF by have:=H.o;rwa [CZ (by rw[Z.o];omega)]at this);have ae:¬ ((k:Int)<n):=oS;clear T h;go_wp2;go_ret;exact⟨-1,rfl,by rw[e.o];rfl,D⟩

theorem B7a (f:Nat) (b:A4f f) (A:Option AH) (n c:Nat) (xs:List Int) (bs:List Nat) (w:J) (p:Int->Bool) (u:Sl w A n c xs bs)
  (h:∀ (x:Int) (w:J),AR prog f #[QS K x] w (A0b w (AC (p x)))) :
  AR prog 145 #[QH A n c,.func (.func f) #[] #[]] w (A0b w (AC (xs.any p))):=by
 have H:=A_ u;have G:=A_ h;have E:=A_ b;clear u h b;go_enter func145,ntmps145;go_wp2_with fail;refine(D6s f E A n c xs bs _ p (AQ H Below.go) G).mono ?_;rintro _ T ⟨r,rfl,e,O⟩;have D:=A_ e;clear e;go_wp2;go_ret;exact⟨Q_ D,O⟩

theorem A5a (xs:List Int):A3m xs=(AU (xs.length<=60)&&(AU (xs.getLast?≠QL 0)&&!xs.any A9a)):=by
 unfold A3m;rw[Bool.and_comm (xs.all _)];congr 1;congr 1;rw[List.not_any_eq_all_not];congr 1;funext x;unfold A9a inB;rw[Bool.not_not,Bool.eq_iff_iff];simp;omega

theorem A4l (A:Option AH) (n c:Nat) (xs:List Int) (bs:List Nat) (w:J) (b:Sl w A n c xs bs) :
  AR prog 84 #[QH A n c] w (A0b w (AC (A3m xs))):=by
 have u:=A_ b.1;have G:=A_ b;have Y:n<=BG:=BM b.2.1 b.2.2.1;unfold BG at Y;rcases BN 60 n with O|O
 ·have e:=A_ (by rw[A5a,u.o];simp;omega:AF=A3m xs);have W:¬ ((n:Int)<=60):=oS;clear b;go_enter func84,ntmps84;go_wp2;go_ret;exact⟨Q_ e,Below.go⟩
 have W:(n:Int)<=60:=oS;rcases FV n with H|H
 ·subst H;have e:=A_ (by rw[A5a,IF u.o];rfl:(!xs.any A9a)=A3m xs);clear b;go_enter func84,ntmps84;go_wp2_with fail;refine(B7a 146 B7l A 0 c xs bs _ A9a (AQ G Below.go) B9d).mono ?_;rintro _ Z ⟨rfl,D⟩;go_wp2;go_ret;exact⟨Q_ e,D⟩
 obtain⟨k,rfl⟩:∃ k,n=k+1:=⟨n - 1,oS⟩
 obtain⟨aa,af,x,rfl,ac,E,ab,ad⟩:=DB b (by omega:k<k+1);have T:=A_ (by rw[List.getLast?_eq_getElem?,u.o];exact E:xs.getLast?=QL x);have ae:((k:Int)+1==0)=AF:=oR;by_cases h:x=0
 ·have e:=A_ (by rw[A5a,T.o,h];simp:AF=A3m xs)
  have X:(x != 0)=AF:=by simp[h]
  clear b E h;go_enter func84,ntmps84;go_wp2;go_ret;exact⟨Q_ e,Below.go⟩
 have e:=A_ (by rw[A5a,T.o,u.o,decide_eq_true O];simp[h]:(!xs.any A9a)=A3m xs);have X:(x != 0)=AD:=by simp[h]
 clear b E h;go_enter func84,ntmps84;go_wp2_with fail;refine(B7a 146 B7l _ (k+1) c xs bs _ A9a (AQ G Below.go) B9d).mono ?_;rintro _ Z ⟨rfl,D⟩;go_wp2;go_ret;exact⟨Q_ e,D⟩

theorem A1o (v:AJ) (x:TBigInt) (bs:List Nat) (w:J) (aa:Agg w v x bs) :
  AR prog 51 #[v] w (A0b w (AC (A2j x))):=by
 obtain⟨h,n1,D,ac,rfl,rfl,Z⟩:=FU aa;have G:=A_ Z;clear Z aa;have u:=A_ (show A2j x=(A3m x.mag&&(!x.neg || AU (0<n1))) by unfold A2j;congr 1;congr 1;rw[<-G.o.1];cases x.mag<;>simp);cases H:A3m x.mag;·go_enter func51,ntmps51;go_wp2_with fail;have C:=A4l h n1 D x.mag bs (w.alloc (AK #[AC x.neg,QH h n1 D] 33)) (AQ G Below.go);rw[H]at C;refine C.mono ?_;clear C;rintro _ E ⟨rfl,b⟩;obtain⟨W,X⟩:=F_ b;have ab:w.1.size<E.1.size:=ltg b;go_wp2;go_ret;exact⟨Q_ (by rw[u.o,H];rfl),Below.go⟩
 have T:=A_ H;clear H;rw[T.o,NN]at u;cases Y:x.neg;·have O:=A_ (by rw[u.o,Y];rfl:AD=A2j x);clear u;go_enter func51,ntmps51;go_wp2_with fail;have C:=A4l h n1 D x.mag bs (w.alloc (AK #[AC AF,QH h n1 D] 33)) (AQ G Below.go);rw[T.o]at C;refine C.mono ?_;clear C;rintro _ E ⟨rfl,b⟩;obtain⟨W,X⟩:=F_ b;have ab:w.1.size<E.1.size:=ltg b;go_wp2;go_ret;exact⟨Q_ O,Below.go⟩
 have O:=A_ (by rw[u.o,Y];rfl:AU (0<n1)=A2j x);clear u;go_enter func51,ntmps51;go_wp2_with fail;have C:=A4l h n1 D x.mag bs (w.alloc (AK #[AC AD,QH h n1 D] 33)) (AQ G Below.go);rw[T.o]at C;refine C.mono ?_;clear C;rintro _ E ⟨rfl,b⟩;obtain⟨W,X⟩:=F_ b;have ab:w.1.size<E.1.size:=ltg b;go_wp2;go_ret;exact⟨Q_ O,Below.go⟩

theorem D9s {N:Nat}:(dig N=[1])↔N=1:=by
 constructor;·intro h;have:=A1j N;rw[h]at this;simp[val]at this;omega
 rintro rfl;rfl
theorem B5k {x:TRat} {b1 b2:Bool} {n1 n2:Nat} (b:A2j x.1=b1) (h:A3m x.2=b2) (l1:x.1.2.length=n1) (l2:x.2.length=n2) :
  J_ x=(b1&&(b2&&(AU (0<n2)&&(AU (n1<=24)&&(AU (n2<=24)&&AU (BQ (val x.1.2) (val x.2)=1)))))):=by
 unfold J_;rw[b,h,l1,l2];congr 2;congr 1;rw[<-l2];cases x.2<;>simp
theorem E6w (x:TRat):BQ (R_ x) (T_ x)=BQ (val x.1.2) (val x.2):=by
 unfold R_ T_ A0q;split<;>simp
theorem C5o {x:TRat} (h:XN.Can x.2) (b:x.2.length=1):0<=T_ x/\T_ x<1000000000:=by
 unfold T_;have:=A4j h.1;have:=S_ h.1;rw[b,pw_vals.1]at *;omega
theorem C5m {x:TRat} (h:Lims x.1.2) (u:x.1.2.length<=1):-1000000000<R_ x/\R_ x<1000000000:=by
 have D:=A4j h;have E:=S_ h;have b:=A6t u;rw[pw_vals.1]at b;unfold R_ A0q;split<;>omega
theorem A4h {x:TBigInt} (h:A2j x=AD):NegOk x:=(bigOkB_iff.1 h).2

theorem A7s (v:AJ) (x:TRat) (b:List Nat) (w:J) (aA:Agg w v x b) :
  AR prog 44 #[v] w (A0b w (AC (J_ x))):=by
 have ap:=A_ aA;obtain⟨Y,n1,aa,ad,E,n2,H,ai,rfl,rfl,aM,aN⟩:=BK aA;have W:=A_ aM;have X:=A_ aN;clear aM aN aA;cases h:A2j x.1;·have G:=A_ (by rw[B5k h rfl rfl rfl];rfl:AF=J_ x);have T:=A_ h;clear h;go_enter func44,ntmps44;go_wp2_with fail;have C:=A1o _ x.1 ad (w.alloc (AK #[AC x.1.1,QH Y n1 aa,QH E n2 H] 35)) (FB (AQ W Below.go));rw[T.o]at C;refine C.mono ?_;clear C;rintro _ D ⟨rfl,h⟩;obtain⟨ae,af⟩:=F_ h;have ag:w.1.size<D.1.size:=ltg h;go_wp2;go_ret;exact⟨Q_ (G),Below.go⟩
 have T:=A_ h;cases u:A3m x.2;·have G:=A_ (by rw[B5k h u rfl rfl];rfl:AF=J_ x);have Z:=A_ u;clear h u;go_enter func44,ntmps44;go_wp2_with fail;have C:=A1o _ x.1 ad (w.alloc (AK #[AC x.1.1,QH Y n1 aa,QH E n2 H] 35)) (FB (AQ W Below.go));rw[T.o]at C;refine C.mono ?_;clear C;rintro _ D ⟨rfl,h⟩;obtain⟨ae,af⟩:=F_ h;have ag:w.1.size<D.1.size:=ltg h;go_wp2_with fail;have C:=A4l E n2 H x.2 ai D (AQ X Below.go);rw[Z.o]at C;refine C.mono ?_;clear C;rintro _ O ⟨rfl,u⟩;obtain⟨am,an⟩:=F_ u;have ao:w.1.size<O.1.size:=ltg u;go_wp2;go_ret;exact⟨Q_ (G),Below.go⟩
 have Z:=A_ u;have S:=A_ (B5k h u W.1 X.1);rw[NN,NN]at S;clear h u;rcases FV n2 with ab|ab
 ·have G:=A_ (by rw[S.o,ab];rfl:AF=J_ x)
  have a3:((n2:Int)==0)=AD:=by simp[ab]
  clear ab;go_enter func44,ntmps44;go_wp2_with fail;have C:=A1o _ x.1 ad (w.alloc (AK #[AC x.1.1,QH Y n1 aa,QH E n2 H] 35)) (FB (AQ W Below.go));rw[T.o]at C;refine C.mono ?_;clear C;rintro _ D ⟨rfl,h⟩;obtain⟨ae,af⟩:=F_ h;have ag:w.1.size<D.1.size:=ltg h;go_wp2_with fail;have C:=A4l E n2 H x.2 ai D (AQ X Below.go);rw[Z.o]at C;refine C.mono ?_;clear C;rintro _ O ⟨rfl,u⟩;obtain⟨am,an⟩:=F_ u;have ao:w.1.size<O.1.size:=ltg u;go_wp2;go_ret;exact⟨Q_ (G),Below.go⟩
 have a3:((n2:Int)==0)=AF:=oR;rcases BN 24 n1 with aq|aq
 ·have G:=A_ (by rw[S.o];simp;omega:AF=J_ x);have a4:(24:Int)<n1:=oS;clear ab aq;go_enter func44,ntmps44;go_wp2_with fail;have C:=A1o _ x.1 ad (w.alloc (AK #[AC x.1.1,QH Y n1 aa,QH E n2 H] 35)) (FB (AQ W Below.go));rw[T.o]at C;refine C.mono ?_;clear C;rintro _ D ⟨rfl,h⟩;obtain⟨ae,af⟩:=F_ h;have ag:w.1.size<D.1.size:=ltg h;go_wp2_with fail;have C:=A4l E n2 H x.2 ai D (AQ X Below.go);rw[Z.o]at C;refine C.mono ?_;clear C;rintro _ O ⟨rfl,u⟩;obtain⟨am,an⟩:=F_ u;have ao:w.1.size<O.1.size:=ltg u;go_wp2;go_ret;exact⟨Q_ (G),Below.go⟩
 have a4:¬ ((24:Int)<n1):=oS;rcases BN 24 n2 with ax|ax
 ·have G:=A_ (by rw[S.o];simp;omega:AF=J_ x);have a5:(24:Int)<n2:=oS;clear ab aq ax;go_enter func44,ntmps44;go_wp2_with fail;have C:=A1o _ x.1 ad (w.alloc (AK #[AC x.1.1,QH Y n1 aa,QH E n2 H] 35)) (FB (AQ W Below.go));rw[T.o]at C;refine C.mono ?_;clear C;rintro _ D ⟨rfl,h⟩;obtain⟨ae,af⟩:=F_ h;have ag:w.1.size<D.1.size:=ltg h;go_wp2_with fail;have C:=A4l E n2 H x.2 ai D (AQ X Below.go);rw[Z.o]at C;refine C.mono ?_;clear C;rintro _ O ⟨rfl,u⟩;obtain⟨am,an⟩:=F_ u;have ao:w.1.size<O.1.size:=ltg u;go_wp2;go_ret;exact⟨Q_ (G),Below.go⟩
 have a5:¬ ((24:Int)<n2):=oS;have aE:=A_ (by rw[S.o,decide_eq_true ab,decide_eq_true aq,decide_eq_true ax];rfl:J_ x=AU (BQ (val x.1.2) (val x.2)=1));have aw:=A_ (bigOkB_iff.1 T).1.2;have ay:=A_ (natOkB_iff.1 Z).2;have aD:=A_ (A4h T);have aX:n1<=65536:=oS;have aY:n2<=65536:=oS;clear S aq ax;cases ar:A2a x;·have ak:=A_ ar;clear ar ab;have G:=A_ (by rw[aE.o];simp only[D9s]:AU (dig (BQ (val x.1.2) (val x.2))=[1])=J_ x);go_enter func44,ntmps44;go_wp2_with fail;have C:=A1o _ x.1 ad (w.alloc (AK #[AC x.1.1,QH Y n1 aa,QH E n2 H] 35)) (FB (AQ W Below.go));rw[T.o]at C;refine C.mono ?_;clear C;rintro _ D ⟨rfl,h⟩;obtain⟨ae,af⟩:=F_ h;have ag:w.1.size<D.1.size:=ltg h;go_wp2_with fail;have C:=A4l E n2 H x.2 ai D (AQ X Below.go);rw[Z.o]at C;refine C.mono ?_;clear C;rintro _ O ⟨rfl,u⟩;obtain⟨am,an⟩:=F_ u;have ao:w.1.size<O.1.size:=ltg u;go_wp2_with fail;have C:=A1g _ x _ O (DT ap Below.go);rw[ak.o]at C;refine C.mono ?_;clear C;rintro _ w3 ⟨rfl,ac⟩;obtain⟨aH,aJ⟩:=F_ ac;have aP:w.1.size<w3.1.size:=ltg ac;go_wp2_with fail;refine(C1y Y E n1 n2 aa H x.1.2 x.2 _ _ _ (AQ W Below.go) (AQ X Below.go) aw ay aX aY).mono ?_;rintro _ aj ⟨a8,rfl,aL,al⟩;obtain⟨aR,aT,a2,rfl,aO,_⟩:=D2g aL (A0j _).1.i64;have aS:=A_ aO;clear aL aO;go_wp2_with fail;refine(B1f aR _ aT _ a2 aj aS).mono ?_;rintro _ aQ ⟨rfl,aG⟩;go_wp2;go_ret;exact⟨Q_ (G),Below.go⟩
 have ak:=A_ ar;have au:=ar;unfold A2a at au;simp only[CK,decide_eq_true_eq]at au;have a7:=C5o ay au.2;have m1:=C5m aw.1 au.1;have a6:0<T_ x:=ay.pos (by intro e;have:=X.1;rw[e]at this;simp at this;omega);have G:=A_ (by rw[aE.o,E6w];rw[Bool.eq_iff_iff];simp;omega:((BQ (R_ x) (T_ x):Int)==1)=J_ x);clear ar ab au;generalize aK:R_ x=ah at *;generalize aI:T_ x=aF at *;have aC:=A_ aK;have aB:=A_ aI;clear aK aI;rcases EO ah 0 with aZ|aZ
 ·have aW:ah<=-ah:=oS;have az:=G;clear G;go_enter func44,ntmps44;go_wp2_with fail;have C:=A1o _ x.1 ad (w.alloc (AK #[AC x.1.1,QH Y n1 aa,QH E n2 H] 35)) (FB (AQ W Below.go));rw[T.o]at C;refine C.mono ?_;clear C;rintro _ D ⟨rfl,h⟩;obtain⟨ae,af⟩:=F_ h;have ag:w.1.size<D.1.size:=ltg h;go_wp2_with fail;have C:=A4l E n2 H x.2 ai D (AQ X Below.go);rw[Z.o]at C;refine C.mono ?_;clear C;rintro _ O ⟨rfl,u⟩;obtain⟨am,an⟩:=F_ u;have ao:w.1.size<O.1.size:=ltg u;go_wp2_with fail;have C:=A1g _ x _ O (DT ap Below.go);rw[ak.o]at C;refine C.mono ?_;clear C;rintro _ w3 ⟨rfl,ac⟩;obtain⟨aH,aJ⟩:=F_ ac;have aP:w.1.size<w3.1.size:=ltg ac;go_wp2_with fail;have C:=A3c _ x _ w3 (DT ap Below.go) ak aw.1 aD;rw[aC.o,aB.o]at C;refine C.mono ?_;clear C;rintro _ aj ⟨rfl,al⟩;obtain⟨aU,aV⟩:=F_ al;have a1:w.1.size<aj.1.size:=ltg al;go_wp2_with fail;refine(B2z (-ah) aF aj oS oS oS oS).mono ?_;rintro _ aQ ⟨rfl,aG⟩;go_wp2;go_ret;exact⟨Q_ (az),Below.go⟩
 have aW:-ah<=ah:=oS;have az:=G;clear G;go_enter func44,ntmps44;go_wp2_with fail;have C:=A1o _ x.1 ad (w.alloc (AK #[AC x.1.1,QH Y n1 aa,QH E n2 H] 35)) (FB (AQ W Below.go));rw[T.o]at C;refine C.mono ?_;clear C;rintro _ D ⟨rfl,h⟩;obtain⟨ae,af⟩:=F_ h;have ag:w.1.size<D.1.size:=ltg h;go_wp2_with fail;have C:=A4l E n2 H x.2 ai D (AQ X Below.go);rw[Z.o]at C;refine C.mono ?_;clear C;rintro _ O ⟨rfl,u⟩;obtain⟨am,an⟩:=F_ u;have ao:w.1.size<O.1.size:=ltg u;go_wp2_with fail;have C:=A1g _ x _ O (DT ap Below.go);rw[ak.o]at C;refine C.mono ?_;clear C;rintro _ w3 ⟨rfl,ac⟩;obtain⟨aH,aJ⟩:=F_ ac;have aP:w.1.size<w3.1.size:=ltg ac;go_wp2_with fail;have C:=A3c _ x _ w3 (DT ap Below.go) ak aw.1 aD;rw[aC.o,aB.o]at C;refine C.mono ?_;clear C;rintro _ aj ⟨rfl,al⟩;obtain⟨aU,aV⟩:=F_ al;have a1:w.1.size<aj.1.size:=ltg al;go_wp2_with fail;refine(B2z ah aF aj oS oS oS oS).mono ?_;rintro _ aQ ⟨rfl,aG⟩;go_wp2;go_ret;exact⟨Q_ (az),Below.go⟩

theorem D8c (f:Nat) (af:A4f f) (A:Option AH) (n c:Nat) (xs:List TRat) (bs:List Nat) (w:J) (p:TRat->Bool) (h:Sl w A n c xs bs)
  (Y:∀ (v:AJ) (x:TRat) (b:List Nat) (w:J),x∈xs->Agg w v x b->AR prog f #[v] w (A0b w (AC (p x)))) :
  AR prog 167 #[QH A n c,.func (.func f) #[] #[]] w (B9x w (xs.any p)):=by
 have ab:=A_ h.1;have ad:=A_ h;have ac:=A_ Y;unfold A4f at af;have ai:n<=BG:=BM h.2.1 h.2.2.1;unfold BG at ai;clear h Y;go_enter func167,ntmps167;go_wp2_with fail;go_loopg [8] n (λg s8 wr=>∃ k:Nat,k+g=n/\s8=QS K k/\Hid ((xs.take k).any p=AF)/\Bw w wr);case atStart=>exact⟨0,oS,rfl,by show(xs.take 0).any p=AF;simp,Below.refl _ _⟩
 case round =>
  obtain⟨k,X,rfl,O,G⟩:=hrel;rcases BN k n with u|u
  ·obtain⟨al,au,x,aj,m1,am,aw,ak,m2,an,ax,rfl,ar,Z,ao,ap,aq,T⟩:=TRat.elemA (AQ ad G) u
   have E:=A_ Z;have aa:=A_ T;have ah:(k:Int)<n:=oS;obtain⟨g,rfl⟩:∃ g,gk=g+1:=⟨gk - 1,oS⟩
   have ag:=A_ (by omega:k+1+g=n);clear Z X u T;go_wp2_with fail;refine(ac _ x _ wr (CH E) aa).mono ?_;rintro _ ay ⟨rfl,ae⟩;have W:=AI G ae;cases D:p x
   ·have H:=A_ (B6c E O D)
    clear D;go_wp2_with fail;go_roundg g;case measure=>omega
    case rel=>exact⟨k+1,ag,gN,H,W⟩
   have H:=A_ (D1e E D);clear D;go_wp2;go_ret;exact⟨k,rfl,by rw[H.o];simp,W⟩
  have e:=A_ (show xs.any p=AF by have:=O.o;rwa [CZ (by rw[ab.o];omega)]at this);have ah:¬ ((k:Int)<n):=oS;clear X u;go_wp2;go_ret;exact⟨-1,rfl,by rw[e.o];rfl,G⟩

theorem A7e (f:Nat) (h:A4f f) (A:Option AH) (n c:Nat) (xs:List TRat) (bs:List Nat) (w:J) (p:TRat->Bool) (D:Sl w A n c xs bs)
  (u:∀ (v:AJ) (x:TRat) (b:List Nat) (w:J),x∈xs->Agg w v x b->AR prog f #[v] w (A0b w (AC (p x)))) :
  AR prog 110 #[QH A n c,.func (.func f) #[] #[]] w (A0b w (AC (xs.any p))):=by
 have O:=A_ D;have H:=A_ u;have G:=A_ h;clear D u h;go_enter func110,ntmps110;go_wp2_with fail;refine(D8c f G A n c xs bs _ p (AQ O Below.go) H).mono ?_;rintro _ W ⟨r,rfl,e,T⟩;have E:=A_ e;clear e;go_wp2;go_ret;exact⟨Q_ E,T⟩

theorem C3i:A4f 111:=λa w=>kR
def D2n (x:TRat):Bool:=!J_ x
theorem C7u (v:AJ) (x:TRat) (b:List Nat) (w:J) (h:Agg w v x b):AR prog 111 #[v] w (A0b w (AC (D2n x))):=by
 have u:=A_ h;obtain⟨G,n1,O,X,H,n2,T,Y,rfl,rfl,D,E⟩:=BK h;clear D E h;go_enter func111,ntmps111;go_wp2_with fail;refine(A7s _ x _ _ (DT u Below.go)).mono ?_;rintro _ Z ⟨rfl,W⟩;go_wp2;go_ret;exact⟨rfl,Below.go⟩

theorem A1r (A:Option AH) (n c:Nat) (xs:List TRat) (bs:List Nat) (w:J) (b:Sl w A n c xs bs) :
  AR prog 66 #[QH A n c] w (A0b w (AC (xs.all J_))):=by
 have u:=A_ b;have h:=A_ (by rw[List.not_any_eq_all_not];congr 1;funext x;unfold D2n;rw[Bool.not_not]:(!xs.any D2n)=xs.all J_);clear b;go_enter func66,ntmps66;go_wp2_with fail;refine(A7e 111 C3i A n c xs bs _ D2n (AQ u Below.go) (λv x D w _ E=>C7u v x D w E)).mono ?_;rintro _ H ⟨rfl,G⟩;go_wp2;go_ret;exact⟨Q_ h,Below.go⟩

theorem A5o {a D:Int} (hD:0<D):0<BQ a D:=Int.gcd_pos_of_ne_zero_right a oS
theorem E7a {x:TBigInt} {h:Int} (D:XN.Can x.mag) (H:NegOk x) (E:0<h) :
  A0f (A0q x / (BQ (val x.mag) h:Nat))=⟨x.neg,dig (val x.mag / (BQ (val x.mag) h:Nat)).toNat⟩:=by
 have W:=A5o (a:=val x.mag) E;obtain⟨q,u⟩:=Int.gcd_dvd_left (val x.mag) h;generalize BQ (val x.mag) h=g at *;have T:=S_ D.1;have G:(0:Int)<g:=oS;have Y:0<=q:=by
  rcases EO q 0 with b|b;·have:=Int.mul_neg_of_pos_of_neg G b;omega
  exact b
 unfold A0q;cases O:x.neg;·rw[if_neg sI,u,PG _ oS];unfold A0f;rw[show q.natAbs=q.toNat by omega];congr 1;simp;omega
 have X:=D.pos (H O);have Z:0<q:=by
  rcases EO 0 q with b|b;·exact b
  have:q=0:=oS;rw[this]at u;omega
 rw[if_pos rfl,u,show -((g:Int)*q)=g * -q by rw[Int.mul_neg],PG _ oS,PG _ oS];unfold A0f;rw[show(-q).natAbs=q.toNat by omega];congr 1;simp;omega
theorem E5s (x:TBigInt) (D:Int):BQ (A0q x) D=BQ (val x.mag) D:=by unfold A0q;split<;>simp
theorem D6t {x:TBigInt} {h:Int} (G:XN.Can x.mag) (H:NegOk x) (E:0<h) :
  mkR (A0q x) h=if (dig (val x.mag / (BQ (val x.mag) h:Nat)).toNat).length<=24/\(dig (h / (BQ (val x.mag) h:Nat)).toNat).length<=24 then
   ⟨⟨x.neg,dig (val x.mag / (BQ (val x.mag) h:Nat)).toNat⟩,dig (h / (BQ (val x.mag) h:Nat)).toNat⟩else A0h:=by
 have e:=E7a G H E;unfold mkR;rw[E5s];have u:dig (A0q x / (BQ (val x.mag) h:Nat)).natAbs=dig (val x.mag / (BQ (val x.mag) h:Nat)).toNat:=by have:=congrArg TBigInt.mag e;exact this
 have D:(h / (BQ (val x.mag) h:Nat)).natAbs=(h / (BQ (val x.mag) h:Nat)).toNat:=by have:=Int.ediv_nonneg (a:=h) (b:=(BQ (val x.mag) h:Nat)) oS oS;omega
 rw[u,D,e]
theorem Own.left {w0 w:J} {a b:List Nat} (h:Own w0 w (a++b)):Own w0 w a:=⟨(List.nodup_append.1 h.1).1,λg hg=>h.2 g (List.mem_append_left _ hg)⟩
theorem B6o (A B:Option AH) (n m c d:Nat) (xs ys:List Int) (bs ds:List Nat) (w:J) (hx:Sl w A n c xs bs) (hy:Sl w B m d ys ds) (hcx:XN.Can xs) (hcy:XN.Can ys) (hn:n<=65536) (hm:m<=65536) :
  AR prog 89 #[QH A n c,QH B m d] w (A0w w (dig (BQ (val xs) (val ys)))) :=
 (C1y A B n m c d xs ys bs ds w hx hy hcx hcy hn hm).mono λ_ _ ⟨_,he,ho,hb⟩=>by subst he;exact A2r ho rfl (A0j _).1.i64 hb
theorem E5i (w:J):Agg w (AM #[AC AF,QH I 0 0,QH I 0 0]) A0h []:=CU (x:=A0h) (Sl.nil w) (Sl.nil w)
theorem A3e {w W:J} (hb:Bw w W):A0c w A0h (.returned (AM #[AC AF,QH I 0 0,QH I 0 0])) W:=⟨_,[],rfl,E5i W,Own.nil _ _,hb⟩

theorem B4k {w W:J} {x:TRat} {A1 A2:Option AH} {n1 c1 n2 c2:Nat} {b1 b2:List Nat} (h1:Sl W A1 n1 c1 x.1.2 b1/\Own w W b1) (h2:Sl W A2 n2 c2 x.2 b2/\Own w W b2) (hd:∀ b∈b1,b∉b2) (hb:Bw w W) :
  A0c w x (.returned (AM #[AC x.1.1,QH A1 n1 c1,QH A2 n2 c2])) W :=
 ⟨_,b1++b2,rfl,CU h1.1 h2.1,Own.append h1.2 h2.2 hd,hb⟩

section
variable {x:TBigInt} {ys:List Int} {v:AJ} {B:Option AH} {m d:Nat} {b1 b2:List Nat} {w:J}

theorem D7v (T:Agg w v x b1) (W:Sl w B m d ys b2) (E:XN.Can x.mag) (G:XN.Can ys) (ah:0<m) (lx:x.mag.length<=65536) (ak:m<=65536) (H:BQ (val x.mag) (val ys)=1) (ag:x.mag.length<=24) (af:m<=24) :
  ∃ A1 n1 c1,v=AM #[AC x.neg,QH A1 n1 c1]/\Sl w A1 n1 c1 x.mag b1/\AR prog 52 #[v,QH B m d] w (A0b w (AM #[AC x.neg,QH A1 n1 c1,QH B m d])):=by
 obtain⟨A1,n1,c1,ay,rfl,rfl,b⟩:=FU T;refine⟨A1,n1,c1,rfl,b,?_⟩;have ab:=A_ b;have ac:=A_ W;have Z:=A_ E;have aa:=A_ G;have ai:n1<=65536:=by have:=b.1;omega
 have ae:=A_ (by rw[H];rfl:AU (dig (BQ (val x.mag) (val ys))=[1])=AD);have az:¬ ((24:Int)<n1):=by have:=b.1;omega
 have aA:¬ ((24:Int)<m):=oS;clear T W E G b H ag af ah lx;go_enter func52,ntmps52;go_wp2_with fail;refine(B6o A1 B n1 m c1 d x.mag ys _ _ _ (AQ ab Below.go) (AQ ac Below.go) Z aa ai ak).mono ?_;rintro _ D ⟨Y,al,c3,am,rfl,O,aj,h⟩;have ad:=A_ O;clear O aj;obtain⟨an,ap⟩:=F_ h;have ar:w.1.size<D.1.size:=ltg h;have aw:w.1.size+1<D.1.size:=ltg h;go_wp2_with fail;have C:=B1f Y al c3 _ am D ad;rw[ae.o]at C;refine C.mono ?_;clear C;rintro _ X ⟨rfl,u⟩;obtain⟨ao,aq⟩:=F_ u;have au:w.1.size<X.1.size:=ltg u;have ax:w.1.size+1<X.1.size:=ltg u;go_wp2;exact BI (v:=AM #[AC x.neg,QH A1 n1 c1,QH B m d]) (by simp[BO,results52,go_sem, *]) rfl ⟨rfl,Below.go⟩

theorem E0g (ay:Agg w v x b1) (ae:Sl w B m d ys b2) (aj:XN.Can x.mag) (ak:XN.Can ys) (am:0<m) (lx:x.mag.length<=65536) (aB:m<=65536) (aC:NegOk x) (al:¬ (BQ (val x.mag) (val ys)=1/\x.mag.length<=24/\m<=24)) :
  AR prog 52 #[v,QH B m d] w (A0c w (mkR (A0q x) (val ys))):=by
 obtain⟨af,n1,ai,br,rfl,rfl,ad⟩:=FU ay;have an:=A_ ad;have ao:=A_ ae;have ag:=A_ aj;have ah:=A_ ak;have aM:=A_ (ak.pos (by intro e;rw[<-ae.1,e]at am;simp at am));have ax:n1<=65536:=by have:=ad.1;omega
 have ac:=A_ (D6t aj aC aM);have a7:=A_ (A5o (a:=val x.mag) aM);have a8:=A_ (show m=ys.length from ae.1.symm);by_cases T:BQ (val x.mag) (val ys)=1
 ·have H:=A_ (show mkR (A0q x) (val ys)=A0h by
   rw[ac.o,T,if_neg]
   rw[Int.natCast_one,NK,NK,<-ag.o.eq_dig,<-ah.o.eq_dig,<-a8.o]
   intro O;exact al ⟨T,O⟩)
  have ap:=A_ (by rw[T];rfl:AU (dig (BQ (val x.mag) (val ys))=[1])=AD)
  rw[H.o]
  rcases BN 24 n1 with E|E
  ·have aK:(24:Int)<n1:=oS
   clear ay ae aj ak aC ad al E am lx T ac;go_enter func52,ntmps52;go_wp2_with fail;refine(B6o af B n1 m ai d x.mag ys _ _ _ (AQ an Below.go) (AQ ao Below.go) ag ah ax aB).mono ?_;rintro _ u ⟨Z,Y,c3,ab,rfl,D,X,h⟩;have aa:=A_ D;have aE:=A_ X;have aD:=A_ D.1;clear D X;obtain⟨au,aV⟩:=F_ h;have az:w.1.size<u.1.size:=ltg h;have a3:w.1.size+1<u.1.size:=ltg h;go_wp2_with fail;have C:=B1f Z Y c3 _ ab u aa;rw[ap.o]at C;refine C.mono ?_;clear C;rintro _ G ⟨rfl,b⟩;obtain⟨aw,aW⟩:=F_ b;have aA:w.1.size<G.1.size:=ltg b;have a4:w.1.size+1<G.1.size:=ltg b;go_wp2;refine BI (v:=AM #[AC AF,QH I 0 0,QH I 0 0]) (by simp[BO,results52,go_sem, *]) rfl ?_;try rw[H.o]
   exact A3e Below.go
  have aK:¬ ((24:Int)<n1):=oS
  have a5:(24:Int)<m:=by
   rcases BN 24 m with O|O;·omega
   exact absurd ⟨T,by rw[ad.1];exact E,O⟩ al
  clear ay ae aj ak aC ad al E am lx T ac
  go_enter func52,ntmps52
  go_wp2_with fail
  refine(B6o af B n1 m ai d x.mag ys _ _ _ (AQ an Below.go) (AQ ao Below.go) ag ah ax aB).mono ?_
  rintro _ u ⟨Z,Y,c3,ab,rfl,D,X,h⟩
  have aa:=A_ D
  have aE:=A_ X
  have aD:=A_ D.1
  clear D X
  obtain⟨au,aV⟩:=F_ h
  have az:w.1.size<u.1.size:=ltg h
  have a3:w.1.size+1<u.1.size:=ltg h
  go_wp2_with fail
  have C:=B1f Z Y c3 _ ab u aa
  rw[ap.o]at C
  refine C.mono ?_
  clear C
  rintro _ G ⟨rfl,b⟩
  obtain⟨aw,aW⟩:=F_ b
  have aA:w.1.size<G.1.size:=ltg b
  have a4:w.1.size+1<G.1.size:=ltg b
  go_wp2
  refine BI (v:=AM #[AC AF,QH I 0 0,QH I 0 0]) (by simp[BO,results52,go_sem, *]) rfl ?_;try rw[H.o]
  exact A3e Below.go
 ·have ap:=A_ (by simp only[D9s];simpa using T:AU (dig (BQ (val x.mag) (val ys))=[1])=AF)
  have aL:=A_ (A0j (BQ (val x.mag) (val ys)));have a6:=A_ (A1j (BQ (val x.mag) (val ys)));clear ay ae aj ak aC ad al am lx T;go_enter func52,ntmps52;go_wp2_with fail;refine(B6o af B n1 m ai d x.mag ys _ _ _ (AQ an Below.go) (AQ ao Below.go) ag ah ax aB).mono ?_;rintro _ u ⟨Z,Y,c3,ab,rfl,D,X,h⟩;have aa:=A_ D;have aE:=A_ X;have aD:=A_ D.1;clear D X;obtain⟨au,aV⟩:=F_ h;have az:w.1.size<u.1.size:=ltg h;have a3:w.1.size+1<u.1.size:=ltg h;go_wp2_with fail;have C:=B1f Z Y c3 _ ab u aa;rw[ap.o]at C;refine C.mono ?_;clear C;rintro _ G ⟨rfl,b⟩;obtain⟨aw,aW⟩:=F_ b;have aA:w.1.size<G.1.size:=ltg b;have a4:w.1.size+1<G.1.size:=ltg b;have aX:0<Y:=by
   have O:dig (BQ (val x.mag) (val ys))≠[]:=by rw[Ne,B1x];have:=a7.o;omega
   have:=aD.o;have:=MF.2 O;omega
  go_wp2_with fail;refine(B5w af Z n1 Y ai c3 x.mag _ _ ab G (AQ an Below.go) (AQ aa b) ag aL ax aX).mono ?_;rintro _ w3 ⟨Q1,k1,ar,bs,bh,l1,aR,u1,rfl,a1,_,aY,aH⟩;have aF:=A_ a1;have aN:=A_ (Own.left aY);clear a1 aY;obtain⟨aU,bl⟩:=F_ aH;have bn:w.1.size<w3.1.size:=ltg aH;have bp:w.1.size+1<w3.1.size:=ltg aH;have a9:=A_ (fun(W:J) (ha:Above (w.1.size+2) u W)=>(A7w (w:=w) aa.o aE.o oR sI ha).1);go_wp2_with fail;refine(B5w B Z m Y d c3 ys _ _ ab _ (AQ ao Below.go) (a9 _ Above.go) ah aL aB aX).mono ?_;rintro _ aJ ⟨Q2,k2,bc,bt,bi,l2,aS,u2,rfl,a2,_,aZ,aI⟩;have aG:=A_ a2;have aO:=A_ (Own.left aZ);clear a2 aZ;obtain⟨bj,bm⟩:=F_ aI;have bo:w.1.size<aJ.1.size:=ltg aI;have bq:w.1.size+1<aJ.1.size:=ltg aI;have aT:w3.cell? ⟨w.1.size,1,I⟩=QL (QH af n1 ai):=by rw[aU _ _ aA,aw _ _ az,au _ _ oR];go_simp
  have bg:=J.cell?_setCell_same w3 _ (QH Q1 k1 ar) aT;have bf:(w3.setCell ⟨w.1.size,1,I⟩ (QH Q1 k1 ar)).cell? ⟨w.1.size,0,I⟩=QL (AC x.neg):=by
   have O:w3.cell? ⟨w.1.size,0,I⟩=QL (AC x.neg):=by rw[aU _ _ aA,aw _ _ az,au _ _ oR];go_simp
   exact(J.cell?_setCell_other w3 ⟨w.1.size,1,I⟩ ⟨w.1.size,0,I⟩ (QH Q1 k1 ar) sI).trans O
  clear aT;rw[a6.o]at aF aG;have aP:=A_ aF.1;have aQ:=A_ aG.1;have be:w.1.size+2<=G.1.size:=by have:=h.size;have:=b.size;simp at *;omega
  rcases BN 24 k1 with E|E
  ·have H:=A_ (by rw[ac.o,if_neg];rw[aP.o];omega:mkR (A0q x) (val ys)=A0h)
   have aK:(24:Int)<k1:=oS;clear E;go_wp2;refine BI (v:=AM #[AC AF,QH I 0 0,QH I 0 0]) (by simp[BO,results52,go_sem, *]) rfl ?_;try rw[H.o]
   exact A3e Below.go
  have aK:¬ ((24:Int)<k1):=oS;rcases BN 24 k2 with aq|aq
  ·have H:=A_ (by rw[ac.o,if_neg];rw[aQ.o];omega:mkR (A0q x) (val ys)=A0h)
   have a5:(24:Int)<k2:=oS;clear E aq;go_wp2;refine BI (v:=AM #[AC AF,QH I 0 0,QH I 0 0]) (by simp[BO,results52,go_sem, *]) rfl ?_;try rw[H.o]
   exact A3e Below.go
  have a5:¬ ((24:Int)<k2):=oS;have H:=A_ (by rw[ac.o,if_pos];rw[aP.o,aQ.o];exact⟨E,aq⟩:mkR (A0q x) (val ys)=⟨⟨x.neg,dig (val x.mag / (BQ (val x.mag) (val ys):Nat)).toNat⟩,dig (val ys / (BQ (val x.mag) (val ys):Nat)).toNat⟩);clear E aq;go_wp2;refine BI (v:=AM #[AC x.neg,QH Q1 k1 ar,QH Q2 k2 bc]) (by simp[BO,results52,go_sem, *]) rfl ?_;have aR:=fun(W:J) (ha:Above (w.1.size+2) w3 W)=>A7w (w:=w) aF.o aN.o oS be ha;have aS:=fun(W:J) (ha:Above (w.1.size+2) aJ W)=>A7w (w:=w) aG.o aO.o oR oR ha;rw[H.o];refine B4k (x:=⟨⟨x.neg,dig (val x.mag / (BQ (val x.mag) (val ys):Nat)).toNat⟩,dig (val ys / (BQ (val x.mag) (val ys):Nat)).toNat⟩) (aR _ ?_) (aS _ ?_) (A9o (N:=w3.1.size) aN.lt (λba bd=>by have:=(aO.2 ba bd).1;simp at this;exact this)) ?_;·exact Above.go
  ·exact Above.go
  exact Below.go
end
end
end Go.Proofs.YtbkilakncnlebaaGreatDoor.X
