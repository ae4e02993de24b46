/- A part of the proof. -/
import Derived.Test.YtjcanieccnljfaaGreatY6
import Derived.Deep.LoopGhost
set_option linter.constructorNameAsVariable false
set_option maxHeartbeats 16000000
set_option maxRecDepth 10000
open Bool renaming and_eq_true→DJ,false→AH,true→AF,true_and→PG
open Decidable renaming decide→BQ
open Go renaming Addr→AJ,Calls→BL,Value→AU,World→AD,bodyPost_ret→CK,maxLen→BS,results→CO
open Go.IntKind renaming i64→K,u64→LH
open Go.Obj renaming cells→BG
open Go.Value renaming agg→BJ,bool→J,int→RH,slice→QX
open Go.XB.Agg renaming below→IE
open Go.XB.Below renaming next→BH
open Go.XB.Sl renaming below→BN,getInt→DL
open Go.XB.TBigInt renaming agg→FZ,mkAgg→FV
open Go.XB.TRat renaming agg→CF,mkAgg→FK
open Int renaming ediv_one→PH,emod_lt_of_pos→MD,emod_nonneg→MI,gcd→CQ,le_of_lt→JJ,lt_or_le→FH,mul_ediv_cancel_left→QH,toNat_of_nonneg→JF
open List renaming dropLast→DN,eq_nil_of_length_eq_zero→IV,getLast→DO,length→DQ,length_pos_iff→MZ,mem_of_getElem?→DH,take_of_length_le→DT
open Nat renaming eq_zero_or_pos→IG,le_trans→CJ,lt_or_ge→CG
open Option renaming none→I,some→QZ
namespace Go.Proofs.YtjcanieccnljfaaGreat.X
open Go.RowKit Go.XB Go.XN Proofs.Tryz
attribute [local go_sem] L_ opAt N_ M_ Region.wanted yielded
attribute [local simp] N_ M_ MP.eq A0r
theorem B8y {a b:Int}:CQ b (a % b)=CQ a b:=by
 have h:=Int.gcd_add_mul_left_right b (a % b) (a / b);rw[Int.emod_add_mul_ediv]at h;rw[<-h,Int.gcd_comm]
theorem A8u {w:AD} {b D:Nat} {e:TypeId} {size:Nat} {v:AU} {n:Nat} {xs:List AU} (h:w.ownsRow b e size v n xs) (O:D<=b):w.ownsRow D e size v n xs:=by
 refine⟨h.1,?_⟩;rcases h.2 with u|⟨g,cap,E,G,u,H⟩
 ·exact .inl u
 exact .inr ⟨g,cap,E,G,CJ O u,H⟩

theorem C1y (A B:Option AJ) (n m c d:Nat) (xs ys:List Int) (bs b:List Nat) (w:AD) (D:Sl w A n c xs bs) (h:Sl w B m d ys b) (ad:XN.Can xs) (ae:XN.Can ys) (T:n<=65536) (O:m<=65536) :
  BL prog 112 #[QX A n c,QX B m d] w (B3k w 3 (dig (CQ (val xs) (val ys)))):=by
 have al:=A_ D;have am:=A_ h;have aj:=A_ ad;have aa:=A_ ae;clear D h ad ae;go_enter func112,ntmps112;go_wp2_with fail;go_loopg [0,1,6] (val ys).toNat (λg s0 s1 s6 wr=>∃ (A B:Option AJ) (n m c d:Nat) (x y:List Int) (bs b:List Nat),s0=QX A n c/\s1=QX B m d/\Hid (Sl wr A n c x bs)/\Hid (Sl wr B m d y b)/\Hid (XN.Can x)/\Hid (XN.Can y)/\n<=65536/\m<=65536/\Hid (CQ (val x) (val y)=CQ (val xs) (val ys))/\Hid (val y=g)/\Bw w wr);case atStart=>exact⟨A,B,n,m,c,d,xs,ys,bs,b,rfl,rfl,al,am,aj,aa,T,O,rfl,(JF (S_ aa.1)).symm,Below.refl _ _⟩
 case round =>
  obtain⟨A,B,n,m,c,d,x,y,bs,b,rfl,rfl,D,h,ab,G,T,O,af,ar,H⟩:=hrel;have X:=A_ (show y.length=m from h.1);by_cases hm0:0<m
  ·have E:=A_ (G.pos (by intro e;have:=X.o;rw[e]at this;simp at this;omega))
   go_wp2_with fail;refine(B5w A B n m c d x y bs b wr D h ab G T hm0).mono ?_;rintro _ Z ⟨aC,n1,aD,b1,ah,n2,ao,b2,rfl,ax,Y,au,u⟩;have ak:=A_ Y;have an:=A_ (BN h u);have W:Bw w Z:=BH H u;have rl:=A_ (show n2<=m by rw[<-Y.1];refine A4r ?_;have ap:=MD (val x) E;have aq:=MI (val x) (by have:=E.o;omega:val y≠0);have ac:=A4j G.1;rw[X.o]at ac;omega);have ay:=A_ (show CQ (val y) (val (dig (val x % val y).toNat))=CQ (val xs) (val ys) by rw[A1j,JF (MI _ (by have:=E.o;omega)),B8y];exact af);have az:=A_ (show val (dig (val x % val y).toNat)=((val x % val y).toNat:Int)from A1j _);have aA:=A_ (show(val x % val y).toNat<gk by have ap:=MD (val x) E;have aq:=ar.o;have ac:=E.o;omega);have aB:=A_ (show n2<=65536 from CJ rl O);clear ax Y au H u;have ai:=A_ (A0j (val x % val y).toNat);go_wp2_with fail;go_roundg (val x % val y).toNat;case measure=>exact aA
   case rel=>exact⟨B,ah,m,n2,d,ao,y,_,b,b2,rfl,rfl,an,ak,G,ai,O,aB,ay,az,W⟩
  obtain rfl:m=0:=oS;have e:=A_ (show x=dig (CQ (val xs) (val ys)) by rw[<-af.o,show val y=0 by rw[IV X.o];rfl,Int.gcd_zero_right];exact(ab.dig_natAbs).symm);go_wp2_with fail;refine(B6m A n c x bs wr D (CJ T dE)).mono ?_;rintro _ Z ⟨v1,rfl,aw,u⟩;have W:Bw w Z:=BH H u;have ag:=A8u aw H.size;rw[e.o]at ag;go_wp2;go_ret;exact⟨_,rfl,ag,W⟩

theorem B2z (a b:Int) (w:AD) (O:0<=a) (E:0<=b) (T:a<=9223372036854775807) (W:b<=9223372036854775807) :
  BL prog 110 #[RH K a,RH K b] w (A0b w (RH K (CQ a b))):=by
 go_enter func110,ntmps110;go_wp2_with fail;go_loopg [0,1] b.toNat (λg s0 s1 wr=>∃ x y:Int,s0=RH K x/\s1=RH K y/\0<=x/\x<=9223372036854775807/\0<=y/\y<=9223372036854775807/\Hid (CQ x y=CQ a b)/\Hid (y=g)/\Bw w wr);case atStart=>exact⟨a,b,rfl,rfl,O,T,E,W,rfl,(JF E).symm,Below.refl _ _⟩
 case round =>
  obtain⟨x,y,rfl,rfl,aa,aj,ac,ad,H,Z,G⟩:=hrel;by_cases ab:0<y
  ·have r0:=A_ (show 0<=x % y/\x % y<y from⟨MI _ oS,MD _ ab⟩)
   have ae:=A_ (by rw[B8y];exact H:CQ y (x % y)=CQ a b);have D:=A_ (by have:=r0.o;have:=Z.o;omega:(x % y).toNat<gk/\x % y<=9223372036854775807/\x % y=((x % y).toNat:Int));go_wp2_with fail;refine A0g ?_;iterate 3 refine C_ _ ?_
   refine A2b (RH K (x % y)) ?_ ?_;·intro af ag ak h u;obtain⟨ah,ai⟩:=F_ h;simp at u;refine⟨gD,?_⟩;go_simp;rw[if_neg oS,Int.tmod_eq_emod_of_nonneg aa]
   iterate 2 refine C_ _ ?_
   intro af ag wa h u (Y:Hid _);simp at u;go_simp;clear u Y;have X:=BH G h;clear h;go_wp2_with fail;go_roundg (x % y).toNat;case measure=>exact D.1
   case rel=>exact⟨y,x % y,rfl,rfl,ac,ad,r0.1,D.2.1,ae,D.2.2,X⟩
  obtain rfl:y=0:=oS;have e:=A_ (by rw[<-H.o,Int.gcd_zero_right];omega:x=(CQ a b:Int));go_wp2;go_ret;exact⟨A1x e,G⟩

theorem B1f (A:Option AJ) (n c:Nat) (xs:List Int) (bs:List Nat) (w:AD) (b:Sl w A n c xs bs) :
  BL prog 111 #[QX A n c] w (A0b w (J (BQ (xs=[1])))):=by
 have E:=A_ b.1;by_cases u:n=1
 ·subst u
  obtain⟨H,X,x,rfl,T,D,O,G⟩:=DL b (k:=0) dE;simp only[Nat.add_zero]at G;have e:=A_ (show(x==1)=BQ (xs=[1]) by
   have h:=E.o;match xs,h with
   | [y],_=>simp at D;subst D;simp;rfl)
  clear b D;go_enter func111,ntmps111;go_wp2;go_ret;exact⟨Q_ e,Below.go⟩
 have e:=A_ (show BQ (xs=[1])=AH by simp;intro h;apply u;rw[<-E.o,h];rfl);have W:((n:Int)==1)=AH:=oR;clear b u;go_enter func111,ntmps111;go_wp2;go_ret;exact⟨Q_ e.symm,Below.go⟩

theorem A3s (neg:Bool) (A:Option AJ) (n c:Nat) (w:AD) :
  BL prog 151 #[J neg,QX A n c] w (A0b w (BJ #[J (neg&&BQ (0<n)),QX A n c])):=by
 cases neg;·go_enter func151,ntmps151;go_wp2;exact CK (v:=BJ #[J AH,QX A n c]) (by simp[CO,results151,go_sem]) rfl ⟨rfl,Below.go⟩
 by_cases b:0<n
 ·have e:BQ (0<n)=AF:=by simpa using b
  rw[e];go_enter func151,ntmps151;go_wp2;exact CK (v:=BJ #[J AF,QX A n c]) (by simp[CO,results151,go_sem]) rfl ⟨rfl,Below.go⟩
 obtain rfl:n=0:=oS;go_enter func151,ntmps151;go_wp2;exact CK (v:=BJ #[J AH,QX A 0 c]) (by simp[CO,results151,go_sem]) rfl ⟨rfl,Below.go⟩

theorem E6t {n:Int} (b:n<0) (h:-9223372036854775808<=n):LH.wrap (-LH.wrap n) = -n:=by
 simp[IntKind.wrap,IntKind.signed,IntKind.bits];omega
theorem A7w {α:Type} [Dat α] {w w0 u W:AD} {lo:Nat} {A:Option AJ} {n c:Nat} {xs:List α} {bs:List Nat} (h:Sl u A n c xs bs) (ho:Own w0 u bs) (hs:w.1.size<=w0.1.size) (hl:lo<=w0.1.size) (ha:Above lo u W):Sl W A n c xs bs/\Own w W bs :=
 ⟨Sl.above h ho ha hl,(ho.above ha hl).older hs⟩

theorem A9i (N:Int) (w:AD) (h:I64 N):BL prog 149 #[RH K N] w (A0c w (A0f N)):=by
 have ac:=h.1;have aj:=h.2;rcases FH N 0 with H|H
 ·have aa:=A_ (E6t H ac)
  have ab:=A_ (by rw[aa.o];omega:0<=LH.wrap (-LH.wrap N)/\LH.wrap (-LH.wrap N)<=18446744073709551615);have T:=A_ (by rw[aa.o,show(-N).toNat=N.natAbs by omega];rfl:dig (LH.wrap (-LH.wrap N)).toNat=(A0f N).mag);go_enter func149,ntmps149;go_wp2_with fail;refine(B3p (LH.wrap (-LH.wrap N)) _ ab.1 ab.2).mono ?_;rintro _ u ⟨A,n,c,bs,rfl,b,G,D⟩;rw[T.o]at b;have Y:=A_ b;have X:=A_ G;obtain⟨ad,af⟩:=F_ D;have ah:w.1.size<u.1.size:=ltg D;have O:=A_ (show(AF&&BQ (0<n))=(A0f N).neg by
   have:=b.1;unfold A0f at this ⊢;simp only[H,PG,decide_true,decide_eq_true_eq];rw[<-this];have:dig N.natAbs≠[]:=by rw[Ne,B1x];omega
   exact MZ.2 this)
  clear b G;go_wp2_with fail;have C:=A3s AF A n c u;rw[O.o]at C;refine C.mono ?_;clear C;rintro _ Z ⟨rfl,E⟩;obtain⟨ae,ag⟩:=F_ E;have ai:w.1.size<Z.1.size:=ltg E;go_wp2;refine CK (v:=BJ #[J (A0f N).neg,QX A n c]) (by simp[CO,results149,go_sem, *]) rfl ?_;have f:=fun(W:AD) (ha:Above (w.1.size+1) u W)=>A7w (w:=w) Y.o X.o sI sI ha;exact⟨_,bs,rfl,FV (f _ Above.go).1,(f _ Above.go).2,Below.go⟩
 have T:=A_ (by rw[show N.toNat=N.natAbs by omega];rfl:dig N.toNat=(A0f N).mag);go_enter func149,ntmps149;go_wp2_with fail;refine(B3p N _ H oS).mono ?_;rintro _ u ⟨A,n,c,bs,rfl,b,G,D⟩;rw[T.o]at b;have Y:=A_ b;have X:=A_ G;obtain⟨ad,af⟩:=F_ D;have ah:w.1.size<u.1.size:=ltg D;clear b G;go_wp2_with fail;have O:=A_ (by unfold A0f;simp;omega:(AH&&BQ (0<n))=(A0f N).neg);have C:=A3s AH A n c u;rw[O.o]at C;refine C.mono ?_;clear C;rintro _ Z ⟨rfl,E⟩;obtain⟨ae,ag⟩:=F_ E;have ai:w.1.size<Z.1.size:=ltg E;go_wp2;refine CK (v:=BJ #[J (A0f N).neg,QX A n c]) (by simp[CO,results149,go_sem, *]) rfl ?_;have f:=fun(W:AD) (ha:Above (w.1.size+1) u W)=>A7w (w:=w) Y.o X.o sI sI ha;exact⟨_,bs,rfl,FV (f _ Above.go).1,(f _ Above.go).2,Below.go⟩
section
attribute [local simp] MP.agg MP.sl
theorem _root_.Go.XN.enc_of {neg:Bool} {N:Nat} {v:Int} (b:v=if neg then -(N:Int)else N):(A0f v).mag=dig N/\(A0f v).neg=(neg&&BQ (0<(dig N).length)):=by
 have:=C5a (neg:=neg) (A0j N) (v:=v) (by rw[A1j];exact b);rw[<-this];refine⟨rfl,?_⟩;cases dig N<;>simp
theorem _root_.Go.XN.mul_val {x y:TBigInt} (h:Lims x.mag) (u:Lims y.mag):A0q x*A0q y=if x.neg != y.neg then -((val x.mag*val y.mag).toNat:Int)else(val x.mag*val y.mag).toNat:=by
 have b:=Int.mul_nonneg (S_ h) (S_ u);rw[JF b];unfold A0q;cases x.neg<;>cases y.neg<;>simp[Int.neg_mul,Int.mul_neg]
theorem C3w {w W:AD} {t:Int} {A:Option AJ} {n c:Nat} {bs:List Nat} (h:Sl W A n c (A0f t).mag bs/\Own w W bs) (hb:Bw w W):A0c w (A0f t) (.returned (BJ #[J (A0f t).neg,QX A n c])) W :=
 ⟨_,bs,rfl,FV h.1,h.2,hb⟩

theorem A7j {α:Type} [Dat α] {w u W:AD} {lo:Nat} {A:Option AJ} {n c:Nat} {xs:List α} {bs:List Nat} (h:Sl u A n c xs bs) (hf:Free u bs) (hr:∀ b∈bs,lo<=b) (hl:w.1.size<=lo) (ha:Above lo u W):Sl W A n c xs bs/\Own w W bs :=
 have hk:∀ g∈bs,W.1[g]?=u.1[g]?:=λg hg=>ha.block g (hr g hg) (h.lt g hg)
 ⟨h.keep hk,hf.1,λb hb=>⟨CJ hl (hr b hb),by obtain⟨cs,t,e⟩:=hf.2 b hb;exact⟨cs,t,(hk b hb).trans e⟩⟩⟩

theorem A6e (v1 v2:AU) (x y:TBigInt) (b1 b2:List Nat) (w:AD) (ac:Agg w v1 x b1) (ad:Agg w v2 y b2) (E:Lims x.mag) (G:Lims y.mag) (lx:x.mag.length<=1048576) (ae:y.mag.length<=1048576) :
  BL prog 90 #[v1,v2] w (A0c w (A0f (A0q x*A0q y))):=by
 obtain⟨aj,n1,aw,aK,rfl,rfl,aa⟩:=FZ ac;obtain⟨ak,n2,ax,aL,rfl,rfl,ab⟩:=FZ ad;have O:=A_ aa;have T:=A_ ab;have D:=A_ (enc_of (mul_val E G));have al:=A_ E;have am:=A_ G;have aq:=A_ lx;have ar:=A_ ae;clear aa ab ac ad E G lx ae;go_enter func90,ntmps90;go_wp2_with fail;refine X_ sI ?_;dsimp only[DN,DO,DQ];iterate 9 refine C_ _ ?_
 refine D_ (MP.sl (A0f (A0q x*A0q y)).mag) ?_ ?_;·intro ah ai H h b;obtain⟨az,aB⟩:=F_ h;simp at b;refine G_ ?_;have:=B5n aj ak n1 n2 aw ax x.mag y.mag _ _ H (BN O.o Below.go) (BN T.o Below.go) al.o am.o (by rw[<-O.o.1];exact aq.o) (by rw[<-T.o.1];exact ar);rw[<-D.o.1]at this;exact A1c this
 refine A3q (λag=>MP.eq (BJ #[J (A0f (A0q x*A0q y)).neg,ag 9])) (by intro y ag X;simp[N_,M_]at X;simp[X]) ?_ ?_;·intro ah ai H h b;obtain⟨az,aB⟩:=F_ h;simp at b;refine G_ ?_;obtain⟨_,⟨A,n,c,e,u⟩,_⟩:=b;rw[e];have C:=A3s (!(x.neg==y.neg)) A n c H;rw[show((!(x.neg==y.neg))&&BQ (0<n))=(A0f (A0q x*A0q y)).neg by rw[D.o.2,<-D.o.1,u.1];rfl]at C;exact A0i C
 intro ah ai wa h b (aA:Hid _);simp at b;go_simp;have aC:=b.2.2.2.2.2.2.2.2.2.1;have af:=b.2.2.2.2.2.2.2.2.2.2;obtain⟨⟨⟨A,n,c,aE,u⟩,Y⟩,Z⟩:=aC;have aD:=af.1.1;have ap:=A_ u;have an:=A_ Y;have ao:=A_ Z;clear b aA af u Y Z;obtain⟨aF,aG⟩:=F_ h;have aH:w.1.size<wa.1.size:=ltg h;have aI:w.1.size+1<wa.1.size:=ltg h;have aJ:w.1.size+1+1<wa.1.size:=ltg h;go_wp2;refine CK (v:=BJ #[J (A0f (A0q x*A0q y)).neg,QX A n c]) (by simp[CO,results90,go_sem, *]) rfl ?_;have f:=fun(W:AD) (ha:Above (w.1.size+3) wa W)=>A7j (w:=w) ap.o an.o (λau ay=>(ao.o au ay).1) oS ha;exact C3w (f _ Above.go) Below.go

theorem _root_.Go.XN.add_same {x y:TBigInt} (b:Lims x.mag) (u:Lims y.mag) (h:x.neg=y.neg):A0q x+A0q y=if x.neg then -((val x.mag+val y.mag).toNat:Int)else(val x.mag+val y.mag).toNat:=by
 have D:=S_ b;have E:=S_ u;unfold A0q;rw[<-h];cases x.neg<;>simp<;>omega
theorem _root_.Go.XN.add_ge {x y:TBigInt} (h:¬ x.neg=y.neg) (b:val y.mag<=val x.mag):A0q x+A0q y=if x.neg then -((val x.mag - val y.mag).toNat:Int)else(val x.mag - val y.mag).toNat:=by
 unfold A0q;cases u:x.neg<;>cases D:y.neg<;>simp_all<;>omega
theorem _root_.Go.XN.add_lt {x y:TBigInt} (h:¬ x.neg=y.neg) (b:val x.mag<=val y.mag):A0q x+A0q y=if y.neg then -((val y.mag - val x.mag).toNat:Int)else(val y.mag - val x.mag).toNat:=by
 unfold A0q;cases u:x.neg<;>cases D:y.neg<;>simp_all<;>omega

theorem D6e (v1 v2:AU) (x y:TBigInt) (b1 b2:List Nat) (w:AD) (aJ:Agg w v1 x b1) (aK:Agg w v2 y b2) (aB:XN.Can x.mag) (aC:XN.Can y.mag) (lx:x.mag.length<=1048576) (aO:y.mag.length<=1048576) :
  BL prog 89 #[v1,v2] w (A0c w (A0f (A0q x+A0q y))):=by
 obtain⟨aj,n1,ap,aV,rfl,rfl,aH⟩:=FZ aJ;obtain⟨ak,n2,aq,aW,rfl,rfl,aI⟩:=FZ aK;have ad:=A_ aH;have ae:=A_ aI;have ah:=A_ aB;have ai:=A_ aC;have az:=A_ lx;have aA:=A_ aO;clear aH aI aJ aK aB aC lx aO;by_cases O:x.neg=y.neg
 ·have D:=A_ (enc_of (add_same ah.1 ai.1 O))
  have af:(x.neg==y.neg)=AF:=by simp[O]
  have aU:=A_ O;clear O;go_enter func89,ntmps89;go_wp2_with fail;refine X_ sI ?_;dsimp only[DN,DO,DQ];iterate 6 refine C_ _ ?_
  refine D_ (MP.sl (A0f (A0q x+A0q y)).mag) ?_ ?_;·intro ab ac E h b;obtain⟨ar,aw⟩:=F_ h;simp at b;refine G_ ?_;have:=D5r aj ak n1 n2 ap aq x.mag y.mag _ _ E (BN ad.o Below.go) (BN ae.o Below.go) ah.o ai.o (by rw[<-ad.o.1];exact az.o) (by rw[<-ae.o.1];exact aA);rw[<-D.o.1]at this;exact A1c this
  refine A3q (λaa=>MP.eq (BJ #[J (A0f (A0q x+A0q y)).neg,aa 6])) (by intro y aa T;simp[N_,M_]at T;simp[T]) ?_ ?_;·intro ab ac E h b;obtain⟨ar,aw⟩:=F_ h;simp at b;refine G_ ?_;obtain⟨_,⟨A,n,c,e,u⟩,_⟩:=b;rw[e];have C:=A3s x.neg A n c E;rw[show(x.neg&&BQ (0<n))=(A0f (A0q x+A0q y)).neg by rw[D.o.2,<-D.o.1,u.1]]at C;exact A0i C
  intro ab ac wa h b (au:Hid _);simp at b;go_simp;have ax:=b.2.2.2.2.2.2.1;have Z:=b.2.2.2.2.2.2.2;obtain⟨⟨⟨A,n,c,aD,u⟩,X⟩,Y⟩:=ax;have aE:=Z.1.1;have an:=A_ u;have al:=A_ X;have am:=A_ Y;clear b au Z u X Y;obtain⟨aF,aG⟩:=F_ h;have aL:w.1.size<wa.1.size:=ltg h;have aM:w.1.size+1<wa.1.size:=ltg h;have aN:w.1.size+1+1<wa.1.size:=ltg h;go_wp2;refine CK (v:=BJ #[J (A0f (A0q x+A0q y)).neg,QX A n c]) (by simp[CO,results89,go_sem, *]) rfl ?_;have f:=fun(W:AD) (ha:Above (w.1.size+3) wa W)=>A7j (w:=w) an al (λao af=>by have:=(am ao af).1;omega) oS ha;exact C3w (f _ Above.go) Below.go
 have af:(x.neg==y.neg)=AH:=by simp[O]
 rcases FH (val x.mag) (val y.mag)with H|H
 ·have D:=A_ (enc_of (add_lt O (JJ H)))
  have S:=A_ (B2q H);have ay:=A_ H;clear O H;go_enter func89,ntmps89;go_wp2_with fail;refine(A9u aj ak n1 n2 ap aq x.mag y.mag _ _ _ (BN ad Below.go) (BN ae Below.go) ah ai).mono ?_;rintro _ ag ⟨rfl,G⟩;rw[S.o];obtain⟨aP,aQ⟩:=F_ G;have aR:w.1.size<ag.1.size:=ltg G;have aS:w.1.size+1<ag.1.size:=ltg G;have aT:w.1.size+1+1<ag.1.size:=ltg G;go_wp2_with fail;refine X_ sI ?_;dsimp only[DN,DO,DQ];iterate 6 refine C_ _ ?_
  refine D_ (MP.sl (A0f (A0q x+A0q y)).mag) ?_ ?_;·intro ab ac E h b;obtain⟨ar,aw⟩:=F_ h;simp at b;refine G_ ?_;have:=C2l ak aj n2 n1 aq ap y.mag x.mag _ _ E (BN ae.o Below.go) (BN ad.o Below.go) ai.o ah.o (by rw[<-ae.o.1];exact aA) (JJ ay);rw[<-D.o.1]at this;exact A1c this
  refine A3q (λaa=>MP.eq (BJ #[J (A0f (A0q x+A0q y)).neg,aa 6])) (by intro y aa T;simp[N_,M_]at T;simp[T]) ?_ ?_;·intro ab ac E h b;obtain⟨ar,aw⟩:=F_ h;simp at b;refine G_ ?_;obtain⟨_,⟨A,n,c,e,u⟩,_⟩:=b;rw[e];have C:=A3s y.neg A n c E;rw[show(y.neg&&BQ (0<n))=(A0f (A0q x+A0q y)).neg by rw[D.o.2,<-D.o.1,u.1]]at C;exact A0i C
  intro ab ac wa h b (au:Hid _);simp at b;go_simp;have ax:=b.2.2.2.2.2.2.1;have Z:=b.2.2.2.2.2.2.2;obtain⟨⟨⟨A,n,c,aD,u⟩,X⟩,Y⟩:=ax;have aE:=Z.1.1;have an:=A_ u;have al:=A_ X;have am:=A_ Y;clear b au Z u X Y;obtain⟨aF,aG⟩:=F_ h;have aL:w.1.size<wa.1.size:=ltg h;have aM:w.1.size+1<wa.1.size:=ltg h;have aN:w.1.size+1+1<wa.1.size:=ltg h;go_wp2;refine CK (v:=BJ #[J (A0f (A0q x+A0q y)).neg,QX A n c]) (by simp[CO,results89,go_sem, *]) rfl ?_;have f:=fun(W:AD) (ha:Above (w.1.size+3) wa W)=>A7j (w:=w) an al (λao af=>by have:=(am ao af).1;omega) oS ha;exact C3w (f _ Above.go) Below.go
 have D:=A_ (enc_of (add_ge O H));have S:=B8n H;have ay:=A_ H;clear O H;go_enter func89,ntmps89;go_wp2_with fail;refine(A9u aj ak n1 n2 ap aq x.mag y.mag _ _ _ (BN ad Below.go) (BN ae Below.go) ah ai).mono ?_;rintro _ ag ⟨rfl,G⟩;generalize sgn (val x.mag - val y.mag)=aX at *;obtain⟨aP,aQ⟩:=F_ G;have aR:w.1.size<ag.1.size:=ltg G;have aS:w.1.size+1<ag.1.size:=ltg G;have aT:w.1.size+1+1<ag.1.size:=ltg G;go_wp2_with fail;refine X_ sI ?_;dsimp only[DN,DO,DQ];iterate 6 refine C_ _ ?_
 refine D_ (MP.sl (A0f (A0q x+A0q y)).mag) ?_ ?_;·intro ab ac E h b;obtain⟨ar,aw⟩:=F_ h;simp at b;refine G_ ?_;have:=C2l aj ak n1 n2 ap aq x.mag y.mag _ _ E (BN ad.o Below.go) (BN ae.o Below.go) ah.o ai.o (by rw[<-ad.o.1];exact az) ay;rw[<-D.o.1]at this;exact A1c this
 refine A3q (λaa=>MP.eq (BJ #[J (A0f (A0q x+A0q y)).neg,aa 6])) (by intro y aa T;simp[N_,M_]at T;simp[T]) ?_ ?_;·intro ab ac E h b;obtain⟨ar,aw⟩:=F_ h;simp at b;refine G_ ?_;obtain⟨_,⟨A,n,c,e,u⟩,_⟩:=b;rw[e];have C:=A3s x.neg A n c E;rw[show(x.neg&&BQ (0<n))=(A0f (A0q x+A0q y)).neg by rw[D.o.2,<-D.o.1,u.1]]at C;exact A0i C
 intro ab ac wa h b (au:Hid _);simp at b;go_simp;have ax:=b.2.2.2.2.2.2.1;have Z:=b.2.2.2.2.2.2.2;obtain⟨⟨⟨A,n,c,aD,u⟩,X⟩,Y⟩:=ax;have aE:=Z.1.1;have an:=A_ u;have al:=A_ X;have am:=A_ Y;clear b au Z u X Y;obtain⟨aF,aG⟩:=F_ h;have aL:w.1.size<wa.1.size:=ltg h;have aM:w.1.size+1<wa.1.size:=ltg h;have aN:w.1.size+1+1<wa.1.size:=ltg h;go_wp2;refine CK (v:=BJ #[J (A0f (A0q x+A0q y)).neg,QX A n c]) (by simp[CO,results89,go_sem, *]) rfl ?_;have f:=fun(W:AD) (ha:Above (w.1.size+3) wa W)=>A7j (w:=w) an al (λao af=>by have:=(am ao af).1;omega) oS ha;exact C3w (f _ Above.go) Below.go

def NegOk (x:TBigInt):Prop:=x.neg=AF->x.mag≠[]
theorem NegOk.lt {x:TBigInt} (h:NegOk x) (u:XN.Can x.mag) (b:x.neg=AF):A0q x<0:=by
 have:=u.pos (h b);unfold A0q;rw[if_pos b];omega
theorem NegOk.ge {x:TBigInt} (b:XN.Can x.mag) (h:x.neg=AH):0<=A0q x:=by
 have:=S_ b.1;unfold A0q;rw[if_neg (by simp[h])];omega
theorem C7z {a:Int} (h:a<0):sgn a = -1:=by unfold sgn;rw[if_pos h]
theorem B5h {a:Int} (h:0<a):sgn a=1:=by unfold sgn;rw[if_neg oS,if_pos h]
theorem E3f {a:Int} (h:a=0):sgn a=0:=by subst h;rfl

theorem C2v (v1 v2:AU) (x y:TBigInt) (b1 b2:List Nat) (w:AD) (ae:Agg w v1 x b1) (af:Agg w v2 y b2) (aa:XN.Can x.mag) (ab:XN.Can y.mag) (D:NegOk x) (E:NegOk y) :
  BL prog 114 #[v1,v2] w (A0b w (RH K (sgn (A0q x - A0q y)))):=by
 obtain⟨O,n1,Y,ai,rfl,rfl,ac⟩:=FZ ae;obtain⟨T,n2,Z,aj,rfl,rfl,ad⟩:=FZ af;have W:=A_ ac;have X:=A_ ad;have G:=A_ aa;have H:=A_ ab;clear ac ad ae af aa ab;cases h:x.neg
 ·cases b:y.neg
  ·have u:=A_ (by unfold A0q;rw[if_neg (by simp[h]),if_neg (by simp[b])]:sgn (val x.mag - val y.mag)=sgn (A0q x - A0q y));clear h b D E;go_enter func114,ntmps114;go_wp2_with fail;refine(A9u O T n1 n2 Y Z x.mag y.mag _ _ _ (BN W Below.go) (BN X Below.go) G H).mono ?_;rintro _ ah ⟨rfl,ag⟩;go_wp2;go_ret;exact⟨A1x u,Below.go⟩
  have u:=A_ (B5h (a:=A0q x - A0q y) (by have:=NegOk.ge G h;have:=E.lt H b;omega));clear h b D E;go_enter func114,ntmps114;go_wp2;go_ret;exact⟨A1x u.symm,Below.go⟩
 cases b:y.neg;·have u:=A_ (C7z (a:=A0q x - A0q y) (by have:=NegOk.ge H b;have:=D.lt G h;omega));clear h b D E;go_enter func114,ntmps114;go_wp2;go_ret;exact⟨A1x u.symm,Below.go⟩
 have u:=A_ (by unfold A0q;rw[if_pos h,if_pos b];congr 1;omega:sgn (val y.mag - val x.mag)=sgn (A0q x - A0q y));clear h b D E;go_enter func114,ntmps114;go_wp2_with fail;refine(A9u T O n2 n1 Z Y y.mag x.mag _ _ _ (BN X Below.go) (BN W Below.go) H G).mono ?_;rintro _ ah ⟨rfl,ag⟩;go_wp2;go_ret;exact⟨A1x u,Below.go⟩

theorem C2j (n:Int) (w:AD):BL prog 113 #[RH K n] w (A0b w (RH K (sgn n))):=by
 rcases Int.lt_trichotomy n 0 with b|b|b;·have h:=A_ (C7z b);go_enter func113,ntmps113;go_wp2;go_ret;exact⟨A1x h.symm,Below.go⟩
 ·subst b;go_enter func113,ntmps113;go_wp2;go_ret;exact⟨rfl,Below.go⟩
 have h:=A_ (B5h b);have u:¬ n<0:=oS;go_enter func113,ntmps113;go_wp2;go_ret;exact⟨A1x h.symm,Below.go⟩

def inB (lo n hi:Int):Bool:=BQ (lo<=n)&&BQ (n<=hi)

theorem A0s (n lo hi:Int) (w:AD):BL prog 65 #[RH K n,RH K lo,RH K hi] w (A0b w (J (inB lo n hi))):=by
 rcases FH n lo with h|h;·have b:=A_ (by unfold inB;simp;omega:AH=inB lo n hi);have u:¬ (lo<=n):=oS;go_enter func65,ntmps65;go_wp2;go_ret;exact⟨Q_ b,Below.go⟩
 have b:=A_ (by unfold inB;simp[h]:BQ (n<=hi)=inB lo n hi);go_enter func65,ntmps65;go_wp2;go_ret;exact⟨Q_ b,Below.go⟩

theorem A7y (v:AU) (x:TRat) (b:List Nat) (w:AD) (T:Agg w v x b) (u:XN.Can x.1.2) (E:NegOk x.1) :
  BL prog 44 #[v] w (A0b w (RH K (A2v x))):=by
 obtain⟨X,n1,Z,ac,Y,n2,aa,ad,rfl,rfl,O,W⟩:=CF T;have G:=A_ O.1;clear O W T;rcases IG n1 with H|H;·subst H;have h:=A_ (E3f (a:=A0q x.1) (by have:=IV G;unfold A0q;rw[this];simp[val]));clear u E;go_enter func44,ntmps44;go_wp2;go_ret;exact⟨A1x h.symm,Below.go⟩
 have ab:((n1:Int)==0)=AH:=oR;cases D:x.1.1
 ·have h:=A_ (B5h (a:=A0q x.1) (by
   have:=u.pos (by intro e;have:=G.o;rw[e]at this;simp at this;omega)
   unfold A0q;rw[if_neg (by simp[D])];exact this))
  clear u E D
  go_enter func44,ntmps44
  go_wp2
  go_ret
  exact⟨A1x h.symm,Below.go⟩
 ·have h:=A_ (C7z (E.lt u D));clear u E D;go_enter func44,ntmps44;go_wp2;go_ret;exact⟨A1x h.symm,Below.go⟩

def A2a (x:TRat):Bool:=BQ (x.1.2.length<=1)&&BQ (x.2.length=1)

theorem A1g (v:AU) (x:TRat) (b:List Nat) (w:AD) (H:Agg w v x b) :
  BL prog 86 #[v] w (A0b w (J (A2a x))):=by
 obtain⟨W,n1,Y,aa,X,n2,Z,ab,rfl,rfl,E,G⟩:=CF H;have u:=A_ E.1;have O:=A_ G.1;clear E G H;rcases CG 1 n1 with D|D;·have h:=A_ (by unfold A2a;rw[u.o];simp;omega:AH=A2a x);have T:¬ ((n1:Int)<=1):=oS;go_enter func86,ntmps86;go_wp2;go_ret;exact⟨Q_ h,Below.go⟩
 have h:=A_ (show((n2:Int)==1)=A2a x by unfold A2a;rw[u.o,O.o,decide_eq_true D,PG,Bool.eq_iff_iff];simp;omega);have T:(n1:Int)<=1:=oS;go_enter func86,ntmps86;go_wp2;go_ret;exact⟨Q_ h,Below.go⟩

def E0u (w:AD) (a b:Int) (e:Ending) (w':AD):Prop:=e=.returned (.tuple #[RH K a,RH K b])/\Bw w w'

theorem E2j {x:TRat} {d:Int} (h:x.2=[d]):T_ x=d:=by unfold T_;rw[h];simp[val]
theorem D7l {x:TRat} (h:x.1.2=[]):R_ x=0:=by unfold R_ A0q;rw[h];simp[val]
theorem D7g {x:TRat} {a:Int} (h:x.1.2=[a]):R_ x=if x.1.1 then -a else a:=by unfold R_ A0q;rw[h];simp[val]

theorem A3c (v:AU) (x:TRat) (b:List Nat) (w:AD) (Z:Agg w v x b) (O:A2a x=AF) (X:Lims x.1.2) (Y:NegOk x.1) :
  BL prog 87 #[v] w (E0u w (R_ x) (T_ x)):=by
 obtain⟨am,n1,ar,aE,an,n2,au,aF,rfl,rfl,D,E⟩:=CF Z;have af:=A_ D.1;have ao:=A_ E.1;unfold A2a at O;rw[D.1,E.1]at O;simp only[DJ,decide_eq_true_eq]at O;obtain⟨ac,rfl⟩:=O;obtain⟨ap,aC,d,rfl,ay,T,aA,ai⟩:=DL E (by decide:0<1);have aa:=A_ (E2j (x:=x) (d:=d) (by
  match x.2,E.1,T with
  | [y],_,h=>simp at h;rw[h]))
 simp only[Nat.add_zero]at ai;rcases IG n1 with ab|ab
 ·subst ab
  have u:x.1.2=[]:=IV af;have H:=A_ (D7l (x:=x) u);have ae:x.1.1=AH:=by
   cases h:x.1.1;·rfl
   exact absurd u (Y h)
  clear D E Z T X Y u ac;go_enter func87,ntmps87;go_wp2_with fail;refine A0g ?_;iterate 7 refine C_ _ ?_
  intro ak al wa ag G (W:Hid _);simp at G;go_simp;clear G W;go_wp2;go_ret2;refine⟨?_,Below.go⟩;rw[H.o,aa.o];rfl
 obtain rfl:n1=1:=oS;obtain⟨aq,aD,a,rfl,az,ad,aB,aj⟩:=DL D (by decide:0<1);have u:x.1.2=[a]:=by
  match x.1.2,D.1,ad with
  | [y],_,h=>simp at h;rw[h]
 have H:=A_ (D7g (x:=x) (a:=a) u);have ah:=X a (by rw[u];simp);obtain⟨aw,ax⟩:=ah;simp only[Nat.add_zero]at aj;cases ae:x.1.1
 all_goals
  rw[ae]at H;clear D E Z T X Y u ac ad;go_enter func87,ntmps87;go_wp2_with fail;refine A0g ?_;iterate 7 refine C_ _ ?_
  intro ak al wa ag G (W:Hid _);simp at G;go_simp;clear G W;go_wp2;go_ret2;refine⟨?_,Below.go⟩;rw[H.o,aa.o];rfl

def B9x (w:AD) (b:Bool) (e:Ending) (w':AD):Prop:=∃ r:Int,e=.returned (RH K r)/\BQ (0<=r)=b/\Bw w w'

def A9a (x:Int):Bool:=!inB 0 x 999999999

theorem B9d (x:Int) (w:AD):BL prog 170 #[RH K x] w (A0b w (J (A9a x))):=by
 go_enter func170,ntmps170;go_wp2_with fail;refine(A0s x 0 999999999 w).mono ?_;rintro _ h ⟨rfl,b⟩;go_wp2;go_ret;exact⟨rfl,b⟩

theorem D1e {α:Type} {xs:List α} {p:α->Bool} {k:Nat} {x:α} (h:xs[k]?=QZ x) (hp:p x=AF):xs.any p=AF :=
 List.any_eq_true.2 ⟨x,DH h,hp⟩
theorem B6c {α:Type} {xs:List α} {p:α->Bool} {k:Nat} {x:α} (h:xs[k]?=QZ x) (b:(xs.take k).any p=AH) (u:p x=AH):(xs.take (k+1)).any p=AH:=by
 rw[take_step h,List.any_append,b];simp[u]

def A4f (f:Nat):Prop:=∀ (a:Array AU) (w:AD),Sem.run prog (callFunc f a) w=.ok (.enter f a) w
theorem B7l:A4f 170:=λa w=>kR

theorem _root_.gN {p:Prop} (h:p:=by go_num):p:=h
theorem D6s (f:Nat) (ad:A4f f) (A:Option AJ) (n c:Nat) (xs:List Int) (bs:List Nat) (w:AD) (p:Int->Bool) (b:Sl w A n c xs bs)
  (X:∀ (x:Int) (w:AD),BL prog f #[RH K x] w (A0b w (J (p x)))) :
  BL prog 157 #[QX A n c,.func (.func f) #[] #[]] w (B9x w (xs.any p)):=by
 have Z:=A_ b.1;have ab:=A_ b;have aa:=A_ X;unfold A4f at ad;have af:n<=BS:=CJ b.2.1 b.2.2.1;unfold BS at af;clear b X;go_enter func157,ntmps157;go_wp2_with fail;go_loopg [8] n (λg s8 wr=>∃ k:Nat,k+g=n/\s8=RH K k/\Hid ((xs.take k).any p=AH)/\Bw w wr);case atStart=>exact⟨0,oS,rfl,by show(xs.take 0).any p=AH;simp,Below.refl _ _⟩
 case round =>
  obtain⟨k,T,rfl,H,D⟩:=hrel;rcases CG k n with h|h
  ·obtain⟨ag,al,x,rfl,ai,Y,ah,aj⟩:=DL (BN ab D) h
   have G:=A_ Y;have ae:(k:Int)<n:=oS;obtain⟨g,rfl⟩:∃ g,gk=g+1:=⟨gk - 1,oS⟩
   have W:=A_ (by omega:k+1+g=n);clear Y T h;have ak:k+1<=n:=by have:=W.o;omega
   go_wp2_with fail;refine(aa x wr).mono ?_;rintro _ am ⟨rfl,ac⟩;have O:=BH D ac;cases u:p x
   ·have E:=A_ (B6c G H u)
    clear u;go_wp2_with fail;go_roundg g;case measure=>omega
    case rel=>exact⟨k+1,W,gN,E,O⟩
   have E:=A_ (D1e G u);clear u;go_wp2;go_ret;exact⟨k,rfl,by rw[E.o];simp,O⟩
  have e:=A_ (show xs.any p=AH by have:=H.o;rwa [DT (by rw[Z.o];omega)]at this);have ae:¬ ((k:Int)<n):=oS;clear T h;go_wp2;go_ret;exact⟨-1,rfl,by rw[e.o];rfl,D⟩

theorem B7a (f:Nat) (b:A4f f) (A:Option AJ) (n c:Nat) (xs:List Int) (bs:List Nat) (w:AD) (p:Int->Bool) (u:Sl w A n c xs bs)
  (h:∀ (x:Int) (w:AD),BL prog f #[RH K x] w (A0b w (J (p x)))) :
  BL prog 94 #[QX A n c,.func (.func f) #[] #[]] w (A0b w (J (xs.any p))):=by
 have H:=A_ u;have G:=A_ h;have E:=A_ b;clear u h b;go_enter func94,ntmps94;go_wp2_with fail;refine(D6s f E A n c xs bs _ p (BN H Below.go) G).mono ?_;rintro _ T ⟨r,rfl,e,O⟩;have D:=A_ e;clear e;go_wp2;go_ret;exact⟨Q_ D,O⟩

theorem A5a (xs:List Int):A3m xs=(BQ (xs.length<=60)&&(BQ (xs.getLast?≠QZ 0)&&!xs.any A9a)):=by
 unfold A3m;rw[Bool.and_comm (xs.all _)];congr 1;congr 1;rw[List.not_any_eq_all_not];congr 1;funext x;unfold A9a inB;rw[Bool.not_not,Bool.eq_iff_iff];simp;omega

theorem A4l (A:Option AJ) (n c:Nat) (xs:List Int) (bs:List Nat) (w:AD) (b:Sl w A n c xs bs) :
  BL prog 109 #[QX A n c] w (A0b w (J (A3m xs))):=by
 have u:=A_ b.1;have G:=A_ b;have Y:n<=BS:=CJ b.2.1 b.2.2.1;unfold BS at Y;rcases CG 60 n with O|O
 ·have e:=A_ (by rw[A5a,u.o];simp;omega:AH=A3m xs);have W:¬ ((n:Int)<=60):=oS;clear b;go_enter func109,ntmps109;go_wp2;go_ret;exact⟨Q_ e,Below.go⟩
 have W:(n:Int)<=60:=oS;rcases IG n with H|H
 ·subst H;have e:=A_ (by rw[A5a,IV u.o];rfl:(!xs.any A9a)=A3m xs);clear b;go_enter func109,ntmps109;go_wp2_with fail;refine(B7a 170 B7l A 0 c xs bs _ A9a (BN G Below.go) B9d).mono ?_;rintro _ Z ⟨rfl,D⟩;go_wp2;go_ret;exact⟨Q_ e,D⟩
 obtain⟨k,rfl⟩:∃ k,n=k+1:=⟨n - 1,oS⟩
 obtain⟨aa,af,x,rfl,ac,E,ab,ad⟩:=DL b (by omega:k<k+1);have T:=A_ (by rw[List.getLast?_eq_getElem?,u.o];exact E:xs.getLast?=QZ x);have ae:((k:Int)+1==0)=AH:=oR;by_cases h:x=0
 ·have e:=A_ (by rw[A5a,T.o,h];simp:AH=A3m xs)
  have X:(x != 0)=AH:=by simp[h]
  clear b E h;go_enter func109,ntmps109;go_wp2;go_ret;exact⟨Q_ e,Below.go⟩
 have e:=A_ (by rw[A5a,T.o,u.o,decide_eq_true O];simp[h]:(!xs.any A9a)=A3m xs);have X:(x != 0)=AF:=by simp[h]
 clear b E h;go_enter func109,ntmps109;go_wp2_with fail;refine(B7a 170 B7l _ (k+1) c xs bs _ A9a (BN G Below.go) B9d).mono ?_;rintro _ Z ⟨rfl,D⟩;go_wp2;go_ret;exact⟨Q_ e,D⟩

theorem A1o (v:AU) (x:TBigInt) (bs:List Nat) (w:AD) (aa:Agg w v x bs) :
  BL prog 108 #[v] w (A0b w (J (A2j x))):=by
 obtain⟨h,n1,D,ac,rfl,rfl,Z⟩:=FZ aa;have G:=A_ Z;clear Z aa;have u:=A_ (show A2j x=(A3m x.mag&&(!x.neg || BQ (0<n1))) by unfold A2j;congr 1;congr 1;rw[<-G.o.1];cases x.mag<;>simp);cases H:A3m x.mag;·go_enter func108,ntmps108;go_wp2_with fail;have C:=A4l h n1 D x.mag bs (w.alloc (BG #[J x.neg,QX h n1 D] 37)) (BN G Below.go);rw[H]at C;refine C.mono ?_;clear C;rintro _ E ⟨rfl,b⟩;obtain⟨W,X⟩:=F_ b;have ab:w.1.size<E.1.size:=ltg b;go_wp2;go_ret;exact⟨Q_ (by rw[u.o,H];rfl),Below.go⟩
 have T:=A_ H;clear H;rw[T.o,PG]at u;cases Y:x.neg;·have O:=A_ (by rw[u.o,Y];rfl:AF=A2j x);clear u;go_enter func108,ntmps108;go_wp2_with fail;have C:=A4l h n1 D x.mag bs (w.alloc (BG #[J AH,QX h n1 D] 37)) (BN G Below.go);rw[T.o]at C;refine C.mono ?_;clear C;rintro _ E ⟨rfl,b⟩;obtain⟨W,X⟩:=F_ b;have ab:w.1.size<E.1.size:=ltg b;go_wp2;go_ret;exact⟨Q_ O,Below.go⟩
 have O:=A_ (by rw[u.o,Y];rfl:BQ (0<n1)=A2j x);clear u;go_enter func108,ntmps108;go_wp2_with fail;have C:=A4l h n1 D x.mag bs (w.alloc (BG #[J AF,QX h n1 D] 37)) (BN G Below.go);rw[T.o]at C;refine C.mono ?_;clear C;rintro _ E ⟨rfl,b⟩;obtain⟨W,X⟩:=F_ b;have ab:w.1.size<E.1.size:=ltg b;go_wp2;go_ret;exact⟨Q_ O,Below.go⟩

theorem D9s {N:Nat}:(dig N=[1])↔N=1:=by
 constructor;·intro h;have:=A1j N;rw[h]at this;simp[val]at this;omega
 rintro rfl;rfl
theorem B5k {x:TRat} {b1 b2:Bool} {n1 n2:Nat} (b:A2j x.1=b1) (h:A3m x.2=b2) (l1:x.1.2.length=n1) (l2:x.2.length=n2) :
  J_ x=(b1&&(b2&&(BQ (0<n2)&&(BQ (n1<=24)&&(BQ (n2<=24)&&BQ (CQ (val x.1.2) (val x.2)=1)))))):=by
 unfold J_;rw[b,h,l1,l2];congr 2;congr 1;rw[<-l2];cases x.2<;>simp
theorem E6w (x:TRat):CQ (R_ x) (T_ x)=CQ (val x.1.2) (val x.2):=by
 unfold R_ T_ A0q;split<;>simp
theorem C5o {x:TRat} (h:XN.Can x.2) (b:x.2.length=1):0<=T_ x/\T_ x<1000000000:=by
 unfold T_;have:=A4j h.1;have:=S_ h.1;rw[b,pw_vals.1]at *;omega
theorem C5m {x:TRat} (h:Lims x.1.2) (u:x.1.2.length<=1):-1000000000<R_ x/\R_ x<1000000000:=by
 have D:=A4j h;have E:=S_ h;have b:=A6t u;rw[pw_vals.1]at b;unfold R_ A0q;split<;>omega
theorem A4h {x:TBigInt} (h:A2j x=AF):NegOk x:=(bigOkB_iff.1 h).2

theorem A7s (v:AU) (x:TRat) (b:List Nat) (w:AD) (aA:Agg w v x b) :
  BL prog 43 #[v] w (A0b w (J (J_ x))):=by
 have ap:=A_ aA;obtain⟨Y,n1,aa,ad,E,n2,H,ai,rfl,rfl,aM,aN⟩:=CF aA;have W:=A_ aM;have X:=A_ aN;clear aM aN aA;cases h:A2j x.1;·have G:=A_ (by rw[B5k h rfl rfl rfl];rfl:AH=J_ x);have T:=A_ h;clear h;go_enter func43,ntmps43;go_wp2_with fail;have C:=A1o _ x.1 ad (w.alloc (BG #[J x.1.1,QX Y n1 aa,QX E n2 H] 39)) (FV (BN W Below.go));rw[T.o]at C;refine C.mono ?_;clear C;rintro _ D ⟨rfl,h⟩;obtain⟨ae,af⟩:=F_ h;have ag:w.1.size<D.1.size:=ltg h;go_wp2;go_ret;exact⟨Q_ (G),Below.go⟩
 have T:=A_ h;cases u:A3m x.2;·have G:=A_ (by rw[B5k h u rfl rfl];rfl:AH=J_ x);have Z:=A_ u;clear h u;go_enter func43,ntmps43;go_wp2_with fail;have C:=A1o _ x.1 ad (w.alloc (BG #[J x.1.1,QX Y n1 aa,QX E n2 H] 39)) (FV (BN W Below.go));rw[T.o]at C;refine C.mono ?_;clear C;rintro _ D ⟨rfl,h⟩;obtain⟨ae,af⟩:=F_ h;have ag:w.1.size<D.1.size:=ltg h;go_wp2_with fail;have C:=A4l E n2 H x.2 ai D (BN X Below.go);rw[Z.o]at C;refine C.mono ?_;clear C;rintro _ O ⟨rfl,u⟩;obtain⟨am,an⟩:=F_ u;have ao:w.1.size<O.1.size:=ltg u;go_wp2;go_ret;exact⟨Q_ (G),Below.go⟩
 have Z:=A_ u;have S:=A_ (B5k h u W.1 X.1);rw[PG,PG]at S;clear h u;rcases IG n2 with ab|ab
 ·have G:=A_ (by rw[S.o,ab];rfl:AH=J_ x)
  have a3:((n2:Int)==0)=AF:=by simp[ab]
  clear ab;go_enter func43,ntmps43;go_wp2_with fail;have C:=A1o _ x.1 ad (w.alloc (BG #[J x.1.1,QX Y n1 aa,QX E n2 H] 39)) (FV (BN W Below.go));rw[T.o]at C;refine C.mono ?_;clear C;rintro _ D ⟨rfl,h⟩;obtain⟨ae,af⟩:=F_ h;have ag:w.1.size<D.1.size:=ltg h;go_wp2_with fail;have C:=A4l E n2 H x.2 ai D (BN X Below.go);rw[Z.o]at C;refine C.mono ?_;clear C;rintro _ O ⟨rfl,u⟩;obtain⟨am,an⟩:=F_ u;have ao:w.1.size<O.1.size:=ltg u;go_wp2;go_ret;exact⟨Q_ (G),Below.go⟩
 have a3:((n2:Int)==0)=AH:=oR;rcases CG 24 n1 with aq|aq
 ·have G:=A_ (by rw[S.o];simp;omega:AH=J_ x);have a4:(24:Int)<n1:=oS;clear ab aq;go_enter func43,ntmps43;go_wp2_with fail;have C:=A1o _ x.1 ad (w.alloc (BG #[J x.1.1,QX Y n1 aa,QX E n2 H] 39)) (FV (BN W Below.go));rw[T.o]at C;refine C.mono ?_;clear C;rintro _ D ⟨rfl,h⟩;obtain⟨ae,af⟩:=F_ h;have ag:w.1.size<D.1.size:=ltg h;go_wp2_with fail;have C:=A4l E n2 H x.2 ai D (BN X Below.go);rw[Z.o]at C;refine C.mono ?_;clear C;rintro _ O ⟨rfl,u⟩;obtain⟨am,an⟩:=F_ u;have ao:w.1.size<O.1.size:=ltg u;go_wp2;go_ret;exact⟨Q_ (G),Below.go⟩
 have a4:¬ ((24:Int)<n1):=oS;rcases CG 24 n2 with ax|ax
 ·have G:=A_ (by rw[S.o];simp;omega:AH=J_ x);have a5:(24:Int)<n2:=oS;clear ab aq ax;go_enter func43,ntmps43;go_wp2_with fail;have C:=A1o _ x.1 ad (w.alloc (BG #[J x.1.1,QX Y n1 aa,QX E n2 H] 39)) (FV (BN W Below.go));rw[T.o]at C;refine C.mono ?_;clear C;rintro _ D ⟨rfl,h⟩;obtain⟨ae,af⟩:=F_ h;have ag:w.1.size<D.1.size:=ltg h;go_wp2_with fail;have C:=A4l E n2 H x.2 ai D (BN X Below.go);rw[Z.o]at C;refine C.mono ?_;clear C;rintro _ O ⟨rfl,u⟩;obtain⟨am,an⟩:=F_ u;have ao:w.1.size<O.1.size:=ltg u;go_wp2;go_ret;exact⟨Q_ (G),Below.go⟩
 have a5:¬ ((24:Int)<n2):=oS;have aE:=A_ (by rw[S.o,decide_eq_true ab,decide_eq_true aq,decide_eq_true ax];rfl:J_ x=BQ (CQ (val x.1.2) (val x.2)=1));have aw:=A_ (bigOkB_iff.1 T).1.2;have ay:=A_ (natOkB_iff.1 Z).2;have aD:=A_ (A4h T);have aX:n1<=65536:=oS;have aY:n2<=65536:=oS;clear S aq ax;cases ar:A2a x;·have ak:=A_ ar;clear ar ab;have G:=A_ (by rw[aE.o];simp only[D9s]:BQ (dig (CQ (val x.1.2) (val x.2))=[1])=J_ x);go_enter func43,ntmps43;go_wp2_with fail;have C:=A1o _ x.1 ad (w.alloc (BG #[J x.1.1,QX Y n1 aa,QX E n2 H] 39)) (FV (BN W Below.go));rw[T.o]at C;refine C.mono ?_;clear C;rintro _ D ⟨rfl,h⟩;obtain⟨ae,af⟩:=F_ h;have ag:w.1.size<D.1.size:=ltg h;go_wp2_with fail;have C:=A4l E n2 H x.2 ai D (BN X Below.go);rw[Z.o]at C;refine C.mono ?_;clear C;rintro _ O ⟨rfl,u⟩;obtain⟨am,an⟩:=F_ u;have ao:w.1.size<O.1.size:=ltg u;go_wp2_with fail;have C:=A1g _ x _ O (IE ap Below.go);rw[ak.o]at C;refine C.mono ?_;clear C;rintro _ w3 ⟨rfl,ac⟩;obtain⟨aH,aJ⟩:=F_ ac;have aP:w.1.size<w3.1.size:=ltg ac;go_wp2_with fail;refine(C1y Y E n1 n2 aa H x.1.2 x.2 _ _ _ (BN W Below.go) (BN X Below.go) aw ay aX aY).mono ?_;rintro _ aj ⟨a9,rfl,aL,al⟩;obtain⟨aR,aT,a2,rfl,aO,_⟩:=D2g aL (A0j _).1.i64;have aS:=A_ aO;clear aL aO;go_wp2_with fail;refine(B1f aR _ aT _ a2 aj aS).mono ?_;rintro _ aQ ⟨rfl,aG⟩;go_wp2;go_ret;exact⟨Q_ (G),Below.go⟩
 have ak:=A_ ar;have au:=ar;unfold A2a at au;simp only[DJ,decide_eq_true_eq]at au;have a8:=C5o ay au.2;have m1:=C5m aw.1 au.1;have a7:0<T_ x:=ay.pos (by intro e;have:=X.1;rw[e]at this;simp at this;omega);have G:=A_ (by rw[aE.o,E6w];rw[Bool.eq_iff_iff];simp;omega:((CQ (R_ x) (T_ x):Int)==1)=J_ x);clear ar ab au;have a6:=A_ (show R_ x=R_ x from rfl);generalize aK:R_ x=ah at *;generalize aI:T_ x=aF at *;have aC:=A_ aK;have aB:=A_ aI;clear aK aI;rcases FH ah 0 with aZ|aZ
 ·have aW:ah<=-ah:=oS;have az:=G;clear G;go_enter func43,ntmps43;go_wp2_with fail;have C:=A1o _ x.1 ad (w.alloc (BG #[J x.1.1,QX Y n1 aa,QX E n2 H] 39)) (FV (BN W Below.go));rw[T.o]at C;refine C.mono ?_;clear C;rintro _ D ⟨rfl,h⟩;obtain⟨ae,af⟩:=F_ h;have ag:w.1.size<D.1.size:=ltg h;go_wp2_with fail;have C:=A4l E n2 H x.2 ai D (BN X Below.go);rw[Z.o]at C;refine C.mono ?_;clear C;rintro _ O ⟨rfl,u⟩;obtain⟨am,an⟩:=F_ u;have ao:w.1.size<O.1.size:=ltg u;go_wp2_with fail;have C:=A1g _ x _ O (IE ap Below.go);rw[ak.o]at C;refine C.mono ?_;clear C;rintro _ w3 ⟨rfl,ac⟩;obtain⟨aH,aJ⟩:=F_ ac;have aP:w.1.size<w3.1.size:=ltg ac;go_wp2_with fail;have C:=A3c _ x _ w3 (IE ap Below.go) ak aw.1 aD;rw[aC.o,aB.o]at C;refine C.mono ?_;clear C;rintro _ aj ⟨rfl,al⟩;obtain⟨aU,aV⟩:=F_ al;have a1:w.1.size<aj.1.size:=ltg al;go_wp2_with fail;refine(B2z (-ah) aF aj oS oS oS oS).mono ?_;rintro _ aQ ⟨rfl,aG⟩;go_wp2;go_ret;exact⟨Q_ (az),Below.go⟩
 have aW:-ah<=ah:=oS;have az:=G;clear G;go_enter func43,ntmps43;go_wp2_with fail;have C:=A1o _ x.1 ad (w.alloc (BG #[J x.1.1,QX Y n1 aa,QX E n2 H] 39)) (FV (BN W Below.go));rw[T.o]at C;refine C.mono ?_;clear C;rintro _ D ⟨rfl,h⟩;obtain⟨ae,af⟩:=F_ h;have ag:w.1.size<D.1.size:=ltg h;go_wp2_with fail;have C:=A4l E n2 H x.2 ai D (BN X Below.go);rw[Z.o]at C;refine C.mono ?_;clear C;rintro _ O ⟨rfl,u⟩;obtain⟨am,an⟩:=F_ u;have ao:w.1.size<O.1.size:=ltg u;go_wp2_with fail;have C:=A1g _ x _ O (IE ap Below.go);rw[ak.o]at C;refine C.mono ?_;clear C;rintro _ w3 ⟨rfl,ac⟩;obtain⟨aH,aJ⟩:=F_ ac;have aP:w.1.size<w3.1.size:=ltg ac;go_wp2_with fail;have C:=A3c _ x _ w3 (IE ap Below.go) ak aw.1 aD;rw[aC.o,aB.o]at C;refine C.mono ?_;clear C;rintro _ aj ⟨rfl,al⟩;obtain⟨aU,aV⟩:=F_ al;have a1:w.1.size<aj.1.size:=ltg al;go_wp2_with fail;refine(B2z ah aF aj oS oS oS oS).mono ?_;rintro _ aQ ⟨rfl,aG⟩;go_wp2;go_ret;exact⟨Q_ (az),Below.go⟩

theorem D8c (f:Nat) (af:A4f f) (A:Option AJ) (n c:Nat) (xs:List TRat) (bs:List Nat) (w:AD) (p:TRat->Bool) (u:Sl w A n c xs bs)
  (Y:∀ (v:AU) (x:TRat) (b:List Nat) (w:AD),x∈xs->Agg w v x b->BL prog f #[v] w (A0b w (J (p x)))) :
  BL prog 144 #[QX A n c,.func (.func f) #[] #[]] w (B9x w (xs.any p)):=by
 have ab:=A_ u.1;have ad:=A_ u;have ac:=A_ Y;unfold A4f at af;have ai:n<=BS:=CJ u.2.1 u.2.2.1;unfold BS at ai;clear u Y;go_enter func144,ntmps144;go_wp2_with fail;go_loopg [8] n (λg s8 wr=>∃ k:Nat,k+g=n/\s8=RH K k/\Hid ((xs.take k).any p=AH)/\Bw w wr);case atStart=>exact⟨0,oS,rfl,by show(xs.take 0).any p=AH;simp,Below.refl _ _⟩
 case round =>
  obtain⟨k,X,rfl,O,G⟩:=hrel;rcases CG k n with h|h
  ·obtain⟨al,aw,x,aj,m1,am,ax,ak,m2,an,ay,rfl,ar,Z,ao,ap,aq,T⟩:=TRat.elemA (BN ad G) h
   have E:=A_ Z;have aa:=A_ T;have ah:(k:Int)<n:=oS;obtain⟨g,rfl⟩:∃ g,gk=g+1:=⟨gk - 1,oS⟩
   have ag:=A_ (by omega:k+1+g=n);have au:k+1<=n:=h;clear Z X h T;go_wp2_with fail;refine(ac _ x _ wr (DH E) aa).mono ?_;rintro _ az ⟨rfl,ae⟩;have W:=BH G ae;cases D:p x
   ·have H:=A_ (B6c E O D)
    clear D;go_wp2_with fail;go_roundg g;case measure=>omega
    case rel=>exact⟨k+1,ag,gN,H,W⟩
   have H:=A_ (D1e E D);clear D;go_wp2;go_ret;exact⟨k,rfl,by rw[H.o];simp,W⟩
  have e:=A_ (show xs.any p=AH by have:=O.o;rwa [DT (by rw[ab.o];omega)]at this);have ah:¬ ((k:Int)<n):=oS;clear X h;go_wp2;go_ret;exact⟨-1,rfl,by rw[e.o];rfl,G⟩

theorem A7e (f:Nat) (h:A4f f) (A:Option AJ) (n c:Nat) (xs:List TRat) (bs:List Nat) (w:AD) (p:TRat->Bool) (D:Sl w A n c xs bs)
  (u:∀ (v:AU) (x:TRat) (b:List Nat) (w:AD),x∈xs->Agg w v x b->BL prog f #[v] w (A0b w (J (p x)))) :
  BL prog 77 #[QX A n c,.func (.func f) #[] #[]] w (A0b w (J (xs.any p))):=by
 have O:=A_ D;have H:=A_ u;have G:=A_ h;clear D u h;go_enter func77,ntmps77;go_wp2_with fail;refine(D8c f G A n c xs bs _ p (BN O Below.go) H).mono ?_;rintro _ W ⟨r,rfl,e,T⟩;have E:=A_ e;clear e;go_wp2;go_ret;exact⟨Q_ E,T⟩

theorem C3i:A4f 85:=λa w=>kR
def D2n (x:TRat):Bool:=!J_ x
theorem C7u (v:AU) (x:TRat) (b:List Nat) (w:AD) (h:Agg w v x b):BL prog 85 #[v] w (A0b w (J (D2n x))):=by
 have u:=A_ h;obtain⟨G,n1,O,X,H,n2,T,Y,rfl,rfl,D,E⟩:=CF h;clear D E h;go_enter func85,ntmps85;go_wp2_with fail;refine(A7s _ x _ _ (IE u Below.go)).mono ?_;rintro _ Z ⟨rfl,W⟩;go_wp2;go_ret;exact⟨rfl,Below.go⟩

theorem A1r (A:Option AJ) (n c:Nat) (xs:List TRat) (bs:List Nat) (w:AD) (b:Sl w A n c xs bs) :
  BL prog 31 #[QX A n c] w (A0b w (J (xs.all J_))):=by
 have u:=A_ b;have h:=A_ (by rw[List.not_any_eq_all_not];congr 1;funext x;unfold D2n;rw[Bool.not_not]:(!xs.any D2n)=xs.all J_);clear b;go_enter func31,ntmps31;go_wp2_with fail;refine(A7e 85 C3i A n c xs bs _ D2n (BN u Below.go) (λv x D w _ E=>C7u v x D w E)).mono ?_;rintro _ H ⟨rfl,G⟩;go_wp2;go_ret;exact⟨Q_ h,Below.go⟩

theorem A5o {a D:Int} (hD:0<D):0<CQ a D:=Int.gcd_pos_of_ne_zero_right a oS
theorem E7a {x:TBigInt} {h:Int} (D:XN.Can x.mag) (H:NegOk x) (E:0<h) :
  A0f (A0q x / (CQ (val x.mag) h:Nat))=⟨x.neg,dig (val x.mag / (CQ (val x.mag) h:Nat)).toNat⟩:=by
 have W:=A5o (a:=val x.mag) E;obtain⟨q,u⟩:=Int.gcd_dvd_left (val x.mag) h;generalize CQ (val x.mag) h=g at *;have T:=S_ D.1;have G:(0:Int)<g:=oS;have Y:0<=q:=by
  rcases FH q 0 with b|b;·have:=Int.mul_neg_of_pos_of_neg G b;omega
  exact b
 unfold A0q;cases O:x.neg;·rw[if_neg sI,u,QH _ oS];unfold A0f;rw[show q.natAbs=q.toNat by omega];congr 1;simp;omega
 have X:=D.pos (H O);have Z:0<q:=by
  rcases FH 0 q with b|b;·exact b
  have:q=0:=oS;rw[this]at u;omega
 rw[if_pos rfl,u,show -((g:Int)*q)=g * -q by rw[Int.mul_neg],QH _ oS,QH _ oS];unfold A0f;rw[show(-q).natAbs=q.toNat by omega];congr 1;simp;omega
theorem E5s (x:TBigInt) (D:Int):CQ (A0q x) D=CQ (val x.mag) D:=by unfold A0q;split<;>simp
theorem D6t {x:TBigInt} {h:Int} (G:XN.Can x.mag) (H:NegOk x) (E:0<h) :
  mkR (A0q x) h=if (dig (val x.mag / (CQ (val x.mag) h:Nat)).toNat).length<=24/\(dig (h / (CQ (val x.mag) h:Nat)).toNat).length<=24 then
   ⟨⟨x.neg,dig (val x.mag / (CQ (val x.mag) h:Nat)).toNat⟩,dig (h / (CQ (val x.mag) h:Nat)).toNat⟩else A0h:=by
 have e:=E7a G H E;unfold mkR;rw[E5s];have u:dig (A0q x / (CQ (val x.mag) h:Nat)).natAbs=dig (val x.mag / (CQ (val x.mag) h:Nat)).toNat:=by have:=congrArg TBigInt.mag e;exact this
 have D:(h / (CQ (val x.mag) h:Nat)).natAbs=(h / (CQ (val x.mag) h:Nat)).toNat:=by have:=Int.ediv_nonneg (a:=h) (b:=(CQ (val x.mag) h:Nat)) oS oS;omega
 rw[u,D,e]
theorem Own.left {w0 w:AD} {a b:List Nat} (h:Own w0 w (a++b)):Own w0 w a:=⟨(List.nodup_append.1 h.1).1,λg hg=>h.2 g (List.mem_append_left _ hg)⟩
theorem B6o (A B:Option AJ) (n m c d:Nat) (xs ys:List Int) (bs ds:List Nat) (w:AD) (hx:Sl w A n c xs bs) (hy:Sl w B m d ys ds) (hcx:XN.Can xs) (hcy:XN.Can ys) (hn:n<=65536) (hm:m<=65536) :
  BL prog 112 #[QX A n c,QX B m d] w (A0w w (dig (CQ (val xs) (val ys)))) :=
 (C1y A B n m c d xs ys bs ds w hx hy hcx hcy hn hm).mono λ_ _ ⟨_,he,ho,hb⟩=>by subst he;exact A2r ho rfl (A0j _).1.i64 hb
theorem E5i (w:AD):Agg w (BJ #[J AH,QX I 0 0,QX I 0 0]) A0h []:=FK (x:=A0h) (Sl.nil w) (Sl.nil w)
theorem A3e {w W:AD} (hb:Bw w W):A0c w A0h (.returned (BJ #[J AH,QX I 0 0,QX I 0 0])) W:=⟨_,[],rfl,E5i W,Own.nil _ _,hb⟩

theorem B4k {w W:AD} {x:TRat} {A1 A2:Option AJ} {n1 c1 n2 c2:Nat} {b1 b2:List Nat} (h1:Sl W A1 n1 c1 x.1.2 b1/\Own w W b1) (h2:Sl W A2 n2 c2 x.2 b2/\Own w W b2) (hd:∀ b∈b1,b∉b2) (hb:Bw w W) :
  A0c w x (.returned (BJ #[J x.1.1,QX A1 n1 c1,QX A2 n2 c2])) W :=
 ⟨_,b1++b2,rfl,FK h1.1 h2.1,Own.append h1.2 h2.2 hd,hb⟩

section
variable {x:TBigInt} {ys:List Int} {v:AU} {B:Option AJ} {m d:Nat} {b1 b2:List Nat} {w:AD}

theorem D7v (X:Agg w v x b1) (G:Sl w B m d ys b2) (O:XN.Can x.mag) (h:XN.Can ys) (hm0:0<m) (lx:x.mag.length<=65536) (aj:m<=65536) (T:CQ (val x.mag) (val ys)=1) (ah:x.mag.length<=24) (ag:m<=24) :
  ∃ A1 n1 c1,v=BJ #[J x.neg,QX A1 n1 c1]/\Sl w A1 n1 c1 x.mag b1/\BL prog 91 #[v,QX B m d] w (A0b w (BJ #[J x.neg,QX A1 n1 c1,QX B m d])):=by
 obtain⟨A1,n1,c1,aB,rfl,rfl,b⟩:=FZ X;refine⟨A1,n1,c1,rfl,b,?_⟩;have ap:=A_ b.1;have ac:=A_ b;have ad:=A_ G;have aa:=A_ O;have ab:=A_ h;have am:=A_ (h.pos (by intro e;rw[<-G.1,e]at hm0;simp at hm0));have ai:n1<=65536:=by have:=b.1;omega
 have af:=A_ (by rw[T];rfl:BQ (dig (CQ (val x.mag) (val ys))=[1])=AF);have aC:¬ ((24:Int)<n1):=by have:=b.1;omega
 have aD:¬ ((24:Int)<m):=oS;clear X G O h b T ah ag hm0 lx;go_enter func91,ntmps91;go_wp2_with fail;refine(B6o A1 B n1 m c1 d x.mag ys _ _ _ (BN ac Below.go) (BN ad Below.go) aa ab ai aj).mono ?_;rintro _ H ⟨Z,ak,c3,al,rfl,E,W,u⟩;have ae:=A_ E;have ao:=A_ W;have an:=A_ E.1;clear E W;obtain⟨aq,au⟩:=F_ u;have ax:w.1.size<H.1.size:=ltg u;have az:w.1.size+1<H.1.size:=ltg u;go_wp2_with fail;have C:=B1f Z ak c3 _ al H ae;rw[af.o]at C;refine C.mono ?_;clear C;rintro _ Y ⟨rfl,D⟩;obtain⟨ar,aw⟩:=F_ D;have ay:w.1.size<Y.1.size:=ltg D;have aA:w.1.size+1<Y.1.size:=ltg D;go_wp2;exact CK (v:=BJ #[J x.neg,QX A1 n1 c1,QX B m d]) (by simp[CO,results91,go_sem, *]) rfl ⟨rfl,Below.go⟩

theorem E0g (ay:Agg w v x b1) (ae:Sl w B m d ys b2) (aj:XN.Can x.mag) (ak:XN.Can ys) (hm0:0<m) (lx:x.mag.length<=65536) (aB:m<=65536) (aC:NegOk x) (al:¬ (CQ (val x.mag) (val ys)=1/\x.mag.length<=24/\m<=24)) :
  BL prog 91 #[v,QX B m d] w (A0c w (mkR (A0q x) (val ys))):=by
 obtain⟨af,n1,ai,bp,rfl,rfl,ab⟩:=FZ ay;have bg:=A_ ab.1;have am:=A_ ab;have an:=A_ ae;have ag:=A_ aj;have ah:=A_ ak;have aL:=A_ (ak.pos (by intro e;rw[<-ae.1,e]at hm0;simp at hm0));have ax:n1<=65536:=by have:=ab.1;omega
 have ad:=A_ (D6t aj aC aL);have a6:=A_ (A5o (a:=val x.mag) aL);have a7:=A_ (show m=ys.length from ae.1.symm);by_cases T:CQ (val x.mag) (val ys)=1
 ·have H:=A_ (show mkR (A0q x) (val ys)=A0h by
   rw[ad.o,T,if_neg]
   rw[Int.natCast_one,PH,PH,<-ag.o.eq_dig,<-ah.o.eq_dig,<-a7.o]
   intro O;exact al ⟨T,O⟩)
  have ao:=A_ (by rw[T];rfl:BQ (dig (CQ (val x.mag) (val ys))=[1])=AF)
  rw[H.o]
  rcases CG 24 n1 with G|G
  ·have aJ:(24:Int)<n1:=oS
   clear ay ae aj ak aC ab al G hm0 lx T ad;go_enter func91,ntmps91;go_wp2_with fail;refine(B6o af B n1 m ai d x.mag ys _ _ _ (BN am Below.go) (BN an Below.go) ag ah ax aB).mono ?_;rintro _ u ⟨Z,Y,c3,ac,rfl,D,X,h⟩;have aa:=A_ D;have aE:=A_ X;have aD:=A_ D.1;clear D X;obtain⟨au,aU⟩:=F_ h;have az:w.1.size<u.1.size:=ltg h;have a2:w.1.size+1<u.1.size:=ltg h;go_wp2_with fail;have C:=B1f Z Y c3 _ ac u aa;rw[ao.o]at C;refine C.mono ?_;clear C;rintro _ E ⟨rfl,b⟩;obtain⟨aw,aV⟩:=F_ b;have aA:w.1.size<E.1.size:=ltg b;have a3:w.1.size+1<E.1.size:=ltg b;go_wp2;refine CK (v:=BJ #[J AH,QX I 0 0,QX I 0 0]) (by simp[CO,results91,go_sem, *]) rfl ?_;try rw[H.o]
   exact A3e Below.go
  have aJ:¬ ((24:Int)<n1):=oS
  have a4:(24:Int)<m:=by
   rcases CG 24 m with O|O;·omega
   exact absurd ⟨T,by rw[ab.1];exact G,O⟩ al
  clear ay ae aj ak aC ab al G hm0 lx T ad
  go_enter func91,ntmps91
  go_wp2_with fail
  refine(B6o af B n1 m ai d x.mag ys _ _ _ (BN am Below.go) (BN an Below.go) ag ah ax aB).mono ?_
  rintro _ u ⟨Z,Y,c3,ac,rfl,D,X,h⟩
  have aa:=A_ D
  have aE:=A_ X
  have aD:=A_ D.1
  clear D X
  obtain⟨au,aU⟩:=F_ h
  have az:w.1.size<u.1.size:=ltg h
  have a2:w.1.size+1<u.1.size:=ltg h
  go_wp2_with fail
  have C:=B1f Z Y c3 _ ac u aa
  rw[ao.o]at C
  refine C.mono ?_
  clear C
  rintro _ E ⟨rfl,b⟩
  obtain⟨aw,aV⟩:=F_ b
  have aA:w.1.size<E.1.size:=ltg b
  have a3:w.1.size+1<E.1.size:=ltg b
  go_wp2
  refine CK (v:=BJ #[J AH,QX I 0 0,QX I 0 0]) (by simp[CO,results91,go_sem, *]) rfl ?_;try rw[H.o]
  exact A3e Below.go
 ·have ao:=A_ (by simp only[D9s];simpa using T:BQ (dig (CQ (val x.mag) (val ys))=[1])=AH)
  have aK:=A_ (A0j (CQ (val x.mag) (val ys)));have a5:=A_ (A1j (CQ (val x.mag) (val ys)));clear ay ae aj ak aC ab al hm0 lx T;go_enter func91,ntmps91;go_wp2_with fail;refine(B6o af B n1 m ai d x.mag ys _ _ _ (BN am Below.go) (BN an Below.go) ag ah ax aB).mono ?_;rintro _ u ⟨Z,Y,c3,ac,rfl,D,X,h⟩;have aa:=A_ D;have aE:=A_ X;have aD:=A_ D.1;clear D X;obtain⟨au,aU⟩:=F_ h;have az:w.1.size<u.1.size:=ltg h;have a2:w.1.size+1<u.1.size:=ltg h;go_wp2_with fail;have C:=B1f Z Y c3 _ ac u aa;rw[ao.o]at C;refine C.mono ?_;clear C;rintro _ E ⟨rfl,b⟩;obtain⟨aw,aV⟩:=F_ b;have aA:w.1.size<E.1.size:=ltg b;have a3:w.1.size+1<E.1.size:=ltg b;have aW:0<Y:=by
   have O:dig (CQ (val x.mag) (val ys))≠[]:=by rw[Ne,B1x];have:=a6.o;omega
   have:=aD.o;have:=MZ.2 O;omega
  go_wp2_with fail;refine(B5w af Z n1 Y ai c3 x.mag _ _ ac E (BN am Below.go) (BN aa b) ag aK ax aW).mono ?_;rintro _ w3 ⟨Q1,k1,aq,bq,R1,l1,aQ,u1,rfl,aZ,_,aX,ar⟩;have aF:=A_ aZ;have aM:=A_ (Own.left aX);clear aZ aX;obtain⟨aT,bi⟩:=F_ ar;have bl:w.1.size<w3.1.size:=ltg ar;have bn:w.1.size+1<w3.1.size:=ltg ar;have a8:=A_ (fun(W:AD) (ha:Above (w.1.size+2) u W)=>(A7w (w:=w) aa.o aE.o oR sI ha).1);go_wp2_with fail;refine(B5w B Z m Y d c3 ys _ _ ac _ (BN an Below.go) (a8 _ Above.go) ah aK aB aW).mono ?_;rintro _ aI ⟨Q2,k2,ba,br,R2,l2,aR,u2,rfl,a1,_,aY,aH⟩;have aG:=A_ a1;have aN:=A_ (Own.left aY);clear a1 aY;obtain⟨bh,bj⟩:=F_ aH;have bm:w.1.size<aI.1.size:=ltg aH;have bo:w.1.size+1<aI.1.size:=ltg aH;have aS:w3.cell? ⟨w.1.size,1,I⟩=QZ (QX af n1 ai):=by rw[aT _ _ aA,aw _ _ az,au _ _ oR];go_simp
  have bf:=AD.cell?_setCell_same w3 _ (QX Q1 k1 aq) aS;have be:(w3.setCell ⟨w.1.size,1,I⟩ (QX Q1 k1 aq)).cell? ⟨w.1.size,0,I⟩=QZ (J x.neg):=by
   have O:w3.cell? ⟨w.1.size,0,I⟩=QZ (J x.neg):=by rw[aT _ _ aA,aw _ _ az,au _ _ oR];go_simp
   exact(AD.cell?_setCell_other w3 ⟨w.1.size,1,I⟩ ⟨w.1.size,0,I⟩ (QX Q1 k1 aq) sI).trans O
  clear aS;rw[a5.o]at aF aG;have aO:=A_ aF.1;have aP:=A_ aG.1;have bd:w.1.size+2<=E.1.size:=by have:=h.size;have:=b.size;simp at *;omega
  have bk:E.1.size<=w3.1.size:=ar.size;rcases CG 24 k1 with G|G
  ·have H:=A_ (by rw[ad.o,if_neg];rw[aO.o];omega:mkR (A0q x) (val ys)=A0h)
   have aJ:(24:Int)<k1:=oS;clear G;go_wp2;refine CK (v:=BJ #[J AH,QX I 0 0,QX I 0 0]) (by simp[CO,results91,go_sem, *]) rfl ?_;try rw[H.o]
   exact A3e Below.go
  have aJ:¬ ((24:Int)<k1):=oS;rcases CG 24 k2 with ap|ap
  ·have H:=A_ (by rw[ad.o,if_neg];rw[aP.o];omega:mkR (A0q x) (val ys)=A0h)
   have a4:(24:Int)<k2:=oS;clear G ap;go_wp2;refine CK (v:=BJ #[J AH,QX I 0 0,QX I 0 0]) (by simp[CO,results91,go_sem, *]) rfl ?_;try rw[H.o]
   exact A3e Below.go
  have a4:¬ ((24:Int)<k2):=oS;have H:=A_ (by rw[ad.o,if_pos];rw[aO.o,aP.o];exact⟨G,ap⟩:mkR (A0q x) (val ys)=⟨⟨x.neg,dig (val x.mag / (CQ (val x.mag) (val ys):Nat)).toNat⟩,dig (val ys / (CQ (val x.mag) (val ys):Nat)).toNat⟩);clear G ap;go_wp2;refine CK (v:=BJ #[J x.neg,QX Q1 k1 aq,QX Q2 k2 ba]) (by simp[CO,results91,go_sem, *]) rfl ?_;have aQ:=fun(W:AD) (ha:Above (w.1.size+2) w3 W)=>A7w (w:=w) aF.o aM.o oS bd ha;have aR:=fun(W:AD) (ha:Above (w.1.size+2) aI W)=>A7w (w:=w) aG.o aN.o oR oR ha;rw[H.o];refine B4k (x:=⟨⟨x.neg,dig (val x.mag / (CQ (val x.mag) (val ys):Nat)).toNat⟩,dig (val ys / (CQ (val x.mag) (val ys):Nat)).toNat⟩) (aQ _ ?_) (aR _ ?_) (A9o (N:=w3.1.size) aM.lt (λa9 bc=>by have:=(aN.2 a9 bc).1;simp at this;exact this)) ?_;·exact Above.go
  ·exact Above.go
  exact Below.go
end
end
end Go.Proofs.YtjcanieccnljfaaGreat.X
