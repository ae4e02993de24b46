/- A part of the proof. -/
import Derived.Test.YtjcanieccnljfaaGreatY8
import Derived.Test.YtjcanieccnljfaaGreatY9
set_option linter.constructorNameAsVariable false
set_option maxHeartbeats 16000000
set_option maxRecDepth 10000
open Bool renaming false→AH,true→AF,true_and→PG
open Decidable renaming decide→BQ
open Go renaming Addr→AJ,Calls→BL,World→AD,bodyPost_ret→CK,heap_alloc_new→DB,info_parts→FB,results→CO
open Go.IntKind renaming i64→K
open Go.Obj renaming cells→BG
open Go.Value renaming agg→BJ,bool→J,int→RH,slice→QX
open Go.XB.Below renaming box→BP,next→BH
open Go.XB.Sl renaming below→BN
open Go.XB.TBigInt renaming agg→FZ,mkAgg→FV
open Int renaming ediv_one→PH,emod_lt_of_pos→MD,emod_nonneg→MI,gcd→CQ,le_of_lt→JJ,lt_or_le→FH,mul_nonneg→IQ,toNat_of_nonneg→JF
open List renaming dropLast→DN,eq_nil_of_length_eq_zero→IV,getLast→DO,length→DQ,length_pos_iff→MZ
open Nat renaming eq_zero_or_pos→IG,le_refl→CE,le_trans→CJ,lt_or_ge→CG
open Option renaming none→I,some→QZ
namespace Go.Proofs.YtjcanieccnljfaaGreat.X
open Go.RowKit Go.XB Go.XN Proofs.Tryz
attribute [local go_sem] L_ opAt N_ M_ Region.wanted yielded
attribute [local simp] N_ M_ MP.eq MP.agg MP.sl A0r
theorem Own.right_ {w0 w:AD} {a b:List Nat} (h:Own w0 w (a++b)):Own w0 w b:=⟨(List.nodup_append.1 h.1).2.1,λg hg=>h.2 g (List.mem_append_right _ hg)⟩

theorem C3b (A B:Option AJ) (n m c d:Nat) (xs ys:List Int) (bs b:List Nat) (w:AD) (H:Sl w A n c xs bs) (E:Sl w B m d ys b) (aA:XN.Can xs) (aB:XN.Can ys) (ac:n<=65536) (D:m<=65536) :
  BL prog 198 #[QX A n c,QX B m d] w (A0w w (dig (CQ (val xs) (val ys)))):=by
 obtain⟨aS,aC,aP,aQ,aR⟩:=FB A6b;have aY:=A_ H;have aZ:=A_ E;have aX:=A_ aA;have au:=A_ aB;have aE:=A_ (CJ ac (by decide:65536<=1048576));have aD:=A_ (CJ D (by decide:65536<=1048576));clear H E aA aB;go_enter func198,ntmps198
 go_wp2_with (first
  |(at_builtin;(refine A6r rfl _ _ 35 rfl 3 aS underlying35 aC aP aQ aR _ rfl A n c xs bs rfl (BN aY Below.go) aE ?_);intro ag al s1 W aL aG h)
  |(at_builtin;(refine A6r rfl _ _ 35 rfl 3 aS underlying35 aC aP aQ aR _ rfl B m d ys b rfl (BN aZ Below.go) aD ?_);intro Z aa bf bg aN aI O))
 have aw:Bw w W:=Below.go;have ax:Bw w bg:=Below.go;have aM:=A_ (BN (BN aL (show Bw W _ from(Below.refl _ _).alloc (CE _) _)) O);have aH:=A_ (Own.older (Own.below (Own.below aG (show Bw W _ from(Below.refl _ _).alloc (CE _) _)) O) (by simp:w.1.size<=_));have aO:=A_ aN;have aJ:=A_ (Own.older aI (by have:=aw.size;simp;omega:w.1.size<=_));clear aL aG aN aI h O aw;go_loopg [5,6] (val ys).toNat (λg s0 s1 wr=>∃ (A B:Option AJ) (n m c d:Nat) (x y:List Int) (bs b:List Nat),s0=QX A n c/\s1=QX B m d/\Hid (Sl wr A n c x bs)/\Hid (Own w wr bs)/\Hid (Sl wr B m d y b)/\Hid (Own w wr b)/\Hid (XN.Can x)/\Hid (XN.Can y)/\n<=65536/\m<=65536/\Hid (CQ (val x) (val y)=CQ (val xs) (val ys))/\Hid (val y=g)/\Bw w wr);case atStart=>exact⟨ag,Z,n,m,al,aa,xs,ys,s1,bf,rfl,rfl,aM,aH,aO,aJ,aX,au,ac,D,rfl,(JF (S_ au.1)).symm,ax⟩
 case round =>
  obtain⟨A,B,n,m,c,d,x,y,bs,b,rfl,rfl,H,be,E,aT,X,u,ac,D,an,a9,G⟩:=hrel;clear aM aH aO aJ ax aE aD;have af:=A_ (show y.length=m from E.1);have ba:=A_ (show x.length=n from H.1);by_cases hm0:0<m
  ·have ae:=A_ (u.pos (by intro e;have:=af.o;rw[e]at this;simp at this;omega))
   by_cases ap:n<3/\m<3;·have aF:(n:Int)<3:=oS;have bc:(m:Int)<3:=oS;have a1:=A_ (S_ X.1);have a3:=A_ (S_ u.1);have a2:=A_ (show val x<=9223372036854775807 by have am:=A4j X.1;have ab:=A6t (by rw[ba.o];omega:x.length<=2);rw[pw_vals.2.1]at ab;omega);have a4:=A_ (show val y<=9223372036854775807 by have am:=A4j u.1;have ab:=A6t (by rw[af.o];omega:y.length<=2);rw[pw_vals.2.1]at ab;omega);have bd:=A_ (by omega:n<=2);have hm2:=A_ (by omega:m<=2);clear ap;go_wp2_with fail;refine(B7e A n c x bs wr H X bd).mono ?_;rintro _ w3 ⟨rfl,ay⟩;have a5:=BH G ay;go_wp2_with fail;refine(B7e B m d y b w3 (BN E ay) u hm2).mono ?_;rintro _ bh ⟨rfl,a6⟩;have az:=BH a5 a6;go_wp2_with fail;refine(C8g (val x) (val y) bh a1 a3 a2 a4).mono ?_;rintro _ bj ⟨bi,rfl,aK,a7⟩;have a8:=BH az a7;rw[an.o]at aK;go_wp2;go_ret;exact A2r (A8u aK az.size) rfl (A0j _).1.i64 a8
   have rl:=A_ (show(dig (val x % val y).toNat).length<=m from by refine A4r ?_;have am:=MD (val x) ae;have ab:=MI (val x) (by have:=ae.o;omega:val y≠0);have Y:=A4j u.1;rw[af.o]at Y;omega);have aU:=A_ (show CQ (val y) (val (dig (val x % val y).toNat))=CQ (val xs) (val ys) by rw[A1j,JF (MI _ (by have:=ae.o;omega)),B8y];exact an);have aV:=A_ (show val (dig (val x % val y).toNat)=((val x % val y).toNat:Int)from A1j _);have aW:=A_ (show(val x % val y).toNat<gk by have am:=MD (val x) ae;have ab:=a9.o;have Y:=ae.o;omega);have ar:=A_ (A0j (val x % val y).toNat);rcases CG n 3 with Y|Y
   ·have aF:(n:Int)<3:=oS
    have bc:¬ ((m:Int)<3):=oS;clear ap Y;go_wp2_with fail;refine(B1v A B n m c d x y bs b wr H E X u ac hm0 D).mono ?_;rintro _ W ⟨ag,n1,al,b1,Z,n2,aa,b2,rfl,ao,T,ad,h⟩;have ai:=A_ T;have ah:=A_ (Own.older (Own.right_ ad) G.size);have aj:=A_ (BN E h);have ak:=A_ (Own.below aT h);have O:Bw w W:=BH G h;have aq:=A_ (show n2<=65536 from CJ (by rw[<-T.1];exact rl) D);clear ao T ad G h;go_wp2_with fail;go_roundg (val x % val y).toNat;case measure=>exact aW
    case rel=>exact⟨B,Z,m,n2,d,aa,y,_,b,b2,rfl,rfl,aj,ak,ai,ah,u,ar,D,aq,aU,aV,O⟩
   have aF:¬ ((n:Int)<3):=oS;clear ap Y;go_wp2_with fail;refine(B1v A B n m c d x y bs b wr H E X u ac hm0 D).mono ?_;rintro _ W ⟨ag,n1,al,b1,Z,n2,aa,b2,rfl,ao,T,ad,h⟩;have ai:=A_ T;have ah:=A_ (Own.older (Own.right_ ad) G.size);have aj:=A_ (BN E h);have ak:=A_ (Own.below aT h);have O:Bw w W:=BH G h;have aq:=A_ (show n2<=65536 from CJ (by rw[<-T.1];exact rl) D);clear ao T ad G h;go_wp2_with fail;go_roundg (val x % val y).toNat;case measure=>exact aW
   case rel=>exact⟨B,Z,m,n2,d,aa,y,_,b,b2,rfl,rfl,aj,ak,ai,ah,u,ar,D,aq,aU,aV,O⟩
  obtain rfl:m=0:=oS;have e:=A_ (show x=dig (CQ (val xs) (val ys)) by rw[<-an.o,show val y=0 by rw[IV af.o];rfl,Int.gcd_zero_right];exact(X.dig_natAbs).symm);go_wp2;go_ret;rw[<-e.o];exact⟨A,n,c,bs,rfl,H,be,G⟩

theorem B7b (v:Value) (x:TBigInt) (bs:List Nat) (w:AD) (aa:Agg w v x bs) :
  BL prog 195 #[v] w (A0b w (J (A2j x))):=by
 obtain⟨h,n1,D,ac,rfl,rfl,Z⟩:=FZ aa;have G:=A_ Z;clear Z aa;have u:=A_ (show A2j x=(A3m x.mag&&(!x.neg || BQ (0<n1))) by unfold A2j;congr 1;congr 1;rw[<-G.o.1];cases x.mag<;>simp);cases H:A3m x.mag;·go_enter func195,ntmps195;go_wp2_with fail;have C:=B3v h n1 D x.mag bs (w.alloc (BG #[J x.neg,QX h n1 D] 37)) (BN G Below.go);rw[H]at C;refine C.mono ?_;clear C;rintro _ E ⟨rfl,b⟩;obtain⟨W,X⟩:=F_ b;have ab:w.1.size<E.1.size:=ltg b;go_wp2;go_ret;exact⟨Q_ (by rw[u.o,H];rfl),Below.go⟩
 have T:=A_ H;clear H;rw[T.o,PG]at u;cases Y:x.neg;·have O:=A_ (by rw[u.o,Y];rfl:AF=A2j x);clear u;go_enter func195,ntmps195;go_wp2_with fail;have C:=B3v h n1 D x.mag bs (w.alloc (BG #[J AH,QX h n1 D] 37)) (BN G Below.go);rw[T.o]at C;refine C.mono ?_;clear C;rintro _ E ⟨rfl,b⟩;obtain⟨W,X⟩:=F_ b;have ab:w.1.size<E.1.size:=ltg b;go_wp2;go_ret;exact⟨Q_ O,Below.go⟩
 have O:=A_ (by rw[u.o,Y];rfl:BQ (0<n1)=A2j x);clear u;go_enter func195,ntmps195;go_wp2_with fail;have C:=B3v h n1 D x.mag bs (w.alloc (BG #[J AF,QX h n1 D] 37)) (BN G Below.go);rw[T.o]at C;refine C.mono ?_;clear C;rintro _ E ⟨rfl,b⟩;obtain⟨W,X⟩:=F_ b;have ab:w.1.size<E.1.size:=ltg b;go_wp2;go_ret;exact⟨Q_ O,Below.go⟩

theorem B0u (neg:Bool) (A:Option AJ) (n c:Nat) (xs:List Int) (bs:List Nat) (w:AD) (af:Sl w A n c xs bs) (am:XN.Can xs) (ab:n<=60) :
  BL prog 201 #[J neg,QX A n c] w (A0c w (⟨neg&&BQ (0<n),xs⟩:TBigInt)):=by
 obtain⟨aj,ad,ag,ah,ai⟩:=FB A6b;have G:=A_ af;have ae:=A_ (CJ ab (by decide:60<=1048576));have H:=A_ (by rw[am.trim_eq];exact af.1:(trim xs).length=n);clear af am;cases neg
 ·show BL _ _ _ w (A0c w (⟨AH,xs⟩:TBigInt))
  go_enter func201,ntmps201;go_wp2_with fail;have C:=B5i A n c xs bs (w.alloc (BG #[J AH,QX I 0 0] 37)) (BN G.o Below.go) (by rw[H.o];exact ab);rw[H.o]at C;refine C.mono ?_;clear C;rintro _ h ⟨rfl,b⟩;obtain⟨ak,an⟩:=F_ b;have aq:w.1.size<h.1.size:=ltg b;have Y:=A_ (BN (BN G (BP (BG #[J AH,QX I 0 0] 37))) b);have au:w.1.size<h.1.size+1:=oS;have ap:w.1.size+1<=h.1.size:=by have:=b.size;simp at this;omega
  go_wp2_with (at_builtin;(refine A6r rfl _ _ 35 rfl 3 aj underlying35 ad ag ah ai _ rfl A n c xs bs rfl (BN Y Below.go) ae ?_);intro O c3 aa w3 E D u;obtain⟨al,ao⟩:=F_ u;have ar:w.1.size<w3.1.size:=by(have Z:=u.size;simp at Z;omega));have X:=A_ E;have T:=A_ D;clear E D;refine CK (v:=BJ #[J AH,QX O n c3]) (by simp[CO,results201,go_sem, *]) rfl ?_;have f:=fun(W:AD) (ha:Above (w.1.size+1) w3 W)=>A7w (w:=w) X.o T.o oR oR ha;refine⟨_,aa,rfl,FV (x:=⟨AH,xs⟩) (f _ ?_).1,(f _ ?_).2,?_⟩;·exact Above.go
  ·exact Above.go
  exact Below.go
 rcases IG n with ac|ac
 ·subst ac
  show BL _ _ _ w (A0c w (⟨AH,xs⟩:TBigInt));go_enter func201,ntmps201;go_wp2_with fail;have C:=B5i A 0 c xs bs (w.alloc (BG #[J AH,QX I 0 0] 37)) (BN G.o Below.go) (by rw[H.o];exact ab);rw[H.o]at C;refine C.mono ?_;clear C;rintro _ h ⟨rfl,b⟩;obtain⟨ak,an⟩:=F_ b;have aq:w.1.size<h.1.size:=ltg b;have Y:=A_ (BN (BN G (BP (BG #[J AH,QX I 0 0] 37))) b);have au:w.1.size<h.1.size+1:=oS;have ap:w.1.size+1<=h.1.size:=by have:=b.size;simp at this;omega
  go_wp2_with (at_builtin;(refine A6r rfl _ _ 35 rfl 3 aj underlying35 ad ag ah ai _ rfl A 0 c xs bs rfl (BN Y Below.go) ae ?_);intro O c3 aa w3 E D u;obtain⟨al,ao⟩:=F_ u;have ar:w.1.size<w3.1.size:=by(have Z:=u.size;simp at Z;omega));have X:=A_ E;have T:=A_ D;clear E D;refine CK (v:=BJ #[J AH,QX O 0 c3]) (by simp[CO,results201,go_sem, *]) rfl ?_;have f:=fun(W:AD) (ha:Above (w.1.size+1) w3 W)=>A7w (w:=w) X.o T.o oR oR ha;refine⟨_,aa,rfl,FV (x:=⟨AH,xs⟩) (f _ ?_).1,(f _ ?_).2,?_⟩;·exact Above.go
  ·exact Above.go
  exact Below.go
 have e:(AF&&BQ (0<n))=AF:=by simp[ac]
 rw[e];go_enter func201,ntmps201;go_wp2_with fail;have C:=B5i A n c xs bs (w.alloc (BG #[J AH,QX I 0 0] 37)) (BN G.o Below.go) (by rw[H.o];exact ab);rw[H.o]at C;refine C.mono ?_;clear C;rintro _ h ⟨rfl,b⟩;obtain⟨ak,an⟩:=F_ b;have aq:w.1.size<h.1.size:=ltg b;have Y:=A_ (BN (BN G (BP (BG #[J AH,QX I 0 0] 37))) b);have au:w.1.size<h.1.size+1:=oS;have ap:w.1.size+1<=h.1.size:=by have:=b.size;simp at this;omega
 go_wp2_with (at_builtin;(refine A6r rfl _ _ 35 rfl 3 aj underlying35 ad ag ah ai _ rfl A n c xs bs rfl (BN Y Below.go) ae ?_);intro O c3 aa w3 E D u;obtain⟨al,ao⟩:=F_ u;have ar:w.1.size<w3.1.size:=by(have Z:=u.size;simp at Z;omega));have X:=A_ E;have T:=A_ D;clear E D;refine CK (v:=BJ #[J AF,QX O n c3]) (by simp[CO,results201,go_sem, *]) rfl ?_;have f:=fun(W:AD) (ha:Above (w.1.size+1) w3 W)=>A7w (w:=w) X.o T.o oR oR ha;refine⟨_,aa,rfl,FV (x:=⟨AF,xs⟩) (f _ ?_).1,(f _ ?_).2,?_⟩;·exact Above.go
 ·exact Above.go
 exact Below.go

theorem B5y (A:Option AJ) (n c:Nat) (xs:List Int) (bs:List Nat) (w:AD) (b:Sl w A n c xs bs) :
  BL prog 197 #[QX A n c] w (A0b w (J (BQ (xs=[1])))):=by
 have E:=A_ b.1;by_cases u:n=1
 ·subst u
  obtain⟨H,X,x,rfl,T,D,O,G⟩:=Sl.getInt b (k:=0) dE;simp only[Nat.add_zero]at G;have e:=A_ (show(x==1)=BQ (xs=[1]) by
   have h:=E.o;match xs,h with
   | [y],_=>simp at D;subst D;simp;rfl)
  clear b D;go_enter func197,ntmps197;go_wp2;go_ret;exact⟨Q_ e,Below.go⟩
 have e:=A_ (show BQ (xs=[1])=AH by simp;intro h;apply u;rw[<-E.o,h];rfl);have W:((n:Int)==1)=AH:=oR;clear b u;go_enter func197,ntmps197;go_wp2;go_ret;exact⟨Q_ e.symm,Below.go⟩

theorem E0c (N:Nat):(⟨AF&&BQ (0<(dig N).length),dig N⟩:TBigInt)=A0f (-(N:Int)):=by
 obtain⟨b,h⟩:=enc_of (neg:=AF) (N:=N) (v:=-(N:Int)) sI;rw[<-h,<-b]
theorem E6z (N:Nat):(⟨AH&&BQ (0<(dig N).length),dig N⟩:TBigInt)=A0f (N:Int):=by
 obtain⟨b,h⟩:=enc_of (neg:=AH) (N:=N) (v:=(N:Int)) sI;rw[<-h,<-b]

theorem min_can:XN.Can [854775808,223372036,9]:=⟨Lims.cons dE dE (Lims.cons dE dE (Lims.one dE dE)),dE⟩
theorem E6x:(⟨AF&&BQ (0<3),[854775808,223372036,9]⟩:TBigInt)=A0f (-9223372036854775808):=by
 have u:val [854775808,223372036,9]=9223372036854775808:=dE;generalize b:(9223372036854775808:Nat)=N;have D:val [854775808,223372036,9]=(N:Int):=by rw[u,<-b];rfl
 have e:[854775808,223372036,9]=dig N:=min_can.of_val D;have h:(-9223372036854775808:Int) = -(N:Int):=by rw[<-b];rfl
 rw[h,<-E0c,<-e];rfl

theorem B2n (N:Int) (w:AD) (h:I64 N):BL prog 148 #[RH K N] w (A0c w (A0f N)):=by
 have aD:=h.1;have aE:=h.2;clear h;rcases FH N 0 with an|an
 ·by_cases ar:N = -9223372036854775808
  ·subst ar
   have am:=A_ min_can;go_enter func148,ntmps148;go_wp2_with fail;obtain⟨aC,aq⟩:=A7v (B9p (w.alloc (BG #[J AH,QX I 0 0] 37)) [854775808,223372036,9] (by simp[maxLen])) (λx az=>am.o.1.i64 x az);rw[show(w.alloc (BG #[J AH,QX I 0 0] 37)).1.size=w.1.size+1 by simp]at aq;have C:=B0u AF (QZ ⟨w.1.size+1,0,I⟩) 3 3 _ aC ((w.alloc (BG #[J AH,QX I 0 0] 37)).alloc (BG #[RH K 854775808,RH K 223372036,RH K 9] 3)) aq am dE;have Y:=A_ E6x;refine C.mono ?_;clear C;rintro _ H ⟨v2,ae,rfl,b,E,D⟩;rw[Y.o]at b;obtain⟨X,n2,ac,_,rfl,rfl,G⟩:=FZ b;have ab:=A_ G;have aa:=A_ E;clear G E b;obtain⟨ao,ap⟩:=F_ D;have u:=A_ (by simp:w.1.size+1<=((w.alloc (BG #[J AH,QX I 0 0] 37)).alloc (BG #[RH K 854775808,RH K 223372036,RH K 9] 3)).1.size);have au:w.1.size<H.1.size:=by have:=D.size;have:=u.o;omega
   have aw:w.1.size<w.1.size+1+1:=oS;go_wp2;refine CK (v:=BJ #[J (A0f (-9223372036854775808)).neg,QX X n2 ac]) (by simp[CO,results148,go_sem, *]) rfl ?_;have f:=fun(W:AD) (ha:Above (w.1.size+1) H W)=>A7w (w:=w) ab aa (by have:=u.o;omega) u.o ha;refine⟨_,ae,rfl,FV (f _ ?_).1,(f _ ?_).2,?_⟩;·exact Above.go
   ·exact Above.go
   exact Below.go
  have aA:(N==-9223372036854775808)=AH:=by simp;exact ar
  have aG:-9223372036854775807<=N:=oS;have aj:=A_ (by omega:-N<=9223372036854775807);have ai:=A_ (show(dig (-N).toNat).length<=60 from CJ (A4r (k:=3) (by rw[pw_vals.2.2];omega)) dE);have Y:=A_ (by rw[JF oS,Int.neg_neg]:A0f (-((-N).toNat:Int))=A0f N);go_enter func148,ntmps148;go_wp2_with fail;refine(B1m (-N) (w.alloc (BG #[J AH,QX I 0 0] 37)) aj).mono ?_;rintro _ T ⟨af,n1,ah,al,rfl,O,ak,ad⟩;have Z:=A_ O.1;have ag:=A_ O;clear O ak;obtain⟨ax,ay⟩:=F_ ad;have aB:w.1.size<T.1.size:=ltg ad;go_wp2_with fail;have C:=B0u AF af n1 ah _ al T ag.o (A0j _) (by rw[<-Z.o];exact ai);refine C.mono ?_;clear C;rintro _ H ⟨v2,ae,rfl,b,E,D⟩;rw[<-Z.o,E0c,Y.o]at b;obtain⟨X,n2,ac,_,rfl,rfl,G⟩:=FZ b;have ab:=A_ G;have aa:=A_ E;clear G E b;obtain⟨ao,ap⟩:=F_ D;have u:=A_ (by omega:w.1.size+1<=T.1.size);have au:w.1.size<H.1.size:=by have:=D.size;have:=u.o;omega
  have aw:w.1.size<w.1.size+1+1:=oS;go_wp2;refine CK (v:=BJ #[J (A0f N).neg,QX X n2 ac]) (by simp[CO,results148,go_sem, *]) rfl ?_;have f:=fun(W:AD) (ha:Above (w.1.size+1) H W)=>A7w (w:=w) ab aa (by have:=u.o;omega) u.o ha;refine⟨_,ae,rfl,FV (f _ ?_).1,(f _ ?_).2,?_⟩;·exact Above.go
  ·exact Above.go
  exact Below.go
 have aA:(N==-9223372036854775808)=AH:=oR;have aF:¬ (N<0):=oS;have aj:=A_ (by omega:N<=9223372036854775807);have ai:=A_ (show(dig N.toNat).length<=60 from CJ (A4r (k:=3) (by rw[pw_vals.2.2];omega)) dE);have Y:=A_ (by rw[JF an]:A0f ((N.toNat:Nat):Int)=A0f N);go_enter func148,ntmps148;go_wp2_with fail;refine(B1m N (w.alloc (BG #[J AH,QX I 0 0] 37)) aj).mono ?_;rintro _ T ⟨af,n1,ah,al,rfl,O,ak,ad⟩;have Z:=A_ O.1;have ag:=A_ O;clear O ak;obtain⟨ax,ay⟩:=F_ ad;have aB:w.1.size<T.1.size:=ltg ad;go_wp2_with fail;have C:=B0u AH af n1 ah _ al T ag.o (A0j _) (by rw[<-Z.o];exact ai);refine C.mono ?_;clear C;rintro _ H ⟨v2,ae,rfl,b,E,D⟩;rw[<-Z.o,E6z,Y.o]at b;obtain⟨X,n2,ac,_,rfl,rfl,G⟩:=FZ b;have ab:=A_ G;have aa:=A_ E;clear G E b;obtain⟨ao,ap⟩:=F_ D;have u:=A_ (by omega:w.1.size+1<=T.1.size);have au:w.1.size<H.1.size:=by have:=D.size;have:=u.o;omega
 have aw:w.1.size<w.1.size+1+1:=oS;go_wp2;refine CK (v:=BJ #[J (A0f N).neg,QX X n2 ac]) (by simp[CO,results148,go_sem, *]) rfl ?_;have f:=fun(W:AD) (ha:Above (w.1.size+1) H W)=>A7w (w:=w) ab aa (by have:=u.o;omega) u.o ha;refine⟨_,ae,rfl,FV (f _ ?_).1,(f _ ?_).2,?_⟩;·exact Above.go
 ·exact Above.go
 exact Below.go

def C8r (neg:Bool) (xs:List Int):Int:=if neg then -val xs else val xs
theorem E8m {neg:Bool} {xs:List Int} {b:Int} (D:XN.Can xs) (u:0<b) :
  mkR (C8r neg xs) b=if (dig (val xs / (CQ (val xs) b:Nat)).toNat).length<=24/\(dig (b / (CQ (val xs) b:Nat)).toNat).length<=24 then
   ⟨⟨neg&&BQ (0<(dig (val xs / (CQ (val xs) b:Nat)).toNat).length),dig (val xs / (CQ (val xs) b:Nat)).toNat⟩,dig (b / (CQ (val xs) b:Nat)).toNat⟩else A0h:=by
 have O:=A5o (a:=val xs) u;have E:C8r neg xs=A0q ⟨neg&&BQ (xs≠[]),xs⟩:=by
  unfold C8r A0q;by_cases h:xs=[]
  ·subst h;cases neg<;>simp[val]
  cases neg<;>simp[h]
 have G:(neg&&BQ (0<(dig (val xs / (CQ (val xs) b:Nat)).toNat).length))=(neg&&BQ (xs≠[])):=by
  congr 1;by_cases h:xs=[]
  ·subst h;have:val ([]:List Int)=0:=rfl;rw[this,Int.zero_ediv];simp;rfl
  have H:=D.pos h;have T:0<val xs / (CQ (val xs) b:Nat):=Int.ediv_pos_of_pos_of_dvd H oS (Int.gcd_dvd_left _ _);have:dig (val xs / (CQ (val xs) b:Nat)).toNat≠[]:=by rw[Ne,B1x];omega
  simp[h,MZ.2 this]
 rw[E,D6t (x:=⟨neg&&BQ (xs≠[]),xs⟩) D (by intro h;simp at h;exact h.2) u,G]

theorem D5l (neg:Bool) (A B:Option AJ) (n m c d:Nat) (xs ys:List Int) (bs H:List Nat) (w:AD) (aX:Sl w A n c xs bs) (aK:Sl w B m d ys H) (am:XN.Can xs) (aI:XN.Can ys) (hm0:0<m) (aJ:n<=65536) (an:m<=65536) :
  BL prog 200 #[J neg,QX A n c,QX B m d] w (A0c w (mkR (C8r neg xs) (val ys))):=by
 obtain⟨b6,bU,b3,b4,b5⟩:=FB A6b;have aO:=A_ aX;have aP:=A_ aK;have ag:=A_ am;have X:=A_ aI;have bf:=A_ (by rw[am.trim_eq];exact aX.1:(trim xs).length=n);have aS:=A_ (by rw[aI.trim_eq];exact aK.1:(trim ys).length=m);have ar:=A_ (aI.pos (by intro e;rw[<-aK.1,e]at hm0;simp at hm0));have af:=A_ (E8m (neg:=neg) am ar);have bK:=A_ (S_ am.1);have a6:=A_ (A5o (a:=val xs) ar);have b0:((m:Int)==0)=AH:=oR;clear aX aK am aI;go_enter func200,ntmps200;go_wp2_with fail;have C:=B0s A n c xs bs (w.alloc (BG #[J AH,QX I 0 0,QX I 0 0] 39)) (BN aO Below.go);rw[bf.o]at C;refine C.mono ?_;clear C;rintro _ cb ⟨rfl,aa⟩;go_wp2_with fail;have C:=B0s B m d ys H cb (BN aP (BH Below.go aa));rw[aS.o]at C;refine C.mono ?_;clear C;rintro _ cc ⟨rfl,bj⟩;have aB:=BH aa bj;have bc:=A_ (BN (BN aO (BP (BG #[J AH,QX I 0 0,QX I 0 0] 39))) aB);have aQ:=A_ (BN (BN aP (BP (BG #[J AH,QX I 0 0,QX I 0 0] 39))) aB);clear aa bj aO aP;go_wp2_with fail;obtain⟨b1,aa⟩:∃ b,b=BQ (ys=[1]):=⟨_,rfl⟩
 have C:=B5y B m d ys H cc aQ;rw[<-aa]at C;have a5:=A_ aa;clear aa;refine C.mono ?_;clear C;rintro _ w3 ⟨rfl,O⟩;have ai:=A_ (BN bc O);have aj:=A_ (BN aQ O);have aT:=BH aB O;clear bc aQ aB O;go_upto_if 20 with fail;go_cut [7,8] (λa b wx=>∃ (ap aq:Option AJ) (u aE D aF:Nat) (aY aZ:List Nat),a=QX ap u aE/\b=QX aq D aF/\Hid (Sl wx ap u aE (dig (val xs / (CQ (val xs) (val ys):Nat)).toNat) aY)/\Hid (Sl wx aq D aF (dig (val ys / (CQ (val xs) (val ys):Nat)).toNat) aZ)/\Below (w.alloc (BG #[J AH,QX I 0 0,QX I 0 0] 39)).1.size (w.alloc (BG #[J AH,QX I 0 0,QX I 0 0] 39)) wx);case first =>
  by_cases ab:CQ (val xs) (val ys)=1
  ·have a1:=A_ (by rw[ab,Int.natCast_one,PH];exact ag.eq_dig.symm:dig (val xs / (CQ (val xs) (val ys):Nat)).toNat=xs)
   have a2:=A_ (by rw[ab,Int.natCast_one,PH];exact X.eq_dig.symm:dig (val ys / (CQ (val xs) (val ys):Nat)).toNat=ys);have bE:=A_ ab;clear ab;cases b1;rotate_left;·go_wp2_with fail;go_meet;exact⟨A,B,n,c,m,d,bs,H,rfl,rfl,by rw[a1.o];exact ai,by rw[a2.o];exact aj,aT⟩
   have aL:=A_ (by rw[bE.o];rfl:BQ (dig (CQ (val xs) (val ys))=[1])=AF);go_wp2_with fail;refine(C3b A B n m c d xs ys bs H w3 ai aj ag X aJ an).mono ?_;rintro _ ae ⟨T,ac,Z,ad,rfl,G,ao,h⟩;have Y:=A_ G;have au:=A_ (BN ai h);have ax:=A_ (BN aj h);have aC:=BH aT h;clear G ao h;go_wp2_with fail;have C:=B5y T ac Z _ ad ae Y;rw[aL.o]at C;refine C.mono ?_;clear C;rintro _ bp ⟨rfl,E⟩;have aw:=A_ (BN au E);have ay:=A_ (BN ax E);have aD:=BH aC E;go_wp2_with fail;go_meet;exact⟨A,B,n,c,m,d,bs,H,rfl,rfl,by rw[a1.o];exact aw,by rw[a2.o];exact ay,aD⟩
  have bL:b1=AH:=by rw[a5.o];simp;intro ak;apply ab;rw[ak];show CQ (val xs) 1=1;simp
  subst bL;have aM:=A_ (show val (dig (CQ (val xs) (val ys)))=(CQ (val xs) (val ys):Nat)from A1j _);have aL:=A_ (show BQ (dig (CQ (val xs) (val ys))=[1])=AH by simp;intro ak;apply ab;have:=aM.o;rw[ak]at this;have bh:val [1]=1:=rfl;omega);have bA:=A_ (show(dig (CQ (val xs) (val ys))).length<=65536 from CJ (A4r (k:=m) (by have ck:=Int.le_of_dvd ar (Int.gcd_dvd_right (val xs) (val ys));have bh:=A4j X.1;rw[show ys.length=m by rw[<-aS.o,X.o.trim_eq]]at bh;omega)) an);have bB:=A_ (show 0<(dig (CQ (val xs) (val ys))).length from MZ.2 (by rw[Ne,B1x];have:=a6.o;omega));clear ab;go_wp2_with fail;refine(C3b A B n m c d xs ys bs H w3 ai aj ag X aJ an).mono ?_;rintro _ ae ⟨T,ac,Z,ad,rfl,G,ao,h⟩;have Y:=A_ G;have bn:=A_ (by rw[<-G.1];exact bA:ac<=65536);have bo:=A_ (by rw[<-G.1];exact bB:0<ac);have au:=A_ (BN ai h);have ax:=A_ (BN aj h);have aC:=BH aT h;clear G ao h;go_wp2_with fail;have C:=B5y T ac Z _ ad ae Y;rw[aL.o]at C;refine C.mono ?_;clear C;rintro _ bp ⟨rfl,E⟩;have aN:=A_ (BN Y E);have aw:=A_ (BN au E);have ay:=A_ (BN ax E);have aD:=BH aC E;clear au ax aC Y E;go_wp2_with fail;refine(B1v A T n ac c Z xs _ bs ad bp aw aN ag (A0j _) aJ bo bn).mono ?_;rintro _ cd ⟨bv,b9,bP,ca,cg,nr,cr,cz,rfl,aW,bY,bW,aH⟩;rw[aM.o]at aW;have a8:=A_ aW;have a9:=A_ (BN aN aH);have bd:=A_ (BN ay aH);have bg:=BH aD aH;clear aW bY bW aH aw aN ay aD;go_wp2_with fail;refine(B1v B T m ac d Z ys _ H ad cd bd a9 X (A0j _) an bo bn).mono ?_;rintro _ cD ⟨bu,b8,bO,sp,ch,cx,cj,cA,rfl,aV,bZ,bX,aU⟩;rw[aM.o]at aV;have bH:=A_ aV;have bI:=A_ (BN a8 aU);have bM:=BH bg aU;clear aV bZ bX aU a8 a9 bd bg;go_wp2_with fail;go_meet;exact⟨bv,bu,b9,bP,b8,bO,ca,sp,rfl,rfl,bI,bH,bM⟩
 case rest =>
  obtain⟨ap,aq,u,aE,D,aF,aY,aZ,rfl,rfl,a3,a4,bb⟩:=hcut;have bz:=A_ (A0j (val xs / (CQ (val xs) (val ys):Nat)).toNat);have ci:=A_ (A0j (val ys / (CQ (val xs) (val ys):Nat)).toNat);generalize dig (val xs / (CQ (val xs) (val ys):Nat)).toNat=az at *;generalize dig (val ys / (CQ (val xs) (val ys):Nat)).toNat=aA at *;have aR:=A_ (show az.length=u from a3.1);have be:=A_ (show aA.length=D from a4.1);clear a6 bK ar bf aS ag X a5 b0 aJ an hm0;obtain⟨co,cs⟩:=F_ bb;have cv:w.1.size<wc.1.size:=ltg bb;rcases CG 24 u with al|al;·have ah:=A_ (by rw[af.o,aR.o,if_neg oS]:mkR (C8r neg xs) (val ys)=A0h);have bq:(24:Int)<u:=oS;clear al af;go_wp2;refine CK (v:=BJ #[J AH,QX I 0 0,QX I 0 0]) (by simp[CO,results200,go_sem, *]) rfl ?_;rw[ah.o];exact A3e Below.go
  rcases CG 24 D with aG|aG;·have ah:=A_ (by rw[af.o,aR.o,be.o,if_neg oS]:mkR (C8r neg xs) (val ys)=A0h);have bq:¬ ((24:Int)<u):=oS;have ce:(24:Int)<D:=oS;clear al aG af;go_wp2;refine CK (v:=BJ #[J AH,QX I 0 0,QX I 0 0]) (by simp[CO,results200,go_sem, *]) rfl ?_;rw[ah.o];exact A3e Below.go
  have ah:=A_ (by rw[af.o,aR.o,be.o,if_pos ⟨al,aG⟩]:mkR (C8r neg xs) (val ys)=⟨⟨neg&&BQ (0<u),az⟩,aA⟩);have bq:¬ ((24:Int)<u):=oS;have ce:¬ ((24:Int)<D):=oS;have bS:=A_ (by omega:u<=60);have bV:=A_ (by omega:D<=1048576);clear al aG af;go_wp2_with fail;refine(B0u neg ap u aE az aY wc a3 bz bS).mono ?_;rintro _ w3 ⟨cB,cy,rfl,bi,bk,O⟩;obtain⟨br,b7,bN,_,rfl,rfl,bl⟩:=FZ bi;have ba:=A_ bl;have bF:=A_ bk;have bD:=A_ (BN a4 O);have bm:=A_ (by omega:w.1.size+1<=wc.1.size);clear bl bk bi;obtain⟨cm,cp⟩:=F_ O;have ct:w.1.size<w3.1.size:=ltg O;have cw:w.1.size<w3.1.size+1:=oS;go_wp2_with (at_builtin;(refine A6r rfl _ _ 35 rfl 3 b6 underlying35 bU b3 b4 b5 _ rfl aq D aF aA aZ rfl (BN bD Below.go) bV ?_);intro T Z ad ae G ao h;obtain⟨cn,cq⟩:=F_ h;have cu:w.1.size<ae.1.size:=by(have ak:=h.size;simp at ak;omega));have Y:=A_ G;have a7:=A_ ao;have bJ:=A_ (BN (BN ba (show Bw w3 _ from BP (BG #[] 3))) h);have bG:=A_ (Own.below (Own.below bF (show Bw w3 _ from BP (BG #[] 3))) h);have bt:=A_ (A9o (N:=w3.1.size) (b2:=ad) ba.lt (λb bT=>by have:=(a7.2 b bT).1;simp at this;omega));refine CK (v:=BJ #[J (neg&&BQ (0<u)),QX br b7 bN,QX T D Z]) (by simp[CO,results200,go_sem, *]) rfl ?_;rw[ah.o];have bQ:=fun(W:AD) (ha:Above (w.1.size+1) ae W)=>A7w (w:=w) bJ bG (by have:=bm.o;omega) bm.o ha;have bR:=fun(W:AD) (ha:Above (w.1.size+1) ae W)=>A7w (w:=w) Y.o a7.o oR oR ha;refine B4k (x:=⟨⟨neg&&BQ (0<u),az⟩,aA⟩) (bQ _ ?_) (bR _ ?_) bt ?_;·exact Above.go
  ·exact Above.go
  exact Below.go

theorem B4u (w:AD) (o:Obj) (k:Nat) (h:k<w.1.size):(w.alloc o).1[k]?=w.1[k]?:=(AD.grownBy_alloc w o I).block k h sI
theorem Above.alloc2 {lo:Nat} {w b:AD} {o:Obj} (h:Above lo w b) (G:b.1.size=w.1.size):Above lo (w.alloc o) (b.alloc o):=by
 refine⟨by simp[G],λu H O=>?_⟩;simp at O;rcases CG u w.1.size with D|D
 ·rw[B4u b o u oS,B4u w o u D];exact h.block u H D
 have e:u=w.1.size:=oS;have E:=DB b o;rw[G]at E;rw[e,E,DB w o]
theorem E9c (w:AD) (xs:List Int) (u:xs.length<=maxLen) (hi:∀ x∈xs,I64 x) :
  ∃ bs,Sl (w.alloc (BG (xs.map (RH K)).toArray 3)) (QZ ⟨w.1.size,0,I⟩) xs.length xs.length xs bs/\Own w (w.alloc (BG (xs.map (RH K)).toArray 3)) bs:=by
 obtain⟨G,H,c',b,h,E,D,_⟩:=A2r (B9p w xs u) rfl hi (BP _);injection h with e1;injection e1 with e2 e3 e4;subst e2;subst e3;subst e4;exact⟨b,E,D⟩

theorem B0d (N:Int) (w:AD) (h:I64 N):BL prog 115 #[RH K N] w (A0c w (U_ N)):=by
 go_enter func115,ntmps115;go_wp2_with fail;refine(B2n N _ h).mono ?_;rintro _ b ⟨v1,an,rfl,E,H,G⟩;obtain⟨Z,n1,ae,_,rfl,rfl,T⟩:=FZ E;have D:=A_ T;have ab:=A_ H;clear T H E;obtain⟨aj,ak⟩:=F_ G;have al:w.1.size<b.1.size:=ltg G;have Y:=A_ (by omega:w.1.size+1<=b.1.size);have am:w.1.size<b.1.size+1:=oS;obtain⟨ai,X,O⟩:=E9c b [1] (by simp[maxLen]) (by simp[I64]);have ac:=A_ X;have u:=A_ O;clear X O;go_wp2;have aa:=A_ (A9o (N:=b.1.size) (b2:=ai) D.lt (λad ah=>(u.2 ad ah).1));refine CK (v:=BJ #[J (A0f N).neg,QX Z n1 ae,QX (QZ ⟨b.1.size,0,I⟩) 1 1]) (by simp[CO,results115,go_sem, *]) rfl ?_;have af:=fun(W:AD) (ha:Above (w.1.size+1) b W)=>A7w (w:=w) D.o ab.o sI sI ha;have ag:=fun(W:AD) (ha:Above (w.1.size+1) (b.alloc (BG #[RH K 1] 3)) W)=>A7w (w:=w) (A:=QZ ⟨b.1.size,0,I⟩) (n:=1) (c:=1) (xs:=[(1:Int)]) ac u (by have:=Y.o;omega) Y.o ha;refine B4k (x:=U_ N) (af _ ?_) (ag _ ?_) aa ?_;·exact Above.go
 ·refine Above.alloc2 ?_ sI;exact Above.go
 exact Below.go

theorem B1w (v:Value) (x:TRat) (b:List Nat) (w:AD) (az:Agg w v x b) :
  BL prog 145 #[v] w (A0b w (J (J_ x))):=by
 obtain⟨X,n1,aa,ad,H,n2,O,aj,rfl,rfl,au,aw⟩:=TRat.agg az;have Y:=A_ au;have ab:=A_ aw;have ax:=A_ au.1;have ak:=A_ aw.1;clear au aw az;cases D:A2j x.1;·have Z:=A_ D;have T:=A_ (by unfold J_;rw[D];rfl:AH=J_ x);clear D;go_enter func145,ntmps145;go_wp2_with fail;have C:=B7b _ x.1 ad (w.alloc (BG #[J x.1.1,QX X n1 aa,QX H n2 O] 39)) (FV (BN Y Below.go));rw[Z.o]at C;refine C.mono ?_;clear C;rintro _ u ⟨rfl,h⟩;obtain⟨ag,ah⟩:=F_ h;have ai:w.1.size<u.1.size:=ltg h;go_wp2;go_ret;exact⟨Q_ T,Below.go⟩
 have Z:=A_ D;cases G:A3m x.2;·have ac:=A_ G;have T:=A_ (by unfold J_;rw[D,G];rfl:AH=J_ x);clear D G;go_enter func145,ntmps145;go_wp2_with fail;have C:=B7b _ x.1 ad (w.alloc (BG #[J x.1.1,QX X n1 aa,QX H n2 O] 39)) (FV (BN Y Below.go));rw[Z.o]at C;refine C.mono ?_;clear C;rintro _ u ⟨rfl,h⟩;obtain⟨ag,ah⟩:=F_ h;have ai:w.1.size<u.1.size:=ltg h;go_wp2_with fail;have C:=B3v H n2 O x.2 aj u (BN ab Below.go);rw[ac.o]at C;refine C.mono ?_;clear C;rintro _ W ⟨rfl,E⟩;obtain⟨am,an⟩:=F_ E;have ao:w.1.size<W.1.size:=ltg E;go_wp2;go_ret;exact⟨Q_ T,Below.go⟩
 have ac:=A_ G;have aB:=A_ (bigOkB_iff.1 D).1;have aC:=A_ (natOkB_iff.1 G);rcases IG n2 with ae|ae
 ·subst ae;have T:=A_ (by unfold J_;rw[D,G,IV ak.o];rfl:AH=J_ x);clear D G;go_enter func145,ntmps145;go_wp2_with fail;have C:=B7b _ x.1 ad (w.alloc (BG #[J x.1.1,QX X n1 aa,QX H 0 O] 39)) (FV (BN Y Below.go));rw[Z.o]at C;refine C.mono ?_;clear C;rintro _ u ⟨rfl,h⟩;obtain⟨ag,ah⟩:=F_ h;have ai:w.1.size<u.1.size:=ltg h;go_wp2_with fail;have C:=B3v H 0 O x.2 aj u (BN ab Below.go);rw[ac.o]at C;refine C.mono ?_;clear C;rintro _ W ⟨rfl,E⟩;obtain⟨am,an⟩:=F_ E;have ao:w.1.size<W.1.size:=ltg E;go_wp2;go_ret;exact⟨Q_ T,Below.go⟩
 have aV:((n2:Int)==0)=AH:=oR;rcases CG 24 n2 with af|af
 ·have T:=A_ (by unfold J_;rw[D,G,ak.o,show BQ (n2<=24)=AH by simp;omega];simp:AH=J_ x);have aP:(24:Int)<n2:=oS;clear D G af ae;go_enter func145,ntmps145;go_wp2_with fail;have C:=B7b _ x.1 ad (w.alloc (BG #[J x.1.1,QX X n1 aa,QX H n2 O] 39)) (FV (BN Y Below.go));rw[Z.o]at C;refine C.mono ?_;clear C;rintro _ u ⟨rfl,h⟩;obtain⟨ag,ah⟩:=F_ h;have ai:w.1.size<u.1.size:=ltg h;go_wp2_with fail;have C:=B3v H n2 O x.2 aj u (BN ab Below.go);rw[ac.o]at C;refine C.mono ?_;clear C;rintro _ W ⟨rfl,E⟩;obtain⟨am,an⟩:=F_ E;have ao:w.1.size<W.1.size:=ltg E;go_wp2;go_ret;exact⟨Q_ T,Below.go⟩
 have aP:¬ ((24:Int)<n2):=oS;rcases CG 24 n1 with al|al
 ·have T:=A_ (by unfold J_;rw[D,G,ax.o,show BQ (n1<=24)=AH by simp;omega];simp:AH=J_ x);have aO:(24:Int)<n1:=oS;clear D G af ae al;go_enter func145,ntmps145;go_wp2_with fail;have C:=B7b _ x.1 ad (w.alloc (BG #[J x.1.1,QX X n1 aa,QX H n2 O] 39)) (FV (BN Y Below.go));rw[Z.o]at C;refine C.mono ?_;clear C;rintro _ u ⟨rfl,h⟩;obtain⟨ag,ah⟩:=F_ h;have ai:w.1.size<u.1.size:=ltg h;go_wp2_with fail;have C:=B3v H n2 O x.2 aj u (BN ab Below.go);rw[ac.o]at C;refine C.mono ?_;clear C;rintro _ W ⟨rfl,E⟩;obtain⟨am,an⟩:=F_ E;have ao:w.1.size<W.1.size:=ltg E;go_wp2;go_ret;exact⟨Q_ T,Below.go⟩
 have aO:¬ ((24:Int)<n1):=oS;have T:=A_ (show BQ (dig (CQ (val x.1.2) (val x.2))=[1])=J_ x by
  unfold J_;rw[D,G,ax.o,ak.o,decide_eq_true al,decide_eq_true af];have:x.2.isEmpty=AH:=by
   cases aI:x.2 with
   |nil=>have:=ak.o;rw[aI]at this;simp at this;omega
   |cons _ _=>rfl
  rw[this];simp only[Bool.not_false,PG];congr 1;rw[eq_iff_iff];refine⟨λaq=>?_,λaq=>by rw[aq];rfl⟩;have aG:=A1j (CQ (val x.1.2) (val x.2));rw[aq]at aG;have aQ:val [1]=1:=rfl;omega)
 have aJ:=A_ (by omega:n1<=65536);have aK:=A_ (by omega:n2<=65536);clear D G ae al af;go_enter func145,ntmps145;go_wp2_with fail;have C:=B7b _ x.1 ad (w.alloc (BG #[J x.1.1,QX X n1 aa,QX H n2 O] 39)) (FV (BN Y Below.go));rw[Z.o]at C;refine C.mono ?_;clear C;rintro _ u ⟨rfl,h⟩;obtain⟨ag,ah⟩:=F_ h;have ai:w.1.size<u.1.size:=ltg h;go_wp2_with fail;have C:=B3v H n2 O x.2 aj u (BN ab Below.go);rw[ac.o]at C;refine C.mono ?_;clear C;rintro _ W ⟨rfl,E⟩;obtain⟨am,an⟩:=F_ E;have ao:w.1.size<W.1.size:=ltg E;go_wp2_with fail;have ap:Bw w W:=Below.go;refine(C3b X H n1 n2 aa O x.1.2 x.2 _ _ W (BN Y ap) (BN ab ap) aB.2 aC.2 aJ aK).mono ?_;rintro _ w3 ⟨aA,aM,aF,aN,rfl,ay,aL,ar⟩;have aD:=A_ ay;clear ay aL;obtain⟨aR,aS⟩:=F_ ar;have aT:w.1.size<w3.1.size:=ltg ar;go_wp2_with fail;have C:=B5y aA aM aF _ aN w3 aD;rw[T.o]at C;refine C.mono ?_;clear C;rintro _ aU ⟨rfl,aH⟩;have aE:=BH (BH ap ar) aH;go_wp2;go_ret;exact⟨rfl,aE⟩

theorem E1n {neg:Bool} {N n:Nat} {v:Int} (b:(A0f v).mag=dig N/\(A0f v).neg=(neg&&BQ (0<(dig N).length))) (h:(A0f v).mag.length=n):(⟨neg&&BQ (0<n),(A0f v).mag⟩:TBigInt)=A0f v:=by
 rw[<-h,b.1,<-b.2,<-b.1]
theorem A8n {w w':AD} {xs:List Int} {e:Ending} (hi:∀ x∈xs,I64 x) (h:B3k w 3 xs e w'):A0w w xs e w':=by
 obtain⟨v,rfl,u,b⟩:=h;exact A2r u rfl hi b
theorem F2y {k:Nat} {xs ys:List Int} (b:Lims xs) (h:Lims ys) (lx:xs.length<=k) (u:ys.length<=k):(dig (val xs+val ys).toNat).length<=k+1:=by
 have D:=A4j b;have E:=A4j h;have G:=A6t lx;have H:=A6t u;have O:=S_ b;have T:=S_ h;refine A4r ?_;rw[A1l];omega
theorem E4g {k:Nat} {xs ys:List Int} (b:Lims xs) (h:Lims ys) (lx:xs.length<=k):(dig (val xs - val ys).toNat).length<=k+1:=by
 have u:=A4j b;have D:=A6t lx;have E:=S_ b;have G:=S_ h;have H:=A5r k;refine A4r ?_;rw[A1l];omega

theorem B8w (v1 v2:Value) (x y:TBigInt) (b1 b2:List Nat) (w:AD) (aL:Agg w v1 x b1) (aM:Agg w v2 y b2) (aH:XN.Can x.mag) (aI:XN.Can y.mag) (lx:x.mag.length<=59) (aQ:y.mag.length<=59) :
  BL prog 199 #[v1,v2] w (A0c w (A0f (A0q x+A0q y))):=by
 obtain⟨ag,n1,ao,aZ,rfl,rfl,X⟩:=FZ aL;obtain⟨ah,n2,ap,a1,rfl,rfl,aC⟩:=FZ aM;have aj:=A_ X;have ak:=A_ aC;have H:=A_ aH;have O:=A_ aI;have aD:=A_ lx;have aE:=A_ aQ;have aF:=A_ (by rw[<-X.1];omega:n1<=1048576);have aG:=A_ (by rw[<-aC.1];omega:n2<=1048576);clear X aC aL aM aH aI lx aQ;by_cases aa:x.neg=y.neg
 ·have u:=A_ (enc_of (add_same H.1 O.1 aa))
  have ae:(x.neg==y.neg)=AF:=by simp[aa]
  clear aa;go_enter func199,ntmps199;go_wp2_with fail;refine X_ sI ?_;dsimp only[DN,DO,DQ];iterate 6 refine C_ _ ?_
  refine D_ (MP.sl (A0f (A0q x+A0q y)).mag) ?_ ?_;·intro ac ad G b h;obtain⟨aw,ay⟩:=F_ b;simp at h;refine G_ ?_;have:=(D3w ag ah n1 n2 ao ap x.mag y.mag _ _ G (BN aj Below.go) (BN ak Below.go) H O aF aG).mono λ_ _ au=>A8n (A0j _).1.i64 au;rw[<-u.o.1]at this;exact A1c this
  refine D_ (MP.agg (A0f (A0q x+A0q y))) ?_ ?_;·intro ac ad G b h;obtain⟨aw,ay⟩:=F_ b;simp at h;refine G_ ?_;obtain⟨_,⟨A,n,c,e,E⟩,_⟩:=h;rw[e];have C:=B0u x.neg A n c _ _ G E (A7g _) (by rw[<-E.1,u.o.1];exact F2y H.1 O.1 aD aE);rw[E1n u.o E.1]at C;exact H_ C
  intro ac ad wa b h (ax:Hid _);simp at h;go_simp;have aA:=h.2.2.2.2.2.2.2;obtain⟨⟨D,Z⟩,ab⟩:=aA;obtain⟨ai,m1,aq,aR,ar,az,X⟩:=FZ D;have Y:=A_ D;have al:=A_ Z;have am:=A_ ab;clear h ax az X D Z ab;obtain⟨aJ,aK⟩:=F_ b;have aN:w.1.size<wa.1.size:=ltg b;have aO:w.1.size+1<wa.1.size:=ltg b;have aP:w.1.size+1+1<wa.1.size:=ltg b;go_wp2;refine CK (v:=BJ #[J (A0f (A0q x+A0q y)).neg,QX ai m1 aq]) (by simp[CO,results199,go_sem, *]) rfl ?_;rw[ar]at Y;refine A1s (lo:=w.1.size+3) Y al (λan ae=>by have:=(am an ae).1;omega) oS ?_ ?_;·exact Above.go
  exact Below.go
 have ae:(x.neg==y.neg)=AH:=by simp[aa]
 rcases FH (val x.mag) (val y.mag)with W|W
 ·have u:=A_ (enc_of (add_lt aa (JJ W)))
  have S:=A_ (by rw[B2q W];decide:¬ (0<=sgn (val x.mag - val y.mag)));have aB:=A_ (JJ W);clear aa W;go_enter func199,ntmps199;go_wp2_with fail;refine(A9p ag ah n1 n2 ao ap x.mag y.mag _ _ _ (BN aj Below.go) (BN ak Below.go) H O).mono ?_;rintro _ af ⟨rfl,T⟩;have aS:=S.o;generalize sgn (val x.mag - val y.mag)=aY at *;obtain⟨aT,aU⟩:=F_ T;have aV:w.1.size<af.1.size:=ltg T;have aW:w.1.size+1<af.1.size:=ltg T;have aX:w.1.size+1+1<af.1.size:=ltg T;go_wp2_with fail;refine X_ sI ?_;dsimp only[DN,DO,DQ];iterate 6 refine C_ _ ?_
  refine D_ (MP.sl (A0f (A0q x+A0q y)).mag) ?_ ?_;·intro ac ad G b h;obtain⟨aw,ay⟩:=F_ b;simp at h;refine G_ ?_;have:=(C4j ah ag n2 n1 ap ao y.mag x.mag _ _ G (BN ak Below.go) (BN aj Below.go) O H aG aB).mono λ_ _ au=>A8n (A0j _).1.i64 au;rw[<-u.o.1]at this;exact A1c this
  refine D_ (MP.agg (A0f (A0q x+A0q y))) ?_ ?_;·intro ac ad G b h;obtain⟨aw,ay⟩:=F_ b;simp at h;refine G_ ?_;obtain⟨_,⟨A,n,c,e,E⟩,_⟩:=h;rw[e];have C:=B0u y.neg A n c _ _ G E (A7g _) (by rw[<-E.1,u.o.1];exact E4g O.1 H.1 aE);rw[E1n u.o E.1]at C;exact H_ C
  intro ac ad wa b h (ax:Hid _);simp at h;go_simp;have aA:=h.2.2.2.2.2.2.2;obtain⟨⟨D,Z⟩,ab⟩:=aA;obtain⟨ai,m1,aq,aR,ar,az,X⟩:=FZ D;have Y:=A_ D;have al:=A_ Z;have am:=A_ ab;clear h ax az X D Z ab;obtain⟨aJ,aK⟩:=F_ b;have aN:w.1.size<wa.1.size:=ltg b;have aO:w.1.size+1<wa.1.size:=ltg b;have aP:w.1.size+1+1<wa.1.size:=ltg b;go_wp2;refine CK (v:=BJ #[J (A0f (A0q x+A0q y)).neg,QX ai m1 aq]) (by simp[CO,results199,go_sem, *]) rfl ?_;rw[ar]at Y;refine A1s (lo:=w.1.size+3) Y al (λan ae=>by have:=(am an ae).1;omega) oS ?_ ?_;·exact Above.go
  exact Below.go
 have u:=A_ (enc_of (add_ge aa W));have S:=A_ (by have:=B8n W;omega:0<=sgn (val x.mag - val y.mag));have aB:=A_ W;clear aa W;go_enter func199,ntmps199;go_wp2_with fail;refine(A9p ag ah n1 n2 ao ap x.mag y.mag _ _ _ (BN aj Below.go) (BN ak Below.go) H O).mono ?_;rintro _ af ⟨rfl,T⟩;have aS:=S.o;generalize sgn (val x.mag - val y.mag)=aY at *;obtain⟨aT,aU⟩:=F_ T;have aV:w.1.size<af.1.size:=ltg T;have aW:w.1.size+1<af.1.size:=ltg T;have aX:w.1.size+1+1<af.1.size:=ltg T;go_wp2_with fail;refine X_ sI ?_;dsimp only[DN,DO,DQ];iterate 6 refine C_ _ ?_
 refine D_ (MP.sl (A0f (A0q x+A0q y)).mag) ?_ ?_;·intro ac ad G b h;obtain⟨aw,ay⟩:=F_ b;simp at h;refine G_ ?_;have:=(C4j ag ah n1 n2 ao ap x.mag y.mag _ _ G (BN aj Below.go) (BN ak Below.go) H O aF aB).mono λ_ _ au=>A8n (A0j _).1.i64 au;rw[<-u.o.1]at this;exact A1c this
 refine D_ (MP.agg (A0f (A0q x+A0q y))) ?_ ?_;·intro ac ad G b h;obtain⟨aw,ay⟩:=F_ b;simp at h;refine G_ ?_;obtain⟨_,⟨A,n,c,e,E⟩,_⟩:=h;rw[e];have C:=B0u x.neg A n c _ _ G E (A7g _) (by rw[<-E.1,u.o.1];exact E4g H.1 O.1 aD);rw[E1n u.o E.1]at C;exact H_ C
 intro ac ad wa b h (ax:Hid _);simp at h;go_simp;have aA:=h.2.2.2.2.2.2.2;obtain⟨⟨D,Z⟩,ab⟩:=aA;obtain⟨ai,m1,aq,aR,ar,az,X⟩:=FZ D;have Y:=A_ D;have al:=A_ Z;have am:=A_ ab;clear h ax az X D Z ab;obtain⟨aJ,aK⟩:=F_ b;have aN:w.1.size<wa.1.size:=ltg b;have aO:w.1.size+1<wa.1.size:=ltg b;have aP:w.1.size+1+1<wa.1.size:=ltg b;go_wp2;refine CK (v:=BJ #[J (A0f (A0q x+A0q y)).neg,QX ai m1 aq]) (by simp[CO,results199,go_sem, *]) rfl ?_;rw[ar]at Y;refine A1s (lo:=w.1.size+3) Y al (λan ae=>by have:=(am an ae).1;omega) oS ?_ ?_;·exact Above.go
 exact Below.go

theorem F3m {x:TBigInt} {ys:List Int} (h:Lims x.mag) (u:Lims ys):A0q x*val ys=if x.neg then -((val x.mag*val ys).toNat:Int)else(val x.mag*val ys).toNat:=by
 have b:=IQ (S_ h) (S_ u);rw[JF b];unfold A0q;cases x.neg<;>simp[Int.neg_mul]
theorem C6f {k m:Nat} {xs ys:List Int} (h:Lims xs) (u:Lims ys) (lx:xs.length<=k) (G:ys.length<=m):(dig (val xs*val ys).toNat).length<=k+m:=by
 have H:=A4j h;have O:=A4j u;have T:=A6t lx;have W:=A6t G;have b:=S_ h;have D:=S_ u;have E:=IQ b D;refine A4r ?_;rw[JF E,B0f];have X:val xs*val ys<=val xs*pw m:=Int.mul_le_mul_of_nonneg_left oS b;have Y:val xs*pw m<pw k*pw m:=Int.mul_lt_mul_of_pos_right oS (A5r m);omega

theorem E5a {r s:TRat} {n:Nat} (D:Lims r.1.2) (E:Lims s.2) (u:(dig (val r.1.2*val s.2).toNat).length=n):(⟨r.1.1&&BQ (0<n),dig (val r.1.2*val s.2).toNat⟩:TBigInt)=A0f (R_ r*T_ s):=by
 have b:=enc_of (F3m D E);have h:R_ r*T_ s=A0q r.1*val s.2:=rfl;rw[h,<-u,<-b.2,<-b.1]
def MP.lit0:MP:=⟨λv bs _=>(∃ g,v=QX (QZ ⟨g,0,I⟩) 0 0)/\bs=[],λ_ _ _ _ _ h=>h⟩

attribute [local simp] MP.lit0
end Go.Proofs.YtjcanieccnljfaaGreat.X
