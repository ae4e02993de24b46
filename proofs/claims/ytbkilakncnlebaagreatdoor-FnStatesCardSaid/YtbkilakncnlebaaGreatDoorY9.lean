/- A part of the proof. -/
import Derived.Test.YtbkilakncnlebaaGreatDoorY7
import Derived.Test.YtbkilakncnlebaaGreatDoorY8
set_option linter.constructorNameAsVariable false
set_option maxHeartbeats 16000000
set_option maxRecDepth 10000
open Bool renaming and_eq_true→CK,false→AF,true→AD
open Decidable renaming decide→AU
open Go renaming Addr→AH,Calls→AR,Value→AJ,World→J,bodyPost_ret→BI,heap_alloc_new→CF,info_parts→DW,maxLen→BG,results→BO
open Go.IntKind renaming i64→K
open Go.Obj renaming cells→AK
open Go.Value renaming agg→AM,bool→AC,int→QS,slice→S
open Go.XB.Below renaming box→AV,next→AI
open Go.XB.MP renaming agg→BP
open Go.XB.Sl renaming below→AQ
open Go.XB.TBigInt renaming agg→FU,mkAgg→FB
open Go.XB.TPoint renaming agg→DN
open Go.XB.TRat renaming agg→BK,mkAgg→CU
open Int renaming ediv_one→NK,emod_lt_of_pos→JY,emod_nonneg→LH,gcd→BQ,gcd_dvd_right→PO,le_of_lt→JC,mul_comm→ME,mul_pos→FX,toNat_of_nonneg→IM
open List renaming append_assoc→DM,drop_succ_cons→GG,drop_zero→EH,length_pos_iff→MF,mem_append→CO,take_succ_cons→GE,take_zero→ET
open Nat renaming le_refl→BH,le_trans→BM,lt_or_ge→BN
open Option renaming none→I,some→QL
namespace Go.Proofs.YtbkilakncnlebaaGreatDoor.X
open Go.RowKit Go.XB Go.XN Proofs.Tryz
attribute [local go_sem] L_ opAt N_ M_ Region.wanted yielded
attribute [local simp] N_ M_ MP.eq MP.agg MP.sl A0r
theorem Own.right_ {w0 w:J} {a b:List Nat} (h:Own w0 w (a++b)):Own w0 w b:=⟨(List.nodup_append.1 h.1).2.1,λg hg=>h.2 g (List.mem_append_right _ hg)⟩

theorem C3b (A B:Option AH) (n m c d:Nat) (xs ys:List Int) (bs b:List Nat) (w:J) (H:Sl w A n c xs bs) (E:Sl w B m d ys b) (aA:XN.Can xs) (aB:XN.Can ys) (ac:n<=65536) (D:m<=65536) :
  AR prog 227 #[S A n c,S B m d] w (A0w w (dig (BQ (val xs) (val ys)))):=by
 obtain⟨aT,aC,aQ,aR,aS⟩:=DW A6b;have aZ:=A_ H;have a1:=A_ E;have aY:=A_ aA;have au:=A_ aB;have aF:=A_ (BM ac (by decide:65536<=1048576));have aD:=A_ (BM D (by decide:65536<=1048576));clear H E aA aB;go_enter func227,ntmps227
 go_wp2_with (first
  |(at_builtin;(refine A6r rfl _ _ 31 rfl 3 aT underlying31 aC aQ aR aS _ rfl A n c xs bs rfl (AQ aZ Below.go) aF ?_);intro ag al s1 W aM aH h)
  |(at_builtin;(refine A6r rfl _ _ 31 rfl 3 aT underlying31 aC aQ aR aS _ rfl B m d ys b rfl (AQ a1 Below.go) aD ?_);intro Z aa bh bi aO aJ O))
 have aw:Bw w W:=Below.go;have ax:Bw w bi:=Below.go;have aN:=A_ (AQ (AQ aM (show Bw W _ from(Below.refl _ _).alloc (BH _) _)) O);have aI:=A_ (Own.older (Own.below (Own.below aH (show Bw W _ from(Below.refl _ _).alloc (BH _) _)) O) (by simp:w.1.size<=_));have aP:=A_ aO;have aK:=A_ (Own.older aJ (by have:=aw.size;simp;omega:w.1.size<=_));clear aM aH aO aJ h O aw;go_loopg [5,6] (val ys).toNat (λg s0 s1 wr=>∃ (A B:Option AH) (n m c d:Nat) (x y:List Int) (bs b:List Nat),s0=S A n c/\s1=S B m d/\Hid (Sl wr A n c x bs)/\Hid (Own w wr bs)/\Hid (Sl wr B m d y b)/\Hid (Own w wr b)/\Hid (XN.Can x)/\Hid (XN.Can y)/\n<=65536/\m<=65536/\Hid (BQ (val x) (val y)=BQ (val xs) (val ys))/\Hid (val y=g)/\Bw w wr);case atStart=>exact⟨ag,Z,n,m,al,aa,xs,ys,s1,bh,rfl,rfl,aN,aI,aP,aK,aY,au,ac,D,rfl,(IM (S_ au.1)).symm,ax⟩
 case round =>
  obtain⟨A,B,n,m,c,d,x,y,bs,b,rfl,rfl,H,bg,E,aU,X,u,ac,D,an,ba,G⟩:=hrel;clear aN aI aP aK ax aF aD;have af:=A_ (show y.length=m from E.1);have bc:=A_ (show x.length=n from H.1);by_cases aE:0<m
  ·have ae:=A_ (u.pos (by intro e;have:=af.o;rw[e]at this;simp at this;omega))
   by_cases ap:n<3/\m<3;·have aG:(n:Int)<3:=oS;have be:(m:Int)<3:=oS;have a2:=A_ (S_ X.1);have a4:=A_ (S_ u.1);have a3:=A_ (show val x<=9223372036854775807 by have am:=A4j X.1;have ab:=A6t (by rw[bc.o];omega:x.length<=2);rw[pw_vals.2.1]at ab;omega);have a5:=A_ (show val y<=9223372036854775807 by have am:=A4j u.1;have ab:=A6t (by rw[af.o];omega:y.length<=2);rw[pw_vals.2.1]at ab;omega);have bf:=A_ (by omega:n<=2);have bd:=A_ (by omega:m<=2);clear ap;go_wp2_with fail;refine(B7e A n c x bs wr H X bf).mono ?_;rintro _ w3 ⟨rfl,ay⟩;have a6:=AI G ay;go_wp2_with fail;refine(B7e B m d y b w3 (AQ E ay) u bd).mono ?_;rintro _ bj ⟨rfl,a7⟩;have az:=AI a6 a7;go_wp2_with fail;refine(C8g (val x) (val y) bj a2 a4 a3 a5).mono ?_;rintro _ bm ⟨bl,rfl,aL,a8⟩;have a9:=AI az a8;rw[an.o]at aL;go_wp2;go_ret;exact A2r (A8u aL az.size) rfl (A0j _).1.i64 a9
   have rl:=A_ (show(dig (val x % val y).toNat).length<=m from by refine A4r ?_;have am:=JY (val x) ae;have ab:=LH (val x) (by have:=ae.o;omega:val y≠0);have Y:=A4j u.1;rw[af.o]at Y;omega);have aV:=A_ (show BQ (val y) (val (dig (val x % val y).toNat))=BQ (val xs) (val ys) by rw[A1j,IM (LH _ (by have:=ae.o;omega)),B8y];exact an);have aW:=A_ (show val (dig (val x % val y).toNat)=((val x % val y).toNat:Int)from A1j _);have aX:=A_ (show(val x % val y).toNat<gk by have am:=JY (val x) ae;have ab:=ba.o;have Y:=ae.o;omega);have ar:=A_ (A0j (val x % val y).toNat);rcases BN n 3 with Y|Y
   ·have aG:(n:Int)<3:=oS
    have be:¬ ((m:Int)<3):=oS;clear ap Y;go_wp2_with fail;refine(B1v A B n m c d x y bs b wr H E X u ac aE D).mono ?_;rintro _ W ⟨ag,n1,al,b1,Z,n2,aa,b2,rfl,ao,T,ad,h⟩;have ai:=A_ T;have ah:=A_ (Own.older (Own.right_ ad) G.size);have aj:=A_ (AQ E h);have ak:=A_ (Own.below aU h);have O:Bw w W:=AI G h;have aq:=A_ (show n2<=65536 from BM (by rw[<-T.1];exact rl) D);clear ao T ad G h;go_wp2_with fail;go_roundg (val x % val y).toNat;case measure=>exact aX
    case rel=>exact⟨B,Z,m,n2,d,aa,y,_,b,b2,rfl,rfl,aj,ak,ai,ah,u,ar,D,aq,aV,aW,O⟩
   have aG:¬ ((n:Int)<3):=oS;clear ap Y;go_wp2_with fail;refine(B1v A B n m c d x y bs b wr H E X u ac aE D).mono ?_;rintro _ W ⟨ag,n1,al,b1,Z,n2,aa,b2,rfl,ao,T,ad,h⟩;have ai:=A_ T;have ah:=A_ (Own.older (Own.right_ ad) G.size);have aj:=A_ (AQ E h);have ak:=A_ (Own.below aU h);have O:Bw w W:=AI G h;have aq:=A_ (show n2<=65536 from BM (by rw[<-T.1];exact rl) D);clear ao T ad G h;go_wp2_with fail;go_roundg (val x % val y).toNat;case measure=>exact aX
   case rel=>exact⟨B,Z,m,n2,d,aa,y,_,b,b2,rfl,rfl,aj,ak,ai,ah,u,ar,D,aq,aV,aW,O⟩
  obtain rfl:m=0:=oS;have e:=A_ (show x=dig (BQ (val xs) (val ys)) by rw[<-an.o,show val y=0 by rw[List.eq_nil_of_length_eq_zero af.o];rfl,Int.gcd_zero_right];exact(X.dig_natAbs).symm);go_wp2;go_ret;rw[<-e.o];exact⟨A,n,c,bs,rfl,H,bg,G⟩

theorem B7b (v:AJ) (x:TBigInt) (bs:List Nat) (w:J) (aa:Agg w v x bs) :
  AR prog 174 #[v] w (A0b w (AC (A2j x))):=by
 obtain⟨h,n1,D,ac,rfl,rfl,Z⟩:=FU aa;have G:=A_ Z;clear Z aa;have u:=A_ (show A2j x=(A3m x.mag&&(!x.neg || AU (0<n1))) by unfold A2j;congr 1;congr 1;rw[<-G.o.1];cases x.mag<;>simp);cases H:A3m x.mag;·go_enter func174,ntmps174;go_wp2_with fail;have C:=B3v h n1 D x.mag bs (w.alloc (AK #[AC x.neg,S h n1 D] 33)) (AQ G Below.go);rw[H]at C;refine C.mono ?_;clear C;rintro _ E ⟨rfl,b⟩;obtain⟨W,X⟩:=F_ b;have ab:w.1.size<E.1.size:=ltg b;go_wp2;go_ret;exact⟨Q_ (by rw[u.o,H];rfl),Below.go⟩
 have T:=A_ H;clear H;rw[T.o,Bool.true_and]at u;cases Y:x.neg;·have O:=A_ (by rw[u.o,Y];rfl:AD=A2j x);clear u;go_enter func174,ntmps174;go_wp2_with fail;have C:=B3v h n1 D x.mag bs (w.alloc (AK #[AC AF,S h n1 D] 33)) (AQ G Below.go);rw[T.o]at C;refine C.mono ?_;clear C;rintro _ E ⟨rfl,b⟩;obtain⟨W,X⟩:=F_ b;have ab:w.1.size<E.1.size:=ltg b;go_wp2;go_ret;exact⟨Q_ O,Below.go⟩
 have O:=A_ (by rw[u.o,Y];rfl:AU (0<n1)=A2j x);clear u;go_enter func174,ntmps174;go_wp2_with fail;have C:=B3v h n1 D x.mag bs (w.alloc (AK #[AC AD,S h n1 D] 33)) (AQ G Below.go);rw[T.o]at C;refine C.mono ?_;clear C;rintro _ E ⟨rfl,b⟩;obtain⟨W,X⟩:=F_ b;have ab:w.1.size<E.1.size:=ltg b;go_wp2;go_ret;exact⟨Q_ O,Below.go⟩

theorem B0u (neg:Bool) (A:Option AH) (n c:Nat) (xs:List Int) (bs:List Nat) (w:J) (af:Sl w A n c xs bs) (am:XN.Can xs) (ab:n<=60) :
  AR prog 176 #[AC neg,S A n c] w (A0c w (⟨neg&&AU (0<n),xs⟩:TBigInt)):=by
 obtain⟨aj,ad,ag,ah,ai⟩:=DW A6b;have G:=A_ af;have ae:=A_ (BM ab (by decide:60<=1048576));have H:=A_ (by rw[am.trim_eq];exact af.1:(trim xs).length=n);clear af am;cases neg
 ·show AR _ _ _ w (A0c w (⟨AF,xs⟩:TBigInt))
  go_enter func176,ntmps176;go_wp2_with fail;have C:=B5i A n c xs bs (w.alloc (AK #[AC AF,S I 0 0] 33)) (AQ G.o Below.go) (by rw[H.o];exact ab);rw[H.o]at C;refine C.mono ?_;clear C;rintro _ h ⟨rfl,b⟩;obtain⟨ak,an⟩:=F_ b;have aq:w.1.size<h.1.size:=ltg b;have Y:=A_ (AQ (AQ G (AV (AK #[AC AF,S I 0 0] 33))) b);have au:w.1.size<h.1.size+1:=oS;have ap:w.1.size+1<=h.1.size:=by have:=b.size;simp at this;omega
  go_wp2_with (at_builtin;(refine A6r rfl _ _ 31 rfl 3 aj underlying31 ad ag ah ai _ rfl A n c xs bs rfl (AQ Y Below.go) ae ?_);intro O c3 aa w3 E D u;obtain⟨al,ao⟩:=F_ u;have ar:w.1.size<w3.1.size:=by(have Z:=u.size;simp at Z;omega));have X:=A_ E;have T:=A_ D;clear E D;refine BI (v:=AM #[AC AF,S O n c3]) (by simp[BO,results176,go_sem, *]) rfl ?_;have f:=fun(W:J) (ha:Above (w.1.size+1) w3 W)=>A7w (w:=w) X.o T.o oR oR ha;refine⟨_,aa,rfl,FB (x:=⟨AF,xs⟩) (f _ ?_).1,(f _ ?_).2,?_⟩;·exact Above.go
  ·exact Above.go
  exact Below.go
 rcases Nat.eq_zero_or_pos n with ac|ac
 ·subst ac
  show AR _ _ _ w (A0c w (⟨AF,xs⟩:TBigInt));go_enter func176,ntmps176;go_wp2_with fail;have C:=B5i A 0 c xs bs (w.alloc (AK #[AC AF,S I 0 0] 33)) (AQ G.o Below.go) (by rw[H.o];exact ab);rw[H.o]at C;refine C.mono ?_;clear C;rintro _ h ⟨rfl,b⟩;obtain⟨ak,an⟩:=F_ b;have aq:w.1.size<h.1.size:=ltg b;have Y:=A_ (AQ (AQ G (AV (AK #[AC AF,S I 0 0] 33))) b);have au:w.1.size<h.1.size+1:=oS;have ap:w.1.size+1<=h.1.size:=by have:=b.size;simp at this;omega
  go_wp2_with (at_builtin;(refine A6r rfl _ _ 31 rfl 3 aj underlying31 ad ag ah ai _ rfl A 0 c xs bs rfl (AQ Y Below.go) ae ?_);intro O c3 aa w3 E D u;obtain⟨al,ao⟩:=F_ u;have ar:w.1.size<w3.1.size:=by(have Z:=u.size;simp at Z;omega));have X:=A_ E;have T:=A_ D;clear E D;refine BI (v:=AM #[AC AF,S O 0 c3]) (by simp[BO,results176,go_sem, *]) rfl ?_;have f:=fun(W:J) (ha:Above (w.1.size+1) w3 W)=>A7w (w:=w) X.o T.o oR oR ha;refine⟨_,aa,rfl,FB (x:=⟨AF,xs⟩) (f _ ?_).1,(f _ ?_).2,?_⟩;·exact Above.go
  ·exact Above.go
  exact Below.go
 have e:(AD&&AU (0<n))=AD:=by simp[ac]
 rw[e];go_enter func176,ntmps176;go_wp2_with fail;have C:=B5i A n c xs bs (w.alloc (AK #[AC AF,S I 0 0] 33)) (AQ G.o Below.go) (by rw[H.o];exact ab);rw[H.o]at C;refine C.mono ?_;clear C;rintro _ h ⟨rfl,b⟩;obtain⟨ak,an⟩:=F_ b;have aq:w.1.size<h.1.size:=ltg b;have Y:=A_ (AQ (AQ G (AV (AK #[AC AF,S I 0 0] 33))) b);have au:w.1.size<h.1.size+1:=oS;have ap:w.1.size+1<=h.1.size:=by have:=b.size;simp at this;omega
 go_wp2_with (at_builtin;(refine A6r rfl _ _ 31 rfl 3 aj underlying31 ad ag ah ai _ rfl A n c xs bs rfl (AQ Y Below.go) ae ?_);intro O c3 aa w3 E D u;obtain⟨al,ao⟩:=F_ u;have ar:w.1.size<w3.1.size:=by(have Z:=u.size;simp at Z;omega));have X:=A_ E;have T:=A_ D;clear E D;refine BI (v:=AM #[AC AD,S O n c3]) (by simp[BO,results176,go_sem, *]) rfl ?_;have f:=fun(W:J) (ha:Above (w.1.size+1) w3 W)=>A7w (w:=w) X.o T.o oR oR ha;refine⟨_,aa,rfl,FB (x:=⟨AD,xs⟩) (f _ ?_).1,(f _ ?_).2,?_⟩;·exact Above.go
 ·exact Above.go
 exact Below.go

theorem B5y (A:Option AH) (n c:Nat) (xs:List Int) (bs:List Nat) (w:J) (b:Sl w A n c xs bs) :
  AR prog 226 #[S A n c] w (A0b w (AC (AU (xs=[1])))):=by
 have E:=A_ b.1;by_cases u:n=1
 ·subst u
  obtain⟨H,X,x,rfl,T,D,O,G⟩:=Sl.getInt b (k:=0) dE;simp only[Nat.add_zero]at G;have e:=A_ (show(x==1)=AU (xs=[1]) by
   have h:=E.o;match xs,h with
   | [y],_=>simp at D;subst D;simp;rfl)
  clear b D;go_enter func226,ntmps226;go_wp2;go_ret;exact⟨Q_ e,Below.go⟩
 have e:=A_ (show AU (xs=[1])=AF by simp;intro h;apply u;rw[<-E.o,h];rfl);have W:((n:Int)==1)=AF:=oR;clear b u;go_enter func226,ntmps226;go_wp2;go_ret;exact⟨Q_ e.symm,Below.go⟩

theorem E0c (N:Nat):(⟨AD&&AU (0<(dig N).length),dig N⟩:TBigInt)=A0f (-(N:Int)):=by
 obtain⟨b,h⟩:=enc_of (neg:=AD) (N:=N) (v:=-(N:Int)) sI;rw[<-h,<-b]
theorem E6z (N:Nat):(⟨AF&&AU (0<(dig N).length),dig N⟩:TBigInt)=A0f (N:Int):=by
 obtain⟨b,h⟩:=enc_of (neg:=AF) (N:=N) (v:=(N:Int)) sI;rw[<-h,<-b]

theorem min_can:XN.Can [854775808,223372036,9]:=⟨Lims.cons dE dE (Lims.cons dE dE (Lims.one dE dE)),dE⟩
theorem E6x:(⟨AD&&AU (0<3),[854775808,223372036,9]⟩:TBigInt)=A0f (-9223372036854775808):=by
 have u:val [854775808,223372036,9]=9223372036854775808:=dE;generalize b:(9223372036854775808:Nat)=N;have D:val [854775808,223372036,9]=(N:Int):=by rw[u,<-b];rfl
 have e:[854775808,223372036,9]=dig N:=min_can.of_val D;have h:(-9223372036854775808:Int) = -(N:Int):=by rw[<-b];rfl
 rw[h,<-E0c,<-e];rfl

theorem B2n (N:Int) (w:J) (h:I64 N):AR prog 122 #[QS K N] w (A0c w (A0f N)):=by
 have aD:=h.1;have aE:=h.2;clear h;rcases Int.lt_or_le N 0 with an|an
 ·by_cases ar:N = -9223372036854775808
  ·subst ar
   have am:=A_ min_can;go_enter func122,ntmps122;go_wp2_with fail;obtain⟨aC,aq⟩:=A7v (B9p (w.alloc (AK #[AC AF,S I 0 0] 33)) [854775808,223372036,9] (by simp[BG])) (λx az=>am.o.1.i64 x az);rw[show(w.alloc (AK #[AC AF,S I 0 0] 33)).1.size=w.1.size+1 by simp]at aq;have C:=B0u AD (QL ⟨w.1.size+1,0,I⟩) 3 3 _ aC ((w.alloc (AK #[AC AF,S I 0 0] 33)).alloc (AK #[QS K 854775808,QS K 223372036,QS K 9] 3)) aq am dE;have Y:=A_ E6x;refine C.mono ?_;clear C;rintro _ H ⟨v2,ae,rfl,b,E,D⟩;rw[Y.o]at b;obtain⟨X,n2,ac,_,rfl,rfl,G⟩:=FU b;have ab:=A_ G;have aa:=A_ E;clear G E b;obtain⟨ao,ap⟩:=F_ D;have u:=A_ (by simp:w.1.size+1<=((w.alloc (AK #[AC AF,S I 0 0] 33)).alloc (AK #[QS K 854775808,QS K 223372036,QS K 9] 3)).1.size);have au:w.1.size<H.1.size:=by have:=D.size;have:=u.o;omega
   have aw:w.1.size<w.1.size+1+1:=oS;go_wp2;refine BI (v:=AM #[AC (A0f (-9223372036854775808)).neg,S X n2 ac]) (by simp[BO,results122,go_sem, *]) rfl ?_;have f:=fun(W:J) (ha:Above (w.1.size+1) H W)=>A7w (w:=w) ab aa (by have:=u.o;omega) u.o ha;refine⟨_,ae,rfl,FB (f _ ?_).1,(f _ ?_).2,?_⟩;·exact Above.go
   ·exact Above.go
   exact Below.go
  have aA:(N==-9223372036854775808)=AF:=by simp;exact ar
  have aG:-9223372036854775807<=N:=oS;have aj:=A_ (by omega:-N<=9223372036854775807);have ai:=A_ (show(dig (-N).toNat).length<=60 from BM (A4r (k:=3) (by rw[pw_vals.2.2];omega)) dE);have Y:=A_ (by rw[IM oS,Int.neg_neg]:A0f (-((-N).toNat:Int))=A0f N);go_enter func122,ntmps122;go_wp2_with fail;refine(B1m (-N) (w.alloc (AK #[AC AF,S I 0 0] 33)) aj).mono ?_;rintro _ T ⟨af,n1,ah,al,rfl,O,ak,ad⟩;have Z:=A_ O.1;have ag:=A_ O;clear O ak;obtain⟨ax,ay⟩:=F_ ad;have aB:w.1.size<T.1.size:=ltg ad;go_wp2_with fail;have C:=B0u AD af n1 ah _ al T ag.o (A0j _) (by rw[<-Z.o];exact ai);refine C.mono ?_;clear C;rintro _ H ⟨v2,ae,rfl,b,E,D⟩;rw[<-Z.o,E0c,Y.o]at b;obtain⟨X,n2,ac,_,rfl,rfl,G⟩:=FU b;have ab:=A_ G;have aa:=A_ E;clear G E b;obtain⟨ao,ap⟩:=F_ D;have u:=A_ (by omega:w.1.size+1<=T.1.size);have au:w.1.size<H.1.size:=by have:=D.size;have:=u.o;omega
  have aw:w.1.size<w.1.size+1+1:=oS;go_wp2;refine BI (v:=AM #[AC (A0f N).neg,S X n2 ac]) (by simp[BO,results122,go_sem, *]) rfl ?_;have f:=fun(W:J) (ha:Above (w.1.size+1) H W)=>A7w (w:=w) ab aa (by have:=u.o;omega) u.o ha;refine⟨_,ae,rfl,FB (f _ ?_).1,(f _ ?_).2,?_⟩;·exact Above.go
  ·exact Above.go
  exact Below.go
 have aA:(N==-9223372036854775808)=AF:=oR;have aF:¬ (N<0):=oS;have aj:=A_ (by omega:N<=9223372036854775807);have ai:=A_ (show(dig N.toNat).length<=60 from BM (A4r (k:=3) (by rw[pw_vals.2.2];omega)) dE);have Y:=A_ (by rw[IM an]:A0f ((N.toNat:Nat):Int)=A0f N);go_enter func122,ntmps122;go_wp2_with fail;refine(B1m N (w.alloc (AK #[AC AF,S I 0 0] 33)) aj).mono ?_;rintro _ T ⟨af,n1,ah,al,rfl,O,ak,ad⟩;have Z:=A_ O.1;have ag:=A_ O;clear O ak;obtain⟨ax,ay⟩:=F_ ad;have aB:w.1.size<T.1.size:=ltg ad;go_wp2_with fail;have C:=B0u AF af n1 ah _ al T ag.o (A0j _) (by rw[<-Z.o];exact ai);refine C.mono ?_;clear C;rintro _ H ⟨v2,ae,rfl,b,E,D⟩;rw[<-Z.o,E6z,Y.o]at b;obtain⟨X,n2,ac,_,rfl,rfl,G⟩:=FU b;have ab:=A_ G;have aa:=A_ E;clear G E b;obtain⟨ao,ap⟩:=F_ D;have u:=A_ (by omega:w.1.size+1<=T.1.size);have au:w.1.size<H.1.size:=by have:=D.size;have:=u.o;omega
 have aw:w.1.size<w.1.size+1+1:=oS;go_wp2;refine BI (v:=AM #[AC (A0f N).neg,S X n2 ac]) (by simp[BO,results122,go_sem, *]) rfl ?_;have f:=fun(W:J) (ha:Above (w.1.size+1) H W)=>A7w (w:=w) ab aa (by have:=u.o;omega) u.o ha;refine⟨_,ae,rfl,FB (f _ ?_).1,(f _ ?_).2,?_⟩;·exact Above.go
 ·exact Above.go
 exact Below.go

def C8r (neg:Bool) (xs:List Int):Int:=if neg then -val xs else val xs
theorem E8m {neg:Bool} {xs:List Int} {b:Int} (D:XN.Can xs) (u:0<b) :
  mkR (C8r neg xs) b=if (dig (val xs / (BQ (val xs) b:Nat)).toNat).length<=24/\(dig (b / (BQ (val xs) b:Nat)).toNat).length<=24 then
   ⟨⟨neg&&AU (0<(dig (val xs / (BQ (val xs) b:Nat)).toNat).length),dig (val xs / (BQ (val xs) b:Nat)).toNat⟩,dig (b / (BQ (val xs) b:Nat)).toNat⟩else A0h:=by
 have O:=A5o (a:=val xs) u;have E:C8r neg xs=A0q ⟨neg&&AU (xs≠[]),xs⟩:=by
  unfold C8r A0q;by_cases h:xs=[]
  ·subst h;cases neg<;>simp[val]
  cases neg<;>simp[h]
 have G:(neg&&AU (0<(dig (val xs / (BQ (val xs) b:Nat)).toNat).length))=(neg&&AU (xs≠[])):=by
  congr 1;by_cases h:xs=[]
  ·subst h;have:val ([]:List Int)=0:=rfl;rw[this,Int.zero_ediv];simp;rfl
  have H:=D.pos h;have T:0<val xs / (BQ (val xs) b:Nat):=Int.ediv_pos_of_pos_of_dvd H oS (Int.gcd_dvd_left _ _);have:dig (val xs / (BQ (val xs) b:Nat)).toNat≠[]:=by rw[Ne,B1x];omega
  simp[h,MF.2 this]
 rw[E,D6t (x:=⟨neg&&AU (xs≠[]),xs⟩) D (by intro h;simp at h;exact h.2) u,G]

theorem D5l (neg:Bool) (A B:Option AH) (n m c d:Nat) (xs ys:List Int) (bs H:List Nat) (w:J) (aY:Sl w A n c xs bs) (aK:Sl w B m d ys H) (aH:XN.Can xs) (aI:XN.Can ys) (aV:0<m) (aJ:n<=65536) (am:m<=65536) :
  AR prog 175 #[AC neg,S A n c,S B m d] w (A0c w (mkR (C8r neg xs) (val ys))):=by
 obtain⟨b7,bV,b4,b5,b6⟩:=DW A6b;have aO:=A_ aY;have aP:=A_ aK;have ag:=A_ aH;have X:=A_ aI;have bg:=A_ (by rw[aH.trim_eq];exact aY.1:(trim xs).length=n);have aS:=A_ (by rw[aI.trim_eq];exact aK.1:(trim ys).length=m);have aq:=A_ (aI.pos (by intro e;rw[<-aK.1,e]at aV;simp at aV));have af:=A_ (E8m (neg:=neg) aH aq);have a7:=A_ (A5o (a:=val xs) aq);have b3:((m:Int)==0)=AF:=oR;clear aY aK aH aI;go_enter func175,ntmps175;go_wp2_with fail;have C:=B0s A n c xs bs (w.alloc (AK #[AC AF,S I 0 0,S I 0 0] 35)) (AQ aO Below.go);rw[bg.o]at C;refine C.mono ?_;clear C;rintro _ cc ⟨rfl,aa⟩;go_wp2_with fail;have C:=B0s B m d ys H cc (AQ aP (AI Below.go aa));rw[aS.o]at C;refine C.mono ?_;clear C;rintro _ cd ⟨rfl,bl⟩;have aA:=AI aa bl;have bd:=A_ (AQ (AQ aO (AV (AK #[AC AF,S I 0 0,S I 0 0] 35))) aA);have aQ:=A_ (AQ (AQ aP (AV (AK #[AC AF,S I 0 0,S I 0 0] 35))) aA);clear aa bl aO aP;go_wp2_with fail;obtain⟨b1,aa⟩:∃ b,b=AU (ys=[1]):=⟨_,rfl⟩
 have C:=B5y B m d ys H cd aQ;rw[<-aa]at C;have a6:=A_ aa;clear aa;refine C.mono ?_;clear C;rintro _ w3 ⟨rfl,O⟩;have ai:=A_ (AQ bd O);have aj:=A_ (AQ aQ O);have aT:=AI aA O;clear bd aQ aA O;go_upto_if 20 with fail;go_cut [7,8] (λa b wx=>∃ (ao ap:Option AH) (u aD D aE:Nat) (aZ a1:List Nat),a=S ao u aD/\b=S ap D aE/\Hid (Sl wx ao u aD (dig (val xs / (BQ (val xs) (val ys):Nat)).toNat) aZ)/\Hid (Sl wx ap D aE (dig (val ys / (BQ (val xs) (val ys):Nat)).toNat) a1)/\Below (w.alloc (AK #[AC AF,S I 0 0,S I 0 0] 35)).1.size (w.alloc (AK #[AC AF,S I 0 0,S I 0 0] 35)) wx);case first =>
  by_cases ab:BQ (val xs) (val ys)=1
  ·have a2:=A_ (by rw[ab,Int.natCast_one,NK];exact ag.eq_dig.symm:dig (val xs / (BQ (val xs) (val ys):Nat)).toNat=xs)
   have a3:=A_ (by rw[ab,Int.natCast_one,NK];exact X.eq_dig.symm:dig (val ys / (BQ (val xs) (val ys):Nat)).toNat=ys);have bG:=A_ ab;clear ab;cases b1;rotate_left;·go_wp2_with fail;go_meet;exact⟨A,B,n,c,m,d,bs,H,rfl,rfl,by rw[a2.o];exact ai,by rw[a3.o];exact aj,aT⟩
   have aL:=A_ (by rw[bG.o];rfl:AU (dig (BQ (val xs) (val ys))=[1])=AD);go_wp2_with fail;refine(C3b A B n m c d xs ys bs H w3 ai aj ag X aJ am).mono ?_;rintro _ ae ⟨T,ac,Z,ad,rfl,G,an,h⟩;have Y:=A_ G;have ar:=A_ (AQ ai h);have aw:=A_ (AQ aj h);have aB:=AI aT h;clear G an h;go_wp2_with fail;have C:=B5y T ac Z _ ad ae Y;rw[aL.o]at C;refine C.mono ?_;clear C;rintro _ br ⟨rfl,E⟩;have au:=A_ (AQ ar E);have ax:=A_ (AQ aw E);have aC:=AI aB E;go_wp2_with fail;go_meet;exact⟨A,B,n,c,m,d,bs,H,rfl,rfl,by rw[a2.o];exact au,by rw[a3.o];exact ax,aC⟩
  have bM:b1=AF:=by rw[a6.o];simp;intro ak;apply ab;rw[ak];show BQ (val xs) 1=1;simp
  subst bM;have aM:=A_ (show val (dig (BQ (val xs) (val ys)))=(BQ (val xs) (val ys):Nat)from A1j _);have aL:=A_ (show AU (dig (BQ (val xs) (val ys))=[1])=AF by simp;intro ak;apply ab;have:=aM.o;rw[ak]at this;have bi:val [1]=1:=rfl;omega);have bD:=A_ (show(dig (BQ (val xs) (val ys))).length<=65536 from BM (A4r (k:=m) (by have cj:=Int.le_of_dvd aq (PO (val xs) (val ys));have bi:=A4j X.1;rw[show ys.length=m by rw[<-aS.o,X.o.trim_eq]]at bi;omega)) am);have bE:=A_ (show 0<(dig (BQ (val xs) (val ys))).length from MF.2 (by rw[Ne,B1x];have:=a7.o;omega));clear ab;go_wp2_with fail;refine(C3b A B n m c d xs ys bs H w3 ai aj ag X aJ am).mono ?_;rintro _ ae ⟨T,ac,Z,ad,rfl,G,an,h⟩;have Y:=A_ G;have bp:=A_ (by rw[<-G.1];exact bD:ac<=65536);have bq:=A_ (by rw[<-G.1];exact bE:0<ac);have ar:=A_ (AQ ai h);have aw:=A_ (AQ aj h);have aB:=AI aT h;clear G an h;go_wp2_with fail;have C:=B5y T ac Z _ ad ae Y;rw[aL.o]at C;refine C.mono ?_;clear C;rintro _ br ⟨rfl,E⟩;have aN:=A_ (AQ Y E);have au:=A_ (AQ ar E);have ax:=A_ (AQ aw E);have aC:=AI aB E;clear ar aw aB Y E;go_wp2_with fail;refine(B1v A T n ac c Z xs _ bs ad br au aN ag (A0j _) aJ bq bp).mono ?_;rintro _ ce ⟨bA,ca,bQ,cb,cg,nr,cr,cy,rfl,aX,bZ,bX,aG⟩;rw[aM.o]at aX;have a9:=A_ aX;have ba:=A_ (AQ aN aG);have be:=A_ (AQ ax aG);have bh:=AI aC aG;clear aX bZ bX aG au aN ax aC;go_wp2_with fail;refine(B1v B T m ac d Z ys _ H ad ce be ba X (A0j _) am bq bp).mono ?_;rintro _ cB ⟨bz,b9,bP,sp,ch,cw,ci,cz,rfl,aW,b0,bY,aU⟩;rw[aM.o]at aW;have bJ:=A_ aW;have bK:=A_ (AQ a9 aU);have bN:=AI bh aU;clear aW b0 bY aU a9 ba be bh;go_wp2_with fail;go_meet;exact⟨bA,bz,ca,bQ,b9,bP,cb,sp,rfl,rfl,bK,bJ,bN⟩
 case rest =>
  obtain⟨ao,ap,u,aD,D,aE,aZ,a1,rfl,rfl,a4,a5,bb⟩:=hcut;have bB:=A_ (A0j (val xs / (BQ (val xs) (val ys):Nat)).toNat);generalize dig (val xs / (BQ (val xs) (val ys):Nat)).toNat=ay at *;generalize dig (val ys / (BQ (val xs) (val ys):Nat)).toNat=az at *;have aR:=A_ (show ay.length=u from a4.1);have bf:=A_ (show az.length=D from a5.1);clear a7 aq bg aS ag X a6 b3 aJ am aV;obtain⟨cn,cq⟩:=F_ bb;have cu:w.1.size<wc.1.size:=ltg bb;rcases BN 24 u with al|al;·have ah:=A_ (by rw[af.o,aR.o,if_neg oS]:mkR (C8r neg xs) (val ys)=A0h);have bt:(24:Int)<u:=oS;clear al af;go_wp2;refine BI (v:=AM #[AC AF,S I 0 0,S I 0 0]) (by simp[BO,results175,go_sem, *]) rfl ?_;rw[ah.o];exact A3e Below.go
  rcases BN 24 D with aF|aF;·have ah:=A_ (by rw[af.o,aR.o,bf.o,if_neg oS]:mkR (C8r neg xs) (val ys)=A0h);have bt:¬ ((24:Int)<u):=oS;have cf:(24:Int)<D:=oS;clear al aF af;go_wp2;refine BI (v:=AM #[AC AF,S I 0 0,S I 0 0]) (by simp[BO,results175,go_sem, *]) rfl ?_;rw[ah.o];exact A3e Below.go
  have ah:=A_ (by rw[af.o,aR.o,bf.o,if_pos ⟨al,aF⟩]:mkR (C8r neg xs) (val ys)=⟨⟨neg&&AU (0<u),ay⟩,az⟩);have bt:¬ ((24:Int)<u):=oS;have cf:¬ ((24:Int)<D):=oS;have bT:=A_ (by omega:u<=60);have bW:=A_ (by omega:D<=1048576);clear al aF af;go_wp2_with fail;refine(B0u neg ao u aD ay aZ wc a4 bB bT).mono ?_;rintro _ w3 ⟨cA,cx,rfl,bj,bm,O⟩;obtain⟨bu,b8,bO,_,rfl,rfl,bn⟩:=FU bj;have bc:=A_ bn;have bH:=A_ bm;have bF:=A_ (AQ a5 O);have bo:=A_ (by omega:w.1.size+1<=wc.1.size);clear bn bm bj;obtain⟨ck,co⟩:=F_ O;have cs:w.1.size<w3.1.size:=ltg O;have cv:w.1.size<w3.1.size+1:=oS;go_wp2_with (at_builtin;(refine A6r rfl _ _ 31 rfl 3 b7 underlying31 bV b4 b5 b6 _ rfl ap D aE az a1 rfl (AQ bF Below.go) bW ?_);intro T Z ad ae G an h;obtain⟨cm,cp⟩:=F_ h;have ct:w.1.size<ae.1.size:=by(have ak:=h.size;simp at ak;omega));have Y:=A_ G;have a8:=A_ an;have bL:=A_ (AQ (AQ bc (show Bw w3 _ from AV (AK #[] 3))) h);have bI:=A_ (Own.below (Own.below bH (show Bw w3 _ from AV (AK #[] 3))) h);have bv:=A_ (A9o (N:=w3.1.size) (b2:=ad) bc.lt (λb bU=>by have:=(a8.2 b bU).1;simp at this;omega));refine BI (v:=AM #[AC (neg&&AU (0<u)),S bu b8 bO,S T D Z]) (by simp[BO,results175,go_sem, *]) rfl ?_;rw[ah.o];have bR:=fun(W:J) (ha:Above (w.1.size+1) ae W)=>A7w (w:=w) bL bI (by have:=bo.o;omega) bo.o ha;have bS:=fun(W:J) (ha:Above (w.1.size+1) ae W)=>A7w (w:=w) Y.o a8.o oR oR ha;refine B4k (x:=⟨⟨neg&&AU (0<u),ay⟩,az⟩) (bR _ ?_) (bS _ ?_) bv ?_;·exact Above.go
  ·exact Above.go
  exact Below.go

theorem B4u (w:J) (o:Obj) (k:Nat) (h:k<w.1.size):(w.alloc o).1[k]?=w.1[k]?:=(J.grownBy_alloc w o I).block k h sI
theorem Above.alloc2 {lo:Nat} {w b:J} {o:Obj} (h:Above lo w b) (G:b.1.size=w.1.size):Above lo (w.alloc o) (b.alloc o):=by
 refine⟨by simp[G],λu H O=>?_⟩;simp at O;rcases BN u w.1.size with D|D
 ·rw[B4u b o u oS,B4u w o u D];exact h.block u H D
 have e:u=w.1.size:=oS;have E:=CF b o;rw[G]at E;rw[e,E,CF w o]
theorem E9c (w:J) (xs:List Int) (u:xs.length<=BG) (hi:∀ x∈xs,I64 x) :
  ∃ bs,Sl (w.alloc (AK (xs.map (QS K)).toArray 3)) (QL ⟨w.1.size,0,I⟩) xs.length xs.length xs bs/\Own w (w.alloc (AK (xs.map (QS K)).toArray 3)) bs:=by
 obtain⟨G,H,c',b,h,E,D,_⟩:=A2r (B9p w xs u) rfl hi (AV _);injection h with e1;injection e1 with e2 e3 e4;subst e2;subst e3;subst e4;exact⟨b,E,D⟩

theorem B0d (N:Int) (w:J) (h:I64 N):AR prog 75 #[QS K N] w (A0c w (U_ N)):=by
 go_enter func75,ntmps75;go_wp2_with fail;refine(B2n N _ h).mono ?_;rintro _ b ⟨v1,am,rfl,E,H,G⟩;obtain⟨Z,n1,ae,_,rfl,rfl,T⟩:=FU E;have D:=A_ T;have ab:=A_ H;clear T H E;obtain⟨aj,ak⟩:=F_ G;have al:w.1.size<b.1.size:=ltg G;have Y:=A_ (by omega:w.1.size+1<=b.1.size);obtain⟨ai,X,O⟩:=E9c b [1] (by simp[BG]) (by simp[I64]);have ac:=A_ X;have u:=A_ O;clear X O;go_wp2;have aa:=A_ (A9o (N:=b.1.size) (b2:=ai) D.lt (λad ah=>(u.2 ad ah).1));refine BI (v:=AM #[AC (A0f N).neg,S Z n1 ae,S (QL ⟨b.1.size,0,I⟩) 1 1]) (by simp[BO,results75,go_sem, *]) rfl ?_;have af:=fun(W:J) (ha:Above (w.1.size+1) b W)=>A7w (w:=w) D.o ab.o sI sI ha;have ag:=fun(W:J) (ha:Above (w.1.size+1) (b.alloc (AK #[QS K 1] 3)) W)=>A7w (w:=w) (A:=QL ⟨b.1.size,0,I⟩) (n:=1) (c:=1) (xs:=[(1:Int)]) ac u (by have:=Y.o;omega) Y.o ha;refine B4k (x:=U_ N) (af _ ?_) (ag _ ?_) aa ?_;·exact Above.go
 ·refine Above.alloc2 ?_ sI;exact Above.go
 exact Below.go
def MP.lit0:MP:=⟨λv bs _=>(∃ g,v=S (QL ⟨g,0,I⟩) 0 0)/\bs=[],λ_ _ _ _ _ h=>h⟩

attribute [local simp] MP.lit0


end Go.Proofs.YtbkilakncnlebaaGreatDoor.X

namespace Go.XN
open Go.XB
def A8v (xs:List TRat):TRat:=xs.foldl A0k (U_ 0)
theorem E2f {xs:List TRat} {k:Nat} {x:TRat} (h:xs[k]?=QL x):A8v (xs.take (k+1))=A0k (A8v (xs.take k)) x:=by
 unfold A8v;rw[take_step h,List.foldl_append];rfl
end Go.XN
namespace Go.XB
theorem Free.keep {w w':J} {bs:List Nat} (h:Free w bs) (hk:∀ g∈bs,w'.1[g]?=w.1[g]?):Free w' bs:=⟨h.1,λb hb=>by obtain⟨cs,t,e⟩:=h.2 b hb;exact⟨cs,t,(hk b hb).trans e⟩⟩
end Go.XB
namespace Go.Proofs.YtbkilakncnlebaaGreatDoor.X
open Go.RowKit Go.XB Go.XN Proofs.Tryz
attribute [local go_sem] L_ opAt N_ M_ Region.wanted yielded
attribute [local simp] N_ M_ MP.eq MP.agg MP.sl A0r
theorem _root_.oO {p:Prop} (h:p:=by constructor<;>decide):p:=h
theorem D6a (A:Option AH) (n c:Nat) (xs:List TRat) (bs:List Nat) (w:J) (X:Sl w A n c xs bs) :
  AR prog 81 #[S A n c] w (A0c w (A8v xs)):=by
 have aL:=A_ X.1;have aM:=A_ X;have aX:n<=BG:=BM X.2.1 X.2.2.1;unfold BG at aX;clear X;go_enter func81,ntmps81;go_wp2_with fail;refine(A0l 0 _ oO).mono ?_;rintro _ b ⟨v1,aZ,rfl,af,aA,ah⟩;obtain⟨aE,m1,aQ,bp,aF,m2,aR,bq,rfl,ak,_,_⟩:=BK af;have aH:=A_ af;have ar:=A_ aA;clear af aA ak;obtain⟨bc,be⟩:=F_ ah;have bl:w.1.size<b.1.size:=ltg ah;have ae:=A_ (by have:=ah.size;simp at this;omega:w.1.size+1<=b.1.size);go_wp2_with fail;go_loopg [9] n (λg s wr=>∃ (k:Nat) (r:TRat) (E:Option AH) (n1 H:Nat) (G:Option AH) (n2 O:Nat) (D:List Nat),k+g=n/\s=QS K k/\Hid (r=A8v (xs.take k))/\Hid (Agg wr (AM #[AC r.1.1,S E n1 H,S G n2 O]) r D)/\Hid (Free wr D/\∀ h∈D,w.1.size+1<=h/\h≠b.1.size)/\Bw w wr/\(b.1.size<wr.1.size/\wr.cell? ⟨w.1.size,0,I⟩=QL (AC AF)/\wr.cell? ⟨w.1.size,1,I⟩=QL (S I 0 0)/\wr.cell? ⟨w.1.size,2,I⟩=QL (S I 0 0)/\wr.frozen? ⟨w.1.size,0,I⟩=AF/\wr.frozen? ⟨w.1.size,1,I⟩=AF/\wr.frozen? ⟨w.1.size,2,I⟩=AF)/\wr.cell? ⟨b.1.size,0,I⟩=QL (AC r.1.1)/\wr.cell? ⟨b.1.size,1,I⟩=QL (S E n1 H)/\wr.cell? ⟨b.1.size,2,I⟩=QL (S G n2 O)/\wr.frozen? ⟨b.1.size,0,I⟩=AF/\wr.frozen? ⟨b.1.size,1,I⟩=AF/\wr.frozen? ⟨b.1.size,2,I⟩=AF);case atStart =>
  refine⟨0,U_ 0,aE,m1,aQ,aF,m2,aR,aZ,oS,rfl,by show U_ 0=A8v (xs.take 0);rfl,aH.below Below.go,⟨ar.free.below Below.go,λh u=>by have:=ar.range h u;simp at this;omega⟩,Below.go,?_,?_⟩;·refine⟨sI,?_,?_,?_,?_,?_,?_⟩<;>go_simp
  refine⟨?_,?_,?_,?_,?_,?_⟩<;>go_simp
 case round =>
  obtain⟨k,r,E,n1,H,G,n2,O,D,ay,rfl,aC,aw,ai,u,aT,bg⟩:=hrel;have ac:=A_ u;obtain⟨aU,ba⟩:=aT;have aO:=A_ aU;rcases BN k n with Z|Z
  ·obtain⟨a3,bo,x,a1,q1,p1,a7,a2,q2,p2,a8,rfl,a9,aD,a4,a5,a6,ax⟩:=TRat.elemA (AQ aM u) Z
   have aN:=A_ aD;have aJ:=A_ ax;have aW:(k:Int)<n:=oS;obtain⟨g,rfl⟩:∃ g,gk=g+1:=⟨gk - 1,oS⟩
   have aV:=A_ (by omega:k+1+g=n);have bi:w.1.size<wr.1.size:=by have:=ae.o;omega
   have bh:w.1.size<wr.1.size+1:=oS;have bj:b.1.size<wr.1.size+1:=oS;have aP:=A_ (by rw[E2f aN.o,aC.o]:A0k r x=A8v (xs.take (k+1)));clear aD ay Z ax;go_wp2_with fail;refine(A0x _ _ r x _ _ _ (Agg.below aw (AV _)) (Agg.below aJ (AV _))).mono ?_;rintro _ T ⟨v2,al,rfl,ag,aB,Y⟩;obtain⟨aa,am,ao,br,ab,an,ap,bt,rfl,ak,_,_⟩:=BK ag;have aI:=A_ ag;have au:=A_ aB;have aK:=A_ Y;clear ag aB ak;obtain⟨bd,bf⟩:=F_ Y;have bm:w.1.size<T.1.size:=by have:=Y.size;simp at this;omega
   have bn:b.1.size<T.1.size:=by have:=Y.size;simp at this;omega
   have az:∀ h∈al,w.1.size+1<=h/\h≠b.1.size:=λh u=>by have:=(au.range h u).1;simp at this;have:=aO.o;have:=ac.size;have:=ae.o;omega
   have aq:=A_ az;have ad:=A_ (by have:=ae.o;omega:w.1.size<=b.1.size);clear az;go_wp2_with fail;go_roundg g;case measure=>omega
   case rel =>
    have W:∀ g∈al,(((T.setCell ⟨b.1.size,0,I⟩ (AC (A0k r x).1.1)).setCell ⟨b.1.size,1,I⟩ (S aa am ao)).setCell ⟨b.1.size,2,I⟩ (S ab an ap)).1[g]?=T.1[g]? :=
     λg aj=>A0m b.1.size [AC (A0k r x).1.1,S aa am ao,S ab an ap] T 0 g (aq g aj).2
    refine⟨k+1,A0k r x,aa,am,ao,ab,an,ap,al,aV,gN,aP,aI.keep W,⟨au.free.keep W,aq⟩,?_,?_,?_⟩;·have aS:Bw w T:=AI (AI ac (AV _)) aK;exact((aS.setCell (p:=⟨b.1.size,0,I⟩) ad _).setCell (p:=⟨b.1.size,1,I⟩) ad _).setCell (p:=⟨b.1.size,2,I⟩) ad _
    ·refine⟨oR,?_,?_,?_,?_,?_,?_⟩<;>go_simp
    refine⟨?_,?_,?_,?_,?_,?_⟩<;>go_simp
  have aW:¬ ((k:Int)<n):=oS;have aG:=A_ (by rw[aC.o,List.take_of_length_le (by rw[aL.o];omega)]:r=A8v xs);clear ay Z;go_wp2_with fail;refine BI (v:=AM #[AC r.1.1,S E n1 H,S G n2 O]) (by simp[BO,results81,go_sem, *]) rfl ?_;rw[<-aG.o];have aY:∀ h∈D,h≠w.1.size:=λh u=>by have:=(ai.2 h u).1;omega
  have W:∀ g∈D,(((wr.setCell ⟨w.1.size,0,I⟩ (AC r.1.1)).setCell ⟨w.1.size,1,I⟩ (S E n1 H)).setCell ⟨w.1.size,2,I⟩ (S G n2 O)).1[g]?=wr.1[g]? :=
   λg aj=>A0m w.1.size [AC r.1.1,S E n1 H,S G n2 O] wr 0 g (aY g aj)
  refine⟨_,D,rfl,aw.keep W,(ai.1.keep W).own (λh u=>by have:=(ai.2 h u).1;omega),?_⟩;exact((ac.setCell (p:=⟨w.1.size,0,I⟩) (BH _) _).setCell (p:=⟨w.1.size,1,I⟩) (BH _) _).setCell (p:=⟨w.1.size,2,I⟩) (BH _) _
theorem E0f {a b c:Int} (u:BQ a b=1) (h:b∣a*c):b∣c:=by
 have D:b.natAbs∣a.natAbs*c.natAbs:=by rw[<-Int.natAbs_mul];exact Int.natAbs_dvd_natAbs.2 h
 have E:Nat.Coprime b.natAbs a.natAbs:=by rw[Nat.coprime_comm];exact u
 exact Int.natAbs_dvd_natAbs.1 (E.dvd_of_dvd_mul_left D)

theorem E8n {a b c d:Int} (E:0<b) (O:0<d) (u:BQ a b=1) (D:BQ c d=1) (e:a*d=c*b):a=c/\b=d:=by
 have G:b∣d:=by
  have h:b∣a*d:=⟨c,by rw[e,ME]⟩
  exact E0f u h
 have T:d∣b:=by
  have h:d∣c*b:=⟨a,by rw[<-e,ME]⟩
  exact E0f D h
 have H:b=d:=Int.dvd_antisymm (JC E) (JC O) G T;subst H;exact⟨Int.eq_of_mul_eq_mul_right oS e,rfl⟩

theorem B6r {A B:Int} (E:0<B):∃ g a b:Int,0<g/\A=g*a/\B=g*b/\0<b/\BQ a b=1/\A / BQ A B=a/\B / BQ A B=b:=by
 have G:0<BQ A B:=Int.gcd_pos_of_ne_zero_right A oS;have h:(0:Int)<BQ A B:=oS;have u:=Int.mul_ediv_cancel' (Int.gcd_dvd_left (a:=A) (b:=B));have D:=Int.mul_ediv_cancel' (PO (a:=A) (b:=B));refine⟨BQ A B,A / BQ A B,B / BQ A B,h,u.symm,D.symm,?_,?_,rfl,rfl⟩;·exact Int.ediv_pos_of_pos_of_dvd E (JC h) (PO _ _)
 exact Int.gcd_ediv_gcd_ediv_gcd G

theorem A9v {T:TRat} (b:RatV T) {A B:Int} (X:0<B) (e:A*T_ T=R_ T*B):mkR A B=T:=by
 obtain⟨g,a,h,ad,Y,Z,aa,W,u,D⟩:=B6r (A:=A) X;have ab:BQ (R_ T) (T_ T)=1:=by
  have:=b.one;unfold R_ T_ A0q;split;·rw[Int.neg_gcd];exact this
  exact this
 have E:a*T_ T=R_ T*h:=by rw[Y,Z]at e;refine Int.eq_of_mul_eq_mul_left (a:=g) oS ?_;rw[<-Int.mul_assoc,e,Int.mul_left_comm]
 obtain⟨G,H⟩:=E8n aa b.den0 W ab E;have O:h=val T.2:=H;unfold mkR;rw[u,D,G,O,b.2.dig_natAbs];have ac:dig (R_ T).natAbs=T.1.2:=by unfold R_;rw[D5q,b.mag.dig_natAbs]
 rw[ac,if_pos ⟨b.num24,b.den24⟩];unfold R_;rw[D6d b.1]

theorem E8a {A B:Int} (E:0<B) (h:J_ (mkR A B)=AD):R_ (mkR A B)*B=A*T_ (mkR A B):=by
 obtain⟨g,a,b,X,G,H,W,T,u,D⟩:=B6r (A:=A) E;have O:mkR A B=⟨A0f a,dig b.natAbs⟩:=by
  unfold mkR at h ⊢;rw[u,D]at h ⊢;split;·rfl
  rename_i h2;rw[if_neg h2]at h;rw[D2b]at h;cases h
 rw[O];unfold R_ T_;simp only[A5m,A1j];rw[G,H,Int.natAbs_of_nonneg oS];rw[Int.mul_left_comm,Int.mul_assoc]

theorem E5r {r s:TRat} (b:J_ r=AD) (h:J_ s=AD):A0k r s=mkR (R_ r*T_ s+R_ s*T_ r) (T_ r*T_ s):=by
 unfold A0k;rw[b,h];rfl
theorem D1c {A B:Int} (T:0<B):(!(mkR A B).2.isEmpty)=J_ (mkR A B):=by
 obtain⟨g,a,b,ad,ab,ac,X,H,E,G⟩:=B6r (A:=A) T;unfold mkR;rw[E,G];split
 ·rename_i h
  have u:val (dig b.natAbs)=b:=by rw[A1j];omega
  have Z:dig b.natAbs≠[]:=by intro e;rw[e]at u;simp[val]at u;omega
  have W:J_ ⟨A0f a,dig b.natAbs⟩=AD:=by
   refine ratOkB_iff.2 ⟨?_,A0j _,by rw[u];exact X,?_,h.2,?_⟩
   ·show A2j (A0f a)=AD
    rw[bigOkB_iff];refine⟨⟨by have:=h.1;show(dig a.natAbs).length<=_;omega,A0j _⟩,?_⟩;intro O;have aa:a<0:=by simpa[A0f]using O
    show dig a.natAbs≠[];intro e;have D:=A1j a.natAbs;rw[e]at D;simp[val]at D;omega
   ·exact h.1
   show BQ (val (dig a.natAbs)) (val (dig b.natAbs))=1;rw[A1j,A1j];simpa[BQ]using H
  rw[W];cases Y:dig b.natAbs with
  |nil=>exact absurd Y Z
  |cons _ _=>rfl
 rfl
theorem C5u (r s:TRat):(!(A0k r s).2.isEmpty)=J_ (A0k r s):=by
 unfold A0k;split;·rename_i h;rw[CK]at h;exact D1c (FX (ratOkB_iff.1 h.1).den0 (ratOkB_iff.1 h.2).den0)
 rfl
theorem C6q (r s:TRat):(!(A0d r s).2.isEmpty)=J_ (A0d r s):=by
 unfold A0d;split;·rename_i h;rw[CK]at h;exact D1c (FX (ratOkB_iff.1 h.1).den0 (ratOkB_iff.1 h.2).den0)
 rfl
end Go.Proofs.YtbkilakncnlebaaGreatDoor.X

namespace Go.XN
open Go.XB
def D9t:TPoint:=⟨A0h,A0h⟩
def A1b (p:TPoint):Bool:=J_ p.x&&J_ p.y
def ifP (p:TPoint):TPoint:=bif A1b p then p else D9t
def A3y (p q:TPoint):TPoint:=ifP ⟨A0k p.x q.x,A0k p.y q.y⟩
def A4a (p q:TPoint):TPoint:=ifP ⟨A3t p.x q.x,A3t p.y q.y⟩
def A0v (r:TRat) (p:TPoint):TPoint:=ifP ⟨A0d r p.x,A0d r p.y⟩
def E3w (p q:TPoint):TRat:=A3t (A0d p.x q.y) (A0d p.y q.x)
def A2y (a b c:TPoint):TRat:=E3w (A4a b a) (A4a c a)
def A2f (p q:TPoint):TPoint:=A0v (mkR 1 2) (A3y p q)
end Go.XN
namespace Go.Proofs.YtbkilakncnlebaaGreatDoor.X
open Go.RowKit Go.XB Go.XN Proofs.Tryz
attribute [local go_sem] L_ opAt N_ M_ Region.wanted yielded
attribute [local simp] N_ M_ MP.eq MP.agg MP.sl A0r
theorem D4u (r s:TRat):(!(A3t r s).2.isEmpty)=J_ (A3t r s):=by
 unfold A3t;split;·rename_i h;rw[CK]at h;exact D1c (FX (ratOkB_iff.1 h.1).den0 (ratOkB_iff.1 h.2).den0)
 rfl
theorem E0o (w:J):Agg w (AM #[AC AF,S I 0 0,S I 0 0,AC AF,S I 0 0,S I 0 0]) D9t []:=TPoint.mkAgg (x:=D9t) (Sl.nil w) (Sl.nil w) (Sl.nil w) (Sl.nil w)
theorem B4y {w W:J} (hb:Bw w W):A0c w D9t (.returned (AM #[AC AF,S I 0 0,S I 0 0,AC AF,S I 0 0,S I 0 0])) W:=⟨_,[],rfl,E0o W,Own.nil _ _,hb⟩
theorem B4l {w:J} {x:TPoint} {u0 u1 u2 u u4 D:AJ} {b1 b2:List Nat} (E:Agg w (AM #[u0,u1,u2]) x.x b1) (G:Agg w (AM #[u,u4,D]) x.y b2):Agg w (AM #[u0,u1,u2,u,u4,D]) x (b1++b2):=by
 obtain⟨T,n1,Z,af,W,n2,aa,ag,b,rfl,k1,k2⟩:=BK E;obtain⟨X,ad,ab,ah,Y,ae,ac,ai,h,rfl,H,O⟩:=BK G;injection b with b;injection h with h;simp at b h;obtain⟨rfl,rfl,rfl⟩:=b;obtain⟨rfl,rfl,rfl⟩:=h;rw[DM];exact TPoint.mkAgg k1 k2 H O
theorem E9v {w:J} {x:TPoint} {u0 u1 u2 u u4 D:AJ} {b:List Nat} (h:Agg w (AM #[u0,u1,u2,u,u4,D]) x b):∃ b1 b2,b=b1++b2/\Agg w (AM #[u0,u1,u2]) x.x b1/\Agg w (AM #[u,u4,D]) x.y b2:=by
 obtain⟨X,n1,ab,H,Y,n2,ac,O,Z,af,ad,T,aa,ag,ae,W,e,rfl,k1,k2,E,G⟩:=DN h;injection e with e;simp at e;obtain⟨rfl,rfl,rfl,rfl,rfl,rfl⟩:=e;exact⟨H++O,T++W,by rw[DM],CU k1 k2,CU E G⟩

theorem B8u (v:AJ) (r:TRat) (b:List Nat) (w:J) (H:Agg w v r b) :
  AR prog 222 #[v] w (A0b w (QS K (A9m r))):=by
 have E:=A_ H;obtain⟨T,n1,Y,ag,W,n2,Z,ah,rfl,rfl,ab,ac⟩:=BK H;clear ab ac H;cases h:J_ r;·have D:=A_ (by unfold A9m;rw[h];rfl:0=A9m r);have G:=A_ h;clear h;go_enter func222,ntmps222;go_wp2_with fail;have C:=A7s _ r _ (w.alloc (AK #[AC r.1.1,S T n1 Y,S W n2 Z] 35)) (E.below (AV _));rw[G.o]at C;refine C.mono ?_;clear C;rintro _ O ⟨rfl,u⟩;go_wp2;go_ret;exact⟨A1x D.o,Below.trans (AV _) (u.mono sI)⟩
 have D:=A_ (by unfold A9m;rw[h];rfl:A2v r=A9m r);have X:=A_ (ratOkB_iff.1 h);have G:=A_ h;clear h;go_enter func222,ntmps222;go_wp2_with fail;have C:=A7s _ r _ (w.alloc (AK #[AC r.1.1,S T n1 Y,S W n2 Z] 35)) (E.below (AV _));rw[G.o]at C;refine C.mono ?_;clear C;rintro _ O ⟨rfl,u⟩;obtain⟨ad,ae⟩:=F_ u;have af:w.1.size<O.1.size:=ltg u;go_wp2_with fail;refine(A7y _ r _ O ((E.below (AV _)).below u) X.mag (A4h X.1)).mono ?_;rintro _ ai ⟨rfl,aa⟩;go_wp2;go_ret;exact⟨A1x D.o,AI (Below.trans (AV _) (u.mono sI)) aa⟩

theorem B0n (v:AJ) (x:TPoint) (b:List Nat) (w:J) (ar:Agg w v x b) (aj:(!x.x.den.isEmpty)=J_ x.x) (ak:(!x.y.den.isEmpty)=J_ x.y) :
  AR prog 195 #[v] w (A0b w (bif A1b x then v else AM #[AC AF,S I 0 0,S I 0 0,AC AF,S I 0 0,S I 0 0])):=by
 obtain⟨T,ad,Z,aB,W,ae,aa,aC,X,af,ab,aD,Y,ag,ac,aE,rfl,rfl,an,ao,ap,aq⟩:=DN ar;have P1:=A_ (CU (x:=x.x) an ao);have P2:=A_ (CU (x:=x.y) ap aq);have ah:=A_ aj;have ai:=A_ ak;clear an ao ap aq ar aj ak;cases D:J_ x.x;·have H:=A_ (by unfold A1b;rw[D];rfl:A1b x=AF);have O1:=A_ D;clear D;go_enter func195,ntmps195;go_wp2_with fail;have C:=A2p _ x.x _ ((w.alloc (AK #[AC x.x.1.1,S T ad Z,S W ae aa,AC x.y.1.1,S X af ab,S Y ag ac] 118)).alloc (AK #[AC AF,S I 0 0,S I 0 0,AC AF,S I 0 0,S I 0 0] 118)) (P1.below Below.go);rw[ah.o,O1.o]at C;refine C.mono ?_;clear C;rintro _ u ⟨rfl,h⟩;obtain⟨al,am⟩:=F_ h;have au:w.1.size<u.1.size:=ltg h;have aw:w.1.size+1<u.1.size:=ltg h;go_wp2;refine BI (v:=AM #[AC AF,S I 0 0,S I 0 0,AC AF,S I 0 0,S I 0 0]) (by simp[BO,results195,go_sem, *]) rfl ?_;rw[H.o];exact⟨rfl,Below.go⟩
 have O1:=A_ D;cases G:J_ x.y;·have H:=A_ (by unfold A1b;rw[D,G];rfl:A1b x=AF);have O2:=A_ G;clear D G;go_enter func195,ntmps195;go_wp2_with fail;have C:=A2p _ x.x _ ((w.alloc (AK #[AC x.x.1.1,S T ad Z,S W ae aa,AC x.y.1.1,S X af ab,S Y ag ac] 118)).alloc (AK #[AC AF,S I 0 0,S I 0 0,AC AF,S I 0 0,S I 0 0] 118)) (P1.below Below.go);rw[ah.o,O1.o]at C;refine C.mono ?_;clear C;rintro _ u ⟨rfl,h⟩;obtain⟨al,am⟩:=F_ h;have au:w.1.size<u.1.size:=ltg h;have aw:w.1.size+1<u.1.size:=ltg h;go_wp2_with fail;have C:=A2p _ x.y _ u (P2.below Below.go);rw[ai.o,O2.o]at C;refine C.mono ?_;clear C;rintro _ O ⟨rfl,E⟩;obtain⟨ax,ay⟩:=F_ E;have az:w.1.size<O.1.size:=ltg E;have aA:w.1.size+1<O.1.size:=ltg E;go_wp2;refine BI (v:=AM #[AC AF,S I 0 0,S I 0 0,AC AF,S I 0 0,S I 0 0]) (by simp[BO,results195,go_sem, *]) rfl ?_;rw[H.o];exact⟨rfl,Below.go⟩
 have H:=A_ (by unfold A1b;rw[D,G];rfl:A1b x=AD);have O2:=A_ G;clear D G;go_enter func195,ntmps195;go_wp2_with fail;have C:=A2p _ x.x _ ((w.alloc (AK #[AC x.x.1.1,S T ad Z,S W ae aa,AC x.y.1.1,S X af ab,S Y ag ac] 118)).alloc (AK #[AC AF,S I 0 0,S I 0 0,AC AF,S I 0 0,S I 0 0] 118)) (P1.below Below.go);rw[ah.o,O1.o]at C;refine C.mono ?_;clear C;rintro _ u ⟨rfl,h⟩;obtain⟨al,am⟩:=F_ h;have au:w.1.size<u.1.size:=ltg h;have aw:w.1.size+1<u.1.size:=ltg h;go_wp2_with fail;have C:=A2p _ x.y _ u (P2.below Below.go);rw[ai.o,O2.o]at C;refine C.mono ?_;clear C;rintro _ O ⟨rfl,E⟩;obtain⟨ax,ay⟩:=F_ E;have az:w.1.size<O.1.size:=ltg E;have aA:w.1.size+1<O.1.size:=ltg E;go_wp2;refine BI (v:=AM #[AC x.x.1.1,S T ad Z,S W ae aa,AC x.y.1.1,S X af ab,S Y ag ac]) (by simp[BO,results195,go_sem, *]) rfl ?_;rw[H.o];exact⟨rfl,Below.go⟩

theorem _root_.oD {p:Prop} (h:p:=by go_simp):p:=h
theorem B2j (v:AJ) (x:TPoint) (b:List Nat) (w:J) (ab:Agg w v x b) :
  AR prog 168 #[v] w (A0b w (AC (A1b x))):=by
 obtain⟨u,ac,H,am,D,ad,O,an,E,ae,T,ao,G,af,W,ap,rfl,rfl,X,Y,Z,aa⟩:=DN ab;have P1:=A_ (CU (x:=x.x) X Y);have P2:=A_ (CU (x:=x.y) Z aa);clear X Y Z aa ab;have ah:=A_ (show(J_ x.x&&J_ x.y)=A1b x from rfl);go_enter func168,ntmps168;go_wp2_with fail;have C:=A1r (QL ⟨w.1.size+1,0,I⟩) 2 2 [x.x,x.y] _ ((w.alloc (AK #[AC x.x.1.1,S u ac H,S D ad O,AC x.y.1.1,S E ae T,S G af W] 118)).alloc (AK #[AC x.x.1.1,S u ac H,S D ad O,AC x.y.1.1,S E ae T,S G af W] 35)) (B5x (P1.o.below Below.go) (P2.o.below Below.go) sI oD oD oD oD oD oD);refine C.mono ?_;clear C;rintro _ ag ⟨rfl,h⟩;obtain⟨ai,aj⟩:=F_ h;have ak:w.1.size<ag.1.size:=ltg h;have al:w.1.size+1<ag.1.size:=ltg h;go_wp2;go_ret;exact⟨Q_ ah,Below.go⟩


theorem A4x (v1 v2:AJ) (p q:TPoint) (b1 b2:List Nat) (w:J) (an:Agg w v1 p b1) (ao:Agg w v2 q b2) :
  AR prog 199 #[v1,v2] w (A0c w (A3y p q)):=by
 obtain⟨aT,bl,a2,bt,aU,bm,a3,bu,aV,bn,a4,bv,aW,bo,a5,bz,rfl,rfl,af,ag,ah,ai⟩:=DN an;obtain⟨aX,bp,a6,bA,aY,bq,a7,bB,aZ,br,a8,bD,a1,bs,a9,bE,rfl,rfl,aj,ak,al,am⟩:=DN ao;have P1:=A_ (CU (x:=p.x) af ag);have P2:=A_ (CU (x:=p.y) ah ai);have Q1:=A_ (CU (x:=q.x) aj ak);have Q2:=A_ (CU (x:=q.y) al am);clear af ag ah ai aj ak al am an ao;have Y:=A_ (show A3y p q=ifP (⟨A0k p.x q.x,A0k p.y q.y⟩:TPoint)from rfl);go_enter func199,ntmps199;go_wp2_with fail;refine W_ 10 kR kR kR kR kR ?_;simp only[GE,ET,GG,EH];iterate 4 refine C_ _ ?_
 refine D_ (BP (A0k p.x q.x)) ?_ ?_;·intro ap E X h u;obtain⟨aG,aI⟩:=F_ h;simp at u;refine G_ ?_;exact H_ (A0x _ _ p.x q.x _ _ X (P1.below Below.go) (Q1.below Below.go))
 iterate 4 refine C_ _ ?_
 refine D_ (BP (A0k p.y q.y)) ?_ ?_;·intro ap E X h u;obtain⟨aG,aI⟩:=F_ h;simp at u;refine G_ ?_;exact H_ (A0x _ _ p.y q.y _ _ X (P2.below Below.go) (Q2.below Below.go))
 intro ap E wa h u (aa:Hid _);simp at u;have aQ:=u.2.2.2.2.1;have aR:=u.2.2.2.2.2.2.2.2.2;obtain⟨⟨H,ab⟩,ad⟩:=aQ;obtain⟨⟨O,ac⟩,ae⟩:=aR;obtain⟨aq,aM,az,ba,ar,aN,aA,bc,aD,z4,_,_⟩:=BK H;obtain⟨au,aO,aB,bd,aw,aP,aC,be,aE,aS,_,_⟩:=BK O;rw[aD]at H;rw[aE]at O;have Z:=A_ (B4l (x:=(⟨A0k p.x q.x,A0k p.y q.y⟩:TPoint)) H O);have ax:=A_ (Free.join ab ac (aa 4 9 dE dE dE))
 have ay:=A_ (show ∀ G∈E 4++E 9,w.1.size+3<=G from λG b=>by
  rcases CO.1 b with W|W;·have:=(ad G W).1;(try simp at this);omega
  have:=(ae G W).1;(try simp at this);omega)
 clear u aa H ab ad O ac ae z4 aS;generalize E 4++E 9=zs at *;obtain⟨bf,bg⟩:=F_ h;have bh:w.1.size<wa.1.size:=ltg h;have bi:w.1.size+1<wa.1.size:=ltg h;have bj:w.1.size+1+1<wa.1.size:=ltg h;go_wp2_with fail;have C:=B0n _ (⟨A0k p.x q.x,A0k p.y q.y⟩:TPoint) _ wa Z (C5u _ _) (C5u _ _);cases D:A1b (⟨A0k p.x q.x,A0k p.y q.y⟩:TPoint);·have T:=A_ D;rw[D]at C;clear D;refine C.mono ?_;clear C;rintro _ wb ⟨rfl,b⟩;obtain⟨aF,aH⟩:=F_ b;have aJ:w.1.size<wb.1.size:=ltg b;have aK:w.1.size+1<wb.1.size:=ltg b;have aL:w.1.size+1+1<wb.1.size:=ltg b;go_wp2;refine BI (v:=AM #[AC AF,S I 0 0,S I 0 0,AC AF,S I 0 0,S I 0 0]) (by simp[BO,results199,go_sem, *]) rfl ?_;rw[Y.o];unfold ifP;rw[T.o];exact B4y Below.go
 have T:=A_ D;rw[D]at C;clear D;refine C.mono ?_;clear C;rintro _ wb ⟨rfl,b⟩;obtain⟨aF,aH⟩:=F_ b;have aJ:w.1.size<wb.1.size:=ltg b;have aK:w.1.size+1<wb.1.size:=ltg b;have aL:w.1.size+1+1<wb.1.size:=ltg b;go_wp2;refine BI (v:=AM #[AC (A0k p.x q.x).1.1,S aq aM az,S ar aN aA,AC (A0k p.y q.y).1.1,S au aO aB,S aw aP aC]) (by simp[BO,results199,go_sem, *]) rfl ?_;rw[Y.o];unfold ifP;rw[T.o];refine A1s (lo:=w.1.size+3) Z.o ax.o ay.o oS ?_ ?_;·exact Above.go
 exact Below.go

theorem A1u (v1 v2:AJ) (p q:TPoint) (b1 b2:List Nat) (w:J) (an:Agg w v1 p b1) (ao:Agg w v2 q b2) :
  AR prog 250 #[v1,v2] w (A0c w (A4a p q)):=by
 obtain⟨aT,bl,a2,bt,aU,bm,a3,bu,aV,bn,a4,bv,aW,bo,a5,bz,rfl,rfl,af,ag,ah,ai⟩:=DN an;obtain⟨aX,bp,a6,bA,aY,bq,a7,bB,aZ,br,a8,bD,a1,bs,a9,bE,rfl,rfl,aj,ak,al,am⟩:=DN ao;have P1:=A_ (CU (x:=p.x) af ag);have P2:=A_ (CU (x:=p.y) ah ai);have Q1:=A_ (CU (x:=q.x) aj ak);have Q2:=A_ (CU (x:=q.y) al am);clear af ag ah ai aj ak al am an ao;have Y:=A_ (show A4a p q=ifP (⟨A3t p.x q.x,A3t p.y q.y⟩:TPoint)from rfl);go_enter func250,ntmps250;go_wp2_with fail;refine W_ 10 kR kR kR kR kR ?_;simp only[GE,ET,GG,EH];iterate 4 refine C_ _ ?_
 refine D_ (BP (A3t p.x q.x)) ?_ ?_;·intro ap E X h u;obtain⟨aG,aI⟩:=F_ h;simp at u;refine G_ ?_;exact H_ (A5b _ _ p.x q.x _ _ X (P1.below Below.go) (Q1.below Below.go))
 iterate 4 refine C_ _ ?_
 refine D_ (BP (A3t p.y q.y)) ?_ ?_;·intro ap E X h u;obtain⟨aG,aI⟩:=F_ h;simp at u;refine G_ ?_;exact H_ (A5b _ _ p.y q.y _ _ X (P2.below Below.go) (Q2.below Below.go))
 intro ap E wa h u (aa:Hid _);simp at u;have aQ:=u.2.2.2.2.1;have aR:=u.2.2.2.2.2.2.2.2.2;obtain⟨⟨H,ab⟩,ad⟩:=aQ;obtain⟨⟨O,ac⟩,ae⟩:=aR;obtain⟨aq,aM,az,ba,ar,aN,aA,bc,aD,z4,_,_⟩:=BK H;obtain⟨au,aO,aB,bd,aw,aP,aC,be,aE,aS,_,_⟩:=BK O;rw[aD]at H;rw[aE]at O;have Z:=A_ (B4l (x:=(⟨A3t p.x q.x,A3t p.y q.y⟩:TPoint)) H O);have ax:=A_ (Free.join ab ac (aa 4 9 dE dE dE))
 have ay:=A_ (show ∀ G∈E 4++E 9,w.1.size+3<=G from λG b=>by
  rcases CO.1 b with W|W;·have:=(ad G W).1;(try simp at this);omega
  have:=(ae G W).1;(try simp at this);omega)
 clear u aa H ab ad O ac ae z4 aS;generalize E 4++E 9=zs at *;obtain⟨bf,bg⟩:=F_ h;have bh:w.1.size<wa.1.size:=ltg h;have bi:w.1.size+1<wa.1.size:=ltg h;have bj:w.1.size+1+1<wa.1.size:=ltg h;go_wp2_with fail;have C:=B0n _ (⟨A3t p.x q.x,A3t p.y q.y⟩:TPoint) _ wa Z (D4u _ _) (D4u _ _);cases D:A1b (⟨A3t p.x q.x,A3t p.y q.y⟩:TPoint);·have T:=A_ D;rw[D]at C;clear D;refine C.mono ?_;clear C;rintro _ wb ⟨rfl,b⟩;obtain⟨aF,aH⟩:=F_ b;have aJ:w.1.size<wb.1.size:=ltg b;have aK:w.1.size+1<wb.1.size:=ltg b;have aL:w.1.size+1+1<wb.1.size:=ltg b;go_wp2;refine BI (v:=AM #[AC AF,S I 0 0,S I 0 0,AC AF,S I 0 0,S I 0 0]) (by simp[BO,results250,go_sem, *]) rfl ?_;rw[Y.o];unfold ifP;rw[T.o];exact B4y Below.go
 have T:=A_ D;rw[D]at C;clear D;refine C.mono ?_;clear C;rintro _ wb ⟨rfl,b⟩;obtain⟨aF,aH⟩:=F_ b;have aJ:w.1.size<wb.1.size:=ltg b;have aK:w.1.size+1<wb.1.size:=ltg b;have aL:w.1.size+1+1<wb.1.size:=ltg b;go_wp2;refine BI (v:=AM #[AC (A3t p.x q.x).1.1,S aq aM az,S ar aN aA,AC (A3t p.y q.y).1.1,S au aO aB,S aw aP aC]) (by simp[BO,results250,go_sem, *]) rfl ?_;rw[Y.o];unfold ifP;rw[T.o];refine A1s (lo:=w.1.size+3) Z.o ax.o ay.o oS ?_ ?_;·exact Above.go
 exact Below.go

theorem A1n (v1 v2:AJ) (r:TRat) (p:TPoint) (b1 b2:List Nat) (w:J) (X:Agg w v1 r b1) (al:Agg w v2 p b2) :
  AR prog 136 #[v1,v2] w (A0c w (A0v r p)):=by
 have ab:=A_ X;obtain⟨aS,bf,aY,bm,aT,bg,aZ,bn,rfl,rfl,aG,aH⟩:=BK X;obtain⟨aU,bh,a1,bo,aV,bi,a2,bp,aW,bj,a3,bq,aX,bl,a4,br,rfl,rfl,ah,ai,aj,ak⟩:=DN al;have Q1:=A_ (CU (x:=p.x) ah ai);have Q2:=A_ (CU (x:=p.y) aj ak);clear aG aH ah ai aj ak X al;have Z:=A_ (show A0v r p=ifP (⟨A0d r p.x,A0d r p.y⟩:TPoint)from rfl);go_enter func136,ntmps136;go_wp2_with fail;refine W_ 8 kR kR kR kR kR ?_;simp only[GE,ET,GG,EH];iterate 3 refine C_ _ ?_
 refine D_ (BP (A0d r p.x)) ?_ ?_;·intro am E Y h u;obtain⟨aD,aF⟩:=F_ h;simp at u;refine G_ ?_;exact H_ (A0n _ _ r p.x _ _ Y (ab.below Below.go) (Q1.below Below.go))
 iterate 3 refine C_ _ ?_
 refine D_ (BP (A0d r p.y)) ?_ ?_;·intro am E Y h u;obtain⟨aD,aF⟩:=F_ h;simp at u;refine G_ ?_;exact H_ (A0n _ _ r p.y _ _ Y (ab.below Below.go) (Q2.below Below.go))
 intro am E wa h u (ac:Hid _);simp at u;have aP:=u.2.2.2.1;have aQ:=u.2.2.2.2.2.2.2;obtain⟨⟨H,ad⟩,af⟩:=aP;obtain⟨⟨O,ae⟩,ag⟩:=aQ;obtain⟨an,aL,aw,a5,ao,aM,ax,a6,aA,z4,_,_⟩:=BK H;obtain⟨ap,aN,ay,a7,aq,aO,az,a8,aB,aR,_,_⟩:=BK O;rw[aA]at H;rw[aB]at O;have aa:=A_ (B4l (x:=(⟨A0d r p.x,A0d r p.y⟩:TPoint)) H O);have ar:=A_ (Free.join ad ae (ac 3 7 dE dE dE))
 have au:=A_ (show ∀ G∈E 3++E 7,w.1.size+3<=G from λG b=>by
  rcases CO.1 b with W|W;·have:=(af G W).1;(try simp at this);omega
  have:=(ag G W).1;(try simp at this);omega)
 clear u ac H ad af O ae ag z4 aR;generalize E 3++E 7=zs at *;obtain⟨a9,ba⟩:=F_ h;have bc:w.1.size<wa.1.size:=ltg h;have bd:w.1.size+1<wa.1.size:=ltg h;have be:w.1.size+1+1<wa.1.size:=ltg h;go_wp2_with fail;have C:=B0n _ (⟨A0d r p.x,A0d r p.y⟩:TPoint) _ wa aa (C6q _ _) (C6q _ _);cases D:A1b (⟨A0d r p.x,A0d r p.y⟩:TPoint);·have T:=A_ D;rw[D]at C;clear D;refine C.mono ?_;clear C;rintro _ wb ⟨rfl,b⟩;obtain⟨aC,aE⟩:=F_ b;have aI:w.1.size<wb.1.size:=ltg b;have aJ:w.1.size+1<wb.1.size:=ltg b;have aK:w.1.size+1+1<wb.1.size:=ltg b;go_wp2;refine BI (v:=AM #[AC AF,S I 0 0,S I 0 0,AC AF,S I 0 0,S I 0 0]) (by simp[BO,results136,go_sem, *]) rfl ?_;rw[Z.o];unfold ifP;rw[T.o];exact B4y Below.go
 have T:=A_ D;rw[D]at C;clear D;refine C.mono ?_;clear C;rintro _ wb ⟨rfl,b⟩;obtain⟨aC,aE⟩:=F_ b;have aI:w.1.size<wb.1.size:=ltg b;have aJ:w.1.size+1<wb.1.size:=ltg b;have aK:w.1.size+1+1<wb.1.size:=ltg b;go_wp2;refine BI (v:=AM #[AC (A0d r p.x).1.1,S an aL aw,S ao aM ax,AC (A0d r p.y).1.1,S ap aN ay,S aq aO az]) (by simp[BO,results136,go_sem, *]) rfl ?_;rw[Z.o];unfold ifP;rw[T.o];refine A1s (lo:=w.1.size+3) aa.o ar.o au.o oS ?_ ?_;·exact Above.go
 exact Below.go


theorem C9n (w:J):AR prog 6 #[QS K 1,QS K 2] w (A0c w (mkR 1 2)) :=
 A7u 1 2 w oO oO dE

theorem D8n (v1 v2:AJ) (p q:TPoint) (b1 b2:List Nat) (w:J) (E:Agg w v1 p b1) (G:Agg w v2 q b2) :
  AR prog 249 #[v1,v2] w (A0c w (E3w p q)):=by
 have an:=A_ E;have ao:=A_ G;obtain⟨aB,a4,aJ,bd,aC,a5,aK,be,aD,a6,aL,bf,aE,a7,aM,bg,rfl,rfl,W,X,Y,Z⟩:=DN E;obtain⟨aF,a8,aN,bh,aG,a9,aO,bi,aH,ba,aP,bj,aI,bc,aQ,bl,rfl,rfl,aa,ab,ac,ad⟩:=DN G;have P1:=A_ (CU (x:=p.x) W X);have P2:=A_ (CU (x:=p.y) Y Z);have Q1:=A_ (CU (x:=q.x) aa ab);have Q2:=A_ (CU (x:=q.y) ac ad);clear W X Y Z aa ab ac ad E G an ao;go_enter func249,ntmps249;go_wp2_with fail;refine W_ 10 kR kR kR kR kR ?_;simp only[GE,ET,GG,EH];iterate 4 refine C_ _ ?_
 refine D_ (BP (A0d p.x q.y)) ?_ ?_;·intro ag ah H b h;obtain⟨au,ax⟩:=F_ b;simp at h;refine G_ ?_;exact H_ (A0n _ _ p.x q.y _ _ H (P1.below Below.go) (Q2.below Below.go))
 iterate 4 refine C_ _ ?_
 refine D_ (BP (A0d p.y q.x)) ?_ ?_;·intro ag ah H b h;obtain⟨au,ax⟩:=F_ b;simp at h;refine G_ ?_;exact H_ (A0n _ _ p.y q.x _ _ H (P2.below Below.go) (Q1.below Below.go))
 intro ag ah wa b h aw;clear aw;simp at h;have ae:=h.2.2.2.2.1;have af:=h.2.2.2.2.2.2.2.2.2;have ak:=A_ ae.1.1;have al:=A_ af.1.1;clear h ae af;obtain⟨aT,aV⟩:=F_ b;have aX:w.1.size<wa.1.size:=ltg b;have aZ:w.1.size+1<wa.1.size:=ltg b;have a2:w.1.size+1+1<wa.1.size:=ltg b;go_wp2_with fail;refine(A5b _ _ (A0d p.x q.y) (A0d p.y q.x) _ _ wa ak al).mono ?_;rintro _ wb ⟨bm,sb,rfl,D,T,u⟩;obtain⟨ai,az,aq,aR,aj,aA,ar,aS,rfl,ay,_,_⟩:=BK D;have am:=A_ D;have O:=A_ T;clear D T ay;obtain⟨aU,aW⟩:=F_ u;have aY:w.1.size<wb.1.size:=ltg u;have a1:w.1.size+1<wb.1.size:=ltg u;have a3:w.1.size+1+1<wb.1.size:=ltg u;go_wp2;refine BI (v:=AM #[AC (A3t (A0d p.x q.y) (A0d p.y q.x)).1.1,S ai az aq,S aj aA ar]) (by simp[BO,results249,go_sem, *]) rfl ?_;refine A1s (lo:=w.1.size+3) am O.free (λap u=>by have:=(O.2 ap u).1;(try simp at this);omega) oS ?_ ?_;·exact Above.go
 exact Below.go

theorem A7l (v0 v1 v2:AJ) (o p q:TPoint) (ak b1 b2:List Nat) (w:J) (D:Agg w v0 o ak) (G:Agg w v1 p b1) (H:Agg w v2 q b2) :
  AR prog 194 #[v0,v1,v2] w (A0c w (A2y o p q)):=by
 have T:=A_ D;obtain⟨aQ,bv,a3,bD,aR,bz,a4,bE,aS,bA,a5,bF,aT,bB,a6,bG,rfl,rfl,aq,ar,au,aw⟩:=DN D;have ah:=A_ G;have ai:=A_ H;obtain⟨aI,bn,aU,bH,aJ,bo,aV,bI,aK,bp,aW,bJ,aL,bq,aX,bK,rfl,rfl,ax,ay,az,aA⟩:=DN G;obtain⟨aM,br,aY,bL,aN,bs,aZ,bM,aO,bt,a1,bN,aP,bu,a2,bO,rfl,rfl,aB,aC,aD,aE⟩:=DN H;clear aq ar au aw ax ay az aA aB aC aD aE D G H;go_enter func194,ntmps194;go_wp2_with fail;refine W_ 6 kR kR kR kR kR ?_;simp only[GE,ET,GG,EH];iterate 2 refine C_ _ ?_
 refine D_ (BP (A4a p o)) ?_ ?_;·intro aa ab O b h;obtain⟨an,ap⟩:=F_ b;simp at h;refine G_ ?_;exact H_ (A1u _ _ p o _ _ O (ah.below Below.go) (T.below Below.go))
 iterate 2 refine C_ _ ?_
 refine D_ (BP (A4a q o)) ?_ ?_;·intro aa ab O b h;obtain⟨an,ap⟩:=F_ b;simp at h;refine G_ ?_;exact H_ (A1u _ _ q o _ _ O (ai.below Below.go) (T.below Below.go))
 intro aa ab wa b h ao;clear ao;simp at h;have Y:=h.2.2.1;have Z:=h.2.2.2.2.2;have ae:=A_ Y.1.1;have af:=A_ Z.1.1;clear h Y Z;obtain⟨a9,bc⟩:=F_ b;have be:w.1.size<wa.1.size:=ltg b;have bg:w.1.size+1<wa.1.size:=ltg b;have bi:w.1.size+1+1<wa.1.size:=ltg b;have bl:w.1.size+1+1+1<wa.1.size:=ltg b;go_wp2_with fail;refine(D8n _ _ (A4a p o) (A4a q o) _ _ wa ae af).mono ?_;rintro _ wb ⟨bP,sb,rfl,E,X,u⟩;obtain⟨ac,aG,al,a7,ad,aH,am,a8,rfl,aF,_,_⟩:=BK E;have ag:=A_ E;have W:=A_ X;clear E X aF;obtain⟨ba,bd⟩:=F_ u;have bf:w.1.size<wb.1.size:=ltg u;have bh:w.1.size+1<wb.1.size:=ltg u;have bj:w.1.size+1+1<wb.1.size:=ltg u;have bm:w.1.size+1+1+1<wb.1.size:=ltg u;go_wp2;refine BI (v:=AM #[AC (E3w (A4a p o) (A4a q o)).1.1,S ac aG al,S ad aH am]) (by simp[BO,results194,go_sem, *]) rfl ?_;refine A1s (lo:=w.1.size+4) ag W.free (λaj u=>by have:=(W.2 aj u).1;(try simp at this);omega) oS ?_ ?_;·exact Above.go
 exact Below.go

theorem B1s (v1 v2:AJ) (p q:TPoint) (b1 b2:List Nat) (w:J) (E:Agg w v1 p b1) (G:Agg w v2 q b2) :
  AR prog 254 #[v1,v2] w (A0c w (A2f p q)):=by
 have ah:=A_ E;have ai:=A_ G;obtain⟨aH,bd,aP,bm,aI,be,aQ,bn,aJ,bf,aR,bo,aK,bg,aS,bp,rfl,rfl,ar,au,aw,ax⟩:=DN E;obtain⟨aL,bh,aT,bq,aM,bi,aU,br,aN,bj,aV,bs,aO,bl,aW,bt,rfl,rfl,ay,az,aA,aB⟩:=DN G;clear ar au aw ax ay az aA aB E G;go_enter func254,ntmps254;go_wp2_with fail;refine W_ 4 kR kR kR kR kR ?_;simp only[GE,ET,GG,EH];refine D_ (BP (mkR 1 2)) ?_ ?_;·intro Y Z H b h;obtain⟨ao,aq⟩:=F_ b;simp at h;refine G_ ?_;exact H_ (C9n H)
 iterate 2 refine C_ _ ?_
 refine D_ (BP (A3y p q)) ?_ ?_;·intro Y Z H b h;obtain⟨ao,aq⟩:=F_ b;simp at h;refine G_ ?_;exact H_ (A4x _ _ p q _ _ H (ah.below Below.go) (ai.below Below.go))
 intro Y Z wa b h ap;clear ap;simp at h;have W:=h.1;have X:=h.2.2.2;have ae:=A_ W.1.1;have af:=A_ X.1.1;clear h W X;obtain⟨a2,a4⟩:=F_ b;have a6:w.1.size<wa.1.size:=ltg b;have a8:w.1.size+1<wa.1.size:=ltg b;have ba:w.1.size+1+1<wa.1.size:=ltg b;go_wp2_with fail;refine(A1n _ _ (mkR 1 2) (A3y p q) _ _ wa ae af).mono ?_;rintro _ wb ⟨bu,sb,rfl,D,T,u⟩;obtain⟨aa,aD,ak,aX,ab,aE,al,aY,ac,aF,am,aZ,ad,aG,an,a1,rfl,aC,_,_,_,_⟩:=DN D;have ag:=A_ D;have O:=A_ T;clear D T aC;obtain⟨a3,a5⟩:=F_ u;have a7:w.1.size<wb.1.size:=ltg u;have a9:w.1.size+1<wb.1.size:=ltg u;have bc:w.1.size+1+1<wb.1.size:=ltg u;go_wp2;refine BI (v:=AM #[AC (A0v (mkR 1 2) (A3y p q)).x.1.1,S aa aD ak,S ab aE al,AC (A0v (mkR 1 2) (A3y p q)).y.1.1,S ac aF am,S ad aG an]) (by simp[BO,results254,go_sem, *]) rfl ?_;refine A1s (lo:=w.1.size+3) ag O.free (λaj u=>by have:=(O.2 aj u).1;(try simp at this);omega) oS ?_ ?_;·exact Above.go
 exact Below.go
end Go.Proofs.YtbkilakncnlebaaGreatDoor.X
