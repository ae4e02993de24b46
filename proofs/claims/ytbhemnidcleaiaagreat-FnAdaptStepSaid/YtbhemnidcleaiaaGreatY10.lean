/- A part of the proof. -/
import Derived.Test.YtbhemnidcleaiaaGreatY8
import Derived.Test.YtbhemnidcleaiaaGreatY9
set_option linter.constructorNameAsVariable false
set_option maxHeartbeats 16000000
set_option maxRecDepth 10000
namespace Go.Proofs.YtbhemnidcleaiaaGreat.X
open Go.RowKit Go.XB Go.XN Proofs.Tryz
attribute [local go_sem] L_ opAt N_ M_ Region.wanted yielded
attribute [local simp] N_ M_ MP.eq MP.agg MP.sl A0r
theorem Own.right_ {w0 w:World} {a b:List Nat} (h:Own w0 w (a++b)):Own w0 w b:=⟨(List.nodup_append.1 h.1).2.1,λg hg=>h.2 g (List.mem_append_right _ hg)⟩

theorem C3b (A B:Option Addr) (n m c d:Nat) (xs ys:List Int) (u b:List Nat) (w:World) (I:Sl w A n c xs u) (G:Sl w B m d ys b) (ax:XN.Can xs) (ay:XN.Can ys) (Z:n<=65536) (E:m<=65536) :
  Calls prog 201 #[.slice A n c,.slice B m d] w (A0w w (dig (Int.gcd (val xs) (val ys)))):=by
 obtain⟨aQ,az,aN,aO,aP⟩:=info_parts A6b;have aW:=A_ I;have aX:=A_ G;have aV:=A_ ax;have ap:=A_ ay;have aC:=A_ (Nat.le_trans Z (by decide:65536<=1048576));have aA:=A_ (Nat.le_trans E (by decide:65536<=1048576));clear I G ax ay;go_enter func201,ntmps201
 go_wp2_with (first
  |(at_builtin;(refine A6r rfl _ _ 31 rfl 3 aQ underlying31 az aN aO aP _ rfl A n c xs u rfl (Sl.below aW Below.go) aC ?_);intro ad ai s1 O aJ aE h)
  |(at_builtin;(refine A6r rfl _ _ 31 rfl 3 aQ underlying31 az aN aO aP _ rfl B m d ys b rfl (Sl.below aX Below.go) aA ?_);intro W X be bf aL aG J))
 have aq:Bw w O:=Below.go;have ar:Bw w bf:=Below.go;have aK:=A_ (Sl.below (Sl.below aJ (show Bw O _ from(Below.refl _ _).alloc (Nat.le_refl _) _)) J);have aF:=A_ (Own.older (Own.below (Own.below aE (show Bw O _ from(Below.refl _ _).alloc (Nat.le_refl _) _)) J) (by simp:w.1.size<=_));have aM:=A_ aL;have aH:=A_ (Own.older aG (by have:=aq.size;simp;omega:w.1.size<=_));clear aJ aE aL aG h J aq;go_loopg [5,6] (val ys).toNat (λg s0 s1 wr=>∃ (A B:Option Addr) (n m c d:Nat) (x y:List Int) (u b:List Nat),s0=.slice A n c/\s1=.slice B m d/\Hid (Sl wr A n c x u)/\Hid (Own w wr u)/\Hid (Sl wr B m d y b)/\Hid (Own w wr b)/\Hid (XN.Can x)/\Hid (XN.Can y)/\n<=65536/\m<=65536/\Hid (Int.gcd (val x) (val y)=Int.gcd (val xs) (val ys))/\Hid (val y=g)/\Bw w wr);case atStart=>exact⟨ad,W,n,m,ai,X,xs,ys,s1,be,rfl,rfl,aK,aF,aM,aH,aV,ap,Z,E,rfl,(Int.toNat_of_nonneg (S_ ap.1)).symm,ar⟩
 case round =>
  obtain⟨A,B,n,m,c,d,x,y,u,b,rfl,rfl,I,bd,G,aR,S,D,Z,E,ak,a7,H⟩:=hrel;clear aK aF aM aH ar aC aA;have ac:=A_ (show y.length=m from G.1);have a8:=A_ (show x.length=n from I.1);by_cases aB:0<m
  ·have ab:=A_ (D.pos (by intro e;have:=ac.o;rw[e]at this;simp at this;omega))
   by_cases am:n<3/\m<3;·have aD:(n:Int)<3:=oM;have ba:(m:Int)<3:=oM;have aY:=A_ (S_ S.1);have a1:=A_ (S_ D.1);have aZ:=A_ (show val x<=9223372036854775807 by have aj:=A4j S.1;have Y:=A6t (by rw[a8.o];omega:x.length<=2);rw[pw_vals.2.1]at Y;omega);have a2:=A_ (show val y<=9223372036854775807 by have aj:=A4j D.1;have Y:=A6t (by rw[ac.o];omega:y.length<=2);rw[pw_vals.2.1]at Y;omega);have bc:=A_ (by omega:n<=2);have a9:=A_ (by omega:m<=2);clear am;go_wp2_with fail;refine(B7e A n c x u wr I S bc).mono ?_;rintro _ w3 ⟨rfl,au⟩;have a3:=Below.next H au;go_wp2_with fail;refine(B7e B m d y b w3 (Sl.below G au) D a9).mono ?_;rintro _ bg ⟨rfl,a4⟩;have aw:=Below.next a3 a4;go_wp2_with fail;refine(C8g (val x) (val y) bg aY a1 aZ a2).mono ?_;rintro _ bi ⟨bh,rfl,aI,a5⟩;have a6:=Below.next aw a5;rw[ak.o]at aI;go_wp2;go_ret;exact A2r (A8u aI aw.size) rfl (A0j _).1.i64 a6
   have rl:=A_ (show(dig (val x % val y).toNat).length<=m from by refine A4r ?_;have aj:=Int.emod_lt_of_pos (val x) ab;have Y:=Int.emod_nonneg (val x) (by have:=ab.o;omega:val y≠0);have T:=A4j D.1;rw[ac.o]at T;omega);have aS:=A_ (show Int.gcd (val y) (val (dig (val x % val y).toNat))=Int.gcd (val xs) (val ys) by rw[A1j,Int.toNat_of_nonneg (Int.emod_nonneg _ (by have:=ab.o;omega)),B8y];exact ak);have aT:=A_ (show val (dig (val x % val y).toNat)=((val x % val y).toNat:Int)from A1j _);have aU:=A_ (show(val x % val y).toNat<gk by have aj:=Int.emod_lt_of_pos (val x) ab;have Y:=a7.o;have T:=ab.o;omega);have ao:=A_ (A0j (val x % val y).toNat);rcases Nat.lt_or_ge n 3 with T|T
   ·have aD:(n:Int)<3:=oM
    have ba:¬ ((m:Int)<3):=oM;clear am T;go_wp2_with fail;refine(B1v A B n m c d x y u b wr I G S D Z aB E).mono ?_;rintro _ O ⟨ad,n1,ai,b1,W,n2,X,b2,rfl,al,K,aa,h⟩;have af:=A_ K;have ae:=A_ (Own.older (Own.right_ aa) H.size);have ag:=A_ (Sl.below G h);have ah:=A_ (Own.below aR h);have J:Bw w O:=Below.next H h;have an:=A_ (show n2<=65536 from Nat.le_trans (by rw[<-K.1];exact rl) E);clear al K aa H h;go_wp2_with fail;go_roundg (val x % val y).toNat;case measure=>exact aU
    case rel=>exact⟨B,W,m,n2,d,X,y,_,b,b2,rfl,rfl,ag,ah,af,ae,D,ao,E,an,aS,aT,J⟩
   have aD:¬ ((n:Int)<3):=oM;clear am T;go_wp2_with fail;refine(B1v A B n m c d x y u b wr I G S D Z aB E).mono ?_;rintro _ O ⟨ad,n1,ai,b1,W,n2,X,b2,rfl,al,K,aa,h⟩;have af:=A_ K;have ae:=A_ (Own.older (Own.right_ aa) H.size);have ag:=A_ (Sl.below G h);have ah:=A_ (Own.below aR h);have J:Bw w O:=Below.next H h;have an:=A_ (show n2<=65536 from Nat.le_trans (by rw[<-K.1];exact rl) E);clear al K aa H h;go_wp2_with fail;go_roundg (val x % val y).toNat;case measure=>exact aU
   case rel=>exact⟨B,W,m,n2,d,X,y,_,b,b2,rfl,rfl,ag,ah,af,ae,D,ao,E,an,aS,aT,J⟩
  obtain rfl:m=0:=oM;have e:=A_ (show x=dig (Int.gcd (val xs) (val ys)) by rw[<-ak.o,show val y=0 by rw[List.eq_nil_of_length_eq_zero ac.o];rfl,Int.gcd_zero_right];exact(S.dig_natAbs).symm);go_wp2;go_ret;rw[<-e.o];exact⟨A,n,c,u,rfl,I,bd,H⟩

theorem B7b (v:Value) (x:TBigInt) (H:List Nat) (w:World) (X:Agg w v x H) :
  Calls prog 149 #[v] w (A0b w (.bool (A2j x))):=by
 obtain⟨h,n1,D,Z,rfl,rfl,W⟩:=TBigInt.agg X;have G:=A_ W;clear W X;have u:=A_ (show A2j x=(A3m x.mag&&(!x.neg || decide (0<n1))) by unfold A2j;congr 1;congr 1;rw[<-G.o.1];cases x.mag<;>simp);cases I:A3m x.mag;·go_enter func149,ntmps149;go_wp2_with fail;have C:=B3v h n1 D x.mag H (w.alloc (.cells #[.bool x.neg,.slice h n1 D] 33)) (Sl.below G Below.go);rw[I]at C;refine C.mono ?_;clear C;rintro _ E ⟨rfl,b⟩;obtain⟨O,S⟩:=F_ b;have Y:w.1.size<E.1.size:=ltg b;go_wp2;go_ret;exact⟨Q_ (by rw[u.o,I];rfl),Below.go⟩
 have K:=A_ I;clear I;rw[K.o,Bool.true_and]at u;cases T:x.neg;·have J:=A_ (by rw[u.o,T];rfl:true=A2j x);clear u;go_enter func149,ntmps149;go_wp2_with fail;have C:=B3v h n1 D x.mag H (w.alloc (.cells #[.bool false,.slice h n1 D] 33)) (Sl.below G Below.go);rw[K.o]at C;refine C.mono ?_;clear C;rintro _ E ⟨rfl,b⟩;obtain⟨O,S⟩:=F_ b;have Y:w.1.size<E.1.size:=ltg b;go_wp2;go_ret;exact⟨Q_ J,Below.go⟩
 have J:=A_ (by rw[u.o,T];rfl:decide (0<n1)=A2j x);clear u;go_enter func149,ntmps149;go_wp2_with fail;have C:=B3v h n1 D x.mag H (w.alloc (.cells #[.bool true,.slice h n1 D] 33)) (Sl.below G Below.go);rw[K.o]at C;refine C.mono ?_;clear C;rintro _ E ⟨rfl,b⟩;obtain⟨O,S⟩:=F_ b;have Y:w.1.size<E.1.size:=ltg b;go_wp2;go_ret;exact⟨Q_ J,Below.go⟩

theorem B0u (neg:Bool) (A:Option Addr) (n c:Nat) (xs:List Int) (G:List Nat) (w:World) (ac:Sl w A n c xs G) (aj:XN.Can xs) (Y:n<=60) :
  Calls prog 151 #[.bool neg,.slice A n c] w (A0c w (⟨neg&&decide (0<n),xs⟩:TBigInt)):=by
 obtain⟨ag,aa,ad,ae,af⟩:=info_parts A6b;have H:=A_ ac;have ab:=A_ (Nat.le_trans Y (by decide:60<=1048576));have I:=A_ (by rw[aj.trim_eq];exact ac.1:(trim xs).length=n);clear ac aj;cases neg
 ·show Calls _ _ _ w (A0c w (⟨false,xs⟩:TBigInt))
  go_enter func151,ntmps151;go_wp2_with fail;have C:=B5i A n c xs G (w.alloc (.cells #[.bool false,.slice none 0 0] 33)) (Sl.below H.o Below.go) (by rw[I.o];exact Y);rw[I.o]at C;refine C.mono ?_;clear C;rintro _ h ⟨rfl,b⟩;obtain⟨ah,ak⟩:=F_ b;have an:w.1.size<h.1.size:=ltg b;have S:=A_ (Sl.below (Sl.below H (Below.box (.cells #[.bool false,.slice none 0 0] 33))) b);have ap:w.1.size<h.1.size+1:=oM;have am:w.1.size+1<=h.1.size:=by have:=b.size;simp at this;omega
  go_wp2_with (at_builtin;(refine A6r rfl _ _ 31 rfl 3 ag underlying31 aa ad ae af _ rfl A n c xs G rfl (Sl.below S Below.go) ab ?_);intro J c3 X w3 E D u;obtain⟨ai,al⟩:=F_ u;have ao:w.1.size<w3.1.size:=by(have T:=u.size;simp at T;omega));have O:=A_ E;have K:=A_ D;clear E D;refine bodyPost_ret (v:=.agg #[.bool false,.slice J n c3]) (by simp[results,results151,go_sem, *]) rfl ?_;have f:=fun(W:World) (ha:Above (w.1.size+1) w3 W)=>A7w (w:=w) O.o K.o sO sO ha;refine⟨_,X,rfl,TBigInt.mkAgg (x:=⟨false,xs⟩) (f _ ?_).1,(f _ ?_).2,?_⟩;·exact Above.go
  ·exact Above.go
  exact Below.go
 rcases Nat.eq_zero_or_pos n with Z|Z
 ·subst Z
  show Calls _ _ _ w (A0c w (⟨false,xs⟩:TBigInt));go_enter func151,ntmps151;go_wp2_with fail;have C:=B5i A 0 c xs G (w.alloc (.cells #[.bool false,.slice none 0 0] 33)) (Sl.below H.o Below.go) (by rw[I.o];exact Y);rw[I.o]at C;refine C.mono ?_;clear C;rintro _ h ⟨rfl,b⟩;obtain⟨ah,ak⟩:=F_ b;have an:w.1.size<h.1.size:=ltg b;have S:=A_ (Sl.below (Sl.below H (Below.box (.cells #[.bool false,.slice none 0 0] 33))) b);have ap:w.1.size<h.1.size+1:=oM;have am:w.1.size+1<=h.1.size:=by have:=b.size;simp at this;omega
  go_wp2_with (at_builtin;(refine A6r rfl _ _ 31 rfl 3 ag underlying31 aa ad ae af _ rfl A 0 c xs G rfl (Sl.below S Below.go) ab ?_);intro J c3 X w3 E D u;obtain⟨ai,al⟩:=F_ u;have ao:w.1.size<w3.1.size:=by(have T:=u.size;simp at T;omega));have O:=A_ E;have K:=A_ D;clear E D;refine bodyPost_ret (v:=.agg #[.bool false,.slice J 0 c3]) (by simp[results,results151,go_sem, *]) rfl ?_;have f:=fun(W:World) (ha:Above (w.1.size+1) w3 W)=>A7w (w:=w) O.o K.o sO sO ha;refine⟨_,X,rfl,TBigInt.mkAgg (x:=⟨false,xs⟩) (f _ ?_).1,(f _ ?_).2,?_⟩;·exact Above.go
  ·exact Above.go
  exact Below.go
 have e:(true&&decide (0<n))=true:=by simp[Z]
 rw[e];go_enter func151,ntmps151;go_wp2_with fail;have C:=B5i A n c xs G (w.alloc (.cells #[.bool false,.slice none 0 0] 33)) (Sl.below H.o Below.go) (by rw[I.o];exact Y);rw[I.o]at C;refine C.mono ?_;clear C;rintro _ h ⟨rfl,b⟩;obtain⟨ah,ak⟩:=F_ b;have an:w.1.size<h.1.size:=ltg b;have S:=A_ (Sl.below (Sl.below H (Below.box (.cells #[.bool false,.slice none 0 0] 33))) b);have ap:w.1.size<h.1.size+1:=oM;have am:w.1.size+1<=h.1.size:=by have:=b.size;simp at this;omega
 go_wp2_with (at_builtin;(refine A6r rfl _ _ 31 rfl 3 ag underlying31 aa ad ae af _ rfl A n c xs G rfl (Sl.below S Below.go) ab ?_);intro J c3 X w3 E D u;obtain⟨ai,al⟩:=F_ u;have ao:w.1.size<w3.1.size:=by(have T:=u.size;simp at T;omega));have O:=A_ E;have K:=A_ D;clear E D;refine bodyPost_ret (v:=.agg #[.bool true,.slice J n c3]) (by simp[results,results151,go_sem, *]) rfl ?_;have f:=fun(W:World) (ha:Above (w.1.size+1) w3 W)=>A7w (w:=w) O.o K.o sO sO ha;refine⟨_,X,rfl,TBigInt.mkAgg (x:=⟨true,xs⟩) (f _ ?_).1,(f _ ?_).2,?_⟩;·exact Above.go
 ·exact Above.go
 exact Below.go

theorem B5y (A:Option Addr) (n c:Nat) (xs:List Int) (G:List Nat) (w:World) (b:Sl w A n c xs G) :
  Calls prog 200 #[.slice A n c] w (A0b w (.bool (decide (xs=[1])))):=by
 have E:=A_ b.1;by_cases u:n=1
 ·subst u
  obtain⟨I,S,x,rfl,K,D,J,H⟩:=Sl.getInt b (k:=0) dE;simp only[Nat.add_zero]at H;have e:=A_ (show(x==1)=decide (xs=[1]) by
   have h:=E.o;match xs,h with
   | [y],_=>simp at D;subst D;simp;rfl)
  clear b D;go_enter func200,ntmps200;go_wp2;go_ret;exact⟨Q_ e,Below.go⟩
 have e:=A_ (show decide (xs=[1])=false by simp;intro h;apply u;rw[<-E.o,h];rfl);have O:((n:Int)==1)=false:=sO;clear b u;go_enter func200,ntmps200;go_wp2;go_ret;exact⟨Q_ e.symm,Below.go⟩

theorem E0c (N:Nat):(⟨true&&decide (0<(dig N).length),dig N⟩:TBigInt)=A0f (-(N:Int)):=by
 obtain⟨b,h⟩:=enc_of (neg:=true) (N:=N) (v:=-(N:Int)) sI;rw[<-h,<-b]
theorem E6z (N:Nat):(⟨false&&decide (0<(dig N).length),dig N⟩:TBigInt)=A0f (N:Int):=by
 obtain⟨b,h⟩:=enc_of (neg:=false) (N:=N) (v:=(N:Int)) sI;rw[<-h,<-b]

theorem min_can:XN.Can [854775808,223372036,9]:=⟨Lims.cons dE dE (Lims.cons dE dE (Lims.one dE dE)),dE⟩
theorem E6x:(⟨true&&decide (0<3),[854775808,223372036,9]⟩:TBigInt)=A0f (-9223372036854775808):=by
 have u:val [854775808,223372036,9]=9223372036854775808:=dE;generalize b:(9223372036854775808:Nat)=N;have D:val [854775808,223372036,9]=(N:Int):=by rw[u,<-b];rfl
 have e:[854775808,223372036,9]=dig N:=min_can.of_val D;have h:(-9223372036854775808:Int) = -(N:Int):=by rw[<-b];rfl
 rw[h,<-E0c,<-e];rfl

theorem B2n (N:Int) (w:World) (h:I64 N):Calls prog 103 #[.int .i64 N] w (A0c w (A0f N)):=by
 have az:=h.1;have aA:=h.2;clear h;rcases Int.lt_or_le N 0 with aj|aj
 ·by_cases an:N = -9223372036854775808
  ·subst an
   have ai:=A_ min_can;go_enter func103,ntmps103;go_wp2_with fail;obtain⟨ay,am⟩:=A7v (B9p (w.alloc (.cells #[.bool false,.slice none 0 0] 33)) [854775808,223372036,9] (by simp[maxLen])) (λx au=>ai.o.1.i64 x au);rw[show(w.alloc (.cells #[.bool false,.slice none 0 0] 33)).1.size=w.1.size+1 by simp]at am;have C:=B0u true (some ⟨w.1.size+1,0,none⟩) 3 3 _ ay ((w.alloc (.cells #[.bool false,.slice none 0 0] 33)).alloc (.cells #[.int .i64 854775808,.int .i64 223372036,.int .i64 9] 3)) am ai dE;have O:=A_ E6x;refine C.mono ?_;clear C;rintro _ H ⟨v2,aa,rfl,b,E,D⟩;rw[O.o]at b;obtain⟨K,n2,Y,_,rfl,rfl,G⟩:=TBigInt.agg b;have X:=A_ G;have T:=A_ E;clear G E b;obtain⟨ak,al⟩:=F_ D;have u:=A_ (by simp:w.1.size+1<=((w.alloc (.cells #[.bool false,.slice none 0 0] 33)).alloc (.cells #[.int .i64 854775808,.int .i64 223372036,.int .i64 9] 3)).1.size);have ao:w.1.size<H.1.size:=by have:=D.size;have:=u.o;omega
   have ap:w.1.size<w.1.size+1+1:=oM;go_wp2;refine bodyPost_ret (v:=.agg #[.bool (A0f (-9223372036854775808)).neg,.slice K n2 Y]) (by simp[results,results103,go_sem, *]) rfl ?_;have f:=fun(W:World) (ha:Above (w.1.size+1) H W)=>A7w (w:=w) X T (by have:=u.o;omega) u.o ha;refine⟨_,aa,rfl,TBigInt.mkAgg (f _ ?_).1,(f _ ?_).2,?_⟩;·exact Above.go
   ·exact Above.go
   exact Below.go
  have aw:(N==-9223372036854775808)=false:=by simp;exact an
  have aC:-9223372036854775807<=N:=oM;have af:=A_ (by omega:-N<=9223372036854775807);have ae:=A_ (show(dig (-N).toNat).length<=60 from Nat.le_trans (A4r (k:=3) (by rw[pw_vals.2.2];omega)) dE);have O:=A_ (by rw[Int.toNat_of_nonneg oM,Int.neg_neg]:A0f (-((-N).toNat:Int))=A0f N);go_enter func103,ntmps103;go_wp2_with fail;refine(B1m (-N) (w.alloc (.cells #[.bool false,.slice none 0 0] 33)) af).mono ?_;rintro _ J ⟨ab,n1,ad,ah,rfl,I,ag,Z⟩;have S:=A_ I.1;have ac:=A_ I;clear I ag;obtain⟨aq,ar⟩:=F_ Z;have ax:w.1.size<J.1.size:=ltg Z;go_wp2_with fail;have C:=B0u true ab n1 ad _ ah J ac.o (A0j _) (by rw[<-S.o];exact ae);refine C.mono ?_;clear C;rintro _ H ⟨v2,aa,rfl,b,E,D⟩;rw[<-S.o,E0c,O.o]at b;obtain⟨K,n2,Y,_,rfl,rfl,G⟩:=TBigInt.agg b;have X:=A_ G;have T:=A_ E;clear G E b;obtain⟨ak,al⟩:=F_ D;have u:=A_ (by omega:w.1.size+1<=J.1.size);have ao:w.1.size<H.1.size:=by have:=D.size;have:=u.o;omega
  have ap:w.1.size<w.1.size+1+1:=oM;go_wp2;refine bodyPost_ret (v:=.agg #[.bool (A0f N).neg,.slice K n2 Y]) (by simp[results,results103,go_sem, *]) rfl ?_;have f:=fun(W:World) (ha:Above (w.1.size+1) H W)=>A7w (w:=w) X T (by have:=u.o;omega) u.o ha;refine⟨_,aa,rfl,TBigInt.mkAgg (f _ ?_).1,(f _ ?_).2,?_⟩;·exact Above.go
  ·exact Above.go
  exact Below.go
 have aw:(N==-9223372036854775808)=false:=sO;have aB:¬ (N<0):=oM;have af:=A_ (by omega:N<=9223372036854775807);have ae:=A_ (show(dig N.toNat).length<=60 from Nat.le_trans (A4r (k:=3) (by rw[pw_vals.2.2];omega)) dE);have O:=A_ (by rw[Int.toNat_of_nonneg aj]:A0f ((N.toNat:Nat):Int)=A0f N);go_enter func103,ntmps103;go_wp2_with fail;refine(B1m N (w.alloc (.cells #[.bool false,.slice none 0 0] 33)) af).mono ?_;rintro _ J ⟨ab,n1,ad,ah,rfl,I,ag,Z⟩;have S:=A_ I.1;have ac:=A_ I;clear I ag;obtain⟨aq,ar⟩:=F_ Z;have ax:w.1.size<J.1.size:=ltg Z;go_wp2_with fail;have C:=B0u false ab n1 ad _ ah J ac.o (A0j _) (by rw[<-S.o];exact ae);refine C.mono ?_;clear C;rintro _ H ⟨v2,aa,rfl,b,E,D⟩;rw[<-S.o,E6z,O.o]at b;obtain⟨K,n2,Y,_,rfl,rfl,G⟩:=TBigInt.agg b;have X:=A_ G;have T:=A_ E;clear G E b;obtain⟨ak,al⟩:=F_ D;have u:=A_ (by omega:w.1.size+1<=J.1.size);have ao:w.1.size<H.1.size:=by have:=D.size;have:=u.o;omega
 have ap:w.1.size<w.1.size+1+1:=oM;go_wp2;refine bodyPost_ret (v:=.agg #[.bool (A0f N).neg,.slice K n2 Y]) (by simp[results,results103,go_sem, *]) rfl ?_;have f:=fun(W:World) (ha:Above (w.1.size+1) H W)=>A7w (w:=w) X T (by have:=u.o;omega) u.o ha;refine⟨_,aa,rfl,TBigInt.mkAgg (f _ ?_).1,(f _ ?_).2,?_⟩;·exact Above.go
 ·exact Above.go
 exact Below.go

def C8r (neg:Bool) (xs:List Int):Int:=if neg then -val xs else val xs
theorem E8m {neg:Bool} {xs:List Int} {b:Int} (D:XN.Can xs) (u:0<b) :
  mkR (C8r neg xs) b=if (dig (val xs / (Int.gcd (val xs) b:Nat)).toNat).length<=24/\(dig (b / (Int.gcd (val xs) b:Nat)).toNat).length<=24 then
   ⟨⟨neg&&decide (0<(dig (val xs / (Int.gcd (val xs) b:Nat)).toNat).length),dig (val xs / (Int.gcd (val xs) b:Nat)).toNat⟩,dig (b / (Int.gcd (val xs) b:Nat)).toNat⟩else A0h:=by
 have I:=A5o (a:=val xs) u;have E:C8r neg xs=A0q ⟨neg&&decide (xs≠[]),xs⟩:=by
  unfold C8r A0q;by_cases h:xs=[]
  ·subst h;cases neg<;>simp[val]
  cases neg<;>simp[h]
 have G:(neg&&decide (0<(dig (val xs / (Int.gcd (val xs) b:Nat)).toNat).length))=(neg&&decide (xs≠[])):=by
  congr 1;by_cases h:xs=[]
  ·subst h;have:val ([]:List Int)=0:=rfl;rw[this,Int.zero_ediv];simp;rfl
  have H:=D.pos h;have J:0<val xs / (Int.gcd (val xs) b:Nat):=Int.ediv_pos_of_pos_of_dvd H oM (Int.gcd_dvd_left _ _);have:dig (val xs / (Int.gcd (val xs) b:Nat)).toNat≠[]:=by rw[Ne,B1x];omega
  simp[h,List.length_pos_iff.2 this]
 rw[E,D6t (x:=⟨neg&&decide (xs≠[]),xs⟩) D (by intro h;simp at h;exact h.2) u,G]

theorem D5l (neg:Bool) (A B:Option Addr) (n m c d:Nat) (xs ys:List Int) (S H:List Nat) (w:World) (aV:Sl w A n c xs S) (aH:Sl w B m d ys H) (aj:XN.Can xs) (aF:XN.Can ys) (aS:0<m) (aG:n<=65536) (ak:m<=65536) :
  Calls prog 150 #[.bool neg,.slice A n c,.slice B m d] w (A0c w (mkR (C8r neg xs) (val ys))):=by
 obtain⟨b3,bR,bY,bZ,b0⟩:=info_parts A6b;have aL:=A_ aV;have aM:=A_ aH;have ad:=A_ aj;have K:=A_ aF;have bd:=A_ (by rw[aj.trim_eq];exact aV.1:(trim xs).length=n);have aP:=A_ (by rw[aF.trim_eq];exact aH.1:(trim ys).length=m);have ao:=A_ (aF.pos (by intro e;rw[<-aH.1,e]at aS;simp at aS));have ac:=A_ (E8m (neg:=neg) aj ao);have bH:=A_ (S_ aj.1);have a4:=A_ (A5o (a:=val xs) ao);have bX:((m:Int)==0)=false:=sO;clear aV aH aj aF;go_enter func150,ntmps150;go_wp2_with fail;have C:=B0s A n c xs S (w.alloc (.cells #[.bool false,.slice none 0 0,.slice none 0 0] 35)) (Sl.below aL Below.go);rw[bd.o]at C;refine C.mono ?_;clear C;rintro _ b8 ⟨rfl,X⟩;go_wp2_with fail;have C:=B0s B m d ys H b8 (Sl.below aM (Below.next Below.go X));rw[aP.o]at C;refine C.mono ?_;clear C;rintro _ b9 ⟨rfl,bh⟩;have ay:=Below.next X bh;have a9:=A_ (Sl.below (Sl.below aL (Below.box (.cells #[.bool false,.slice none 0 0,.slice none 0 0] 35))) ay);have aN:=A_ (Sl.below (Sl.below aM (Below.box (.cells #[.bool false,.slice none 0 0,.slice none 0 0] 35))) ay);clear X bh aL aM;go_wp2_with fail;obtain⟨b1,X⟩:∃ b,b=decide (ys=[1]):=⟨_,rfl⟩
 have C:=B5y B m d ys H b9 aN;rw[<-X]at C;have a3:=A_ X;clear X;refine C.mono ?_;clear C;rintro _ w3 ⟨rfl,I⟩;have af:=A_ (Sl.below a9 I);have ag:=A_ (Sl.below aN I);have aQ:=Below.next ay I;clear a9 aN ay I;go_upto_if 20 with fail;go_cut [7,8] (λa b wx=>∃ (am an:Option Addr) (u aB D aC:Nat) (aW aX:List Nat),a=.slice am u aB/\b=.slice an D aC/\Hid (Sl wx am u aB (dig (val xs / (Int.gcd (val xs) (val ys):Nat)).toNat) aW)/\Hid (Sl wx an D aC (dig (val ys / (Int.gcd (val xs) (val ys):Nat)).toNat) aX)/\Below (w.alloc (.cells #[.bool false,.slice none 0 0,.slice none 0 0] 35)).1.size (w.alloc (.cells #[.bool false,.slice none 0 0,.slice none 0 0] 35)) wx);case first =>
  by_cases Y:Int.gcd (val xs) (val ys)=1
  ·have aY:=A_ (by rw[Y,Int.natCast_one,Int.ediv_one];exact ad.eq_dig.symm:dig (val xs / (Int.gcd (val xs) (val ys):Nat)).toNat=xs)
   have aZ:=A_ (by rw[Y,Int.natCast_one,Int.ediv_one];exact K.eq_dig.symm:dig (val ys / (Int.gcd (val xs) (val ys):Nat)).toNat=ys);have bA:=A_ Y;clear Y;cases b1;rotate_left;·go_wp2_with fail;go_meet;exact⟨A,B,n,c,m,d,S,H,rfl,rfl,by rw[aY.o];exact af,by rw[aZ.o];exact ag,aQ⟩
   have aI:=A_ (by rw[bA.o];rfl:decide (dig (Int.gcd (val xs) (val ys))=[1])=true);go_wp2_with fail;refine(C3b A B n m c d xs ys S H w3 af ag ad K aG ak).mono ?_;rintro _ ab ⟨J,Z,T,aa,rfl,G,al,h⟩;have O:=A_ G;have ap:=A_ (Sl.below af h);have ar:=A_ (Sl.below ag h);have az:=Below.next aQ h;clear G al h;go_wp2_with fail;have C:=B5y J Z T _ aa ab O;rw[aI.o]at C;refine C.mono ?_;clear C;rintro _ bn ⟨rfl,E⟩;have aq:=A_ (Sl.below ap E);have au:=A_ (Sl.below ar E);have aA:=Below.next az E;go_wp2_with fail;go_meet;exact⟨A,B,n,c,m,d,S,H,rfl,rfl,by rw[aY.o];exact aq,by rw[aZ.o];exact au,aA⟩
  have bI:b1=false:=by rw[a3.o];simp;intro ah;apply Y;rw[ah];show Int.gcd (val xs) 1=1;simp
  subst bI;have aJ:=A_ (show val (dig (Int.gcd (val xs) (val ys)))=(Int.gcd (val xs) (val ys):Nat)from A1j _);have aI:=A_ (show decide (dig (Int.gcd (val xs) (val ys))=[1])=false by simp;intro ah;apply Y;have:=aJ.o;rw[ah]at this;have bf:val [1]=1:=rfl;omega);have bu:=A_ (show(dig (Int.gcd (val xs) (val ys))).length<=65536 from Nat.le_trans (A4r (k:=m) (by have cg:=Int.le_of_dvd ao (Int.gcd_dvd_right (val xs) (val ys));have bf:=A4j K.1;rw[show ys.length=m by rw[<-aP.o,K.o.trim_eq]]at bf;omega)) ak);have bv:=A_ (show 0<(dig (Int.gcd (val xs) (val ys))).length from List.length_pos_iff.2 (by rw[Ne,B1x];have:=a4.o;omega));clear Y;go_wp2_with fail;refine(C3b A B n m c d xs ys S H w3 af ag ad K aG ak).mono ?_;rintro _ ab ⟨J,Z,T,aa,rfl,G,al,h⟩;have O:=A_ G;have bl:=A_ (by rw[<-G.1];exact bu:Z<=65536);have bm:=A_ (by rw[<-G.1];exact bv:0<Z);have ap:=A_ (Sl.below af h);have ar:=A_ (Sl.below ag h);have az:=Below.next aQ h;clear G al h;go_wp2_with fail;have C:=B5y J Z T _ aa ab O;rw[aI.o]at C;refine C.mono ?_;clear C;rintro _ bn ⟨rfl,E⟩;have aK:=A_ (Sl.below O E);have aq:=A_ (Sl.below ap E);have au:=A_ (Sl.below ar E);have aA:=Below.next az E;clear ap ar az O E;go_wp2_with fail;refine(B1v A J n Z c T xs _ S aa bn aq aK ad (A0j _) aG bm bl).mono ?_;rintro _ ca ⟨bs,b6,bM,b7,cc,nr,cr,cv,rfl,aU,bV,bT,aE⟩;rw[aJ.o]at aU;have a6:=A_ aU;have a7:=A_ (Sl.below aK aE);have ba:=A_ (Sl.below au aE);have be:=Below.next aA aE;clear aU bV bT aE aq aK au aA;go_wp2_with fail;refine(B1v B J m Z d T ys _ H aa ca ba a7 K (A0j _) ak bm bl).mono ?_;rintro _ cy ⟨br,b5,bL,sp,cd,ct,cf,cw,rfl,aT,bW,bU,aR⟩;rw[aJ.o]at aT;have bE:=A_ aT;have bF:=A_ (Sl.below a6 aR);have bJ:=Below.next be aR;clear aT bW bU aR a6 a7 ba be;go_wp2_with fail;go_meet;exact⟨bs,br,b6,bM,b5,bL,b7,sp,rfl,rfl,bF,bE,bJ⟩
 case rest =>
  obtain⟨am,an,u,aB,D,aC,aW,aX,rfl,rfl,a1,a2,bb⟩:=hcut;have bt:=A_ (A0j (val xs / (Int.gcd (val xs) (val ys):Nat)).toNat);have ce:=A_ (A0j (val ys / (Int.gcd (val xs) (val ys):Nat)).toNat);generalize dig (val xs / (Int.gcd (val xs) (val ys):Nat)).toNat=aw at *;generalize dig (val ys / (Int.gcd (val xs) (val ys):Nat)).toNat=ax at *;have aO:=A_ (show aw.length=u from a1.1);have bc:=A_ (show ax.length=D from a2.1);clear a4 bH ao bd aP ad K a3 bX aG ak aS;obtain⟨cj,cn⟩:=F_ bb;have cq:w.1.size<wc.1.size:=ltg bb;rcases Nat.lt_or_ge 24 u with ai|ai;·have ae:=A_ (by rw[ac.o,aO.o,if_neg oM]:mkR (C8r neg xs) (val ys)=A0h);have bo:(24:Int)<u:=oM;clear ai ac;go_wp2;refine bodyPost_ret (v:=.agg #[.bool false,.slice none 0 0,.slice none 0 0]) (by simp[results,results150,go_sem, *]) rfl ?_;rw[ae.o];exact A3e Below.go
  rcases Nat.lt_or_ge 24 D with aD|aD;·have ae:=A_ (by rw[ac.o,aO.o,bc.o,if_neg oM]:mkR (C8r neg xs) (val ys)=A0h);have bo:¬ ((24:Int)<u):=oM;have cb:(24:Int)<D:=oM;clear ai aD ac;go_wp2;refine bodyPost_ret (v:=.agg #[.bool false,.slice none 0 0,.slice none 0 0]) (by simp[results,results150,go_sem, *]) rfl ?_;rw[ae.o];exact A3e Below.go
  have ae:=A_ (by rw[ac.o,aO.o,bc.o,if_pos ⟨ai,aD⟩]:mkR (C8r neg xs) (val ys)=⟨⟨neg&&decide (0<u),aw⟩,ax⟩);have bo:¬ ((24:Int)<u):=oM;have cb:¬ ((24:Int)<D):=oM;have bP:=A_ (by omega:u<=60);have bS:=A_ (by omega:D<=1048576);clear ai aD ac;go_wp2_with fail;refine(B0u neg am u aB aw aW wc a1 bt bP).mono ?_;rintro _ w3 ⟨cx,cu,rfl,bg,bi,I⟩;obtain⟨bp,b4,bK,_,rfl,rfl,bj⟩:=TBigInt.agg bg;have a8:=A_ bj;have bB:=A_ bi;have bz:=A_ (Sl.below a2 I);have bk:=A_ (by omega:w.1.size+1<=wc.1.size);clear bj bi bg;obtain⟨ch,ck⟩:=F_ I;have co:w.1.size<w3.1.size:=ltg I;have cs:w.1.size<w3.1.size+1:=oM;go_wp2_with (at_builtin;(refine A6r rfl _ _ 31 rfl 3 b3 underlying31 bR bY bZ b0 _ rfl an D aC ax aX rfl (Sl.below bz Below.go) bS ?_);intro J T aa ab G al h;obtain⟨ci,cm⟩:=F_ h;have cp:w.1.size<ab.1.size:=by(have ah:=h.size;simp at ah;omega));have O:=A_ G;have a5:=A_ al;have bG:=A_ (Sl.below (Sl.below a8 (show Bw w3 _ from Below.box (.cells #[] 3))) h);have bD:=A_ (Own.below (Own.below bB (show Bw w3 _ from Below.box (.cells #[] 3))) h);have bq:=A_ (A9o (N:=w3.1.size) (b2:=aa) a8.lt (λb bQ=>by have:=(a5.2 b bQ).1;simp at this;omega));refine bodyPost_ret (v:=.agg #[.bool (neg&&decide (0<u)),.slice bp b4 bK,.slice J D T]) (by simp[results,results150,go_sem, *]) rfl ?_;rw[ae.o];have bN:=fun(W:World) (ha:Above (w.1.size+1) ab W)=>A7w (w:=w) bG bD (by have:=bk.o;omega) bk.o ha;have bO:=fun(W:World) (ha:Above (w.1.size+1) ab W)=>A7w (w:=w) O.o a5.o sO sO ha;refine B4k (x:=⟨⟨neg&&decide (0<u),aw⟩,ax⟩) (bN _ ?_) (bO _ ?_) bq ?_;·exact Above.go
  ·exact Above.go
  exact Below.go

theorem B4u (w:World) (o:Obj) (k:Nat) (h:k<w.1.size):(w.alloc o).1[k]?=w.1[k]?:=(World.grownBy_alloc w o none).block k h sI
theorem Above.alloc2 {lo:Nat} {w b:World} {o:Obj} (h:Above lo w b) (G:b.1.size=w.1.size):Above lo (w.alloc o) (b.alloc o):=by
 refine⟨by simp[G],λu H I=>?_⟩;simp at I;rcases Nat.lt_or_ge u w.1.size with D|D
 ·rw[B4u b o u oM,B4u w o u D];exact h.block u H D
 have e:u=w.1.size:=oM;have E:=heap_alloc_new b o;rw[G]at E;rw[e,E,heap_alloc_new w o]
theorem E9c (w:World) (xs:List Int) (u:xs.length<=maxLen) (hi:∀ x∈xs,I64 x) :
  ∃ bs,Sl (w.alloc (.cells (xs.map (.int .i64)).toArray 3)) (some ⟨w.1.size,0,none⟩) xs.length xs.length xs bs/\Own w (w.alloc (.cells (xs.map (.int .i64)).toArray 3)) bs:=by
 obtain⟨G,H,c',b,h,E,D,_⟩:=A2r (B9p w xs u) rfl hi (Below.box _);injection h with e1;injection e1 with e2 e3 e4;subst e2;subst e3;subst e4;exact⟨b,E,D⟩

theorem B0d (N:Int) (w:World) (h:I64 N):Calls prog 118 #[.int .i64 N] w (A0c w (U_ N)):=by
 go_enter func118,ntmps118;go_wp2_with fail;refine(B2n N _ h).mono ?_;rintro _ b ⟨v1,aj,rfl,E,H,G⟩;obtain⟨S,n1,aa,_,rfl,rfl,J⟩:=TBigInt.agg E;have D:=A_ J;have X:=A_ H;clear J H E;obtain⟨af,ag⟩:=F_ G;have ah:w.1.size<b.1.size:=ltg G;have O:=A_ (by omega:w.1.size+1<=b.1.size);have ai:w.1.size<b.1.size+1:=oM;obtain⟨ae,K,I⟩:=E9c b [1] (by simp[maxLen]) (by simp[I64]);have Y:=A_ K;have u:=A_ I;clear K I;go_wp2;have T:=A_ (A9o (N:=b.1.size) (b2:=ae) D.lt (λZ ad=>(u.2 Z ad).1));refine bodyPost_ret (v:=.agg #[.bool (A0f N).neg,.slice S n1 aa,.slice (some ⟨b.1.size,0,none⟩) 1 1]) (by simp[results,results118,go_sem, *]) rfl ?_;have ab:=fun(W:World) (ha:Above (w.1.size+1) b W)=>A7w (w:=w) D.o X.o sI sI ha;have ac:=fun(W:World) (ha:Above (w.1.size+1) (b.alloc (.cells #[.int .i64 1] 3)) W)=>A7w (w:=w) (A:=some ⟨b.1.size,0,none⟩) (n:=1) (c:=1) (xs:=[(1:Int)]) Y u (by have:=O.o;omega) O.o ha;refine B4k (x:=U_ N) (ab _ ?_) (ac _ ?_) T ?_;·exact Above.go
 ·refine Above.alloc2 ?_ sI;exact Above.go
 exact Below.go
def MP.lit0:MP:=⟨λv bs _=>(∃ g,v=.slice (some ⟨g,0,none⟩) 0 0)/\bs=[],λ_ _ _ _ _ h=>h⟩

attribute [local simp] MP.lit0


end Go.Proofs.YtbhemnidcleaiaaGreat.X

namespace Go.XN
open Go.XB
def A8v (xs:List TRat):TRat:=xs.foldl A0k (U_ 0)
theorem E2f {xs:List TRat} {k:Nat} {x:TRat} (h:xs[k]?=some x):A8v (xs.take (k+1))=A0k (A8v (xs.take k)) x:=by
 unfold A8v;rw[take_step h,List.foldl_append];rfl
end Go.XN
namespace Go.XB
theorem Free.keep {w w':World} {bs:List Nat} (h:Free w bs) (hk:∀ g∈bs,w'.1[g]?=w.1[g]?):Free w' bs:=⟨h.1,λb hb=>by obtain⟨cs,t,e⟩:=h.2 b hb;exact⟨cs,t,(hk b hb).trans e⟩⟩
end Go.XB
namespace Go.Proofs.YtbhemnidcleaiaaGreat.X
open Go.RowKit Go.XB Go.XN Proofs.Tryz
attribute [local go_sem] L_ opAt N_ M_ Region.wanted yielded
attribute [local simp] N_ M_ MP.eq MP.agg MP.sl A0r
theorem _root_.cD {p:Prop} (h:p:=by constructor<;>decide):p:=h
theorem D6a (A:Option Addr) (n c:Nat) (xs:List TRat) (aM:List Nat) (w:World) (S:Sl w A n c xs aM) :
  Calls prog 41 #[.slice A n c] w (A0c w (A8v xs)):=by
 have aH:=A_ S.1;have aI:=A_ S;have aU:n<=maxLen:=Nat.le_trans S.2.1 S.2.2.1;unfold maxLen at aU;clear S;go_enter func41,ntmps41;go_wp2_with fail;refine(A0l 0 _ cD).mono ?_;rintro _ b ⟨v1,aW,rfl,ab,aw,ad⟩;obtain⟨aA,m1,aN,bm,aB,m2,aO,bn,rfl,ag,_,_⟩:=TRat.agg ab;have aD:=A_ ab;have an:=A_ aw;clear ab aw ag;obtain⟨a8,ba⟩:=F_ ad;have bi:w.1.size<b.1.size:=ltg ad;have aa:=A_ (by have:=ad.size;simp at this;omega:w.1.size+1<=b.1.size);go_wp2_with fail;go_loopg [9] n (λg s wr=>∃ (k:Nat) (r:TRat) (E:Option Addr) (n1 H:Nat) (G:Option Addr) (n2 I:Nat) (D:List Nat),k+g=n/\s=.int .i64 k/\Hid (r=A8v (xs.take k))/\Hid (Agg wr (.agg #[.bool r.1.1,.slice E n1 H,.slice G n2 I]) r D)/\Hid (Free wr D/\∀ h∈D,w.1.size+1<=h/\h≠b.1.size)/\Bw w wr/\(b.1.size<wr.1.size/\wr.cell? ⟨w.1.size,0,none⟩=some (.bool false)/\wr.cell? ⟨w.1.size,1,none⟩=some (.slice none 0 0)/\wr.cell? ⟨w.1.size,2,none⟩=some (.slice none 0 0)/\wr.frozen? ⟨w.1.size,0,none⟩=false/\wr.frozen? ⟨w.1.size,1,none⟩=false/\wr.frozen? ⟨w.1.size,2,none⟩=false)/\wr.cell? ⟨b.1.size,0,none⟩=some (.bool r.1.1)/\wr.cell? ⟨b.1.size,1,none⟩=some (.slice E n1 H)/\wr.cell? ⟨b.1.size,2,none⟩=some (.slice G n2 I)/\wr.frozen? ⟨b.1.size,0,none⟩=false/\wr.frozen? ⟨b.1.size,1,none⟩=false/\wr.frozen? ⟨b.1.size,2,none⟩=false);case atStart =>
  refine⟨0,U_ 0,aA,m1,aN,aB,m2,aO,aW,oM,rfl,by show U_ 0=A8v (xs.take 0);rfl,aD.below Below.go,⟨an.free.below Below.go,λh u=>by have:=an.range h u;simp at this;omega⟩,Below.go,?_,?_⟩;·refine⟨sI,?_,?_,?_,?_,?_,?_⟩<;>go_simp
  refine⟨?_,?_,?_,?_,?_,?_⟩<;>go_simp
 case round =>
  obtain⟨k,r,E,n1,H,G,n2,I,D,ar,rfl,ay,ap,ae,u,aQ,be⟩:=hrel;have Y:=A_ u;obtain⟨aR,a7⟩:=aQ;have aK:=A_ aR;rcases Nat.lt_or_ge k n with O|O
  ·obtain⟨aZ,bl,x,aX,q1,p1,a4,aY,q2,p2,a5,rfl,a6,az,a1,a2,a3,aq⟩:=TRat.elemA (Sl.below aI u) O
   have aJ:=A_ az;have aF:=A_ aq;have aT:(k:Int)<n:=oM;obtain⟨g,rfl⟩:∃ g,gk=g+1:=⟨gk - 1,oM⟩
   have aS:=A_ (by omega:k+1+g=n);have bd:k+1<=n:=O;have bg:w.1.size<wr.1.size:=by have:=aa.o;omega
   have bf:w.1.size<wr.1.size+1:=oM;have bh:b.1.size<wr.1.size+1:=oM;have aL:=A_ (by rw[E2f aJ.o,ay.o]:A0k r x=A8v (xs.take (k+1)));clear az ar O aq;go_wp2_with fail;refine(A0x _ _ r x _ _ _ (Agg.below ap (Below.box _)) (Agg.below aF (Below.box _))).mono ?_;rintro _ J ⟨v2,ah,rfl,ac,ax,T⟩;obtain⟨W,ai,ak,bo,X,aj,al,bp,rfl,ag,_,_⟩:=TRat.agg ac;have aE:=A_ ac;have ao:=A_ ax;have aG:=A_ T;clear ac ax ag;obtain⟨a9,bc⟩:=F_ T;have bj:w.1.size<J.1.size:=by have:=T.size;simp at this;omega
   have bk:b.1.size<J.1.size:=by have:=T.size;simp at this;omega
   have au:∀ h∈ah,w.1.size+1<=h/\h≠b.1.size:=λh u=>by have:=(ao.range h u).1;simp at this;have:=aK.o;have:=Y.size;have:=aa.o;omega
   have am:=A_ au;have Z:=A_ (by have:=aa.o;omega:w.1.size<=b.1.size);clear au;go_wp2_with fail;go_roundg g;case measure=>omega
   case rel =>
    have K:∀ g∈ah,(((J.setCell ⟨b.1.size,0,none⟩ (.bool (A0k r x).1.1)).setCell ⟨b.1.size,1,none⟩ (.slice W ai ak)).setCell ⟨b.1.size,2,none⟩ (.slice X aj al)).1[g]?=J.1[g]? :=
     λg af=>A0m b.1.size [.bool (A0k r x).1.1,.slice W ai ak,.slice X aj al] J 0 g (am g af).2
    refine⟨k+1,A0k r x,W,ai,ak,X,aj,al,ah,aS,gN,aL,aE.keep K,⟨ao.free.keep K,am⟩,?_,?_,?_⟩;·have aP:Bw w J:=Below.next (Below.next Y (Below.box _)) aG;exact((aP.setCell (p:=⟨b.1.size,0,none⟩) Z _).setCell (p:=⟨b.1.size,1,none⟩) Z _).setCell (p:=⟨b.1.size,2,none⟩) Z _
    ·refine⟨sO,?_,?_,?_,?_,?_,?_⟩<;>go_simp
    refine⟨?_,?_,?_,?_,?_,?_⟩<;>go_simp
  have aT:¬ ((k:Int)<n):=oM;have aC:=A_ (by rw[ay.o,List.take_of_length_le (by rw[aH.o];omega)]:r=A8v xs);clear ar O;go_wp2_with fail;refine bodyPost_ret (v:=.agg #[.bool r.1.1,.slice E n1 H,.slice G n2 I]) (by simp[results,results41,go_sem, *]) rfl ?_;rw[<-aC.o];have aV:∀ h∈D,h≠w.1.size:=λh u=>by have:=(ae.2 h u).1;omega
  have K:∀ g∈D,(((wr.setCell ⟨w.1.size,0,none⟩ (.bool r.1.1)).setCell ⟨w.1.size,1,none⟩ (.slice E n1 H)).setCell ⟨w.1.size,2,none⟩ (.slice G n2 I)).1[g]?=wr.1[g]? :=
   λg af=>A0m w.1.size [.bool r.1.1,.slice E n1 H,.slice G n2 I] wr 0 g (aV g af)
  refine⟨_,D,rfl,ap.keep K,(ae.1.keep K).own (λh u=>by have:=(ae.2 h u).1;omega),?_⟩;exact((Y.setCell (p:=⟨w.1.size,0,none⟩) (Nat.le_refl _) _).setCell (p:=⟨w.1.size,1,none⟩) (Nat.le_refl _) _).setCell (p:=⟨w.1.size,2,none⟩) (Nat.le_refl _) _

theorem _root_.gS {p:Prop} (h:p:=by go_simp):p:=h
theorem D6o (A:Option Addr) (n c:Nat) (xs:List TRat) (S:List Nat) (w:World) (G:Sl w A n c xs S) :
  Calls prog 13 #[.slice A n c] w (A0c w (A8v xs)):=by
 have K:=A_ G;clear G;go_enter func13,ntmps13;go_wp2_with fail;refine(D6a A n c xs _ _ (Sl.below K Below.go)).mono ?_;rintro _ b ⟨v1,ac,rfl,h,E,D⟩;obtain⟨H,m1,T,ad,I,m2,W,ae,rfl,Y,_,_⟩:=TRat.agg h;have J:=A_ h;have u:=A_ E;clear h E Y;obtain⟨Z,aa⟩:=F_ D;have ab:w.1.size<b.1.size:=ltg D;have af:b.cell? ⟨w.1.size,0,none⟩=some (.bool false):=gS;have ai:b.frozen? ⟨w.1.size,0,none⟩=false:=gS;have ag:b.cell? ⟨w.1.size,1,none⟩=some (.slice none 0 0):=gS;have aj:b.frozen? ⟨w.1.size,1,none⟩=false:=gS;have ah:b.cell? ⟨w.1.size,2,none⟩=some (.slice none 0 0):=gS;have ak:b.frozen? ⟨w.1.size,2,none⟩=false:=gS;go_wp2;refine bodyPost_ret (v:=.agg #[.bool (A8v xs).1.1,.slice H m1 T,.slice I m2 W]) (by simp[results,results13,go_sem, *]) rfl ?_;refine A1s (lo:=w.1.size+1) J u.free (λO X=>by have:=(u.range O X).1;(try simp at this);omega) oM ?_ ?_;·exact Above.go
 exact Below.go
end Go.Proofs.YtbhemnidcleaiaaGreat.X

namespace Go
section
variable {P:Program} (w:World)
theorem D4h (base:Nat) (t ty e:TypeId) (i:TypeInfo) (z:Value) (size I:Nat) (K:P.underlying t=some (.slice e)) (hi:P.info? e=some i) (ab:i.zero=some z)
  (D:i.size=size) (Y:i.bytes=I) (ak:z.cells.size=size) (ai:0<size)
  (g n cap:Nat) (xs:List Value) (G:w.ownsRow base e size (.slice (some ⟨g,0,none⟩) n cap) n xs)
  (a:Addr) (m c:Nat) (b:List Value) (E:b.length=m*size) (J:∀ j u,b[j]?=some u->w.cell? (a.add j)=some u) (S:∀ u∈b,u.oneCell'=true)
  (X:n+m<=maxLen) (Z:(n+m)*I<=140737488355328) (ad:base<=w.1.size) :
  ∃ g' cap' w',(Builtin.append_ #[t,t] ty #[.slice (some ⟨g,0,none⟩) n cap,.slice (some a) m c]).run P w=.ok (.slice (some ⟨g',0,none⟩) (n+m) cap') w'/\w'.ownsRow base e size (.slice (some ⟨g',0,none⟩) (n+m) cap') (n+m) (xs++b)/\w.grownBy w' (some g)/\(g'=g\/g'=w.1.size):=by
 obtain⟨ar,w',H,T,W,_⟩:=run_append_own (P:=P) w base t ty e i z size I K hi ab D Y ak ai _ n xs G a m c b E J S X Z ad;by_cases aa:n+m<=cap
 ·rcases G.2 with⟨ac,_⟩|⟨am,al,O,aj,an,ag,ap,ao,ae,aq⟩
  ·cases ac
  cases aj;have af:n*i.size+b.length<=O.size:=by rw[D,E,ae,<-Nat.add_mul];exact Nat.mul_le_mul_right _ aa
  have h:=run_append_room (P:=P) w t ty e i K hi g n cap O ag a m c b (by rw[D];exact E) J S aa af;rw[H]at h;cases h;exact⟨_,_,_,H,T,W,.inl rfl⟩
 have ah:∀ j u,xs[j]?=some u->w.cell? ((⟨g,0,none⟩:Addr).add j)=some u:=G.cells (g:=g) rfl;have h:=run_append_grow (P:=P) w t ty e i z K hi ab ⟨g,0,none⟩ n cap xs (by rw[D];exact G.1) ah a m c b (by rw[D];exact E) J oM (by unfold maxLen at X;omega) (growslice_fits oM (by rw[Y];exact Z));rw[H]at h;cases h;exact⟨_,_,_,H,T,W,.inr rfl⟩

theorem A1m {w:World} {G:Array Oper} {rest:List Oper} {o:Oper} {a:Act} {Q:Exit->Act->World->Prop} (Y:o.guard=none) (s x:Operand) (t:TypeId)
  (ab:o.op=.call { callee:=.builtin .append,args:=#[s,x],argTypes:=#[t,t] })
  (base:Nat) (e:TypeId) (i:TypeInfo) (z:Value) (size E:Nat) (ah:P.underlying t=some (.slice e)) (hi:P.info? e=some i) (aj:i.zero=some z)
  (af:i.size=size) (W:i.bytes=E) (ak:z.cells.size=size) (ag:0<size)
  (g n cap:Nat) (xs:List Value) (ae:a.eval s=.slice (some ⟨g,0,none⟩) n cap) (ac:w.ownsRow base e size (.slice (some ⟨g,0,none⟩) n cap) n xs)
  (D:Addr) (m c:Nat) (b:List Value) (ai:a.eval x=.slice (some D) m c) (Z:b.length=m*size) (aa:∀ j u,b[j]?=some u->w.cell? (D.add j)=some u) (H:∀ u∈b,u.oneCell'=true)
  (O:n+m<=maxLen) (X:(n+m)*E<=140737488355328) (T:base<=w.1.size)
  (h:∀ g' cap' w',w'.ownsRow base e size (.slice (some ⟨g',0,none⟩) (n+m) cap') (n+m) (xs++b)->w.grownBy w' (some g)->(g'=g\/g'=w.1.size)->wpList P G Q rest (a.put o.dst (.slice (some ⟨g',0,none⟩) (n+m) cap')) w'):wpList P G Q (o::rest) a w:=by
 refine wpList_plain Y λ_ S=>?_;obtain⟨g',cap',w',ad,I,J,K⟩:=D4h (P:=P) w base t o.type e i z size E ah hi aj af W ak ag g n cap xs ac D m c b Z aa H O X T;unfold Oper.wp execOp;simp only[ab,resolve,invoke,builtin,Sem.run_bind,Sem.run_pure,Result.andThen_ok,List.map_toArray,List.map_cons,List.map_nil,ae,ai,ad];exact S _ _ (h g' cap' w' I J K)
end
end Go

namespace Go.Proofs.YtbhemnidcleaiaaGreat.X
open Go.RowKit Go.XB Go.XN
theorem E0f {a b c:Int} (u:Int.gcd a b=1) (h:b∣a*c):b∣c:=by
 have D:b.natAbs∣a.natAbs*c.natAbs:=by rw[<-Int.natAbs_mul];exact Int.natAbs_dvd_natAbs.2 h
 have E:Nat.Coprime b.natAbs a.natAbs:=by rw[Nat.coprime_comm];exact u
 exact Int.natAbs_dvd_natAbs.1 (E.dvd_of_dvd_mul_left D)

theorem E8n {a b c d:Int} (E:0<b) (I:0<d) (u:Int.gcd a b=1) (D:Int.gcd c d=1) (e:a*d=c*b):a=c/\b=d:=by
 have G:b∣d:=by
  have h:b∣a*d:=⟨c,by rw[e,Int.mul_comm]⟩
  exact E0f u h
 have J:d∣b:=by
  have h:d∣c*b:=⟨a,by rw[<-e,Int.mul_comm]⟩
  exact E0f D h
 have H:b=d:=Int.dvd_antisymm (Int.le_of_lt E) (Int.le_of_lt I) G J;subst H;exact⟨Int.eq_of_mul_eq_mul_right oM e,rfl⟩

theorem B6r {A B:Int} (E:0<B):∃ g a b:Int,0<g/\A=g*a/\B=g*b/\0<b/\Int.gcd a b=1/\A / Int.gcd A B=a/\B / Int.gcd A B=b:=by
 have G:0<Int.gcd A B:=Int.gcd_pos_of_ne_zero_right A oM;have h:(0:Int)<Int.gcd A B:=oM;have u:=Int.mul_ediv_cancel' (Int.gcd_dvd_left (a:=A) (b:=B));have D:=Int.mul_ediv_cancel' (Int.gcd_dvd_right (a:=A) (b:=B));refine⟨Int.gcd A B,A / Int.gcd A B,B / Int.gcd A B,h,u.symm,D.symm,?_,?_,rfl,rfl⟩;·exact Int.ediv_pos_of_pos_of_dvd E (Int.le_of_lt h) (Int.gcd_dvd_right _ _)
 exact Int.gcd_ediv_gcd_ediv_gcd G

theorem A9v {T:TRat} (b:RatV T) {A B:Int} (K:0<B) (e:A*T_ T=R_ T*B):mkR A B=T:=by
 obtain⟨g,a,h,Z,O,S,W,J,u,D⟩:=B6r (A:=A) K;have X:Int.gcd (R_ T) (T_ T)=1:=by
  have:=b.one;unfold R_ T_ A0q;split;·rw[Int.neg_gcd];exact this
  exact this
 have E:a*T_ T=R_ T*h:=by rw[O,S]at e;refine Int.eq_of_mul_eq_mul_left (a:=g) oM ?_;rw[<-Int.mul_assoc,e,Int.mul_left_comm]
 obtain⟨G,H⟩:=E8n W b.den0 J X E;have I:h=val T.2:=H;unfold mkR;rw[u,D,G,I,b.2.dig_natAbs];have Y:dig (R_ T).natAbs=T.1.2:=by unfold R_;rw[D5q,b.mag.dig_natAbs]
 rw[Y,if_pos ⟨b.num24,b.den24⟩];unfold R_;rw[D6d b.1]

theorem E8a {A B:Int} (E:0<B) (h:J_ (mkR A B)=true):R_ (mkR A B)*B=A*T_ (mkR A B):=by
 obtain⟨g,a,b,O,G,H,K,J,u,D⟩:=B6r (A:=A) E;have I:mkR A B=⟨A0f a,dig b.natAbs⟩:=by
  unfold mkR at h ⊢;rw[u,D]at h ⊢;split;·rfl
  rename_i h2;rw[if_neg h2]at h;rw[D2b]at h;cases h
 rw[I];unfold R_ T_;simp only[A5m,A1j];rw[G,H,Int.natAbs_of_nonneg oM];rw[Int.mul_left_comm,Int.mul_assoc]

theorem E5r {r s:TRat} (b:J_ r=true) (h:J_ s=true):A0k r s=mkR (R_ r*T_ s+R_ s*T_ r) (T_ r*T_ s):=by
 unfold A0k;rw[b,h];rfl
theorem D1c {A B:Int} (J:0<B):(!(mkR A B).2.isEmpty)=J_ (mkR A B):=by
 obtain⟨g,a,b,Z,X,Y,O,H,E,G⟩:=B6r (A:=A) J;unfold mkR;rw[E,G];split
 ·rename_i h
  have u:val (dig b.natAbs)=b:=by rw[A1j];omega
  have T:dig b.natAbs≠[]:=by intro e;rw[e]at u;simp[val]at u;omega
  have K:J_ ⟨A0f a,dig b.natAbs⟩=true:=by
   refine ratOkB_iff.2 ⟨?_,A0j _,by rw[u];exact O,?_,h.2,?_⟩
   ·show A2j (A0f a)=true
    rw[bigOkB_iff];refine⟨⟨by have:=h.1;show(dig a.natAbs).length<=_;omega,A0j _⟩,?_⟩;intro I;have W:a<0:=by simpa[A0f]using I
    show dig a.natAbs≠[];intro e;have D:=A1j a.natAbs;rw[e]at D;simp[val]at D;omega
   ·exact h.1
   show Int.gcd (val (dig a.natAbs)) (val (dig b.natAbs))=1;rw[A1j,A1j];simpa[Int.gcd]using H
  rw[K];cases S:dig b.natAbs with
  |nil=>exact absurd S T
  |cons _ _=>rfl
 rfl
theorem C5u (r s:TRat):(!(A0k r s).2.isEmpty)=J_ (A0k r s):=by
 unfold A0k;split;·rename_i h;rw[Bool.and_eq_true]at h;exact D1c (Int.mul_pos (ratOkB_iff.1 h.1).den0 (ratOkB_iff.1 h.2).den0)
 rfl
theorem C6q (r s:TRat):(!(A0d r s).2.isEmpty)=J_ (A0d r s):=by
 unfold A0d;split;·rename_i h;rw[Bool.and_eq_true]at h;exact D1c (Int.mul_pos (ratOkB_iff.1 h.1).den0 (ratOkB_iff.1 h.2).den0)
 rfl
end Go.Proofs.YtbhemnidcleaiaaGreat.X

namespace Go.XN
open Go.XB
def D9t:TPoint:=⟨A0h,A0h⟩
def A1b (p:TPoint):Bool:=J_ p.x&&J_ p.y
def ifP (p:TPoint):TPoint:=bif A1b p then p else D9t
def A3y (p q:TPoint):TPoint:=ifP ⟨A0k p.x q.x,A0k p.y q.y⟩
def A4a (p q:TPoint):TPoint:=ifP ⟨A3t p.x q.x,A3t p.y q.y⟩
def A0v (r:TRat) (p:TPoint):TPoint:=ifP ⟨A0d r p.x,A0d r p.y⟩
def E3w (p q:TPoint):TRat:=A3t (A0d p.x q.y) (A0d p.y q.x)
def A2y (a b c:TPoint):TRat:=E3w (A4a b a) (A4a c a)
def A2f (p q:TPoint):TPoint:=A0v (mkR 1 2) (A3y p q)
end Go.XN
namespace Go.Proofs.YtbhemnidcleaiaaGreat.X
open Go.RowKit Go.XB Go.XN Proofs.Tryz
attribute [local go_sem] L_ opAt N_ M_ Region.wanted yielded
attribute [local simp] N_ M_ MP.eq MP.agg MP.sl A0r
theorem D4u (r s:TRat):(!(A3t r s).2.isEmpty)=J_ (A3t r s):=by
 unfold A3t;split;·rename_i h;rw[Bool.and_eq_true]at h;exact D1c (Int.mul_pos (ratOkB_iff.1 h.1).den0 (ratOkB_iff.1 h.2).den0)
 rfl
theorem E0o (w:World):Agg w (.agg #[.bool false,.slice none 0 0,.slice none 0 0,.bool false,.slice none 0 0,.slice none 0 0]) D9t []:=TPoint.mkAgg (x:=D9t) (Sl.nil w) (Sl.nil w) (Sl.nil w) (Sl.nil w)
theorem B4y {w W:World} (hb:Bw w W):A0c w D9t (.returned (.agg #[.bool false,.slice none 0 0,.slice none 0 0,.bool false,.slice none 0 0,.slice none 0 0])) W:=⟨_,[],rfl,E0o W,Own.nil _ _,hb⟩
theorem B4l {w:World} {x:TPoint} {u0 u1 u2 u u4 D:Value} {b1 b2:List Nat} (E:Agg w (.agg #[u0,u1,u2]) x.x b1) (G:Agg w (.agg #[u,u4,D]) x.y b2):Agg w (.agg #[u0,u1,u2,u,u4,D]) x (b1++b2):=by
 obtain⟨J,n1,T,ab,K,n2,W,ac,b,rfl,k1,k2⟩:=TRat.agg E;obtain⟨O,Z,X,ad,S,aa,Y,ae,h,rfl,H,I⟩:=TRat.agg G;injection b with b;injection h with h;simp at b h;obtain⟨rfl,rfl,rfl⟩:=b;obtain⟨rfl,rfl,rfl⟩:=h;rw[List.append_assoc];exact TPoint.mkAgg k1 k2 H I
theorem E9v {w:World} {x:TPoint} {u0 u1 u2 u u4 D:Value} {b:List Nat} (h:Agg w (.agg #[u0,u1,u2,u,u4,D]) x b):∃ b1 b2,b=b1++b2/\Agg w (.agg #[u0,u1,u2]) x.x b1/\Agg w (.agg #[u,u4,D]) x.y b2:=by
 obtain⟨O,n1,X,H,S,n2,Y,I,T,ab,Z,J,W,ac,aa,K,e,rfl,k1,k2,E,G⟩:=TPoint.agg h;injection e with e;simp at e;obtain⟨rfl,rfl,rfl,rfl,rfl,rfl⟩:=e;exact⟨H++I,J++K,by rw[List.append_assoc],TRat.mkAgg k1 k2,TRat.mkAgg E G⟩

theorem B8u (v:Value) (r:TRat) (b:List Nat) (w:World) (H:Agg w v r b) :
  Calls prog 9 #[v] w (A0b w (.int .i64 (A9m r))):=by
 have E:=A_ H;obtain⟨J,n1,S,ac,K,n2,T,ad,rfl,rfl,X,Y⟩:=TRat.agg H;clear X Y H;cases h:J_ r;·have D:=A_ (by unfold A9m;rw[h];rfl:0=A9m r);have G:=A_ h;clear h;go_enter func9,ntmps9;go_wp2_with fail;have C:=A7s _ r _ (w.alloc (.cells #[.bool r.1.1,.slice J n1 S,.slice K n2 T] 35)) (E.below (Below.box _));rw[G.o]at C;refine C.mono ?_;clear C;rintro _ I ⟨rfl,u⟩;go_wp2;go_ret;exact⟨A1x D.o,Below.trans (Below.box _) (u.mono sI)⟩
 have D:=A_ (by unfold A9m;rw[h];rfl:A2v r=A9m r);have O:=A_ (ratOkB_iff.1 h);have G:=A_ h;clear h;go_enter func9,ntmps9;go_wp2_with fail;have C:=A7s _ r _ (w.alloc (.cells #[.bool r.1.1,.slice J n1 S,.slice K n2 T] 35)) (E.below (Below.box _));rw[G.o]at C;refine C.mono ?_;clear C;rintro _ I ⟨rfl,u⟩;obtain⟨Z,aa⟩:=F_ u;have ab:w.1.size<I.1.size:=ltg u;go_wp2_with fail;refine(A7y _ r _ I ((E.below (Below.box _)).below u) O.mag (A4h O.1)).mono ?_;rintro _ ae ⟨rfl,W⟩;go_wp2;go_ret;exact⟨A1x D.o,Below.next (Below.trans (Below.box _) (u.mono sI)) W⟩

theorem B0n (v:Value) (x:TPoint) (b:List Nat) (w:World) (an:Agg w v x b) (af:(!x.x.den.isEmpty)=J_ x.x) (ag:(!x.y.den.isEmpty)=J_ x.y) :
  Calls prog 77 #[v] w (A0b w (bif A1b x then v else .agg #[.bool false,.slice none 0 0,.slice none 0 0,.bool false,.slice none 0 0,.slice none 0 0])):=by
 obtain⟨J,Z,T,ax,K,aa,W,ay,O,ab,X,az,S,ac,Y,aA,rfl,rfl,aj,ak,al,am⟩:=TPoint.agg an;have P1:=A_ (TRat.mkAgg (x:=x.x) aj ak);have P2:=A_ (TRat.mkAgg (x:=x.y) al am);have ad:=A_ af;have ae:=A_ ag;clear aj ak al am an af ag;cases D:J_ x.x;·have H:=A_ (by unfold A1b;rw[D];rfl:A1b x=false);have O1:=A_ D;clear D;go_enter func77,ntmps77;go_wp2_with fail;have C:=A2p _ x.x _ ((w.alloc (.cells #[.bool x.x.1.1,.slice J Z T,.slice K aa W,.bool x.y.1.1,.slice O ab X,.slice S ac Y] 38)).alloc (.cells #[.bool false,.slice none 0 0,.slice none 0 0,.bool false,.slice none 0 0,.slice none 0 0] 38)) (P1.below Below.go);rw[ad.o,O1.o]at C;refine C.mono ?_;clear C;rintro _ u ⟨rfl,h⟩;obtain⟨ah,ai⟩:=F_ h;have ao:w.1.size<u.1.size:=ltg h;have ap:w.1.size+1<u.1.size:=ltg h;go_wp2;refine bodyPost_ret (v:=.agg #[.bool false,.slice none 0 0,.slice none 0 0,.bool false,.slice none 0 0,.slice none 0 0]) (by simp[results,results77,go_sem, *]) rfl ?_;rw[H.o];exact⟨rfl,Below.go⟩
 have O1:=A_ D;cases G:J_ x.y;·have H:=A_ (by unfold A1b;rw[D,G];rfl:A1b x=false);have O2:=A_ G;clear D G;go_enter func77,ntmps77;go_wp2_with fail;have C:=A2p _ x.x _ ((w.alloc (.cells #[.bool x.x.1.1,.slice J Z T,.slice K aa W,.bool x.y.1.1,.slice O ab X,.slice S ac Y] 38)).alloc (.cells #[.bool false,.slice none 0 0,.slice none 0 0,.bool false,.slice none 0 0,.slice none 0 0] 38)) (P1.below Below.go);rw[ad.o,O1.o]at C;refine C.mono ?_;clear C;rintro _ u ⟨rfl,h⟩;obtain⟨ah,ai⟩:=F_ h;have ao:w.1.size<u.1.size:=ltg h;have ap:w.1.size+1<u.1.size:=ltg h;go_wp2_with fail;have C:=A2p _ x.y _ u (P2.below Below.go);rw[ae.o,O2.o]at C;refine C.mono ?_;clear C;rintro _ I ⟨rfl,E⟩;obtain⟨aq,ar⟩:=F_ E;have au:w.1.size<I.1.size:=ltg E;have aw:w.1.size+1<I.1.size:=ltg E;go_wp2;refine bodyPost_ret (v:=.agg #[.bool false,.slice none 0 0,.slice none 0 0,.bool false,.slice none 0 0,.slice none 0 0]) (by simp[results,results77,go_sem, *]) rfl ?_;rw[H.o];exact⟨rfl,Below.go⟩
 have H:=A_ (by unfold A1b;rw[D,G];rfl:A1b x=true);have O2:=A_ G;clear D G;go_enter func77,ntmps77;go_wp2_with fail;have C:=A2p _ x.x _ ((w.alloc (.cells #[.bool x.x.1.1,.slice J Z T,.slice K aa W,.bool x.y.1.1,.slice O ab X,.slice S ac Y] 38)).alloc (.cells #[.bool false,.slice none 0 0,.slice none 0 0,.bool false,.slice none 0 0,.slice none 0 0] 38)) (P1.below Below.go);rw[ad.o,O1.o]at C;refine C.mono ?_;clear C;rintro _ u ⟨rfl,h⟩;obtain⟨ah,ai⟩:=F_ h;have ao:w.1.size<u.1.size:=ltg h;have ap:w.1.size+1<u.1.size:=ltg h;go_wp2_with fail;have C:=A2p _ x.y _ u (P2.below Below.go);rw[ae.o,O2.o]at C;refine C.mono ?_;clear C;rintro _ I ⟨rfl,E⟩;obtain⟨aq,ar⟩:=F_ E;have au:w.1.size<I.1.size:=ltg E;have aw:w.1.size+1<I.1.size:=ltg E;go_wp2;refine bodyPost_ret (v:=.agg #[.bool x.x.1.1,.slice J Z T,.slice K aa W,.bool x.y.1.1,.slice O ab X,.slice S ac Y]) (by simp[results,results77,go_sem, *]) rfl ?_;rw[H.o];exact⟨rfl,Below.go⟩

theorem B2j (v:Value) (x:TPoint) (b:List Nat) (w:World) (X:Agg w v x b) :
  Calls prog 138 #[v] w (A0b w (.bool (A1b x))):=by
 obtain⟨u,Y,H,ai,D,Z,I,aj,E,aa,J,ak,G,ab,K,al,rfl,rfl,O,S,T,W⟩:=TPoint.agg X;have P1:=A_ (TRat.mkAgg (x:=x.x) O S);have P2:=A_ (TRat.mkAgg (x:=x.y) T W);clear O S T W X;have ad:=A_ (show(J_ x.x&&J_ x.y)=A1b x from rfl);go_enter func138,ntmps138;go_wp2_with fail;have C:=A1r (some ⟨w.1.size+1,0,none⟩) 2 2 [x.x,x.y] _ ((w.alloc (.cells #[.bool x.x.1.1,.slice u Y H,.slice D Z I,.bool x.y.1.1,.slice E aa J,.slice G ab K] 38)).alloc (.cells #[.bool x.x.1.1,.slice u Y H,.slice D Z I,.bool x.y.1.1,.slice E aa J,.slice G ab K] 35)) (B5x (P1.o.below Below.go) (P2.o.below Below.go) sI gS gS gS gS gS gS);refine C.mono ?_;clear C;rintro _ ac ⟨rfl,h⟩;obtain⟨ae,af⟩:=F_ h;have ag:w.1.size<ac.1.size:=ltg h;have ah:w.1.size+1<ac.1.size:=ltg h;go_wp2;go_ret;exact⟨Q_ ad,Below.go⟩


theorem A4x (v1 v2:Value) (p q:TPoint) (b1 b2:List Nat) (w:World) (aj:Agg w v1 p b1) (ak:Agg w v2 q b2) :
  Calls prog 146 #[v1,v2] w (A0c w (A3y p q)):=by
 obtain⟨aP,bg,aX,bo,aQ,bh,aY,bp,aR,bi,aZ,bq,aS,bj,a1,br,rfl,rfl,ab,ac,ad,ae⟩:=TPoint.agg aj;obtain⟨aT,bk,a2,bs,aU,bl,a3,bt,aV,bm,a4,bu,aW,bn,a5,bv,rfl,rfl,af,ag,ah,ai⟩:=TPoint.agg ak;have P1:=A_ (TRat.mkAgg (x:=p.x) ab ac);have P2:=A_ (TRat.mkAgg (x:=p.y) ad ae);have Q1:=A_ (TRat.mkAgg (x:=q.x) af ag);have Q2:=A_ (TRat.mkAgg (x:=q.y) ah ai);clear ab ac ad ae af ag ah ai aj ak;have S:=A_ (show A3y p q=ifP (⟨A0k p.x q.x,A0k p.y q.y⟩:TPoint)from rfl);go_enter func146,ntmps146;go_wp2_with fail;refine W_ 10 kR kR kR kR kR ?_;simp only[List.take_succ_cons,List.take_zero,List.drop_succ_cons,List.drop_zero];iterate 4 refine C_ _ ?_
 refine D_ (MP.agg (A0k p.x q.x)) ?_ ?_;·intro al E O h u;obtain⟨aC,aE⟩:=F_ h;simp at u;refine G_ ?_;exact H_ (A0x _ _ p.x q.x _ _ O (P1.below Below.go) (Q1.below Below.go))
 iterate 4 refine C_ _ ?_
 refine D_ (MP.agg (A0k p.y q.y)) ?_ ?_;·intro al E O h u;obtain⟨aC,aE⟩:=F_ h;simp at u;refine G_ ?_;exact H_ (A0x _ _ p.y q.y _ _ O (P2.below Below.go) (Q2.below Below.go))
 intro al E wa h u (W:Hid _);simp at u;have aM:=u.2.2.2.2.1;have aN:=u.2.2.2.2.2.2.2.2.2;obtain⟨⟨H,X⟩,Z⟩:=aM;obtain⟨⟨I,Y⟩,aa⟩:=aN;obtain⟨am,aI,au,a6,an,aJ,aw,a7,az,z4,_,_⟩:=TRat.agg H;obtain⟨ao,aK,ax,a8,ap,aL,ay,a9,aA,aO,_,_⟩:=TRat.agg I;rw[az]at H;rw[aA]at I;have T:=A_ (B4l (x:=(⟨A0k p.x q.x,A0k p.y q.y⟩:TPoint)) H I);have aq:=A_ (Free.join X Y (W 4 9 dE dE dE))
 have ar:=A_ (show ∀ G∈E 4++E 9,w.1.size+3<=G from λG b=>by
  rcases List.mem_append.1 b with K|K;·have:=(Z G K).1;(try simp at this);omega
  have:=(aa G K).1;(try simp at this);omega)
 clear u W H X Z I Y aa z4 aO;generalize E 4++E 9=zs at *;obtain⟨ba,bc⟩:=F_ h;have bd:w.1.size<wa.1.size:=ltg h;have be:w.1.size+1<wa.1.size:=ltg h;have bf:w.1.size+1+1<wa.1.size:=ltg h;go_wp2_with fail;have C:=B0n _ (⟨A0k p.x q.x,A0k p.y q.y⟩:TPoint) _ wa T (C5u _ _) (C5u _ _);cases D:A1b (⟨A0k p.x q.x,A0k p.y q.y⟩:TPoint);·have J:=A_ D;rw[D]at C;clear D;refine C.mono ?_;clear C;rintro _ wb ⟨rfl,b⟩;obtain⟨aB,aD⟩:=F_ b;have aF:w.1.size<wb.1.size:=ltg b;have aG:w.1.size+1<wb.1.size:=ltg b;have aH:w.1.size+1+1<wb.1.size:=ltg b;go_wp2;refine bodyPost_ret (v:=.agg #[.bool false,.slice none 0 0,.slice none 0 0,.bool false,.slice none 0 0,.slice none 0 0]) (by simp[results,results146,go_sem, *]) rfl ?_;rw[S.o];unfold ifP;rw[J.o];exact B4y Below.go
 have J:=A_ D;rw[D]at C;clear D;refine C.mono ?_;clear C;rintro _ wb ⟨rfl,b⟩;obtain⟨aB,aD⟩:=F_ b;have aF:w.1.size<wb.1.size:=ltg b;have aG:w.1.size+1<wb.1.size:=ltg b;have aH:w.1.size+1+1<wb.1.size:=ltg b;go_wp2;refine bodyPost_ret (v:=.agg #[.bool (A0k p.x q.x).1.1,.slice am aI au,.slice an aJ aw,.bool (A0k p.y q.y).1.1,.slice ao aK ax,.slice ap aL ay]) (by simp[results,results146,go_sem, *]) rfl ?_;rw[S.o];unfold ifP;rw[J.o];refine A1s (lo:=w.1.size+3) T.o aq.o ar.o oM ?_ ?_;·exact Above.go
 exact Below.go

theorem A1u (v1 v2:Value) (p q:TPoint) (b1 b2:List Nat) (w:World) (aj:Agg w v1 p b1) (ak:Agg w v2 q b2) :
  Calls prog 33 #[v1,v2] w (A0c w (A4a p q)):=by
 obtain⟨aP,bg,aX,bo,aQ,bh,aY,bp,aR,bi,aZ,bq,aS,bj,a1,br,rfl,rfl,ab,ac,ad,ae⟩:=TPoint.agg aj;obtain⟨aT,bk,a2,bs,aU,bl,a3,bt,aV,bm,a4,bu,aW,bn,a5,bv,rfl,rfl,af,ag,ah,ai⟩:=TPoint.agg ak;have P1:=A_ (TRat.mkAgg (x:=p.x) ab ac);have P2:=A_ (TRat.mkAgg (x:=p.y) ad ae);have Q1:=A_ (TRat.mkAgg (x:=q.x) af ag);have Q2:=A_ (TRat.mkAgg (x:=q.y) ah ai);clear ab ac ad ae af ag ah ai aj ak;have S:=A_ (show A4a p q=ifP (⟨A3t p.x q.x,A3t p.y q.y⟩:TPoint)from rfl);go_enter func33,ntmps33;go_wp2_with fail;refine W_ 10 kR kR kR kR kR ?_;simp only[List.take_succ_cons,List.take_zero,List.drop_succ_cons,List.drop_zero];iterate 4 refine C_ _ ?_
 refine D_ (MP.agg (A3t p.x q.x)) ?_ ?_;·intro al E O h u;obtain⟨aC,aE⟩:=F_ h;simp at u;refine G_ ?_;exact H_ (A5b _ _ p.x q.x _ _ O (P1.below Below.go) (Q1.below Below.go))
 iterate 4 refine C_ _ ?_
 refine D_ (MP.agg (A3t p.y q.y)) ?_ ?_;·intro al E O h u;obtain⟨aC,aE⟩:=F_ h;simp at u;refine G_ ?_;exact H_ (A5b _ _ p.y q.y _ _ O (P2.below Below.go) (Q2.below Below.go))
 intro al E wa h u (W:Hid _);simp at u;have aM:=u.2.2.2.2.1;have aN:=u.2.2.2.2.2.2.2.2.2;obtain⟨⟨H,X⟩,Z⟩:=aM;obtain⟨⟨I,Y⟩,aa⟩:=aN;obtain⟨am,aI,au,a6,an,aJ,aw,a7,az,z4,_,_⟩:=TRat.agg H;obtain⟨ao,aK,ax,a8,ap,aL,ay,a9,aA,aO,_,_⟩:=TRat.agg I;rw[az]at H;rw[aA]at I;have T:=A_ (B4l (x:=(⟨A3t p.x q.x,A3t p.y q.y⟩:TPoint)) H I);have aq:=A_ (Free.join X Y (W 4 9 dE dE dE))
 have ar:=A_ (show ∀ G∈E 4++E 9,w.1.size+3<=G from λG b=>by
  rcases List.mem_append.1 b with K|K;·have:=(Z G K).1;(try simp at this);omega
  have:=(aa G K).1;(try simp at this);omega)
 clear u W H X Z I Y aa z4 aO;generalize E 4++E 9=zs at *;obtain⟨ba,bc⟩:=F_ h;have bd:w.1.size<wa.1.size:=ltg h;have be:w.1.size+1<wa.1.size:=ltg h;have bf:w.1.size+1+1<wa.1.size:=ltg h;go_wp2_with fail;have C:=B0n _ (⟨A3t p.x q.x,A3t p.y q.y⟩:TPoint) _ wa T (D4u _ _) (D4u _ _);cases D:A1b (⟨A3t p.x q.x,A3t p.y q.y⟩:TPoint);·have J:=A_ D;rw[D]at C;clear D;refine C.mono ?_;clear C;rintro _ wb ⟨rfl,b⟩;obtain⟨aB,aD⟩:=F_ b;have aF:w.1.size<wb.1.size:=ltg b;have aG:w.1.size+1<wb.1.size:=ltg b;have aH:w.1.size+1+1<wb.1.size:=ltg b;go_wp2;refine bodyPost_ret (v:=.agg #[.bool false,.slice none 0 0,.slice none 0 0,.bool false,.slice none 0 0,.slice none 0 0]) (by simp[results,results33,go_sem, *]) rfl ?_;rw[S.o];unfold ifP;rw[J.o];exact B4y Below.go
 have J:=A_ D;rw[D]at C;clear D;refine C.mono ?_;clear C;rintro _ wb ⟨rfl,b⟩;obtain⟨aB,aD⟩:=F_ b;have aF:w.1.size<wb.1.size:=ltg b;have aG:w.1.size+1<wb.1.size:=ltg b;have aH:w.1.size+1+1<wb.1.size:=ltg b;go_wp2;refine bodyPost_ret (v:=.agg #[.bool (A3t p.x q.x).1.1,.slice am aI au,.slice an aJ aw,.bool (A3t p.y q.y).1.1,.slice ao aK ax,.slice ap aL ay]) (by simp[results,results33,go_sem, *]) rfl ?_;rw[S.o];unfold ifP;rw[J.o];refine A1s (lo:=w.1.size+3) T.o aq.o ar.o oM ?_ ?_;·exact Above.go
 exact Below.go

theorem A1n (v1 v2:Value) (r:TRat) (p:TPoint) (b1 b2:List Nat) (w:World) (O:Agg w v1 r b1) (ah:Agg w v2 p b2) :
  Calls prog 79 #[v1,v2] w (A0c w (A0v r p)):=by
 have X:=A_ O;obtain⟨aO,ba,aU,bh,aP,bc,aV,bi,rfl,rfl,aC,aD⟩:=TRat.agg O;obtain⟨aQ,bd,aW,bj,aR,be,aX,bk,aS,bf,aY,bl,aT,bg,aZ,bm,rfl,rfl,ad,ae,af,ag⟩:=TPoint.agg ah;have Q1:=A_ (TRat.mkAgg (x:=p.x) ad ae);have Q2:=A_ (TRat.mkAgg (x:=p.y) af ag);clear aC aD ad ae af ag O ah;have T:=A_ (show A0v r p=ifP (⟨A0d r p.x,A0d r p.y⟩:TPoint)from rfl);go_enter func79,ntmps79;go_wp2_with fail;refine W_ 8 kR kR kR kR kR ?_;simp only[List.take_succ_cons,List.take_zero,List.drop_succ_cons,List.drop_zero];iterate 3 refine C_ _ ?_
 refine D_ (MP.agg (A0d r p.x)) ?_ ?_;·intro ai E S h u;obtain⟨az,aB⟩:=F_ h;simp at u;refine G_ ?_;exact H_ (A0n _ _ r p.x _ _ S (X.below Below.go) (Q1.below Below.go))
 iterate 3 refine C_ _ ?_
 refine D_ (MP.agg (A0d r p.y)) ?_ ?_;·intro ai E S h u;obtain⟨az,aB⟩:=F_ h;simp at u;refine G_ ?_;exact H_ (A0n _ _ r p.y _ _ S (X.below Below.go) (Q2.below Below.go))
 intro ai E wa h u (Y:Hid _);simp at u;have aL:=u.2.2.2.1;have aM:=u.2.2.2.2.2.2.2;obtain⟨⟨H,Z⟩,ab⟩:=aL;obtain⟨⟨I,aa⟩,ac⟩:=aM;obtain⟨aj,aH,ap,a1,ak,aI,aq,a2,aw,z4,_,_⟩:=TRat.agg H;obtain⟨al,aJ,ar,a3,am,aK,au,a4,ax,aN,_,_⟩:=TRat.agg I;rw[aw]at H;rw[ax]at I;have W:=A_ (B4l (x:=(⟨A0d r p.x,A0d r p.y⟩:TPoint)) H I);have an:=A_ (Free.join Z aa (Y 3 7 dE dE dE))
 have ao:=A_ (show ∀ G∈E 3++E 7,w.1.size+3<=G from λG b=>by
  rcases List.mem_append.1 b with K|K;·have:=(ab G K).1;(try simp at this);omega
  have:=(ac G K).1;(try simp at this);omega)
 clear u Y H Z ab I aa ac z4 aN;generalize E 3++E 7=zs at *;obtain⟨a5,a6⟩:=F_ h;have a7:w.1.size<wa.1.size:=ltg h;have a8:w.1.size+1<wa.1.size:=ltg h;have a9:w.1.size+1+1<wa.1.size:=ltg h;go_wp2_with fail;have C:=B0n _ (⟨A0d r p.x,A0d r p.y⟩:TPoint) _ wa W (C6q _ _) (C6q _ _);cases D:A1b (⟨A0d r p.x,A0d r p.y⟩:TPoint);·have J:=A_ D;rw[D]at C;clear D;refine C.mono ?_;clear C;rintro _ wb ⟨rfl,b⟩;obtain⟨ay,aA⟩:=F_ b;have aE:w.1.size<wb.1.size:=ltg b;have aF:w.1.size+1<wb.1.size:=ltg b;have aG:w.1.size+1+1<wb.1.size:=ltg b;go_wp2;refine bodyPost_ret (v:=.agg #[.bool false,.slice none 0 0,.slice none 0 0,.bool false,.slice none 0 0,.slice none 0 0]) (by simp[results,results79,go_sem, *]) rfl ?_;rw[T.o];unfold ifP;rw[J.o];exact B4y Below.go
 have J:=A_ D;rw[D]at C;clear D;refine C.mono ?_;clear C;rintro _ wb ⟨rfl,b⟩;obtain⟨ay,aA⟩:=F_ b;have aE:w.1.size<wb.1.size:=ltg b;have aF:w.1.size+1<wb.1.size:=ltg b;have aG:w.1.size+1+1<wb.1.size:=ltg b;go_wp2;refine bodyPost_ret (v:=.agg #[.bool (A0d r p.x).1.1,.slice aj aH ap,.slice ak aI aq,.bool (A0d r p.y).1.1,.slice al aJ ar,.slice am aK au]) (by simp[results,results79,go_sem, *]) rfl ?_;rw[T.o];unfold ifP;rw[J.o];refine A1s (lo:=w.1.size+3) W.o an.o ao.o oM ?_ ?_;·exact Above.go
 exact Below.go
end Go.Proofs.YtbhemnidcleaiaaGreat.X
