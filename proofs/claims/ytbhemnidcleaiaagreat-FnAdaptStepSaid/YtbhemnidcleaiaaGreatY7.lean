/- A part of the proof. -/
import Derived.Test.YtbhemnidcleaiaaGreatY6
import Derived.Deep.LoopGhost
set_option linter.constructorNameAsVariable false
set_option maxHeartbeats 16000000
set_option maxRecDepth 10000
namespace Go.Proofs.YtbhemnidcleaiaaGreat.X
open Go.RowKit Go.XB Go.XN Proofs.Tryz
attribute [local go_sem] L_ opAt N_ M_ Region.wanted yielded
attribute [local simp] N_ M_ MP.eq A0r
theorem B8y {a b:Int}:Int.gcd b (a % b)=Int.gcd a b:=by
 have h:=Int.gcd_add_mul_left_right b (a % b) (a / b);rw[Int.emod_add_mul_ediv]at h;rw[<-h,Int.gcd_comm]
theorem A8u {w:World} {b D:Nat} {e:TypeId} {size:Nat} {v:Value} {n:Nat} {xs:List Value} (h:w.ownsRow b e size v n xs) (I:D<=b):w.ownsRow D e size v n xs:=by
 refine⟨h.1,?_⟩;rcases h.2 with u|⟨g,cap,E,G,u,H⟩
 ·exact .inl u
 exact .inr ⟨g,cap,E,G,Nat.le_trans I u,H⟩

theorem C1y (A B:Option Addr) (n m c d:Nat) (xs ys:List Int) (b h:List Nat) (w:World) (E:Sl w A n c xs b) (u:Sl w B m d ys h) (aa:XN.Can xs) (ab:XN.Can ys) (K:n<=65536) (J:m<=65536) :
  Calls prog 87 #[.slice A n c,.slice B m d] w (B3k w 3 (dig (Int.gcd (val xs) (val ys)))):=by
 have ai:=A_ E;have aj:=A_ u;have ag:=A_ aa;have X:=A_ ab;clear E u aa ab;go_enter func87,ntmps87;go_wp2_with fail;go_loopg [0,1,6] (val ys).toNat (λg s0 s1 s6 wr=>∃ (A B:Option Addr) (n m c d:Nat) (x y:List Int) (b h:List Nat),s0=.slice A n c/\s1=.slice B m d/\Hid (Sl wr A n c x b)/\Hid (Sl wr B m d y h)/\Hid (XN.Can x)/\Hid (XN.Can y)/\n<=65536/\m<=65536/\Hid (Int.gcd (val x) (val y)=Int.gcd (val xs) (val ys))/\Hid (val y=g)/\Bw w wr);case atStart=>exact⟨A,B,n,m,c,d,xs,ys,b,h,rfl,rfl,ai,aj,ag,X,K,J,rfl,(Int.toNat_of_nonneg (S_ X.1)).symm,Below.refl _ _⟩
 case round =>
  obtain⟨A,B,n,m,c,d,x,y,b,h,rfl,rfl,E,u,Y,H,K,J,ac,ao,I⟩:=hrel;have S:=A_ (show y.length=m from u.1);by_cases ap:0<m
  ·have G:=A_ (H.pos (by intro e;have:=S.o;rw[e]at this;simp at this;omega))
   go_wp2_with fail;refine(B5w A B n m c d x y b h wr E u Y H K ap).mono ?_;rintro _ W ⟨aA,n1,aB,b1,ae,n2,al,b2,rfl,au,T,aq,D⟩;have ah:=A_ T;have ak:=A_ (Sl.below u D);have O:Bw w W:=Below.next I D;have rl:=A_ (show n2<=m by rw[<-T.1];refine A4r ?_;have am:=Int.emod_lt_of_pos (val x) G;have an:=Int.emod_nonneg (val x) (by have:=G.o;omega:val y≠0);have Z:=A4j H.1;rw[S.o]at Z;omega);have aw:=A_ (show Int.gcd (val y) (val (dig (val x % val y).toNat))=Int.gcd (val xs) (val ys) by rw[A1j,Int.toNat_of_nonneg (Int.emod_nonneg _ (by have:=G.o;omega)),B8y];exact ac);have ax:=A_ (show val (dig (val x % val y).toNat)=((val x % val y).toNat:Int)from A1j _);have ay:=A_ (show(val x % val y).toNat<gk by have am:=Int.emod_lt_of_pos (val x) G;have an:=ao.o;have Z:=G.o;omega);have az:=A_ (show n2<=65536 from Nat.le_trans rl J);clear au T aq I D;have af:=A_ (A0j (val x % val y).toNat);go_wp2_with fail;go_roundg (val x % val y).toNat;case measure=>exact ay
   case rel=>exact⟨B,ae,m,n2,d,al,y,_,h,b2,rfl,rfl,ak,ah,H,af,J,az,aw,ax,O⟩
  obtain rfl:m=0:=oM;have e:=A_ (show x=dig (Int.gcd (val xs) (val ys)) by rw[<-ac.o,show val y=0 by rw[List.eq_nil_of_length_eq_zero S.o];rfl,Int.gcd_zero_right];exact(Y.dig_natAbs).symm);go_wp2_with fail;refine(B6m A n c x b wr E (Nat.le_trans K dE)).mono ?_;rintro _ W ⟨v1,rfl,ar,D⟩;have O:Bw w W:=Below.next I D;have ad:=A8u ar I.size;rw[e.o]at ad;go_wp2;go_ret;exact⟨_,rfl,ad,O⟩

theorem B2z (a b:Int) (w:World) (I:0<=a) (E:0<=b) (J:a<=9223372036854775807) (K:b<=9223372036854775807) :
  Calls prog 85 #[.int .i64 a,.int .i64 b] w (A0b w (.int .i64 (Int.gcd a b))):=by
 go_enter func85,ntmps85;go_wp2_with fail;go_loopg [0,1] b.toNat (λg s0 s1 wr=>∃ x y:Int,s0=.int .i64 x/\s1=.int .i64 y/\0<=x/\x<=9223372036854775807/\0<=y/\y<=9223372036854775807/\Hid (Int.gcd x y=Int.gcd a b)/\Hid (y=g)/\Bw w wr);case atStart=>exact⟨a,b,rfl,rfl,I,J,E,K,rfl,(Int.toNat_of_nonneg E).symm,Below.refl _ _⟩
 case round =>
  obtain⟨x,y,rfl,rfl,W,af,Y,Z,H,T,G⟩:=hrel;by_cases X:0<y
  ·have r0:=A_ (show 0<=x % y/\x % y<y from⟨Int.emod_nonneg _ oM,Int.emod_lt_of_pos _ X⟩)
   have aa:=A_ (by rw[B8y];exact H:Int.gcd y (x % y)=Int.gcd a b);have D:=A_ (by have:=r0.o;have:=T.o;omega:(x % y).toNat<gk/\x % y<=9223372036854775807/\x % y=((x % y).toNat:Int));go_wp2_with fail;refine A0g ?_;iterate 3 refine C_ _ ?_
   refine A2b (Value.int .i64 (x % y)) ?_ ?_;·intro ab ac ag h u;obtain⟨ad,ae⟩:=F_ h;simp at u;refine⟨gD,?_⟩;go_simp;rw[if_neg oM,Int.tmod_eq_emod_of_nonneg W]
   iterate 2 refine C_ _ ?_
   intro ab ac wa h u (S:Hid _);simp at u;go_simp;clear u S;have O:=Below.next G h;clear h;go_wp2_with fail;go_roundg (x % y).toNat;case measure=>exact D.1
   case rel=>exact⟨y,x % y,rfl,rfl,Y,Z,r0.1,D.2.1,aa,D.2.2,O⟩
  obtain rfl:y=0:=oM;have e:=A_ (by rw[<-H.o,Int.gcd_zero_right];omega:x=(Int.gcd a b:Int));go_wp2;go_ret;exact⟨A1x e,G⟩

theorem B1f (A:Option Addr) (n c:Nat) (xs:List Int) (G:List Nat) (w:World) (b:Sl w A n c xs G) :
  Calls prog 86 #[.slice A n c] w (A0b w (.bool (decide (xs=[1])))):=by
 have E:=A_ b.1;by_cases u:n=1
 ·subst u
  obtain⟨I,S,x,rfl,K,D,J,H⟩:=Sl.getInt b (k:=0) dE;simp only[Nat.add_zero]at H;have e:=A_ (show(x==1)=decide (xs=[1]) by
   have h:=E.o;match xs,h with
   | [y],_=>simp at D;subst D;simp;rfl)
  clear b D;go_enter func86,ntmps86;go_wp2;go_ret;exact⟨Q_ e,Below.go⟩
 have e:=A_ (show decide (xs=[1])=false by simp;intro h;apply u;rw[<-E.o,h];rfl);have O:((n:Int)==1)=false:=sO;clear b u;go_enter func86,ntmps86;go_wp2;go_ret;exact⟨Q_ e.symm,Below.go⟩

theorem A3s (neg:Bool) (A:Option Addr) (n c:Nat) (w:World) :
  Calls prog 71 #[.bool neg,.slice A n c] w (A0b w (.agg #[.bool (neg&&decide (0<n)),.slice A n c])):=by
 cases neg;·go_enter func71,ntmps71;go_wp2;exact bodyPost_ret (v:=.agg #[.bool false,.slice A n c]) (by simp[results,results71,go_sem]) rfl ⟨rfl,Below.go⟩
 by_cases b:0<n
 ·have e:decide (0<n)=true:=by simpa using b
  rw[e];go_enter func71,ntmps71;go_wp2;exact bodyPost_ret (v:=.agg #[.bool true,.slice A n c]) (by simp[results,results71,go_sem]) rfl ⟨rfl,Below.go⟩
 obtain rfl:n=0:=oM;go_enter func71,ntmps71;go_wp2;exact bodyPost_ret (v:=.agg #[.bool false,.slice A 0 c]) (by simp[results,results71,go_sem]) rfl ⟨rfl,Below.go⟩

theorem E6t {n:Int} (b:n<0) (h:-9223372036854775808<=n):IntKind.u64.wrap (-IntKind.u64.wrap n) = -n:=by
 simp[IntKind.wrap,IntKind.signed,IntKind.bits];omega
theorem A7w {α:Type} [Dat α] {w w0 u W:World} {lo:Nat} {A:Option Addr} {n c:Nat} {xs:List α} {bs:List Nat} (h:Sl u A n c xs bs) (ho:Own w0 u bs) (hs:w.1.size<=w0.1.size) (hl:lo<=w0.1.size) (ha:Above lo u W):Sl W A n c xs bs/\Own w W bs :=
 ⟨Sl.above h ho ha hl,(ho.above ha hl).older hs⟩

theorem A9i (N:Int) (w:World) (h:I64 N):Calls prog 61 #[.int .i64 N] w (A0c w (A0f N)):=by
 have Z:=h.1;have ag:=h.2;rcases Int.lt_or_le N 0 with H|H
 ·have X:=A_ (E6t H Z)
  have Y:=A_ (by rw[X.o];omega:0<=IntKind.u64.wrap (-IntKind.u64.wrap N)/\IntKind.u64.wrap (-IntKind.u64.wrap N)<=18446744073709551615);have J:=A_ (by rw[X.o,show(-N).toNat=N.natAbs by omega];rfl:dig (IntKind.u64.wrap (-IntKind.u64.wrap N)).toNat=(A0f N).mag);go_enter func61,ntmps61;go_wp2_with fail;refine(B3p (IntKind.u64.wrap (-IntKind.u64.wrap N)) _ Y.1 Y.2).mono ?_;rintro _ u ⟨A,n,c,S,rfl,b,G,D⟩;rw[J.o]at b;have O:=A_ b;have K:=A_ G;obtain⟨aa,ac⟩:=F_ D;have ae:w.1.size<u.1.size:=ltg D;have I:=A_ (show(true&&decide (0<n))=(A0f N).neg by
   have:=b.1;unfold A0f at this ⊢;simp only[H,Bool.true_and,decide_true,decide_eq_true_eq];rw[<-this];have:dig N.natAbs≠[]:=by rw[Ne,B1x];omega
   exact List.length_pos_iff.2 this)
  clear b G;go_wp2_with fail;have C:=A3s true A n c u;rw[I.o]at C;refine C.mono ?_;clear C;rintro _ T ⟨rfl,E⟩;obtain⟨ab,ad⟩:=F_ E;have af:w.1.size<T.1.size:=ltg E;go_wp2;refine bodyPost_ret (v:=.agg #[.bool (A0f N).neg,.slice A n c]) (by simp[results,results61,go_sem, *]) rfl ?_;have f:=fun(W:World) (ha:Above (w.1.size+1) u W)=>A7w (w:=w) O.o K.o sI sI ha;exact⟨_,S,rfl,TBigInt.mkAgg (f _ Above.go).1,(f _ Above.go).2,Below.go⟩
 have J:=A_ (by rw[show N.toNat=N.natAbs by omega];rfl:dig N.toNat=(A0f N).mag);go_enter func61,ntmps61;go_wp2_with fail;refine(B3p N _ H oM).mono ?_;rintro _ u ⟨A,n,c,S,rfl,b,G,D⟩;rw[J.o]at b;have O:=A_ b;have K:=A_ G;obtain⟨aa,ac⟩:=F_ D;have ae:w.1.size<u.1.size:=ltg D;clear b G;go_wp2_with fail;have I:=A_ (by unfold A0f;simp;omega:(false&&decide (0<n))=(A0f N).neg);have C:=A3s false A n c u;rw[I.o]at C;refine C.mono ?_;clear C;rintro _ T ⟨rfl,E⟩;obtain⟨ab,ad⟩:=F_ E;have af:w.1.size<T.1.size:=ltg E;go_wp2;refine bodyPost_ret (v:=.agg #[.bool (A0f N).neg,.slice A n c]) (by simp[results,results61,go_sem, *]) rfl ?_;have f:=fun(W:World) (ha:Above (w.1.size+1) u W)=>A7w (w:=w) O.o K.o sI sI ha;exact⟨_,S,rfl,TBigInt.mkAgg (f _ Above.go).1,(f _ Above.go).2,Below.go⟩
section
attribute [local simp] MP.agg MP.sl
theorem _root_.Go.XN.enc_of {neg:Bool} {N:Nat} {v:Int} (b:v=if neg then -(N:Int)else N):(A0f v).mag=dig N/\(A0f v).neg=(neg&&decide (0<(dig N).length)):=by
 have:=C5a (neg:=neg) (A0j N) (v:=v) (by rw[A1j];exact b);rw[<-this];refine⟨rfl,?_⟩;cases dig N<;>simp
theorem _root_.Go.XN.mul_val {x y:TBigInt} (h:Lims x.mag) (u:Lims y.mag):A0q x*A0q y=if x.neg != y.neg then -((val x.mag*val y.mag).toNat:Int)else(val x.mag*val y.mag).toNat:=by
 have b:=Int.mul_nonneg (S_ h) (S_ u);rw[Int.toNat_of_nonneg b];unfold A0q;cases x.neg<;>cases y.neg<;>simp[Int.neg_mul,Int.mul_neg]
theorem C3w {w W:World} {t:Int} {A:Option Addr} {n c:Nat} {bs:List Nat} (h:Sl W A n c (A0f t).mag bs/\Own w W bs) (hb:Bw w W):A0c w (A0f t) (.returned (.agg #[.bool (A0f t).neg,.slice A n c])) W :=
 ⟨_,bs,rfl,TBigInt.mkAgg h.1,h.2,hb⟩

theorem A7j {α:Type} [Dat α] {w u W:World} {lo:Nat} {A:Option Addr} {n c:Nat} {xs:List α} {bs:List Nat} (h:Sl u A n c xs bs) (hf:Free u bs) (hr:∀ b∈bs,lo<=b) (hl:w.1.size<=lo) (ha:Above lo u W):Sl W A n c xs bs/\Own w W bs :=
 have hk:∀ g∈bs,W.1[g]?=u.1[g]?:=λg hg=>ha.block g (hr g hg) (h.lt g hg)
 ⟨h.keep hk,hf.1,λb hb=>⟨Nat.le_trans hl (hr b hb),by obtain⟨cs,t,e⟩:=hf.2 b hb;exact⟨cs,t,(hk b hb).trans e⟩⟩⟩

theorem A6e (v1 v2:Value) (x y:TBigInt) (b1 b2:List Nat) (w:World) (Y:Agg w v1 x b1) (Z:Agg w v2 y b2) (E:Lims x.mag) (G:Lims y.mag) (lx:x.mag.length<=1048576) (aa:y.mag.length<=1048576) :
  Calls prog 68 #[v1,v2] w (A0c w (A0f (A0q x*A0q y))):=by
 obtain⟨af,n1,ap,aG,rfl,rfl,T⟩:=TBigInt.agg Y;obtain⟨ag,n2,aq,aH,rfl,rfl,X⟩:=TBigInt.agg Z;have I:=A_ T;have J:=A_ X;have D:=A_ (enc_of (mul_val E G));have ah:=A_ E;have ai:=A_ G;have am:=A_ lx;have an:=A_ aa;clear T X Y Z E G lx aa;go_enter func68,ntmps68;go_wp2_with fail;refine X_ sI ?_;dsimp only[List.dropLast,List.getLast,List.length];iterate 9 refine C_ _ ?_
 refine D_ (MP.sl (A0f (A0q x*A0q y)).mag) ?_ ?_;·intro ad ae H h b;obtain⟨au,ax⟩:=F_ h;simp at b;refine G_ ?_;have:=B5n af ag n1 n2 ap aq x.mag y.mag _ _ H (Sl.below I.o Below.go) (Sl.below J.o Below.go) ah.o ai.o (by rw[<-I.o.1];exact am.o) (by rw[<-J.o.1];exact an);rw[<-D.o.1]at this;exact A1c this
 refine A3q (λac=>MP.eq (.agg #[.bool (A0f (A0q x*A0q y)).neg,ac 9])) (by intro y ac K;simp[N_,M_]at K;simp[K]) ?_ ?_;·intro ad ae H h b;obtain⟨au,ax⟩:=F_ h;simp at b;refine G_ ?_;obtain⟨_,⟨A,n,c,e,u⟩,_⟩:=b;rw[e];have C:=A3s (!(x.neg==y.neg)) A n c H;rw[show((!(x.neg==y.neg))&&decide (0<n))=(A0f (A0q x*A0q y)).neg by rw[D.o.2,<-D.o.1,u.1];rfl]at C;exact A0i C
 intro ad ae wa h b (aw:Hid _);simp at b;go_simp;have ay:=b.2.2.2.2.2.2.2.2.2.1;have ab:=b.2.2.2.2.2.2.2.2.2.2;obtain⟨⟨⟨A,n,c,aA,u⟩,O⟩,S⟩:=ay;have az:=ab.1.1;have al:=A_ u;have aj:=A_ O;have ak:=A_ S;clear b aw ab u O S;obtain⟨aB,aC⟩:=F_ h;have aD:w.1.size<wa.1.size:=ltg h;have aE:w.1.size+1<wa.1.size:=ltg h;have aF:w.1.size+1+1<wa.1.size:=ltg h;go_wp2;refine bodyPost_ret (v:=.agg #[.bool (A0f (A0q x*A0q y)).neg,.slice A n c]) (by simp[results,results68,go_sem, *]) rfl ?_;have f:=fun(W:World) (ha:Above (w.1.size+3) wa W)=>A7j (w:=w) al.o aj.o (λao ar=>(ak.o ao ar).1) oM ha;exact C3w (f _ Above.go) Below.go

theorem _root_.Go.XN.add_same {x y:TBigInt} (b:Lims x.mag) (u:Lims y.mag) (h:x.neg=y.neg):A0q x+A0q y=if x.neg then -((val x.mag+val y.mag).toNat:Int)else(val x.mag+val y.mag).toNat:=by
 have D:=S_ b;have E:=S_ u;unfold A0q;rw[<-h];cases x.neg<;>simp<;>omega
theorem _root_.Go.XN.add_ge {x y:TBigInt} (h:¬ x.neg=y.neg) (b:val y.mag<=val x.mag):A0q x+A0q y=if x.neg then -((val x.mag - val y.mag).toNat:Int)else(val x.mag - val y.mag).toNat:=by
 unfold A0q;cases u:x.neg<;>cases D:y.neg<;>simp_all<;>omega
theorem _root_.Go.XN.add_lt {x y:TBigInt} (h:¬ x.neg=y.neg) (b:val x.mag<=val y.mag):A0q x+A0q y=if y.neg then -((val y.mag - val x.mag).toNat:Int)else(val y.mag - val x.mag).toNat:=by
 unfold A0q;cases u:x.neg<;>cases D:y.neg<;>simp_all<;>omega

theorem D6e (v1 v2:Value) (x y:TBigInt) (b1 b2:List Nat) (w:World) (aG:Agg w v1 x b1) (aH:Agg w v2 y b2) (ay:XN.Can x.mag) (az:XN.Can y.mag) (lx:x.mag.length<=1048576) (aL:y.mag.length<=1048576) :
  Calls prog 67 #[v1,v2] w (A0c w (A0f (A0q x+A0q y))):=by
 obtain⟨af,n1,al,aS,rfl,rfl,aE⟩:=TBigInt.agg aG;obtain⟨ag,n2,am,aT,rfl,rfl,aF⟩:=TBigInt.agg aH;have Z:=A_ aE;have aa:=A_ aF;have ad:=A_ ay;have ae:=A_ az;have au:=A_ lx;have aw:=A_ aL;clear aE aF aG aH ay az lx aL;by_cases I:x.neg=y.neg
 ·have D:=A_ (enc_of (add_same ad.1 ae.1 I))
  have ab:(x.neg==y.neg)=true:=by simp[I]
  have aR:=A_ I;clear I;go_enter func67,ntmps67;go_wp2_with fail;refine X_ sI ?_;dsimp only[List.dropLast,List.getLast,List.length];iterate 6 refine C_ _ ?_
  refine D_ (MP.sl (A0f (A0q x+A0q y)).mag) ?_ ?_;·intro X Y E h b;obtain⟨an,ap⟩:=F_ h;simp at b;refine G_ ?_;have:=D5r af ag n1 n2 al am x.mag y.mag _ _ E (Sl.below Z.o Below.go) (Sl.below aa.o Below.go) ad.o ae.o (by rw[<-Z.o.1];exact au.o) (by rw[<-aa.o.1];exact aw);rw[<-D.o.1]at this;exact A1c this
  refine A3q (λT=>MP.eq (.agg #[.bool (A0f (A0q x+A0q y)).neg,T 6])) (by intro y T J;simp[N_,M_]at J;simp[J]) ?_ ?_;·intro X Y E h b;obtain⟨an,ap⟩:=F_ h;simp at b;refine G_ ?_;obtain⟨_,⟨A,n,c,e,u⟩,_⟩:=b;rw[e];have C:=A3s x.neg A n c E;rw[show(x.neg&&decide (0<n))=(A0f (A0q x+A0q y)).neg by rw[D.o.2,<-D.o.1,u.1]]at C;exact A0i C
  intro X Y wa h b (ao:Hid _);simp at b;go_simp;have aq:=b.2.2.2.2.2.2.1;have S:=b.2.2.2.2.2.2.2;obtain⟨⟨⟨A,n,c,aA,u⟩,K⟩,O⟩:=aq;have aB:=S.1.1;have aj:=A_ u;have ah:=A_ K;have ai:=A_ O;clear b ao S u K O;obtain⟨aC,aD⟩:=F_ h;have aI:w.1.size<wa.1.size:=ltg h;have aJ:w.1.size+1<wa.1.size:=ltg h;have aK:w.1.size+1+1<wa.1.size:=ltg h;go_wp2;refine bodyPost_ret (v:=.agg #[.bool (A0f (A0q x+A0q y)).neg,.slice A n c]) (by simp[results,results67,go_sem, *]) rfl ?_;have f:=fun(W:World) (ha:Above (w.1.size+3) wa W)=>A7j (w:=w) aj ah (λak ab=>by have:=(ai ak ab).1;omega) oM ha;exact C3w (f _ Above.go) Below.go
 have ab:(x.neg==y.neg)=false:=by simp[I]
 rcases Int.lt_or_le (val x.mag) (val y.mag)with H|H
 ·have D:=A_ (enc_of (add_lt I (Int.le_of_lt H)))
  have ax:=A_ (B2q H);have ar:=A_ H;clear I H;go_enter func67,ntmps67;go_wp2_with fail;refine(A9u af ag n1 n2 al am x.mag y.mag _ _ _ (Sl.below Z Below.go) (Sl.below aa Below.go) ad ae).mono ?_;rintro _ ac ⟨rfl,G⟩;rw[ax.o];obtain⟨aM,aN⟩:=F_ G;have aO:w.1.size<ac.1.size:=ltg G;have aP:w.1.size+1<ac.1.size:=ltg G;have aQ:w.1.size+1+1<ac.1.size:=ltg G;go_wp2_with fail;refine X_ sI ?_;dsimp only[List.dropLast,List.getLast,List.length];iterate 6 refine C_ _ ?_
  refine D_ (MP.sl (A0f (A0q x+A0q y)).mag) ?_ ?_;·intro X Y E h b;obtain⟨an,ap⟩:=F_ h;simp at b;refine G_ ?_;have:=C2l ag af n2 n1 am al y.mag x.mag _ _ E (Sl.below aa.o Below.go) (Sl.below Z.o Below.go) ae.o ad.o (by rw[<-aa.o.1];exact aw) (Int.le_of_lt ar);rw[<-D.o.1]at this;exact A1c this
  refine A3q (λT=>MP.eq (.agg #[.bool (A0f (A0q x+A0q y)).neg,T 6])) (by intro y T J;simp[N_,M_]at J;simp[J]) ?_ ?_;·intro X Y E h b;obtain⟨an,ap⟩:=F_ h;simp at b;refine G_ ?_;obtain⟨_,⟨A,n,c,e,u⟩,_⟩:=b;rw[e];have C:=A3s y.neg A n c E;rw[show(y.neg&&decide (0<n))=(A0f (A0q x+A0q y)).neg by rw[D.o.2,<-D.o.1,u.1]]at C;exact A0i C
  intro X Y wa h b (ao:Hid _);simp at b;go_simp;have aq:=b.2.2.2.2.2.2.1;have S:=b.2.2.2.2.2.2.2;obtain⟨⟨⟨A,n,c,aA,u⟩,K⟩,O⟩:=aq;have aB:=S.1.1;have aj:=A_ u;have ah:=A_ K;have ai:=A_ O;clear b ao S u K O;obtain⟨aC,aD⟩:=F_ h;have aI:w.1.size<wa.1.size:=ltg h;have aJ:w.1.size+1<wa.1.size:=ltg h;have aK:w.1.size+1+1<wa.1.size:=ltg h;go_wp2;refine bodyPost_ret (v:=.agg #[.bool (A0f (A0q x+A0q y)).neg,.slice A n c]) (by simp[results,results67,go_sem, *]) rfl ?_;have f:=fun(W:World) (ha:Above (w.1.size+3) wa W)=>A7j (w:=w) aj ah (λak ab=>by have:=(ai ak ab).1;omega) oM ha;exact C3w (f _ Above.go) Below.go
 have D:=A_ (enc_of (add_ge I H));have ax:=B8n H;have ar:=A_ H;clear I H;go_enter func67,ntmps67;go_wp2_with fail;refine(A9u af ag n1 n2 al am x.mag y.mag _ _ _ (Sl.below Z Below.go) (Sl.below aa Below.go) ad ae).mono ?_;rintro _ ac ⟨rfl,G⟩;generalize sgn (val x.mag - val y.mag)=aU at *;obtain⟨aM,aN⟩:=F_ G;have aO:w.1.size<ac.1.size:=ltg G;have aP:w.1.size+1<ac.1.size:=ltg G;have aQ:w.1.size+1+1<ac.1.size:=ltg G;go_wp2_with fail;refine X_ sI ?_;dsimp only[List.dropLast,List.getLast,List.length];iterate 6 refine C_ _ ?_
 refine D_ (MP.sl (A0f (A0q x+A0q y)).mag) ?_ ?_;·intro X Y E h b;obtain⟨an,ap⟩:=F_ h;simp at b;refine G_ ?_;have:=C2l af ag n1 n2 al am x.mag y.mag _ _ E (Sl.below Z.o Below.go) (Sl.below aa.o Below.go) ad.o ae.o (by rw[<-Z.o.1];exact au) ar;rw[<-D.o.1]at this;exact A1c this
 refine A3q (λT=>MP.eq (.agg #[.bool (A0f (A0q x+A0q y)).neg,T 6])) (by intro y T J;simp[N_,M_]at J;simp[J]) ?_ ?_;·intro X Y E h b;obtain⟨an,ap⟩:=F_ h;simp at b;refine G_ ?_;obtain⟨_,⟨A,n,c,e,u⟩,_⟩:=b;rw[e];have C:=A3s x.neg A n c E;rw[show(x.neg&&decide (0<n))=(A0f (A0q x+A0q y)).neg by rw[D.o.2,<-D.o.1,u.1]]at C;exact A0i C
 intro X Y wa h b (ao:Hid _);simp at b;go_simp;have aq:=b.2.2.2.2.2.2.1;have S:=b.2.2.2.2.2.2.2;obtain⟨⟨⟨A,n,c,aA,u⟩,K⟩,O⟩:=aq;have aB:=S.1.1;have aj:=A_ u;have ah:=A_ K;have ai:=A_ O;clear b ao S u K O;obtain⟨aC,aD⟩:=F_ h;have aI:w.1.size<wa.1.size:=ltg h;have aJ:w.1.size+1<wa.1.size:=ltg h;have aK:w.1.size+1+1<wa.1.size:=ltg h;go_wp2;refine bodyPost_ret (v:=.agg #[.bool (A0f (A0q x+A0q y)).neg,.slice A n c]) (by simp[results,results67,go_sem, *]) rfl ?_;have f:=fun(W:World) (ha:Above (w.1.size+3) wa W)=>A7j (w:=w) aj ah (λak ab=>by have:=(ai ak ab).1;omega) oM ha;exact C3w (f _ Above.go) Below.go

def NegOk (x:TBigInt):Prop:=x.neg=true->x.mag≠[]
theorem NegOk.lt {x:TBigInt} (h:NegOk x) (u:XN.Can x.mag) (b:x.neg=true):A0q x<0:=by
 have:=u.pos (h b);unfold A0q;rw[if_pos b];omega
theorem NegOk.ge {x:TBigInt} (b:XN.Can x.mag) (h:x.neg=false):0<=A0q x:=by
 have:=S_ b.1;unfold A0q;rw[if_neg (by simp[h])];omega
theorem C7z {a:Int} (h:a<0):sgn a = -1:=by unfold sgn;rw[if_pos h]
theorem B5h {a:Int} (h:0<a):sgn a=1:=by unfold sgn;rw[if_neg oM,if_pos h]
theorem E3f {a:Int} (h:a=0):sgn a=0:=by subst h;rfl

theorem C2v (v1 v2:Value) (x y:TBigInt) (b1 b2:List Nat) (w:World) (aa:Agg w v1 x b1) (ab:Agg w v2 y b2) (W:XN.Can x.mag) (X:XN.Can y.mag) (D:NegOk x) (E:NegOk y) :
  Calls prog 154 #[v1,v2] w (A0b w (.int .i64 (sgn (A0q x - A0q y)))):=by
 obtain⟨I,n1,S,ae,rfl,rfl,Y⟩:=TBigInt.agg aa;obtain⟨J,n2,T,af,rfl,rfl,Z⟩:=TBigInt.agg ab;have K:=A_ Y;have O:=A_ Z;have G:=A_ W;have H:=A_ X;clear Y Z aa ab W X;cases h:x.neg
 ·cases b:y.neg
  ·have u:=A_ (by unfold A0q;rw[if_neg (by simp[h]),if_neg (by simp[b])]:sgn (val x.mag - val y.mag)=sgn (A0q x - A0q y));clear h b D E;go_enter func154,ntmps154;go_wp2_with fail;refine(A9u I J n1 n2 S T x.mag y.mag _ _ _ (Sl.below K Below.go) (Sl.below O Below.go) G H).mono ?_;rintro _ ad ⟨rfl,ac⟩;go_wp2;go_ret;exact⟨A1x u,Below.go⟩
  have u:=A_ (B5h (a:=A0q x - A0q y) (by have:=NegOk.ge G h;have:=E.lt H b;omega));clear h b D E;go_enter func154,ntmps154;go_wp2;go_ret;exact⟨A1x u.symm,Below.go⟩
 cases b:y.neg;·have u:=A_ (C7z (a:=A0q x - A0q y) (by have:=NegOk.ge H b;have:=D.lt G h;omega));clear h b D E;go_enter func154,ntmps154;go_wp2;go_ret;exact⟨A1x u.symm,Below.go⟩
 have u:=A_ (by unfold A0q;rw[if_pos h,if_pos b];congr 1;omega:sgn (val y.mag - val x.mag)=sgn (A0q x - A0q y));clear h b D E;go_enter func154,ntmps154;go_wp2_with fail;refine(A9u J I n2 n1 T S y.mag x.mag _ _ _ (Sl.below O Below.go) (Sl.below K Below.go) H G).mono ?_;rintro _ ad ⟨rfl,ac⟩;go_wp2;go_ret;exact⟨A1x u,Below.go⟩

theorem C2j (n:Int) (w:World):Calls prog 153 #[.int .i64 n] w (A0b w (.int .i64 (sgn n))):=by
 rcases Int.lt_trichotomy n 0 with b|b|b;·have h:=A_ (C7z b);go_enter func153,ntmps153;go_wp2;go_ret;exact⟨A1x h.symm,Below.go⟩
 ·subst b;go_enter func153,ntmps153;go_wp2;go_ret;exact⟨rfl,Below.go⟩
 have h:=A_ (B5h b);have u:¬ n<0:=oM;go_enter func153,ntmps153;go_wp2;go_ret;exact⟨A1x h.symm,Below.go⟩

def inB (lo n hi:Int):Bool:=decide (lo<=n)&&decide (n<=hi)

theorem A0s (n lo hi:Int) (w:World):Calls prog 43 #[.int .i64 n,.int .i64 lo,.int .i64 hi] w (A0b w (.bool (inB lo n hi))):=by
 rcases Int.lt_or_le n lo with h|h;·have b:=A_ (by unfold inB;simp;omega:false=inB lo n hi);have u:¬ (lo<=n):=oM;go_enter func43,ntmps43;go_wp2;go_ret;exact⟨Q_ b,Below.go⟩
 have b:=A_ (by unfold inB;simp[h]:decide (n<=hi)=inB lo n hi);go_enter func43,ntmps43;go_wp2;go_ret;exact⟨Q_ b,Below.go⟩

theorem A7y (v:Value) (x:TRat) (b:List Nat) (w:World) (J:Agg w v x b) (u:XN.Can x.1.2) (E:NegOk x.1) :
  Calls prog 37 #[v] w (A0b w (.int .i64 (A2v x))):=by
 obtain⟨O,n1,T,Y,S,n2,W,Z,rfl,rfl,I,K⟩:=TRat.agg J;have G:=A_ I.1;clear I K J;rcases Nat.eq_zero_or_pos n1 with H|H;·subst H;have h:=A_ (E3f (a:=A0q x.1) (by have:=List.eq_nil_of_length_eq_zero G;unfold A0q;rw[this];simp[val]));clear u E;go_enter func37,ntmps37;go_wp2;go_ret;exact⟨A1x h.symm,Below.go⟩
 have X:((n1:Int)==0)=false:=sO;cases D:x.1.1
 ·have h:=A_ (B5h (a:=A0q x.1) (by
   have:=u.pos (by intro e;have:=G.o;rw[e]at this;simp at this;omega)
   unfold A0q;rw[if_neg (by simp[D])];exact this))
  clear u E D
  go_enter func37,ntmps37
  go_wp2
  go_ret
  exact⟨A1x h.symm,Below.go⟩
 ·have h:=A_ (C7z (E.lt u D));clear u E D;go_enter func37,ntmps37;go_wp2;go_ret;exact⟨A1x h.symm,Below.go⟩

def A2a (x:TRat):Bool:=decide (x.1.2.length<=1)&&decide (x.2.length=1)

theorem A1g (v:Value) (x:TRat) (b:List Nat) (w:World) (H:Agg w v x b) :
  Calls prog 64 #[v] w (A0b w (.bool (A2a x))):=by
 obtain⟨K,n1,S,W,O,n2,T,X,rfl,rfl,E,G⟩:=TRat.agg H;have u:=A_ E.1;have I:=A_ G.1;clear E G H;rcases Nat.lt_or_ge 1 n1 with D|D;·have h:=A_ (by unfold A2a;rw[u.o];simp;omega:false=A2a x);have J:¬ ((n1:Int)<=1):=oM;go_enter func64,ntmps64;go_wp2;go_ret;exact⟨Q_ h,Below.go⟩
 have h:=A_ (show((n2:Int)==1)=A2a x by unfold A2a;rw[u.o,I.o,decide_eq_true D,Bool.true_and,Bool.eq_iff_iff];simp;omega);have J:(n1:Int)<=1:=oM;go_enter func64,ntmps64;go_wp2;go_ret;exact⟨Q_ h,Below.go⟩

def E0u (w:World) (a b:Int) (e:Ending) (w':World):Prop:=e=.returned (.tuple #[.int .i64 a,.int .i64 b])/\Bw w w'

theorem E2j {x:TRat} {d:Int} (h:x.2=[d]):T_ x=d:=by unfold T_;rw[h];simp[val]
theorem D7l {x:TRat} (h:x.1.2=[]):R_ x=0:=by unfold R_ A0q;rw[h];simp[val]
theorem D7g {x:TRat} {a:Int} (h:x.1.2=[a]):R_ x=if x.1.1 then -a else a:=by unfold R_ A0q;rw[h];simp[val]

theorem A3c (v:Value) (x:TRat) (b:List Nat) (w:World) (T:Agg w v x b) (I:A2a x=true) (O:Lims x.1.2) (S:NegOk x.1) :
  Calls prog 65 #[v] w (E0u w (R_ x) (T_ x)):=by
 obtain⟨ai,n1,an,aA,aj,n2,ao,aB,rfl,rfl,D,E⟩:=TRat.agg T;have ab:=A_ D.1;have ak:=A_ E.1;unfold A2a at I;rw[D.1,E.1]at I;simp only[Bool.and_eq_true,decide_eq_true_eq]at I;obtain⟨Y,rfl⟩:=I;obtain⟨al,ay,d,rfl,ar,J,aw,ae⟩:=Sl.getInt E (by decide:0<1);have W:=A_ (E2j (x:=x) (d:=d) (by
  match x.2,E.1,J with
  | [y],_,h=>simp at h;rw[h]))
 simp only[Nat.add_zero]at ae;rcases Nat.eq_zero_or_pos n1 with X|X
 ·subst X
  have u:x.1.2=[]:=List.eq_nil_of_length_eq_zero ab;have H:=A_ (D7l (x:=x) u);have aa:x.1.1=false:=by
   cases h:x.1.1;·rfl
   exact absurd u (S h)
  clear D E T J O S u Y;go_enter func65,ntmps65;go_wp2_with fail;refine A0g ?_;iterate 7 refine C_ _ ?_
  intro ag ah wa ac G (K:Hid _);simp at G;go_simp;clear G K;go_wp2;go_ret2;refine⟨?_,Below.go⟩;rw[H.o,W.o];rfl
 obtain rfl:n1=1:=oM;obtain⟨am,az,a,rfl,au,Z,ax,af⟩:=Sl.getInt D (by decide:0<1);have u:x.1.2=[a]:=by
  match x.1.2,D.1,Z with
  | [y],_,h=>simp at h;rw[h]
 have H:=A_ (D7g (x:=x) (a:=a) u);have ad:=O a (by rw[u];simp);obtain⟨ap,aq⟩:=ad;simp only[Nat.add_zero]at af;cases aa:x.1.1
 all_goals
  rw[aa]at H;clear D E T J O S u Y Z;go_enter func65,ntmps65;go_wp2_with fail;refine A0g ?_;iterate 7 refine C_ _ ?_
  intro ag ah wa ac G (K:Hid _);simp at G;go_simp;clear G K;go_wp2;go_ret2;refine⟨?_,Below.go⟩;rw[H.o,W.o];rfl

def B9x (w:World) (b:Bool) (e:Ending) (w':World):Prop:=∃ r:Int,e=.returned (.int .i64 r)/\decide (0<=r)=b/\Bw w w'

def A9a (x:Int):Bool:=!inB 0 x 999999999

theorem B9d (x:Int) (w:World):Calls prog 135 #[.int .i64 x] w (A0b w (.bool (A9a x))):=by
 go_enter func135,ntmps135;go_wp2_with fail;refine(A0s x 0 999999999 w).mono ?_;rintro _ h ⟨rfl,b⟩;go_wp2;go_ret;exact⟨rfl,b⟩

theorem D1e {α:Type} {xs:List α} {p:α->Bool} {k:Nat} {x:α} (h:xs[k]?=some x) (hp:p x=true):xs.any p=true :=
 List.any_eq_true.2 ⟨x,List.mem_of_getElem? h,hp⟩
theorem B6c {α:Type} {xs:List α} {p:α->Bool} {k:Nat} {x:α} (h:xs[k]?=some x) (b:(xs.take k).any p=false) (u:p x=false):(xs.take (k+1)).any p=false:=by
 rw[take_step h,List.any_append,b];simp[u]

def A4f (f:Nat):Prop:=∀ (a:Array Value) (w:World),Sem.run prog (callFunc f a) w=.ok (.enter f a) w
theorem B7l:A4f 135:=λa w=>kR

theorem _root_.gN {p:Prop} (h:p:=by go_num):p:=h
theorem D6s (f:Nat) (aa:A4f f) (A:Option Addr) (n c:Nat) (xs:List Int) (Y:List Nat) (w:World) (p:Int->Bool) (b:Sl w A n c xs Y)
  (O:∀ (x:Int) (w:World),Calls prog f #[.int .i64 x] w (A0b w (.bool (p x)))) :
  Calls prog 194 #[.slice A n c,.func (.func f) #[] #[]] w (B9x w (xs.any p)):=by
 have T:=A_ b.1;have X:=A_ b;have W:=A_ O;unfold A4f at aa;have ac:n<=maxLen:=Nat.le_trans b.2.1 b.2.2.1;unfold maxLen at ac;clear b O;go_enter func194,ntmps194;go_wp2_with fail;go_loopg [8] n (λg s8 wr=>∃ k:Nat,k+g=n/\s8=.int .i64 k/\Hid ((xs.take k).any p=false)/\Bw w wr);case atStart=>exact⟨0,oM,rfl,by show(xs.take 0).any p=false;simp,Below.refl _ _⟩
 case round =>
  obtain⟨k,J,rfl,H,D⟩:=hrel;rcases Nat.lt_or_ge k n with h|h
  ·obtain⟨ad,ai,x,rfl,af,S,ae,ag⟩:=Sl.getInt (Sl.below X D) h
   have G:=A_ S;have ab:(k:Int)<n:=oM;obtain⟨g,rfl⟩:∃ g,gk=g+1:=⟨gk - 1,oM⟩
   have K:=A_ (by omega:k+1+g=n);clear S J h;have ah:k+1<=n:=by have:=K.o;omega
   go_wp2_with fail;refine(W x wr).mono ?_;rintro _ aj ⟨rfl,Z⟩;have I:=Below.next D Z;cases u:p x
   ·have E:=A_ (B6c G H u)
    clear u;go_wp2_with fail;go_roundg g;case measure=>omega
    case rel=>exact⟨k+1,K,gN,E,I⟩
   have E:=A_ (D1e G u);clear u;go_wp2;go_ret;exact⟨k,rfl,by rw[E.o];simp,I⟩
  have e:=A_ (show xs.any p=false by have:=H.o;rwa [List.take_of_length_le (by rw[T.o];omega)]at this);have ab:¬ ((k:Int)<n):=oM;clear J h;go_wp2;go_ret;exact⟨-1,rfl,by rw[e.o];rfl,D⟩

theorem B7a (f:Nat) (h:A4f f) (A:Option Addr) (n c:Nat) (xs:List Int) (b:List Nat) (w:World) (p:Int->Bool) (D:Sl w A n c xs b)
  (u:∀ (x:Int) (w:World),Calls prog f #[.int .i64 x] w (A0b w (.bool (p x)))) :
  Calls prog 134 #[.slice A n c,.func (.func f) #[] #[]] w (A0b w (.bool (xs.any p))):=by
 have I:=A_ D;have H:=A_ u;have G:=A_ h;clear D u h;go_enter func134,ntmps134;go_wp2_with fail;refine(D6s f G A n c xs b _ p (Sl.below I Below.go) H).mono ?_;rintro _ K ⟨r,rfl,e,J⟩;have E:=A_ e;clear e;go_wp2;go_ret;exact⟨Q_ E,J⟩

theorem A5a (xs:List Int):A3m xs=(decide (xs.length<=60)&&(decide (xs.getLast?≠some 0)&&!xs.any A9a)):=by
 unfold A3m;rw[Bool.and_comm (xs.all _)];congr 1;congr 1;rw[List.not_any_eq_all_not];congr 1;funext x;unfold A9a inB;rw[Bool.not_not,Bool.eq_iff_iff];simp;omega

theorem A4l (A:Option Addr) (n c:Nat) (xs:List Int) (D:List Nat) (w:World) (b:Sl w A n c xs D) :
  Calls prog 84 #[.slice A n c] w (A0b w (.bool (A3m xs))):=by
 have u:=A_ b.1;have H:=A_ b;have T:n<=maxLen:=Nat.le_trans b.2.1 b.2.2.1;unfold maxLen at T;rcases Nat.lt_or_ge 60 n with J|J
 ·have e:=A_ (by rw[A5a,u.o];simp;omega:false=A3m xs);have O:¬ ((n:Int)<=60):=oM;clear b;go_enter func84,ntmps84;go_wp2;go_ret;exact⟨Q_ e,Below.go⟩
 have O:(n:Int)<=60:=oM;rcases Nat.eq_zero_or_pos n with I|I
 ·subst I;have e:=A_ (by rw[A5a,List.eq_nil_of_length_eq_zero u.o];rfl:(!xs.any A9a)=A3m xs);clear b;go_enter func84,ntmps84;go_wp2_with fail;refine(B7a 135 B7l A 0 c xs D _ A9a (Sl.below H Below.go) B9d).mono ?_;rintro _ W ⟨rfl,E⟩;go_wp2;go_ret;exact⟨Q_ e,E⟩
 obtain⟨k,rfl⟩:∃ k,n=k+1:=⟨n - 1,oM⟩
 obtain⟨X,ac,x,rfl,Z,G,Y,aa⟩:=Sl.getInt b (by omega:k<k+1);have K:=A_ (by rw[List.getLast?_eq_getElem?,u.o];exact G:xs.getLast?=some x);have ab:((k:Int)+1==0)=false:=sO;by_cases h:x=0
 ·have e:=A_ (by rw[A5a,K.o,h];simp:false=A3m xs)
  have S:(x != 0)=false:=by simp[h]
  clear b G h;go_enter func84,ntmps84;go_wp2;go_ret;exact⟨Q_ e,Below.go⟩
 have e:=A_ (by rw[A5a,K.o,u.o,decide_eq_true J];simp[h]:(!xs.any A9a)=A3m xs);have S:(x != 0)=true:=by simp[h]
 clear b G h;go_enter func84,ntmps84;go_wp2_with fail;refine(B7a 135 B7l _ (k+1) c xs D _ A9a (Sl.below H Below.go) B9d).mono ?_;rintro _ W ⟨rfl,E⟩;go_wp2;go_ret;exact⟨Q_ e,E⟩

theorem A1o (v:Value) (x:TBigInt) (H:List Nat) (w:World) (X:Agg w v x H) :
  Calls prog 83 #[v] w (A0b w (.bool (A2j x))):=by
 obtain⟨h,n1,D,Z,rfl,rfl,W⟩:=TBigInt.agg X;have G:=A_ W;clear W X;have u:=A_ (show A2j x=(A3m x.mag&&(!x.neg || decide (0<n1))) by unfold A2j;congr 1;congr 1;rw[<-G.o.1];cases x.mag<;>simp);cases I:A3m x.mag;·go_enter func83,ntmps83;go_wp2_with fail;have C:=A4l h n1 D x.mag H (w.alloc (.cells #[.bool x.neg,.slice h n1 D] 33)) (Sl.below G Below.go);rw[I]at C;refine C.mono ?_;clear C;rintro _ E ⟨rfl,b⟩;obtain⟨O,S⟩:=F_ b;have Y:w.1.size<E.1.size:=ltg b;go_wp2;go_ret;exact⟨Q_ (by rw[u.o,I];rfl),Below.go⟩
 have K:=A_ I;clear I;rw[K.o,Bool.true_and]at u;cases T:x.neg;·have J:=A_ (by rw[u.o,T];rfl:true=A2j x);clear u;go_enter func83,ntmps83;go_wp2_with fail;have C:=A4l h n1 D x.mag H (w.alloc (.cells #[.bool false,.slice h n1 D] 33)) (Sl.below G Below.go);rw[K.o]at C;refine C.mono ?_;clear C;rintro _ E ⟨rfl,b⟩;obtain⟨O,S⟩:=F_ b;have Y:w.1.size<E.1.size:=ltg b;go_wp2;go_ret;exact⟨Q_ J,Below.go⟩
 have J:=A_ (by rw[u.o,T];rfl:decide (0<n1)=A2j x);clear u;go_enter func83,ntmps83;go_wp2_with fail;have C:=A4l h n1 D x.mag H (w.alloc (.cells #[.bool true,.slice h n1 D] 33)) (Sl.below G Below.go);rw[K.o]at C;refine C.mono ?_;clear C;rintro _ E ⟨rfl,b⟩;obtain⟨O,S⟩:=F_ b;have Y:w.1.size<E.1.size:=ltg b;go_wp2;go_ret;exact⟨Q_ J,Below.go⟩

theorem D9s {N:Nat}:(dig N=[1])↔N=1:=by
 constructor;·intro h;have:=A1j N;rw[h]at this;simp[val]at this;omega
 rintro rfl;rfl
theorem B5k {x:TRat} {b1 b2:Bool} {n1 n2:Nat} (b:A2j x.1=b1) (h:A3m x.2=b2) (l1:x.1.2.length=n1) (l2:x.2.length=n2) :
  J_ x=(b1&&(b2&&(decide (0<n2)&&(decide (n1<=24)&&(decide (n2<=24)&&decide (Int.gcd (val x.1.2) (val x.2)=1)))))):=by
 unfold J_;rw[b,h,l1,l2];congr 2;congr 1;rw[<-l2];cases x.2<;>simp
theorem E6w (x:TRat):Int.gcd (R_ x) (T_ x)=Int.gcd (val x.1.2) (val x.2):=by
 unfold R_ T_ A0q;split<;>simp
theorem C5o {x:TRat} (h:XN.Can x.2) (b:x.2.length=1):0<=T_ x/\T_ x<1000000000:=by
 unfold T_;have:=A4j h.1;have:=S_ h.1;rw[b,pw_vals.1]at *;omega
theorem C5m {x:TRat} (h:Lims x.1.2) (u:x.1.2.length<=1):-1000000000<R_ x/\R_ x<1000000000:=by
 have D:=A4j h;have E:=S_ h;have b:=A6t u;rw[pw_vals.1]at b;unfold R_ A0q;split<;>omega
theorem A4h {x:TBigInt} (h:A2j x=true):NegOk x:=(bigOkB_iff.1 h).2

theorem A7s (v:Value) (x:TRat) (b:List Nat) (w:World) (ax:Agg w v x b) :
  Calls prog 36 #[v] w (A0b w (.bool (J_ x))):=by
 have am:=A_ ax;obtain⟨S,n1,W,Z,E,n2,H,ae,rfl,rfl,aJ,aK⟩:=TRat.agg ax;have K:=A_ aJ;have O:=A_ aK;clear aJ aK ax;cases h:A2j x.1;·have G:=A_ (by rw[B5k h rfl rfl rfl];rfl:false=J_ x);have J:=A_ h;clear h;go_enter func36,ntmps36;go_wp2_with fail;have C:=A1o _ x.1 Z (w.alloc (.cells #[.bool x.1.1,.slice S n1 W,.slice E n2 H] 35)) (TBigInt.mkAgg (Sl.below K Below.go));rw[J.o]at C;refine C.mono ?_;clear C;rintro _ D ⟨rfl,h⟩;obtain⟨aa,ab⟩:=F_ h;have ac:w.1.size<D.1.size:=ltg h;go_wp2;go_ret;exact⟨Q_ (G),Below.go⟩
 have J:=A_ h;cases u:A3m x.2;·have G:=A_ (by rw[B5k h u rfl rfl];rfl:false=J_ x);have T:=A_ u;clear h u;go_enter func36,ntmps36;go_wp2_with fail;have C:=A1o _ x.1 Z (w.alloc (.cells #[.bool x.1.1,.slice S n1 W,.slice E n2 H] 35)) (TBigInt.mkAgg (Sl.below K Below.go));rw[J.o]at C;refine C.mono ?_;clear C;rintro _ D ⟨rfl,h⟩;obtain⟨aa,ab⟩:=F_ h;have ac:w.1.size<D.1.size:=ltg h;go_wp2_with fail;have C:=A4l E n2 H x.2 ae D (Sl.below O Below.go);rw[T.o]at C;refine C.mono ?_;clear C;rintro _ I ⟨rfl,u⟩;obtain⟨aj,ak⟩:=F_ u;have al:w.1.size<I.1.size:=ltg u;go_wp2;go_ret;exact⟨Q_ (G),Below.go⟩
 have T:=A_ u;have ah:=A_ (B5k h u K.1 O.1);rw[Bool.true_and,Bool.true_and]at ah;clear h u;rcases Nat.eq_zero_or_pos n2 with X|X
 ·have G:=A_ (by rw[ah.o,X];rfl:false=J_ x)
  have aZ:((n2:Int)==0)=true:=by simp[X]
  clear X;go_enter func36,ntmps36;go_wp2_with fail;have C:=A1o _ x.1 Z (w.alloc (.cells #[.bool x.1.1,.slice S n1 W,.slice E n2 H] 35)) (TBigInt.mkAgg (Sl.below K Below.go));rw[J.o]at C;refine C.mono ?_;clear C;rintro _ D ⟨rfl,h⟩;obtain⟨aa,ab⟩:=F_ h;have ac:w.1.size<D.1.size:=ltg h;go_wp2_with fail;have C:=A4l E n2 H x.2 ae D (Sl.below O Below.go);rw[T.o]at C;refine C.mono ?_;clear C;rintro _ I ⟨rfl,u⟩;obtain⟨aj,ak⟩:=F_ u;have al:w.1.size<I.1.size:=ltg u;go_wp2;go_ret;exact⟨Q_ (G),Below.go⟩
 have aZ:((n2:Int)==0)=false:=sO;rcases Nat.lt_or_ge 24 n1 with an|an
 ·have G:=A_ (by rw[ah.o];simp;omega:false=J_ x);have a1:(24:Int)<n1:=oM;clear X an;go_enter func36,ntmps36;go_wp2_with fail;have C:=A1o _ x.1 Z (w.alloc (.cells #[.bool x.1.1,.slice S n1 W,.slice E n2 H] 35)) (TBigInt.mkAgg (Sl.below K Below.go));rw[J.o]at C;refine C.mono ?_;clear C;rintro _ D ⟨rfl,h⟩;obtain⟨aa,ab⟩:=F_ h;have ac:w.1.size<D.1.size:=ltg h;go_wp2_with fail;have C:=A4l E n2 H x.2 ae D (Sl.below O Below.go);rw[T.o]at C;refine C.mono ?_;clear C;rintro _ I ⟨rfl,u⟩;obtain⟨aj,ak⟩:=F_ u;have al:w.1.size<I.1.size:=ltg u;go_wp2;go_ret;exact⟨Q_ (G),Below.go⟩
 have a1:¬ ((24:Int)<n1):=oM;rcases Nat.lt_or_ge 24 n2 with ar|ar
 ·have G:=A_ (by rw[ah.o];simp;omega:false=J_ x);have a2:(24:Int)<n2:=oM;clear X an ar;go_enter func36,ntmps36;go_wp2_with fail;have C:=A1o _ x.1 Z (w.alloc (.cells #[.bool x.1.1,.slice S n1 W,.slice E n2 H] 35)) (TBigInt.mkAgg (Sl.below K Below.go));rw[J.o]at C;refine C.mono ?_;clear C;rintro _ D ⟨rfl,h⟩;obtain⟨aa,ab⟩:=F_ h;have ac:w.1.size<D.1.size:=ltg h;go_wp2_with fail;have C:=A4l E n2 H x.2 ae D (Sl.below O Below.go);rw[T.o]at C;refine C.mono ?_;clear C;rintro _ I ⟨rfl,u⟩;obtain⟨aj,ak⟩:=F_ u;have al:w.1.size<I.1.size:=ltg u;go_wp2;go_ret;exact⟨Q_ (G),Below.go⟩
 have a2:¬ ((24:Int)<n2):=oM;have aB:=A_ (by rw[ah.o,decide_eq_true X,decide_eq_true an,decide_eq_true ar];rfl:J_ x=decide (Int.gcd (val x.1.2) (val x.2)=1));have aq:=A_ (bigOkB_iff.1 J).1.2;have au:=A_ (natOkB_iff.1 T).2;have aA:=A_ (A4h J);have aU:n1<=65536:=oM;have aV:n2<=65536:=oM;clear ah an ar;cases ao:A2a x;·have ag:=A_ ao;clear ao X;have G:=A_ (by rw[aB.o];simp only[D9s]:decide (dig (Int.gcd (val x.1.2) (val x.2))=[1])=J_ x);go_enter func36,ntmps36;go_wp2_with fail;have C:=A1o _ x.1 Z (w.alloc (.cells #[.bool x.1.1,.slice S n1 W,.slice E n2 H] 35)) (TBigInt.mkAgg (Sl.below K Below.go));rw[J.o]at C;refine C.mono ?_;clear C;rintro _ D ⟨rfl,h⟩;obtain⟨aa,ab⟩:=F_ h;have ac:w.1.size<D.1.size:=ltg h;go_wp2_with fail;have C:=A4l E n2 H x.2 ae D (Sl.below O Below.go);rw[T.o]at C;refine C.mono ?_;clear C;rintro _ I ⟨rfl,u⟩;obtain⟨aj,ak⟩:=F_ u;have al:w.1.size<I.1.size:=ltg u;go_wp2_with fail;have C:=A1g _ x _ I (Agg.below am Below.go);rw[ag.o]at C;refine C.mono ?_;clear C;rintro _ w3 ⟨rfl,Y⟩;obtain⟨aE,aG⟩:=F_ Y;have aM:w.1.size<w3.1.size:=ltg Y;go_wp2_with fail;refine(C1y S E n1 n2 W H x.1.2 x.2 _ _ _ (Sl.below K Below.go) (Sl.below O Below.go) aq au aU aV).mono ?_;rintro _ af ⟨a6,rfl,aI,ai⟩;obtain⟨aO,aQ,aY,rfl,aL,_⟩:=D2g aI (A0j _).1.i64;have aP:=A_ aL;clear aI aL;go_wp2_with fail;refine(B1f aO _ aQ _ aY af aP).mono ?_;rintro _ aN ⟨rfl,aD⟩;go_wp2;go_ret;exact⟨Q_ (G),Below.go⟩
 have ag:=A_ ao;have ap:=ao;unfold A2a at ap;simp only[Bool.and_eq_true,decide_eq_true_eq]at ap;have a5:=C5o au ap.2;have m1:=C5m aq.1 ap.1;have a4:0<T_ x:=au.pos (by intro e;have:=O.1;rw[e]at this;simp at this;omega);have G:=A_ (by rw[aB.o,E6w];rw[Bool.eq_iff_iff];simp;omega:((Int.gcd (R_ x) (T_ x):Int)==1)=J_ x);clear ao X ap;have a3:=A_ (show R_ x=R_ x from rfl);generalize aH:R_ x=ad at *;generalize aF:T_ x=aC at *;have az:=A_ aH;have ay:=A_ aF;clear aH aF;rcases Int.lt_or_le ad 0 with aW|aW
 ·have aT:ad<=-ad:=oM;have aw:=G;clear G;go_enter func36,ntmps36;go_wp2_with fail;have C:=A1o _ x.1 Z (w.alloc (.cells #[.bool x.1.1,.slice S n1 W,.slice E n2 H] 35)) (TBigInt.mkAgg (Sl.below K Below.go));rw[J.o]at C;refine C.mono ?_;clear C;rintro _ D ⟨rfl,h⟩;obtain⟨aa,ab⟩:=F_ h;have ac:w.1.size<D.1.size:=ltg h;go_wp2_with fail;have C:=A4l E n2 H x.2 ae D (Sl.below O Below.go);rw[T.o]at C;refine C.mono ?_;clear C;rintro _ I ⟨rfl,u⟩;obtain⟨aj,ak⟩:=F_ u;have al:w.1.size<I.1.size:=ltg u;go_wp2_with fail;have C:=A1g _ x _ I (Agg.below am Below.go);rw[ag.o]at C;refine C.mono ?_;clear C;rintro _ w3 ⟨rfl,Y⟩;obtain⟨aE,aG⟩:=F_ Y;have aM:w.1.size<w3.1.size:=ltg Y;go_wp2_with fail;have C:=A3c _ x _ w3 (Agg.below am Below.go) ag aq.1 aA;rw[az.o,ay.o]at C;refine C.mono ?_;clear C;rintro _ af ⟨rfl,ai⟩;obtain⟨aR,aS⟩:=F_ ai;have aX:w.1.size<af.1.size:=ltg ai;go_wp2_with fail;refine(B2z (-ad) aC af oM oM oM oM).mono ?_;rintro _ aN ⟨rfl,aD⟩;go_wp2;go_ret;exact⟨Q_ (aw),Below.go⟩
 have aT:-ad<=ad:=oM;have aw:=G;clear G;go_enter func36,ntmps36;go_wp2_with fail;have C:=A1o _ x.1 Z (w.alloc (.cells #[.bool x.1.1,.slice S n1 W,.slice E n2 H] 35)) (TBigInt.mkAgg (Sl.below K Below.go));rw[J.o]at C;refine C.mono ?_;clear C;rintro _ D ⟨rfl,h⟩;obtain⟨aa,ab⟩:=F_ h;have ac:w.1.size<D.1.size:=ltg h;go_wp2_with fail;have C:=A4l E n2 H x.2 ae D (Sl.below O Below.go);rw[T.o]at C;refine C.mono ?_;clear C;rintro _ I ⟨rfl,u⟩;obtain⟨aj,ak⟩:=F_ u;have al:w.1.size<I.1.size:=ltg u;go_wp2_with fail;have C:=A1g _ x _ I (Agg.below am Below.go);rw[ag.o]at C;refine C.mono ?_;clear C;rintro _ w3 ⟨rfl,Y⟩;obtain⟨aE,aG⟩:=F_ Y;have aM:w.1.size<w3.1.size:=ltg Y;go_wp2_with fail;have C:=A3c _ x _ w3 (Agg.below am Below.go) ag aq.1 aA;rw[az.o,ay.o]at C;refine C.mono ?_;clear C;rintro _ af ⟨rfl,ai⟩;obtain⟨aR,aS⟩:=F_ ai;have aX:w.1.size<af.1.size:=ltg ai;go_wp2_with fail;refine(B2z ad aC af oM oM oM oM).mono ?_;rintro _ aN ⟨rfl,aD⟩;go_wp2;go_ret;exact⟨Q_ (aw),Below.go⟩

theorem D8c (f:Nat) (ac:A4f f) (A:Option Addr) (n c:Nat) (xs:List TRat) (aa:List Nat) (w:World) (p:TRat->Bool) (u:Sl w A n c xs aa)
  (S:∀ (v:Value) (x:TRat) (b:List Nat) (w:World),x∈xs->Agg w v x b->Calls prog f #[v] w (A0b w (.bool (p x)))) :
  Calls prog 123 #[.slice A n c,.func (.func f) #[] #[]] w (B9x w (xs.any p)):=by
 have X:=A_ u.1;have Z:=A_ u;have Y:=A_ S;unfold A4f at ac;have af:n<=maxLen:=Nat.le_trans u.2.1 u.2.2.1;unfold maxLen at af;clear u S;go_enter func123,ntmps123;go_wp2_with fail;go_loopg [8] n (λg s8 wr=>∃ k:Nat,k+g=n/\s8=.int .i64 k/\Hid ((xs.take k).any p=false)/\Bw w wr);case atStart=>exact⟨0,oM,rfl,by show(xs.take 0).any p=false;simp,Below.refl _ _⟩
 case round =>
  obtain⟨k,O,rfl,I,G⟩:=hrel;rcases Nat.lt_or_ge k n with h|h
  ·obtain⟨ai,aq,x,ag,m1,aj,ar,ah,m2,ak,au,rfl,ao,T,al,am,an,J⟩:=TRat.elemA (Sl.below Z G) h
   have E:=A_ T;have W:=A_ J;have ae:(k:Int)<n:=oM;obtain⟨g,rfl⟩:∃ g,gk=g+1:=⟨gk - 1,oM⟩
   have ad:=A_ (by omega:k+1+g=n);have ap:k+1<=n:=h;clear T O h J;go_wp2_with fail;refine(Y _ x _ wr (List.mem_of_getElem? E) W).mono ?_;rintro _ aw ⟨rfl,ab⟩;have K:=Below.next G ab;cases D:p x
   ·have H:=A_ (B6c E I D)
    clear D;go_wp2_with fail;go_roundg g;case measure=>omega
    case rel=>exact⟨k+1,ad,gN,H,K⟩
   have H:=A_ (D1e E D);clear D;go_wp2;go_ret;exact⟨k,rfl,by rw[H.o];simp,K⟩
  have e:=A_ (show xs.any p=false by have:=I.o;rwa [List.take_of_length_le (by rw[X.o];omega)]at this);have ae:¬ ((k:Int)<n):=oM;clear O h;go_wp2;go_ret;exact⟨-1,rfl,by rw[e.o];rfl,G⟩

theorem A7e (f:Nat) (u:A4f f) (A:Option Addr) (n c:Nat) (xs:List TRat) (h:List Nat) (w:World) (p:TRat->Bool) (E:Sl w A n c xs h)
  (D:∀ (v:Value) (x:TRat) (b:List Nat) (w:World),x∈xs->Agg w v x b->Calls prog f #[v] w (A0b w (.bool (p x)))) :
  Calls prog 62 #[.slice A n c,.func (.func f) #[] #[]] w (A0b w (.bool (xs.any p))):=by
 have J:=A_ E;have I:=A_ D;have H:=A_ u;clear E D u;go_enter func62,ntmps62;go_wp2_with fail;refine(D8c f H A n c xs h _ p (Sl.below J Below.go) I).mono ?_;rintro _ O ⟨r,rfl,e,K⟩;have G:=A_ e;clear e;go_wp2;go_ret;exact⟨Q_ G,K⟩

theorem C3i:A4f 63:=λa w=>kR
def D2n (x:TRat):Bool:=!J_ x
theorem C7u (v:Value) (x:TRat) (b:List Nat) (w:World) (h:Agg w v x b):Calls prog 63 #[v] w (A0b w (.bool (D2n x))):=by
 have u:=A_ h;obtain⟨G,n1,I,O,H,n2,J,S,rfl,rfl,D,E⟩:=TRat.agg h;clear D E h;go_enter func63,ntmps63;go_wp2_with fail;refine(A7s _ x _ _ (Agg.below u Below.go)).mono ?_;rintro _ T ⟨rfl,K⟩;go_wp2;go_ret;exact⟨rfl,Below.go⟩

theorem A1r (A:Option Addr) (n c:Nat) (xs:List TRat) (b:List Nat) (w:World) (h:Sl w A n c xs b) :
  Calls prog 28 #[.slice A n c] w (A0b w (.bool (xs.all J_))):=by
 have D:=A_ h;have u:=A_ (by rw[List.not_any_eq_all_not];congr 1;funext x;unfold D2n;rw[Bool.not_not]:(!xs.any D2n)=xs.all J_);clear h;go_enter func28,ntmps28;go_wp2_with fail;refine(A7e 63 C3i A n c xs b _ D2n (Sl.below D Below.go) (λv x E w _ G=>C7u v x E w G)).mono ?_;rintro _ I ⟨rfl,H⟩;go_wp2;go_ret;exact⟨Q_ u,Below.go⟩

theorem A5o {a D:Int} (hD:0<D):0<Int.gcd a D:=Int.gcd_pos_of_ne_zero_right a oM
theorem E7a {x:TBigInt} {h:Int} (D:XN.Can x.mag) (H:NegOk x) (E:0<h) :
  A0f (A0q x / (Int.gcd (val x.mag) h:Nat))=⟨x.neg,dig (val x.mag / (Int.gcd (val x.mag) h:Nat)).toNat⟩:=by
 have K:=A5o (a:=val x.mag) E;obtain⟨q,u⟩:=Int.gcd_dvd_left (val x.mag) h;generalize Int.gcd (val x.mag) h=g at *;have J:=S_ D.1;have G:(0:Int)<g:=oM;have S:0<=q:=by
  rcases Int.lt_or_le q 0 with b|b;·have:=Int.mul_neg_of_pos_of_neg G b;omega
  exact b
 unfold A0q;cases I:x.neg;·rw[if_neg sI,u,Int.mul_ediv_cancel_left _ oM];unfold A0f;rw[show q.natAbs=q.toNat by omega];congr 1;simp;omega
 have O:=D.pos (H I);have T:0<q:=by
  rcases Int.lt_or_le 0 q with b|b;·exact b
  have:q=0:=oM;rw[this]at u;omega
 rw[if_pos rfl,u,show -((g:Int)*q)=g * -q by rw[Int.mul_neg],Int.mul_ediv_cancel_left _ oM,Int.mul_ediv_cancel_left _ oM];unfold A0f;rw[show(-q).natAbs=q.toNat by omega];congr 1;simp;omega
theorem E5s (x:TBigInt) (D:Int):Int.gcd (A0q x) D=Int.gcd (val x.mag) D:=by unfold A0q;split<;>simp
theorem D6t {x:TBigInt} {h:Int} (G:XN.Can x.mag) (H:NegOk x) (E:0<h) :
  mkR (A0q x) h=if (dig (val x.mag / (Int.gcd (val x.mag) h:Nat)).toNat).length<=24/\(dig (h / (Int.gcd (val x.mag) h:Nat)).toNat).length<=24 then
   ⟨⟨x.neg,dig (val x.mag / (Int.gcd (val x.mag) h:Nat)).toNat⟩,dig (h / (Int.gcd (val x.mag) h:Nat)).toNat⟩else A0h:=by
 have e:=E7a G H E;unfold mkR;rw[E5s];have u:dig (A0q x / (Int.gcd (val x.mag) h:Nat)).natAbs=dig (val x.mag / (Int.gcd (val x.mag) h:Nat)).toNat:=by have:=congrArg TBigInt.mag e;exact this
 have D:(h / (Int.gcd (val x.mag) h:Nat)).natAbs=(h / (Int.gcd (val x.mag) h:Nat)).toNat:=by have:=Int.ediv_nonneg (a:=h) (b:=(Int.gcd (val x.mag) h:Nat)) oM oM;omega
 rw[u,D,e]
theorem Own.left {w0 w:World} {a b:List Nat} (h:Own w0 w (a++b)):Own w0 w a:=⟨(List.nodup_append.1 h.1).1,λg hg=>h.2 g (List.mem_append_left _ hg)⟩
theorem B6o (A B:Option Addr) (n m c d:Nat) (xs ys:List Int) (bs ds:List Nat) (w:World) (hx:Sl w A n c xs bs) (hy:Sl w B m d ys ds) (hcx:XN.Can xs) (hcy:XN.Can ys) (hn:n<=65536) (hm:m<=65536) :
  Calls prog 87 #[.slice A n c,.slice B m d] w (A0w w (dig (Int.gcd (val xs) (val ys)))) :=
 (C1y A B n m c d xs ys bs ds w hx hy hcx hcy hn hm).mono λ_ _ ⟨_,he,ho,hb⟩=>by subst he;exact A2r ho rfl (A0j _).1.i64 hb
theorem E5i (w:World):Agg w (.agg #[.bool false,.slice none 0 0,.slice none 0 0]) A0h []:=TRat.mkAgg (x:=A0h) (Sl.nil w) (Sl.nil w)
theorem A3e {w W:World} (hb:Bw w W):A0c w A0h (.returned (.agg #[.bool false,.slice none 0 0,.slice none 0 0])) W:=⟨_,[],rfl,E5i W,Own.nil _ _,hb⟩

theorem B4k {w W:World} {x:TRat} {A1 A2:Option Addr} {n1 c1 n2 c2:Nat} {b1 b2:List Nat} (h1:Sl W A1 n1 c1 x.1.2 b1/\Own w W b1) (h2:Sl W A2 n2 c2 x.2 b2/\Own w W b2) (hd:∀ b∈b1,b∉b2) (hb:Bw w W) :
  A0c w x (.returned (.agg #[.bool x.1.1,.slice A1 n1 c1,.slice A2 n2 c2])) W :=
 ⟨_,b1++b2,rfl,TRat.mkAgg h1.1 h2.1,Own.append h1.2 h2.2 hd,hb⟩

section
variable {x:TBigInt} {ys:List Int} {v:Value} {B:Option Addr} {m d:Nat} {b1 b2:List Nat} {w:World}

theorem D7v (S:Agg w v x b1) (H:Sl w B m d ys b2) (J:XN.Can x.mag) (h:XN.Can ys) (E:0<m) (lx:x.mag.length<=65536) (ag:m<=65536) (K:Int.gcd (val x.mag) (val ys)=1) (ae:x.mag.length<=24) (ad:m<=24) :
  ∃ A1 n1 c1,v=.agg #[.bool x.neg,.slice A1 n1 c1]/\Sl w A1 n1 c1 x.mag b1/\Calls prog 69 #[v,.slice B m d] w (A0b w (.agg #[.bool x.neg,.slice A1 n1 c1,.slice B m d])):=by
 obtain⟨A1,n1,c1,ay,rfl,rfl,b⟩:=TBigInt.agg S;refine⟨A1,n1,c1,rfl,b,?_⟩;have am:=A_ b.1;have Z:=A_ b;have aa:=A_ H;have X:=A_ J;have Y:=A_ h;have aj:=A_ (h.pos (by intro e;rw[<-H.1,e]at E;simp at E));have af:n1<=65536:=by have:=b.1;omega
 have ac:=A_ (by rw[K];rfl:decide (dig (Int.gcd (val x.mag) (val ys))=[1])=true);have az:¬ ((24:Int)<n1):=by have:=b.1;omega
 have aA:¬ ((24:Int)<m):=oM;clear S H J h b K ae ad E lx;go_enter func69,ntmps69;go_wp2_with fail;refine(B6o A1 B n1 m c1 d x.mag ys _ _ _ (Sl.below Z Below.go) (Sl.below aa Below.go) X Y af ag).mono ?_;rintro _ I ⟨W,ah,c3,ai,rfl,G,O,u⟩;have ab:=A_ G;have al:=A_ O;have ak:=A_ G.1;clear G O;obtain⟨an,ap⟩:=F_ u;have ar:w.1.size<I.1.size:=ltg u;have aw:w.1.size+1<I.1.size:=ltg u;go_wp2_with fail;have C:=B1f W ah c3 _ ai I ab;rw[ac.o]at C;refine C.mono ?_;clear C;rintro _ T ⟨rfl,D⟩;obtain⟨ao,aq⟩:=F_ D;have au:w.1.size<T.1.size:=ltg D;have ax:w.1.size+1<T.1.size:=ltg D;go_wp2;exact bodyPost_ret (v:=.agg #[.bool x.neg,.slice A1 n1 c1,.slice B m d]) (by simp[results,results69,go_sem, *]) rfl ⟨rfl,Below.go⟩

theorem E0g (au:Agg w v x b1) (aa:Sl w B m d ys b2) (af:XN.Can x.mag) (ag:XN.Can ys) (ai:0<m) (lx:x.mag.length<=65536) (ay:m<=65536) (az:NegOk x) (ah:¬ (Int.gcd (val x.mag) (val ys)=1/\x.mag.length<=24/\m<=24)) :
  Calls prog 69 #[v,.slice B m d] w (A0c w (mkR (A0q x) (val ys))):=by
 obtain⟨ab,n1,ae,bo,rfl,rfl,X⟩:=TBigInt.agg au;have bd:=A_ X.1;have aj:=A_ X;have ak:=A_ aa;have ac:=A_ af;have ad:=A_ ag;have aI:=A_ (ag.pos (by intro e;rw[<-aa.1,e]at ai;simp at ai));have ar:n1<=65536:=by have:=X.1;omega
 have Z:=A_ (D6t af az aI);have a3:=A_ (A5o (a:=val x.mag) aI);have a4:=A_ (show m=ys.length from aa.1.symm);by_cases J:Int.gcd (val x.mag) (val ys)=1
 ·have H:=A_ (show mkR (A0q x) (val ys)=A0h by
   rw[Z.o,J,if_neg]
   rw[Int.natCast_one,Int.ediv_one,Int.ediv_one,<-ac.o.eq_dig,<-ad.o.eq_dig,<-a4.o]
   intro I;exact ah ⟨J,I⟩)
  have al:=A_ (by rw[J];rfl:decide (dig (Int.gcd (val x.mag) (val ys))=[1])=true)
  rw[H.o]
  rcases Nat.lt_or_ge 24 n1 with G|G
  ·have aG:(24:Int)<n1:=oM
   clear au aa af ag az X ah G ai lx J Z;go_enter func69,ntmps69;go_wp2_with fail;refine(B6o ab B n1 m ae d x.mag ys _ _ _ (Sl.below aj Below.go) (Sl.below ak Below.go) ac ad ar ay).mono ?_;rintro _ u ⟨S,O,c3,Y,rfl,D,K,h⟩;have T:=A_ D;have aB:=A_ K;have aA:=A_ D.1;clear D K;obtain⟨ap,aR⟩:=F_ h;have aw:w.1.size<u.1.size:=ltg h;have aY:w.1.size+1<u.1.size:=ltg h;go_wp2_with fail;have C:=B1f S O c3 _ Y u T;rw[al.o]at C;refine C.mono ?_;clear C;rintro _ E ⟨rfl,b⟩;obtain⟨aq,aS⟩:=F_ b;have ax:w.1.size<E.1.size:=ltg b;have aZ:w.1.size+1<E.1.size:=ltg b;go_wp2;refine bodyPost_ret (v:=.agg #[.bool false,.slice none 0 0,.slice none 0 0]) (by simp[results,results69,go_sem, *]) rfl ?_;try rw[H.o]
   exact A3e Below.go
  have aG:¬ ((24:Int)<n1):=oM
  have a1:(24:Int)<m:=by
   rcases Nat.lt_or_ge 24 m with I|I;·omega
   exact absurd ⟨J,by rw[X.1];exact G,I⟩ ah
  clear au aa af ag az X ah G ai lx J Z
  go_enter func69,ntmps69
  go_wp2_with fail
  refine(B6o ab B n1 m ae d x.mag ys _ _ _ (Sl.below aj Below.go) (Sl.below ak Below.go) ac ad ar ay).mono ?_
  rintro _ u ⟨S,O,c3,Y,rfl,D,K,h⟩
  have T:=A_ D
  have aB:=A_ K
  have aA:=A_ D.1
  clear D K
  obtain⟨ap,aR⟩:=F_ h
  have aw:w.1.size<u.1.size:=ltg h
  have aY:w.1.size+1<u.1.size:=ltg h
  go_wp2_with fail
  have C:=B1f S O c3 _ Y u T
  rw[al.o]at C
  refine C.mono ?_
  clear C
  rintro _ E ⟨rfl,b⟩
  obtain⟨aq,aS⟩:=F_ b
  have ax:w.1.size<E.1.size:=ltg b
  have aZ:w.1.size+1<E.1.size:=ltg b
  go_wp2
  refine bodyPost_ret (v:=.agg #[.bool false,.slice none 0 0,.slice none 0 0]) (by simp[results,results69,go_sem, *]) rfl ?_;try rw[H.o]
  exact A3e Below.go
 ·have al:=A_ (by simp only[D9s];simpa using J:decide (dig (Int.gcd (val x.mag) (val ys))=[1])=false)
  have aH:=A_ (A0j (Int.gcd (val x.mag) (val ys)));have a2:=A_ (A1j (Int.gcd (val x.mag) (val ys)));clear au aa af ag az X ah ai lx J;go_enter func69,ntmps69;go_wp2_with fail;refine(B6o ab B n1 m ae d x.mag ys _ _ _ (Sl.below aj Below.go) (Sl.below ak Below.go) ac ad ar ay).mono ?_;rintro _ u ⟨S,O,c3,Y,rfl,D,K,h⟩;have T:=A_ D;have aB:=A_ K;have aA:=A_ D.1;clear D K;obtain⟨ap,aR⟩:=F_ h;have aw:w.1.size<u.1.size:=ltg h;have aY:w.1.size+1<u.1.size:=ltg h;go_wp2_with fail;have C:=B1f S O c3 _ Y u T;rw[al.o]at C;refine C.mono ?_;clear C;rintro _ E ⟨rfl,b⟩;obtain⟨aq,aS⟩:=F_ b;have ax:w.1.size<E.1.size:=ltg b;have aZ:w.1.size+1<E.1.size:=ltg b;have aT:0<O:=by
   have I:dig (Int.gcd (val x.mag) (val ys))≠[]:=by rw[Ne,B1x];have:=a3.o;omega
   have:=aA.o;have:=List.length_pos_iff.2 I;omega
  go_wp2_with fail;refine(B5w ab S n1 O ae c3 x.mag _ _ Y E (Sl.below aj Below.go) (Sl.below T b) ac aH ar aT).mono ?_;rintro _ w3 ⟨Q1,k1,an,bp,be,l1,aN,u1,rfl,aW,_,aU,ao⟩;have aC:=A_ aW;have aJ:=A_ (Own.left aU);clear aW aU;obtain⟨aQ,bh⟩:=F_ ao;have bk:w.1.size<w3.1.size:=ltg ao;have bm:w.1.size+1<w3.1.size:=ltg ao;have a5:=A_ (fun(W:World) (ha:Above (w.1.size+2) u W)=>(A7w (w:=w) T.o aB.o sO sI ha).1);go_wp2_with fail;refine(B5w B S m O d c3 ys _ _ Y _ (Sl.below ak Below.go) (a5 _ Above.go) ad aH ay aT).mono ?_;rintro _ aF ⟨Q2,k2,a7,bq,bf,l2,aO,u2,rfl,aX,_,aV,aE⟩;have aD:=A_ aX;have aK:=A_ (Own.left aV);clear aX aV;obtain⟨bg,bi⟩:=F_ aE;have bl:w.1.size<aF.1.size:=ltg aE;have bn:w.1.size+1<aF.1.size:=ltg aE;have aP:w3.cell? ⟨w.1.size,1,none⟩=some (.slice ab n1 ae):=by rw[aQ _ _ ax,aq _ _ aw,ap _ _ sO];go_simp
  have bc:=World.cell?_setCell_same w3 _ (.slice Q1 k1 an) aP;have ba:(w3.setCell ⟨w.1.size,1,none⟩ (.slice Q1 k1 an)).cell? ⟨w.1.size,0,none⟩=some (.bool x.neg):=by
   have I:w3.cell? ⟨w.1.size,0,none⟩=some (.bool x.neg):=by rw[aQ _ _ ax,aq _ _ aw,ap _ _ sO];go_simp
   exact(World.cell?_setCell_other w3 ⟨w.1.size,1,none⟩ ⟨w.1.size,0,none⟩ (.slice Q1 k1 an) sI).trans I
  clear aP;rw[a2.o]at aC aD;have aL:=A_ aC.1;have aM:=A_ aD.1;have a9:w.1.size+2<=E.1.size:=by have:=h.size;have:=b.size;simp at *;omega
  have bj:E.1.size<=w3.1.size:=ao.size;rcases Nat.lt_or_ge 24 k1 with G|G
  ·have H:=A_ (by rw[Z.o,if_neg];rw[aL.o];omega:mkR (A0q x) (val ys)=A0h)
   have aG:(24:Int)<k1:=oM;clear G;go_wp2;refine bodyPost_ret (v:=.agg #[.bool false,.slice none 0 0,.slice none 0 0]) (by simp[results,results69,go_sem, *]) rfl ?_;try rw[H.o]
   exact A3e Below.go
  have aG:¬ ((24:Int)<k1):=oM;rcases Nat.lt_or_ge 24 k2 with am|am
  ·have H:=A_ (by rw[Z.o,if_neg];rw[aM.o];omega:mkR (A0q x) (val ys)=A0h)
   have a1:(24:Int)<k2:=oM;clear G am;go_wp2;refine bodyPost_ret (v:=.agg #[.bool false,.slice none 0 0,.slice none 0 0]) (by simp[results,results69,go_sem, *]) rfl ?_;try rw[H.o]
   exact A3e Below.go
  have a1:¬ ((24:Int)<k2):=oM;have H:=A_ (by rw[Z.o,if_pos];rw[aL.o,aM.o];exact⟨G,am⟩:mkR (A0q x) (val ys)=⟨⟨x.neg,dig (val x.mag / (Int.gcd (val x.mag) (val ys):Nat)).toNat⟩,dig (val ys / (Int.gcd (val x.mag) (val ys):Nat)).toNat⟩);clear G am;go_wp2;refine bodyPost_ret (v:=.agg #[.bool x.neg,.slice Q1 k1 an,.slice Q2 k2 a7]) (by simp[results,results69,go_sem, *]) rfl ?_;have aN:=fun(W:World) (ha:Above (w.1.size+2) w3 W)=>A7w (w:=w) aC.o aJ.o oM a9 ha;have aO:=fun(W:World) (ha:Above (w.1.size+2) aF W)=>A7w (w:=w) aD.o aK.o sO sO ha;rw[H.o];refine B4k (x:=⟨⟨x.neg,dig (val x.mag / (Int.gcd (val x.mag) (val ys):Nat)).toNat⟩,dig (val ys / (Int.gcd (val x.mag) (val ys):Nat)).toNat⟩) (aN _ ?_) (aO _ ?_) (A9o (N:=w3.1.size) aJ.lt (λa6 a8=>by have:=(aK.2 a6 a8).1;simp at this;exact this)) ?_;·exact Above.go
  ·exact Above.go
  exact Below.go
end
end
end Go.Proofs.YtbhemnidcleaiaaGreat.X
