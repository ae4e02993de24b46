/- A part of the proof. -/
import Derived.Test.YtjcanieccnljfaaGreatY21
import Derived.Test.YtjcanieccnljfaaGreatY17
set_option linter.constructorNameAsVariable false
set_option maxHeartbeats 16000000
set_option maxRecDepth 10000
open Bool renaming false→AH
open Go renaming Calls→BL,TypeId→CV,Value→AU,World→AD,heap_alloc_new→DB,info_parts→FB,maxLen→BS,setRow_heap→PW,wpList_make_full→KK
open Go.IntKind renaming i64→RD,u64→LH,wrap_i64→OZ
open Go.Obj renaming cells→BG
open Go.RowKit.Below renaming drew→LK,refl→DI,trans→JK
open Go.Value renaming bool→J,int→N,slice→S
open Go.XB.Below renaming box→BP,next→BH
open List renaming eq_of_mem_replicate→QL,flatten_cons→QA,getElem?_take→JM,mem_append→DV,mem_of_getElem?→DH,replicate→DK,replicate_succ→PB,take_append_of_le_length→LN,take_of_length_le→DT
open Nat renaming add_mul→MW,le_refl→CE,lt_or_ge→CG,mul_le_mul_right→MN
open Option renaming none→I,some→B
namespace Go.Proofs.YtjcanieccnljfaaGreat.X
open Go.RowKit Go.XB Go.XN Proofs.Tryz
attribute [local go_sem] L_ Go.XB.opAt N_ M_ Region.wanted yielded
attribute [local simp] N_ M_ MP.eq MP.agg MP.sl MP.slbox A0r
theorem A3w {xs:List AU} {K:Nat} (hx:xs.length=K):∀ n,(DK n xs).flatten.length=n*K
 |0=>sI
 |n+1=>by rw[PB,QA,List.length_append,A3w hx n,hx,MW];omega
theorem C5n {xs:List AU} {v:AU}:∀ {n},v∈(DK n xs).flatten->v∈xs
 |0,h=>by simp at h
 |n+1,h=>by
  rw[PB,QA]at h
  rcases DV.1 h with h|h
  ·exact h
  exact C5n h
theorem B9k (xs:List AU) (a b:Nat):(DK (a+b) xs).flatten=(DK a xs).flatten++(DK b xs).flatten:=by
 rw[<-List.replicate_append_replicate,List.flatten_append]
theorem E2l {xs:List AU} {K:Nat} (u:xs.length=K) {a b:Nat} (h:a<=b):((DK b xs).flatten).take (a*K)=(DK a xs).flatten:=by
 obtain⟨d,rfl⟩:=Nat.exists_eq_add_of_le h;rw[B9k,LN (by rw[A3w u];exact CE _),DT (by rw[A3w u];exact CE _)]
def RepSt (w wr:AD) (g n K:Nat) (E:CV) (xs:List AU) (k:Nat):Prop :=
 ∃ cur:Array AU,wr.1[g]?=B (BG cur E (0,0))/\cur.size=n*K/\cur.toList.take (k*K)=(DK k xs).flatten/\k<=n/\(0<n->0<k)/\Bw w wr/\w.1.size<=g
theorem RepSt.step {w wr wa:AD} {g n K:Nat} {E:CV} {xs:List AU} {k:Nat} (D:xs.length=K) (ac:∀ v∈xs,v.oneCell'=true) (h:RepSt w wr g n K E xs k) (u:Bw wr wa) {P:Program} {T:CV} (aj:P.underlying T=B (.slice E)) (ai:(P.info? E).map (·.size)=B K) (an:k<n) (o:Nat) (ah:o=k*K) :
  ∃ w',(∀ ty dc sc,(Builtin.copy_ #[T,T] ty #[S (B ⟨g,o,I⟩) (n - k) dc,S (B ⟨g,0,I⟩) k sc]).run P wa=.ok (N RD (min k (n - k):Nat)) w')/\RepSt w w' g n K E xs (k+min k (n - k)):=by
 subst ah;obtain⟨b,Z,H,ab,ao,ad,O,af⟩:=h;have W:wa.1[g]?=B (BG b E (0,0)):=by rw[u.block g (E_ Z)];exact Z
 obtain⟨m,X⟩:∃ m,m=min k (n - k):=⟨_,rfl⟩
 have ag:m<=k/\m<=n - k/\0<m:=by have:=ad oS;omega
 have hm2:Nat.min k (n - k)=m:=X.symm;have aa:k*K+m*K<=n*K:=by rw[<-MW];exact MN _ oS
 refine⟨wa.setRow g (A8g b.toList (k*K) (DK m xs).flatten).toArray,λty dc sc=>?_,?_⟩
 ·have:=A8a (P:=P) (w:=wa) (k:=K) (g:=g) (o:=k*K) (dLen:=n - k) (dCap:=dc) (sLen:=k) (sCap:=sc) (a:=⟨g,0,I⟩) (ty:=ty) aj ai W (cs:=(DK m xs).flatten)
   (by rw[A3w D,hm2]) (λj v G=>C0n W 0 j v (by
    rw[List.drop_zero];have:((DK k xs).flatten)[j]?=B v:=by
     rw[<-E2l D ag.1,JM]at G;split at G;·exact G
     cases G
    rw[<-ab,JM]at this;split at this;·exact this
    cases this)) (by rw[A3w D,H];exact aa) (λv ak=>ac v (C5n ak))
  rw[hm2]at this
  rw[<-X]
  exact this
 rw[<-X];have ae:k*K+(DK m xs).flatten.length<=b.toList.length:=by rw[A3w D];simpa[H]using aa
 refine⟨_,PW wa g b _ _ _ W,by simpa[H]using A8b ae,?_,oS,λ_=>oS,JK O ⟨u.os,u.tape,u.output,?_,λY am=>?_⟩,af⟩;·rw[List.toList_toArray,B9k,<-ab];unfold A8g;rw[MW,List.append_assoc,List.take_append,DT oR];congr 1;rw[show k*K+m*K - (b.toList.take (k*K)).length=m*K by rw[List.length_take];have al:b.toList.length=n*K:=(by simpa using H);omega];rw[LN (by rw[A3w D];exact CE _),DT (by rw[A3w D];exact CE _)]
 ·have:=u.size;have:=O.size;simp[AD.setRow];omega
 rw[setRow_other wa g Y _ oS];exact u.block Y (by have:=O.size;omega)
theorem RepSt.start {w h:AD} {g n K X:Nat} {u:CV} {xs cells:List AU} (aa:xs.length=K) (ad:∀ v∈xs,v.oneCell'=true) (ah:h.ownsRow w.1.size u K (S (B ⟨g,0,I⟩) n n) n cells) (ae:Bw w h) (W:h.1[X]?=B (BG xs.toArray u)) {P:Program} {T:CV} (aj:P.underlying T=B (.slice u)) (ai:(P.info? u).map (·.size)=B K) :
  ∃ w',(∀ ty,(Builtin.copy_ #[T,T] ty #[S (B ⟨g,0,I⟩) n n,S (B ⟨X,0,I⟩) 1 1]).run P h=.ok (N RD (min 1 n:Nat)) w')/\RepSt w w' g n K u xs (min 1 n):=by
 obtain⟨b,af,Y,G⟩:∃ b,w.1.size<=g/\h.1[g]?=B (BG b u (0,0))/\b.size=n*K:=by
  rcases ah.2 with⟨ac,_⟩|⟨g',am,b,ak,k1,k2,aq,ar,al,au⟩;·cases ac
  cases ak;exact⟨b,k1,k2,al⟩
 obtain⟨m,O⟩:∃ m,m=min 1 n:=⟨_,rfl⟩
 have hm2:Nat.min 1 n=m:=O.symm;have Z:m<=n:=oS;have ap:m*K<=n*K:=MN _ Z;have H:(DK m xs).flatten.length=m*K:=A3w aa m;refine⟨h.setRow g (A8g b.toList 0 (DK m xs).flatten).toArray,λty=>?_,?_⟩
 ·have:=A8a (P:=P) (w:=h) (k:=K) (g:=g) (o:=0) (dLen:=n) (dCap:=n) (sLen:=1) (sCap:=1) (a:=⟨X,0,I⟩) (ty:=ty) aj ai Y (cs:=(DK m xs).flatten)
   (by rw[A3w aa,hm2]) (λj v D=>by
    have hm1:m=0\/m=1:=oS;rcases hm1 with E|E
    ·rw[E]at D;simp at D
    rw[E]at D;simp at D;exact A0a W j v (by simpa using D)) (by rw[H,G];omega) (λv W=>ad v (C5n W))
  rw[hm2]at this
  rw[<-O]
  exact this
 rw[<-O];have ag:0+(DK m xs).flatten.length<=b.toList.length:=by
  have an:b.toList.length=n*K:=by simpa using G
  omega
 refine⟨_,PW h g b _ _ _ Y,by simpa[G]using A8b ag,?_,Z,λ_=>oS,JK ae ⟨rfl,rfl,rfl,by simp[AD.setRow],λab ao=>setRow_other h g ab _ oS⟩,af⟩;rw[List.toList_toArray];unfold A8g;rw[List.take_zero,List.nil_append,LN (by rw[H];exact CE _),DT (by rw[H];exact CE _)]
theorem RepSt.done {w wr:AD} {g n K:Nat} {b:CV} {xs:List AU} (W:xs.length=K) (H:n<=BS) (h:RepSt w wr g n K b xs n):wr.ownsRow w.1.size b K (S (B ⟨g,0,I⟩) n n) n (DK n xs).flatten/\Bw w wr:=by
 obtain⟨u,E,O,T,_,_,D,G⟩:=h;exact⟨⟨A3w W n,.inr ⟨g,n,u,rfl,G,E,CE _,H,O,T⟩⟩,D⟩
theorem E7t:(prog.info? 3).map (λi=>(i.zero,i.size,i.bytes))=B (B (N RD 0),1,8):=kR
theorem E1q (D n:Nat) (xs:List AU) (w:AD) (T:w.1[D]?=B (BG xs.toArray 3)) (W:xs.length=1) (ae:∀ v∈xs,v.oneCell'=true) (az:n<=40) :
  BL prog 179 #[S (B ⟨D,0,I⟩) 1 1,N RD n] w λe w'=>e=.returned (S (B ⟨w.1.size,0,I⟩) n n)/\w'.ownsRow w.1.size 3 1 (S (B ⟨w.1.size,0,I⟩) n n) n (DK n xs).flatten/\Bw w w':=by
 obtain⟨am,ag,aB,al,aC⟩:=FB E7t;have ai:(prog.info? 3).map (·.size)=B 1:=by rw[ag];simp[al]
 have b2:=A_ (by rw[aC];omega:am.bytes*n<=281474976710656);have ab:=A_ (by unfold BS;omega:n<=BS);have aL:¬ ((n:Int)<0):=oS;have aO:LH.wrap (n:Int)=n:=by rw[IntKind.wrap_u64];omega
 have aM:RD.wrap (n:Int)=n:=by rw[OZ];omega
 have aE:¬ ((9223372036854775807:Int)<n):=oS;have ak:=E_ T;have aa:=A_ T;have Y:=A_ ae;clear T ae;go_enter func179,ntmps179;go_upto_region 4 with(go_at_call 128;refine(B9f n az w).mono ?_;rintro e w' ⟨rfl,aA⟩;obtain rfl:=aA.symm)
 go_upto_region 7 with(at_make;(refine KK _ rfl _ _ 35 rfl w.1.size 3 am (N RD 0) 1 underlying35 ag aB al .i64 .i64 _ _ n rfl rfl rfl rfl b2 ab (CE _) ?_);intro aD ah af)
 have E:=(DI w.1.size w).grown af (CE _) (by intro k u;cases u);have aj:aD.1[D]?=B (BG xs.toArray 3):=by rw[E.block D ak];exact aa
 obtain⟨aP,h,H⟩:=RepSt.start W Y ah E aj underlying35 ai;obtain⟨X,hm0⟩:∃ X,X=min 1 n:=⟨_,rfl⟩
 rw[<-hm0]at H h;have aq:=A_ hm0;clear hm0;have Z:=A_ H;clear ah af E aj H aa ak;go_wp2_with fail;go_loopg [8] n (λg s wr=>∃ k:Nat,n<=k+g/\s=N RD k/\Hid (RepSt w wr w.1.size n 1 3 xs k));case atStart=>exact⟨X,by have:=aq.o;omega,rfl,Z.o⟩
 case round =>
  clear Z h;obtain⟨k,u,rfl,b⟩:=hrel;obtain⟨_,_,_,_,aJ,_⟩:=b.o;rcases CG k n with ax|aF
  ·have aI:(k:Int)<n:=oS
   obtain⟨g,rfl⟩:∃ g,gk=g+1:=⟨gk - 1,oS⟩
   have aw:=A_ u;clear u;go_wp2_with fail;obtain⟨m,G⟩:∃ m,m=min k (n - k):=⟨_,rfl⟩
   have ay:=A_ (show 0<k from(by obtain⟨_,_,_,_,_,au,_⟩:=b.o;exact au oS));obtain⟨aQ,h,O⟩:=b.o.step W Y.o (LK (DI wr.1.size wr)) underlying35 ai ax (k) oS;rw[<-G]at h O;have ap:=A_ G;have ar:=A_ O;have aN:RD.wrap ((k:Int)+m)=((k+m:Nat):Int):=by rw[OZ];omega
   have aH:(0:Int)<=k:=oS;have aK:(k:Int)<=n:=oS;clear O b G;go_region_held3 (λw'=>True) (trivial) (fail);all_goals go_wp2_with fail
   go_roundg g;case measure=>omega
   case rel=>exact⟨k+m,by have:=aw.o;have:=ay.o;have:=ap.o;omega,gN,ar⟩
  obtain rfl:k=n:=oS;have aG:¬ ((k:Int)<k):=oS;obtain⟨ac,ad⟩:=b.done W ab;have an:=A_ ac;have ao:=A_ ad;clear ac ad b;go_wp2;go_ret;exact⟨rfl,an,ao⟩
theorem E8e:(prog.info? 39).map (λi=>(i.zero,i.size,i.bytes))=B (B (.agg #[J AH,S I 0 0,S I 0 0]),3,56):=kR
theorem C1n (D n:Nat) (xs:List AU) (w:AD) (T:w.1[D]?=B (BG xs.toArray 39)) (W:xs.length=3) (ae:∀ v∈xs,v.oneCell'=true) (az:n<=40) :
  BL prog 58 #[S (B ⟨D,0,I⟩) 1 1,N RD n] w λe w'=>e=.returned (S (B ⟨w.1.size,0,I⟩) n n)/\w'.ownsRow w.1.size 39 3 (S (B ⟨w.1.size,0,I⟩) n n) n (DK n xs).flatten/\Bw w w':=by
 obtain⟨am,ag,aB,al,aC⟩:=FB E8e;have ai:(prog.info? 39).map (·.size)=B 3:=by rw[ag];simp[al]
 have b2:=A_ (by rw[aC];omega:am.bytes*n<=281474976710656);have ab:=A_ (by unfold BS;omega:n<=BS);have aL:¬ ((n:Int)<0):=oS;have aO:LH.wrap (n:Int)=n:=by rw[IntKind.wrap_u64];omega
 have aM:RD.wrap (n:Int)=n:=by rw[OZ];omega
 have aE:¬ ((9223372036854775807:Int)<n):=oS;have ak:=E_ T;have aa:=A_ T;have Y:=A_ ae;clear T ae;go_enter func58,ntmps58;go_upto_region 4 with(go_at_call 128;refine(B9f n az w).mono ?_;rintro e w' ⟨rfl,aA⟩;obtain rfl:=aA.symm)
 go_upto_region 7 with(at_make;(refine KK _ rfl _ _ 27 rfl w.1.size 39 am (.agg #[J AH,S I 0 0,S I 0 0]) 3 underlying27 ag aB al .i64 .i64 _ _ n rfl rfl rfl rfl b2 ab (CE _) ?_);intro aD ah af)
 have E:=(DI w.1.size w).grown af (CE _) (by intro k u;cases u);have aj:aD.1[D]?=B (BG xs.toArray 39):=by rw[E.block D ak];exact aa
 obtain⟨aP,h,H⟩:=RepSt.start W Y ah E aj underlying27 ai;obtain⟨X,hm0⟩:∃ X,X=min 1 n:=⟨_,rfl⟩
 rw[<-hm0]at H h;have aq:=A_ hm0;clear hm0;have Z:=A_ H;clear ah af E aj H aa ak;go_wp2_with fail;go_loopg [8] n (λg s wr=>∃ k:Nat,n<=k+g/\s=N RD k/\Hid (RepSt w wr w.1.size n 3 39 xs k));case atStart=>exact⟨X,by have:=aq.o;omega,rfl,Z.o⟩
 case round =>
  clear Z h;obtain⟨k,u,rfl,b⟩:=hrel;obtain⟨_,_,_,_,aJ,_⟩:=b.o;rcases CG k n with ax|aF
  ·have aI:(k:Int)<n:=oS
   obtain⟨g,rfl⟩:∃ g,gk=g+1:=⟨gk - 1,oS⟩
   have aw:=A_ u;clear u;go_wp2_with fail;obtain⟨m,G⟩:∃ m,m=min k (n - k):=⟨_,rfl⟩
   have ay:=A_ (show 0<k from(by obtain⟨_,_,_,_,_,au,_⟩:=b.o;exact au oS));obtain⟨aQ,h,O⟩:=b.o.step W Y.o (LK (DI wr.1.size wr)) underlying27 ai ax (k*3) oS;rw[<-G]at h O;have ap:=A_ G;have ar:=A_ O;have aN:RD.wrap ((k:Int)+m)=((k+m:Nat):Int):=by rw[OZ];omega
   have aH:(0:Int)<=k:=oS;have aK:(k:Int)<=n:=oS;clear O b G;go_region_held3 (λw'=>True) (trivial) (fail);all_goals go_wp2_with fail
   go_roundg g;case measure=>omega
   case rel=>exact⟨k+m,by have:=aw.o;have:=ay.o;have:=ap.o;omega,gN,ar⟩
  obtain rfl:k=n:=oS;have aG:¬ ((k:Int)<k):=oS;obtain⟨ac,ad⟩:=b.done W ab;have an:=A_ ac;have ao:=A_ ad;clear ac ad b;go_wp2;go_ret;exact⟨rfl,an,ao⟩
def A6y (n:Nat) (ps:List Int):Nat->List Int
 |0=>DK n (-1)
 |k+1=>(A6y n ps k).set (ps.getD k 0).toNat k
theorem B8c (n:Nat) (ps:List Int):∀ k,(A6y n ps k).length=n
 |0=>by simp[A6y]
 |k+1=>by rw[A6y];simp[B8c n ps k]
theorem C0v (n:Nat) (ps:List Int):∀ k,∀ x∈A6y n ps k,-1<=x/\x<k
 |0,x,h=>by have:=QL (show x∈DK n (-1)from h);omega
 |k+1,x,h=>by
  rw[A6y]at h
  rcases List.mem_or_eq_of_mem_set h with h|rfl
  ·have:=C0v n ps k x h;omega
  omega
def B1i (m:TMesh):List Int:=A6y m.1.length (A3f m AH) (A3f m AH).length
theorem B8o (fs:List Bool) (bd:Bool):∀ k,∀ x∈A3k fs bd k,0<=x/\x<k
 |0,x,h=>by simp[A3k]at h
 |k+1,x,h=>by
  rw[A3k]at h
  split at h
  ·rcases DV.1 h with h|h
   ·have:=B8o fs bd k x h;omega
   simp at h;omega
  have:=B8o fs bd k x h;omega
theorem D8p {m:TMesh} {bd:Bool}:∀ x∈A3f m bd,0<=x/\x<m.1.length:=λx h=>B8o _ _ _ x h
theorem B3t (m:TMesh) (bd:Bool):(A3f m bd).length<=m.1.length:=B7x _ _ _
def E1p (w:AD) (rs:List Int) (k:Nat) (e:Ending) (w':AD):Prop :=
 ∃ g n bs,e=.returned (.tuple #[S (B ⟨g,0,I⟩) n n,N RD k])/\Sl w' (B ⟨g,0,I⟩) n n rs bs/\Own w w' bs/\Bw w w'
theorem E0s (n:Nat) (x:Int):(DK n [N RD x]).flatten=(DK n x).map (N RD):=by
 induction n with
 |zero=>rfl
 |succ n ih=>rw[PB,QA,ih,PB];rfl
theorem B5v (v:AU) (m:TMesh) (b:List Nat) (w:AD) (T:Agg w v m b) (ab:m.1.length<=40) (aq:m.triangles.length<=48) (ar:B8e m) :
  BL prog 122 #[v] w (E1p w (B1i m) (A3f m AH).length):=by
 have aH:=A_ T;have aB:=A_ aq;have aA:=A_ ab;have aF:=A_ ar;obtain⟨ah,h,an,bi,ai,n1,ao,bj,rfl,rfl,ae,X⟩:=TMesh.agg T;have Z:=A_ ae.1;have aX:h<=40:=by rw[<-ae.1];exact ab
 have a9:(h:Int)<=40:=oS;obtain⟨ps,G⟩:∃ ps,A3f m AH=ps:=⟨_,rfl⟩
 have aL:=A_ (by unfold B1i;rw[Z.o,G]:B1i m=A6y h ps ps.length);have aK:=A_ (by rw[<-G,<-Z.o];exact D8p:∀ x∈ps,0<=x/\x<h);have bd:ps.length<=h:=by rw[<-G,<-Z.o];exact B3t m AH
 have aG:=A_ G;rw[G];clear ae X T ab aq ar G;go_enter func122,ntmps122;go_wp2_with fail;refine(E1q (w.1.size+1) h [N RD (-1)] _ (by have:=DB (w.alloc (BG #[S ah h an,S ai n1 ao] 26)) (BG #[N RD (-1)] 3);rwa [World.size_alloc]at this) rfl (by simp[Value.oneCell']) aX).mono ?_;rintro _ ag ⟨rfl,ad,W⟩;obtain⟨aT,aU⟩:=F_ W;have bg:w.1.size<ag.1.size:=ltg W;rw[E0s,show((w.alloc (BG #[S ah h an,S ai n1 ao] 26)).alloc (BG #[N RD (-1)] 3)).1.size=w.1.size+1+1 by simp]at ad;have ak:=A_ (show Bw w ag from Below.go);have aa:=A_ (show IRow ag (w.1.size+1+1) (w.1.size+1+1) h (A6y h ps 0)from ad);clear ad;go_wp2_with fail;refine(B6y _ m _ AH _ (aH.below ak) aA aB aF).mono ?_;rw[aG.o];rintro _ bm ⟨ay,u,aQ,ap,rfl,Y,aw,ac⟩;have aY:=W.size;simp at aY;have D:=A_ Y;have ba:u<=40:=by rw[<-Y.1];omega
 have bc:(u:Int)<=40:=oS;have al:=A_ Y.1;have a4:=aa.lt;have aE:=A_ (show w.1.size+1+1∉ap from λaR=>by have:=(aw.2 _ aR).1;omega);have aC:=A_ (BH ak ac);have am:=A_ (aa.below ac);clear Y aw ac W aT aU aa;go_wp2_with fail;go_loopg [17] u (λg s wr=>∃ k:Nat,k+g=u/\s=N RD k/\Hid (IRow wr (w.1.size+1+1) (w.1.size+1+1) h (A6y h ps k))/\Hid (Sl wr ay u aQ ps ap)/\Bw w wr);case atStart=>exact⟨0,oS,rfl,am.o,D.o,aC.o⟩
 case round =>
  clear am D;obtain⟨k,au,rfl,E,D,H⟩:=hrel;have aj:=A_ H;have a8:=E.lt;rcases CG k u with O|O
  ·have a6:(k:Int)<u:=oS
   have a7:(0:Int)<=k:=oS;obtain⟨g,rfl⟩:∃ g,gk=g+1:=⟨gk - 1,oS⟩
   have aW:=A_ (by omega:k+1+g=u);have a5:k+1<=u:=O;obtain⟨aZ,bh,x,rfl,a2,af,aV,a1⟩:=Sl.getInt D O;obtain⟨be,bf⟩:=aK x (DH af);have az:=A_ (show ps.getD k 0=x from A0e af);have aJ:=A_ (by rw[A6y,az.o]:A6y h ps (k+1)=(A6y h ps k).set x.toNat k);obtain⟨bk,bl⟩:=E.cell (j:=x.toNat) (f:=(A6y h ps k).getD x.toNat 0) (by rw[List.getD_eq_getElem?_getD,List.getElem?_eq_getElem (by rw[B8c];omega)];rfl);have aI:=A_ (by rw[aJ.o];exact E.set _ _:IRow (wr.setCell ⟨w.1.size+1+1,x.toNat,I⟩ (N RD k)) (w.1.size+1+1) (w.1.size+1+1) h (A6y h ps (k+1)));have aP:=A_ (D.keep (w':=wr.setCell ⟨w.1.size+1+1,x.toNat,I⟩ (N RD k)) (λb H=>by have aS:b≠w.1.size+1+1:=λe=>aE.o (e ▸ H);exact Below.heap_setCell _ _ _ b (by simpa using aS)));have aD:=A_ (show Bw w (wr.setCell ⟨w.1.size+1+1,x.toNat,I⟩ (N RD k))from aj.o.setCell (p:=⟨w.1.size+1+1,x.toNat,I⟩) oR _);clear au O af H E D aV;go_wp2_with fail;go_roundg g;case measure=>omega
   case rel=>exact⟨k+1,aW,gN,aI,aP,aD⟩
  obtain rfl:k=u:=oS;have a3:¬ ((k:Int)<k):=oS;have aM:=A_ (by rw[aL.o,al.o]:A6y h ps k=B1i m);obtain⟨bs,X,ax⟩:=E.sl (λx T=>by have:=C0v h ps k x T;constructor<;>omega);have aN:=A_ X;have aO:=A_ (ax w oS);clear au O D E H X ax;go_wp2;refine bodyPost_ret (v:=.tuple #[S (B ⟨w.1.size+1+1,0,I⟩) h h,N RD k]) (by simp[results,results122,go_sem, *]) rfl ?_;refine⟨_,h,bs,by rw[al.o],?_,aO.o,aj.o⟩;rw[<-aM.o];exact aN
def E3s (w:AD) (M:List (List TRat)) (n:Nat) (e:Ending) (w':AD):Prop:=∃ o cap gs,e=.returned (S (B ⟨o,0,I⟩) n cap)/\MSt w w' o n cap n gs M
theorem C0s {w:AD} {n:Nat} {x:TRat} {cs:List AU} {bs:List Nat} (h:Dat.at_ w cs x bs):Filled w (DK n cs).flatten (DK n x) (DK n bs):=by
 have b:=Dat.len h;refine⟨sI,by rw[A3w b];simp,λk y D u E=>?_⟩;have G:k<n:=by have:=(List.getElem?_eq_some_iff.1 u).1;simpa using this
 obtain rfl:y=x:=QL (DH u);obtain rfl:D=bs:=QL (DH E);have e:((DK n cs).flatten.drop (k*Dat.sz TRat)).take (Dat.sz TRat)=cs:=by
  obtain⟨d,rfl⟩:∃ d,n=k+(1+d):=⟨n - k - 1,oS⟩
  rw[B9k,List.drop_append_of_le_length (by rw[A3w b];exact CE _),List.drop_of_length_le (by rw[A3w b];exact CE _),List.nil_append,B9k,LN (by rw[A3w b];omega)];simp only[List.replicate_one,QA,List.flatten_nil,List.append_nil];exact DT oS
 rw[e];exact h
theorem B0m {bs:List Nat} {b:Nat}:∀ {n},b∈(DK n bs).flatten->b∈bs
 |0,h=>by simp at h
 |n+1,h=>by
  rw[PB,QA]at h
  rcases DV.1 h with h|h
  ·exact h
  exact B0m h
theorem E2x:(prog.info? 27).map (λi=>(i.zero,i.size,i.bytes))=B (B (S I 0 0),1,24):=kR
theorem D6v (n:Nat) (w:AD) (az:n<=40):BL prog 175 #[N RD n] w (E3s w (DK n (DK n (U_ 0))) n):=by
 obtain⟨aD,aw,aA,aB,aC⟩:=FB E2x;go_enter func175,ntmps175;go_wp2_with fail;have aa:=A_ (MSt.start (n:=n) (DI w.1.size w));go_loopg [3,6] n (λg s3 s wr=>∃ (i o cap:Nat) (gs:List (Nat×Nat)),i+g=n/\s=N RD i/\s3=S (B ⟨o,0,I⟩) i cap/\Hid (MSt w wr o i cap n gs (DK i (DK n (U_ 0)))));case atStart=>exact⟨0,w.1.size,0,[],oS,rfl,rfl,aa.o⟩
 case round =>
  clear aa;obtain⟨i,o,cap,gs,ag,rfl,rfl,u⟩:=hrel;rcases CG i n with O|O
  ·have ay:(i:Int)<n:=oS
   obtain⟨g,rfl⟩:∃ g,gk=g+1:=⟨gk - 1,oS⟩
   have ax:=A_ (by omega:i+1+g=n);have am:=A_ (by unfold BS;omega:i+1<=BS);have an:=A_ (by omega:(i+1)*24<=140737488355328);clear ag O;go_wp2_with fail;refine(A0l 0 wr oG).mono ?_;rintro _ wa ⟨aM,aE,rfl,E,ah,ae⟩;obtain⟨W,ak,ab,aH,X,al,ac,aI,rfl,aG,_,_⟩:=TRat.agg E;have D:=A_ (A3x (E.below (BP (BG #[J (U_ 0).1.1,S W ak ab,S X al ac] 39))));have ao:=A_ (show ∀ b∈aE,wr.1.size<=b/\b<wa.1.size from λb h=>⟨(ah.2 b h).1,E.lt b h⟩);have Y:=A_ ae;clear E ah aG ae;go_wp2_with fail;refine(C1n wa.1.size n [J (U_ 0).1.1,S W ak ab,S X al ac] _ (DB wa _) rfl (Dat.one D) az).mono ?_;rintro _ wb ⟨rfl,T,G⟩;rw[World.size_alloc]at T
   have Z:=A_ (show RR (λb=>b<wr.1.size\/b=wa.1.size+1) wb (wa.1.size+1) n n (DK n (U_ 0))from
    ⟨_,_,B0o T,C0s (Dat.keep D.o (λb h=>G.block b (Dat.lt D.o b h))),sI,λb h au=>by have aJ:=ao b (B0m h);rcases au with ar|ar<;>omega,.inr rfl⟩)
   have H:=A_ (BH (BH Y (BP _)) G);have aK:=A_ G.size;have aL:=u.bl.size;have ap:=A_ (by have:=H.size;simp;omega:w.1.size<=(wb.alloc (BG #[S (B ⟨wa.1.size+1,0,I⟩) n n] 27)).1.size);clear T G D;go_wp2_with (at_builtin;refine A1m rfl _ _ 149 rfl w.1.size 27 aD (S I 0 0) 1 24 underlying149 aw aA aB aC rfl dE o i cap (gs.map λg=>.slice (B ⟨g.1,0,I⟩) n g.2) gD (I_ u.ou (BH H (BP _))) ⟨wb.1.size,0,I⟩ 1 1 [S (B ⟨wa.1.size+1,0,I⟩) n n] gD rfl (A0a (DB wb _)) (by simp[Value.oneCell']) am.o an.o ap.o ?_;intro g' ad aF aj af ai);have aq:=A_ (show MSt w aF g' (i+1) ad n (gs++[(wa.1.size+1,n)]) (DK (i+1) (DK n (U_ 0))) by rw[List.replicate_succ'];exact u.push (BH H (BP _)) ((Z).below (BP _)) (by have:=Y.size;omega) aj af ai);clear aj af ai u Z;go_wp2_with fail;go_roundg g;case measure=>omega
   case rel=>exact⟨i+1,g',ad,_,ax,gN,rfl,aq⟩
  obtain rfl:i=n:=oS;have ay:¬ ((i:Int)<i):=oS;clear ag O;go_wp2;go_ret;exact⟨o,cap,gs,rfl,u⟩
end Go.Proofs.YtjcanieccnljfaaGreat.X

namespace Go.XB
open Go.RowKit
theorem Sl.elemS {α:Type} [Dat α] {w:AD} {A:Option Addr} {n c:Nat} {xs:List (List α)} {bs:List Nat} (h:Sl w A n c xs bs) {k:Nat} (O:k<n) :
  ∃ (b off:Nat) (r:List α) (A1:Option Addr) (n1 c1:Nat) (fs:List Nat),A=B ⟨b,off,I⟩/\b<w.1.size/\xs[k]?=B r/\w.cell? ⟨b,off+k,I⟩=B (S A1 n1 c1)/\Sl w A1 n1 c1 r fs/\∀ g∈fs,g∈bs:=by
 obtain⟨b,off,x,X,fs,u,E,W,G,D,H⟩:=Sl.getAt h O;obtain⟨A1,n1,c1,rfl,T⟩:=D;have:=G 0 _ rfl;exact⟨b,off,x,A1,n1,c1,fs,u,E,W,by simpa[Dat.sz]using this,T,H⟩
end Go.XB
namespace Go.Proofs.YtjcanieccnljfaaGreat.X
open Go.RowKit Go.XB Go.XN Proofs.Tryz
attribute [local go_sem] L_ Go.XB.opAt N_ M_ Region.wanted yielded
attribute [local simp] N_ M_ MP.eq MP.agg MP.sl MP.slbox A0r
theorem C8x (A:Option Addr) (n c:Nat) (M:List (List TRat)) (bs:List Nat) (w:AD) (h:Sl w A n c M bs) (G:∀ r∈M,0<r.length) (H:∀ r∈M,r.any A2e=AH) :
  BL prog 178 #[S A n c] w (A0b w (S A n c)):=by
 have ac:=A_ h;have X:=A_ G;have Z:=A_ H;have ai:n<=BS:=Nat.le_trans h.2.1 h.2.2.1;unfold BS at ai;clear h G H;go_enter func178,ntmps178;go_wp2_with fail;go_loopg [7] n (λg s wr=>∃ i:Nat,i+g=n/\s=N RD i/\Hid (Bw w wr));case atStart=>exact⟨0,oS,rfl,DI _ _⟩
 case round =>
  obtain⟨i,O,rfl,u⟩:=hrel;rcases CG i n with b|b
  ·have ah:(i:Int)<n:=oS
   obtain⟨g,rfl⟩:∃ g,gk=g+1:=⟨gk - 1,oS⟩
   have ag:=A_ (by omega:i+1+g=n);have am:i+1<=n:=b;obtain⟨aj,ap,r,W,n1,ad,ae,rfl,ak,D,al,E,_⟩:=Sl.elemS (ac.below u) b;have T:=X r (DH D);have an:0<n1:=by rw[<-E.1];exact T
   have ao:((n1:Int)==0)=AH:=oR;have Y:=A_ (Z r (DH D));have ab:=A_ E;clear O b D E T;go_wp2_with fail;refine(A5p W n1 ad r ae _ ab Y).mono ?_;rintro _ aq ⟨rfl,af⟩;have aa:=A_ (BH u af);go_wp2_with fail;go_roundg g;case measure=>omega
   case rel=>exact⟨i+1,ag,gN,aa⟩
  obtain rfl:i=n:=oS;have ah:¬ ((i:Int)<i):=oS;clear O b;go_wp2;go_ret;exact⟨rfl,u⟩
def E9d (a b c:TPoint) (i j:Nat):TRat:=A3u (A6c a b c) (U_ (if i=j then 6 else 12))
def D0o (a b c:TPoint) (i:Nat):Nat->List TRat
 |0=>[]
 |j+1=>D0o a b c i j++[E9d a b c i j]
def E2y (a b c:TPoint):Nat->List (List TRat)
 |0=>[]
 |i+1=>E2y a b c i++[D0o a b c i 3]
def E9s (a b c:TPoint):List (List TRat):=E2y a b c 3
end Go.Proofs.YtjcanieccnljfaaGreat.X
