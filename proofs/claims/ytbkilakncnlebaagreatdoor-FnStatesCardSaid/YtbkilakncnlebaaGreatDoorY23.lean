/- A part of the proof. -/
import Derived.Test.YtbkilakncnlebaaGreatDoorY22
import Derived.Test.YtbkilakncnlebaaGreatDoorY17
set_option linter.constructorNameAsVariable false
set_option maxHeartbeats 16000000
set_option maxRecDepth 10000
open Bool renaming false→AF
open Go renaming Calls→AR,TypeId→BS,Value→AJ,World→J,heap_alloc_new→CF,info_parts→DW,maxLen→BG,setRow_heap→OB,wpList_make_full→LG
open Go.IntKind renaming i64→QO,u64→JR,wrap_i64→MT
open Go.Obj renaming cells→AK
open Go.RowKit.Below renaming drew→LK,refl→CG,trans→IY
open Go.Value renaming bool→AC,int→N,slice→S
open Go.XB.Below renaming box→AV,next→AI
open List renaming eq_of_mem_replicate→OM,flatten_cons→OH,getElem?_take→IL,mem_append→CO,mem_of_getElem?→CH,replicate→CJ,replicate_succ→MC,take_append_of_le_length→JV,take_of_length_le→CZ
open Nat renaming add_mul→JZ,le_refl→BH,lt_or_ge→BN,mul_le_mul_right→JQ
open Option renaming none→I,some→B
namespace Go.Proofs.YtbkilakncnlebaaGreatDoor.X
open Go.RowKit Go.XB Go.XN Proofs.Tryz
attribute [local go_sem] L_ Go.XB.opAt N_ M_ Region.wanted yielded
attribute [local simp] N_ M_ MP.eq MP.agg MP.sl MP.slbox A0r
theorem A3w {xs:List AJ} {K:Nat} (hx:xs.length=K):∀ n,(CJ n xs).flatten.length=n*K
 |0=>sI
 |n+1=>by rw[MC,OH,List.length_append,A3w hx n,hx,JZ];omega
theorem C5n {xs:List AJ} {v:AJ}:∀ {n},v∈(CJ n xs).flatten->v∈xs
 |0,h=>by simp at h
 |n+1,h=>by
  rw[MC,OH]at h
  rcases CO.1 h with h|h
  ·exact h
  exact C5n h
theorem B9k (xs:List AJ) (a b:Nat):(CJ (a+b) xs).flatten=(CJ a xs).flatten++(CJ b xs).flatten:=by
 rw[<-List.replicate_append_replicate,List.flatten_append]
theorem E2l {xs:List AJ} {K:Nat} (u:xs.length=K) {a b:Nat} (h:a<=b):((CJ b xs).flatten).take (a*K)=(CJ a xs).flatten:=by
 obtain⟨d,rfl⟩:=Nat.exists_eq_add_of_le h;rw[B9k,JV (by rw[A3w u];exact BH _),CZ (by rw[A3w u];exact BH _)]
def RepSt (w wr:J) (g n K:Nat) (E:BS) (xs:List AJ) (k:Nat):Prop :=
 ∃ cur:Array AJ,wr.1[g]?=B (AK cur E (0,0))/\cur.size=n*K/\cur.toList.take (k*K)=(CJ k xs).flatten/\k<=n/\(0<n->0<k)/\Bw w wr/\w.1.size<=g
theorem RepSt.step {w wr wa:J} {g n K:Nat} {E:BS} {xs:List AJ} {k:Nat} (D:xs.length=K) (ad:∀ v∈xs,v.oneCell'=true) (h:RepSt w wr g n K E xs k) (u:Bw wr wa) {P:Program} {T:BS} (ak:P.underlying T=B (.slice E)) (aj:(P.info? E).map (·.size)=B K) (ao:k<n) (o:Nat) (ai:o=k*K) :
  ∃ w',(∀ ty dc sc,(Builtin.copy_ #[T,T] ty #[S (B ⟨g,o,I⟩) (n - k) dc,S (B ⟨g,0,I⟩) k sc]).run P wa=.ok (N QO (min k (n - k):Nat)) w')/\RepSt w w' g n K E xs (k+min k (n - k)):=by
 subst ai;obtain⟨b,Z,H,ac,ap,ae,O,ag⟩:=h;have W:wa.1[g]?=B (AK b E (0,0)):=by rw[u.block g (E_ Z)];exact Z
 obtain⟨m,X⟩:∃ m,m=min k (n - k):=⟨_,rfl⟩
 have ah:m<=k/\m<=n - k/\0<m:=by have:=ae oS;omega
 have ab:Nat.min k (n - k)=m:=X.symm;have aa:k*K+m*K<=n*K:=by rw[<-JZ];exact JQ _ oS
 refine⟨wa.setRow g (A8g b.toList (k*K) (CJ m xs).flatten).toArray,λty dc sc=>?_,?_⟩
 ·have:=A8a (P:=P) (w:=wa) (k:=K) (g:=g) (o:=k*K) (dLen:=n - k) (dCap:=dc) (sLen:=k) (sCap:=sc) (a:=⟨g,0,I⟩) (ty:=ty) ak aj W (cs:=(CJ m xs).flatten)
   (by rw[A3w D,ab]) (λj v G=>C0n W 0 j v (by
    rw[List.drop_zero];have:((CJ k xs).flatten)[j]?=B v:=by
     rw[<-E2l D ah.1,IL]at G;split at G;·exact G
     cases G
    rw[<-ac,IL]at this;split at this;·exact this
    cases this)) (by rw[A3w D,H];exact aa) (λv al=>ad v (C5n al))
  rw[ab]at this
  rw[<-X]
  exact this
 rw[<-X];have af:k*K+(CJ m xs).flatten.length<=b.toList.length:=by rw[A3w D];simpa[H]using aa
 refine⟨_,OB wa g b _ _ _ W,by simpa[H]using A8b af,?_,oS,λ_=>oS,IY O ⟨u.os,u.tape,u.output,?_,λY an=>?_⟩,ag⟩;·rw[List.toList_toArray,B9k,<-ac];unfold A8g;rw[JZ,List.append_assoc,List.take_append,CZ oR];congr 1;rw[show k*K+m*K - (b.toList.take (k*K)).length=m*K by rw[List.length_take];have am:b.toList.length=n*K:=(by simpa using H);omega];rw[JV (by rw[A3w D];exact BH _),CZ (by rw[A3w D];exact BH _)]
 ·have:=u.size;have:=O.size;simp[J.setRow];omega
 rw[setRow_other wa g Y _ oS];exact u.block Y (by have:=O.size;omega)
theorem RepSt.start {w h:J} {g n K X:Nat} {u:BS} {xs cells:List AJ} (ab:xs.length=K) (ae:∀ v∈xs,v.oneCell'=true) (aj:h.ownsRow w.1.size u K (S (B ⟨g,0,I⟩) n n) n cells) (af:Bw w h) (W:h.1[X]?=B (AK xs.toArray u)) {P:Program} {T:BS} (al:P.underlying T=B (.slice u)) (ak:(P.info? u).map (·.size)=B K) :
  ∃ w',(∀ ty,(Builtin.copy_ #[T,T] ty #[S (B ⟨g,0,I⟩) n n,S (B ⟨X,0,I⟩) 1 1]).run P h=.ok (N QO (min 1 n:Nat)) w')/\RepSt w w' g n K u xs (min 1 n):=by
 obtain⟨b,ag,Y,G⟩:∃ b,w.1.size<=g/\h.1[g]?=B (AK b u (0,0))/\b.size=n*K:=by
  rcases aj.2 with⟨ad,_⟩|⟨g',ao,b,am,k1,k2,au,aw,an,k6⟩;·cases ad
  cases am;exact⟨b,k1,k2,an⟩
 obtain⟨m,O⟩:∃ m,m=min 1 n:=⟨_,rfl⟩
 have Z:Nat.min 1 n=m:=O.symm;have aa:m<=n:=oS;have ar:m*K<=n*K:=JQ _ aa;have H:(CJ m xs).flatten.length=m*K:=A3w ab m;refine⟨h.setRow g (A8g b.toList 0 (CJ m xs).flatten).toArray,λty=>?_,?_⟩
 ·have:=A8a (P:=P) (w:=h) (k:=K) (g:=g) (o:=0) (dLen:=n) (dCap:=n) (sLen:=1) (sCap:=1) (a:=⟨X,0,I⟩) (ty:=ty) al ak Y (cs:=(CJ m xs).flatten)
   (by rw[A3w ab,Z]) (λj v D=>by
    have ai:m=0\/m=1:=oS;rcases ai with E|E
    ·rw[E]at D;simp at D
    rw[E]at D;simp at D;exact A0a W j v (by simpa using D)) (by rw[H,G];omega) (λv W=>ae v (C5n W))
  rw[Z]at this
  rw[<-O]
  exact this
 rw[<-O];have ah:0+(CJ m xs).flatten.length<=b.toList.length:=by
  have ap:b.toList.length=n*K:=by simpa using G
  omega
 refine⟨_,OB h g b _ _ _ Y,by simpa[G]using A8b ah,?_,aa,λ_=>oS,IY af ⟨rfl,rfl,rfl,by simp[J.setRow],λac aq=>setRow_other h g ac _ oS⟩,ag⟩;rw[List.toList_toArray];unfold A8g;rw[List.take_zero,List.nil_append,JV (by rw[H];exact BH _),CZ (by rw[H];exact BH _)]
theorem RepSt.done {w wr:J} {g n K:Nat} {b:BS} {xs:List AJ} (W:xs.length=K) (H:n<=BG) (h:RepSt w wr g n K b xs n):wr.ownsRow w.1.size b K (S (B ⟨g,0,I⟩) n n) n (CJ n xs).flatten/\Bw w wr:=by
 obtain⟨u,E,O,T,_,_,D,G⟩:=h;exact⟨⟨A3w W n,.inr ⟨g,n,u,rfl,G,E,BH _,H,O,T⟩⟩,D⟩
theorem E7t:(prog.info? 3).map (λi=>(i.zero,i.size,i.bytes))=B (B (N QO 0),1,8):=kR
theorem E1q (D n:Nat) (xs:List AJ) (w:J) (W:w.1[D]?=B (AK xs.toArray 3)) (X:xs.length=1) (af:∀ v∈xs,v.oneCell'=true) (aA:n<=40) :
  AR prog 288 #[S (B ⟨D,0,I⟩) 1 1,N QO n] w λe w'=>e=.returned (S (B ⟨w.1.size,0,I⟩) n n)/\w'.ownsRow w.1.size 3 1 (S (B ⟨w.1.size,0,I⟩) n n) n (CJ n xs).flatten/\Bw w w':=by
 obtain⟨an,ah,aC,am,aD⟩:=DW E7t;have aj:(prog.info? 3).map (·.size)=B 1:=by rw[ah];simp[am]
 have b2:=A_ (by rw[aD];omega:an.bytes*n<=281474976710656);have ac:=A_ (by unfold BG;omega:n<=BG);have aM:¬ ((n:Int)<0):=oS;have aP:JR.wrap (n:Int)=n:=by rw[IntKind.wrap_u64];omega
 have aN:QO.wrap (n:Int)=n:=by rw[MT];omega
 have aF:¬ ((9223372036854775807:Int)<n):=oS;have al:=E_ W;have ab:=A_ W;have Z:=A_ af;clear W af;go_enter func288,ntmps288;go_upto_region 4 with(go_at_call 186;refine(B9f n aA w).mono ?_;rintro e w' ⟨rfl,aB⟩;obtain rfl:=aB.symm)
 go_upto_region 7 with(at_make;(refine LG _ rfl _ _ 31 rfl w.1.size 3 an (N QO 0) 1 underlying31 ah aC am .i64 .i64 _ _ n rfl rfl rfl rfl b2 ac (BH _) ?_);intro aE ai ag)
 have E:=(CG w.1.size w).grown ag (BH _) (by intro k u;cases u);have ak:aE.1[D]?=B (AK xs.toArray 3):=by rw[E.block D al];exact ab
 obtain⟨aQ,h,O⟩:=RepSt.start X Z ai E ak underlying31 aj;obtain⟨Y,H⟩:∃ Y,Y=min 1 n:=⟨_,rfl⟩
 rw[<-H]at O h;have ar:=A_ H;clear H;have aa:=A_ O;clear ai ag E ak O ab al;go_wp2_with fail;go_loopg [8] n (λg s wr=>∃ k:Nat,n<=k+g/\s=N QO k/\Hid (RepSt w wr w.1.size n 1 3 xs k));case atStart=>exact⟨Y,by have:=ar.o;omega,rfl,aa.o⟩
 case round =>
  clear aa h;obtain⟨k,u,rfl,b⟩:=hrel;obtain⟨_,_,_,_,aK,_⟩:=b.o;rcases BN k n with ay|aG
  ·have aJ:(k:Int)<n:=oS
   obtain⟨g,rfl⟩:∃ g,gk=g+1:=⟨gk - 1,oS⟩
   have ax:=A_ u;clear u;go_wp2_with fail;obtain⟨m,G⟩:∃ m,m=min k (n - k):=⟨_,rfl⟩
   have az:=A_ (show 0<k from(by obtain⟨_,_,_,_,_,aw,_⟩:=b.o;exact aw oS));obtain⟨aR,h,T⟩:=b.o.step X Z.o (LK (CG wr.1.size wr)) underlying31 aj ay (k) oS;rw[<-G]at h T;have aq:=A_ G;have au:=A_ T;have aO:QO.wrap ((k:Int)+m)=((k+m:Nat):Int):=by rw[MT];omega
   have aI:(0:Int)<=k:=oS;have aL:(k:Int)<=n:=oS;clear T b G;go_region_held3 (λw'=>True) (trivial) (fail);all_goals go_wp2_with fail
   go_roundg g;case measure=>omega
   case rel=>exact⟨k+m,by have:=ax.o;have:=az.o;have:=aq.o;omega,gN,au⟩
  obtain rfl:k=n:=oS;have aH:¬ ((k:Int)<k):=oS;obtain⟨ad,ae⟩:=b.done X ac;have ao:=A_ ad;have ap:=A_ ae;clear ad ae b;go_wp2;go_ret;exact⟨rfl,ao,ap⟩
theorem E8e:(prog.info? 35).map (λi=>(i.zero,i.size,i.bytes))=B (B (.agg #[AC AF,S I 0 0,S I 0 0]),3,56):=kR
theorem C1n (D n:Nat) (xs:List AJ) (w:J) (W:w.1[D]?=B (AK xs.toArray 35)) (X:xs.length=3) (af:∀ v∈xs,v.oneCell'=true) (aA:n<=40) :
  AR prog 126 #[S (B ⟨D,0,I⟩) 1 1,N QO n] w λe w'=>e=.returned (S (B ⟨w.1.size,0,I⟩) n n)/\w'.ownsRow w.1.size 35 3 (S (B ⟨w.1.size,0,I⟩) n n) n (CJ n xs).flatten/\Bw w w':=by
 obtain⟨an,ah,aC,am,aD⟩:=DW E8e;have aj:(prog.info? 35).map (·.size)=B 3:=by rw[ah];simp[am]
 have b2:=A_ (by rw[aD];omega:an.bytes*n<=281474976710656);have ac:=A_ (by unfold BG;omega:n<=BG);have aM:¬ ((n:Int)<0):=oS;have aP:JR.wrap (n:Int)=n:=by rw[IntKind.wrap_u64];omega
 have aN:QO.wrap (n:Int)=n:=by rw[MT];omega
 have aF:¬ ((9223372036854775807:Int)<n):=oS;have al:=E_ W;have ab:=A_ W;have Z:=A_ af;clear W af;go_enter func126,ntmps126;go_upto_region 4 with(go_at_call 186;refine(B9f n aA w).mono ?_;rintro e w' ⟨rfl,aB⟩;obtain rfl:=aB.symm)
 go_upto_region 7 with(at_make;(refine LG _ rfl _ _ 27 rfl w.1.size 35 an (.agg #[AC AF,S I 0 0,S I 0 0]) 3 underlying27 ah aC am .i64 .i64 _ _ n rfl rfl rfl rfl b2 ac (BH _) ?_);intro aE ai ag)
 have E:=(CG w.1.size w).grown ag (BH _) (by intro k u;cases u);have ak:aE.1[D]?=B (AK xs.toArray 35):=by rw[E.block D al];exact ab
 obtain⟨aQ,h,O⟩:=RepSt.start X Z ai E ak underlying27 aj;obtain⟨Y,H⟩:∃ Y,Y=min 1 n:=⟨_,rfl⟩
 rw[<-H]at O h;have ar:=A_ H;clear H;have aa:=A_ O;clear ai ag E ak O ab al;go_wp2_with fail;go_loopg [8] n (λg s wr=>∃ k:Nat,n<=k+g/\s=N QO k/\Hid (RepSt w wr w.1.size n 3 35 xs k));case atStart=>exact⟨Y,by have:=ar.o;omega,rfl,aa.o⟩
 case round =>
  clear aa h;obtain⟨k,u,rfl,b⟩:=hrel;obtain⟨_,_,_,_,aK,_⟩:=b.o;rcases BN k n with ay|aG
  ·have aJ:(k:Int)<n:=oS
   obtain⟨g,rfl⟩:∃ g,gk=g+1:=⟨gk - 1,oS⟩
   have ax:=A_ u;clear u;go_wp2_with fail;obtain⟨m,G⟩:∃ m,m=min k (n - k):=⟨_,rfl⟩
   have az:=A_ (show 0<k from(by obtain⟨_,_,_,_,_,aw,_⟩:=b.o;exact aw oS));obtain⟨aR,h,T⟩:=b.o.step X Z.o (LK (CG wr.1.size wr)) underlying27 aj ay (k*3) oS;rw[<-G]at h T;have aq:=A_ G;have au:=A_ T;have aO:QO.wrap ((k:Int)+m)=((k+m:Nat):Int):=by rw[MT];omega
   have aI:(0:Int)<=k:=oS;have aL:(k:Int)<=n:=oS;clear T b G;go_region_held3 (λw'=>True) (trivial) (fail);all_goals go_wp2_with fail
   go_roundg g;case measure=>omega
   case rel=>exact⟨k+m,by have:=ax.o;have:=az.o;have:=aq.o;omega,gN,au⟩
  obtain rfl:k=n:=oS;have aH:¬ ((k:Int)<k):=oS;obtain⟨ad,ae⟩:=b.done X ac;have ao:=A_ ad;have ap:=A_ ae;clear ad ae b;go_wp2;go_ret;exact⟨rfl,ao,ap⟩
def A6y (n:Nat) (ps:List Int):Nat->List Int
 |0=>CJ n (-1)
 |k+1=>(A6y n ps k).set (ps.getD k 0).toNat k
theorem B8c (n:Nat) (ps:List Int):∀ k,(A6y n ps k).length=n
 |0=>by simp[A6y]
 |k+1=>by rw[A6y];simp[B8c n ps k]
theorem C0v (n:Nat) (ps:List Int):∀ k,∀ x∈A6y n ps k,-1<=x/\x<k
 |0,x,h=>by have:=OM (show x∈CJ n (-1)from h);omega
 |k+1,x,h=>by
  rw[A6y]at h
  rcases List.mem_or_eq_of_mem_set h with h|rfl
  ·have:=C0v n ps k x h;omega
  omega
def B1i (m:TMesh):List Int:=A6y m.1.length (A3f m AF) (A3f m AF).length
theorem B8o (fs:List Bool) (bd:Bool):∀ k,∀ x∈A3k fs bd k,0<=x/\x<k
 |0,x,h=>by simp[A3k]at h
 |k+1,x,h=>by
  rw[A3k]at h
  split at h
  ·rcases CO.1 h with h|h
   ·have:=B8o fs bd k x h;omega
   simp at h;omega
  have:=B8o fs bd k x h;omega
theorem D8p {m:TMesh} {bd:Bool}:∀ x∈A3f m bd,0<=x/\x<m.1.length:=λx h=>B8o _ _ _ x h
theorem B3t (m:TMesh) (bd:Bool):(A3f m bd).length<=m.1.length:=B7x _ _ _
def E1p (w:J) (rs:List Int) (k:Nat) (e:Ending) (w':J):Prop :=
 ∃ g n bs,e=.returned (.tuple #[S (B ⟨g,0,I⟩) n n,N QO k])/\Sl w' (B ⟨g,0,I⟩) n n rs bs/\Own w w' bs/\Bw w w'
theorem E0s (n:Nat) (x:Int):(CJ n [N QO x]).flatten=(CJ n x).map (N QO):=by
 induction n with
 |zero=>rfl
 |succ n ih=>rw[MC,OH,ih,MC];rfl
theorem B5v (v:AJ) (m:TMesh) (b:List Nat) (w:J) (O:Agg w v m b) (ab:m.1.length<=40) (aq:m.triangles.length<=48) (ar:B8e m) :
  AR prog 235 #[v] w (E1p w (B1i m) (A3f m AF).length):=by
 have aH:=A_ O;have aB:=A_ aq;have aA:=A_ ab;have aF:=A_ ar;obtain⟨ah,h,an,bg,ai,n1,ao,bh,rfl,rfl,ae,X⟩:=TMesh.agg O;have Z:=A_ ae.1;have aY:h<=40:=by rw[<-ae.1];exact ab
 obtain⟨ps,E⟩:∃ ps,A3f m AF=ps:=⟨_,rfl⟩
 have aL:=A_ (by unfold B1i;rw[Z.o,E]:B1i m=A6y h ps ps.length);have aK:=A_ (by rw[<-E,<-Z.o];exact D8p:∀ x∈ps,0<=x/\x<h);have ba:ps.length<=h:=by rw[<-E,<-Z.o];exact B3t m AF
 have aG:=A_ E;rw[E];clear ae X O ab aq ar E;go_enter func235,ntmps235;go_wp2_with fail;refine(E1q (w.1.size+1) h [N QO (-1)] _ (by have:=CF (w.alloc (AK #[S ah h an,S ai n1 ao] 26)) (AK #[N QO (-1)] 3);rwa [World.size_alloc]at this) rfl (by simp[Value.oneCell']) aY).mono ?_;rintro _ ag ⟨rfl,ad,T⟩;obtain⟨aU,aV⟩:=F_ T;have be:w.1.size<ag.1.size:=ltg T;rw[E0s,show((w.alloc (AK #[S ah h an,S ai n1 ao] 26)).alloc (AK #[N QO (-1)] 3)).1.size=w.1.size+1+1 by simp]at ad;have ak:=A_ (show Bw w ag from Below.go);have aa:=A_ (show IRow ag (w.1.size+1+1) (w.1.size+1+1) h (A6y h ps 0)from ad);clear ad;go_wp2_with fail;refine(B6y _ m _ AF _ (aH.below ak) aA aB aF).mono ?_;rw[aG.o];rintro _ bl ⟨ay,u,aR,ap,rfl,Y,aw,ac⟩;have aZ:=T.size;simp at aZ;have D:=A_ Y;have a8:u<=40:=by rw[<-Y.1];omega
 have a9:(u:Int)<=40:=oS;have al:=A_ Y.1;have a5:=aa.lt;have aE:=A_ (show w.1.size+1+1∉ap from λaS=>by have:=(aw.2 _ aS).1;omega);have aC:=A_ (AI ak ac);have am:=A_ (aa.below ac);clear Y aw ac T aU aV aa;go_wp2_with fail;go_loopg [17] u (λg s wr=>∃ k:Nat,k+g=u/\s=N QO k/\Hid (IRow wr (w.1.size+1+1) (w.1.size+1+1) h (A6y h ps k))/\Hid (Sl wr ay u aR ps ap)/\Bw w wr);case atStart=>exact⟨0,oS,rfl,am.o,D.o,aC.o⟩
 case round =>
  clear am D;obtain⟨k,au,rfl,H,D,G⟩:=hrel;have aj:=A_ G;rcases BN k u with W|W
  ·have a6:(k:Int)<u:=oS
   have a7:(0:Int)<=k:=oS;obtain⟨g,rfl⟩:∃ g,gk=g+1:=⟨gk - 1,oS⟩
   have aX:=A_ (by omega:k+1+g=u);obtain⟨a1,bf,x,rfl,a3,af,aW,a2⟩:=Sl.getInt D W;obtain⟨bc,bd⟩:=aK x (CH af);have az:=A_ (show ps.getD k 0=x from A0e af);have aJ:=A_ (by rw[A6y,az.o]:A6y h ps (k+1)=(A6y h ps k).set x.toNat k);obtain⟨bi,bj⟩:=H.cell (j:=x.toNat) (f:=(A6y h ps k).getD x.toNat 0) (by rw[List.getD_eq_getElem?_getD,List.getElem?_eq_getElem (by rw[B8c];omega)];rfl);have aI:=A_ (by rw[aJ.o];exact H.set _ _:IRow (wr.setCell ⟨w.1.size+1+1,x.toNat,I⟩ (N QO k)) (w.1.size+1+1) (w.1.size+1+1) h (A6y h ps (k+1)));have aP:=A_ (D.keep (w':=wr.setCell ⟨w.1.size+1+1,x.toNat,I⟩ (N QO k)) (λb G=>by have aT:b≠w.1.size+1+1:=λe=>aE.o (e ▸ G);exact Below.heap_setCell _ _ _ b (by simpa using aT)));have aD:=A_ (show Bw w (wr.setCell ⟨w.1.size+1+1,x.toNat,I⟩ (N QO k))from aj.o.setCell (p:=⟨w.1.size+1+1,x.toNat,I⟩) oR _);clear au W af G H D aW;go_wp2_with fail;go_roundg g;case measure=>omega
   case rel=>exact⟨k+1,aX,gN,aI,aP,aD⟩
  obtain rfl:k=u:=oS;have a4:¬ ((k:Int)<k):=oS;have aM:=A_ (by rw[aL.o,al.o]:A6y h ps k=B1i m);obtain⟨aQ,X,ax⟩:=H.sl (λx O=>by have:=C0v h ps k x O;constructor<;>omega);have aN:=A_ X;have aO:=A_ (ax w oS);clear au W D H G X ax;go_wp2;refine bodyPost_ret (v:=.tuple #[S (B ⟨w.1.size+1+1,0,I⟩) h h,N QO k]) (by simp[results,results235,go_sem, *]) rfl ?_;refine⟨_,h,aQ,by rw[al.o],?_,aO.o,aj.o⟩;rw[<-aM.o];exact aN
def E3s (w:J) (M:List (List TRat)) (n:Nat) (e:Ending) (w':J):Prop:=∃ o cap gs,e=.returned (S (B ⟨o,0,I⟩) n cap)/\MSt w w' o n cap n gs M
theorem C0s {w:J} {n:Nat} {x:TRat} {cs:List AJ} {bs:List Nat} (h:Dat.at_ w cs x bs):Filled w (CJ n cs).flatten (CJ n x) (CJ n bs):=by
 have b:=Dat.len h;refine⟨sI,by rw[A3w b];simp,λk y D u E=>?_⟩;have G:k<n:=by have:=(List.getElem?_eq_some_iff.1 u).1;simpa using this
 obtain rfl:y=x:=OM (CH u);obtain rfl:D=bs:=OM (CH E);have e:((CJ n cs).flatten.drop (k*Dat.sz TRat)).take (Dat.sz TRat)=cs:=by
  obtain⟨d,rfl⟩:∃ d,n=k+(1+d):=⟨n - k - 1,oS⟩
  rw[B9k,List.drop_append_of_le_length (by rw[A3w b];exact BH _),List.drop_of_length_le (by rw[A3w b];exact BH _),List.nil_append,B9k,JV (by rw[A3w b];omega)];simp only[List.replicate_one,OH,List.flatten_nil,List.append_nil];exact CZ oS
 rw[e];exact h
theorem B0m {bs:List Nat} {b:Nat}:∀ {n},b∈(CJ n bs).flatten->b∈bs
 |0,h=>by simp at h
 |n+1,h=>by
  rw[MC,OH]at h
  rcases CO.1 h with h|h
  ·exact h
  exact B0m h
theorem E2x:(prog.info? 27).map (λi=>(i.zero,i.size,i.bytes))=B (B (S I 0 0),1,24):=kR
theorem D6v (n:Nat) (w:J) (az:n<=40):AR prog 285 #[N QO n] w (E3s w (CJ n (CJ n (U_ 0))) n):=by
 obtain⟨aD,aw,aA,aB,aC⟩:=DW E2x;go_enter func285,ntmps285;go_wp2_with fail;have aa:=A_ (MSt.start (n:=n) (CG w.1.size w));go_loopg [3,6] n (λg s3 s wr=>∃ (i o cap:Nat) (gs:List (Nat×Nat)),i+g=n/\s=N QO i/\s3=S (B ⟨o,0,I⟩) i cap/\Hid (MSt w wr o i cap n gs (CJ i (CJ n (U_ 0)))));case atStart=>exact⟨0,w.1.size,0,[],oS,rfl,rfl,aa.o⟩
 case round =>
  clear aa;obtain⟨i,o,cap,gs,ag,rfl,rfl,u⟩:=hrel;rcases BN i n with O|O
  ·have ay:(i:Int)<n:=oS
   obtain⟨g,rfl⟩:∃ g,gk=g+1:=⟨gk - 1,oS⟩
   have ax:=A_ (by omega:i+1+g=n);have am:=A_ (by unfold BG;omega:i+1<=BG);have an:=A_ (by omega:(i+1)*24<=140737488355328);clear ag O;go_wp2_with fail;refine(A0l 0 wr oO).mono ?_;rintro _ wa ⟨aL,aE,rfl,E,ah,ae⟩;obtain⟨W,ak,ab,aH,X,al,ac,aI,rfl,aG,_,_⟩:=TRat.agg E;have D:=A_ (A3x (E.below (AV (AK #[AC (U_ 0).1.1,S W ak ab,S X al ac] 35))));have ao:=A_ (show ∀ b∈aE,wr.1.size<=b/\b<wa.1.size from λb h=>⟨(ah.2 b h).1,E.lt b h⟩);have Y:=A_ ae;clear E ah aG ae;go_wp2_with fail;refine(C1n wa.1.size n [AC (U_ 0).1.1,S W ak ab,S X al ac] _ (CF wa _) rfl (Dat.one D) az).mono ?_;rintro _ wb ⟨rfl,T,H⟩;rw[World.size_alloc]at T
   have Z:=A_ (show RR (λb=>b<wr.1.size\/b=wa.1.size+1) wb (wa.1.size+1) n n (CJ n (U_ 0))from
    ⟨_,_,B0o T,C0s (Dat.keep D.o (λb h=>H.block b (Dat.lt D.o b h))),sI,λb h au=>by have aJ:=ao b (B0m h);rcases au with ar|ar<;>omega,.inr rfl⟩)
   have G:=A_ (AI (AI Y (AV _)) H);have aK:=u.bl.size;have ap:=A_ (by have:=G.size;simp;omega:w.1.size<=(wb.alloc (AK #[S (B ⟨wa.1.size+1,0,I⟩) n n] 27)).1.size);clear T H D;go_wp2_with (at_builtin;refine A1m rfl _ _ 271 rfl w.1.size 27 aD (S I 0 0) 1 24 underlying271 aw aA aB aC rfl dE o i cap (gs.map λg=>.slice (B ⟨g.1,0,I⟩) n g.2) gD (I_ u.ou (AI G (AV _))) ⟨wb.1.size,0,I⟩ 1 1 [S (B ⟨wa.1.size+1,0,I⟩) n n] gD rfl (A0a (CF wb _)) (by simp[Value.oneCell']) am.o an.o ap.o ?_;intro g' ad aF aj af ai);have aq:=A_ (show MSt w aF g' (i+1) ad n (gs++[(wa.1.size+1,n)]) (CJ (i+1) (CJ n (U_ 0))) by rw[List.replicate_succ'];exact u.push (AI G (AV _)) ((Z).below (AV _)) (by have:=Y.size;omega) aj af ai);clear aj af ai u Z;go_wp2_with fail;go_roundg g;case measure=>omega
   case rel=>exact⟨i+1,g',ad,_,ax,gN,rfl,aq⟩
  obtain rfl:i=n:=oS;have ay:¬ ((i:Int)<i):=oS;clear ag O;go_wp2;go_ret;exact⟨o,cap,gs,rfl,u⟩
end Go.Proofs.YtbkilakncnlebaaGreatDoor.X

namespace Go.XB
open Go.RowKit
theorem Sl.elemS {α:Type} [Dat α] {w:J} {A:Option Addr} {n c:Nat} {xs:List (List α)} {bs:List Nat} (h:Sl w A n c xs bs) {k:Nat} (O:k<n) :
  ∃ (b off:Nat) (r:List α) (A1:Option Addr) (n1 c1:Nat) (fs:List Nat),A=B ⟨b,off,I⟩/\b<w.1.size/\xs[k]?=B r/\w.cell? ⟨b,off+k,I⟩=B (S A1 n1 c1)/\Sl w A1 n1 c1 r fs/\∀ g∈fs,g∈bs:=by
 obtain⟨b,off,x,X,fs,u,E,W,G,D,H⟩:=Sl.getAt h O;obtain⟨A1,n1,c1,rfl,T⟩:=D;have:=G 0 _ rfl;exact⟨b,off,x,A1,n1,c1,fs,u,E,W,by simpa[Dat.sz]using this,T,H⟩
end Go.XB
namespace Go.Proofs.YtbkilakncnlebaaGreatDoor.X
open Go.RowKit Go.XB Go.XN Proofs.Tryz
attribute [local go_sem] L_ Go.XB.opAt N_ M_ Region.wanted yielded
attribute [local simp] N_ M_ MP.eq MP.agg MP.sl MP.slbox A0r
theorem C8x (A:Option Addr) (n c:Nat) (M:List (List TRat)) (bs:List Nat) (w:J) (h:Sl w A n c M bs) (G:∀ r∈M,0<r.length) (H:∀ r∈M,r.any A2e=AF) :
  AR prog 287 #[S A n c] w (A0b w (S A n c)):=by
 have ac:=A_ h;have X:=A_ G;have Z:=A_ H;have ai:n<=BG:=Nat.le_trans h.2.1 h.2.2.1;unfold BG at ai;clear h G H;go_enter func287,ntmps287;go_wp2_with fail;go_loopg [7] n (λg s wr=>∃ i:Nat,i+g=n/\s=N QO i/\Hid (Bw w wr));case atStart=>exact⟨0,oS,rfl,CG _ _⟩
 case round =>
  obtain⟨i,O,rfl,u⟩:=hrel;rcases BN i n with b|b
  ·have ah:(i:Int)<n:=oS
   obtain⟨g,rfl⟩:∃ g,gk=g+1:=⟨gk - 1,oS⟩
   have ag:=A_ (by omega:i+1+g=n);obtain⟨aj,ao,r,W,n1,ad,ae,rfl,ak,D,al,E,_⟩:=Sl.elemS (ac.below u) b;have T:=X r (CH D);have am:0<n1:=by rw[<-E.1];exact T
   have an:((n1:Int)==0)=AF:=oR;have Y:=A_ (Z r (CH D));have ab:=A_ E;clear O b D E T;go_wp2_with fail;refine(A5p W n1 ad r ae _ ab Y).mono ?_;rintro _ ap ⟨rfl,af⟩;have aa:=A_ (AI u af);go_wp2_with fail;go_roundg g;case measure=>omega
   case rel=>exact⟨i+1,ag,gN,aa⟩
  obtain rfl:i=n:=oS;have ah:¬ ((i:Int)<i):=oS;clear O b;go_wp2;go_ret;exact⟨rfl,u⟩
def E9d (a b c:TPoint) (i j:Nat):TRat:=A3u (A6c a b c) (U_ (if i=j then 6 else 12))
def D0o (a b c:TPoint) (i:Nat):Nat->List TRat
 |0=>[]
 |j+1=>D0o a b c i j++[E9d a b c i j]
def E2y (a b c:TPoint):Nat->List (List TRat)
 |0=>[]
 |i+1=>E2y a b c i++[D0o a b c i 3]
def E9s (a b c:TPoint):List (List TRat):=E2y a b c 3
end Go.Proofs.YtbkilakncnlebaaGreatDoor.X
