/- A part of the proof. -/
import Derived.Test.YtbhemnidcleaiaaGreatY24
import Derived.Test.YtbhemnidcleaiaaGreatY12
import Derived.Deep.RegionHeld3
set_option linter.constructorNameAsVariable false
set_option maxHeartbeats 16000000
set_option maxRecDepth 10000
namespace Go.Proofs.YtbhemnidcleaiaaGreat.X
open Go.RowKit Go.XB Go.XN Proofs.Tryz
attribute [local go_sem] L_ opAt N_ M_ Region.wanted yielded
attribute [local simp] N_ M_ MP.eq MP.agg MP.sl MP.slbox A0r
theorem A3w {xs:List Value} {K:Nat} (hx:xs.length=K):∀ n,(List.replicate n xs).flatten.length=n*K
 |0=>sI
 |n+1=>by rw[List.replicate_succ,List.flatten_cons,List.length_append,A3w hx n,hx,Nat.add_mul];omega
theorem C5n {xs:List Value} {v:Value}:∀ {n},v∈(List.replicate n xs).flatten->v∈xs
 |0,h=>by simp at h
 |n+1,h=>by
  rw[List.replicate_succ,List.flatten_cons]at h
  rcases List.mem_append.1 h with h|h
  ·exact h
  exact C5n h
theorem B9k (xs:List Value) (a b:Nat):(List.replicate (a+b) xs).flatten=(List.replicate a xs).flatten++(List.replicate b xs).flatten:=by
 rw[<-List.replicate_append_replicate,List.flatten_append]
theorem E2l {xs:List Value} {u:Nat} (D:xs.length=u) {a b:Nat} (h:a<=b):((List.replicate b xs).flatten).take (a*u)=(List.replicate a xs).flatten:=by
 obtain⟨d,rfl⟩:=Nat.exists_eq_add_of_le h;rw[B9k,List.take_append_of_le_length (by rw[A3w D];exact Nat.le_refl _),List.take_of_length_le (by rw[A3w D];exact Nat.le_refl _)]
def RepSt (w wr:World) (g n K:Nat) (E:TypeId) (xs:List Value) (k:Nat):Prop :=
 ∃ cur:Array Value,wr.1[g]?=some (.cells cur E (0,0))/\cur.size=n*K/\cur.toList.take (k*K)=(List.replicate k xs).flatten/\k<=n/\(0<n->0<k)/\Bw w wr/\w.1.size<=g
theorem RepSt.step {w wr wa:World} {g n b:Nat} {G:TypeId} {xs:List Value} {k:Nat} (E:xs.length=b) (aa:∀ v∈xs,v.oneCell'=true) (h:RepSt w wr g n b G xs k) (D:Bw wr wa) {P:Program} {T:TypeId} (ah:P.underlying T=some (.slice G)) (ag:(P.info? G).map (·.size)=some b) (al:k<n) (o:Nat) (af:o=k*b) :
  ∃ w',(∀ ty dc sc,(Builtin.copy_ #[T,T] ty #[.slice (some ⟨g,o,none⟩) (n - k) dc,.slice (some ⟨g,0,none⟩) k sc]).run P wa=.ok (.int .i64 (min k (n - k):Nat)) w')/\RepSt w w' g n b G xs (k+min k (n - k)):=by
 subst af;obtain⟨u,W,I,Z,am,ab,J,ad⟩:=h;have K:wa.1[g]?=some (.cells u G (0,0)):=by rw[D.block g (E_ W)];exact W
 obtain⟨m,O⟩:∃ m,m=min k (n - k):=⟨_,rfl⟩
 have ae:m<=k/\m<=n - k/\0<m:=by have:=ab oM;omega
 have Y:Nat.min k (n - k)=m:=O.symm;have X:k*b+m*b<=n*b:=by rw[<-Nat.add_mul];exact Nat.mul_le_mul_right _ oM
 refine⟨wa.setRow g (A8g u.toList (k*b) (List.replicate m xs).flatten).toArray,λty dc sc=>?_,?_⟩
 ·have:=A8a (P:=P) (w:=wa) (k:=b) (g:=g) (o:=k*b) (dLen:=n - k) (dCap:=dc) (sLen:=k) (sCap:=sc) (a:=⟨g,0,none⟩) (ty:=ty) ah ag K (cs:=(List.replicate m xs).flatten)
   (by rw[A3w E,Y]) (λj v H=>C0n K 0 j v (by
    rw[List.drop_zero];have:((List.replicate k xs).flatten)[j]?=some v:=by
     rw[<-E2l E ae.1,List.getElem?_take]at H;split at H;·exact H
     cases H
    rw[<-Z,List.getElem?_take]at this;split at this;·exact this
    cases this)) (by rw[A3w E,I];exact X) (λv ai=>aa v (C5n ai))
  rw[Y]at this
  rw[<-O]
  exact this
 rw[<-O];have ac:k*b+(List.replicate m xs).flatten.length<=u.toList.length:=by rw[A3w E];simpa[I]using X
 refine⟨_,setRow_heap wa g u _ _ _ K,by simpa[I]using A8b ac,?_,oM,λ_=>oM,Below.trans J ⟨D.os,D.tape,D.output,?_,λS ak=>?_⟩,ad⟩;·rw[List.toList_toArray,B9k,<-Z];unfold A8g;rw[Nat.add_mul,List.append_assoc,List.take_append,List.take_of_length_le sO];congr 1;rw[show k*b+m*b - (u.toList.take (k*b)).length=m*b by rw[List.length_take];have aj:u.toList.length=n*b:=(by simpa using I);omega];rw[List.take_append_of_le_length (by rw[A3w E];exact Nat.le_refl _),List.take_of_length_le (by rw[A3w E];exact Nat.le_refl _)]
 ·have:=D.size;have:=J.size;simp[World.setRow];omega
 rw[setRow_other wa g S _ oM];exact D.block S (by have:=J.size;omega)
theorem RepSt.start {w u:World} {g n b O:Nat} {D:TypeId} {xs cells:List Value} (Y:xs.length=b) (ab:∀ v∈xs,v.oneCell'=true) (ag:u.ownsRow w.1.size D b (.slice (some ⟨g,0,none⟩) n n) n cells) (ac:Bw w u) (K:u.1[O]?=some (.cells xs.toArray D)) {P:Program} {T:TypeId} (ai:P.underlying T=some (.slice D)) (ah:(P.info? D).map (·.size)=some b) :
  ∃ w',(∀ ty,(Builtin.copy_ #[T,T] ty #[.slice (some ⟨g,0,none⟩) n n,.slice (some ⟨O,0,none⟩) 1 1]).run P u=.ok (.int .i64 (min 1 n:Nat)) w')/\RepSt w w' g n b D xs (min 1 n):=by
 obtain⟨h,ad,S,H⟩:∃ h,w.1.size<=g/\u.1[g]?=some (.cells h D (0,0))/\h.size=n*b:=by
  rcases ag.2 with⟨aa,_⟩|⟨g',al,h,aj,k1,k2,ap,aq,ak,k6⟩;·cases aa
  cases aj;exact⟨h,k1,k2,ak⟩
 obtain⟨m,J⟩:∃ m,m=min 1 n:=⟨_,rfl⟩
 have W:Nat.min 1 n=m:=J.symm;have X:m<=n:=oM;have ao:m*b<=n*b:=Nat.mul_le_mul_right _ X;have I:(List.replicate m xs).flatten.length=m*b:=A3w Y m;refine⟨u.setRow g (A8g h.toList 0 (List.replicate m xs).flatten).toArray,λty=>?_,?_⟩
 ·have:=A8a (P:=P) (w:=u) (k:=b) (g:=g) (o:=0) (dLen:=n) (dCap:=n) (sLen:=1) (sCap:=1) (a:=⟨O,0,none⟩) (ty:=ty) ai ah S (cs:=(List.replicate m xs).flatten)
   (by rw[A3w Y,W]) (λj v E=>by
    have af:m=0\/m=1:=oM;rcases af with G|G
    ·rw[G]at E;simp at E
    rw[G]at E;simp at E;exact A0a K j v (by simpa using E)) (by rw[I,H];omega) (λv K=>ab v (C5n K))
  rw[W]at this
  rw[<-J]
  exact this
 rw[<-J];have ae:0+(List.replicate m xs).flatten.length<=h.toList.length:=by
  have am:h.toList.length=n*b:=by simpa using H
  omega
 refine⟨_,setRow_heap u g h _ _ _ S,by simpa[H]using A8b ae,?_,X,λ_=>oM,Below.trans ac ⟨rfl,rfl,rfl,by simp[World.setRow],λZ an=>setRow_other u g Z _ oM⟩,ad⟩;rw[List.toList_toArray];unfold A8g;rw[List.take_zero,List.nil_append,List.take_append_of_le_length (by rw[I];exact Nat.le_refl _),List.take_of_length_le (by rw[I];exact Nat.le_refl _)]
theorem RepSt.done {w wr:World} {g n b:Nat} {u:TypeId} {xs:List Value} (O:xs.length=b) (I:n<=maxLen) (h:RepSt w wr g n b u xs n):wr.ownsRow w.1.size u b (.slice (some ⟨g,0,none⟩) n n) n (List.replicate n xs).flatten/\Bw w wr:=by
 obtain⟨D,G,J,K,_,_,E,H⟩:=h;exact⟨⟨A3w O n,.inr ⟨g,n,D,rfl,H,G,Nat.le_refl _,I,J,K⟩⟩,E⟩
theorem E7t:(prog.info? 3).map (λi=>(i.zero,i.size,i.bytes))=some (some (.int .i64 0),1,8):=kR
theorem E1q (D n:Nat) (xs:List Value) (w:World) (K:w.1[D]?=some (.cells xs.toArray 3)) (O:xs.length=1) (ab:∀ v∈xs,v.oneCell'=true) (aw:n<=40) :
  Calls prog 296 #[.slice (some ⟨D,0,none⟩) 1 1,.int .i64 n] w λe w'=>e=.returned (.slice (some ⟨w.1.size,0,none⟩) n n)/\w'.ownsRow w.1.size 3 1 (.slice (some ⟨w.1.size,0,none⟩) n n) n (List.replicate n xs).flatten/\Bw w w':=by
 obtain⟨aj,ad,ay,ai,az⟩:=info_parts E7t;have af:(prog.info? 3).map (·.size)=some 1:=by rw[ad];simp[ai]
 have b2:=A_ (by rw[az];omega:aj.bytes*n<=281474976710656);have Y:=A_ (by unfold maxLen;omega:n<=maxLen);have aI:¬ ((n:Int)<0):=oM;have aL:IntKind.u64.wrap (n:Int)=n:=by rw[IntKind.wrap_u64];omega
 have aJ:IntKind.i64.wrap (n:Int)=n:=by rw[IntKind.wrap_i64];omega
 have aB:¬ ((9223372036854775807:Int)<n):=oM;have ah:=E_ K;have X:=A_ K;have T:=A_ ab;clear K ab;go_enter func296,ntmps296;go_upto_region 4 with(go_at_call 209;refine(B9f n aw w).mono ?_;rintro e w' ⟨rfl,ax⟩;obtain rfl:=ax.symm)
 go_upto_region 7 with(at_make;(refine wpList_make_full _ rfl _ _ 31 rfl w.1.size 3 aj (.int .i64 0) 1 underlying31 ad ay ai .i64 .i64 _ _ n rfl rfl rfl rfl b2 Y (Nat.le_refl _) ?_);intro aA ae ac)
 have E:=(Below.refl w.1.size w).grown ac (Nat.le_refl _) (by intro k u;cases u);have ag:aA.1[D]?=some (.cells xs.toArray 3):=by rw[E.block D ah];exact X
 obtain⟨aM,h,I⟩:=RepSt.start O T ae E ag underlying31 af;obtain⟨S,H⟩:∃ S,S=min 1 n:=⟨_,rfl⟩
 rw[<-H]at I h;have an:=A_ H;clear H;have W:=A_ I;clear ae ac E ag I X ah;go_wp2_with fail;go_loopg [8] n (λg s wr=>∃ k:Nat,n<=k+g/\s=.int .i64 k/\Hid (RepSt w wr w.1.size n 1 3 xs k));case atStart=>exact⟨S,by have:=an.o;omega,rfl,W.o⟩
 case round =>
  clear W h;obtain⟨k,u,rfl,b⟩:=hrel;obtain⟨_,_,_,_,aG,_⟩:=b.o;rcases Nat.lt_or_ge k n with ar|aC
  ·have aF:(k:Int)<n:=oM
   obtain⟨g,rfl⟩:∃ g,gk=g+1:=⟨gk - 1,oM⟩
   have aq:=A_ u;clear u;go_wp2_with fail;obtain⟨m,G⟩:∃ m,m=min k (n - k):=⟨_,rfl⟩
   have au:=A_ (show 0<k from(by obtain⟨_,_,_,_,_,ap,_⟩:=b.o;exact ap oM));obtain⟨aN,h,J⟩:=b.o.step O T.o (Below.drew (Below.refl wr.1.size wr)) underlying31 af ar (k) oM;rw[<-G]at h J;have am:=A_ G;have ao:=A_ J;have aK:IntKind.i64.wrap ((k:Int)+m)=((k+m:Nat):Int):=by rw[IntKind.wrap_i64];omega
   have aE:(0:Int)<=k:=oM;have aH:(k:Int)<=n:=oM;clear J b G;go_region_held3 (λw'=>True) (trivial) (fail);all_goals go_wp2_with fail
   go_roundg g;case measure=>omega
   case rel=>exact⟨k+m,by have:=aq.o;have:=au.o;have:=am.o;omega,gN,ao⟩
  obtain rfl:k=n:=oM;have aD:¬ ((k:Int)<k):=oM;obtain⟨Z,aa⟩:=b.done O Y;have ak:=A_ Z;have al:=A_ aa;clear Z aa b;go_wp2;go_ret;exact⟨rfl,ak,al⟩
theorem E8e:(prog.info? 35).map (λi=>(i.zero,i.size,i.bytes))=some (some (.agg #[.bool false,.slice none 0 0,.slice none 0 0]),3,56):=kR
theorem C1n (D n:Nat) (xs:List Value) (w:World) (K:w.1[D]?=some (.cells xs.toArray 35)) (O:xs.length=3) (ab:∀ v∈xs,v.oneCell'=true) (aw:n<=40) :
  Calls prog 156 #[.slice (some ⟨D,0,none⟩) 1 1,.int .i64 n] w λe w'=>e=.returned (.slice (some ⟨w.1.size,0,none⟩) n n)/\w'.ownsRow w.1.size 35 3 (.slice (some ⟨w.1.size,0,none⟩) n n) n (List.replicate n xs).flatten/\Bw w w':=by
 obtain⟨aj,ad,ay,ai,az⟩:=info_parts E8e;have af:(prog.info? 35).map (·.size)=some 3:=by rw[ad];simp[ai]
 have b2:=A_ (by rw[az];omega:aj.bytes*n<=281474976710656);have Y:=A_ (by unfold maxLen;omega:n<=maxLen);have aI:¬ ((n:Int)<0):=oM;have aL:IntKind.u64.wrap (n:Int)=n:=by rw[IntKind.wrap_u64];omega
 have aJ:IntKind.i64.wrap (n:Int)=n:=by rw[IntKind.wrap_i64];omega
 have aB:¬ ((9223372036854775807:Int)<n):=oM;have ah:=E_ K;have X:=A_ K;have T:=A_ ab;clear K ab;go_enter func156,ntmps156;go_upto_region 4 with(go_at_call 209;refine(B9f n aw w).mono ?_;rintro e w' ⟨rfl,ax⟩;obtain rfl:=ax.symm)
 go_upto_region 7 with(at_make;(refine wpList_make_full _ rfl _ _ 27 rfl w.1.size 35 aj (.agg #[.bool false,.slice none 0 0,.slice none 0 0]) 3 underlying27 ad ay ai .i64 .i64 _ _ n rfl rfl rfl rfl b2 Y (Nat.le_refl _) ?_);intro aA ae ac)
 have E:=(Below.refl w.1.size w).grown ac (Nat.le_refl _) (by intro k u;cases u);have ag:aA.1[D]?=some (.cells xs.toArray 35):=by rw[E.block D ah];exact X
 obtain⟨aM,h,I⟩:=RepSt.start O T ae E ag underlying27 af;obtain⟨S,H⟩:∃ S,S=min 1 n:=⟨_,rfl⟩
 rw[<-H]at I h;have an:=A_ H;clear H;have W:=A_ I;clear ae ac E ag I X ah;go_wp2_with fail;go_loopg [8] n (λg s wr=>∃ k:Nat,n<=k+g/\s=.int .i64 k/\Hid (RepSt w wr w.1.size n 3 35 xs k));case atStart=>exact⟨S,by have:=an.o;omega,rfl,W.o⟩
 case round =>
  clear W h;obtain⟨k,u,rfl,b⟩:=hrel;obtain⟨_,_,_,_,aG,_⟩:=b.o;rcases Nat.lt_or_ge k n with ar|aC
  ·have aF:(k:Int)<n:=oM
   obtain⟨g,rfl⟩:∃ g,gk=g+1:=⟨gk - 1,oM⟩
   have aq:=A_ u;clear u;go_wp2_with fail;obtain⟨m,G⟩:∃ m,m=min k (n - k):=⟨_,rfl⟩
   have au:=A_ (show 0<k from(by obtain⟨_,_,_,_,_,ap,_⟩:=b.o;exact ap oM));obtain⟨aN,h,J⟩:=b.o.step O T.o (Below.drew (Below.refl wr.1.size wr)) underlying27 af ar (k*3) oM;rw[<-G]at h J;have am:=A_ G;have ao:=A_ J;have aK:IntKind.i64.wrap ((k:Int)+m)=((k+m:Nat):Int):=by rw[IntKind.wrap_i64];omega
   have aE:(0:Int)<=k:=oM;have aH:(k:Int)<=n:=oM;clear J b G;go_region_held3 (λw'=>True) (trivial) (fail);all_goals go_wp2_with fail
   go_roundg g;case measure=>omega
   case rel=>exact⟨k+m,by have:=aq.o;have:=au.o;have:=am.o;omega,gN,ao⟩
  obtain rfl:k=n:=oM;have aD:¬ ((k:Int)<k):=oM;obtain⟨Z,aa⟩:=b.done O Y;have ak:=A_ Z;have al:=A_ aa;clear Z aa b;go_wp2;go_ret;exact⟨rfl,ak,al⟩
end Go.Proofs.YtbhemnidcleaiaaGreat.X
