/- A part of the proof. -/
import Derived.Test.YtbhemnidcleaiaaGreatY7
set_option linter.constructorNameAsVariable false
set_option maxHeartbeats 16000000
set_option maxRecDepth 10000
namespace Go.Proofs.YtbhemnidcleaiaaGreat.X
open Go.RowKit Go.XB Go.XN Proofs.Tryz
attribute [local go_sem] L_ opAt N_ M_ Region.wanted yielded
attribute [local simp] N_ M_ MP.eq MP.agg MP.sl A0r
theorem C6k (n lo hi:Int) (w:World):Calls prog 184 #[.int .i64 n,.int .i64 lo,.int .i64 hi] w (A0b w (.bool (inB lo n hi))):=by
 rcases Int.lt_or_le n lo with h|h;·have b:=A_ (by unfold inB;simp;omega:false=inB lo n hi);have u:¬ (lo<=n):=oM;go_enter func184,ntmps184;go_wp2;go_ret;exact⟨Q_ b,Below.go⟩
 have b:=A_ (by unfold inB;simp[h]:decide (n<=hi)=inB lo n hi);go_enter func184,ntmps184;go_wp2;go_ret;exact⟨Q_ b,Below.go⟩

theorem B0s (A:Option Addr) (n c:Nat) (xs:List Int) (O:List Nat) (w:World) (h:Sl w A n c xs O) :
  Calls prog 199 #[.slice A n c] w (A0b w (.slice A (trim xs).length c)):=by
 have ae:n<=c:=h.2.1;have S:c<=maxLen:=h.2.2.1;unfold maxLen at S;have G:=A_ h.1;have K:=A_ h;clear h;go_enter func199,ntmps199;go_wp2_with fail;go_loopg [3] n (λg s wr=>s=.int .i64 g/\g<=n/\Hid (trim (xs.take g)=trim xs)/\Bw w wr);case atStart=>exact⟨rfl,Nat.le_refl _,by rw[List.take_of_length_le (Nat.le_of_eq G.o)];rfl,Below.refl _ _⟩
 case round =>
  obtain⟨rfl,ad,D,u⟩:=hrel;rcases Nat.eq_zero_or_pos gk with I|I;·subst I;go_wp2;go_ret;refine⟨?_,u⟩;rw[<-D.o];rfl
  obtain⟨j,rfl⟩:∃ j,gk=j+1:=⟨gk - 1,oM⟩
  obtain⟨Y,af,x,rfl,Z,J,_,aa⟩:=Sl.getInt (Sl.below K.o u) (by omega:j<n);have H:=A_ J;clear J;have ab:(j:Int)+1<=c:=oM;have ac:(j:Int)<n:=oM;by_cases b:x=0
  ·have W:(x==0)=true:=by simp[b]
   have E:=A_ (by rw[<-D.o,take_step H.o,b,B1k]:trim (xs.take j)=trim xs);clear b;have X:j<=n:=oM;go_wp2_with fail;go_roundg j;case measure=>omega
   case rel=>exact⟨gN,X,E,u⟩
  have W:(x==0)=false:=by simp[b]
  have E:=A_ (by rw[<-D.o,take_step H.o,C0p b]:trim xs=xs.take (j+1));clear b;go_wp2;go_ret;refine⟨?_,u⟩;have T:(trim xs).length=j+1:=by rw[E.o,List.length_take];have:=G.o;omega
  rw[T];rfl

theorem A6z (A:Option Addr) (n c b:Nat) (zs:List Int) (w:World) (h:w.ownsRow b 3 1 (.slice A n c) n (zs.map (.int .i64))) (hi:∀ x∈zs,I64 x) :
  Calls prog 199 #[.slice A n c] w (λe w'=>e=.returned (.slice A (trim zs).length c)/\Bw w w'/\w'.ownsRow b 3 1 (.slice A (trim zs).length c) (trim zs).length ((trim zs).map (.int .i64))):=by
 obtain⟨D,E⟩:=A7v h hi;have G:zs.length=n:=by have:=h.1;simpa using this
 refine(B0s A n c zs D w E).mono λe w' ⟨he,hb⟩=>⟨he,hb,?_⟩
 have u:=B3n zs;have:=C6w (I_ h hb) (k:=(trim zs).length) (by rw[<-G,u,List.length_take];omega);rw[<-u]at this;exact this

theorem B5i (A:Option Addr) (n c:Nat) (xs:List Int) (b:List Nat) (w:World) (u:Sl w A n c xs b) (H:(trim xs).length<=60) :
  Calls prog 203 #[.slice A n c] w (A0b w (.slice A (trim xs).length c)):=by
 have E:=A_ u;generalize h:(trim xs).length=m at *;have D:=A_ h;have I:¬ ((60:Int)<m):=oM;clear u h;go_enter func203,ntmps203;go_wp2_with fail;have C:=B0s A n c xs b w E;rw[D.o]at C;refine C.mono ?_;clear C;rintro _ J ⟨rfl,G⟩;go_wp2;go_ret;exact⟨rfl,G⟩

theorem C6j (q:Int) (h:0<=q):((q.toNat % 1000000000:Nat):Int)=q % 1000000000/\q.toNat / 1000000000=(q / 1000000000).toNat:=oM

theorem B1n (N:Int) (w:World) (E:N<=9223372036854775807):Calls prog 152 #[.int .i64 N] w (B3k w 3 (dig N.toNat)):=by
 have H:(dig N.toNat).length<=3:=A4r (by rw[pw_vals.2.2];omega);obtain⟨ag,ab,ad,ae,af⟩:=info_parts A6b;have Z:=A_ H;clear H;go_enter func152,ntmps152;go_wp2;go_loopw [0,3] (λm v wr=>∃ (q:Int) (b:List Int),m=.int .i64 q/\wr.ownsRow w.1.size 3 1 v b.length (b.map (.int .i64))/\Hid (dig N.toNat=b++dig q.toNat)/\q<=9223372036854775807/\Bw w wr) (λm v wr=>(intOf m).toNat);case atStart=>exact⟨N,[],rfl,World.ownsRow_made w #[] 0 (Nat.le_refl _) (Nat.zero_le _) rfl,rfl,E,Below.go⟩
 case round =>
  obtain⟨q,b,rfl,D,u,aj,h⟩:=hrel;have ac:b.length<=3:=by have:=Z.o;rw[u.o,List.length_append]at this;omega
  by_cases ai:0<q
  ·have T:=A_ (by unfold maxLen;omega:b.length+1<=maxLen)
   have W:=A_ (by omega:(b.length+1)*8<=140737488355328);have X:=A_ h.size;have K:=A_ (by rw[u.o,B9g oM,(C6j q oM).1,(C6j q oM).2];simp:dig N.toNat=(b++[q % 1000000000])++dig (q / 1000000000).toNat);have O:=A_ (by omega:q / 1000000000<=9223372036854775807);have S:=A_ (by simp[intOf];omega:(intOf (.int .i64 (q / 1000000000))).toNat<(intOf (.int .i64 q)).toNat);clear E ac;go_wp2_with (first|(at_builtin;refine wpList_append_own _ rfl _ _ 31 rfl w.1.size 3 ag (.int .i64 0) 1 8 underlying31 ab ad ae af rfl dE _ _ _ rfl (D.alloc _) ⟨wr.1.size,0,none⟩ 1 1 [.int .i64 (q % 1000000000)] rfl rfl (cell_one_new _ _ _) (λx hx=>iH) T W (A1a X _) ?_;intro ak w3 I aa ah));have G:=A2o h D aa;first
   |exact⟨⟨q / 1000000000,b++[q % 1000000000],rfl,A1t I,K,O,G⟩,S⟩
   |exact⟨by(repeat apply Exists.intro);exact⟨⟨q / 1000000000,b++[q % 1000000000],rfl,A1t I,K,O,G⟩,rfl⟩,S⟩
  have J:q.toNat=0:=oM;have e:=u.o;rw[J,show dig 0=[]from rfl,List.append_nil]at e;have Y:=A_ e;clear J e;go_wp2;go_ret;rw[Y.o];exact⟨_,rfl,D,h⟩

theorem B1m (N:Int) (w:World) (h1:N<=9223372036854775807):Calls prog 152 #[.int .i64 N] w (A0w w (dig N.toNat)) :=
 (B1n N w h1).mono λ_ _ ⟨_,he,ho,hb⟩=>by subst he;exact A2r ho rfl (A0j _).1.i64 hb

theorem A9p (A B:Option Addr) (n m c d:Nat) (xs ys:List Int) (aq ar:List Nat) (w:World) (G:Sl w A n c xs aq) (ae:Sl w B m d ys ar) (aj:XN.Can xs) (ak:XN.Can ys) :
  Calls prog 250 #[.slice A n c,.slice B m d] w (A0b w (.int .i64 (sgn (val xs - val ys)))):=by
 have T:=A_ G.1;have W:=A_ ae.1;have aC:c<=maxLen:=G.2.2.1;have aJ:n<=c:=G.2.1;unfold maxLen at aC;have ao:=A_ G;have ap:=A_ ae;have aa:=A_ aj;have ab:=A_ ak;clear G ae aj ak;by_cases ad:n=m
 ·subst ad
  go_enter func250,ntmps250;go_wp2_with fail;go_loopg [5] n (λg s wr=>s=.int .i64 ((g:Int) - 1)/\g<=n/\Hid (xs.drop g=ys.drop g)/\Bw w wr);case atStart =>refine⟨rfl,Nat.le_refl _,?_,Below.refl _ _⟩;show xs.drop n=ys.drop n;rw[List.drop_eq_nil_of_le (Nat.le_of_eq T.o),List.drop_eq_nil_of_le (Nat.le_of_eq W.o)]
  case round =>
   obtain⟨rfl,aE,h,D⟩:=hrel;rcases Nat.eq_zero_or_pos gk with ai|ai;·subst ai;have e:=A_ (show(0:Int)=sgn (val xs - val ys) by have:=h.o;rw[List.drop_zero,List.drop_zero]at this;rw[this];unfold sgn;simp);have aK:¬ ((0:Int)<=((0:Nat):Int) - 1):=oM;go_wp2;go_ret;exact⟨A1x e,D⟩
   obtain⟨j,rfl⟩:∃ j,gk=j+1:=⟨gk - 1,oM⟩
   have ah:(((j+1:Nat):Int) - 1)=j:=oM;rw[ah];have al:j<n:=aE;obtain⟨b1,o1,x,rfl,J,am,aL,O⟩:=Sl.getInt (Sl.below ao D) al;obtain⟨b2,o2,y,rfl,K,an,aN,S⟩:=Sl.getInt (Sl.below ap D) al;have af:=A_ am;have ag:=A_ an;have X:=A_ (B8r aa.o.1 ab.o.1 af.o ag.o h.o (by rw[T.o,W.o]));have aI:(j:Int)<n:=oM;have aD:=h;clear h am an ah;rcases Int.lt_trichotomy x y with H|H|H
   ·have e:=A_ (by rw[B2q (X.o.1 H)]:(-1:Int)=sgn (val xs - val ys))
    go_wp2_with fail;refine A0g ?_;iterate 9 refine C_ _ ?_
    intro Y Z wa b h (u:Hid _);simp at h;go_simp;clear h u;have E:=Below.next D b;go_wp2;go_ret;exact⟨A1x e,E⟩
   ·subst H
    have r:=A_ (show xs.drop j=ys.drop j by obtain⟨aF,au⟩:=List.getElem?_eq_some_iff.1 af;obtain⟨aG,aw⟩:=List.getElem?_eq_some_iff.1 ag;rw[List.drop_eq_getElem_cons aF,List.drop_eq_getElem_cons aG,au,aw,aD.o]);have aH:j<=n:=oM;clear X;go_wp2_with fail;refine A0g ?_;iterate 9 refine C_ _ ?_
    intro Y Z wa b h (u:Hid _);simp at h;go_simp;clear h u;have E:=Below.next D b;have aA:=((F_ b).1 b1 (o1+j) J).trans O;have aB:=((F_ b).1 b2 (o2+j) K).trans S;have ay:b1<wa.1.size:=by have:=b.size;omega
    have az:b2<wa.1.size:=by have:=b.size;omega
    clear O S J K b D;go_wp2_with fail;refine A0g ?_;iterate 9 refine C_ _ ?_
    intro Y Z wb b h (u:Hid _);simp at h;go_simp;clear h u;have ac:=Below.next E b;go_wp2_with fail;go_roundg j;case measure=>omega
    case rel=>exact⟨rfl,aH,r,ac⟩
   have e:=A_ (by rw[C1l (X.o.2 H)]:(1:Int)=sgn (val xs - val ys));have aM:¬ x<y:=oM;clear X;go_wp2_with fail;refine A0g ?_;iterate 9 refine C_ _ ?_
   intro Y Z wa b h (u:Hid _);simp at h;go_simp;clear h u;have E:=Below.next D b;have aA:=((F_ b).1 b1 (o1+j) J).trans O;have aB:=((F_ b).1 b2 (o2+j) K).trans S;have ay:b1<wa.1.size:=by have:=b.size;omega
   have az:b2<wa.1.size:=by have:=b.size;omega
   clear O S J K b D;go_wp2_with fail;refine A0g ?_;iterate 9 refine C_ _ ?_
   intro Y Z wb b h (u:Hid _);simp at h;go_simp;clear h u;have ac:=Below.next E b;go_wp2;go_ret;exact⟨A1x e,ac⟩
 have aO:((n:Int) != m)=true:=sO;rcases Nat.lt_or_ge n m with I|I
 ·have e:=A_ (by rw[B2q (XN.Can.lt_of_len aa.o.1 ab.o (by rw[T.o,W.o];exact I))]:(-1:Int)=sgn (val xs - val ys));have ax:(n:Int)<m:=oM;clear ad I;go_enter func250,ntmps250;go_wp2;go_ret;exact⟨A1x e,Below.go⟩
 have e:=A_ (by rw[C1l (XN.Can.lt_of_len ab.o.1 aa.o (by rw[T.o,W.o];omega))]:(1:Int)=sgn (val xs - val ys));have ax:¬ ((n:Int)<m):=oM;clear ad I;go_enter func250,ntmps250;go_wp2;go_ret;exact⟨A1x e,Below.go⟩

theorem E0n (x:Int):inB 0 x 999999999=!A9a x:=by
 unfold A9a inB;rw[Bool.eq_iff_iff];simp
theorem B3v (A:Option Addr) (n c:Nat) (xs:List Int) (ac:List Nat) (w:World) (E:Sl w A n c xs ac) :
  Calls prog 198 #[.slice A n c] w (A0b w (.bool (A3m xs))):=by
 have u:=A_ E.1;have S:=A_ E;have ao:=E.2.1;have ai:c<=maxLen:=E.2.2.1;unfold maxLen at ai;clear E;go_enter func198,ntmps198;go_wp2_with fail;go_loopw [7] (λi wr=>∃ k:Nat,k<=n/\i=.int .i64 k/\Hid ((xs.take k).any A9a=false)/\Bw w wr) (λi wr=>n - (intOf i).toNat);case atStart=>exact⟨0,Nat.zero_le _,rfl,by simp[Hid],Below.refl _ _⟩
 case round =>
  obtain⟨k,am,rfl,I,b⟩:=hrel;rcases Nat.lt_or_ge k n with D|D
  ·have ag:(k:Int)<n:=oM
   obtain⟨ab,aj,x,rfl,ae,aa,_,af⟩:=Sl.getInt (Sl.below S b) D;have T:=A_ aa;clear aa;have an:(k:Int)+1<=c:=oM;have G:=A_ (E0n x);cases h:A9a x
   ·rw[h]at G
    have r:=A_ (show(xs.take (k+1)).any A9a=false from B6c T I h);clear h;have Y:k+1<=n:=D;go_wp2_with fail;have C:=C6k x 0 999999999 wr;rw[G.o]at C;refine C.mono ?_;clear C;rintro _ ak ⟨rfl,K⟩;have H:=Below.next b K;go_wp2_with fail;first
    |exact⟨⟨k+1,Y,rfl,r,H⟩,V_ D⟩
    |exact⟨by(repeat apply Exists.intro);exact⟨⟨k+1,Y,rfl,r,H⟩,rfl⟩,V_ D⟩
   rw[h]at G;have e:=A_ (show false=A3m xs by rw[A5a];have:xs.any A9a=true:=List.any_eq_true.2 ⟨x,List.mem_of_getElem? T,h⟩;rw[this];simp);clear h;go_wp2_with fail;have C:=C6k x 0 999999999 wr;rw[G.o]at C;refine C.mono ?_;clear C;rintro _ ak ⟨rfl,K⟩;have H:=Below.next b K;go_wp2;go_ret;exact⟨Q_ e,H⟩
  obtain rfl:k=n:=oM;have J:=I.o;rw[List.take_of_length_le (Nat.le_of_eq u.o)]at J;have O:=A_ J;clear J I;have ag:¬ ((k:Int)<k):=oM;rcases Nat.lt_or_ge 60 k with X|X;·have e:=A_ (by rw[A5a,u.o];simp;omega:false=A3m xs);have ad:¬ ((k:Int)<=60):=oM;go_wp2;go_ret;exact⟨Q_ e,b⟩
  have ad:(k:Int)<=60:=oM;rcases Nat.eq_zero_or_pos k with W|W
  ·subst W;have e:=A_ (by rw[A5a,O.o,List.eq_nil_of_length_eq_zero u.o];rfl:true=A3m xs);go_wp2;go_ret;exact⟨Q_ e,b⟩
  obtain⟨j,rfl⟩:∃ j,k=j+1:=⟨k - 1,oM⟩
  obtain⟨ab,aj,x,rfl,ae,Z,al,af⟩:=Sl.getInt (Sl.below S.o b) (by omega:j<j+1);have ah:=A_ (by rw[List.getLast?_eq_getElem?,u.o];exact Z:xs.getLast?=some x);have ap:((j:Int)+1==0)=false:=sO;have e:=A_ (by rw[A5a,O.o,ah.o,u.o,decide_eq_true X];simp;rfl:(x != 0)=A3m xs);clear Z;go_wp2;go_ret;exact⟨Q_ e,b⟩

theorem E2k {xs:List Int} {k:Nat} (h:xs.length<=k):val (xs.take (k+1))=val (xs.take k)+pw k*0:=by
 rw[List.take_of_length_le h,List.take_of_length_le oM];simp

def E0r (w:World) (t:TypeId) (xs:List Int) (e:Ending) (w':World):Prop :=
 ∃ g c,e=.returned (.slice (some ⟨g,0,none⟩) xs.length c)/\w'.ownsRow w.1.size t 1 (.slice (some ⟨g,0,none⟩) xs.length c) xs.length (xs.map (.int .i64))/\Bw w w'

theorem C8l (A B:Option Addr) (n m c d:Nat) (xs ys:List Int) (aF aG:List Nat) (w:World) (hx:Sl w A n c xs aF) (an:Sl w B m d ys aG) (ax:XN.Can xs) (ay:XN.Can ys) (ae:n<=1048576) (aA:val ys<=val xs) :
  Calls prog 252 #[.slice A n c,.slice B m d] w (E0r w 3 (dig (val xs - val ys).toNat)):=by
 obtain⟨ai,ad,af,ag,ah⟩:=info_parts A6b;have aB:=A_ hx.1;have aM:=A_ an.1;have aD:=A_ hx;have aE:=A_ an;have ar:=A_ ax;have au:=A_ ay;have aw:=A_ aA;clear hx an ax ay aA;go_enter func252,ntmps252;go_wp2_with fail;go_loopw [5,6,12] (λv y i wr=>∃ (k:Nat) (bw:Int) (b:List Int),k<=n/\0<=bw/\bw<=1/\i=.int .i64 k/\y=.int .i64 bw/\wr.ownsRow w.1.size 3 1 v b.length (b.map (.int .i64))/\v≠.slice none 0 0/\Hid (b.length=k)/\Hid (Lims b)/\Hid (val b=val (xs.take k) - val (ys.take k)+pw k*bw)/\Bw w wr) (λv y i wr=>n - (intOf i).toNat);case atStart=>exact⟨0,0,[],Nat.zero_le _,oM,oM,rfl,rfl,World.ownsRow_made w #[] 0 (Nat.le_refl _) (Nat.zero_le _) rfl,(λh=>by cases h),rfl,Lims.nil,by simp[Hid,val],Below.go⟩
 case round =>
  obtain⟨k,bw,b,aL,aX,aY,rfl,rfl,H,aQ,T,S,Y,K⟩:=hrel;rcases Nat.lt_or_ge k n with D|D
  ·have a3:(k:Int)<n:=oM
   obtain⟨b1,o1,x,rfl,aV,al,_,aZ⟩:=Sl.getInt (Sl.below aD K) D;have am:=ar.1.get al;have ac:=A_ (Y_ al);have a4:=am.1;have a5:=am.2;clear al am;have aO:b.length<=1048576:=by rw[T.o];omega
   have Z:=A_ (by unfold maxLen;omega:b.length+1<=maxLen);have aa:=A_ (by omega:(b.length+1)*8<=140737488355328);have ab:=A_ K.size;have a2:(k:Int)<=1048576:=oM;have I:k+1<=n:=D;have J:=A_ (by intro x;rw[List.length_append,T.o];rfl:∀ x:Int,(b++[x]).length=k+1);clear aO;rcases Nat.lt_or_ge k m with X|X
   ·have az:(k:Int)<m:=oM
    obtain⟨b2,o2,y,rfl,aW,ao,_,a1⟩:=Sl.getInt (Sl.below aE K) X;have ap:=au.1.get ao;have W:=A_ (Y_ ao);have a6:=ap.1;have a7:=ap.2;clear ao ap;rcases Int.lt_or_le (x - bw - y) 0 with ak|ak
    ·have L:=A_ (show Lims (b++[x - bw - y+1000000000])from S.o.snoc oM oM)
     have r:=A_ (show val (b++[x - bw - y+1000000000])=val (xs.take (k+1)) - val (ys.take (k+1))+pw (k+1)*1 by rw[A4s,T.o,Y.o,ac.o,W.o,A1l];grind);clear ae;go_wp2_with (first|(at_builtin;refine wpList_append_own _ rfl _ _ 31 rfl w.1.size 3 ai (.int .i64 0) 1 8 underlying31 ad af ag ah rfl dE _ _ _ rfl (H.alloc _) ⟨wr.1.size,0,none⟩ 1 1 [.int .i64 (x - bw - y+1000000000)] rfl rfl (cell_one_new _ _ _) (λx hx=>iH) Z aa (A1a ab _) ?_;intro aq w3 G O E));have u:=A2o K H O;first
     |exact⟨⟨k+1,1,b++[x - bw - y+1000000000],I,Int.zero_le_ofNat 1,Int.le_refl 1,rfl,rfl,A1t G,(λh=>absurd (E.1 h).2 dE),J _,L,r,u⟩,V_ D⟩
     |exact⟨by(repeat apply Exists.intro);exact⟨⟨k+1,1,b++[x - bw - y+1000000000],I,Int.zero_le_ofNat 1,Int.le_refl 1,rfl,rfl,A1t G,(λh=>absurd (E.1 h).2 dE),J _,L,r,u⟩,rfl⟩,V_ D⟩
    ·have aN:¬ (x - bw - y<0):=oM
     have L:=A_ (show Lims (b++[x - bw - y])from S.o.snoc oM oM);have r:=A_ (show val (b++[x - bw - y])=val (xs.take (k+1)) - val (ys.take (k+1))+pw (k+1)*0 by rw[A4s,T.o,Y.o,ac.o,W.o,A1l];grind);clear ae;go_wp2_with (first|(at_builtin;refine wpList_append_own _ rfl _ _ 31 rfl w.1.size 3 ai (.int .i64 0) 1 8 underlying31 ad af ag ah rfl dE _ _ _ rfl (H.alloc _) ⟨wr.1.size,0,none⟩ 1 1 [.int .i64 (x - bw - y)] rfl rfl (cell_one_new _ _ _) (λx hx=>iH) Z aa (A1a ab _) ?_;intro aq w3 G O E));have u:=A2o K H O;first
     |exact⟨⟨k+1,0,b++[x - bw - y],I,Int.le_refl 0,Int.zero_le_ofNat 1,rfl,rfl,A1t G,(λh=>absurd (E.1 h).2 dE),J _,L,r,u⟩,V_ D⟩
     |exact⟨by(repeat apply Exists.intro);exact⟨⟨k+1,0,b++[x - bw - y],I,Int.le_refl 0,Int.zero_le_ofNat 1,rfl,rfl,A1t G,(λh=>absurd (E.1 h).2 dE),J _,L,r,u⟩,rfl⟩,V_ D⟩
   ·have az:¬ ((k:Int)<m):=oM
    have W:=A_ (E2k (k:=k) (by rw[aM.o];exact X));rcases Int.lt_or_le (x - bw) 0 with ak|ak
    ·have L:=A_ (show Lims (b++[x - bw+1000000000])from S.o.snoc oM oM)
     have r:=A_ (show val (b++[x - bw+1000000000])=val (xs.take (k+1)) - val (ys.take (k+1))+pw (k+1)*1 by rw[A4s,T.o,Y.o,ac.o,W.o,A1l];grind);clear ae X;go_wp2_with (first|(at_builtin;refine wpList_append_own _ rfl _ _ 31 rfl w.1.size 3 ai (.int .i64 0) 1 8 underlying31 ad af ag ah rfl dE _ _ _ rfl (H.alloc _) ⟨wr.1.size,0,none⟩ 1 1 [.int .i64 (x - bw+1000000000)] rfl rfl (cell_one_new _ _ _) (λx hx=>iH) Z aa (A1a ab _) ?_;intro aq w3 G O E));have u:=A2o K H O;first
     |exact⟨⟨k+1,1,b++[x - bw+1000000000],I,Int.zero_le_ofNat 1,Int.le_refl 1,rfl,rfl,A1t G,(λh=>absurd (E.1 h).2 dE),J _,L,r,u⟩,V_ D⟩
     |exact⟨by(repeat apply Exists.intro);exact⟨⟨k+1,1,b++[x - bw+1000000000],I,Int.zero_le_ofNat 1,Int.le_refl 1,rfl,rfl,A1t G,(λh=>absurd (E.1 h).2 dE),J _,L,r,u⟩,rfl⟩,V_ D⟩
    ·have aN:¬ (x - bw<0):=oM
     have L:=A_ (show Lims (b++[x - bw])from S.o.snoc oM oM);have r:=A_ (show val (b++[x - bw])=val (xs.take (k+1)) - val (ys.take (k+1))+pw (k+1)*0 by rw[A4s,T.o,Y.o,ac.o,W.o,A1l];grind);clear ae X;go_wp2_with (first|(at_builtin;refine wpList_append_own _ rfl _ _ 31 rfl w.1.size 3 ai (.int .i64 0) 1 8 underlying31 ad af ag ah rfl dE _ _ _ rfl (H.alloc _) ⟨wr.1.size,0,none⟩ 1 1 [.int .i64 (x - bw)] rfl rfl (cell_one_new _ _ _) (λx hx=>iH) Z aa (A1a ab _) ?_;intro aq w3 G O E));have u:=A2o K H O;first
     |exact⟨⟨k+1,0,b++[x - bw],I,Int.le_refl 0,Int.zero_le_ofNat 1,rfl,rfl,A1t G,(λh=>absurd (E.1 h).2 dE),J _,L,r,u⟩,V_ D⟩
     |exact⟨by(repeat apply Exists.intro);exact⟨⟨k+1,0,b++[x - bw],I,Int.le_refl 0,Int.zero_le_ofNat 1,rfl,rfl,A1t G,(λh=>absurd (E.1 h).2 dE),J _,L,r,u⟩,rfl⟩,V_ D⟩
  obtain rfl:k=n:=oM;have aP:=A_ (show trim b=dig (val xs - val ys).toNat by
   have aj:=Y.o;rw[List.take_of_length_le (Nat.le_of_eq aB.o)]at aj;have aH:ys.length<=k:=by
    rcases Nat.lt_or_ge xs.length ys.length with h|h;·have:=Can.lt_of_len ar.1 au h;have:=aw.o;omega
    rw[<-aB.o];exact h
   rw[List.take_of_length_le aH]at aj;have aI:=A4j S;rw[T.o]at aI;have aT:=aw.o;have aK:bw=0:=by
    rcases Int.lt_or_le 0 bw with h|h;·have:bw=1:=oM;subst this;omega
    omega
   rw[aK]at aj;exact A8i S.o oM)
  have az:¬ ((k:Int)<k):=oM;have aJ:=A_ (show ∀ x∈b,I64 x from S.i64);rcases A6k H with⟨e,_⟩|⟨aS,aR,rfl,_⟩
  ·exact absurd e aQ
  clear D aL;go_wp2_with fail;refine(A6z _ _ _ _ b _ H aJ).mono ?_;rintro _ w3 ⟨rfl,aU,aC⟩;have u:Bw w w3:=Below.go;go_wp2;go_ret;rw[aP.o]at aC ⊢;exact⟨_,_,rfl,aC,u⟩

theorem B5m (A B:Option Addr) (n m c d:Nat) (xs ys:List Int) (aS aT:List Nat) (w:World) (ag:Sl w A n c xs aS) (aj:Sl w B m d ys aT) (ay:Lims xs) (az:Lims ys) (bj:n<=1048576) (bi:m<=1048576) :
  Calls prog 253 #[.slice A n c,.slice B m d] w (B3k w 3 (dig (val xs*val ys).toNat)):=by
 obtain⟨aL,aB,aH,aI,aJ⟩:=info_parts A6b;have aC:=A_ ag.1;have aD:=A_ aj.1;have aN:=A_ ag;have aP:=A_ aj;have an:=A_ ay;have ao:=A_ az;have b2:=A_ (by rw[aJ];omega:aL.bytes*(n+m)<=281474976710656);have aR:=A_ (by unfold maxLen;omega:n+m<=maxLen);clear ag aj ay az;rcases Nat.eq_zero_or_pos n with ac|ac;·subst ac;have e:=A_ (by rw[List.eq_nil_of_length_eq_zero aC.o];simp[val];rfl:dig (val xs*val ys).toNat=[]);go_enter func253,ntmps253;go_wp2;go_ret;rw[e.o];exact⟨_,rfl,World.ownsRow_nil _ _ _ _,Below.go⟩
 rcases Nat.eq_zero_or_pos m with ab|ab;·subst ab;have e:=A_ (by rw[List.eq_nil_of_length_eq_zero aD.o];simp[val];rfl:dig (val xs*val ys).toNat=[]);have aG:((n:Int)==0)=false:=sO;go_enter func253,ntmps253;go_wp2;go_ret;rw[e.o];exact⟨_,rfl,World.ownsRow_nil _ _ _ _,Below.go⟩
 have aG:((n:Int)==0)=false:=sO;have bc:((m:Int)==0)=false:=sO;go_enter func253,ntmps253;go_wp2_with (at_make;(refine wpList_make_full _ rfl _ _ 31 rfl w.1.size 3 aL (.int .i64 0) 1 underlying31 aB aH aI .i64 .i64 _ _ (n+m) rfl rfl rfl rfl b2 aR (Nat.le_refl _) ?_);intro bo ad aA);rw[A8c]at ad;have J:=(Below.refl w.1.size w).grown aA (Nat.le_refl _) (by intro k Y;cases Y);clear aA aG bc ac ab;go_loopw [28] (λi wr=>∃ (k:Nat) (zs:List Int),k<=n/\i=.int .i64 k/\wr.ownsRow w.1.size 3 1 (.slice (some ⟨w.1.size,0,none⟩) (n+m) (n+m)) (n+m) (zs.map (.int .i64))/\Hid (Lims zs)/\Hid (∀ j,k+m<=j->j<n+m->zs[j]?=some 0)/\Hid (val zs=val (xs.take k)*val ys)/\Bw w wr) (λi wr=>n - (intOf i).toNat);case atStart=>exact⟨0,_,Nat.zero_le _,rfl,ad,Lims.zeros _,λj _ a3=>by rw[List.getElem?_replicate,if_pos a3],by show val _=val (xs.take 0)*val ys;rw[A9k,List.take_zero];simp[val],J⟩
 case round =>
  obtain⟨i,zs,Y,rfl,u,T,aK,af,W⟩:=hrel;clear ad J aB aH aI aJ;obtain⟨aM,rfl⟩:∃ aM:World,aM=wr:=⟨_,rfl⟩
  rcases Nat.lt_or_ge i n with H|H
  ·have bf:(i:Int)<n:=oM
   obtain⟨b1,o1,x,rfl,J,ah,_,aw⟩:=Sl.getInt aN H;have ai:=an.get ah;have aO:=A_ ah;have a7:=ai.1;have a8:=ai.2;clear ai ah;have aU:=(W.cell (p:=⟨b1,o1+i,none⟩) J).trans aw;have ar:=A_ u;clear u;go_wp2_with fail;go_loopw [8,35] (λy j wr=>∃ (k:Nat) (b:Int) (zs:List Int),k<=m/\0<=b/\b<1000000000/\j=.int .i64 k/\y=.int .i64 b/\wr.ownsRow w.1.size 3 1 (.slice (some ⟨w.1.size,0,none⟩) (n+m) (n+m)) (n+m) (zs.map (.int .i64))/\Hid (Lims zs)/\Hid (∀ j,i+m<=j->j<n+m->zs[j]?=some 0)/\Hid (val zs+pw (i+k)*b=val (xs.take i)*val ys+pw i*(x*val (ys.take k)))/\Bw w wr) (λy j wr=>m - (intOf j).toNat);case atStart=>exact⟨0,0,zs,Nat.zero_le _,oM,oM,rfl,rfl,ar.o,T,aK,by show val zs+pw (i+0)*0=val (xs.take i)*val ys+pw i*(x*val (ys.take 0));rw[af.o,List.take_zero];simp[val],W⟩
   case round =>
    obtain⟨k,b,us,bh,aW,aX,rfl,rfl,u,aa,am,aF,X⟩:=hrel;clear ar T aK af W aw J aU;rcases Nat.lt_or_ge k m with G|G
    ·have a5:(k:Int)<m:=oM
     obtain⟨b2,o2,y,rfl,au,ak,_,ax⟩:=Sl.getInt aP G;have al:=ao.get ak;have aQ:=A_ ak;have a9:=al.1;have ba:=al.2;clear al ak;have be:=(X.cell (p:=⟨b2,o2+k,none⟩) au).trans ax;obtain⟨h,ae,bm,bn⟩:=aa.o.num (j:=i+k) (by rw[A2n u];omega);have O:=A_ ae;obtain⟨aZ,aV,aY⟩:=A0t u ae;clear ae ax au;obtain⟨bk,bl⟩:=C0c a7 a8 a9 ba;have a4:(k:Int)<=1048576:=oM;have a1:(i:Int)<=1048576:=oM;have a2:(i:Int)+k<n+m:=oM;have K:k+1<=m:=G;have ap:=A_ (by omega:0<=(h+x*y+b) / 1000000000);have aq:=A_ (by omega:(h+x*y+b) / 1000000000<1000000000);have L:=A_ (aa.o.set (i+k) (u:=(h+x*y+b) % 1000000000) oM oM);have I:=A_ (show ∀ j,i+m<=j->j<n+m->(us.set (i+k) ((h+x*y+b) % 1000000000))[j]?=some 0 by intro j E S;rw[List.getElem?_set_ne oM];exact am j E S);have r:=A_ (show val (us.set (i+k) ((h+x*y+b) % 1000000000))+pw (i+(k+1))*((h+x*y+b) / 1000000000)=val (xs.take i)*val ys+pw i*(x*val (ys.take (k+1))) by rw[show i+(k+1)=i+k+1 from rfl,B3g O.o aF.o,Y_ aQ.o,B0f];grind);have R:=A_ (A3a u (i+k) ((h+x*y+b) % 1000000000));have D:=A_ (X.setCell (p:=⟨w.1.size,i+k,none⟩) (Nat.le_refl _) (.int .i64 ((h+x*y+b) % 1000000000)));go_wp2_with fail;first
     |exact⟨⟨k+1,(h+x*y+b) / 1000000000,_,K,ap,aq,rfl,rfl,R,L,I,r,D⟩,V_ G⟩
     |exact⟨by(repeat apply Exists.intro);exact⟨⟨k+1,(h+x*y+b) / 1000000000,_,K,ap,aq,rfl,rfl,R,L,I,r,D⟩,rfl⟩,V_ G⟩
    ·have Z:k=m:=oM
     subst Z;have a5:¬ ((k:Int)<k):=oM;have O:=A_ (am.o (i+k) (Nat.le_refl _) oM);obtain⟨aZ,aV,aY⟩:=A0t u O;have a4:(k:Int)<=1048576:=oM;have a1:(i:Int)<=1048576:=oM;have a2:(i:Int)+k<n+k:=oM;have K:i+1<=n:=H;have L:=A_ (aa.set (i+k) (u:=b) aW aX);have I:=A_ (show ∀ j,i+1+k<=j->j<n+k->(us.set (i+k) b)[j]?=some 0 by intro j E S;rw[List.getElem?_set_ne oM];exact am.o j oM S);have r:=A_ (show val (us.set (i+k) b)=val (xs.take (i+1))*val ys by have E:=aF.o;rw[List.take_of_length_le (Nat.le_of_eq aD.o)]at E;rw[B3w O.o,Y_ aO.o];grind);have R:=A_ (A3a u (i+k) b);have D:=A_ (X.setCell (p:=⟨w.1.size,i+k,none⟩) (Nat.le_refl _) (.int .i64 b));clear G;go_wp2_with fail;first
     |exact⟨⟨i+1,_,K,rfl,R,L,I,r,D⟩,V_ H⟩
     |exact⟨by(repeat apply Exists.intro);exact⟨⟨i+1,_,K,rfl,R,L,I,r,D⟩,rfl⟩,V_ H⟩
  have Z:i=n:=oM;subst Z;have a6:=A_ (show trim zs=dig (val xs*val ys).toNat by have E:=af.o;rw[List.take_of_length_le (Nat.le_of_eq aC.o)]at E;have S:=Int.mul_nonneg (S_ an) (S_ ao);exact A8i T.o oM);have bg:¬ ((i:Int)<i):=oM;clear H Y;go_wp2_with fail;refine(A6z _ _ _ _ zs _ u T.i64).mono ?_;rintro _ w3 ⟨rfl,bd,aE⟩;have D:Bw w w3:=Below.go;go_wp2;go_ret;rw[a6.o]at aE ⊢;exact⟨_,rfl,aE,D⟩

theorem C8s (A:Option Addr) (n c:Nat) (xs:List Int) (ar:List Nat) (d:Int) (w:World) (K:Sl w A n c xs ar) (Z:Lims xs) (I:0<d) (aJ:d<1000000000) (aO:n<=1048576) :
  Calls prog 249 #[.slice A n c,.int .i64 d] w (C3a w (dig (val xs / d).toNat) (val xs % d)):=by
 obtain⟨ak,ab,ah,ai,aj⟩:=info_parts A6b;have az:=A_ K.1;have ao:=A_ K;have am:=A_ Z;have b2:=A_ (by rw[aj];omega:ak.bytes*n<=281474976710656);have aq:=A_ (by unfold maxLen;omega:n<=maxLen);clear K Z;go_enter func249,ntmps249;go_wp2_with (at_make;(refine wpList_make_full _ rfl _ _ 31 rfl w.1.size 3 ak (.int .i64 0) 1 underlying31 ab ah ai .i64 .i64 _ _ n rfl rfl rfl rfl b2 aq (Nat.le_refl _) ?_);intro aS J aa);rw[A8c]at J;have h:=(Below.refl w.1.size w).grown aa (Nat.le_refl _) (by intro k ay;cases ay);clear aa;go_loopw [7,8] (λr i wr=>∃ (b:Nat) (q:Int) (zs:List Int),b<=n/\i=.int .i64 ((b:Int) - 1)/\r=.int .i64 q/\0<=q/\q<d/\wr.ownsRow w.1.size 3 1 (.slice (some ⟨w.1.size,0,none⟩) n n) n (zs.map (.int .i64))/\Hid (Lims zs)/\Hid (val (zs.drop b)*d+q=val (xs.drop b))/\Bw w wr) (λr i wr=>(intOf i+1).toNat);case atStart =>refine⟨n,0,_,Nat.le_refl _,rfl,rfl,Int.le_refl _,I,J,Lims.zeros _,?_,h⟩;show val ((List.replicate n (0:Int)).drop n)*d+0=val (xs.drop n);rw[List.drop_eq_nil_of_le sI,List.drop_eq_nil_of_le (Nat.le_of_eq az.o)];simp[val]
 case round =>
  obtain⟨b,q,zs,X,rfl,rfl,ad,ae,D,u,ag,H⟩:=hrel;clear J h ab ah ai aj;rcases Nat.eq_zero_or_pos b with G|G;·subst G;have e:=A_ (show dig (val xs / d).toNat=trim zs/\val xs % d=q by have W:=ag.o;rw[List.drop_zero,List.drop_zero]at W;obtain⟨au,aw⟩:=D2a I W ad ae;refine⟨?_,aw⟩;rw[au];exact(A8i u (Int.toNat_of_nonneg (S_ u)).symm).symm);have aQ:¬ ((0:Int)<=((0:Nat):Int) - 1):=oM;go_wp2_with fail;refine(A6z _ _ _ _ zs _ D u.i64).mono ?_;rintro _ w3 ⟨rfl,aG,aA⟩;have E:Bw w w3:=Below.go;go_wp2;go_ret2;rw[e.o.1,e.o.2];exact⟨_,rfl,aA,E⟩
  ·obtain⟨j,rfl⟩:∃ j,b=j+1:=⟨b - 1,oM⟩
   have T:(((j+1:Nat):Int) - 1)=j:=oM;rw[T];have ax:j<n:=X;obtain⟨b1,o1,x,rfl,h,O,_,Y⟩:=Sl.getInt ao ax;have S:=am.get O;have ap:=A_ O;have aD:=S.1;have aE:=S.2;have aH:=(H.cell (p:=⟨b1,o1+j,none⟩) h).trans Y;have aF:b1<wr.1.size:=by have:=H.size;omega
   clear S O Y h;obtain⟨aR,af,aB,aC⟩:=u.o.num (j:=j) (by rw[A2n D];omega);obtain⟨aM,aI,aL⟩:=A0t D af;have an:=A_ (by rw[A2n D];omega:j<zs.length);clear af aB aC;have Q:=A_ (D9u I ad ae aD aE);have Q1:0<=q*1000000000+x:=oM;have r:=A_ (D4g an ap ag);have L:=A_ (u.set j Q.1 Q.2.1);have R:=A_ (A3a D j ((q*1000000000+x) / d));have E:=A_ (H.setCell (p:=⟨w.1.size,j,none⟩) (Nat.le_refl _) (.int .i64 ((q*1000000000+x) / d)));have aN:(j:Int)<n:=oM;have aP:(n:Int)<=1048576:=oM;have ac:j<=n:=oM;have aK:1<=d:=oM;have al:(intOf (Value.int .i64 ((j:Int) - 1))+1).toNat<(intOf (Value.int .i64 (j:Int))+1).toNat:=by simp[intOf]
   clear T X G;go_wp2_with fail;first
   |exact⟨⟨j,(q*1000000000+x) % d,_,ac,rfl,rfl,Q.2.2.1,Q.2.2.2,R,L,r,E⟩,al⟩
   |exact⟨by(repeat apply Exists.intro);exact⟨⟨j,(q*1000000000+x) % d,_,ac,rfl,rfl,Q.2.2.1,Q.2.2.2,R,L,r,E⟩,rfl⟩,al⟩

theorem B9p (w:World) (xs:List Int) (hm:xs.length<=maxLen):(w.alloc (.cells (xs.map (.int .i64)).toArray 3)).ownsRow w.1.size 3 1 (.slice (some ⟨w.1.size,0,none⟩) xs.length xs.length) xs.length (xs.map (.int .i64)) :=
 ⟨sI,.inr ⟨w.1.size,xs.length,_,rfl,Nat.le_refl _,heap_alloc_new w _,Nat.le_refl _,hm,sI,by simp[<-List.map_take]⟩⟩

theorem E3u {a:Int}:sgn a<=0↔a<=0:=by unfold sgn;split<;>(try split)<;>omega

theorem C8c (A B:Option Addr) (n m c d:Nat) (D ys:List Int) (aN aO:List Nat) (w:World) (aF:Sl w A n c D aN) (aG:Sl w B m d ys aO) (ah:XN.Can D) (az:XN.Can ys) (aB:m<=65536) (aH:0<val ys) (aS:val D<1000000000*val ys) :
  Calls prog 251 #[.slice A n c,.slice B m d] w (A0b w (.int .i64 (val D / val ys))):=by
 have aq:=A_ aF;have ar:=A_ aG;have an:=A_ ah;have ao:=A_ az;have au:=A_ aH;have aT:=S_ ah.1;have aK:=A_ (by omega:0*val ys<=val D);have aL:=A_ (by omega:val D<(999999999+1)*val ys);clear aF aG ah az aH aS aT;go_enter func251,ntmps251;go_wp2_with fail;go_loopw [5,6] (λa b wr=>∃ h u:Int,a=.int .i64 h/\b=.int .i64 u/\0<=h/\h<=u/\u<=999999999/\Hid (h*val ys<=val D)/\Hid (val D<(u+1)*val ys)/\Bw w wr) (λa b wr=>(intOf b - intOf a).toNat);case atStart=>exact⟨0,999999999,rfl,rfl,oM,oM,oM,aK,aL,Below.refl _ _⟩
 case round =>
  obtain⟨h,u,rfl,rfl,aw,aY,ax,ai,hh,S⟩:=hrel;rcases Int.lt_or_le h u with aP|aP
  ·obtain⟨q,aC⟩:∃ q,q=(h+u+1) / 2:=⟨_,rfl⟩
   have aZ:h<q:=oM;have aD:q<=u:=oM;have aA:=A_ (show(dig q.toNat).length<=65536 from Nat.le_trans (A4r (k:=1) (by rw[pw_vals.1];omega)) dE);have aE:q<=9223372036854775807:=oM;have aJ:=A_ (by rw[A1j,Int.toNat_of_nonneg oM,Int.mul_comm]:val ys*val (dig q.toNat)=q*val ys);have ap:=A_ (show val (dig (val ys*val (dig q.toNat)).toNat)=q*val ys by rw[A1j,aJ.o,Int.toNat_of_nonneg (Int.mul_nonneg oM (by have:=au.o;omega))]);rcases Int.lt_or_le (val D) (q*val ys)with Z|Z
   ·have O:=A_ (by rw[E3u];omega:¬ (sgn (q*val ys - val D)<=0))
    have r:=A_ (by rw[Int.sub_add_cancel];exact Z:val D<(q - 1+1)*val ys);have ac:=A_ (by simp[intOf];omega:(intOf (Value.int .i64 (q - 1)) - intOf (.int .i64 h)).toNat<(intOf (Value.int .i64 u) - intOf (.int .i64 h)).toNat);have ab:h<=q - 1:=oM;have aI:q - 1<=999999999:=oM;clear Z;subst aC;go_wp2_with fail;refine(B1m ((h+u+1) / 2) wr aE).mono ?_;rintro _ al ⟨ad,n1,af,aU,rfl,I,ak,T⟩;have J:=A_ I;have aj:=A_ (by rw[<-I.1];exact aA:n1<=65536);clear I ak;have E:=Below.next S T;go_wp2_with fail;refine(B5m B ad m n1 d af ys _ _ _ al (Sl.below ar E) J ao.1 (A0j _).1 (Nat.le_trans aB dE) (Nat.le_trans aj dE)).mono ?_;rintro _ am ⟨v2,rfl,H,W⟩;obtain⟨ae,ag,rfl⟩:=C4a H;obtain⟨aV,aa⟩:=A7v H (A0j _).1.i64;have K:=A_ aa;clear aa H;have G:=Below.next E W;go_wp2_with fail;have C:=A9p ae A _ n ag c _ D _ _ am K (Sl.below aq G) (A0j _) an;rw[ap.o]at C;refine C.mono ?_;clear C;rintro _ w3 ⟨rfl,X⟩;have Y:=Below.next G X;have aM:=O.o;generalize (sgn ((h+u+1) / 2*val ys - val D))=aW at *;clear S T W X E G O J K;go_wp2_with fail;first
    |exact⟨⟨h,(h+u+1) / 2 - 1,rfl,rfl,aw,ab,aI,ai,r,Y⟩,ac⟩
    |exact⟨by(repeat apply Exists.intro);exact⟨⟨h,(h+u+1) / 2 - 1,rfl,rfl,aw,ab,aI,ai,r,Y⟩,rfl⟩,ac⟩
   ·have O:=A_ (by rw[E3u];omega:sgn (q*val ys - val D)<=0)
    have r:=A_ (show q*val ys<=val D from Z);have ac:=A_ (by simp[intOf];omega:(intOf (Value.int .i64 u) - intOf (.int .i64 q)).toNat<(intOf (Value.int .i64 u) - intOf (.int .i64 h)).toNat);have ab:0<=q:=oM;clear Z;subst aC;go_wp2_with fail;refine(B1m ((h+u+1) / 2) wr aE).mono ?_;rintro _ al ⟨ad,n1,af,aU,rfl,I,ak,T⟩;have J:=A_ I;have aj:=A_ (by rw[<-I.1];exact aA:n1<=65536);clear I ak;have E:=Below.next S T;go_wp2_with fail;refine(B5m B ad m n1 d af ys _ _ _ al (Sl.below ar E) J ao.1 (A0j _).1 (Nat.le_trans aB dE) (Nat.le_trans aj dE)).mono ?_;rintro _ am ⟨v2,rfl,H,W⟩;obtain⟨ae,ag,rfl⟩:=C4a H;obtain⟨aV,aa⟩:=A7v H (A0j _).1.i64;have K:=A_ aa;clear aa H;have G:=Below.next E W;go_wp2_with fail;have C:=A9p ae A _ n ag c _ D _ _ am K (Sl.below aq G) (A0j _) an;rw[ap.o]at C;refine C.mono ?_;clear C;rintro _ w3 ⟨rfl,X⟩;have Y:=Below.next G X;have aM:=O.o;generalize (sgn ((h+u+1) / 2*val ys - val D))=aW at *;clear S T W X E G O J K;go_wp2_with fail;first
    |exact⟨⟨(h+u+1) / 2,u,rfl,rfl,ab,aD,ax,r,hh,Y⟩,ac⟩
    |exact⟨by(repeat apply Exists.intro);exact⟨⟨(h+u+1) / 2,u,rfl,rfl,ab,aD,ax,r,hh,Y⟩,rfl⟩,ac⟩
  obtain rfl:h=u:=oM;have e:=A_ (show h=val D / val ys by have aQ:=au.o;have aR:=ai.o;have ay:=hh.o;symm;refine(Int.ediv_eq_iff_of_pos aQ).2 ⟨aR,?_⟩;rw[Int.add_mul,Int.one_mul]at ay;exact ay);have aX:¬ (h<h):=oM;go_wp2;go_ret;exact⟨A1x e,S⟩

theorem C8g (a b:Int) (w:World) (I:0<=a) (D:0<=b) (J:a<=9223372036854775807) (O:b<=9223372036854775807) :
  Calls prog 248 #[.int .i64 a,.int .i64 b] w (B3k w 3 (dig (Int.gcd a b))):=by
 go_enter func248,ntmps248;go_wp2_with fail;go_loopg [0,1] b.toNat (λg s0 s1 wr=>∃ x y:Int,s0=.int .i64 x/\s1=.int .i64 y/\0<=x/\x<=9223372036854775807/\0<=y/\y<=9223372036854775807/\Hid (Int.gcd x y=Int.gcd a b)/\Hid (y=g)/\Bw w wr);case atStart=>exact⟨a,b,rfl,rfl,I,J,D,O,rfl,(Int.toNat_of_nonneg D).symm,Below.refl _ _⟩
 case round =>
  obtain⟨x,y,rfl,rfl,ab,X,Y,Z,E,T,h⟩:=hrel;by_cases H:0<y
  ·have r0:=A_ (show 0<=x % y/\x % y<y from⟨Int.emod_nonneg _ oM,Int.emod_lt_of_pos _ H⟩)
   have aa:=A_ (by rw[B8y];exact E:Int.gcd y (x % y)=Int.gcd a b);have u:=A_ (by have:=r0.o;have:=T.o;omega:(x % y).toNat<gk/\x % y<=9223372036854775807/\x % y=((x % y).toNat:Int));have ac:1<=y:=H;go_wp2_with fail;go_roundg (x % y).toNat;case measure=>exact u.1
   case rel=>exact⟨y,x % y,rfl,rfl,Y,Z,r0.1,u.2.1,aa,u.2.2,h⟩
  obtain rfl:y=0:=oM;have e:=A_ (by rw[<-E.o,Int.gcd_zero_right];omega:x.toNat=Int.gcd a b);go_wp2_with fail;refine(B1n x _ X).mono ?_;rintro _ ad ⟨v,rfl,W,S⟩;have K:=Below.next h S;have G:=A8u W h.size;rw[e.o]at G;go_wp2;go_ret;exact⟨_,rfl,G,K⟩

def D7m (w:World) (r:Int) (b:Bool) (e:Ending) (w':World):Prop :=
 e=.returned (.tuple #[.int .i64 r,.bool b])/\Bw w w'

theorem B7e (A:Option Addr) (n c:Nat) (xs:List Int) (J:List Nat) (w:World) (b:Sl w A n c xs J) (E:XN.Can xs) (ar:n<=2) :
  Calls prog 247 #[.slice A n c] w (D7m w (val xs) true):=by
 have W:=A_ b.1;have H:=A_ b;have u:=A_ E;have am:=A_ (show A3m xs=true from natOkB_iff.2 ⟨by rw[b.1];omega,E⟩);have al:=A_ (by decide:[854775807,223372036,9].length<=maxLen);have I:=A_ (show XN.Can [854775807,223372036,9]from⟨Lims.cons dE dE (Lims.cons dE dE (Lims.one dE dE)),dE⟩);have ah:=A_ (show sgn (val xs - val [854775807,223372036,9]) = -1 from B2q (XN.Can.lt_of_len E.1 I.o (by rw[b.1];simp;omega)));have aj:c<=maxLen:=b.2.2.1;have aw:=b.2.1;unfold maxLen at aj;clear b E;go_enter func247,ntmps247;go_wp2_with fail;have C:=B3v A n c xs J w H;rw[am.o]at C;refine C.mono ?_;clear C;rintro _ ag ⟨rfl,aa⟩;go_wp2_with fail;have X:=A_ (B9p ag [854775807,223372036,9] al);obtain⟨an,ae⟩:=A7v X (λx b=>I.1.i64 x b);have O:Bw w (ag.alloc (Obj.cells #[.int .i64 854775807,.int .i64 223372036,.int .i64 9] 3)):=Below.go;have C:=A9p A _ n 3 c 3 xs _ J an _ (Sl.below H O) ae u I;rw[ah.o]at C;refine C.mono ?_;clear C;rintro _ aC ⟨rfl,ab⟩;have ac:=Below.next O ab;clear ae X aa O ab;go_wp2_with fail;go_loopw [4,5] (λa i wr=>∃ (h:Nat) (q:Int),h<=n/\i=.int .i64 ((h:Int) - 1)/\a=.int .i64 q/\Hid (q=val (xs.drop h))/\Bw w wr) (λa i wr=>(intOf i+1).toNat);case atStart =>refine⟨n,0,Nat.le_refl _,rfl,rfl,?_,ac⟩;show 0=val (xs.drop n);rw[List.drop_eq_nil_of_le (Nat.le_of_eq W.o)];rfl
 case round =>
  obtain⟨h,q,Z,rfl,rfl,G,D⟩:=hrel;clear ac;rcases Nat.eq_zero_or_pos h with K|K;·subst K;have e:=A_ (by rw[G.o,List.drop_zero]:q=val xs);have ax:¬ ((0:Int)<=((0:Nat):Int) - 1):=oM;go_wp2;go_ret2;rw[e.o];exact⟨rfl,D⟩
  ·obtain⟨j,rfl⟩:∃ j,h=j+1:=⟨h - 1,oM⟩
   have Y:(((j+1:Nat):Int) - 1)=j:=oM;rw[Y];have ak:j<n:=Z;obtain⟨b1,o1,x,rfl,aa,S,_,ap⟩:=Sl.getInt (Sl.below H D) ak;have T:=u.1.get S;have r:=A_ (by rw[A4n S,<-G.o];omega:q*1000000000+x=val (xs.drop j));have aA:=T.1;have aB:=T.2;have ay:0<=q:=by rw[G.o];exact S_ (u.1.drop _)
   have az:q<1000000000:=by rw[G.o];have ao:=A4j (u.1.drop (j+1));have ai:=A6t (by rw[List.length_drop,W.o];omega:(xs.drop (j+1)).length<=1);rw[pw_vals.1]at ai;omega
   have aq:(j:Int)<n:=oM;have au:(j:Int)+1<=c:=oM;have ad:j<=n:=oM;have af:(intOf (Value.int .i64 ((j:Int) - 1))+1).toNat<(intOf (Value.int .i64 (j:Int))+1).toNat:=by simp[intOf]
   clear Y Z K S T;go_wp2_with fail;first
   |exact⟨⟨j,q*1000000000+x,ad,rfl,rfl,r,D⟩,af⟩
   |exact⟨by(repeat apply Exists.intro);exact⟨⟨j,q*1000000000+x,ad,rfl,rfl,r,D⟩,rfl⟩,af⟩

theorem C8q {w b:World} {lo size n:Nat} {e:TypeId} {v:Value} {xs:List Value} (h:w.ownsRow lo e size v n xs) (G:Above lo w b):b.ownsRow lo e size v n xs:=by
 refine⟨h.1,?_⟩;rcases h.2 with H|⟨g,cap,E,rfl,u,D,rest⟩
 ·exact .inl H
 exact .inr ⟨g,cap,E,rfl,u,(G.block g u (E_ D)).trans D,rest⟩
theorem E0i {x:Int} {b:List Int} (u:0<=x) (D:x<1000000000) (h:Lims b):trim (x::b)=dig (x+1000000000*val b).toNat:=by
 have E:=S_ h;exact A8i (Lims.cons u D h) (by simp only[val];omega)
theorem E5d {zs xs:List Int} {j:Nat} {x V R:Int} (u:zs[j]?=some 0) (b:xs[j]?=some x) (h:val (zs.drop (j+1))*V+R=val (xs.drop (j+1))):val (zs.drop j)*V+(x+1000000000*R)=val (xs.drop j):=by
 rw[A4n u,A4n b,<-h];grind
theorem E7j {zs xs:List Int} {j:Nat} {x V R q:Int} (u:zs[j]?=some 0) (b:xs[j]?=some x) (h:val (zs.drop (j+1))*V+R=val (xs.drop (j+1))):val ((zs.set j q).drop j)*V+(x+1000000000*R - q*V)=val (xs.drop j):=by
 rw[C5v (List.getElem?_eq_some_iff.1 u).1,A4n b,<-h];simp only[val];grind

theorem B1v (A B:Option Addr) (n m c d:Nat) (xs ys:List Int) (bi ai:List Nat) (w:World) (ad:Sl w A n c xs bi) (au:Sl w B m d ys ai) (aK:XN.Can xs) (aL:XN.Can ys) (cJ:n<=65536) (bG:0<m) (bF:m<=65536) :
  Calls prog 202 #[.slice A n c,.slice B m d] w (C0i w (dig (val xs / val ys).toNat) (dig (val xs % val ys).toNat)):=by
 obtain⟨aV,bB,bW,bX,bY⟩:=info_parts A6b;have a5:=A_ ad;have X:=A_ au;have aZ:=A_ aK;have J:=A_ aL;have ck:=A_ ad.1;have a7:=A_ au.1;have cY:=A_ (S_ aK.1);have E:=A_ (aL.pos (by intro e;rw[<-au.1,e]at bG;simp at bG));have cA:c<=maxLen:=ad.2.2.1;have da:=ad.2.1;unfold maxLen at cA;clear ad au aK aL;by_cases Z:m=1
 ·subst Z
  obtain⟨c0,dc,y,rfl,c6,aw,cw,cz⟩:=Sl.getInt X (k:=0) dE;simp only[Nat.add_zero]at cz;have a3:=A_ (show val ys=y by
   have h:=a7.o;match ys,h with
   | [z],_=>simp at aw;subst aw;simp[val])
  have bV:=J.1.get aw;have bU:0<y:=by rw[<-a3.o];exact E
  have cN:=bV.2;have b:=A_ (Int.emod_lt_of_pos (val xs) bU);clear aw bV cw;go_enter func202,ntmps202;go_wp2_with fail;refine(C8s A n c xs bi y _ a5 aZ.1 bU cN (Nat.le_trans cJ dE)).mono ?_;rintro _ aY ⟨v1,rfl,bM,ab⟩;go_wp2_with fail;refine(B1n (val xs % y) aY (by have:=b.o;omega)).mono ?_;rintro _ dg ⟨v2,rfl,bN,bq⟩;have cM:=I_ bM bq;go_wp2;go_ret2;rw[a3.o];exact B1d cM bN (A0j _).1.i64 (A0j _).1.i64 (Nat.le_refl _) ab.size (B8h bM bN) (Below.next ab bq)
 ·have cO:((m:Int)==1)=false:=sO
  have b2:=A_ (by rw[bY];omega:aV.bytes*n<=281474976710656);have cs:=A_ (by unfold maxLen;omega:n<=maxLen);go_enter func202,ntmps202;go_wp2_with (at_make;(refine wpList_make_full _ rfl _ _ 31 rfl w.1.size 3 aV (.int .i64 0) 1 underlying31 bB bW bX .i64 .i64 _ _ n rfl rfl rfl rfl b2 cs (Nat.le_refl _) ?_);intro aY ap bA);rw[A8c]at ap;have ab:=(Below.refl w.1.size w).grown bA (Nat.le_refl _) (by intro k cI;cases cI);have bE:=(World.ownsRow.lt ap _ rfl).2;clear bA cO Z;go_loopw [9,10] (λv i wr=>∃ (G:Nat) (zs D:List Int),G<=n/\i=.int .i64 ((G:Int) - 1)/\wr.ownsRow w.1.size 3 1 (.slice (some ⟨w.1.size,0,none⟩) n n) n (zs.map (.int .i64))/\wr.ownsRow (w.1.size+1) 3 1 v D.length (D.map (.int .i64))/\v≠.slice none 0 0/\Hid (Lims zs)/\Hid (∀ i,i<G->zs[i]?=some 0)/\Hid (XN.Can D)/\Hid (val D<val ys)/\Hid (val (zs.drop G)*val ys+val D=val (xs.drop G))/\Bw w wr) (λv i wr=>(intOf i+1).toNat);case atStart =>
   refine⟨n,_,[],Nat.le_refl _,rfl,ap.alloc _,World.ownsRow_made aY #[] 0 bE (Nat.zero_le _) rfl,(λh=>by cases h),Lims.zeros n,λi h=>?_,Can.nil,E,?_,Below.go⟩;·rw[List.getElem?_replicate,if_pos h]
   show val ((List.replicate n (0:Int)).drop n)*val ys+0=val (xs.drop n);rw[List.drop_eq_nil_of_le sI,List.drop_eq_nil_of_le (Nat.le_of_eq ck.o)];simp[val]
  case round =>
   obtain⟨G,zs,D,bl,rfl,ao,aq,bR,W,aU,T,aP,ar,aG⟩:=hrel;clear ap ab bE;rcases Nat.eq_zero_or_pos G with aD|aD;·subst aD;have e:=A_ (show trim zs=dig (val xs / val ys).toNat/\D=dig (val xs % val ys).toNat by have Z:=ar.o;rw[List.drop_zero,List.drop_zero]at Z;obtain⟨aB,aC⟩:=D2a E Z (S_ T.1) aP;rw[aB,aC];exact⟨A8i W (Int.toNat_of_nonneg (S_ W)).symm,T.eq_dig⟩);have db:¬ ((0:Int)<=((0:Nat):Int) - 1):=oM;go_wp2_with fail;refine(A6z _ _ _ _ zs _ ao W.i64).mono ?_;rintro _ w3 ⟨rfl,ac,bJ⟩;have cy:Bw w w3:=Below.go;have aQ:=I_ aq ac;go_wp2;go_ret2;rw[e.o.1]at bJ ⊢;rw[e.o.2]at aQ;refine B1d bJ aQ (A0j _).1.i64 (A0j _).1.i64 (Nat.le_refl _) oM ?_ cy;intro c2 bk aB aC;have:=B0b aQ _ aC;simp[Value.ownBlock]at aB;omega
   ·obtain⟨j,rfl⟩:∃ j,G=j+1:=⟨G - 1,oM⟩
    have bj:(((j+1:Nat):Int) - 1)=j:=oM;rw[bj];have cH:j<n:=bl;rcases A6k aq with⟨e,_⟩|⟨bk,ct,rfl,_⟩
    ·exact absurd e bR
    obtain⟨b1,o1,x,rfl,ab,aS,_,c7⟩:=Sl.getInt (Sl.below a5 aG) cH;have aT:=aZ.1.get aS;have a6:=A_ aS;have bS:=aT.1;have bT:=aT.2;have bD:=(World.ownsRow.lt ao _ rfl).2;have rl:=A_ (show D.length<=m by
     rcases Nat.lt_or_ge m D.length with h|h;·have:=Can.lt_of_len J.o.1 T.o (by rw[a7.o];exact h);have:=aP.o;omega
     exact h)
    have ca:=A_ (by unfold maxLen;have:=rl.o;omega:1+D.length<=maxLen);have cb:=A_ (by have:=rl.o;omega:(1+D.length)*8<=140737488355328);have co:=A_ (show(wr.alloc (.cells #[.int .i64 x] 3)).ownsRow (w.1.size+1) 3 1 (.slice (some ⟨wr.1.size,0,none⟩) 1 1) 1 [.int .i64 x]from A8u (B9p wr [x] (by simp[maxLen])) bD);have cp:=A_ (B0b (B9p wr [x] (by simp[maxLen])));have cg:=A_ (show ∀ u∈x::D,I64 u from(Lims.cons bS bT T.1).i64);have bg:=A_ (E0i bS bT T.1);have ag:=A_ (aU.o j oM);have a9:=A_ (by have:=S_ T.1;omega:0<=x+1000000000*val D);have a8:=A_ (by have:=aP.o;omega:x+1000000000*val D<1000000000*val ys);have cc:=A_ (E5d ag a6 ar);have cd:=A_ (λq=>E7j (q:=q) ag a6 ar);have c8:(j:Int)<n:=oM;have c9:(j:Int)+1<=c:=oM;have an:j<=n:=oM;have ay:(intOf (Value.int .i64 ((j:Int) - 1))+1).toNat<(intOf (Value.int .i64 (j:Int))+1).toNat:=by simp[intOf]
    have ci:=A_ aq;have aW:=A_ (show ∀ i,i<j->zs[i]?=some 0 from λi h=>aU.o i oM);have ch:=A_ ao;generalize cx:x+1000000000*val D=b at *;clear bj bl aD aS aT ar aq aU cx ao bR;have cj:=A_ (show(dig b.toNat).length<=m+1 by rw[<-bg.o,B3n,List.length_take];have:=rl.o;simp only[List.length_cons];omega);have I:=A_ (by rw[A1j,Int.toNat_of_nonneg a9.o]:val (dig b.toNat)=b);go_wp2_with (at_builtin;(refine wpList_append_own _ rfl _ _ 31 rfl (w.1.size+1) 3 aV (.int .i64 0) 1 8 underlying31 bB bW bX bY rfl dE _ 1 [.int .i64 x] rfl co.o ⟨bk,0,none⟩ D.length ct (D.map (.int .i64)) rfl sI ((ci.o.alloc _).cells rfl) (D4k D) ca.o cb.o (A1a bD _) ?_);intro cR w3 bI bz bH);have ac:Bw wr w3:=((Below.refl _ wr).alloc (Nat.le_refl _) _).grown bz (A1a (Nat.le_refl _) _) cp;have az:w3.ownsRow (w.1.size+1) 3 1 cR (x::D).length ((x::D).map (.int .i64)):=by have h:=bI;rw[Nat.add_comm 1 D.length]at h;exact h
    rcases A6k az with⟨e,_⟩|⟨c4,c3,rfl,_⟩;·have:=(bH.1 e).1;cases this
    have bm:=I_ ch ac;have br:=Below.next aG ac;clear bI bz bH ac;go_wp2_with fail;refine(A6z _ _ _ _ (x::D) _ az cg).mono ?_;rintro _ b4 ⟨rfl,aH,K⟩;rw[bg.o]at K ⊢;have aj:=I_ bm aH;have O:=Below.next br aH;clear az bm br aH aG;obtain⟨aX,bO⟩:=A7v K (A0j _).1.i64;have ah:=A_ bO;clear bO;rcases Int.lt_or_le b (val ys)with aN|aM
    ·have aA:=A_ (B2q aN)
     go_wp2_with fail;have C:=A9p _ B _ m c3 d _ ys aX ai b4 ah (Sl.below X O) (A0j _) J;rw[I.o,aA.o]at C;refine C.mono ?_;clear C;rintro _ b5 ⟨rfl,H⟩;have S:=Below.next O H;have aa:=I_ aj H;have Y:=I_ K H;have ae:=A_ (by rw[I.o];exact cc:val (zs.drop j)*val ys+val (dig b.toNat)=val (xs.drop j));have af:=A_ (by rw[I.o];exact aN:val (dig b.toNat)<val ys);clear O aj K aN;go_wp2_with fail;first
     |exact⟨⟨j,zs,_,an,rfl,aa,Y,(λh=>by cases h),W,aW,A0j _,af,ae,S⟩,ay⟩
     |exact⟨by(repeat apply Exists.intro);exact⟨⟨j,zs,_,an,rfl,aa,Y,(λh=>by cases h),W,aW,A0j _,af,ae,S⟩,rfl⟩,ay⟩
    ·have aA:=A_ (B8n aM)
     have cW:=A_ aM;clear aM;have ax:=A_ (Int.ediv_nonneg a9 (Int.le_of_lt E));have q1:=A_ (show b / val ys<1000000000 from Int.ediv_lt_of_lt_mul E a8);have q2:=A_ (by have:=q1.o;omega:b / val ys<=9223372036854775807);have ce:=A_ (by rw[A1j,Int.toNat_of_nonneg ax.o,Int.mul_comm]:val ys*val (dig (b / val ys).toNat)=b / val ys*val ys);have a2:=A_ (show val (dig (val ys*val (dig (b / val ys).toNat)).toNat)=b / val ys*val ys by rw[A1j,ce.o,Int.toNat_of_nonneg (Int.mul_nonneg ax.o (Int.le_of_lt E.o))]);have a1:=A_ (by rw[Int.emod_def,Int.mul_comm]:b - b / val ys*val ys=b % val ys);have cm:=A_ (Int.emod_nonneg b (Int.ne_of_gt E));have cn:=A_ (Int.emod_lt_of_pos b E);have cE:=A_ (show(dig (b / val ys).toNat).length<=65536 from Nat.le_trans (A4r (k:=1) (by rw[pw_vals.1];have:=ax.o;have:=q1.o;omega)) dE);have cX:=A_ (by have:=(List.getElem?_eq_some_iff.1 ag).1;exact this:j<zs.length);go_wp2_with fail;have C:=A9p _ B _ m c3 d _ ys aX ai b4 ah (Sl.below X O) (A0j _) J;rw[I.o]at C;refine C.mono ?_;clear C;rintro _ b5 ⟨rfl,H⟩;have cZ:=aA.o;generalize sgn (b - val ys)=de at *;have S:=Below.next O H;have aa:=I_ aj H;have Y:=I_ K H;have bf:=A_ (Sl.below ah H);clear O aj K ah;go_wp2_with fail;have C:=C8c _ B _ m c3 d _ ys aX ai b5 bf.o (Sl.below X.o S) (A0j _) J.o bF E.o (by rw[I.o];exact a8);rw[I.o]at C;refine C.mono ?_;clear C;rintro _ b6 ⟨rfl,ak⟩;have bs:=Below.next S ak;have aE:=I_ aa ak;have ba:=I_ Y ak;clear S aa Y bf;obtain⟨cG,cB,cF⟩:=A0t aE ag;have bt:=bs.setCell (p:=⟨w.1.size,j,none⟩) (Nat.le_refl _) (.int .i64 (b / val ys));have bc:=C8q ba ((Above.refl (w.1.size+1) b6).set (p:=⟨w.1.size,j,none⟩) (Nat.lt_succ_self _) (.int .i64 (b / val ys)));have bn:=A3a aE j (b / val ys);clear bs aE ba;go_wp2_with fail;generalize b6.setCell ⟨w.1.size,j,none⟩ (.int .i64 (b / val ys))=cU at *;clear cB cF cG ak H;refine(B1m (b / val ys) cU q2).mono ?_;rintro _ cV ⟨b8,bZ,cu,dd,rfl,aR,cL,al⟩;have a4:=A_ aR;have cK:=A_ (by rw[<-aR.1];exact cE:bZ<=65536);have aI:=Below.next bt al;have bo:=I_ bn al;have bd:=I_ bc al;clear aR cL bt bn bc;go_wp2_with fail;refine(B5m B b8 m bZ d cu ys _ _ _ cV (Sl.below X aI) a4 J.1 (A0j _).1 (Nat.le_trans bF dE) (Nat.le_trans cK dE)).mono ?_;rintro _ b7 ⟨df,rfl,aO,am⟩;obtain⟨b9,cv,rfl⟩:=C4a aO;obtain⟨cP,bP⟩:=A7v aO (A0j _).1.i64;have cf:=A_ bP;have bu:=Below.next aI am;have aF:=I_ bo am;have be:=I_ bd am;clear bP aO a4 aI bo bd;obtain⟨cQ,bQ⟩:=A7v be (A0j _).1.i64;have cq:=A_ bQ;clear bQ;go_wp2_with fail;have C:=C8l _ b9 _ _ c3 cv (dig b.toNat) _ cQ cP b7 cq.o cf.o (A0j _) (A0j _) (Nat.le_trans cj.o oM) (by rw[a2.o,I.o];exact Int.ediv_mul_le b (Int.ne_of_gt E));rw[a2.o,I.o,a1.o]at C;refine C.mono ?_;clear C;rintro _ wx ⟨c5,c1,rfl,bK,aJ⟩;have bv:=Below.next bu aJ;have bp:=I_ aF aJ;have bL:=A8u bK (show w.1.size+1<=b7.1.size from Nat.lt_of_lt_of_le (World.ownsRow.lt aF _ rfl).2 (Nat.le_refl _));have bh:=A_ (by rw[A1j,Int.toNat_of_nonneg cm.o]:val (dig (b % val ys).toNat)=b % val ys);have ae:=A_ (show val ((zs.set j (b / val ys)).drop j)*val ys+val (dig (b % val ys).toNat)=val (xs.drop j) by rw[bh.o,<-a1.o];exact cd _);have af:=A_ (by rw[bh.o];exact cn:val (dig (b % val ys).toNat)<val ys);have b0:=A_ (W.set j ax q1);have b3:=A_ (show ∀ i,i<j->(zs.set j (b / val ys))[i]?=some 0 from λi h=>by rw[List.getElem?_set_ne oM];exact aW i h);clear bu aF be bK aJ am al;go_wp2_with fail;first
     |exact⟨⟨j,_,_,an,rfl,bp,bL,(λh=>by cases h),b0,b3,A0j _,af,ae,bv⟩,ay⟩
     |exact⟨by(repeat apply Exists.intro);exact⟨⟨j,_,_,an,rfl,bp,bL,(λh=>by cases h),b0,b3,A0j _,af,ae,bv⟩,rfl⟩,ay⟩
end Go.Proofs.YtbhemnidcleaiaaGreat.X
