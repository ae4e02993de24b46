/- A part of the proof. -/
import Derived.Test.YtjcanieccnljfaaGreatY7
set_option linter.constructorNameAsVariable false
set_option maxHeartbeats 16000000
set_option maxRecDepth 10000
open Bool renaming false→AH,true→AF
open Exists renaming intro→FS
open Go renaming Addr→AJ,Calls→BL,World→AD,cell_one_new→JR,info_parts→FB,maxLen→BS,wpList_append_own→IZ,wpList_make_full→KK
open Go.IntKind renaming i64→RD
open Go.RowKit renaming Hid→BI,intOf→DW
open Go.RowKit.Below renaming refl→DI
open Go.Value renaming bool→J,int→RH,slice→S
open Go.World renaming ownsRow_made→JP,ownsRow_nil→MT
open Go.World.ownsRow renaming lt→FG
open Go.XB.Below renaming next→BH
open Go.XB.Sl renaming below→BN,getInt→DL
open Int renaming emod_lt_of_pos→MD,emod_nonneg→MI,gcd→CQ,le_of_lt→JJ,le_refl→II,lt_or_le→FH,mul_comm→MF,mul_nonneg→IQ,toNat_of_nonneg→JF,zero_le_ofNat→JQ
open List renaming drop_eq_getElem_cons→MA,drop_eq_nil_of_le→JZ,drop_zero→FF,eq_nil_of_length_eq_zero→IV,getElem?_eq_some_iff→DM,getElem?_replicate→OO,getElem?_set_ne→JU,length_append→GQ,length_take→JO,replicate→DK,take_of_length_le→DT,take_zero→FM
open Nat renaming eq_zero_or_pos→IG,le_of_eq→IW,le_refl→CE,le_trans→CJ,lt_or_ge→CG,zero_le→EO
open Option renaming none→I,some→QZ
namespace Go.Proofs.YtjcanieccnljfaaGreat.X
open Go.RowKit Go.XB Go.XN Proofs.Tryz
attribute [local go_sem] L_ opAt N_ M_ Region.wanted yielded
attribute [local simp] N_ M_ MP.eq MP.agg MP.sl A0r
theorem C6k (n lo hi:Int) (w:AD):BL prog 222 #[RH RD n,RH RD lo,RH RD hi] w (A0b w (J (inB lo n hi))):=by
 rcases FH n lo with h|h;·have b:=A_ (by unfold inB;simp;omega:AH=inB lo n hi);have u:¬ (lo<=n):=oS;go_enter func222,ntmps222;go_wp2;go_ret;exact⟨Q_ b,Below.go⟩
 have b:=A_ (by unfold inB;simp[h]:decide (n<=hi)=inB lo n hi);go_enter func222,ntmps222;go_wp2;go_ret;exact⟨Q_ b,Below.go⟩

theorem B0s (A:Option AJ) (n c:Nat) (xs:List Int) (bs:List Nat) (w:AD) (h:Sl w A n c xs bs) :
  BL prog 229 #[S A n c] w (A0b w (S A (trim xs).length c)):=by
 have ah:n<=c:=h.2.1;have X:c<=BS:=h.2.2.1;unfold BS at X;have G:=A_ h.1;have W:=A_ h;clear h;go_enter func229,ntmps229;go_wp2_with fail;go_loopg [3] n (λg s wr=>s=RH RD g/\g<=n/\BI (trim (xs.take g)=trim xs)/\Bw w wr);case atStart=>exact⟨rfl,CE _,by rw[DT (IW G.o)];rfl,DI _ _⟩
 case round =>
  obtain⟨rfl,ag,D,u⟩:=hrel;rcases IG gk with O|O;·subst O;go_wp2;go_ret;refine⟨?_,u⟩;rw[<-D.o];rfl
  obtain⟨j,rfl⟩:∃ j,gk=j+1:=⟨gk - 1,oS⟩
  obtain⟨ab,ai,x,rfl,ac,T,_,ad⟩:=DL (BN W.o u) (by omega:j<n);have H:=A_ T;clear T;have ae:(j:Int)+1<=c:=oS;have af:(j:Int)<n:=oS;by_cases b:x=0
  ·have Z:(x==0)=AF:=by simp[b]
   have E:=A_ (by rw[<-D.o,take_step H.o,b,B1k]:trim (xs.take j)=trim xs);clear b;have aa:j<=n:=oS;go_wp2_with fail;go_roundg j;case measure=>omega
   case rel=>exact⟨gN,aa,E,u⟩
  have Z:(x==0)=AH:=by simp[b]
  have E:=A_ (by rw[<-D.o,take_step H.o,C0p b]:trim xs=xs.take (j+1));clear b;go_wp2;go_ret;refine⟨?_,u⟩;have Y:(trim xs).length=j+1:=by rw[E.o,JO];have:=G.o;omega
  rw[Y];rfl

theorem A6z (A:Option AJ) (n c b:Nat) (zs:List Int) (w:AD) (h:w.ownsRow b 3 1 (S A n c) n (zs.map (RH RD))) (hi:∀ x∈zs,I64 x) :
  BL prog 229 #[S A n c] w (λe w'=>e=.returned (S A (trim zs).length c)/\Bw w w'/\w'.ownsRow b 3 1 (S A (trim zs).length c) (trim zs).length ((trim zs).map (RH RD))):=by
 obtain⟨bs,D⟩:=A7v h hi;have E:zs.length=n:=by have:=h.1;simpa using this
 refine(B0s A n c zs bs w D).mono λe w' ⟨he,hb⟩=>⟨he,hb,?_⟩
 have u:=B3n zs;have:=C6w (I_ h hb) (k:=(trim zs).length) (by rw[<-E,u,JO];omega);rw[<-u]at this;exact this

theorem B5i (A:Option AJ) (n c:Nat) (xs:List Int) (bs:List Nat) (w:AD) (h:Sl w A n c xs bs) (G:(trim xs).length<=60) :
  BL prog 230 #[S A n c] w (A0b w (S A (trim xs).length c)):=by
 have D:=A_ h;generalize b:(trim xs).length=m at *;have u:=A_ b;have H:¬ ((60:Int)<m):=oS;clear h b;go_enter func230,ntmps230;go_wp2_with fail;have C:=B0s A n c xs bs w D;rw[u.o]at C;refine C.mono ?_;clear C;rintro _ O ⟨rfl,E⟩;go_wp2;go_ret;exact⟨rfl,E⟩

theorem C6j (q:Int) (h:0<=q):((q.toNat % 1000000000:Nat):Int)=q % 1000000000/\q.toNat / 1000000000=(q / 1000000000).toNat:=oS

theorem B1n (N:Int) (w:AD) (E:N<=9223372036854775807):BL prog 203 #[RH RD N] w (B3k w 3 (dig N.toNat)):=by
 have H:(dig N.toNat).length<=3:=A4r (by rw[pw_vals.2.2];omega);obtain⟨ak,af,ah,ai,aj⟩:=FB A6b;have ad:=A_ H;clear H;go_enter func203,ntmps203;go_wp2;go_loopw [0,3] (λm v wr=>∃ (q:Int) (b:List Int),m=RH RD q/\wr.ownsRow w.1.size 3 1 v b.length (b.map (RH RD))/\BI (dig N.toNat=b++dig q.toNat)/\q<=9223372036854775807/\Bw w wr) (λm v wr=>(DW m).toNat);case atStart=>exact⟨N,[],rfl,JP w #[] 0 (CE _) (EO _) rfl,rfl,E,Below.go⟩
 case round =>
  obtain⟨q,b,rfl,D,u,an,h⟩:=hrel;have ag:b.length<=3:=by have:=ad.o;rw[u.o,GQ]at this;omega
  by_cases am:0<q
  ·have Z:=A_ (by unfold BS;omega:b.length+1<=BS)
   have aa:=A_ (by omega:(b.length+1)*8<=140737488355328);have ab:=A_ h.size;have W:=A_ (by rw[u.o,B9g oS,(C6j q oS).1,(C6j q oS).2];simp:dig N.toNat=(b++[q % 1000000000])++dig (q / 1000000000).toNat);have X:=A_ (by omega:q / 1000000000<=9223372036854775807);have Y:=A_ (by simp[DW];omega:(DW (RH RD (q / 1000000000))).toNat<(DW (RH RD q)).toNat);clear E ag;go_wp2_with (first|(at_builtin;refine IZ _ rfl _ _ 35 rfl w.1.size 3 ak (RH RD 0) 1 8 underlying35 af ah ai aj rfl dE _ _ _ rfl (D.alloc _) ⟨wr.1.size,0,I⟩ 1 1 [RH RD (q % 1000000000)] rfl rfl (JR _ _ _) (λx hx=>iH) Z aa (A1a ab _) ?_;intro ao w3 O ae al));have G:=A2o h D ae;first
   |exact⟨⟨q / 1000000000,b++[q % 1000000000],rfl,A1t O,W,X,G⟩,Y⟩
   |exact⟨by(repeat apply FS);exact⟨⟨q / 1000000000,b++[q % 1000000000],rfl,A1t O,W,X,G⟩,rfl⟩,Y⟩
  have T:q.toNat=0:=oS;have e:=u.o;rw[T,show dig 0=[]from rfl,List.append_nil]at e;have ac:=A_ e;clear T e;go_wp2;go_ret;rw[ac.o];exact⟨_,rfl,D,h⟩

theorem B1m (N:Int) (w:AD) (h1:N<=9223372036854775807):BL prog 203 #[RH RD N] w (A0w w (dig N.toNat)) :=
 (B1n N w h1).mono λ_ _ ⟨_,he,ho,hb⟩=>by subst he;exact A2r ho rfl (A0j _).1.i64 hb

theorem A9p (A B:Option AJ) (n m c d:Nat) (xs ys:List Int) (bs ax:List Nat) (w:AD) (G:Sl w A n c xs bs) (ai:Sl w B m d ys ax) (an:XN.Can xs) (ao:XN.Can ys) :
  BL prog 227 #[S A n c,S B m d] w (A0b w (RH RD (sgn (val xs - val ys)))):=by
 have Z:=A_ G.1;have aa:=A_ ai.1;have aF:c<=BS:=G.2.2.1;have aM:n<=c:=G.2.1;unfold BS at aF;have au:=A_ G;have aw:=A_ ai;have ae:=A_ an;have af:=A_ ao;clear G ai an ao;by_cases ah:n=m
 ·subst ah
  go_enter func227,ntmps227;go_wp2_with fail;go_loopg [5] n (λg s wr=>s=RH RD ((g:Int) - 1)/\g<=n/\BI (xs.drop g=ys.drop g)/\Bw w wr);case atStart =>refine⟨rfl,CE _,?_,DI _ _⟩;show xs.drop n=ys.drop n;rw[JZ (IW Z.o),JZ (IW aa.o)]
  case round =>
   obtain⟨rfl,aH,h,D⟩:=hrel;rcases IG gk with am|am;·subst am;have e:=A_ (show(0:Int)=sgn (val xs - val ys) by have:=h.o;rw[FF,FF]at this;rw[this];unfold sgn;simp);have aN:¬ ((0:Int)<=((0:Nat):Int) - 1):=oS;go_wp2;go_ret;exact⟨A1x e,D⟩
   obtain⟨j,rfl⟩:∃ j,gk=j+1:=⟨gk - 1,oS⟩
   have al:(((j+1:Nat):Int) - 1)=j:=oS;rw[al];have ap:j<n:=aH;obtain⟨b1,o1,x,rfl,T,aq,aO,X⟩:=DL (BN au D) ap;obtain⟨b2,o2,y,rfl,W,ar,aQ,Y⟩:=DL (BN aw D) ap;have aj:=A_ aq;have ak:=A_ ar;have ab:=A_ (B8r ae.o.1 af.o.1 aj.o ak.o h.o (by rw[Z.o,aa.o]));have aL:(j:Int)<n:=oS;have aG:=h;clear h aq ar al;rcases Int.lt_trichotomy x y with H|H|H
   ·have e:=A_ (by rw[B2q (ab.o.1 H)]:(-1:Int)=sgn (val xs - val ys))
    go_wp2_with fail;refine A0g ?_;iterate 9 refine C_ _ ?_
    intro ac ad wa b h (u:BI _);simp at h;go_simp;clear h u;have E:=BH D b;go_wp2;go_ret;exact⟨A1x e,E⟩
   ·subst H
    have r:=A_ (show xs.drop j=ys.drop j by obtain⟨aI,ay⟩:=DM.1 aj;obtain⟨aJ,az⟩:=DM.1 ak;rw[MA aI,MA aJ,ay,az,aG.o]);have aK:j<=n:=oS;clear ab;go_wp2_with fail;refine A0g ?_;iterate 9 refine C_ _ ?_
    intro ac ad wa b h (u:BI _);simp at h;go_simp;clear h u;have E:=BH D b;have aD:=((F_ b).1 b1 (o1+j) T).trans X;have aE:=((F_ b).1 b2 (o2+j) W).trans Y;have aB:b1<wa.1.size:=by have:=b.size;omega
    have aC:b2<wa.1.size:=by have:=b.size;omega
    clear X Y T W b D;go_wp2_with fail;refine A0g ?_;iterate 9 refine C_ _ ?_
    intro ac ad wb b h (u:BI _);simp at h;go_simp;clear h u;have ag:=BH E b;go_wp2_with fail;go_roundg j;case measure=>omega
    case rel=>exact⟨rfl,aK,r,ag⟩
   have e:=A_ (by rw[C1l (ab.o.2 H)]:(1:Int)=sgn (val xs - val ys));have aP:¬ x<y:=oS;clear ab;go_wp2_with fail;refine A0g ?_;iterate 9 refine C_ _ ?_
   intro ac ad wa b h (u:BI _);simp at h;go_simp;clear h u;have E:=BH D b;have aD:=((F_ b).1 b1 (o1+j) T).trans X;have aE:=((F_ b).1 b2 (o2+j) W).trans Y;have aB:b1<wa.1.size:=by have:=b.size;omega
   have aC:b2<wa.1.size:=by have:=b.size;omega
   clear X Y T W b D;go_wp2_with fail;refine A0g ?_;iterate 9 refine C_ _ ?_
   intro ac ad wb b h (u:BI _);simp at h;go_simp;clear h u;have ag:=BH E b;go_wp2;go_ret;exact⟨A1x e,ag⟩
 have aR:((n:Int) != m)=AF:=oR;rcases CG n m with O|O
 ·have e:=A_ (by rw[B2q (XN.Can.lt_of_len ae.o.1 af.o (by rw[Z.o,aa.o];exact O))]:(-1:Int)=sgn (val xs - val ys));have aA:(n:Int)<m:=oS;clear ah O;go_enter func227,ntmps227;go_wp2;go_ret;exact⟨A1x e,Below.go⟩
 have e:=A_ (by rw[C1l (XN.Can.lt_of_len af.o.1 ae.o (by rw[Z.o,aa.o];omega))]:(1:Int)=sgn (val xs - val ys));have aA:¬ ((n:Int)<m):=oS;clear ah O;go_enter func227,ntmps227;go_wp2;go_ret;exact⟨A1x e,Below.go⟩

theorem E0n (x:Int):inB 0 x 999999999=!A9a x:=by
 unfold A9a inB;rw[Bool.eq_iff_iff];simp
theorem B3v (A:Option AJ) (n c:Nat) (xs:List Int) (bs:List Nat) (w:AD) (E:Sl w A n c xs bs) :
  BL prog 196 #[S A n c] w (A0b w (J (A3m xs))):=by
 have u:=A_ E.1;have Y:=A_ E;have ar:=E.2.1;have al:c<=BS:=E.2.2.1;unfold BS at al;clear E;go_enter func196,ntmps196;go_wp2_with fail;go_loopw [7] (λi wr=>∃ k:Nat,k<=n/\i=RH RD k/\BI ((xs.take k).any A9a=AH)/\Bw w wr) (λi wr=>n - (DW i).toNat);case atStart=>exact⟨0,EO _,rfl,by simp[BI],DI _ _⟩
 case round =>
  obtain⟨k,ap,rfl,O,b⟩:=hrel;rcases CG k n with D|D
  ·have aj:(k:Int)<n:=oS
   obtain⟨af,am,x,rfl,ah,ae,_,ai⟩:=DL (BN Y b) D;have Z:=A_ ae;clear ae;have aq:(k:Int)+1<=c:=oS;have G:=A_ (E0n x);cases h:A9a x
   ·rw[h]at G
    have r:=A_ (show(xs.take (k+1)).any A9a=AH from B6c Z O h);clear h;have ac:k+1<=n:=D;go_wp2_with fail;have C:=C6k x 0 999999999 wr;rw[G.o]at C;refine C.mono ?_;clear C;rintro _ an ⟨rfl,W⟩;have H:=BH b W;go_wp2_with fail;first
    |exact⟨⟨k+1,ac,rfl,r,H⟩,V_ D⟩
    |exact⟨by(repeat apply FS);exact⟨⟨k+1,ac,rfl,r,H⟩,rfl⟩,V_ D⟩
   rw[h]at G;have e:=A_ (show AH=A3m xs by rw[A5a];have:xs.any A9a=AF:=List.any_eq_true.2 ⟨x,List.mem_of_getElem? Z,h⟩;rw[this];simp);clear h;go_wp2_with fail;have C:=C6k x 0 999999999 wr;rw[G.o]at C;refine C.mono ?_;clear C;rintro _ an ⟨rfl,W⟩;have H:=BH b W;go_wp2;go_ret;exact⟨Q_ e,H⟩
  obtain rfl:k=n:=oS;have T:=O.o;rw[DT (IW u.o)]at T;have X:=A_ T;clear T O;have aj:¬ ((k:Int)<k):=oS;rcases CG 60 k with ab|ab;·have e:=A_ (by rw[A5a,u.o];simp;omega:AH=A3m xs);have ag:¬ ((k:Int)<=60):=oS;go_wp2;go_ret;exact⟨Q_ e,b⟩
  have ag:(k:Int)<=60:=oS;rcases IG k with aa|aa
  ·subst aa;have e:=A_ (by rw[A5a,X.o,IV u.o];rfl:AF=A3m xs);go_wp2;go_ret;exact⟨Q_ e,b⟩
  obtain⟨j,rfl⟩:∃ j,k=j+1:=⟨k - 1,oS⟩
  obtain⟨af,am,x,rfl,ah,ad,ao,ai⟩:=DL (BN Y.o b) (by omega:j<j+1);have ak:=A_ (by rw[List.getLast?_eq_getElem?,u.o];exact ad:xs.getLast?=QZ x);have au:((j:Int)+1==0)=AH:=oR;have e:=A_ (by rw[A5a,X.o,ak.o,u.o,decide_eq_true ab];simp;rfl:(x != 0)=A3m xs);clear ad;go_wp2;go_ret;exact⟨Q_ e,b⟩

theorem E2k {xs:List Int} {k:Nat} (h:xs.length<=k):val (xs.take (k+1))=val (xs.take k)+pw k*0:=by
 rw[DT h,DT oS];simp
theorem F2s {xs ys b:List Int} (u:XN.Can xs) (D:XN.Can ys) (H:Lims b) (E:b.length<=max xs.length ys.length) (O:val b=val xs+val ys):XN.Can b:=by
 apply XN.Can.of_len H;intro G;rw[O];have T:0<b.length:=List.length_pos_iff.2 G;have W:=S_ u.1;have X:=S_ D.1;rcases CG xs.length ys.length with h|h
 ·have:=D.len_le (by intro e;rw[e]at h;simp at h);have:=A6t (by omega:b.length - 1<=ys.length - 1);omega
 have:=u.len_le (by intro e;subst e;simp only[List.length_nil]at E h;omega);have:=A6t (by omega:b.length - 1<=xs.length - 1);omega

theorem D3w (A B:Option AJ) (n m c d:Nat) (xs ys:List Int) (bs aN:List Nat) (w:AD) (hx:Sl w A n c xs bs) (aE:Sl w B m d ys aN) (aJ:XN.Can xs) (aK:XN.Can ys) (aj:n<=1048576) (ai:m<=1048576) :
  BL prog 226 #[S A n c,S B m d] w (B3k w 3 (dig (val xs+val ys).toNat)):=by
 obtain⟨ax,ap,ar,au,aw⟩:=FB A6b;have aA:=A_ hx.1;have aq:=A_ aE.1;have aM:=A_ hx;have aG:=A_ aE;have ay:=A_ aJ;have ao:=A_ aK;clear hx aE aJ aK;go_enter func226,ntmps226;go_wp2_with fail;go_loopw [5,6,7] (λv y i wr=>∃ (k:Nat) (b:Int) (h:List Int),k<=n+m+1/\0<=b/\b<=1/\i=RH RD k/\y=RH RD b/\wr.ownsRow w.1.size 3 1 v h.length (h.map (RH RD))/\BI (h.length=k)/\BI (Lims h)/\BI (val h+pw k*b=val (xs.take k)+val (ys.take k))/\BI ((k<=n\/k<=m)\/(b=0/\XN.Can h))/\Bw w wr) (λv y i wr=>n+m+2 - (DW i).toNat);case atStart=>exact⟨0,0,[],EO _,oS,oS,rfl,rfl,JP w #[] 0 (CE _) (EO _) rfl,rfl,Lims.nil,by simp[BI,val,B0q],Or.inl (Or.inl (EO _)),Below.go⟩
 case round =>
  obtain⟨k,b,h,aL,a4,a5,rfl,rfl,X,ad,ag,ak,aI,W⟩:=hrel;have aV:h.length<=2097153:=by rw[ad.o];omega
  have al:=A_ (by unfold BS;omega:h.length+1<=BS);have am:=A_ (by omega:(h.length+1)*8<=140737488355328);have an:=A_ W.size;have Z:=A_ (by intro x;rw[GQ,ad.o];rfl:∀ x:Int,(h++[x]).length=k+1);have aY:=A_ aL;have a6:(k:Int)<=2097153:=oS;clear aV aL;rcases CG k n with Y|Y
  ·have aT:(k:Int)<n:=oS
   obtain⟨b1,o1,x,rfl,a2,aC,_,a3⟩:=DL (BN aM W) Y;have aD:=ay.1.get aC;have ah:=A_ (Y_ aC);have a7:=aD.1;have a8:=aD.2;clear aC aD;have O:=A_ (by omega:k+1<=n+m+1);have T:=A_ (by omega:n+m+2 - (k+1)<n+m+2 - k);rcases CG k m with E|E
   ·have az:(k:Int)<m:=oS
    obtain⟨b2,o2,y,rfl,aQ,ae,_,aS⟩:=DL (BN aG W) E;have af:=ao.1.get ae;have aa:=A_ (Y_ ae);have aW:=af.1;have aX:=af.2;clear ae af;have u:=A_ (by omega:0<=(b+x+y) / 1000000000/\(b+x+y) / 1000000000<=1);have L:=A_ (show Lims (h++[(b+x+y) % 1000000000])from ag.o.snoc oS oS);have r:=A_ (show val (h++[(b+x+y) % 1000000000])+pw (k+1)*((b+x+y) / 1000000000)=val (xs.take (k+1))+val (ys.take (k+1)) by rw[B6f ad.o,ah.o,aa.o];have:=ak.o;grind);have H:BI ((k+1<=n\/k+1<=m)\/((b+x+y) / 1000000000=0/\XN.Can (h++[(b+x+y) % 1000000000]))):=Or.inl (Or.inl Y);clear aj ai;go_wp2_with (first|(at_builtin;refine IZ _ rfl _ _ 35 rfl w.1.size 3 ax (RH RD 0) 1 8 underlying35 ap ar au aw rfl dE _ _ _ rfl (X.alloc _) ⟨wr.1.size,0,I⟩ 1 1 [RH RD ((b+x+y) % 1000000000)] rfl rfl (JR _ _ _) (λx hx=>iH) al am (A1a an _) ?_;intro aF w3 G ac aB));have D:=A2o W X ac;first
    |exact⟨⟨k+1,(b+x+y) / 1000000000,h++[(b+x+y) % 1000000000],O,u.1,u.2,rfl,rfl,A1t G,Z _,L,r,H,D⟩,T⟩
    |exact⟨by(repeat apply FS);exact⟨⟨k+1,(b+x+y) / 1000000000,h++[(b+x+y) % 1000000000],O,u.1,u.2,rfl,rfl,A1t G,Z _,L,r,H,D⟩,rfl⟩,T⟩
   ·have az:¬ ((k:Int)<m):=oS
    have aa:=A_ (E2k (k:=k) (by rw[aq.o];exact E));have u:=A_ (by omega:0<=(b+x) / 1000000000/\(b+x) / 1000000000<=1);have L:=A_ (show Lims (h++[(b+x) % 1000000000])from ag.o.snoc oS oS);have r:=A_ (show val (h++[(b+x) % 1000000000])+pw (k+1)*((b+x) / 1000000000)=val (xs.take (k+1))+val (ys.take (k+1)) by rw[B6f ad.o,ah.o,aa.o];have:=ak.o;grind);have H:BI ((k+1<=n\/k+1<=m)\/((b+x) / 1000000000=0/\XN.Can (h++[(b+x) % 1000000000]))):=Or.inl (Or.inl Y);clear aj ai E;go_wp2_with (first|(at_builtin;refine IZ _ rfl _ _ 35 rfl w.1.size 3 ax (RH RD 0) 1 8 underlying35 ap ar au aw rfl dE _ _ _ rfl (X.alloc _) ⟨wr.1.size,0,I⟩ 1 1 [RH RD ((b+x) % 1000000000)] rfl rfl (JR _ _ _) (λx hx=>iH) al am (A1a an _) ?_;intro aF w3 G ac aB));have D:=A2o W X ac;first
    |exact⟨⟨k+1,(b+x) / 1000000000,h++[(b+x) % 1000000000],O,u.1,u.2,rfl,rfl,A1t G,Z _,L,r,H,D⟩,T⟩
    |exact⟨by(repeat apply FS);exact⟨⟨k+1,(b+x) / 1000000000,h++[(b+x) % 1000000000],O,u.1,u.2,rfl,rfl,A1t G,Z _,L,r,H,D⟩,rfl⟩,T⟩
  have aT:¬ ((k:Int)<n):=oS;have ah:=A_ (E2k (k:=k) (by rw[aA.o];exact Y));rcases CG k m with E|E
  ·have az:(k:Int)<m:=oS
   have O:=A_ (by omega:k+1<=n+m+1);have T:=A_ (by omega:n+m+2 - (k+1)<n+m+2 - k);obtain⟨b2,o2,y,rfl,aQ,ae,_,aS⟩:=DL (BN aG W) E;have af:=ao.1.get ae;have aa:=A_ (Y_ ae);have aW:=af.1;have aX:=af.2;clear ae af;have u:=A_ (by omega:0<=(b+y) / 1000000000/\(b+y) / 1000000000<=1);have L:=A_ (show Lims (h++[(b+y) % 1000000000])from ag.o.snoc oS oS);have r:=A_ (show val (h++[(b+y) % 1000000000])+pw (k+1)*((b+y) / 1000000000)=val (xs.take (k+1))+val (ys.take (k+1)) by rw[B6f ad.o,ah.o,aa.o];have:=ak.o;grind);have H:BI ((k+1<=n\/k+1<=m)\/((b+y) / 1000000000=0/\XN.Can (h++[(b+y) % 1000000000]))):=Or.inl (Or.inr E);clear aj ai Y;go_wp2_with (first|(at_builtin;refine IZ _ rfl _ _ 35 rfl w.1.size 3 ax (RH RD 0) 1 8 underlying35 ap ar au aw rfl dE _ _ _ rfl (X.alloc _) ⟨wr.1.size,0,I⟩ 1 1 [RH RD ((b+y) % 1000000000)] rfl rfl (JR _ _ _) (λx hx=>iH) al am (A1a an _) ?_;intro aF w3 G ac aB));have D:=A2o W X ac;first
   |exact⟨⟨k+1,(b+y) / 1000000000,h++[(b+y) % 1000000000],O,u.1,u.2,rfl,rfl,A1t G,Z _,L,r,H,D⟩,T⟩
   |exact⟨by(repeat apply FS);exact⟨⟨k+1,(b+y) / 1000000000,h++[(b+y) % 1000000000],O,u.1,u.2,rfl,rfl,A1t G,Z _,L,r,H,D⟩,rfl⟩,T⟩
  have az:¬ ((k:Int)<m):=oS;rcases FH 0 b with aR|aR
  ·obtain rfl:b=1:=oS
   have aU:=A_ (show k=n\/k=m by rcases aI with(ab|ab)|ab<;>omega);have aa:=A_ (E2k (k:=k) (by rw[aq.o];exact E));have O:=A_ (show k+1<=n+m+1 by rcases aU with ab|ab<;>omega);have T:=A_ (by have:=O.o;omega:n+m+2 - (k+1)<n+m+2 - k);have L:=A_ (show Lims (h++[1])from ag.o.snoc oS oS);have r:=A_ (show val (h++[1])+pw (k+1)*0=val (xs.take (k+1))+val (ys.take (k+1)) by have:=B6f ad 1;rw[show(1:Int) % 1000000000=1 from rfl,show(1:Int) / 1000000000=0 from rfl]at this;rw[this,ah.o,aa.o];have:=ak.o;grind);have H:BI ((k+1<=n\/k+1<=m)\/((0:Int)=0/\XN.Can (h++[1]))):=Or.inr ⟨rfl,Can.snoc ag.o oS oS⟩;clear aj ai Y E;go_wp2_with (first|(at_builtin;refine IZ _ rfl _ _ 35 rfl w.1.size 3 ax (RH RD 0) 1 8 underlying35 ap ar au aw rfl dE _ _ _ rfl (X.alloc _) ⟨wr.1.size,0,I⟩ 1 1 [RH RD (1)] rfl rfl (JR _ _ _) (λx hx=>iH) al am (A1a an _) ?_;intro aF w3 G ac aB));have D:=A2o W X ac;first
   |exact⟨⟨k+1,0,h++[1],O,II 0,JQ 1,rfl,rfl,A1t G,Z _,L,r,H,D⟩,T⟩
   |exact⟨by(repeat apply FS);exact⟨⟨k+1,0,h++[1],O,II 0,JQ 1,rfl,rfl,A1t G,Z _,L,r,H,D⟩,rfl⟩,T⟩
  obtain rfl:b=0:=oS;have aO:=A_ (show h=dig (val xs+val ys).toNat by
   have ab:=ak.o;rw[DT (by rw[aA.o];exact Y),DT (by rw[aq.o];exact E),Int.mul_zero,Int.add_zero]at ab;have aZ:=S_ ay.1;have a1:=S_ ao.1;have aP:XN.Can h:=by
    rcases aI with aH|⟨_,aH⟩;·refine F2s ay ao ag ?_ ab;rw[aA.o,aq.o,ad.o];omega
    exact aH
   exact aP.of_val oS)
  clear aj ai;go_wp2;go_ret;rw[<-aO.o];exact⟨_,rfl,X,W⟩

def E0r (w:AD) (t:TypeId) (xs:List Int) (e:Ending) (w':AD):Prop :=
 ∃ g c,e=.returned (S (QZ ⟨g,0,I⟩) xs.length c)/\w'.ownsRow w.1.size t 1 (S (QZ ⟨g,0,I⟩) xs.length c) xs.length (xs.map (RH RD))/\Bw w w'

theorem C8l (A B:Option AJ) (n m c d:Nat) (xs ys:List Int) (bs aJ:List Nat) (w:AD) (hx:Sl w A n c xs bs) (ar:Sl w B m d ys aJ) (aB:XN.Can xs) (aC:XN.Can ys) (ai:n<=1048576) (aE:val ys<=val xs) :
  BL prog 228 #[S A n c,S B m d] w (E0r w 3 (dig (val xs - val ys).toNat)):=by
 obtain⟨am,ah,aj,ak,al⟩:=FB A6b;have aF:=A_ hx.1;have aP:=A_ ar.1;have aH:=A_ hx;have aI:=A_ ar;have ay:=A_ aB;have az:=A_ aC;have aA:=A_ aE;clear hx ar aB aC aE;go_enter func228,ntmps228;go_wp2_with fail;go_loopw [5,6,12] (λv y i wr=>∃ (k:Nat) (bw:Int) (b:List Int),k<=n/\0<=bw/\bw<=1/\i=RH RD k/\y=RH RD bw/\wr.ownsRow w.1.size 3 1 v b.length (b.map (RH RD))/\v≠S I 0 0/\BI (b.length=k)/\BI (Lims b)/\BI (val b=val (xs.take k) - val (ys.take k)+pw k*bw)/\Bw w wr) (λv y i wr=>n - (DW i).toNat);case atStart=>exact⟨0,0,[],EO _,oS,oS,rfl,rfl,JP w #[] 0 (CE _) (EO _) rfl,(λh=>by cases h),rfl,Lims.nil,by simp[BI,val],Below.go⟩
 case round =>
  obtain⟨k,bw,b,aO,a1,a2,rfl,rfl,H,aT,Z,Y,ac,W⟩:=hrel;rcases CG k n with D|D
  ·have a6:(k:Int)<n:=oS
   obtain⟨b1,o1,x,rfl,aY,ap,_,a3⟩:=DL (BN aH W) D;have aq:=ay.1.get ap;have ag:=A_ (Y_ ap);have a7:=aq.1;have a8:=aq.2;clear ap aq;have aR:b.length<=1048576:=by rw[Z.o];omega
   have ad:=A_ (by unfold BS;omega:b.length+1<=BS);have ae:=A_ (by omega:(b.length+1)*8<=140737488355328);have af:=A_ W.size;have a5:(k:Int)<=1048576:=oS;have O:k+1<=n:=D;have T:=A_ (by intro x;rw[GQ,Z.o];rfl:∀ x:Int,(b++[x]).length=k+1);clear aR;rcases CG k m with ab|ab
   ·have aD:(k:Int)<m:=oS
    obtain⟨b2,o2,y,rfl,aZ,au,_,a4⟩:=DL (BN aI W) ab;have aw:=az.1.get au;have aa:=A_ (Y_ au);have a9:=aw.1;have ba:=aw.2;clear au aw;rcases FH (x - bw - y) 0 with ao|ao
    ·have L:=A_ (show Lims (b++[x - bw - y+1000000000])from Y.o.snoc oS oS)
     have r:=A_ (show val (b++[x - bw - y+1000000000])=val (xs.take (k+1)) - val (ys.take (k+1))+pw (k+1)*1 by rw[A4s,Z.o,ac.o,ag.o,aa.o,A1l];grind);clear ai;go_wp2_with (first|(at_builtin;refine IZ _ rfl _ _ 35 rfl w.1.size 3 am (RH RD 0) 1 8 underlying35 ah aj ak al rfl dE _ _ _ rfl (H.alloc _) ⟨wr.1.size,0,I⟩ 1 1 [RH RD (x - bw - y+1000000000)] rfl rfl (JR _ _ _) (λx hx=>iH) ad ae (A1a af _) ?_;intro ax w3 G X E));have u:=A2o W H X;first
     |exact⟨⟨k+1,1,b++[x - bw - y+1000000000],O,JQ 1,II 1,rfl,rfl,A1t G,(λh=>absurd (E.1 h).2 dE),T _,L,r,u⟩,V_ D⟩
     |exact⟨by(repeat apply FS);exact⟨⟨k+1,1,b++[x - bw - y+1000000000],O,JQ 1,II 1,rfl,rfl,A1t G,(λh=>absurd (E.1 h).2 dE),T _,L,r,u⟩,rfl⟩,V_ D⟩
    ·have aQ:¬ (x - bw - y<0):=oS
     have L:=A_ (show Lims (b++[x - bw - y])from Y.o.snoc oS oS);have r:=A_ (show val (b++[x - bw - y])=val (xs.take (k+1)) - val (ys.take (k+1))+pw (k+1)*0 by rw[A4s,Z.o,ac.o,ag.o,aa.o,A1l];grind);clear ai;go_wp2_with (first|(at_builtin;refine IZ _ rfl _ _ 35 rfl w.1.size 3 am (RH RD 0) 1 8 underlying35 ah aj ak al rfl dE _ _ _ rfl (H.alloc _) ⟨wr.1.size,0,I⟩ 1 1 [RH RD (x - bw - y)] rfl rfl (JR _ _ _) (λx hx=>iH) ad ae (A1a af _) ?_;intro ax w3 G X E));have u:=A2o W H X;first
     |exact⟨⟨k+1,0,b++[x - bw - y],O,II 0,JQ 1,rfl,rfl,A1t G,(λh=>absurd (E.1 h).2 dE),T _,L,r,u⟩,V_ D⟩
     |exact⟨by(repeat apply FS);exact⟨⟨k+1,0,b++[x - bw - y],O,II 0,JQ 1,rfl,rfl,A1t G,(λh=>absurd (E.1 h).2 dE),T _,L,r,u⟩,rfl⟩,V_ D⟩
   ·have aD:¬ ((k:Int)<m):=oS
    have aa:=A_ (E2k (k:=k) (by rw[aP.o];exact ab));rcases FH (x - bw) 0 with ao|ao
    ·have L:=A_ (show Lims (b++[x - bw+1000000000])from Y.o.snoc oS oS)
     have r:=A_ (show val (b++[x - bw+1000000000])=val (xs.take (k+1)) - val (ys.take (k+1))+pw (k+1)*1 by rw[A4s,Z.o,ac.o,ag.o,aa.o,A1l];grind);clear ai ab;go_wp2_with (first|(at_builtin;refine IZ _ rfl _ _ 35 rfl w.1.size 3 am (RH RD 0) 1 8 underlying35 ah aj ak al rfl dE _ _ _ rfl (H.alloc _) ⟨wr.1.size,0,I⟩ 1 1 [RH RD (x - bw+1000000000)] rfl rfl (JR _ _ _) (λx hx=>iH) ad ae (A1a af _) ?_;intro ax w3 G X E));have u:=A2o W H X;first
     |exact⟨⟨k+1,1,b++[x - bw+1000000000],O,JQ 1,II 1,rfl,rfl,A1t G,(λh=>absurd (E.1 h).2 dE),T _,L,r,u⟩,V_ D⟩
     |exact⟨by(repeat apply FS);exact⟨⟨k+1,1,b++[x - bw+1000000000],O,JQ 1,II 1,rfl,rfl,A1t G,(λh=>absurd (E.1 h).2 dE),T _,L,r,u⟩,rfl⟩,V_ D⟩
    ·have aQ:¬ (x - bw<0):=oS
     have L:=A_ (show Lims (b++[x - bw])from Y.o.snoc oS oS);have r:=A_ (show val (b++[x - bw])=val (xs.take (k+1)) - val (ys.take (k+1))+pw (k+1)*0 by rw[A4s,Z.o,ac.o,ag.o,aa.o,A1l];grind);clear ai ab;go_wp2_with (first|(at_builtin;refine IZ _ rfl _ _ 35 rfl w.1.size 3 am (RH RD 0) 1 8 underlying35 ah aj ak al rfl dE _ _ _ rfl (H.alloc _) ⟨wr.1.size,0,I⟩ 1 1 [RH RD (x - bw)] rfl rfl (JR _ _ _) (λx hx=>iH) ad ae (A1a af _) ?_;intro ax w3 G X E));have u:=A2o W H X;first
     |exact⟨⟨k+1,0,b++[x - bw],O,II 0,JQ 1,rfl,rfl,A1t G,(λh=>absurd (E.1 h).2 dE),T _,L,r,u⟩,V_ D⟩
     |exact⟨by(repeat apply FS);exact⟨⟨k+1,0,b++[x - bw],O,II 0,JQ 1,rfl,rfl,A1t G,(λh=>absurd (E.1 h).2 dE),T _,L,r,u⟩,rfl⟩,V_ D⟩
  obtain rfl:k=n:=oS;have aS:=A_ (show trim b=dig (val xs - val ys).toNat by
   have an:=ac.o;rw[DT (IW aF.o)]at an;have aK:ys.length<=k:=by
    rcases CG xs.length ys.length with h|h;·have:=Can.lt_of_len ay.1 az h;have:=aA.o;omega
    rw[<-aF.o];exact h
   rw[DT aK]at an;have aL:=A4j Y;rw[Z.o]at aL;have aW:=aA.o;have aN:bw=0:=by
    rcases FH 0 bw with h|h;·have:bw=1:=oS;subst this;omega
    omega
   rw[aN]at an;exact A8i Y.o oS)
  have aD:¬ ((k:Int)<k):=oS;have aM:=A_ (show ∀ x∈b,I64 x from Y.i64);rcases A6k H with⟨e,_⟩|⟨aV,aU,rfl,_⟩
  ·exact absurd e aT
  clear D aO;go_wp2_with fail;refine(A6z _ _ _ _ b _ H aM).mono ?_;rintro _ w3 ⟨rfl,aX,aG⟩;have u:Bw w w3:=Below.go;go_wp2;go_ret;rw[aS.o]at aG ⊢;exact⟨_,_,rfl,aG,u⟩

theorem C4j (A B:Option AJ) (n m c d:Nat) (xs ys:List Int) (bs ds:List Nat) (w:AD) (hx:Sl w A n c xs bs) (hy:Sl w B m d ys ds) (hcx:XN.Can xs) (hcy:XN.Can ys) (hn:n<=1048576) (hle:val ys<=val xs) :
  BL prog 228 #[S A n c,S B m d] w (B3k w 3 (dig (val xs - val ys).toNat)) :=
 (C8l A B n m c d xs ys bs ds w hx hy hcx hcy hn hle).mono λ_ _ ⟨_,_,he,ho,hb⟩=>⟨_,he,ho,hb⟩

theorem B5m (A B:Option AJ) (n m c d:Nat) (xs ys:List Int) (bs aV:List Nat) (w:AD) (aj:Sl w A n c xs bs) (am:Sl w B m d ys aV) (aB:Lims xs) (aC:Lims ys) (bl:n<=1048576) (bk:m<=1048576) :
  BL prog 202 #[S A n c,S B m d] w (B3k w 3 (dig (val xs*val ys).toNat)):=by
 obtain⟨aO,aE,aK,aL,aM⟩:=FB A6b;have aF:=A_ aj.1;have aG:=A_ am.1;have aQ:=A_ aj;have aS:=A_ am;have aq:=A_ aB;have ar:=A_ aC;have b2:=A_ (by rw[aM];omega:aO.bytes*(n+m)<=281474976710656);have aU:=A_ (by unfold BS;omega:n+m<=BS);clear aj am aB aC;rcases IG n with af|af;·subst af;have e:=A_ (by rw[IV aF.o];simp[val];rfl:dig (val xs*val ys).toNat=[]);go_enter func202,ntmps202;go_wp2;go_ret;rw[e.o];exact⟨_,rfl,MT _ _ _ _,Below.go⟩
 rcases IG m with hm0|hm0;·subst hm0;have e:=A_ (by rw[IV aG.o];simp[val];rfl:dig (val xs*val ys).toNat=[]);have aJ:((n:Int)==0)=AH:=oR;go_enter func202,ntmps202;go_wp2;go_ret;rw[e.o];exact⟨_,rfl,MT _ _ _ _,Below.go⟩
 have aJ:((n:Int)==0)=AH:=oR;have be:((m:Int)==0)=AH:=oR;go_enter func202,ntmps202;go_wp2_with (at_make;(refine KK _ rfl _ _ 35 rfl w.1.size 3 aO (RH RD 0) 1 underlying35 aE aK aL .i64 .i64 _ _ (n+m) rfl rfl rfl rfl b2 aU (CE _) ?_);intro bq ag aD);rw[A8c]at ag;have T:=(DI w.1.size w).grown aD (CE _) (by intro k ac;cases ac);clear aD aJ be af hm0;go_loopw [28] (λi wr=>∃ (k:Nat) (zs:List Int),k<=n/\i=RH RD k/\wr.ownsRow w.1.size 3 1 (S (QZ ⟨w.1.size,0,I⟩) (n+m) (n+m)) (n+m) (zs.map (RH RD))/\BI (Lims zs)/\BI (∀ j,k+m<=j->j<n+m->zs[j]?=QZ 0)/\BI (val zs=val (xs.take k)*val ys)/\Bw w wr) (λi wr=>n - (DW i).toNat);case atStart=>exact⟨0,_,EO _,rfl,ag,Lims.zeros _,λj _ a5=>by rw[OO,if_pos a5],by show val _=val (xs.take 0)*val ys;rw[A9k,FM];simp[val],T⟩
 case round =>
  obtain⟨i,zs,ac,rfl,u,Z,aN,ai,aa⟩:=hrel;clear ag T aE aK aL aM;obtain⟨aP,rfl⟩:∃ aP:AD,aP=wr:=⟨_,rfl⟩
  rcases CG i n with H|H
  ·have bh:(i:Int)<n:=oS
   obtain⟨b1,o1,x,rfl,T,ak,_,az⟩:=DL aQ H;have al:=aq.get ak;have aR:=A_ ak;have a9:=al.1;have ba:=al.2;clear al ak;have aW:=(aa.cell (p:=⟨b1,o1+i,I⟩) T).trans az;have ax:=A_ u;clear u;go_wp2_with fail;go_loopw [8,35] (λy j wr=>∃ (k:Nat) (b:Int) (zs:List Int),k<=m/\0<=b/\b<1000000000/\j=RH RD k/\y=RH RD b/\wr.ownsRow w.1.size 3 1 (S (QZ ⟨w.1.size,0,I⟩) (n+m) (n+m)) (n+m) (zs.map (RH RD))/\BI (Lims zs)/\BI (∀ j,i+m<=j->j<n+m->zs[j]?=QZ 0)/\BI (val zs+pw (i+k)*b=val (xs.take i)*val ys+pw i*(x*val (ys.take k)))/\Bw w wr) (λy j wr=>m - (DW j).toNat);case atStart=>exact⟨0,0,zs,EO _,oS,oS,rfl,rfl,ax.o,Z,aN,by show val zs+pw (i+0)*0=val (xs.take i)*val ys+pw i*(x*val (ys.take 0));rw[ai.o,FM];simp[val],aa⟩
   case round =>
    obtain⟨k,b,us,bj,aY,aZ,rfl,rfl,u,ae,ap,aI,ab⟩:=hrel;clear ax Z aN ai aa az T aW;rcases CG k m with G|G
    ·have a7:(k:Int)<m:=oS
     obtain⟨b2,o2,y,rfl,ay,an,_,aA⟩:=DL aS G;have ao:=ar.get an;have aT:=A_ an;have bc:=ao.1;have bd:=ao.2;clear ao an;have bg:=(ab.cell (p:=⟨b2,o2+k,I⟩) ay).trans aA;obtain⟨h,ah,bo,bp⟩:=ae.o.num (j:=i+k) (by rw[A2n u];omega);have X:=A_ ah;obtain⟨a2,aX,a1⟩:=A0t u ah;clear ah aA ay;obtain⟨bm,bn⟩:=C0c a9 ba bc bd;have a6:(k:Int)<=1048576:=oS;have a3:(i:Int)<=1048576:=oS;have a4:(i:Int)+k<n+m:=oS;have W:k+1<=m:=G;have au:=A_ (by omega:0<=(h+x*y+b) / 1000000000);have aw:=A_ (by omega:(h+x*y+b) / 1000000000<1000000000);have L:=A_ (ae.o.set (i+k) (u:=(h+x*y+b) % 1000000000) oS oS);have O:=A_ (show ∀ j,i+m<=j->j<n+m->(us.set (i+k) ((h+x*y+b) % 1000000000))[j]?=QZ 0 by intro j E Y;rw[JU oS];exact ap j E Y);have r:=A_ (show val (us.set (i+k) ((h+x*y+b) % 1000000000))+pw (i+(k+1))*((h+x*y+b) / 1000000000)=val (xs.take i)*val ys+pw i*(x*val (ys.take (k+1))) by rw[show i+(k+1)=i+k+1 from rfl,B3g X.o aI.o,Y_ aT.o,B0f];grind);have R:=A_ (A3a u (i+k) ((h+x*y+b) % 1000000000));have D:=A_ (ab.setCell (p:=⟨w.1.size,i+k,I⟩) (CE _) (RH RD ((h+x*y+b) % 1000000000)));go_wp2_with fail;first
     |exact⟨⟨k+1,(h+x*y+b) / 1000000000,_,W,au,aw,rfl,rfl,R,L,O,r,D⟩,V_ G⟩
     |exact⟨by(repeat apply FS);exact⟨⟨k+1,(h+x*y+b) / 1000000000,_,W,au,aw,rfl,rfl,R,L,O,r,D⟩,rfl⟩,V_ G⟩
    ·have ad:k=m:=oS
     subst ad;have a7:¬ ((k:Int)<k):=oS;have X:=A_ (ap.o (i+k) (CE _) oS);obtain⟨a2,aX,a1⟩:=A0t u X;have a6:(k:Int)<=1048576:=oS;have a3:(i:Int)<=1048576:=oS;have a4:(i:Int)+k<n+k:=oS;have W:i+1<=n:=H;have L:=A_ (ae.set (i+k) (u:=b) aY aZ);have O:=A_ (show ∀ j,i+1+k<=j->j<n+k->(us.set (i+k) b)[j]?=QZ 0 by intro j E Y;rw[JU oS];exact ap.o j oS Y);have r:=A_ (show val (us.set (i+k) b)=val (xs.take (i+1))*val ys by have E:=aI.o;rw[DT (IW aG.o)]at E;rw[B3w X.o,Y_ aR.o];grind);have R:=A_ (A3a u (i+k) b);have D:=A_ (ab.setCell (p:=⟨w.1.size,i+k,I⟩) (CE _) (RH RD b));clear G;go_wp2_with fail;first
     |exact⟨⟨i+1,_,W,rfl,R,L,O,r,D⟩,V_ H⟩
     |exact⟨by(repeat apply FS);exact⟨⟨i+1,_,W,rfl,R,L,O,r,D⟩,rfl⟩,V_ H⟩
  have ad:i=n:=oS;subst ad;have a8:=A_ (show trim zs=dig (val xs*val ys).toNat by have E:=ai.o;rw[DT (IW aF.o)]at E;have Y:=IQ (S_ aq) (S_ ar);exact A8i Z.o oS);have bi:¬ ((i:Int)<i):=oS;clear H ac;go_wp2_with fail;refine(A6z _ _ _ _ zs _ u Z.i64).mono ?_;rintro _ w3 ⟨rfl,bf,aH⟩;have D:Bw w w3:=Below.go;go_wp2;go_ret;rw[a8.o]at aH ⊢;exact⟨_,rfl,aH,D⟩

theorem C8s (A:Option AJ) (n c:Nat) (xs:List Int) (bs:List Nat) (d:Int) (w:AD) (T:Sl w A n c xs bs) (ac:Lims xs) (H:0<d) (aL:d<1000000000) (aQ:n<=1048576) :
  BL prog 240 #[S A n c,RH RD d] w (C3a w (dig (val xs / d).toNat) (val xs % d)):=by
 obtain⟨an,ae,ak,al,am⟩:=FB A6b;have aB:=A_ T.1;have ar:=A_ T;have ap:=A_ ac;have b2:=A_ (by rw[am];omega:an.bytes*n<=281474976710656);have aw:=A_ (by unfold BS;omega:n<=BS);clear T ac;go_enter func240,ntmps240;go_wp2_with (at_make;(refine KK _ rfl _ _ 35 rfl w.1.size 3 an (RH RD 0) 1 underlying35 ae ak al .i64 .i64 _ _ n rfl rfl rfl rfl b2 aw (CE _) ?_);intro aU O ad);rw[A8c]at O;have b:=(DI w.1.size w).grown ad (CE _) (by intro k aA;cases aA);clear ad;go_loopw [7,8] (λr i wr=>∃ (K:Nat) (q:Int) (zs:List Int),K<=n/\i=RH RD ((K:Int) - 1)/\r=RH RD q/\0<=q/\q<d/\wr.ownsRow w.1.size 3 1 (S (QZ ⟨w.1.size,0,I⟩) n n) n (zs.map (RH RD))/\BI (Lims zs)/\BI (val (zs.drop K)*d+q=val (xs.drop K))/\Bw w wr) (λr i wr=>(DW i+1).toNat);case atStart =>refine⟨n,0,_,CE _,rfl,rfl,II _,H,O,Lims.zeros _,?_,b⟩;show val ((DK n (0:Int)).drop n)*d+0=val (xs.drop n);rw[JZ sI,JZ (IW aB.o)];simp[val]
 case round =>
  obtain⟨K,q,zs,aa,rfl,rfl,ag,ah,u,h,aj,G⟩:=hrel;clear O b ae ak al am;rcases IG K with E|E;·subst E;have e:=A_ (show dig (val xs / d).toNat=trim zs/\val xs % d=q by have Z:=aj.o;rw[FF,FF]at Z;obtain⟨ax,ay⟩:=D2a H Z ag ah;refine⟨?_,ay⟩;rw[ax];exact(A8i h (JF (S_ h)).symm).symm);have aS:¬ ((0:Int)<=((0:Nat):Int) - 1):=oS;go_wp2_with fail;refine(A6z _ _ _ _ zs _ u h.i64).mono ?_;rintro _ w3 ⟨rfl,aI,aC⟩;have D:Bw w w3:=Below.go;go_wp2;go_ret2;rw[e.o.1,e.o.2];exact⟨_,rfl,aC,D⟩
  ·obtain⟨j,rfl⟩:∃ j,K=j+1:=⟨K - 1,oS⟩
   have Y:(((j+1:Nat):Int) - 1)=j:=oS;rw[Y];have az:j<n:=aa;obtain⟨b1,o1,x,rfl,b,W,_,ab⟩:=DL ar az;have X:=ap.get W;have au:=A_ W;have aF:=X.1;have aG:=X.2;have aJ:=(G.cell (p:=⟨b1,o1+j,I⟩) b).trans ab;have aH:b1<wr.1.size:=by have:=G.size;omega
   clear X W ab b;obtain⟨aT,ai,aD,aE⟩:=h.o.num (j:=j) (by rw[A2n u];omega);obtain⟨aO,aK,aN⟩:=A0t u ai;have aq:=A_ (by rw[A2n u];omega:j<zs.length);clear ai aD aE;have Q:=A_ (D9u H ag ah aF aG);have Q1:0<=q*1000000000+x:=oS;have r:=A_ (D4g aq au aj);have L:=A_ (h.set j Q.1 Q.2.1);have R:=A_ (A3a u j ((q*1000000000+x) / d));have D:=A_ (G.setCell (p:=⟨w.1.size,j,I⟩) (CE _) (RH RD ((q*1000000000+x) / d)));have aP:(j:Int)<n:=oS;have aR:(n:Int)<=1048576:=oS;have af:j<=n:=oS;have aM:1<=d:=oS;have ao:(DW (RH RD ((j:Int) - 1))+1).toNat<(DW (RH RD (j:Int))+1).toNat:=by simp[DW]
   clear Y aa E;go_wp2_with fail;first
   |exact⟨⟨j,(q*1000000000+x) % d,_,af,rfl,rfl,Q.2.2.1,Q.2.2.2,R,L,r,D⟩,ao⟩
   |exact⟨by(repeat apply FS);exact⟨⟨j,(q*1000000000+x) % d,_,af,rfl,rfl,Q.2.2.1,Q.2.2.2,R,L,r,D⟩,rfl⟩,ao⟩

theorem B9p (w:AD) (xs:List Int) (hm:xs.length<=BS):(w.alloc (.cells (xs.map (RH RD)).toArray 3)).ownsRow w.1.size 3 1 (S (QZ ⟨w.1.size,0,I⟩) xs.length xs.length) xs.length (xs.map (RH RD)) :=
 ⟨sI,.inr ⟨w.1.size,xs.length,_,rfl,CE _,heap_alloc_new w _,CE _,hm,sI,by simp[<-List.map_take]⟩⟩

theorem E3u {a:Int}:sgn a<=0↔a<=0:=by unfold sgn;split<;>(try split)<;>omega

theorem C8c (A B:Option AJ) (n m c d:Nat) (D ys:List Int) (bs aR:List Nat) (w:AD) (aJ:Sl w A n c D bs) (aK:Sl w B m d ys aR) (al:XN.Can D) (aD:XN.Can ys) (aF:m<=65536) (aL:0<val ys) (aV:val D<1000000000*val ys) :
  BL prog 241 #[S A n c,S B m d] w (A0b w (RH RD (val D / val ys))):=by
 have ax:=A_ aJ;have ay:=A_ aK;have ar:=A_ al;have au:=A_ aD;have az:=A_ aL;have aW:=S_ al.1;have aO:=A_ (by omega:0*val ys<=val D);have aP:=A_ (by omega:val D<(999999999+1)*val ys);clear aJ aK al aD aL aV aW;go_enter func241,ntmps241;go_wp2_with fail;go_loopw [5,6] (λa b wr=>∃ h u:Int,a=RH RD h/\b=RH RD u/\0<=h/\h<=u/\u<=999999999/\BI (h*val ys<=val D)/\BI (val D<(u+1)*val ys)/\Bw w wr) (λa b wr=>(DW b - DW a).toNat);case atStart=>exact⟨0,999999999,rfl,rfl,oS,oS,oS,aO,aP,DI _ _⟩
 case round =>
  obtain⟨h,u,rfl,rfl,aA,a2,aB,am,hh,Y⟩:=hrel;rcases FH h u with aS|aS
  ·obtain⟨q,aG⟩:∃ q,q=(h+u+1) / 2:=⟨_,rfl⟩
   have a3:h<q:=oS;have aH:q<=u:=oS;have aE:=A_ (show(dig q.toNat).length<=65536 from CJ (A4r (k:=1) (by rw[pw_vals.1];omega)) dE);have aI:q<=9223372036854775807:=oS;have aN:=A_ (by rw[A1j,JF oS,MF]:val ys*val (dig q.toNat)=q*val ys);have aw:=A_ (show val (dig (val ys*val (dig q.toNat)).toNat)=q*val ys by rw[A1j,aN.o,JF (IQ oS (by have:=az.o;omega))]);rcases FH (val D) (q*val ys)with ad|ad
   ·have X:=A_ (by rw[E3u];omega:¬ (sgn (q*val ys - val D)<=0))
    have r:=A_ (by rw[Int.sub_add_cancel];exact ad:val D<(q - 1+1)*val ys);have ag:=A_ (by simp[DW];omega:(DW (RH RD (q - 1)) - DW (RH RD h)).toNat<(DW (RH RD u) - DW (RH RD h)).toNat);have af:h<=q - 1:=oS;have aM:q - 1<=999999999:=oS;clear ad;subst aG;go_wp2_with fail;refine(B1m ((h+u+1) / 2) wr aI).mono ?_;rintro _ ap ⟨ah,n1,aj,aX,rfl,O,ao,Z⟩;have T:=A_ O;have an:=A_ (by rw[<-O.1];exact aE:n1<=65536);clear O ao;have E:=BH Y Z;go_wp2_with fail;refine(B5m B ah m n1 d aj ys _ _ _ ap (BN ay E) T au.1 (A0j _).1 (CJ aF dE) (CJ an dE)).mono ?_;rintro _ aq ⟨v2,rfl,H,aa⟩;obtain⟨ai,ak,rfl⟩:=C4a H;obtain⟨aY,ae⟩:=A7v H (A0j _).1.i64;have W:=A_ ae;clear ae H;have G:=BH E aa;go_wp2_with fail;have C:=A9p ai A _ n ak c _ D _ _ aq W (BN ax G) (A0j _) ar;rw[aw.o]at C;refine C.mono ?_;clear C;rintro _ w3 ⟨rfl,ab⟩;have ac:=BH G ab;have aQ:=X.o;generalize (sgn ((h+u+1) / 2*val ys - val D))=aZ at *;clear Y Z aa ab E G X T W;go_wp2_with fail;first
    |exact⟨⟨h,(h+u+1) / 2 - 1,rfl,rfl,aA,af,aM,am,r,ac⟩,ag⟩
    |exact⟨by(repeat apply FS);exact⟨⟨h,(h+u+1) / 2 - 1,rfl,rfl,aA,af,aM,am,r,ac⟩,rfl⟩,ag⟩
   ·have X:=A_ (by rw[E3u];omega:sgn (q*val ys - val D)<=0)
    have r:=A_ (show q*val ys<=val D from ad);have ag:=A_ (by simp[DW];omega:(DW (RH RD u) - DW (RH RD q)).toNat<(DW (RH RD u) - DW (RH RD h)).toNat);have af:0<=q:=oS;clear ad;subst aG;go_wp2_with fail;refine(B1m ((h+u+1) / 2) wr aI).mono ?_;rintro _ ap ⟨ah,n1,aj,aX,rfl,O,ao,Z⟩;have T:=A_ O;have an:=A_ (by rw[<-O.1];exact aE:n1<=65536);clear O ao;have E:=BH Y Z;go_wp2_with fail;refine(B5m B ah m n1 d aj ys _ _ _ ap (BN ay E) T au.1 (A0j _).1 (CJ aF dE) (CJ an dE)).mono ?_;rintro _ aq ⟨v2,rfl,H,aa⟩;obtain⟨ai,ak,rfl⟩:=C4a H;obtain⟨aY,ae⟩:=A7v H (A0j _).1.i64;have W:=A_ ae;clear ae H;have G:=BH E aa;go_wp2_with fail;have C:=A9p ai A _ n ak c _ D _ _ aq W (BN ax G) (A0j _) ar;rw[aw.o]at C;refine C.mono ?_;clear C;rintro _ w3 ⟨rfl,ab⟩;have ac:=BH G ab;have aQ:=X.o;generalize (sgn ((h+u+1) / 2*val ys - val D))=aZ at *;clear Y Z aa ab E G X T W;go_wp2_with fail;first
    |exact⟨⟨(h+u+1) / 2,u,rfl,rfl,af,aH,aB,r,hh,ac⟩,ag⟩
    |exact⟨by(repeat apply FS);exact⟨⟨(h+u+1) / 2,u,rfl,rfl,af,aH,aB,r,hh,ac⟩,rfl⟩,ag⟩
  obtain rfl:h=u:=oS;have e:=A_ (show h=val D / val ys by have aT:=az.o;have aU:=am.o;have aC:=hh.o;symm;refine(Int.ediv_eq_iff_of_pos aT).2 ⟨aU,?_⟩;rw[Int.add_mul,Int.one_mul]at aC;exact aC);have a1:¬ (h<h):=oS;go_wp2;go_ret;exact⟨A1x e,Y⟩

theorem C8g (a b:Int) (w:AD) (O:0<=a) (D:0<=b) (T:a<=9223372036854775807) (X:b<=9223372036854775807) :
  BL prog 224 #[RH RD a,RH RD b] w (B3k w 3 (dig (CQ a b))):=by
 go_enter func224,ntmps224;go_wp2_with fail;go_loopg [0,1] b.toNat (λg s0 s1 wr=>∃ x y:Int,s0=RH RD x/\s1=RH RD y/\0<=x/\x<=9223372036854775807/\0<=y/\y<=9223372036854775807/\BI (CQ x y=CQ a b)/\BI (y=g)/\Bw w wr);case atStart=>exact⟨a,b,rfl,rfl,O,T,D,X,rfl,(JF D).symm,DI _ _⟩
 case round =>
  obtain⟨x,y,rfl,rfl,af,ab,ac,ad,E,Z,h⟩:=hrel;by_cases H:0<y
  ·have r0:=A_ (show 0<=x % y/\x % y<y from⟨MI _ oS,MD _ H⟩)
   have ae:=A_ (by rw[B8y];exact E:CQ y (x % y)=CQ a b);have u:=A_ (by have:=r0.o;have:=Z.o;omega:(x % y).toNat<gk/\x % y<=9223372036854775807/\x % y=((x % y).toNat:Int));have ag:1<=y:=H;go_wp2_with fail;go_roundg (x % y).toNat;case measure=>exact u.1
   case rel=>exact⟨y,x % y,rfl,rfl,ac,ad,r0.1,u.2.1,ae,u.2.2,h⟩
  obtain rfl:y=0:=oS;have e:=A_ (by rw[<-E.o,Int.gcd_zero_right];omega:x.toNat=CQ a b);go_wp2_with fail;refine(B1n x _ ab).mono ?_;rintro _ ah ⟨v,rfl,aa,Y⟩;have W:=BH h Y;have G:=A8u aa h.size;rw[e.o]at G;go_wp2;go_ret;exact⟨_,rfl,G,W⟩

def D7m (w:AD) (r:Int) (b:Bool) (e:Ending) (w':AD):Prop :=
 e=.returned (.tuple #[RH RD r,J b])/\Bw w w'

theorem B7e (A:Option AJ) (n c:Nat) (xs:List Int) (bs:List Nat) (w:AD) (b:Sl w A n c xs bs) (D:XN.Can xs) (aw:n<=2) :
  BL prog 223 #[S A n c] w (D7m w (val xs) AF):=by
 have Y:=A_ b.1;have G:=A_ b;have h:=A_ D;have ao:=A_ (show A3m xs=AF from natOkB_iff.2 ⟨by rw[b.1];omega,D⟩);have an:=A_ (by decide:[854775807,223372036,9].length<=BS);have H:=A_ (show XN.Can [854775807,223372036,9]from⟨Lims.cons dE dE (Lims.cons dE dE (Lims.one dE dE)),dE⟩);have aj:=A_ (show sgn (val xs - val [854775807,223372036,9]) = -1 from B2q (XN.Can.lt_of_len D.1 H.o (by rw[b.1];simp;omega)));have al:c<=BS:=b.2.2.1;have ay:=b.2.1;unfold BS at al;clear b D;go_enter func223,ntmps223;go_wp2_with fail;have C:=B3v A n c xs bs w G;rw[ao.o]at C;refine C.mono ?_;clear C;rintro _ ai ⟨rfl,ac⟩;go_wp2_with fail;have Z:=A_ (B9p ai [854775807,223372036,9] an);obtain⟨ap,ag⟩:=A7v Z (λx b=>H.1.i64 x b);have T:Bw w (ai.alloc (Obj.cells #[RH RD 854775807,RH RD 223372036,RH RD 9] 3)):=Below.go;have C:=A9p A _ n 3 c 3 xs _ bs ap _ (BN G T) ag h H;rw[aj.o]at C;refine C.mono ?_;clear C;rintro _ aE ⟨rfl,ad⟩;have ae:=BH T ad;clear ag Z ac T ad;go_wp2_with fail;go_loopw [4,5] (λa i wr=>∃ (K:Nat) (q:Int),K<=n/\i=RH RD ((K:Int) - 1)/\a=RH RD q/\BI (q=val (xs.drop K))/\Bw w wr) (λa i wr=>(DW i+1).toNat);case atStart =>refine⟨n,0,CE _,rfl,rfl,?_,ae⟩;show 0=val (xs.drop n);rw[JZ (IW Y.o)];rfl
 case round =>
  obtain⟨K,q,ab,rfl,rfl,E,u⟩:=hrel;clear ae;rcases IG K with O|O;·subst O;have e:=A_ (by rw[E.o,FF]:q=val xs);have az:¬ ((0:Int)<=((0:Nat):Int) - 1):=oS;go_wp2;go_ret2;rw[e.o];exact⟨rfl,u⟩
  ·obtain⟨j,rfl⟩:∃ j,K=j+1:=⟨K - 1,oS⟩
   have aa:(((j+1:Nat):Int) - 1)=j:=oS;rw[aa];have am:j<n:=ab;obtain⟨b1,o1,x,rfl,ac,W,_,ar⟩:=DL (BN G u) am;have X:=h.1.get W;have r:=A_ (by rw[A4n W,<-E.o];omega:q*1000000000+x=val (xs.drop j));have aC:=X.1;have aD:=X.2;have aA:0<=q:=by rw[E.o];exact S_ (h.1.drop _)
   have aB:q<1000000000:=by rw[E.o];have aq:=A4j (h.1.drop (j+1));have ak:=A6t (by rw[List.length_drop,Y.o];omega:(xs.drop (j+1)).length<=1);rw[pw_vals.1]at ak;omega
   have au:(j:Int)<n:=oS;have ax:(j:Int)+1<=c:=oS;have af:j<=n:=oS;have ah:(DW (RH RD ((j:Int) - 1))+1).toNat<(DW (RH RD (j:Int))+1).toNat:=by simp[DW]
   clear aa ab O W X;go_wp2_with fail;first
   |exact⟨⟨j,q*1000000000+x,af,rfl,rfl,r,u⟩,ah⟩
   |exact⟨by(repeat apply FS);exact⟨⟨j,q*1000000000+x,af,rfl,rfl,r,u⟩,rfl⟩,ah⟩

theorem C8q {w b:AD} {lo size n:Nat} {e:TypeId} {v:Value} {xs:List Value} (h:w.ownsRow lo e size v n xs) (G:Above lo w b):b.ownsRow lo e size v n xs:=by
 refine⟨h.1,?_⟩;rcases h.2 with H|⟨g,cap,E,rfl,u,D,rest⟩
 ·exact .inl H
 exact .inr ⟨g,cap,E,rfl,u,(G.block g u (E_ D)).trans D,rest⟩
theorem E0i {x:Int} {b:List Int} (u:0<=x) (D:x<1000000000) (h:Lims b):trim (x::b)=dig (x+1000000000*val b).toNat:=by
 have E:=S_ h;exact A8i (Lims.cons u D h) (by simp only[val];omega)
theorem E5d {zs xs:List Int} {j:Nat} {x V R:Int} (u:zs[j]?=QZ 0) (b:xs[j]?=QZ x) (h:val (zs.drop (j+1))*V+R=val (xs.drop (j+1))):val (zs.drop j)*V+(x+1000000000*R)=val (xs.drop j):=by
 rw[A4n u,A4n b,<-h];grind
theorem E7j {zs xs:List Int} {j:Nat} {x V R q:Int} (u:zs[j]?=QZ 0) (b:xs[j]?=QZ x) (h:val (zs.drop (j+1))*V+R=val (xs.drop (j+1))):val ((zs.set j q).drop j)*V+(x+1000000000*R - q*V)=val (xs.drop j):=by
 rw[C5v (DM.1 u).1,A4n b,<-h];simp only[val];grind

theorem B1v (A B:Option AJ) (n m c d:Nat) (xs ys:List Int) (bs ak:List Nat) (w:AD) (af:Sl w A n c xs bs) (ax:Sl w B m d ys ak) (aM:XN.Can xs) (aN:XN.Can ys) (cK:n<=65536) (hm0:0<m) (bH:m<=65536) :
  BL prog 225 #[S A n c,S B m d] w (C0i w (dig (val xs / val ys).toNat) (dig (val xs % val ys).toNat)):=by
 obtain⟨aX,bE,bX,bY,bZ⟩:=FB A6b;have a7:=A_ af;have Z:=A_ ax;have a2:=A_ aM;have H:=A_ aN;have cn:=A_ af.1;have a9:=A_ ax.1;have cZ:=A_ (S_ aM.1);have D:=A_ (aN.pos (by intro e;rw[<-ax.1,e]at hm0;simp at hm0));have cD:c<=BS:=af.2.2.1;have db:=af.2.1;unfold BS at cD;clear af ax aM aN;by_cases ab:m=1
 ·subst ab
  obtain⟨c1,dd,y,rfl,c7,ay,cy,cB⟩:=DL Z (k:=0) dE;simp only[Nat.add_zero]at cB;have a5:=A_ (show val ys=y by
   have b:=a9.o;match ys,b with
   | [z],_=>simp at ay;subst ay;simp[val])
  have bW:=H.1.get ay;have bV:0<y:=by rw[<-a5.o];exact D
  have cO:=bW.2;have R0:=A_ (MD (val xs) bV);clear ay bW cy;go_enter func225,ntmps225;go_wp2_with fail;refine(C8s A n c xs bs y _ a7 a2.1 bV cO (CJ cK dE)).mono ?_;rintro _ a1 ⟨v1,rfl,bN,ad⟩;go_wp2_with fail;refine(B1n (val xs % y) a1 (by have:=R0.o;omega)).mono ?_;rintro _ dh ⟨v2,rfl,bO,br⟩;have cN:=I_ bN br;go_wp2;go_ret2;rw[a5.o];exact B1d cN bO (A0j _).1.i64 (A0j _).1.i64 (CE _) ad.size (B8h bN bO) (BH ad br)
 ·have cP:((m:Int)==1)=AH:=oR
  have b2:=A_ (by rw[bZ];omega:aX.bytes*n<=281474976710656);have cu:=A_ (by unfold BS;omega:n<=BS);go_enter func225,ntmps225;go_wp2_with (at_make;(refine KK _ rfl _ _ 35 rfl w.1.size 3 aX (RH RD 0) 1 underlying35 bE bX bY .i64 .i64 _ _ n rfl rfl rfl rfl b2 cu (CE _) ?_);intro a1 ar bD);rw[A8c]at ar;have ad:=(DI w.1.size w).grown bD (CE _) (by intro k cJ;cases cJ);have bG:=(FG ar _ rfl).2;clear bD cP ab;go_loopw [9,10] (λv i wr=>∃ (K:Nat) (zs h:List Int),K<=n/\i=RH RD ((K:Int) - 1)/\wr.ownsRow w.1.size 3 1 (S (QZ ⟨w.1.size,0,I⟩) n n) n (zs.map (RH RD))/\wr.ownsRow (w.1.size+1) 3 1 v h.length (h.map (RH RD))/\v≠S I 0 0/\BI (Lims zs)/\BI (∀ i,i<K->zs[i]?=QZ 0)/\BI (XN.Can h)/\BI (val h<val ys)/\BI (val (zs.drop K)*val ys+val h=val (xs.drop K))/\Bw w wr) (λv i wr=>(DW i+1).toNat);case atStart =>
   refine⟨n,_,[],CE _,rfl,ar.alloc _,JP a1 #[] 0 bG (EO _) rfl,(λb=>by cases b),Lims.zeros n,λi b=>?_,Can.nil,D,?_,Below.go⟩;·rw[OO,if_pos b]
   show val ((DK n (0:Int)).drop n)*val ys+0=val (xs.drop n);rw[JZ sI,JZ (IW cn.o)];simp[val]
  case round =>
   obtain⟨K,zs,h,bm,rfl,aq,au,bS,Y,aW,X,aR,aw,aI⟩:=hrel;clear ar ad bG;rcases IG K with aF|aF;·subst aF;have e:=A_ (show trim zs=dig (val xs / val ys).toNat/\h=dig (val xs % val ys).toNat by have ab:=aw.o;rw[FF,FF]at ab;obtain⟨aD,aE⟩:=D2a D ab (S_ X.1) aR;rw[aD,aE];exact⟨A8i Y (JF (S_ Y)).symm,X.eq_dig⟩);have dc:¬ ((0:Int)<=((0:Nat):Int) - 1):=oS;go_wp2_with fail;refine(A6z _ _ _ _ zs _ aq Y.i64).mono ?_;rintro _ w3 ⟨rfl,ae,bK⟩;have cA:Bw w w3:=Below.go;have aS:=I_ au ae;go_wp2;go_ret2;rw[e.o.1]at bK ⊢;rw[e.o.2]at aS;refine B1d bK aS (A0j _).1.i64 (A0j _).1.i64 (CE _) oS ?_ cA;intro c4 bl aD aE;have:=B0b aS _ aE;simp[Value.ownBlock]at aD;omega
   ·obtain⟨j,rfl⟩:∃ j,K=j+1:=⟨K - 1,oS⟩
    have bk:(((j+1:Nat):Int) - 1)=j:=oS;rw[bk];have cI:j<n:=bm;rcases A6k au with⟨e,_⟩|⟨bl,cv,rfl,_⟩
    ·exact absurd e bS
    obtain⟨b1,o1,x,rfl,ad,aU,_,c8⟩:=DL (BN a7 aI) cI;have aV:=a2.1.get aU;have a8:=A_ aU;have bT:=aV.1;have bU:=aV.2;have bF:=(FG aq _ rfl).2;have rl:=A_ (show h.length<=m by
     rcases CG m h.length with b|b;·have:=Can.lt_of_len H.o.1 X.o (by rw[a9.o];exact b);have:=aR.o;omega
     exact b)
    have cb:=A_ (by unfold BS;have:=rl.o;omega:1+h.length<=BS);have cc:=A_ (by have:=rl.o;omega:(1+h.length)*8<=140737488355328);have cq:=A_ (show(wr.alloc (.cells #[RH RD x] 3)).ownsRow (w.1.size+1) 3 1 (S (QZ ⟨wr.1.size,0,I⟩) 1 1) 1 [RH RD x]from A8u (B9p wr [x] (by simp[BS])) bF);have cs:=A_ (B0b (B9p wr [x] (by simp[BS])));have ci:=A_ (show ∀ u∈x::h,I64 u from(Lims.cons bT bU X.1).i64);have bi:=A_ (E0i bT bU X.1);have ai:=A_ (aW.o j oS);have bc:=A_ (by have:=S_ X.1;omega:0<=x+1000000000*val h);have ba:=A_ (by have:=aR.o;omega:x+1000000000*val h<1000000000*val ys);have cd:=A_ (E5d ai a8 aw);have ce:=A_ (λq=>E7j (q:=q) ai a8 aw);have c9:(j:Int)<n:=oS;have da:(j:Int)+1<=c:=oS;have ap:j<=n:=oS;have aA:(DW (RH RD ((j:Int) - 1))+1).toNat<(DW (RH RD (j:Int))+1).toNat:=by simp[DW]
    have ck:=A_ au;have aY:=A_ (show ∀ i,i<j->zs[i]?=QZ 0 from λi b=>aW.o i oS);have cj:=A_ aq;generalize cz:x+1000000000*val h=R0 at *;clear bk bm aF aU aV aw au aW cz aq bS;have cm:=A_ (show(dig R0.toNat).length<=m+1 by rw[<-bi.o,B3n,JO];have:=rl.o;simp only[List.length_cons];omega);have G:=A_ (by rw[A1j,JF bc.o]:val (dig R0.toNat)=R0);go_wp2_with (at_builtin;(refine IZ _ rfl _ _ 35 rfl (w.1.size+1) 3 aX (RH RD 0) 1 8 underlying35 bE bX bY bZ rfl dE _ 1 [.int .i64 x] rfl cq.o ⟨bl,0,I⟩ h.length cv (h.map (RH RD)) rfl sI ((ck.o.alloc _).cells rfl) (D4k h) cb.o cc.o (A1a bF _) ?_);intro cU w3 bJ bB bI);have ae:Bw wr w3:=((DI _ wr).alloc (CE _) _).grown bB (A1a (CE _) _) cs;have aB:w3.ownsRow (w.1.size+1) 3 1 cU (x::h).length ((x::h).map (RH RD)):=by have b:=bJ;rw[Nat.add_comm 1 h.length]at b;exact b
    rcases A6k aB with⟨e,_⟩|⟨c5,c3,rfl,_⟩;·have:=(bI.1 e).1;cases this
    have bn:=I_ cj ae;have bt:=BH aI ae;clear bJ bB bI ae;go_wp2_with fail;refine(A6z _ _ _ _ (x::h) _ aB ci).mono ?_;rintro _ b5 ⟨rfl,aJ,O⟩;rw[bi.o]at O ⊢;have al:=I_ bn aJ;have T:=BH bt aJ;clear aB bn bt aJ aI;obtain⟨aZ,bP⟩:=A7v O (A0j _).1.i64;have aj:=A_ bP;clear bP;rcases FH R0 (val ys)with aP|aO
    ·have aC:=A_ (B2q aP)
     go_wp2_with fail;have C:=A9p _ B _ m c3 d _ ys aZ ak b5 aj (BN Z T) (A0j _) H;rw[G.o,aC.o]at C;refine C.mono ?_;clear C;rintro _ b6 ⟨rfl,E⟩;have W:=BH T E;have ac:=I_ al E;have aa:=I_ O E;have ag:=A_ (by rw[G.o];exact cd:val (zs.drop j)*val ys+val (dig R0.toNat)=val (xs.drop j));have ah:=A_ (by rw[G.o];exact aP:val (dig R0.toNat)<val ys);clear T al O aP;go_wp2_with fail;first
     |exact⟨⟨j,zs,_,ap,rfl,ac,aa,(λb=>by cases b),Y,aY,A0j _,ah,ag,W⟩,aA⟩
     |exact⟨by(repeat apply FS);exact⟨⟨j,zs,_,ap,rfl,ac,aa,(λb=>by cases b),Y,aY,A0j _,ah,ag,W⟩,rfl⟩,aA⟩
    ·have aC:=A_ (B8n aO)
     have cX:=A_ aO;clear aO;have az:=A_ (Int.ediv_nonneg bc (JJ D));have q1:=A_ (show R0 / val ys<1000000000 from Int.ediv_lt_of_lt_mul D ba);have q2:=A_ (by have:=q1.o;omega:R0 / val ys<=9223372036854775807);have cg:=A_ (by rw[A1j,JF az.o,MF]:val ys*val (dig (R0 / val ys).toNat)=R0 / val ys*val ys);have a4:=A_ (show val (dig (val ys*val (dig (R0 / val ys).toNat)).toNat)=R0 / val ys*val ys by rw[A1j,cg.o,JF (IQ az.o (JJ D.o))]);have a3:=A_ (by rw[Int.emod_def,MF]:R0 - R0 / val ys*val ys=R0 % val ys);have co:=A_ (MI R0 (Int.ne_of_gt D));have cp:=A_ (MD R0 D);have cF:=A_ (show(dig (R0 / val ys).toNat).length<=65536 from CJ (A4r (k:=1) (by rw[pw_vals.1];have:=az.o;have:=q1.o;omega)) dE);have cY:=A_ (by have:=(DM.1 ai).1;exact this:j<zs.length);go_wp2_with fail;have C:=A9p _ B _ m c3 d _ ys aZ ak b5 aj (BN Z T) (A0j _) H;rw[G.o]at C;refine C.mono ?_;clear C;rintro _ b6 ⟨rfl,E⟩;have c0:=aC.o;generalize sgn (R0 - val ys)=df at *;have W:=BH T E;have ac:=I_ al E;have aa:=I_ O E;have bh:=A_ (BN aj E);clear T al O aj;go_wp2_with fail;have C:=C8c _ B _ m c3 d _ ys aZ ak b6 bh.o (BN Z.o W) (A0j _) H.o bH D.o (by rw[G.o];exact ba);rw[G.o]at C;refine C.mono ?_;clear C;rintro _ b7 ⟨rfl,am⟩;have bu:=BH W am;have aG:=I_ ac am;have bd:=I_ aa am;clear W ac aa bh;obtain⟨cH,cE,cG⟩:=A0t aG ai;have bv:=bu.setCell (p:=⟨w.1.size,j,I⟩) (CE _) (RH RD (R0 / val ys));have be:=C8q bd ((Above.refl (w.1.size+1) b7).set (p:=⟨w.1.size,j,I⟩) (Nat.lt_succ_self _) (RH RD (R0 / val ys)));have bo:=A3a aG j (R0 / val ys);clear bu aG bd;go_wp2_with fail;generalize b7.setCell ⟨w.1.size,j,I⟩ (RH RD (R0 / val ys))=cV at *;clear cE cG cH am E;refine(B1m (R0 / val ys) cV q2).mono ?_;rintro _ cW ⟨b9,b0,cw,de,rfl,aT,cM,an⟩;have a6:=A_ aT;have cL:=A_ (by rw[<-aT.1];exact cF:b0<=65536);have aK:=BH bv an;have bp:=I_ bo an;have bf:=I_ be an;clear aT cM bv bo be;go_wp2_with fail;refine(B5m B b9 m b0 d cw ys _ _ _ cW (BN Z aK) a6 H.1 (A0j _).1 (CJ bH dE) (CJ cL dE)).mono ?_;rintro _ b8 ⟨dg,rfl,aQ,ao⟩;obtain⟨ca,cx,rfl⟩:=C4a aQ;obtain⟨cQ,bQ⟩:=A7v aQ (A0j _).1.i64;have ch:=A_ bQ;have bz:=BH aK ao;have aH:=I_ bp ao;have bg:=I_ bf ao;clear bQ aQ a6 aK bp bf;obtain⟨cR,bR⟩:=A7v bg (A0j _).1.i64;have ct:=A_ bR;clear bR;go_wp2_with fail;have C:=C8l _ ca _ _ c3 cx (dig R0.toNat) _ cR cQ b8 ct.o ch.o (A0j _) (A0j _) (CJ cm.o oS) (by rw[a4.o,G.o];exact Int.ediv_mul_le R0 (Int.ne_of_gt D));rw[a4.o,G.o,a3.o]at C;refine C.mono ?_;clear C;rintro _ wx ⟨c6,c2,rfl,bL,aL⟩;have bA:=BH bz aL;have bq:=I_ aH aL;have bM:=A8u bL (show w.1.size+1<=b8.1.size from Nat.lt_of_lt_of_le (FG aH _ rfl).2 (CE _));have bj:=A_ (by rw[A1j,JF co.o]:val (dig (R0 % val ys).toNat)=R0 % val ys);have ag:=A_ (show val ((zs.set j (R0 / val ys)).drop j)*val ys+val (dig (R0 % val ys).toNat)=val (xs.drop j) by rw[bj.o,<-a3.o];exact ce _);have ah:=A_ (by rw[bj.o];exact cp:val (dig (R0 % val ys).toNat)<val ys);have b3:=A_ (Y.set j az q1);have b4:=A_ (show ∀ i,i<j->(zs.set j (R0 / val ys))[i]?=QZ 0 from λi b=>by rw[JU oS];exact aY i b);clear bz aH bg bL aL ao an;go_wp2_with fail;first
     |exact⟨⟨j,_,_,ap,rfl,bq,bM,(λb=>by cases b),b3,b4,A0j _,ah,ag,bA⟩,aA⟩
     |exact⟨by(repeat apply FS);exact⟨⟨j,_,_,ap,rfl,bq,bM,(λb=>by cases b),b3,b4,A0j _,ah,ag,bA⟩,rfl⟩,aA⟩
end Go.Proofs.YtjcanieccnljfaaGreat.X
