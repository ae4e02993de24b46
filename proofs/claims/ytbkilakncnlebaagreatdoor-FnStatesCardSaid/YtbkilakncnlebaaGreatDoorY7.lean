/- A part of the proof. -/
import Derived.Test.YtbkilakncnlebaaGreatDoorY6
set_option linter.constructorNameAsVariable false
set_option maxHeartbeats 16000000
set_option maxRecDepth 10000
open Bool renaming false→AF,true→AD
open Exists renaming intro→EI
open Go renaming Addr→AH,Calls→AR,World→J,cell_one_new→JL,info_parts→DW,maxLen→BG,wpList_append_own→IU,wpList_make_full→LG
open Go.IntKind renaming i64→QO
open Go.RowKit renaming intOf→DC
open Go.RowKit.Below renaming refl→CG
open Go.Value renaming int→QS,slice→S
open Go.World renaming ownsRow_made→IW,ownsRow_nil→MO
open Go.World.ownsRow renaming lt→EU
open Go.XB.Below renaming next→AI
open Go.XB.Sl renaming below→AQ,getInt→DB
open Int renaming emod_lt_of_pos→JY,emod_nonneg→LH,gcd→BQ,le_of_lt→JC,le_refl→GA,lt_or_le→EO,mul_comm→ME,mul_nonneg→IP,toNat_of_nonneg→IM,zero_le_ofNat→JE
open List renaming drop_eq_getElem_cons→JX,drop_eq_nil_of_le→JH,drop_zero→EH,eq_nil_of_length_eq_zero→IF,getElem?_eq_some_iff→CQ,getElem?_replicate→MR,getElem?_set_ne→IZ,length_append→EF,length_take→GH,replicate→CJ,take_of_length_le→CZ,take_zero→ET
open Nat renaming eq_zero_or_pos→FV,le_of_eq→FZ,le_refl→BH,le_trans→BM,lt_or_ge→BN,zero_le→DV
open Option renaming none→I,some→QL
namespace Go.Proofs.YtbkilakncnlebaaGreatDoor.X
open Go.RowKit Go.XB Go.XN Proofs.Tryz
attribute [local go_sem] L_ opAt N_ M_ Region.wanted yielded
attribute [local simp] N_ M_ MP.eq MP.agg MP.sl A0r
theorem C6k (n lo hi:Int) (w:J):AR prog 274 #[QS QO n,QS QO lo,QS QO hi] w (A0b w (.bool (inB lo n hi))):=by
 rcases EO n lo with h|h;·have b:=A_ (by unfold inB;simp;omega:AF=inB lo n hi);have u:¬ (lo<=n):=oS;go_enter func274,ntmps274;go_wp2;go_ret;exact⟨Q_ b,Below.go⟩
 have b:=A_ (by unfold inB;simp[h]:decide (n<=hi)=inB lo n hi);go_enter func274,ntmps274;go_wp2;go_ret;exact⟨Q_ b,Below.go⟩

theorem B0s (A:Option AH) (n c:Nat) (xs:List Int) (bs:List Nat) (w:J) (h:Sl w A n c xs bs) :
  AR prog 225 #[S A n c] w (A0b w (S A (trim xs).length c)):=by
 have ah:n<=c:=h.2.1;have X:c<=BG:=h.2.2.1;unfold BG at X;have G:=A_ h.1;have W:=A_ h;clear h;go_enter func225,ntmps225;go_wp2_with fail;go_loopg [3] n (λg s wr=>s=QS QO g/\g<=n/\Hid (trim (xs.take g)=trim xs)/\Bw w wr);case atStart=>exact⟨rfl,BH _,by rw[CZ (FZ G.o)];rfl,CG _ _⟩
 case round =>
  obtain⟨rfl,ag,D,u⟩:=hrel;rcases FV gk with O|O;·subst O;go_wp2;go_ret;refine⟨?_,u⟩;rw[<-D.o];rfl
  obtain⟨j,rfl⟩:∃ j,gk=j+1:=⟨gk - 1,oS⟩
  obtain⟨ab,ai,x,rfl,ac,T,_,ad⟩:=DB (AQ W.o u) (by omega:j<n);have H:=A_ T;clear T;have ae:(j:Int)+1<=c:=oS;have af:(j:Int)<n:=oS;by_cases b:x=0
  ·have Z:(x==0)=AD:=by simp[b]
   have E:=A_ (by rw[<-D.o,take_step H.o,b,B1k]:trim (xs.take j)=trim xs);clear b;have aa:j<=n:=oS;go_wp2_with fail;go_roundg j;case measure=>omega
   case rel=>exact⟨gN,aa,E,u⟩
  have Z:(x==0)=AF:=by simp[b]
  have E:=A_ (by rw[<-D.o,take_step H.o,C0p b]:trim xs=xs.take (j+1));clear b;go_wp2;go_ret;refine⟨?_,u⟩;have Y:(trim xs).length=j+1:=by rw[E.o,GH];have:=G.o;omega
  rw[Y];rfl

theorem A6z (A:Option AH) (n c b:Nat) (zs:List Int) (w:J) (h:w.ownsRow b 3 1 (S A n c) n (zs.map (QS QO))) (hi:∀ x∈zs,I64 x) :
  AR prog 225 #[S A n c] w (λe w'=>e=.returned (S A (trim zs).length c)/\Bw w w'/\w'.ownsRow b 3 1 (S A (trim zs).length c) (trim zs).length ((trim zs).map (QS QO))):=by
 obtain⟨D,E⟩:=A7v h hi;have G:zs.length=n:=by have:=h.1;simpa using this
 refine(B0s A n c zs D w E).mono λe w' ⟨he,hb⟩=>⟨he,hb,?_⟩
 have u:=B3n zs;have:=C6w (I_ h hb) (k:=(trim zs).length) (by rw[<-G,u,GH];omega);rw[<-u]at this;exact this

theorem B5i (A:Option AH) (n c:Nat) (xs:List Int) (bs:List Nat) (w:J) (h:Sl w A n c xs bs) (G:(trim xs).length<=60) :
  AR prog 229 #[S A n c] w (A0b w (S A (trim xs).length c)):=by
 have D:=A_ h;generalize b:(trim xs).length=m at *;have u:=A_ b;clear h b;go_enter func229,ntmps229;go_wp2_with fail;have C:=B0s A n c xs bs w D;rw[u.o]at C;refine C.mono ?_;clear C;rintro _ H ⟨rfl,E⟩;go_wp2;go_ret;exact⟨rfl,E⟩

theorem C6j (q:Int) (h:0<=q):((q.toNat % 1000000000:Nat):Int)=q % 1000000000/\q.toNat / 1000000000=(q / 1000000000).toNat:=oS

theorem B1n (N:Int) (w:J) (E:N<=9223372036854775807):AR prog 177 #[QS QO N] w (B3k w 3 (dig N.toNat)):=by
 have H:(dig N.toNat).length<=3:=A4r (by rw[pw_vals.2.2];omega);obtain⟨ak,af,ah,ai,aj⟩:=DW A6b;have ad:=A_ H;clear H;go_enter func177,ntmps177;go_wp2;go_loopw [0,3] (λm v wr=>∃ (q:Int) (b:List Int),m=QS QO q/\wr.ownsRow w.1.size 3 1 v b.length (b.map (QS QO))/\Hid (dig N.toNat=b++dig q.toNat)/\q<=9223372036854775807/\Bw w wr) (λm v wr=>(DC m).toNat);case atStart=>exact⟨N,[],rfl,IW w #[] 0 (BH _) (DV _) rfl,rfl,E,Below.go⟩
 case round =>
  obtain⟨q,b,rfl,D,u,an,h⟩:=hrel;have ag:b.length<=3:=by have:=ad.o;rw[u.o,EF]at this;omega
  by_cases am:0<q
  ·have Z:=A_ (by unfold BG;omega:b.length+1<=BG)
   have aa:=A_ (by omega:(b.length+1)*8<=140737488355328);have ab:=A_ h.size;have W:=A_ (by rw[u.o,B9g oS,(C6j q oS).1,(C6j q oS).2];simp:dig N.toNat=(b++[q % 1000000000])++dig (q / 1000000000).toNat);have X:=A_ (by omega:q / 1000000000<=9223372036854775807);have Y:=A_ (by simp[DC];omega:(DC (QS QO (q / 1000000000))).toNat<(DC (QS QO q)).toNat);clear E ag;go_wp2_with (first|(at_builtin;refine IU _ rfl _ _ 31 rfl w.1.size 3 ak (QS QO 0) 1 8 underlying31 af ah ai aj rfl dE _ _ _ rfl (D.alloc _) ⟨wr.1.size,0,I⟩ 1 1 [QS QO (q % 1000000000)] rfl rfl (JL _ _ _) (λx hx=>iH) Z aa (A1a ab _) ?_;intro ao w3 O ae al));have G:=A2o h D ae;first
   |exact⟨⟨q / 1000000000,b++[q % 1000000000],rfl,A1t O,W,X,G⟩,Y⟩
   |exact⟨by(repeat apply EI);exact⟨⟨q / 1000000000,b++[q % 1000000000],rfl,A1t O,W,X,G⟩,rfl⟩,Y⟩
  have T:q.toNat=0:=oS;have e:=u.o;rw[T,show dig 0=[]from rfl,List.append_nil]at e;have ac:=A_ e;clear T e;go_wp2;go_ret;rw[ac.o];exact⟨_,rfl,D,h⟩

theorem B1m (N:Int) (w:J) (h1:N<=9223372036854775807):AR prog 177 #[QS QO N] w (A0w w (dig N.toNat)) :=
 (B1n N w h1).mono λ_ _ ⟨_,he,ho,hb⟩=>by subst he;exact A2r ho rfl (A0j _).1.i64 hb

theorem A9p (A B:Option AH) (n m c d:Nat) (xs ys:List Int) (bs ax:List Nat) (w:J) (G:Sl w A n c xs bs) (ai:Sl w B m d ys ax) (an:XN.Can xs) (ao:XN.Can ys) :
  AR prog 278 #[S A n c,S B m d] w (A0b w (QS QO (sgn (val xs - val ys)))):=by
 have Z:=A_ G.1;have aa:=A_ ai.1;have aF:c<=BG:=G.2.2.1;have aM:n<=c:=G.2.1;unfold BG at aF;have au:=A_ G;have aw:=A_ ai;have ae:=A_ an;have af:=A_ ao;clear G ai an ao;by_cases ah:n=m
 ·subst ah
  go_enter func278,ntmps278;go_wp2_with fail;go_loopg [5] n (λg s wr=>s=QS QO ((g:Int) - 1)/\g<=n/\Hid (xs.drop g=ys.drop g)/\Bw w wr);case atStart =>refine⟨rfl,BH _,?_,CG _ _⟩;show xs.drop n=ys.drop n;rw[JH (FZ Z.o),JH (FZ aa.o)]
  case round =>
   obtain⟨rfl,aH,h,D⟩:=hrel;rcases FV gk with am|am;·subst am;have e:=A_ (show(0:Int)=sgn (val xs - val ys) by have:=h.o;rw[EH,EH]at this;rw[this];unfold sgn;simp);go_wp2;go_ret;exact⟨A1x e,D⟩
   obtain⟨j,rfl⟩:∃ j,gk=j+1:=⟨gk - 1,oS⟩
   have al:(((j+1:Nat):Int) - 1)=j:=oS;rw[al];have ap:j<n:=aH;obtain⟨b1,o1,x,rfl,T,aq,aN,X⟩:=DB (AQ au D) ap;obtain⟨b2,o2,y,rfl,W,ar,aO,Y⟩:=DB (AQ aw D) ap;have aj:=A_ aq;have ak:=A_ ar;have ab:=A_ (B8r ae.o.1 af.o.1 aj.o ak.o h.o (by rw[Z.o,aa.o]));have aL:(j:Int)<n:=oS;have aG:=h;clear h aq ar al;rcases Int.lt_trichotomy x y with H|H|H
   ·have e:=A_ (by rw[B2q (ab.o.1 H)]:(-1:Int)=sgn (val xs - val ys))
    go_wp2_with fail;refine A0g ?_;iterate 9 refine C_ _ ?_
    intro ac ad wa b h u;clear u;simp at h;go_simp;clear h;have E:=AI D b;go_wp2;go_ret;exact⟨A1x e,E⟩
   ·subst H
    have r:=A_ (show xs.drop j=ys.drop j by obtain⟨aI,ay⟩:=CQ.1 aj;obtain⟨aJ,az⟩:=CQ.1 ak;rw[JX aI,JX aJ,ay,az,aG.o]);have aK:j<=n:=oS;clear ab;go_wp2_with fail;refine A0g ?_;iterate 9 refine C_ _ ?_
    intro ac ad wa b h u;clear u;simp at h;go_simp;clear h;have E:=AI D b;have aD:=((F_ b).1 b1 (o1+j) T).trans X;have aE:=((F_ b).1 b2 (o2+j) W).trans Y;have aB:b1<wa.1.size:=by have:=b.size;omega
    have aC:b2<wa.1.size:=by have:=b.size;omega
    clear X Y T W b D;go_wp2_with fail;refine A0g ?_;iterate 9 refine C_ _ ?_
    intro ac ad wb b h u;clear u;simp at h;go_simp;clear h;have ag:=AI E b;go_wp2_with fail;go_roundg j;case measure=>omega
    case rel=>exact⟨rfl,aK,r,ag⟩
   have e:=A_ (by rw[C1l (ab.o.2 H)]:(1:Int)=sgn (val xs - val ys));clear ab;go_wp2_with fail;refine A0g ?_;iterate 9 refine C_ _ ?_
   intro ac ad wa b h u;clear u;simp at h;go_simp;clear h;have E:=AI D b;have aD:=((F_ b).1 b1 (o1+j) T).trans X;have aE:=((F_ b).1 b2 (o2+j) W).trans Y;have aB:b1<wa.1.size:=by have:=b.size;omega
   have aC:b2<wa.1.size:=by have:=b.size;omega
   clear X Y T W b D;go_wp2_with fail;refine A0g ?_;iterate 9 refine C_ _ ?_
   intro ac ad wb b h u;clear u;simp at h;go_simp;clear h;have ag:=AI E b;go_wp2;go_ret;exact⟨A1x e,ag⟩
 have aP:((n:Int) != m)=AD:=oR;rcases BN n m with O|O
 ·have e:=A_ (by rw[B2q (XN.Can.lt_of_len ae.o.1 af.o (by rw[Z.o,aa.o];exact O))]:(-1:Int)=sgn (val xs - val ys));have aA:(n:Int)<m:=oS;clear ah O;go_enter func278,ntmps278;go_wp2;go_ret;exact⟨A1x e,Below.go⟩
 have e:=A_ (by rw[C1l (XN.Can.lt_of_len af.o.1 ae.o (by rw[Z.o,aa.o];omega))]:(1:Int)=sgn (val xs - val ys));have aA:¬ ((n:Int)<m):=oS;clear ah O;go_enter func278,ntmps278;go_wp2;go_ret;exact⟨A1x e,Below.go⟩

theorem E0n (x:Int):inB 0 x 999999999=!A9a x:=by
 unfold A9a inB;rw[Bool.eq_iff_iff];simp
theorem B3v (A:Option AH) (n c:Nat) (xs:List Int) (bs:List Nat) (w:J) (E:Sl w A n c xs bs) :
  AR prog 224 #[S A n c] w (A0b w (.bool (A3m xs))):=by
 have u:=A_ E.1;have Y:=A_ E;have ar:=E.2.1;have al:c<=BG:=E.2.2.1;unfold BG at al;clear E;go_enter func224,ntmps224;go_wp2_with fail;go_loopw [7] (λi wr=>∃ k:Nat,k<=n/\i=QS QO k/\Hid ((xs.take k).any A9a=AF)/\Bw w wr) (λi wr=>n - (DC i).toNat);case atStart=>exact⟨0,DV _,rfl,by simp[Hid],CG _ _⟩
 case round =>
  obtain⟨k,ap,rfl,O,b⟩:=hrel;rcases BN k n with D|D
  ·have aj:(k:Int)<n:=oS
   obtain⟨af,am,x,rfl,ah,ae,_,ai⟩:=DB (AQ Y b) D;have Z:=A_ ae;clear ae;have aq:(k:Int)+1<=c:=oS;have G:=A_ (E0n x);cases h:A9a x
   ·rw[h]at G
    have r:=A_ (show(xs.take (k+1)).any A9a=AF from B6c Z O h);clear h;have ac:k+1<=n:=D;go_wp2_with fail;have C:=C6k x 0 999999999 wr;rw[G.o]at C;refine C.mono ?_;clear C;rintro _ an ⟨rfl,W⟩;have H:=AI b W;go_wp2_with fail;first
    |exact⟨⟨k+1,ac,rfl,r,H⟩,V_ D⟩
    |exact⟨by(repeat apply EI);exact⟨⟨k+1,ac,rfl,r,H⟩,rfl⟩,V_ D⟩
   rw[h]at G;have e:=A_ (show AF=A3m xs by rw[A5a];have:xs.any A9a=AD:=List.any_eq_true.2 ⟨x,List.mem_of_getElem? Z,h⟩;rw[this];simp);clear h;go_wp2_with fail;have C:=C6k x 0 999999999 wr;rw[G.o]at C;refine C.mono ?_;clear C;rintro _ an ⟨rfl,W⟩;have H:=AI b W;go_wp2;go_ret;exact⟨Q_ e,H⟩
  obtain rfl:k=n:=oS;have T:=O.o;rw[CZ (FZ u.o)]at T;have X:=A_ T;clear T O;have aj:¬ ((k:Int)<k):=oS;rcases BN 60 k with ab|ab;·have e:=A_ (by rw[A5a,u.o];simp;omega:AF=A3m xs);have ag:¬ ((k:Int)<=60):=oS;go_wp2;go_ret;exact⟨Q_ e,b⟩
  have ag:(k:Int)<=60:=oS;rcases FV k with aa|aa
  ·subst aa;have e:=A_ (by rw[A5a,X.o,IF u.o];rfl:AD=A3m xs);go_wp2;go_ret;exact⟨Q_ e,b⟩
  obtain⟨j,rfl⟩:∃ j,k=j+1:=⟨k - 1,oS⟩
  obtain⟨af,am,x,rfl,ah,ad,ao,ai⟩:=DB (AQ Y.o b) (by omega:j<j+1);have ak:=A_ (by rw[List.getLast?_eq_getElem?,u.o];exact ad:xs.getLast?=QL x);have au:((j:Int)+1==0)=AF:=oR;have e:=A_ (by rw[A5a,X.o,ak.o,u.o,decide_eq_true ab];simp;rfl:(x != 0)=A3m xs);clear ad;go_wp2;go_ret;exact⟨Q_ e,b⟩

theorem E2k {xs:List Int} {k:Nat} (h:xs.length<=k):val (xs.take (k+1))=val (xs.take k)+pw k*0:=by
 rw[CZ h,CZ oS];simp

def E0r (w:J) (t:TypeId) (xs:List Int) (e:Ending) (w':J):Prop :=
 ∃ g c,e=.returned (S (QL ⟨g,0,I⟩) xs.length c)/\w'.ownsRow w.1.size t 1 (S (QL ⟨g,0,I⟩) xs.length c) xs.length (xs.map (QS QO))/\Bw w w'

theorem C8l (A B:Option AH) (n m c d:Nat) (xs ys:List Int) (bs aJ:List Nat) (w:J) (hx:Sl w A n c xs bs) (ar:Sl w B m d ys aJ) (aB:XN.Can xs) (aC:XN.Can ys) (ai:n<=1048576) (aE:val ys<=val xs) :
  AR prog 280 #[S A n c,S B m d] w (E0r w 3 (dig (val xs - val ys).toNat)):=by
 obtain⟨am,ah,aj,ak,al⟩:=DW A6b;have aF:=A_ hx.1;have aP:=A_ ar.1;have aH:=A_ hx;have aI:=A_ ar;have ay:=A_ aB;have az:=A_ aC;have aA:=A_ aE;clear hx ar aB aC aE;go_enter func280,ntmps280;go_wp2_with fail;go_loopw [5,6,12] (λv y i wr=>∃ (k:Nat) (bw:Int) (b:List Int),k<=n/\0<=bw/\bw<=1/\i=QS QO k/\y=QS QO bw/\wr.ownsRow w.1.size 3 1 v b.length (b.map (QS QO))/\v≠S I 0 0/\Hid (b.length=k)/\Hid (Lims b)/\Hid (val b=val (xs.take k) - val (ys.take k)+pw k*bw)/\Bw w wr) (λv y i wr=>n - (DC i).toNat);case atStart=>exact⟨0,0,[],DV _,oS,oS,rfl,rfl,IW w #[] 0 (BH _) (DV _) rfl,(λh=>by cases h),rfl,Lims.nil,by simp[Hid,val],Below.go⟩
 case round =>
  obtain⟨k,bw,b,aO,a1,a2,rfl,rfl,H,aT,Z,Y,ac,W⟩:=hrel;rcases BN k n with D|D
  ·have a6:(k:Int)<n:=oS
   obtain⟨b1,o1,x,rfl,aY,ap,_,a3⟩:=DB (AQ aH W) D;have aq:=ay.1.get ap;have ag:=A_ (Y_ ap);have a7:=aq.1;have a8:=aq.2;clear ap aq;have aR:b.length<=1048576:=by rw[Z.o];omega
   have ad:=A_ (by unfold BG;omega:b.length+1<=BG);have ae:=A_ (by omega:(b.length+1)*8<=140737488355328);have af:=A_ W.size;have a5:(k:Int)<=1048576:=oS;have O:k+1<=n:=D;have T:=A_ (by intro x;rw[EF,Z.o];rfl:∀ x:Int,(b++[x]).length=k+1);clear aR;rcases BN k m with ab|ab
   ·have aD:(k:Int)<m:=oS
    obtain⟨b2,o2,y,rfl,aZ,au,_,a4⟩:=DB (AQ aI W) ab;have aw:=az.1.get au;have aa:=A_ (Y_ au);have a9:=aw.1;have ba:=aw.2;clear au aw;rcases EO (x - bw - y) 0 with ao|ao
    ·have L:=A_ (show Lims (b++[x - bw - y+1000000000])from Y.o.snoc oS oS)
     have r:=A_ (show val (b++[x - bw - y+1000000000])=val (xs.take (k+1)) - val (ys.take (k+1))+pw (k+1)*1 by rw[A4s,Z.o,ac.o,ag.o,aa.o,A1l];grind);clear ai;go_wp2_with (first|(at_builtin;refine IU _ rfl _ _ 31 rfl w.1.size 3 am (QS QO 0) 1 8 underlying31 ah aj ak al rfl dE _ _ _ rfl (H.alloc _) ⟨wr.1.size,0,I⟩ 1 1 [QS QO (x - bw - y+1000000000)] rfl rfl (JL _ _ _) (λx hx=>iH) ad ae (A1a af _) ?_;intro ax w3 G X E));have u:=A2o W H X;first
     |exact⟨⟨k+1,1,b++[x - bw - y+1000000000],O,JE 1,GA 1,rfl,rfl,A1t G,(λh=>absurd (E.1 h).2 dE),T _,L,r,u⟩,V_ D⟩
     |exact⟨by(repeat apply EI);exact⟨⟨k+1,1,b++[x - bw - y+1000000000],O,JE 1,GA 1,rfl,rfl,A1t G,(λh=>absurd (E.1 h).2 dE),T _,L,r,u⟩,rfl⟩,V_ D⟩
    ·have aQ:¬ (x - bw - y<0):=oS
     have L:=A_ (show Lims (b++[x - bw - y])from Y.o.snoc oS oS);have r:=A_ (show val (b++[x - bw - y])=val (xs.take (k+1)) - val (ys.take (k+1))+pw (k+1)*0 by rw[A4s,Z.o,ac.o,ag.o,aa.o,A1l];grind);clear ai;go_wp2_with (first|(at_builtin;refine IU _ rfl _ _ 31 rfl w.1.size 3 am (QS QO 0) 1 8 underlying31 ah aj ak al rfl dE _ _ _ rfl (H.alloc _) ⟨wr.1.size,0,I⟩ 1 1 [QS QO (x - bw - y)] rfl rfl (JL _ _ _) (λx hx=>iH) ad ae (A1a af _) ?_;intro ax w3 G X E));have u:=A2o W H X;first
     |exact⟨⟨k+1,0,b++[x - bw - y],O,GA 0,JE 1,rfl,rfl,A1t G,(λh=>absurd (E.1 h).2 dE),T _,L,r,u⟩,V_ D⟩
     |exact⟨by(repeat apply EI);exact⟨⟨k+1,0,b++[x - bw - y],O,GA 0,JE 1,rfl,rfl,A1t G,(λh=>absurd (E.1 h).2 dE),T _,L,r,u⟩,rfl⟩,V_ D⟩
   ·have aD:¬ ((k:Int)<m):=oS
    have aa:=A_ (E2k (k:=k) (by rw[aP.o];exact ab));rcases EO (x - bw) 0 with ao|ao
    ·have L:=A_ (show Lims (b++[x - bw+1000000000])from Y.o.snoc oS oS)
     have r:=A_ (show val (b++[x - bw+1000000000])=val (xs.take (k+1)) - val (ys.take (k+1))+pw (k+1)*1 by rw[A4s,Z.o,ac.o,ag.o,aa.o,A1l];grind);clear ai ab;go_wp2_with (first|(at_builtin;refine IU _ rfl _ _ 31 rfl w.1.size 3 am (QS QO 0) 1 8 underlying31 ah aj ak al rfl dE _ _ _ rfl (H.alloc _) ⟨wr.1.size,0,I⟩ 1 1 [QS QO (x - bw+1000000000)] rfl rfl (JL _ _ _) (λx hx=>iH) ad ae (A1a af _) ?_;intro ax w3 G X E));have u:=A2o W H X;first
     |exact⟨⟨k+1,1,b++[x - bw+1000000000],O,JE 1,GA 1,rfl,rfl,A1t G,(λh=>absurd (E.1 h).2 dE),T _,L,r,u⟩,V_ D⟩
     |exact⟨by(repeat apply EI);exact⟨⟨k+1,1,b++[x - bw+1000000000],O,JE 1,GA 1,rfl,rfl,A1t G,(λh=>absurd (E.1 h).2 dE),T _,L,r,u⟩,rfl⟩,V_ D⟩
    ·have aQ:¬ (x - bw<0):=oS
     have L:=A_ (show Lims (b++[x - bw])from Y.o.snoc oS oS);have r:=A_ (show val (b++[x - bw])=val (xs.take (k+1)) - val (ys.take (k+1))+pw (k+1)*0 by rw[A4s,Z.o,ac.o,ag.o,aa.o,A1l];grind);clear ai ab;go_wp2_with (first|(at_builtin;refine IU _ rfl _ _ 31 rfl w.1.size 3 am (QS QO 0) 1 8 underlying31 ah aj ak al rfl dE _ _ _ rfl (H.alloc _) ⟨wr.1.size,0,I⟩ 1 1 [QS QO (x - bw)] rfl rfl (JL _ _ _) (λx hx=>iH) ad ae (A1a af _) ?_;intro ax w3 G X E));have u:=A2o W H X;first
     |exact⟨⟨k+1,0,b++[x - bw],O,GA 0,JE 1,rfl,rfl,A1t G,(λh=>absurd (E.1 h).2 dE),T _,L,r,u⟩,V_ D⟩
     |exact⟨by(repeat apply EI);exact⟨⟨k+1,0,b++[x - bw],O,GA 0,JE 1,rfl,rfl,A1t G,(λh=>absurd (E.1 h).2 dE),T _,L,r,u⟩,rfl⟩,V_ D⟩
  obtain rfl:k=n:=oS;have aS:=A_ (show trim b=dig (val xs - val ys).toNat by
   have an:=ac.o;rw[CZ (FZ aF.o)]at an;have aK:ys.length<=k:=by
    rcases BN xs.length ys.length with h|h;·have:=Can.lt_of_len ay.1 az h;have:=aA.o;omega
    rw[<-aF.o];exact h
   rw[CZ aK]at an;have aL:=A4j Y;rw[Z.o]at aL;have aW:=aA.o;have aN:bw=0:=by
    rcases EO 0 bw with h|h;·have:bw=1:=oS;subst this;omega
    omega
   rw[aN]at an;exact A8i Y.o oS)
  have aD:¬ ((k:Int)<k):=oS;have aM:=A_ (show ∀ x∈b,I64 x from Y.i64);rcases A6k H with⟨e,_⟩|⟨aV,aU,rfl,_⟩
  ·exact absurd e aT
  clear D aO;go_wp2_with fail;refine(A6z _ _ _ _ b _ H aM).mono ?_;rintro _ w3 ⟨rfl,aX,aG⟩;have u:Bw w w3:=Below.go;go_wp2;go_ret;rw[aS.o]at aG ⊢;exact⟨_,_,rfl,aG,u⟩

theorem B5m (A B:Option AH) (n m c d:Nat) (xs ys:List Int) (bs aW:List Nat) (w:J) (ak:Sl w A n c xs bs) (an:Sl w B m d ys aW) (aC:Lims xs) (aD:Lims ys) (bn:n<=1048576) (bm:m<=1048576) :
  AR prog 281 #[S A n c,S B m d] w (B3k w 3 (dig (val xs*val ys).toNat)):=by
 obtain⟨aP,aF,aL,aM,aN⟩:=DW A6b;have aG:=A_ ak.1;have aH:=A_ an.1;have aR:=A_ ak;have aT:=A_ an;have ar:=A_ aC;have au:=A_ aD;have b2:=A_ (by rw[aN];omega:aP.bytes*(n+m)<=281474976710656);have aV:=A_ (by unfold BG;omega:n+m<=BG);clear ak an aC aD;rcases FV n with ag|ag;·subst ag;have e:=A_ (by rw[IF aG.o];simp[val];rfl:dig (val xs*val ys).toNat=[]);go_enter func281,ntmps281;go_wp2;go_ret;rw[e.o];exact⟨_,rfl,MO _ _ _ _,Below.go⟩
 rcases FV m with af|af;·subst af;have e:=A_ (by rw[IF aH.o];simp[val];rfl:dig (val xs*val ys).toNat=[]);have aK:((n:Int)==0)=AF:=oR;go_enter func281,ntmps281;go_wp2;go_ret;rw[e.o];exact⟨_,rfl,MO _ _ _ _,Below.go⟩
 have aK:((n:Int)==0)=AF:=oR;have bf:((m:Int)==0)=AF:=oR;go_enter func281,ntmps281;go_wp2_with (at_make;(refine LG _ rfl _ _ 31 rfl w.1.size 3 aP (QS QO 0) 1 underlying31 aF aL aM .i64 .i64 _ _ (n+m) rfl rfl rfl rfl b2 aV (BH _) ?_);intro bt ah aE);rw[A8c]at ah;have T:=(CG w.1.size w).grown aE (BH _) (by intro k ac;cases ac);clear aE aK bf ag af;go_loopw [28] (λi wr=>∃ (k:Nat) (zs:List Int),k<=n/\i=QS QO k/\wr.ownsRow w.1.size 3 1 (S (QL ⟨w.1.size,0,I⟩) (n+m) (n+m)) (n+m) (zs.map (QS QO))/\Hid (Lims zs)/\Hid (∀ j,k+m<=j->j<n+m->zs[j]?=QL 0)/\Hid (val zs=val (xs.take k)*val ys)/\Bw w wr) (λi wr=>n - (DC i).toNat);case atStart=>exact⟨0,_,DV _,rfl,ah,Lims.zeros _,λj _ a6=>by rw[MR,if_pos a6],by show val _=val (xs.take 0)*val ys;rw[A9k,ET];simp[val],T⟩
 case round =>
  obtain⟨i,zs,ac,rfl,u,Z,aO,aj,aa⟩:=hrel;clear ah T aF aL aM aN;obtain⟨aQ,rfl⟩:∃ aQ:J,aQ=wr:=⟨_,rfl⟩
  rcases BN i n with H|H
  ·have bi:(i:Int)<n:=oS
   obtain⟨b1,o1,x,rfl,T,al,_,aA⟩:=DB aR H;have am:=ar.get al;have aS:=A_ al;have ba:=am.1;have bc:=am.2;clear am al;have aX:=(aa.cell (p:=⟨b1,o1+i,I⟩) T).trans aA;have ay:=A_ u;clear u;go_wp2_with fail;go_loopw [8,35] (λy j wr=>∃ (k:Nat) (b:Int) (zs:List Int),k<=m/\0<=b/\b<1000000000/\j=QS QO k/\y=QS QO b/\wr.ownsRow w.1.size 3 1 (S (QL ⟨w.1.size,0,I⟩) (n+m) (n+m)) (n+m) (zs.map (QS QO))/\Hid (Lims zs)/\Hid (∀ j,i+m<=j->j<n+m->zs[j]?=QL 0)/\Hid (val zs+pw (i+k)*b=val (xs.take i)*val ys+pw i*(x*val (ys.take k)))/\Bw w wr) (λy j wr=>m - (DC j).toNat);case atStart=>exact⟨0,0,zs,DV _,oS,oS,rfl,rfl,ay.o,Z,aO,by show val zs+pw (i+0)*0=val (xs.take i)*val ys+pw i*(x*val (ys.take 0));rw[aj.o,ET];simp[val],aa⟩
   case round =>
    obtain⟨k,b,us,bl,aZ,a1,rfl,rfl,u,ae,aq,aJ,ab⟩:=hrel;clear ay Z aO aj aa aA T aX;rcases BN k m with G|G
    ·have a8:(k:Int)<m:=oS
     obtain⟨b2,o2,y,rfl,az,ao,_,aB⟩:=DB aT G;have ap:=au.get ao;have aU:=A_ ao;have bd:=ap.1;have be:=ap.2;clear ap ao;have bh:=(ab.cell (p:=⟨b2,o2+k,I⟩) az).trans aB;obtain⟨h,ai,bq,br⟩:=ae.o.num (j:=i+k) (by rw[A2n u];omega);have X:=A_ ai;obtain⟨a3,aY,a2⟩:=A0t u ai;clear ai aB az;obtain⟨bo,bp⟩:=C0c ba bc bd be;have a7:(k:Int)<=1048576:=oS;have a4:(i:Int)<=1048576:=oS;have a5:(i:Int)+k<n+m:=oS;have W:k+1<=m:=G;have aw:=A_ (by omega:0<=(h+x*y+b) / 1000000000);have ax:=A_ (by omega:(h+x*y+b) / 1000000000<1000000000);have L:=A_ (ae.o.set (i+k) (u:=(h+x*y+b) % 1000000000) oS oS);have O:=A_ (show ∀ j,i+m<=j->j<n+m->(us.set (i+k) ((h+x*y+b) % 1000000000))[j]?=QL 0 by intro j E Y;rw[IZ oS];exact aq j E Y);have r:=A_ (show val (us.set (i+k) ((h+x*y+b) % 1000000000))+pw (i+(k+1))*((h+x*y+b) / 1000000000)=val (xs.take i)*val ys+pw i*(x*val (ys.take (k+1))) by rw[show i+(k+1)=i+k+1 from rfl,B3g X.o aJ.o,Y_ aU.o,B0f];grind);have R:=A_ (A3a u (i+k) ((h+x*y+b) % 1000000000));have D:=A_ (ab.setCell (p:=⟨w.1.size,i+k,I⟩) (BH _) (QS QO ((h+x*y+b) % 1000000000)));go_wp2_with fail;first
     |exact⟨⟨k+1,(h+x*y+b) / 1000000000,_,W,aw,ax,rfl,rfl,R,L,O,r,D⟩,V_ G⟩
     |exact⟨by(repeat apply EI);exact⟨⟨k+1,(h+x*y+b) / 1000000000,_,W,aw,ax,rfl,rfl,R,L,O,r,D⟩,rfl⟩,V_ G⟩
    ·have ad:k=m:=oS
     subst ad;have a8:¬ ((k:Int)<k):=oS;have X:=A_ (aq.o (i+k) (BH _) oS);obtain⟨a3,aY,a2⟩:=A0t u X;have a7:(k:Int)<=1048576:=oS;have a4:(i:Int)<=1048576:=oS;have a5:(i:Int)+k<n+k:=oS;have W:i+1<=n:=H;have L:=A_ (ae.set (i+k) (u:=b) aZ a1);have O:=A_ (show ∀ j,i+1+k<=j->j<n+k->(us.set (i+k) b)[j]?=QL 0 by intro j E Y;rw[IZ oS];exact aq.o j oS Y);have r:=A_ (show val (us.set (i+k) b)=val (xs.take (i+1))*val ys by have E:=aJ.o;rw[CZ (FZ aH.o)]at E;rw[B3w X.o,Y_ aS.o];grind);have R:=A_ (A3a u (i+k) b);have D:=A_ (ab.setCell (p:=⟨w.1.size,i+k,I⟩) (BH _) (QS QO b));clear G;go_wp2_with fail;first
     |exact⟨⟨i+1,_,W,rfl,R,L,O,r,D⟩,V_ H⟩
     |exact⟨by(repeat apply EI);exact⟨⟨i+1,_,W,rfl,R,L,O,r,D⟩,rfl⟩,V_ H⟩
  have ad:i=n:=oS;subst ad;have a9:=A_ (show trim zs=dig (val xs*val ys).toNat by have E:=aj.o;rw[CZ (FZ aG.o)]at E;have Y:=IP (S_ ar) (S_ au);exact A8i Z.o oS);have bj:¬ ((i:Int)<i):=oS;clear H ac;go_wp2_with fail;refine(A6z _ _ _ _ zs _ u Z.i64).mono ?_;rintro _ w3 ⟨rfl,bg,aI⟩;have D:Bw w w3:=Below.go;go_wp2;go_ret;rw[a9.o]at aI ⊢;exact⟨_,rfl,aI,D⟩

theorem C8s (A:Option AH) (n c:Nat) (xs:List Int) (bs:List Nat) (d:Int) (w:J) (T:Sl w A n c xs bs) (ac:Lims xs) (H:0<d) (aL:d<1000000000) (aP:n<=1048576) :
  AR prog 277 #[S A n c,QS QO d] w (C3a w (dig (val xs / d).toNat) (val xs % d)):=by
 obtain⟨an,ae,ak,al,am⟩:=DW A6b;have aB:=A_ T.1;have ar:=A_ T;have ap:=A_ ac;have b2:=A_ (by rw[am];omega:an.bytes*n<=281474976710656);have aw:=A_ (by unfold BG;omega:n<=BG);clear T ac;go_enter func277,ntmps277;go_wp2_with (at_make;(refine LG _ rfl _ _ 31 rfl w.1.size 3 an (QS QO 0) 1 underlying31 ae ak al .i64 .i64 _ _ n rfl rfl rfl rfl b2 aw (BH _) ?_);intro aR O ad);rw[A8c]at O;have b:=(CG w.1.size w).grown ad (BH _) (by intro k aA;cases aA);clear ad;go_loopw [7,8] (λr i wr=>∃ (K:Nat) (q:Int) (zs:List Int),K<=n/\i=QS QO ((K:Int) - 1)/\r=QS QO q/\0<=q/\q<d/\wr.ownsRow w.1.size 3 1 (S (QL ⟨w.1.size,0,I⟩) n n) n (zs.map (QS QO))/\Hid (Lims zs)/\Hid (val (zs.drop K)*d+q=val (xs.drop K))/\Bw w wr) (λr i wr=>(DC i+1).toNat);case atStart =>refine⟨n,0,_,BH _,rfl,rfl,GA _,H,O,Lims.zeros _,?_,b⟩;show val ((CJ n (0:Int)).drop n)*d+0=val (xs.drop n);rw[JH sI,JH (FZ aB.o)];simp[val]
 case round =>
  obtain⟨K,q,zs,aa,rfl,rfl,ag,ah,u,h,aj,G⟩:=hrel;clear O b ae ak al am;rcases FV K with E|E;·subst E;have e:=A_ (show dig (val xs / d).toNat=trim zs/\val xs % d=q by have Z:=aj.o;rw[EH,EH]at Z;obtain⟨ax,ay⟩:=D2a H Z ag ah;refine⟨?_,ay⟩;rw[ax];exact(A8i h (IM (S_ h)).symm).symm);go_wp2_with fail;refine(A6z _ _ _ _ zs _ u h.i64).mono ?_;rintro _ w3 ⟨rfl,aI,aC⟩;have D:Bw w w3:=Below.go;go_wp2;go_ret2;rw[e.o.1,e.o.2];exact⟨_,rfl,aC,D⟩
  ·obtain⟨j,rfl⟩:∃ j,K=j+1:=⟨K - 1,oS⟩
   have Y:(((j+1:Nat):Int) - 1)=j:=oS;rw[Y];have az:j<n:=aa;obtain⟨b1,o1,x,rfl,b,W,_,ab⟩:=DB ar az;have X:=ap.get W;have au:=A_ W;have aF:=X.1;have aG:=X.2;have aJ:=(G.cell (p:=⟨b1,o1+j,I⟩) b).trans ab;have aH:b1<wr.1.size:=by have:=G.size;omega
   clear X W ab b;obtain⟨aQ,ai,aD,aE⟩:=h.o.num (j:=j) (by rw[A2n u];omega);obtain⟨aN,aK,aM⟩:=A0t u ai;have aq:=A_ (by rw[A2n u];omega:j<zs.length);clear ai aD aE;have Q:=A_ (D9u H ag ah aF aG);have Q1:0<=q*1000000000+x:=oS;have r:=A_ (D4g aq au aj);have L:=A_ (h.set j Q.1 Q.2.1);have R:=A_ (A3a u j ((q*1000000000+x) / d));have D:=A_ (G.setCell (p:=⟨w.1.size,j,I⟩) (BH _) (QS QO ((q*1000000000+x) / d)));have aO:(j:Int)<n:=oS;have af:j<=n:=oS;have ao:(DC (QS QO ((j:Int) - 1))+1).toNat<(DC (QS QO (j:Int))+1).toNat:=by simp[DC]
   clear Y aa E;go_wp2_with fail;first
   |exact⟨⟨j,(q*1000000000+x) % d,_,af,rfl,rfl,Q.2.2.1,Q.2.2.2,R,L,r,D⟩,ao⟩
   |exact⟨by(repeat apply EI);exact⟨⟨j,(q*1000000000+x) % d,_,af,rfl,rfl,Q.2.2.1,Q.2.2.2,R,L,r,D⟩,rfl⟩,ao⟩

theorem B9p (w:J) (xs:List Int) (hm:xs.length<=BG):(w.alloc (.cells (xs.map (QS QO)).toArray 3)).ownsRow w.1.size 3 1 (S (QL ⟨w.1.size,0,I⟩) xs.length xs.length) xs.length (xs.map (QS QO)) :=
 ⟨sI,.inr ⟨w.1.size,xs.length,_,rfl,BH _,heap_alloc_new w _,BH _,hm,sI,by simp[<-List.map_take]⟩⟩

theorem E3u {a:Int}:sgn a<=0↔a<=0:=by unfold sgn;split<;>(try split)<;>omega

theorem C8c (A B:Option AH) (n m c d:Nat) (u ys:List Int) (bs aQ:List Nat) (w:J) (aI:Sl w A n c u bs) (aJ:Sl w B m d ys aQ) (ak:XN.Can u) (aC:XN.Can ys) (aE:m<=65536) (aK:0<val ys) (aU:val u<1000000000*val ys) :
  AR prog 279 #[S A n c,S B m d] w (A0b w (QS QO (val u / val ys))):=by
 have aw:=A_ aI;have ax:=A_ aJ;have aq:=A_ ak;have ar:=A_ aC;have ay:=A_ aK;have aV:=S_ ak.1;have aN:=A_ (by omega:0*val ys<=val u);have aO:=A_ (by omega:val u<(999999999+1)*val ys);clear aI aJ ak aC aK aU aV;go_enter func279,ntmps279;go_wp2_with fail;go_loopw [5,6] (λa b wr=>∃ lo h:Int,a=QS QO lo/\b=QS QO h/\0<=lo/\lo<=h/\h<=999999999/\Hid (lo*val ys<=val u)/\Hid (val u<(h+1)*val ys)/\Bw w wr) (λa b wr=>(DC b - DC a).toNat);case atStart=>exact⟨0,999999999,rfl,rfl,oS,oS,oS,aN,aO,CG _ _⟩
 case round =>
  obtain⟨lo,h,rfl,rfl,az,a1,aA,al,hh,X⟩:=hrel;rcases EO lo h with aR|aR
  ·obtain⟨q,aF⟩:∃ q,q=(lo+h+1) / 2:=⟨_,rfl⟩
   have a2:lo<q:=oS;have aG:q<=h:=oS;have aD:=A_ (show(dig q.toNat).length<=65536 from BM (A4r (k:=1) (by rw[pw_vals.1];omega)) dE);have aH:q<=9223372036854775807:=oS;have aM:=A_ (by rw[A1j,IM oS,ME]:val ys*val (dig q.toNat)=q*val ys);have au:=A_ (show val (dig (val ys*val (dig q.toNat)).toNat)=q*val ys by rw[A1j,aM.o,IM (IP oS (by have:=ay.o;omega))]);rcases EO (val u) (q*val ys)with ac|ac
   ·have W:=A_ (by rw[E3u];omega:¬ (sgn (q*val ys - val u)<=0))
    have r:=A_ (by rw[Int.sub_add_cancel];exact ac:val u<(q - 1+1)*val ys);have af:=A_ (by simp[DC];omega:(DC (QS QO (q - 1)) - DC (QS QO lo)).toNat<(DC (QS QO h) - DC (QS QO lo)).toNat);have ae:lo<=q - 1:=oS;have aL:q - 1<=999999999:=oS;clear ac;subst aF;go_wp2_with fail;refine(B1m ((lo+h+1) / 2) wr aH).mono ?_;rintro _ ao ⟨ag,n1,ai,aW,rfl,H,an,Y⟩;have O:=A_ H;have am:=A_ (by rw[<-H.1];exact aD:n1<=65536);clear H an;have D:=AI X Y;go_wp2_with fail;refine(B5m B ag m n1 d ai ys _ _ _ ao (AQ ax D) O ar.1 (A0j _).1 (BM aE dE) (BM am dE)).mono ?_;rintro _ ap ⟨v2,rfl,G,Z⟩;obtain⟨ah,aj,rfl⟩:=C4a G;obtain⟨aX,ad⟩:=A7v G (A0j _).1.i64;have T:=A_ ad;clear ad G;have E:=AI D Z;go_wp2_with fail;have C:=A9p ah A _ n aj c _ u _ _ ap T (AQ aw E) (A0j _) aq;rw[au.o]at C;refine C.mono ?_;clear C;rintro _ w3 ⟨rfl,aa⟩;have ab:=AI E aa;have aP:=W.o;generalize (sgn ((lo+h+1) / 2*val ys - val u))=aY at *;clear X Y Z aa D E W O T;go_wp2_with fail;first
    |exact⟨⟨lo,(lo+h+1) / 2 - 1,rfl,rfl,az,ae,aL,al,r,ab⟩,af⟩
    |exact⟨by(repeat apply EI);exact⟨⟨lo,(lo+h+1) / 2 - 1,rfl,rfl,az,ae,aL,al,r,ab⟩,rfl⟩,af⟩
   ·have W:=A_ (by rw[E3u];omega:sgn (q*val ys - val u)<=0)
    have r:=A_ (show q*val ys<=val u from ac);have af:=A_ (by simp[DC];omega:(DC (QS QO h) - DC (QS QO q)).toNat<(DC (QS QO h) - DC (QS QO lo)).toNat);have ae:0<=q:=oS;clear ac;subst aF;go_wp2_with fail;refine(B1m ((lo+h+1) / 2) wr aH).mono ?_;rintro _ ao ⟨ag,n1,ai,aW,rfl,H,an,Y⟩;have O:=A_ H;have am:=A_ (by rw[<-H.1];exact aD:n1<=65536);clear H an;have D:=AI X Y;go_wp2_with fail;refine(B5m B ag m n1 d ai ys _ _ _ ao (AQ ax D) O ar.1 (A0j _).1 (BM aE dE) (BM am dE)).mono ?_;rintro _ ap ⟨v2,rfl,G,Z⟩;obtain⟨ah,aj,rfl⟩:=C4a G;obtain⟨aX,ad⟩:=A7v G (A0j _).1.i64;have T:=A_ ad;clear ad G;have E:=AI D Z;go_wp2_with fail;have C:=A9p ah A _ n aj c _ u _ _ ap T (AQ aw E) (A0j _) aq;rw[au.o]at C;refine C.mono ?_;clear C;rintro _ w3 ⟨rfl,aa⟩;have ab:=AI E aa;have aP:=W.o;generalize (sgn ((lo+h+1) / 2*val ys - val u))=aY at *;clear X Y Z aa D E W O T;go_wp2_with fail;first
    |exact⟨⟨(lo+h+1) / 2,h,rfl,rfl,ae,aG,aA,r,hh,ab⟩,af⟩
    |exact⟨by(repeat apply EI);exact⟨⟨(lo+h+1) / 2,h,rfl,rfl,ae,aG,aA,r,hh,ab⟩,rfl⟩,af⟩
  obtain rfl:lo=h:=oS;have e:=A_ (show lo=val u / val ys by have aS:=ay.o;have aT:=al.o;have aB:=hh.o;symm;refine(Int.ediv_eq_iff_of_pos aS).2 ⟨aT,?_⟩;rw[Int.add_mul,Int.one_mul]at aB;exact aB);have aZ:¬ (lo<lo):=oS;go_wp2;go_ret;exact⟨A1x e,X⟩

theorem C8g (a b:Int) (w:J) (H:0<=a) (D:0<=b) (O:a<=9223372036854775807) (W:b<=9223372036854775807) :
  AR prog 276 #[QS QO a,QS QO b] w (B3k w 3 (dig (BQ a b))):=by
 go_enter func276,ntmps276;go_wp2_with fail;go_loopg [0,1] b.toNat (λg s0 s1 wr=>∃ x y:Int,s0=QS QO x/\s1=QS QO y/\0<=x/\x<=9223372036854775807/\0<=y/\y<=9223372036854775807/\Hid (BQ x y=BQ a b)/\Hid (y=g)/\Bw w wr);case atStart=>exact⟨a,b,rfl,rfl,H,O,D,W,rfl,(IM D).symm,CG _ _⟩
 case round =>
  obtain⟨x,y,rfl,rfl,af,aa,ac,ad,E,Y,h⟩:=hrel;by_cases ab:0<y
  ·have r0:=A_ (show 0<=x % y/\x % y<y from⟨LH _ oS,JY _ ab⟩)
   have ae:=A_ (by rw[B8y];exact E:BQ y (x % y)=BQ a b);have u:=A_ (by have:=r0.o;have:=Y.o;omega:(x % y).toNat<gk/\x % y<=9223372036854775807/\x % y=((x % y).toNat:Int));go_wp2_with fail;go_roundg (x % y).toNat;case measure=>exact u.1
   case rel=>exact⟨y,x % y,rfl,rfl,ac,ad,r0.1,u.2.1,ae,u.2.2,h⟩
  obtain rfl:y=0:=oS;have e:=A_ (by rw[<-E.o,Int.gcd_zero_right];omega:x.toNat=BQ a b);go_wp2_with fail;refine(B1n x _ aa).mono ?_;rintro _ ag ⟨v,rfl,Z,X⟩;have T:=AI h X;have G:=A8u Z h.size;rw[e.o]at G;go_wp2;go_ret;exact⟨_,rfl,G,T⟩

def D7m (w:J) (r:Int) (b:Bool) (e:Ending) (w':J):Prop :=
 e=.returned (.tuple #[QS QO r,.bool b])/\Bw w w'

theorem B7e (A:Option AH) (n c:Nat) (xs:List Int) (bs:List Nat) (w:J) (b:Sl w A n c xs bs) (D:XN.Can xs) (aw:n<=2) :
  AR prog 275 #[S A n c] w (D7m w (val xs) AD):=by
 have Y:=A_ b.1;have G:=A_ b;have h:=A_ D;have ao:=A_ (show A3m xs=AD from natOkB_iff.2 ⟨by rw[b.1];omega,D⟩);have an:=A_ (by decide:[854775807,223372036,9].length<=BG);have H:=A_ (show XN.Can [854775807,223372036,9]from⟨Lims.cons dE dE (Lims.cons dE dE (Lims.one dE dE)),dE⟩);have aj:=A_ (show sgn (val xs - val [854775807,223372036,9]) = -1 from B2q (XN.Can.lt_of_len D.1 H.o (by rw[b.1];simp;omega)));have al:c<=BG:=b.2.2.1;have ay:=b.2.1;unfold BG at al;clear b D;go_enter func275,ntmps275;go_wp2_with fail;have C:=B3v A n c xs bs w G;rw[ao.o]at C;refine C.mono ?_;clear C;rintro _ ai ⟨rfl,ac⟩;go_wp2_with fail;have Z:=A_ (B9p ai [854775807,223372036,9] an);obtain⟨ap,ag⟩:=A7v Z (λx b=>H.1.i64 x b);have T:Bw w (ai.alloc (Obj.cells #[QS QO 854775807,QS QO 223372036,QS QO 9] 3)):=Below.go;have C:=A9p A _ n 3 c 3 xs _ bs ap _ (AQ G T) ag h H;rw[aj.o]at C;refine C.mono ?_;clear C;rintro _ aD ⟨rfl,ad⟩;have ae:=AI T ad;clear ag Z ac T ad;go_wp2_with fail;go_loopw [4,5] (λa i wr=>∃ (K:Nat) (q:Int),K<=n/\i=QS QO ((K:Int) - 1)/\a=QS QO q/\Hid (q=val (xs.drop K))/\Bw w wr) (λa i wr=>(DC i+1).toNat);case atStart =>refine⟨n,0,BH _,rfl,rfl,?_,ae⟩;show 0=val (xs.drop n);rw[JH (FZ Y.o)];rfl
 case round =>
  obtain⟨K,q,ab,rfl,rfl,E,u⟩:=hrel;clear ae;rcases FV K with O|O;·subst O;have e:=A_ (by rw[E.o,EH]:q=val xs);go_wp2;go_ret2;rw[e.o];exact⟨rfl,u⟩
  ·obtain⟨j,rfl⟩:∃ j,K=j+1:=⟨K - 1,oS⟩
   have aa:(((j+1:Nat):Int) - 1)=j:=oS;rw[aa];have am:j<n:=ab;obtain⟨b1,o1,x,rfl,ac,W,_,ar⟩:=DB (AQ G u) am;have X:=h.1.get W;have r:=A_ (by rw[A4n W,<-E.o];omega:q*1000000000+x=val (xs.drop j));have aB:=X.1;have aC:=X.2;have az:0<=q:=by rw[E.o];exact S_ (h.1.drop _)
   have aA:q<1000000000:=by rw[E.o];have aq:=A4j (h.1.drop (j+1));have ak:=A6t (by rw[List.length_drop,Y.o];omega:(xs.drop (j+1)).length<=1);rw[pw_vals.1]at ak;omega
   have au:(j:Int)<n:=oS;have ax:(j:Int)+1<=c:=oS;have af:j<=n:=oS;have ah:(DC (QS QO ((j:Int) - 1))+1).toNat<(DC (QS QO (j:Int))+1).toNat:=by simp[DC]
   clear aa ab O W X;go_wp2_with fail;first
   |exact⟨⟨j,q*1000000000+x,af,rfl,rfl,r,u⟩,ah⟩
   |exact⟨by(repeat apply EI);exact⟨⟨j,q*1000000000+x,af,rfl,rfl,r,u⟩,rfl⟩,ah⟩

theorem C8q {w b:J} {lo size n:Nat} {e:TypeId} {v:Value} {xs:List Value} (h:w.ownsRow lo e size v n xs) (G:Above lo w b):b.ownsRow lo e size v n xs:=by
 refine⟨h.1,?_⟩;rcases h.2 with H|⟨g,cap,E,rfl,u,D,rest⟩
 ·exact .inl H
 exact .inr ⟨g,cap,E,rfl,u,(G.block g u (E_ D)).trans D,rest⟩
theorem E0i {x:Int} {b:List Int} (u:0<=x) (D:x<1000000000) (h:Lims b):trim (x::b)=dig (x+1000000000*val b).toNat:=by
 have E:=S_ h;exact A8i (Lims.cons u D h) (by simp only[val];omega)
theorem E5d {zs xs:List Int} {j:Nat} {x V R:Int} (u:zs[j]?=QL 0) (b:xs[j]?=QL x) (h:val (zs.drop (j+1))*V+R=val (xs.drop (j+1))):val (zs.drop j)*V+(x+1000000000*R)=val (xs.drop j):=by
 rw[A4n u,A4n b,<-h];grind
theorem E7j {zs xs:List Int} {j:Nat} {x V R q:Int} (u:zs[j]?=QL 0) (b:xs[j]?=QL x) (h:val (zs.drop (j+1))*V+R=val (xs.drop (j+1))):val ((zs.set j q).drop j)*V+(x+1000000000*R - q*V)=val (xs.drop j):=by
 rw[C5v (CQ.1 u).1,A4n b,<-h];simp only[val];grind

theorem B1v (A B:Option AH) (n m c d:Nat) (xs ys:List Int) (bs ak:List Nat) (w:J) (ag:Sl w A n c xs bs) (ax:Sl w B m d ys ak) (bB:XN.Can xs) (aN:XN.Can ys) (cM:n<=65536) (bK:0<m) (bJ:m<=65536) :
  AR prog 228 #[S A n c,S B m d] w (C0i w (dig (val xs / val ys).toNat) (dig (val xs % val ys).toNat)):=by
 obtain⟨aW,bG,b0,b3,b4⟩:=DW A6b;have a6:=A_ ag;have aa:=A_ ax;have a1:=A_ bB;have O:=A_ aN;have cp:=A_ ag.1;have a8:=A_ ax.1;have E:=A_ (aN.pos (by intro e;rw[<-ax.1,e]at bK;simp at bK));have cF:c<=BG:=ag.2.2.1;have da:=ag.2.1;unfold BG at cF;clear ag ax bB aN;by_cases ac:m=1
 ·subst ac
  obtain⟨c0,db,y,rfl,c6,ay,cA,cE⟩:=DB aa (k:=0) dE;simp only[Nat.add_zero]at cE;have a4:=A_ (show val ys=y by
   have h:=a8.o;match ys,h with
   | [z],_=>simp at ay;subst ay;simp[val])
  have bZ:=O.1.get ay;have bY:0<y:=by rw[<-a4.o];exact E
  have cQ:=bZ.2;have b:=A_ (JY (val xs) bY);clear ay bZ cA;go_enter func228,ntmps228;go_wp2_with fail;refine(C8s A n c xs bs y _ a6 a1.1 bY cQ (BM cM dE)).mono ?_;rintro _ aZ ⟨v1,rfl,bQ,ae⟩;go_wp2_with fail;refine(B1n (val xs % y) aZ (by have:=b.o;omega)).mono ?_;rintro _ df ⟨v2,rfl,bR,br⟩;have cP:=I_ bQ br;go_wp2;go_ret2;rw[a4.o];exact B1d cP bR (A0j _).1.i64 (A0j _).1.i64 (BH _) ae.size (B8h bQ bR) (AI ae br)
 ·have cR:((m:Int)==1)=AF:=oR
  have b2:=A_ (by rw[b4];omega:aW.bytes*n<=281474976710656);have cw:=A_ (by unfold BG;omega:n<=BG);go_enter func228,ntmps228;go_wp2_with (at_make;(refine LG _ rfl _ _ 31 rfl w.1.size 3 aW (QS QO 0) 1 underlying31 bG b0 b3 .i64 .i64 _ _ n rfl rfl rfl rfl b2 cw (BH _) ?_);intro aZ ar bF);rw[A8c]at ar;have ae:=(CG w.1.size w).grown bF (BH _) (by intro k cL;cases cL);have bI:=(EU ar _ rfl).2;clear bF cR ac;go_loopw [9,10] (λv i wr=>∃ (K:Nat) (zs D:List Int),K<=n/\i=QS QO ((K:Int) - 1)/\wr.ownsRow w.1.size 3 1 (S (QL ⟨w.1.size,0,I⟩) n n) n (zs.map (QS QO))/\wr.ownsRow (w.1.size+1) 3 1 v D.length (D.map (QS QO))/\v≠S I 0 0/\Hid (Lims zs)/\Hid (∀ i,i<K->zs[i]?=QL 0)/\Hid (XN.Can D)/\Hid (val D<val ys)/\Hid (val (zs.drop K)*val ys+val D=val (xs.drop K))/\Bw w wr) (λv i wr=>(DC i+1).toNat);case atStart =>
   refine⟨n,_,[],BH _,rfl,ar.alloc _,IW aZ #[] 0 bI (DV _) rfl,(λh=>by cases h),Lims.zeros n,λi h=>?_,Can.nil,E,?_,Below.go⟩;·rw[MR,if_pos h]
   show val ((CJ n (0:Int)).drop n)*val ys+0=val (xs.drop n);rw[JH sI,JH (FZ cp.o)];simp[val]
  case round =>
   obtain⟨K,zs,D,bm,rfl,aq,au,bV,Z,aV,Y,aQ,aw,aJ⟩:=hrel;clear ar ae bI;rcases FV K with aG|aG;·subst aG;have e:=A_ (show trim zs=dig (val xs / val ys).toNat/\D=dig (val xs % val ys).toNat by have ac:=aw.o;rw[EH,EH]at ac;obtain⟨aE,aF⟩:=D2a E ac (S_ Y.1) aQ;rw[aE,aF];exact⟨A8i Z (IM (S_ Z)).symm,Y.eq_dig⟩);go_wp2_with fail;refine(A6z _ _ _ _ zs _ aq Z.i64).mono ?_;rintro _ w3 ⟨rfl,af,bN⟩;have cD:Bw w w3:=Below.go;have aR:=I_ au af;go_wp2;go_ret2;rw[e.o.1]at bN ⊢;rw[e.o.2]at aR;refine B1d bN aR (A0j _).1.i64 (A0j _).1.i64 (BH _) oS ?_ cD;intro c2 bl aE aF;have:=B0b aR _ aF;simp[Value.ownBlock]at aE;omega
   ·obtain⟨j,rfl⟩:∃ j,K=j+1:=⟨K - 1,oS⟩
    have bj:(((j+1:Nat):Int) - 1)=j:=oS;rw[bj];have cK:j<n:=bm;rcases A6k au with⟨e,_⟩|⟨bl,cx,rfl,_⟩
    ·exact absurd e bV
    obtain⟨b1,o1,x,rfl,ae,aT,_,c7⟩:=DB (AQ a6 aJ) cK;have aU:=a1.1.get aT;have a7:=A_ aT;have bW:=aU.1;have bX:=aU.2;have bH:=(EU aq _ rfl).2;have rl:=A_ (show D.length<=m by
     rcases BN m D.length with h|h;·have:=Can.lt_of_len O.o.1 Y.o (by rw[a8.o];exact h);have:=aQ.o;omega
     exact h)
    have ce:=A_ (by unfold BG;have:=rl.o;omega:1+D.length<=BG);have cf:=A_ (by have:=rl.o;omega:(1+D.length)*8<=140737488355328);have ct:=A_ (show(wr.alloc (.cells #[QS QO x] 3)).ownsRow (w.1.size+1) 3 1 (S (QL ⟨wr.1.size,0,I⟩) 1 1) 1 [QS QO x]from A8u (B9p wr [x] (by simp[BG])) bH);have cu:=A_ (B0b (B9p wr [x] (by simp[BG])));have ck:=A_ (show ∀ u∈x::D,I64 u from(Lims.cons bW bX Y.1).i64);have bh:=A_ (E0i bW bX Y.1);have aB:=A_ (aV.o j oS);have ba:=A_ (by have:=S_ Y.1;omega:0<=x+1000000000*val D);have a9:=A_ (by have:=aQ.o;omega:x+1000000000*val D<1000000000*val ys);have cg:=A_ (E5d aB a7 aw);have ch:=A_ (λq=>E7j (q:=q) aB a7 aw);have c8:(j:Int)<n:=oS;have c9:(j:Int)+1<=c:=oS;have ap:j<=n:=oS;have aA:(DC (QS QO ((j:Int) - 1))+1).toNat<(DC (QS QO (j:Int))+1).toNat:=by simp[DC]
    have cn:=A_ au;have aX:=A_ (show ∀ i,i<j->zs[i]?=QL 0 from λi h=>aV.o i oS);have cm:=A_ aq;generalize cB:x+1000000000*val D=b at *;clear bj bm aG aT aU aw au aV cB aq bV;have co:=A_ (show(dig b.toNat).length<=m+1 by rw[<-bh.o,B3n,GH];have:=rl.o;simp only[List.length_cons];omega);have H:=A_ (by rw[A1j,IM ba.o]:val (dig b.toNat)=b);go_wp2_with (at_builtin;(refine IU _ rfl _ _ 31 rfl (w.1.size+1) 3 aW (QS QO 0) 1 8 underlying31 bG b0 b3 b4 rfl dE _ 1 [.int .i64 x] rfl ct.o ⟨bl,0,I⟩ D.length cx (D.map (QS QO)) rfl sI ((cn.o.alloc _).cells rfl) (D4k D) ce.o cf.o (A1a bH _) ?_);intro cW w3 bM bE bL);have af:Bw wr w3:=((CG _ wr).alloc (BH _) _).grown bE (A1a (BH _) _) cu;have aC:w3.ownsRow (w.1.size+1) 3 1 cW (x::D).length ((x::D).map (QS QO)):=by have h:=bM;rw[Nat.add_comm 1 D.length]at h;exact h
    rcases A6k aC with⟨e,_⟩|⟨c4,c3,rfl,_⟩;·have:=(bL.1 e).1;cases this
    have bn:=I_ cm af;have bt:=AI aJ af;clear bM bE bL af;go_wp2_with fail;refine(A6z _ _ _ _ (x::D) _ aC ck).mono ?_;rintro _ b8 ⟨rfl,aK,T⟩;rw[bh.o]at T ⊢;have al:=I_ bn aK;have W:=AI bt aK;clear aC bn bt aK aJ;obtain⟨aY,bS⟩:=A7v T (A0j _).1.i64;have aj:=A_ bS;clear bS;rcases EO b (val ys)with aO|bD
    ·have aD:=A_ (B2q aO)
     go_wp2_with fail;have C:=A9p _ B _ m c3 d _ ys aY ak b8 aj (AQ aa W) (A0j _) O;rw[H.o,aD.o]at C;refine C.mono ?_;clear C;rintro _ b9 ⟨rfl,G⟩;have X:=AI W G;have ad:=I_ al G;have ab:=I_ T G;have ah:=A_ (by rw[H.o];exact cg:val (zs.drop j)*val ys+val (dig b.toNat)=val (xs.drop j));have ai:=A_ (by rw[H.o];exact aO:val (dig b.toNat)<val ys);clear W al T aO;go_wp2_with fail;first
     |exact⟨⟨j,zs,_,ap,rfl,ad,ab,(λh=>by cases h),Z,aX,A0j _,ai,ah,X⟩,aA⟩
     |exact⟨by(repeat apply EI);exact⟨⟨j,zs,_,ap,rfl,ad,ab,(λh=>by cases h),Z,aX,A0j _,ai,ah,X⟩,rfl⟩,aA⟩
    ·have aD:=A_ (B8n bD)
     clear bD;have az:=A_ (Int.ediv_nonneg ba (JC E));have q1:=A_ (show b / val ys<1000000000 from Int.ediv_lt_of_lt_mul E a9);have q2:=A_ (by have:=q1.o;omega:b / val ys<=9223372036854775807);have ci:=A_ (by rw[A1j,IM az.o,ME]:val ys*val (dig (b / val ys).toNat)=b / val ys*val ys);have a3:=A_ (show val (dig (val ys*val (dig (b / val ys).toNat)).toNat)=b / val ys*val ys by rw[A1j,ci.o,IM (IP az.o (JC E.o))]);have a2:=A_ (by rw[Int.emod_def,ME]:b - b / val ys*val ys=b % val ys);have cq:=A_ (LH b (Int.ne_of_gt E));have cs:=A_ (JY b E);have cH:=A_ (show(dig (b / val ys).toNat).length<=65536 from BM (A4r (k:=1) (by rw[pw_vals.1];have:=az.o;have:=q1.o;omega)) dE);go_wp2_with fail;have C:=A9p _ B _ m c3 d _ ys aY ak b8 aj (AQ aa W) (A0j _) O;rw[H.o]at C;refine C.mono ?_;clear C;rintro _ b9 ⟨rfl,G⟩;have cZ:=aD.o;generalize sgn (b - val ys)=dd at *;have X:=AI W G;have ad:=I_ al G;have ab:=I_ T G;have bg:=A_ (AQ aj G);clear W al T aj;go_wp2_with fail;have C:=C8c _ B _ m c3 d _ ys aY ak b9 bg.o (AQ aa.o X) (A0j _) O.o bJ E.o (by rw[H.o];exact a9);rw[H.o]at C;refine C.mono ?_;clear C;rintro _ ca ⟨rfl,am⟩;have bu:=AI X am;have aH:=I_ ad am;have bc:=I_ ab am;clear X ad ab bg;obtain⟨cJ,cG,cI⟩:=A0t aH aB;have bv:=bu.setCell (p:=⟨w.1.size,j,I⟩) (BH _) (QS QO (b / val ys));have bd:=C8q bc ((Above.refl (w.1.size+1) ca).set (p:=⟨w.1.size,j,I⟩) (Nat.lt_succ_self _) (QS QO (b / val ys)));have bo:=A3a aH j (b / val ys);clear bu aH bc;go_wp2_with fail;generalize ca.setCell ⟨w.1.size,j,I⟩ (QS QO (b / val ys))=cX at *;clear cG cI cJ am G;refine(B1m (b / val ys) cX q2).mono ?_;rintro _ cY ⟨cc,b5,cy,dc,rfl,aS,cO,an⟩;have a5:=A_ aS;have cN:=A_ (by rw[<-aS.1];exact cH:b5<=65536);have aL:=AI bv an;have bp:=I_ bo an;have be:=I_ bd an;clear aS cO bv bo bd;go_wp2_with fail;refine(B5m B cc m b5 d cy ys _ _ _ cY (AQ aa aL) a5 O.1 (A0j _).1 (BM bJ dE) (BM cN dE)).mono ?_;rintro _ cb ⟨de,rfl,aP,ao⟩;obtain⟨cd,cz,rfl⟩:=C4a aP;obtain⟨cU,bT⟩:=A7v aP (A0j _).1.i64;have cj:=A_ bT;have bz:=AI aL ao;have aI:=I_ bp ao;have bf:=I_ be ao;clear bT aP a5 aL bp be;obtain⟨cV,bU⟩:=A7v bf (A0j _).1.i64;have cv:=A_ bU;clear bU;go_wp2_with fail;have C:=C8l _ cd _ _ c3 cz (dig b.toNat) _ cV cU cb cv.o cj.o (A0j _) (A0j _) (BM co.o oS) (by rw[a3.o,H.o];exact Int.ediv_mul_le b (Int.ne_of_gt E));rw[a3.o,H.o,a2.o]at C;refine C.mono ?_;clear C;rintro _ wx ⟨c5,c1,rfl,bO,aM⟩;have bA:=AI bz aM;have bq:=I_ aI aM;have bP:=A8u bO (show w.1.size+1<=cb.1.size from Nat.lt_of_lt_of_le (EU aI _ rfl).2 (BH _));have bi:=A_ (by rw[A1j,IM cq.o]:val (dig (b % val ys).toNat)=b % val ys);have ah:=A_ (show val ((zs.set j (b / val ys)).drop j)*val ys+val (dig (b % val ys).toNat)=val (xs.drop j) by rw[bi.o,<-a2.o];exact ch _);have ai:=A_ (by rw[bi.o];exact cs:val (dig (b % val ys).toNat)<val ys);have b6:=A_ (Z.set j az q1);have b7:=A_ (show ∀ i,i<j->(zs.set j (b / val ys))[i]?=QL 0 from λi h=>by rw[IZ oS];exact aX i h);clear bz aI bf bO aM ao an;go_wp2_with fail;first
     |exact⟨⟨j,_,_,ap,rfl,bq,bP,(λh=>by cases h),b6,b7,A0j _,ai,ah,bA⟩,aA⟩
     |exact⟨by(repeat apply EI);exact⟨⟨j,_,_,ap,rfl,bq,bP,(λh=>by cases h),b6,b7,A0j _,ai,ah,bA⟩,rfl⟩,aA⟩
end Go.Proofs.YtbkilakncnlebaaGreatDoor.X
