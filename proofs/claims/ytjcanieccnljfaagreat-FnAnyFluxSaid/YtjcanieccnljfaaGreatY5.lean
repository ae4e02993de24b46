/- A part of the proof. -/
import Derived.Test.YtjcanieccnljfaaGreatY2
import Derived.Lib.SliceRun
set_option linter.constructorNameAsVariable false
set_option maxHeartbeats 16000000
set_option maxRecDepth 10000
open Exists renaming intro→FS
open Go renaming Addr→AJ,Calls→BL,World→AD,cell_one_new→JR,info_parts→FB,maxLen→BS,wpList_append_own→IZ,wpList_make_full→KK
open Go.IntKind renaming i64→RD
open Go.RowKit renaming Hid→BI,intOf→DW
open Go.RowKit.Below renaming refl→DI
open Go.Value renaming int→RH,slice→S
open Go.World renaming ownsRow_made→JP
open Go.XB.Sl renaming below→BN,getInt→DL
open Int renaming le_refl→II,lt_or_le→FH,zero_le_ofNat→JQ
open List renaming drop_eq_getElem_cons→MA,drop_eq_nil_of_le→JZ,drop_zero→FF,getElem?_eq_some_iff→DM,getElem?_replicate→OO,getElem?_set_ne→JU,length_append→GQ,length_take→JO,set_set→PZ,take_of_length_le→DT,take_zero→FM
open Nat renaming eq_zero_or_pos→IG,le_of_eq→IW,le_refl→CE,le_succ_of_le→QO,lt_or_ge→CG,zero_le→EO
open Option renaming none→I,some→QZ
namespace Go.Proofs.YtjcanieccnljfaaGreat.X
open Go.RowKit Go.XB Go.XN Proofs.Tryz
attribute [local go_sem] L_ opAt N_ M_ Region.wanted yielded
attribute [local simp] N_ M_ MP.eq A0r
theorem _root_.kR {p:Prop} (h:p:=by kernel_rfl):p:=h
theorem A6b:(prog.info? 3).map (λi=>(i.zero,i.size,i.bytes))=QZ (QZ (RH RD 0),1,8):=kR

theorem B2k (x y:Int) (w:AD):BL prog 141 #[RH RD x,RH RD y] w (A0b w (RH RD (sgn (x - y)))):=by
 rcases Int.lt_trichotomy x y with b|b|b;·have e:=A_ (by unfold sgn;rw[if_pos oS]:sgn (x - y) = -1);go_enter func141,ntmps141;go_wp2;go_ret;exact⟨A1x e.symm,Below.go⟩
 ·have e:=A_ (by unfold sgn;rw[if_neg oS,if_neg oS]:sgn (x - y)=0);subst b;go_enter func141,ntmps141;go_wp2;go_ret;exact⟨A1x e.symm,Below.go⟩
 have e:=A_ (by unfold sgn;rw[if_neg oS,if_pos oS]:sgn (x - y)=1);have h:¬ x<y:=oS;go_enter func141,ntmps141;go_wp2;go_ret;exact⟨A1x e.symm,Below.go⟩

def E3x:Value->Nat | .slice _ n _=>n|_=>0

theorem D1x (A:Option AJ) (n c:Nat) (xs:List Int) (bs:List Nat) (w:AD) (u:Sl w A n c xs bs) :
  BL prog 156 #[S A n c] w (A0b w (S A (trim xs).length c)):=by
 have aj:n<=c:=u.2.1;have ab:c<=BS:=u.2.2.1;unfold BS at ab;have G:=A_ u.1;have aa:=A_ u;clear u;go_enter func156,ntmps156;go_wp2;go_loopw [0] (λs wr=>∃ k:Nat,k<=n/\s=S A k c/\BI (trim (xs.take k)=trim xs)/\Bw w wr) (λs wr=>E3x s);case atStart=>exact⟨n,CE _,rfl,by rw[DT (IW G.o)];rfl,DI _ _⟩
 case round =>
  obtain⟨k,ai,rfl,E,h⟩:=hrel;rcases IG k with T|T;·subst T;go_wp2;go_ret;refine⟨?_,h⟩;rw[<-E.o];rfl
  obtain⟨j,rfl⟩:∃ j,k=j+1:=⟨k - 1,oS⟩
  obtain⟨O,X,x,rfl,ae,W,_,af⟩:=DL (BN aa.o h) (by omega:j<n);have H:=A_ W;clear W;have ag:(j:Int)+1<=c:=oS;by_cases b:x=0
  ·have ad:(x==0)=true:=by simp[b]
   have D:=A_ (by rw[<-E.o,take_step H.o,b,B1k]:trim (xs.take j)=trim xs);clear b;have ah:j<=c:=oS;have Z:E3x (S (QZ ⟨O,X,I⟩) j c)<E3x (S (QZ ⟨O,X,I⟩) (j+1) c):=Nat.lt_succ_self j;have Y:j<=n:=oS;go_wp2;first
   |exact⟨⟨j,Y,rfl,D,h⟩,Z⟩
   |exact⟨by(repeat apply FS);exact⟨⟨j,Y,rfl,D,h⟩,rfl⟩,Z⟩
  have ad:(x==0)=false:=by simp[b]
  have D:=A_ (by rw[<-E.o,take_step H.o,C0p b]:trim xs=xs.take (j+1));clear b;go_wp2;go_ret;refine⟨?_,h⟩;have ac:(trim xs).length=j+1:=by rw[D.o,JO];have:=G.o;omega
  rw[ac];rfl

theorem _root_.Go.XN.Lims.i64 {l:List Int} (h:Lims l):∀ x∈l,I64 x:=λx hx=>by have:=h x hx;unfold I64;omega
theorem D0g (q:Int) (h:0<=q):((q.toNat % 1000000000:Nat):Int)=q % 1000000000/\q.toNat / 1000000000=(q / 1000000000).toNat:=oS

theorem _root_.iH {p:Prop} (h:p:=by simp at hx;subst hx;rfl):p:=h
theorem C9q (N:Int) (w:AD) (E:0<=N) (G:N<=18446744073709551615):BL prog 150 #[RH .u64 N] w (B3k w 3 (dig N.toNat)):=by
 have O:(dig N.toNat).length<=3:=A4r (by rw[pw_vals.2.2];omega);obtain⟨am,ag,aj,ak,al⟩:=FB A6b;have ae:=A_ O;clear O;go_enter func150,ntmps150;go_wp2;go_loopw [0,3] (λm v wr=>∃ (q:Int) (b:List Int),m=RH .u64 q/\wr.ownsRow w.1.size 3 1 v b.length (b.map (RH RD))/\BI (dig N.toNat=b++dig q.toNat)/\0<=q/\q<=18446744073709551615/\Bw w wr) (λm v wr=>(DW m).toNat);case atStart=>exact⟨N,[],rfl,JP w #[] 0 (CE _) (EO _) rfl,rfl,E,G,Below.go⟩
 case round =>
  obtain⟨q,b,rfl,D,u,W,ap,h⟩:=hrel;have ah:b.length<=3:=by have:=ae.o;rw[u.o,GQ]at this;omega
  by_cases ao:0<q
  ·have ab:=A_ (by unfold BS;omega:b.length+1<=BS)
   have ac:=A_ (by omega:(b.length+1)*8<=140737488355328);have ad:=A_ h.size;have X:=A_ (by rw[u.o,B9g oS,(D0g q W).1,(D0g q W).2];simp:dig N.toNat=(b++[q % 1000000000])++dig (q / 1000000000).toNat);have Y:=A_ (by omega:0<=q / 1000000000);have Z:=A_ (by omega:q / 1000000000<=18446744073709551615);have aa:=A_ (by simp[DW];omega:(DW (RH .u64 (q / 1000000000))).toNat<(DW (RH .u64 q)).toNat);clear E G ah;go_wp2_with (first|(at_builtin;refine IZ _ rfl _ _ 35 rfl w.1.size 3 am (RH RD 0) 1 8 underlying35 ag aj ak al rfl dE _ _ _ rfl (D.alloc _) ⟨wr.1.size,0,I⟩ 1 1 [RH RD (q % 1000000000)] rfl rfl (JR _ _ _) (λx hx=>iH) ab ac (A1a ad _) ?_;intro aq w3 T af an));have H:=A2o h D af;first
   |exact⟨⟨q / 1000000000,b++[q % 1000000000],rfl,A1t T,X,Y,Z,H⟩,aa⟩
   |exact⟨by(repeat apply FS);exact⟨⟨q / 1000000000,b++[q % 1000000000],rfl,A1t T,X,Y,Z,H⟩,rfl⟩,aa⟩
  have ai:q=0:=oS;subst ai;go_wp2;go_ret;have e:=u.o;rw[show dig (Int.toNat 0)=[]from rfl,List.append_nil]at e;rw[e];exact⟨_,rfl,D,h⟩

theorem B3p (N:Int) (w:AD) (h0:0<=N) (h1:N<=18446744073709551615):BL prog 150 #[RH .u64 N] w (A0w w (dig N.toNat)) :=
 (C9q N w h0 h1).mono λ_ _ ⟨_,he,ho,hb⟩=>by subst he;exact A2r ho rfl (A0j _).1.i64 hb

theorem B2q {a b:Int} (h:a<b):sgn (a - b) = -1:=by unfold sgn;rw[if_pos oS]
theorem C1l {a b:Int} (h:b<a):sgn (a - b)=1:=by unfold sgn;rw[if_neg oS,if_pos oS]

theorem A9u (A B:Option AJ) (n m c d:Nat) (xs ys:List Int) (bs aB:List Nat) (w:AD) (H:Sl w A n c xs bs) (ab:Sl w B m d ys aB) (am:XN.Can xs) (an:XN.Can ys) :
  BL prog 153 #[S A n c,S B m d] w (A0b w (RH RD (sgn (val xs - val ys)))):=by
 have T:=A_ H.1;have W:=A_ ab.1;have aG:c<=BS:=H.2.2.1;have aT:n<=c:=H.2.1;unfold BS at aG;have az:=A_ H;have aA:=A_ ab;have X:=A_ am;have Y:=A_ an;clear H ab am an;go_enter func153,ntmps153;by_cases ap:n=m
 ·subst ap
  go_wp2;go_loopw [4,5] (λr s wr=>∃ i:Int,-1<=i/\i<n/\s=RH RD i/\BI (xs.drop (i+1).toNat=ys.drop (i+1).toNat)/\Bw w wr) (λr s wr=>(DW s+1).toNat);case atStart =>refine⟨(n:Int) - 1,oS,oS,rfl,?_,DI _ _⟩;have e:((n:Int) - 1+1).toNat=n:=oS;rw[e];show xs.drop n=ys.drop n;rw[JZ (IW T.o),JZ (IW W.o)]
  case round =>
   obtain⟨i,aR,aH,rfl,b,G⟩:=hrel;rcases FH i 0 with aE|aE;·have aF:i = -1:=oS;subst aF;go_wp2;go_ret;have e:=b.o;rw[show(-1+1:Int).toNat=0 from rfl,FF,FF]at e;refine⟨A1x ?_,G⟩;rw[e];unfold sgn;simp
   obtain⟨j,rfl⟩:∃ j:Nat,i=j:=⟨i.toNat,oS⟩
   have ao:j<n:=oS;obtain⟨b1,o1,x,rfl,ai,aq,aU,ak⟩:=DL (BN az G) ao;obtain⟨b2,o2,y,rfl,aj,ar,aV,al⟩:=DL (BN aA G) ao;have ae:=A_ aq;have af:=A_ ar;clear aq ar;have ag:=A_ (by omega:(((j:Int)+1).toNat=j+1));have ay:=A_ (B8r X.1 Y.1 ae af (by have:=b.o;rwa [ag.o]at this) (by rw[T.o,W.o]));have aS:(j:Int)<n:=aH;have Z:=b;clear b;by_cases D:x=y
   ·have E:=A_ (by simp[D]:(x != y)=false)
    have r:=A_ (show xs.drop ((j:Int) - 1+1).toNat=ys.drop ((j:Int) - 1+1).toNat by rw[show((j:Int) - 1+1).toNat=j by omega];obtain⟨aI,aC⟩:=DM.1 ae;obtain⟨aJ,aD⟩:=DM.1 af;rw[MA aI,MA aJ,aC,aD,D];have:=Z.o;rw[ag.o]at this;rw[this]);clear D Z;go_wp2_with fail;refine A0g ?_;iterate 9 refine C_ _ ?_
    intro ac ad wa u b (aa:BI _);simp at b;go_simp;have E:=E.o;go_wp2_with fail;have ah:Bw w wa:=Below.go;have au:(-1:Int)<=(j:Int) - 1:=oS;have aw:(j:Int) - 1<n:=oS;have ax:(DW (RH RD ((j:Int) - 1))+1).toNat<(DW (RH RD (j:Int))+1).toNat:=by simp[DW]
    first
    |exact⟨⟨(j:Int) - 1,au,aw,rfl,r,ah⟩,ax⟩
    |exact⟨by(repeat apply FS);exact⟨⟨(j:Int) - 1,au,aw,rfl,r,ah⟩,rfl⟩,ax⟩
   have E:=A_ (by simp[D]:(x != y)=true);have aK:=A_ D;clear D Z;go_wp2_with fail;refine A0g ?_;iterate 9 refine C_ _ ?_
   intro ac ad wa u b (aa:BI _);simp at b;go_simp;have E:=E.o;have O:=u;clear u b aa;have aN:=((F_ O).1 b1 (o1+j) ai).trans ak;have aO:=((F_ O).1 b2 (o2+j) aj).trans al;have aL:b1<wa.1.size:=by have:=O.size;omega
   have aM:b2<wa.1.size:=by have:=O.size;omega
   clear ak al ai aj;go_wp2_with fail;refine A0g ?_;iterate 8 refine C_ _ ?_
   refine D_ (MP.eq (RH RD (sgn (x - y)))) ?_ ?_;·intro ac ad aX u b;obtain⟨aP,aQ⟩:=F_ u;simp at b;refine G_ ?_;exact A0i (B2k _ _ _)
   refine C_ _ ?_;intro ac ad wb u b (aa:BI _);simp at b;go_simp;go_wp2_with fail;go_ret;refine⟨A1x ?_,Below.go⟩;rcases Int.lt_trichotomy x y with h|h|h
   ·rw[B2q h,B2q (ay.o.1 h)]
   ·exact absurd h aK
   rw[C1l h,C1l (ay.o.2 h)]
 have E:((n:Int) != m)=true:=oR;have e:=A_ (show sgn ((n:Int) - m)=sgn (val xs - val ys) by
  rcases CG n m with h|h;·rw[B2q oS,B2q (XN.Can.lt_of_len X.o.1 Y.o (by rw[T.o,W.o];exact h))]
  rw[C1l oS,C1l (XN.Can.lt_of_len Y.o.1 X.o (by rw[T.o,W.o];omega))])
 clear ap;go_wp2_with fail;refine(B2k _ _ _).mono ?_;rintro _ aW ⟨rfl,G⟩;go_wp2_with fail;go_ret;exact⟨A1x e,G⟩

theorem B6m (A:Option AJ) (n c:Nat) (xs:List Int) (bs:List Nat) (w:AD) (h:Sl w A n c xs bs) (O:n<=1048576) :
  BL prog 171 #[S A n c] w (B3k w 3 xs):=by
 obtain⟨ad,H,T,W,X⟩:=FB A6b;cases A with
 |none =>
  have G:n=0:=by
   rcases IG n with D|D;·exact D
   obtain⟨_,_,_,e,_⟩:=h.2.2.2.2 D;cases e
  have ac:xs=[]:=List.eq_nil_of_length_eq_zero (h.1.trans G)
  clear h H T W X O
  subst G;subst ac
  have q1:∀ (w:AD) (a:Option AJ) (n c b c':Nat),(binOp .eql 35 (S a n c) (S I b c')).run prog w=.ok (.bool a.isNone) w:=λw a n c b c'=>Lib.run_eql_slice_nil w _ _ a n c b c' underlying35
  go_enter func171,ntmps171
  go_wp2
  go_ret
  exact⟨_,rfl,World.ownsRow_nil _ _ _ _,DI _ _⟩
 |some a =>
  have Y:=A_ (by unfold BS;omega:0+n<=BS)
  have Z:=A_ (by omega:(0+n)*8<=140737488355328)
  have u:=A_ h
  clear h O
  have q1:∀ (w:AD) (a:Option AJ) (n c b c':Nat),(binOp .eql 35 (S a n c) (S I b c')).run prog w=.ok (.bool a.isNone) w:=λw a n c b c'=>Lib.run_eql_slice_nil w _ _ a n c b c' underlying35
  go_enter func171,ntmps171
  go_wp2_with (at_builtin;(refine IZ _ rfl _ _ 35 rfl w.1.size 3 ad (RH RD 0) 1 8 underlying35 H T W X rfl dE _ 0 [] rfl (JP w #[] 0 (CE _) (EO _) rfl) a n c (xs.map (RH RD)) rfl (by rw[List.length_map,u.o.1,Nat.mul_one]) (Sl.cellsInt (BN u.o Below.go)) (D4k xs) Y.o Z.o (A1a (CE _) _) ?_);intro af w3 E ab ae)
  have aa:Bw w w3:=((DI _ w).alloc (CE _) _).grown ab (A1a (CE _) _) (B0b (JP (e:=35) (size:=1) w #[] 0 (CE _) (EO _) rfl))
  go_wp2
  go_ret
  have e:0+n=n:=Nat.zero_add n
  rw[e]at E
  rw[<-u.o.1]at E
  exact⟨_,rfl,E,aa⟩

theorem A9d (A:Option AJ) (n c:Nat) (xs:List Int) (bs:List Nat) (w:AD) (hx:Sl w A n c xs bs) (hn:n<=1048576) :
  BL prog 171 #[S A n c] w (A0w w xs) :=
 (B6m A n c xs bs w hx hn).mono λ_ _ ⟨_,he,ho,hb⟩=>by subst he;exact A2r ho rfl (Sl.i64 hx) hb

theorem D5r (A B:Option AJ) (n m c d:Nat) (xs ys:List Int) (bs a2:List Nat) (w:AD) (hx:Sl w A n c xs bs) (aV:Sl w B m d ys a2) (aZ:XN.Can xs) (a1:XN.Can ys) (aw:n<=1048576) (au:m<=1048576) :
  BL prog 152 #[S A n c,S B m d] w (A0w w (dig (val xs+val ys).toNat)):=by
 obtain⟨aa,ai,aj,ak,al⟩:=FB A6b;have aE:=A_ hx.1;have aF:=A_ aV.1;have aX:=A_ hx;have aY:=A_ aV;have aI:=A_ aZ;have aJ:=A_ a1;clear hx aV aZ a1;go_enter func152,ntmps152;rcases CG n m with ba|ba
 ·have b2:=A_ (by rw[al];omega:aa.bytes*(m+1)<=281474976710656)
  have aL:=A_ (by unfold BS;omega:m+1<=BS);have an:=A_ (by omega:m<=1048576);skip;have aO:=A_ (S_ aI.1);go_wp2_with (at_make;(refine wpList_make_own _ rfl _ _ 35 rfl w.1.size 3 aa (RH RD 0) 1 underlying35 ai aj ak .i64 .i64 _ (m+1) rfl rfl rfl b2 aL (CE _) ?_);intro bg aT aB);have aP:=(DI w.1.size w).grown aB (CE _) (by intro k aC;cases aC);clear aB;go_loopw [5,6,22] (λv y i wr=>∃ (k:Nat) (b:Int) (h:List Int),k<=m/\0<=b/\b<=1/\i=RH RD k/\y=RH RD b/\wr.ownsRow w.1.size 3 1 v h.length (h.map (RH RD))/\BI (h.length=k)/\BI (Lims h)/\BI (val h+pw k*b=val (ys.take k)+val (xs.take k))/\Bw w wr) (λv y i wr=>m - (DW i).toNat);case atStart=>exact⟨0,0,[],EO _,oS,oS,rfl,rfl,aT,rfl,Lims.nil,by simp[BI,val,B0q],aP⟩
  case round =>
   obtain⟨k,b,h,aC,aR,a7,rfl,rfl,G,W,am,ao,u⟩:=hrel;rcases CG k m with E|E
   ·have a9:(k:Int)<m:=oS
    obtain⟨b1,o1,x,aM,a3,ap,aU,a5⟩:=DL (BN aY u) E;have aq:=aJ.1.get ap;subst aM;have ax:=A_ ap;have bc:=aq.1;have bd:=aq.2;clear ap aq aU;have ah:h.length<=1048576:=by rw[W.o];have:=an.o;omega
    have ab:=A_ (by unfold BS;omega:h.length+1<=BS);have ac:=A_ (by omega:(h.length+1)*8<=140737488355328);have ad:=A_ u.size;have a8:(k:Int)<=1048576:=by have:=an.o;omega
    have ae:k+1<=m:=E;have ag:=A_ (by intro x;rw[GQ,W.o];rfl:∀ x:Int,(h++[x]).length=k+1);rcases CG k n with af|af
    ·obtain⟨b2,o2,y,aN,a4,ar,aW,a6⟩:=DL (BN aX u) af
     have O:=aI.1.get ar;subst aN;have aK:=A_ ar;have be:=O.1;have bf:=O.2;clear ar O aW;have aD:(k:Int)<n:=oS;have ay:0<=(x+b+y) / 1000000000:=oS;have az:(x+b+y) / 1000000000<=1:=oS;have X:=A_ ay;have Y:=A_ az;have L:=A_ (show Lims (h++[(x+b+y) % 1000000000])from am.o.snoc oS oS);have r:=A_ (show val (h++[(x+b+y) % 1000000000])+pw (k+1)*((x+b+y) / 1000000000)=val (ys.take (k+1))+val (xs.take (k+1)) by rw[B6f W.o,Y_ ax.o,Y_ aK.o];have:=ao.o;grind);clear ay az ah aw au;go_wp2_with (first|(at_builtin;refine IZ _ rfl _ _ 35 rfl w.1.size 3 aa (RH RD 0) 1 8 underlying35 ai aj ak al rfl dE _ _ _ rfl (G.alloc _) ⟨wr.1.size,0,I⟩ 1 1 [RH RD ((x+b+y) % 1000000000)] rfl rfl (JR _ _ _) (λx hx=>iH) ab ac (A1a ad _) ?_;intro aH w3 H Z aG));have D:=A2o u G Z;first
     |exact⟨⟨k+1,(x+b+y) / 1000000000,h++[(x+b+y) % 1000000000],ae,X,Y,rfl,rfl,A1t H,ag _,L,r,D⟩,V_ E⟩
     |exact⟨by(repeat apply FS);exact⟨⟨k+1,(x+b+y) / 1000000000,h++[(x+b+y) % 1000000000],ae,X,Y,rfl,rfl,A1t H,ag _,L,r,D⟩,rfl⟩,V_ E⟩
    ·have aD:¬ ((k:Int)<n):=oS
     have X:=A_ (by omega:0<=(x+b) / 1000000000);have Y:=A_ (by omega:(x+b) / 1000000000<=1);have L:=A_ (show Lims (h++[(x+b) % 1000000000])from am.o.snoc oS oS);have r:=A_ (show val (h++[(x+b) % 1000000000])+pw (k+1)*((x+b) / 1000000000)=val (ys.take (k+1))+val (xs.take (k+1)) by
      have O:xs.length<=k:=by rw[aE.o];exact af
      have:=ao.o;rw[DT O]at this;rw[B6f W.o,Y_ ax.o,DT (by omega:xs.length<=k+1)];grind)
     clear af ah aw au;go_wp2_with (first|(at_builtin;refine IZ _ rfl _ _ 35 rfl w.1.size 3 aa (RH RD 0) 1 8 underlying35 ai aj ak al rfl dE _ _ _ rfl (G.alloc _) ⟨wr.1.size,0,I⟩ 1 1 [RH RD ((x+b) % 1000000000)] rfl rfl (JR _ _ _) (λx hx=>iH) ab ac (A1a ad _) ?_;intro aH w3 H Z aG));have D:=A2o u G Z;first
     |exact⟨⟨k+1,(x+b) / 1000000000,h++[(x+b) % 1000000000],ae,X,Y,rfl,rfl,A1t H,ag _,L,r,D⟩,V_ E⟩
     |exact⟨by(repeat apply FS);exact⟨⟨k+1,(x+b) / 1000000000,h++[(x+b) % 1000000000],ae,X,Y,rfl,rfl,A1t H,ag _,L,r,D⟩,rfl⟩,V_ E⟩
   have aS:k=m:=oS;subst aS;have T:=A_ (show(if 0<b then h++[b]else h)=dig (val xs+val ys).toNat by
    have O:xs.length<=k:=by rw[aE.o];omega
    have:=ao.o;rw[DT O,DT (IW aF.o)]at this;have:=D9p aJ.o am.o (by rw[W.o,aF.o]) (by rw[aF.o];exact this) aO.o aR oS;rw[this];rw[Int.add_comm])
   have aD:¬ ((k:Int)<k):=oS;have ah:h.length<=1048576:=by rw[W.o];exact an
   have ab:=A_ (by unfold BS;omega:h.length+1<=BS);have ac:=A_ (by omega:(h.length+1)*8<=140737488355328);have ad:=A_ u.size;clear ah aw au;rcases FH 0 b with aA|aA
   ·rw[if_pos aA]at T;go_wp2_with (first|(at_builtin;refine IZ _ rfl _ _ 35 rfl w.1.size 3 aa (RH RD 0) 1 8 underlying35 ai aj ak al rfl dE _ _ _ rfl (G.alloc _) ⟨wr.1.size,0,I⟩ 1 1 [RH RD (b)] rfl rfl (JR _ _ _) (λx hx=>iH) ab ac (A1a ad _) ?_;intro aH w3 H Z aG));have D:=A2o u G Z;go_wp2;go_ret;rw[<-T.o];refine A2r (A1t H) rfl ?_ D;rw[T.o];exact(A0j _).1.i64
   have aQ:b=0:=oS;subst aQ;rw[if_neg oS]at T;go_wp2;go_ret;rw[<-T.o];refine A2r G rfl ?_ u;rw[T.o];exact(A0j _).1.i64
 have b2:=A_ (by rw[al];omega:aa.bytes*(n+1)<=281474976710656);have aL:=A_ (by unfold BS;omega:n+1<=BS);have an:=A_ (by omega:n<=1048576);have bh:¬ ((n:Int)<m):=oS;have aO:=A_ (S_ aJ.1);go_wp2_with (at_make;(refine wpList_make_own _ rfl _ _ 35 rfl w.1.size 3 aa (RH RD 0) 1 underlying35 ai aj ak .i64 .i64 _ (n+1) rfl rfl rfl b2 aL (CE _) ?_);intro bg aT aB);have aP:=(DI w.1.size w).grown aB (CE _) (by intro k aC;cases aC);clear aB;go_loopw [5,6,22] (λv y i wr=>∃ (k:Nat) (b:Int) (h:List Int),k<=n/\0<=b/\b<=1/\i=RH RD k/\y=RH RD b/\wr.ownsRow w.1.size 3 1 v h.length (h.map (RH RD))/\BI (h.length=k)/\BI (Lims h)/\BI (val h+pw k*b=val (xs.take k)+val (ys.take k))/\Bw w wr) (λv y i wr=>n - (DW i).toNat);case atStart=>exact⟨0,0,[],EO _,oS,oS,rfl,rfl,aT,rfl,Lims.nil,by simp[BI,val,B0q],aP⟩
 case round =>
  obtain⟨k,b,h,aC,aR,a7,rfl,rfl,G,W,am,ao,u⟩:=hrel;rcases CG k n with E|E
  ·have a9:(k:Int)<n:=oS
   obtain⟨b1,o1,x,aM,a3,ap,aU,a5⟩:=DL (BN aX u) E;have aq:=aI.1.get ap;subst aM;have ax:=A_ ap;have bc:=aq.1;have bd:=aq.2;clear ap aq aU;have ah:h.length<=1048576:=by rw[W.o];have:=an.o;omega
   have ab:=A_ (by unfold BS;omega:h.length+1<=BS);have ac:=A_ (by omega:(h.length+1)*8<=140737488355328);have ad:=A_ u.size;have a8:(k:Int)<=1048576:=by have:=an.o;omega
   have ae:k+1<=n:=E;have ag:=A_ (by intro x;rw[GQ,W.o];rfl:∀ x:Int,(h++[x]).length=k+1);rcases CG k m with af|af
   ·obtain⟨b2,o2,y,aN,a4,ar,aW,a6⟩:=DL (BN aY u) af
    have O:=aJ.1.get ar;subst aN;have aK:=A_ ar;have be:=O.1;have bf:=O.2;clear ar O aW;have aD:(k:Int)<m:=oS;have ay:0<=(x+b+y) / 1000000000:=oS;have az:(x+b+y) / 1000000000<=1:=oS;have X:=A_ ay;have Y:=A_ az;have L:=A_ (show Lims (h++[(x+b+y) % 1000000000])from am.o.snoc oS oS);have r:=A_ (show val (h++[(x+b+y) % 1000000000])+pw (k+1)*((x+b+y) / 1000000000)=val (xs.take (k+1))+val (ys.take (k+1)) by rw[B6f W.o,Y_ ax.o,Y_ aK.o];have:=ao.o;grind);clear ay az ah aw au;go_wp2_with (first|(at_builtin;refine IZ _ rfl _ _ 35 rfl w.1.size 3 aa (RH RD 0) 1 8 underlying35 ai aj ak al rfl dE _ _ _ rfl (G.alloc _) ⟨wr.1.size,0,I⟩ 1 1 [RH RD ((x+b+y) % 1000000000)] rfl rfl (JR _ _ _) (λx hx=>iH) ab ac (A1a ad _) ?_;intro aH w3 H Z aG));have D:=A2o u G Z;first
    |exact⟨⟨k+1,(x+b+y) / 1000000000,h++[(x+b+y) % 1000000000],ae,X,Y,rfl,rfl,A1t H,ag _,L,r,D⟩,V_ E⟩
    |exact⟨by(repeat apply FS);exact⟨⟨k+1,(x+b+y) / 1000000000,h++[(x+b+y) % 1000000000],ae,X,Y,rfl,rfl,A1t H,ag _,L,r,D⟩,rfl⟩,V_ E⟩
   ·have aD:¬ ((k:Int)<m):=oS
    have X:=A_ (by omega:0<=(x+b) / 1000000000);have Y:=A_ (by omega:(x+b) / 1000000000<=1);have L:=A_ (show Lims (h++[(x+b) % 1000000000])from am.o.snoc oS oS);have r:=A_ (show val (h++[(x+b) % 1000000000])+pw (k+1)*((x+b) / 1000000000)=val (xs.take (k+1))+val (ys.take (k+1)) by
     have O:ys.length<=k:=by rw[aF.o];exact af
     have:=ao.o;rw[DT O]at this;rw[B6f W.o,Y_ ax.o,DT (by omega:ys.length<=k+1)];grind)
    clear af ah aw au;go_wp2_with (first|(at_builtin;refine IZ _ rfl _ _ 35 rfl w.1.size 3 aa (RH RD 0) 1 8 underlying35 ai aj ak al rfl dE _ _ _ rfl (G.alloc _) ⟨wr.1.size,0,I⟩ 1 1 [RH RD ((x+b) % 1000000000)] rfl rfl (JR _ _ _) (λx hx=>iH) ab ac (A1a ad _) ?_;intro aH w3 H Z aG));have D:=A2o u G Z;first
    |exact⟨⟨k+1,(x+b) / 1000000000,h++[(x+b) % 1000000000],ae,X,Y,rfl,rfl,A1t H,ag _,L,r,D⟩,V_ E⟩
    |exact⟨by(repeat apply FS);exact⟨⟨k+1,(x+b) / 1000000000,h++[(x+b) % 1000000000],ae,X,Y,rfl,rfl,A1t H,ag _,L,r,D⟩,rfl⟩,V_ E⟩
  have aS:k=n:=oS;subst aS;have T:=A_ (show(if 0<b then h++[b]else h)=dig (val xs+val ys).toNat by
   have O:ys.length<=k:=by rw[aF.o];omega
   have:=ao.o;rw[DT O,DT (IW aE.o)]at this;have:=D9p aI.o am.o (by rw[W.o,aE.o]) (by rw[aE.o];exact this) aO.o aR oS;rw[this];skip)
  have aD:¬ ((k:Int)<k):=oS;have ah:h.length<=1048576:=by rw[W.o];exact an
  have ab:=A_ (by unfold BS;omega:h.length+1<=BS);have ac:=A_ (by omega:(h.length+1)*8<=140737488355328);have ad:=A_ u.size;clear ah aw au;rcases FH 0 b with aA|aA
  ·rw[if_pos aA]at T;go_wp2_with (first|(at_builtin;refine IZ _ rfl _ _ 35 rfl w.1.size 3 aa (RH RD 0) 1 8 underlying35 ai aj ak al rfl dE _ _ _ rfl (G.alloc _) ⟨wr.1.size,0,I⟩ 1 1 [RH RD (b)] rfl rfl (JR _ _ _) (λx hx=>iH) ab ac (A1a ad _) ?_;intro aH w3 H Z aG));have D:=A2o u G Z;go_wp2;go_ret;rw[<-T.o];refine A2r (A1t H) rfl ?_ D;rw[T.o];exact(A0j _).1.i64
  have aQ:b=0:=oS;subst aQ;rw[if_neg oS]at T;go_wp2;go_ret;rw[<-T.o];refine A2r G rfl ?_ u;rw[T.o];exact(A0j _).1.i64

theorem A9y (A:Option AJ) (n c b:Nat) (zs:List Int) (w:AD) (h:w.ownsRow b 3 1 (S A n c) n (zs.map (RH RD))) (hi:∀ x∈zs,I64 x) :
  BL prog 156 #[S A n c] w (λe w'=>e=.returned (S A (trim zs).length c)/\Bw w w'/\w'.ownsRow b 3 1 (S A (trim zs).length c) (trim zs).length ((trim zs).map (RH RD))):=by
 obtain⟨bs,u⟩:=A7v h hi;refine(D1x A n c zs bs w u).mono λe w' ⟨he,hb⟩=>⟨he,hb,?_⟩
 have E:zs.length=n:=u.1;have D:(trim zs).length<=n:=by rw[B3n zs,JO];omega
 have:=C6w (I_ h hb) D;rwa [<-B3n]at this

theorem C2l (A B:Option AJ) (n m c d:Nat) (xs ys:List Int) (bs aU:List Nat) (w:AD) (ao:Sl w A n c xs bs) (aq:Sl w B m d ys aU) (aJ:XN.Can xs) (aK:XN.Can ys) (a6:n<=1048576) (aM:val ys<=val xs) :
  BL prog 154 #[S A n c,S B m d] w (A0w w (dig (val xs - val ys).toNat)):=by
 have af:=A_ ao.1;have a5:=A_ aq.1;have aR:=A_ ao;have aS:=A_ aq;have aw:=A_ aJ;have ax:=A_ aK;have ay:=A_ aM;clear ao aq aJ aK aM;go_enter func154,ntmps154;go_wp2_with fail;refine(B6m A n c xs bs w aR a6).mono ?_;rintro _ bz ⟨v1,rfl,ai,aF⟩;rw[af.o]at ai;obtain⟨aQ,aD,rfl⟩:=C4a ai;go_wp2_with fail;go_loopw [6,12] (λy i wr=>∃ (k:Nat) (bw:Int) (zs b:List Int),k<=n/\0<=bw/\bw<=1/\i=RH RD k/\y=RH RD bw/\wr.ownsRow w.1.size 3 1 (S aQ n aD) n (zs.map (RH RD))/\BI (zs=b++xs.drop k)/\BI (b.length=k)/\BI (Lims b)/\BI (val b=val (xs.take k) - val (ys.take k)+pw k*bw)/\Bw w wr) (λy i wr=>n - (DW i).toNat);case atStart=>exact⟨0,0,xs,[],EO _,oS,oS,rfl,rfl,ai,rfl,rfl,Lims.nil,by simp[BI,val],aF⟩
 case round =>
  obtain⟨k,bw,zs,b,a3,bf,bg,rfl,rfl,ah,Z,D,O,aj,aY⟩:=hrel;clear ai aF;rcases CG k n with u|u
  ·obtain⟨g,rfl,ag,bk,bp,a1⟩:=E9b ah oS
   have bo:(k:Int)<n:=oS;have Y:k<xs.length:=by rw[af.o];exact u
   have W:=A_ (List.getElem?_eq_getElem Y);have ap:=aw.1.get W;generalize xs[k]=x at *;have br:=ap.1;have bt:=ap.2;have aB:=A_ (by rw[Z.o];exact D1q D W:zs[k]?=QZ x);obtain⟨_,al,am⟩:=A0t ah aB;unfold BS at a1;have bq:(n:Int)<=aD:=oS;clear ap;have bn:(k:Int)<=1048576:=oS;have H:k+1<=n:=u;have aa:=A3a ah k (x - bw);have X:=aY.setCell (p:=⟨g,k,I⟩) ag (RH RD (x - bw));rcases CG k m with ae|ae
   ·obtain⟨b2,o2,y,rfl,aG,ar,a9,aI⟩:=DL aS ae
    have T:=ax.1.get ar;have aA:=A_ ar;have bu:=T.1;have bv:=T.2;have aL:(k:Int)<m:=oS;clear T a9 ar;go_wp2_with fail;have az:=A_ (by rw[List.getElem?_set_self (DM.1 aB.o).1]:(zs.set k (x - bw))[k]?=QZ (x - bw));clear al am;generalize wr.setCell ⟨g,k,I⟩ (RH RD (x - bw))=aT at *;obtain⟨bl,al,am⟩:=A0t aa az;have bh:=(X.cell (p:=⟨b2,o2+k,I⟩) aG).trans aI;have bd:b2<aT.1.size:=by have:=X.size;omega
    clear aI aG;refine X_ sI ?_;dsimp only[List.dropLast,List.getLast,List.length];iterate 10 refine C_ _ ?_
    intro bA bB ba aE ad (a2:BI _);simp at ad;have au:=I_ aa aE;have aH:Bw w ba:=Below.go;have aC:=A_ ad;clear ad a2 aE al am;obtain⟨bm,bi,bj⟩:=A0t au az;have G:=A_ (by intro x;rw[GQ,D.o];rfl:∀ x:Int,(b++[x]).length=k+1);have ab:=A_ Y;rcases FH (x - bw - y) 0 with an|an
    ·have L:=A_ (show Lims (b++[x - bw - y+1000000000])from O.o.snoc oS oS)
     have r:=A_ (show val (b++[x - bw - y+1000000000])=val (xs.take (k+1)) - val (ys.take (k+1))+pw (k+1)*1 by rw[A4s,D.o,aj.o,Y_ W.o,Y_ aA.o,A1l];grind);have E:=A_ (show((zs.set k (x - bw)).set k (x - bw - y)).set k (x - bw - y+1000000000)=(b++[x - bw - y+1000000000])++xs.drop (k+1) by rw[PZ,PZ,Z.o];exact C4b D ab _);have R:=A_ (A3a (A3a au k (x - bw - y)) k (x - bw - y+1000000000));have h:=A_ ((aH.setCell (p:=⟨g,k,I⟩) ag (RH RD (x - bw - y))).setCell (p:=⟨g,k,I⟩) ag (RH RD (x - bw - y+1000000000)));clear Y;go_simp;have ad:=aC.o;go_wp2_with fail;first
     |exact⟨⟨k+1,1,_,b++[x - bw - y+1000000000],H,JQ 1,II 1,rfl,rfl,R,E,G _,L,r,h⟩,V_ u⟩
     |exact⟨by(repeat apply FS);exact⟨⟨k+1,1,_,b++[x - bw - y+1000000000],H,JQ 1,II 1,rfl,rfl,R,E,G _,L,r,h⟩,rfl⟩,V_ u⟩
    ·have a7:¬ (x - bw - y<0):=oS
     have L:=A_ (show Lims (b++[x - bw - y])from O.o.snoc oS oS);have r:=A_ (show val (b++[x - bw - y])=val (xs.take (k+1)) - val (ys.take (k+1))+pw (k+1)*0 by rw[A4s,D.o,aj.o,Y_ W.o,Y_ aA.o,A1l];grind);have E:=A_ (show((zs.set k (x - bw)).set k (x - bw - y))=(b++[x - bw - y])++xs.drop (k+1) by rw[PZ,Z.o];exact C4b D ab _);have R:=A_ (A3a au k (x - bw - y));have h:=A_ (aH.setCell (p:=⟨g,k,I⟩) ag (RH RD (x - bw - y)));clear Y;go_simp;have ad:=aC.o;go_wp2_with fail;first
     |exact⟨⟨k+1,0,_,b++[x - bw - y],H,II 0,JQ 1,rfl,rfl,R,E,G _,L,r,h⟩,V_ u⟩
     |exact⟨by(repeat apply FS);exact⟨⟨k+1,0,_,b++[x - bw - y],H,II 0,JQ 1,rfl,rfl,R,E,G _,L,r,h⟩,rfl⟩,V_ u⟩
   ·have aL:¬ ((k:Int)<m):=oS
    have T:=A_ (by rw[a5.o];exact ae:ys.length<=k);have G:=A_ (by intro x;rw[GQ,D.o];rfl:∀ x:Int,(b++[x]).length=k+1);have ab:=A_ Y;clear Y;have aO:=A_ (by have:=aj.o;rwa [DT T.o]at this:val b=val (xs.take k) - val ys+pw k*bw);rcases FH (x - bw) 0 with an|an
    ·have L:=A_ (show Lims (b++[x - bw+1000000000])from O.o.snoc oS oS)
     have r:=A_ (show val (b++[x - bw+1000000000])=val (xs.take (k+1)) - val (ys.take (k+1))+pw (k+1)*1 by rw[DT (show ys.length<=k+1 from QO T.o),A4s,D.o,aO.o,Y_ W.o,A1l];grind);have E:=A_ (show((zs.set k (x - bw)).set k (x - bw+1000000000))=(b++[x - bw+1000000000])++xs.drop (k+1) by rw[PZ,Z.o];exact C4b D ab _);have R:=A_ (A3a aa k (x - bw+1000000000));have h:=A_ (X.setCell (p:=⟨g,k,I⟩) ag (RH RD (x - bw+1000000000)));clear aa X ae;go_wp2_with fail;first
     |exact⟨⟨k+1,1,_,b++[x - bw+1000000000],H,JQ 1,II 1,rfl,rfl,R,E,G _,L,r,h⟩,V_ u⟩
     |exact⟨by(repeat apply FS);exact⟨⟨k+1,1,_,b++[x - bw+1000000000],H,JQ 1,II 1,rfl,rfl,R,E,G _,L,r,h⟩,rfl⟩,V_ u⟩
    ·have a7:¬ (x - bw<0):=oS
     have L:=A_ (show Lims (b++[x - bw])from O.o.snoc oS oS);have r:=A_ (show val (b++[x - bw])=val (xs.take (k+1)) - val (ys.take (k+1))+pw (k+1)*0 by rw[DT (show ys.length<=k+1 from QO T.o),A4s,D.o,aO.o,Y_ W.o,A1l];grind);have E:=A_ (show zs.set k (x - bw)=(b++[x - bw])++xs.drop (k+1) by rw[Z.o];exact C4b D ab _);have R:=A_ aa;have h:=A_ X;clear aa X ae;go_wp2_with fail;first
     |exact⟨⟨k+1,0,_,b++[x - bw],H,II 0,JQ 1,rfl,rfl,R,E,G _,L,r,h⟩,V_ u⟩
     |exact⟨by(repeat apply FS);exact⟨⟨k+1,0,_,b++[x - bw],H,II 0,JQ 1,rfl,rfl,R,E,G _,L,r,h⟩,rfl⟩,V_ u⟩
  have a4:k=n:=oS;subst a4;have aP:=A_ (by rw[Z.o,JZ (IW af.o),List.append_nil]:zs=b);have a8:=A_ (show trim zs=dig (val xs - val ys).toNat by
   have ak:=aj.o;rw[DT (IW af.o)]at ak;have aV:ys.length<=k:=by
    rcases CG xs.length ys.length with ac|ac;·have:=Can.lt_of_len aw.1 ax ac;have:=ay.o;omega
    rw[<-af.o];exact ac
   rw[DT aV]at ak;have aW:=A4j O;rw[D.o]at aW;have bc:=ay.o;have aZ:bw=0:=by
    rcases FH 0 bw with ac|ac;·have:bw=1:=oS;subst this;omega
    omega
   rw[aZ]at ak;rw[aP.o];exact A8i O.o oS)
  have aL:¬ ((k:Int)<k):=oS;have aX:=A_ (by rw[aP.o];exact O.i64:∀ x∈zs,I64 x);clear u a3;go_wp2_with fail;refine(A9y _ _ _ _ zs _ ah aX).mono ?_;rintro _ w3 ⟨rfl,be,aN⟩;have h:Bw w w3:=Below.go;go_wp2;go_ret;rw[a8.o]at aN ⊢;exact A2r aN rfl (A0j _).1.i64 h

theorem B5n (A B:Option AJ) (n m c d:Nat) (xs ys:List Int) (bs aR:List Nat) (w:AD) (ai:Sl w A n c xs bs) (al:Sl w B m d ys aR) (aA:Lims xs) (aB:Lims ys) (bi:n<=1048576) (bh:m<=1048576) :
  BL prog 92 #[S A n c,S B m d] w (A0w w (dig (val xs*val ys).toNat)):=by
 obtain⟨aK,aD,aG,aH,aI⟩:=FB A6b;have a4:=A_ ai.1;have a5:=A_ al.1;have aM:=A_ ai;have aO:=A_ al;have ap:=A_ aA;have aq:=A_ aB;have b2:=A_ (by rw[aI];omega:aK.bytes*(n+m)<=281474976710656);have aQ:=A_ (by unfold BS;omega:n+m<=BS);clear ai al aA aB;go_enter func92,ntmps92;go_wp2_with (at_make;(refine KK _ rfl _ _ 35 rfl w.1.size 3 aK (RH RD 0) 1 underlying35 aD aG aH .i64 .i64 _ _ (n+m) rfl rfl rfl rfl b2 aQ (CE _) ?_);intro bn af aC);rw[A8c]at af;have T:=(DI w.1.size w).grown aC (CE _) (by intro k ac;cases ac);clear aC;go_loopw [20] (λi wr=>∃ (k:Nat) (zs:List Int),k<=n/\i=RH RD k/\wr.ownsRow w.1.size 3 1 (S (QZ ⟨w.1.size,0,I⟩) (n+m) (n+m)) (n+m) (zs.map (RH RD))/\BI (Lims zs)/\BI (∀ j,k+m<=j->j<n+m->zs[j]?=QZ 0)/\BI (val zs=val (xs.take k)*val ys)/\Bw w wr) (λi wr=>n - (DW i).toNat);case atStart=>exact⟨0,_,EO _,rfl,af,Lims.zeros _,λj _ a1=>by rw[OO,if_pos a1],by show val _=val (xs.take 0)*val ys;rw[A9k,FM];simp[val],T⟩
 case round =>
  obtain⟨i,zs,ac,rfl,u,Z,aJ,ah,aa⟩:=hrel;clear af T aD aG aH aI;obtain⟨aL,rfl⟩:∃ aL:AD,aL=wr:=⟨_,rfl⟩
  rcases CG i n with H|H
  ·have be:(i:Int)<n:=oS
   obtain⟨b1,o1,x,rfl,T,aj,_,ay⟩:=DL aM H;have ak:=ap.get aj;have aN:=A_ aj;have a7:=ak.1;have a8:=ak.2;clear ak aj;have aS:=(aa.cell (p:=⟨b1,o1+i,I⟩) T).trans ay;have aw:=A_ u;clear u;go_wp2_with fail;go_loopw [8,27] (λy j wr=>∃ (k:Nat) (b:Int) (zs:List Int),k<=m/\0<=b/\b<1000000000/\j=RH RD k/\y=RH RD b/\wr.ownsRow w.1.size 3 1 (S (QZ ⟨w.1.size,0,I⟩) (n+m) (n+m)) (n+m) (zs.map (RH RD))/\BI (Lims zs)/\BI (∀ j,i+m<=j->j<n+m->zs[j]?=QZ 0)/\BI (val zs+pw (i+k)*b=val (xs.take i)*val ys+pw i*(x*val (ys.take k)))/\Bw w wr) (λy j wr=>m - (DW j).toNat);case atStart=>exact⟨0,0,zs,EO _,oS,oS,rfl,rfl,aw.o,Z,aJ,by show val zs+pw (i+0)*0=val (xs.take i)*val ys+pw i*(x*val (ys.take 0));rw[ah.o,FM];simp[val],aa⟩
   case round =>
    obtain⟨k,b,us,bg,aU,aV,rfl,rfl,u,ae,ao,aF,ab⟩:=hrel;clear aw Z aJ ah aa ay T aS;rcases CG k m with G|G
    ·have a3:(k:Int)<m:=oS
     obtain⟨b2,o2,y,rfl,ax,am,_,az⟩:=DL aO G;have an:=aq.get am;have aP:=A_ am;have a9:=an.1;have ba:=an.2;clear an am;have bd:=(ab.cell (p:=⟨b2,o2+k,I⟩) ax).trans az;obtain⟨h,ag,bl,bm⟩:=ae.o.num (j:=i+k) (by rw[A2n u];omega);have X:=A_ ag;obtain⟨aX,aT,aW⟩:=A0t u ag;clear ag az ax;obtain⟨bj,bk⟩:=C0c a7 a8 a9 ba;have a2:(k:Int)<=1048576:=oS;have aY:(i:Int)<=1048576:=oS;have aZ:(i:Int)+k<n+m:=oS;have W:k+1<=m:=G;have ar:=A_ (by omega:0<=(h+x*y+b) / 1000000000);have au:=A_ (by omega:(h+x*y+b) / 1000000000<1000000000);have L:=A_ (ae.o.set (i+k) (u:=(h+x*y+b) % 1000000000) oS oS);have O:=A_ (show ∀ j,i+m<=j->j<n+m->(us.set (i+k) ((h+x*y+b) % 1000000000))[j]?=QZ 0 by intro j E Y;rw[JU oS];exact ao j E Y);have r:=A_ (show val (us.set (i+k) ((h+x*y+b) % 1000000000))+pw (i+(k+1))*((h+x*y+b) / 1000000000)=val (xs.take i)*val ys+pw i*(x*val (ys.take (k+1))) by rw[show i+(k+1)=i+k+1 from rfl,B3g X.o aF.o,Y_ aP.o,B0f];grind);have R:=A_ (A3a u (i+k) ((h+x*y+b) % 1000000000));have D:=A_ (ab.setCell (p:=⟨w.1.size,i+k,I⟩) (CE _) (RH RD ((h+x*y+b) % 1000000000)));go_wp2_with fail;first
     |exact⟨⟨k+1,(h+x*y+b) / 1000000000,_,W,ar,au,rfl,rfl,R,L,O,r,D⟩,V_ G⟩
     |exact⟨by(repeat apply FS);exact⟨⟨k+1,(h+x*y+b) / 1000000000,_,W,ar,au,rfl,rfl,R,L,O,r,D⟩,rfl⟩,V_ G⟩
    ·have ad:k=m:=oS
     subst ad;have a3:¬ ((k:Int)<k):=oS;have X:=A_ (ao.o (i+k) (CE _) oS);obtain⟨aX,aT,aW⟩:=A0t u X;have a2:(k:Int)<=1048576:=oS;have aY:(i:Int)<=1048576:=oS;have aZ:(i:Int)+k<n+k:=oS;have W:i+1<=n:=H;have L:=A_ (ae.set (i+k) (u:=b) aU aV);have O:=A_ (show ∀ j,i+1+k<=j->j<n+k->(us.set (i+k) b)[j]?=QZ 0 by intro j E Y;rw[JU oS];exact ao.o j oS Y);have r:=A_ (show val (us.set (i+k) b)=val (xs.take (i+1))*val ys by have E:=aF.o;rw[DT (IW a5.o)]at E;rw[B3w X.o,Y_ aN.o];grind);have R:=A_ (A3a u (i+k) b);have D:=A_ (ab.setCell (p:=⟨w.1.size,i+k,I⟩) (CE _) (RH RD b));clear G;go_wp2_with fail;first
     |exact⟨⟨i+1,_,W,rfl,R,L,O,r,D⟩,V_ H⟩
     |exact⟨by(repeat apply FS);exact⟨⟨i+1,_,W,rfl,R,L,O,r,D⟩,rfl⟩,V_ H⟩
  have ad:i=n:=oS;subst ad;have a6:=A_ (show trim zs=dig (val xs*val ys).toNat by have E:=ah.o;rw[DT (IW a4.o)]at E;have Y:=Int.mul_nonneg (S_ ap) (S_ aq);exact A8i Z.o oS);have bf:¬ ((i:Int)<i):=oS;clear H ac;go_wp2_with fail;refine(A9y _ _ _ _ zs _ u Z.i64).mono ?_;rintro _ w3 ⟨rfl,bc,aE⟩;have D:Bw w w3:=Below.go;go_wp2;go_ret;rw[a6.o]at aE ⊢;exact A2r aE rfl (A0j _).1.i64 D

def C3a (w:AD) (xs:List Int) (r:Int) (e:Ending) (w':AD):Prop :=
 ∃ v,e=.returned (.tuple #[v,RH RD r])/\w'.ownsRow w.1.size 3 1 v xs.length (xs.map (RH RD))/\Bw w w'

theorem B7n (A:Option AJ) (n c:Nat) (xs:List Int) (bs:List Nat) (d:Int) (w:AD) (T:Sl w A n c xs bs) (ac:Lims xs) (H:0<d) (aL:d<1000000000) (aQ:n<=1048576) :
  BL prog 204 #[S A n c,RH RD d] w (C3a w (dig (val xs / d).toNat) (val xs % d)):=by
 obtain⟨an,ae,ak,al,am⟩:=FB A6b;have aB:=A_ T.1;have ar:=A_ T;have ap:=A_ ac;have b2:=A_ (by rw[am];omega:an.bytes*n<=281474976710656);have aw:=A_ (by unfold BS;omega:n<=BS);clear T ac;go_enter func204,ntmps204;go_wp2_with (at_make;(refine KK _ rfl _ _ 35 rfl w.1.size 3 an (RH RD 0) 1 underlying35 ae ak al .i64 .i64 _ _ n rfl rfl rfl rfl b2 aw (CE _) ?_);intro aU O ad);rw[A8c]at O;have b:=(DI w.1.size w).grown ad (CE _) (by intro k aA;cases aA);clear ad;go_loopw [7,8] (λr i wr=>∃ (K:Nat) (q:Int) (zs:List Int),K<=n/\i=RH RD ((K:Int) - 1)/\r=RH RD q/\0<=q/\q<d/\wr.ownsRow w.1.size 3 1 (S (QZ ⟨w.1.size,0,I⟩) n n) n (zs.map (RH RD))/\BI (Lims zs)/\BI (val (zs.drop K)*d+q=val (xs.drop K))/\Bw w wr) (λr i wr=>(DW i+1).toNat);case atStart =>refine⟨n,0,_,CE _,rfl,rfl,II _,H,O,Lims.zeros _,?_,b⟩;show val ((List.replicate n (0:Int)).drop n)*d+0=val (xs.drop n);rw[JZ sI,JZ (IW aB.o)];simp[val]
 case round =>
  obtain⟨K,q,zs,aa,rfl,rfl,ag,ah,u,h,aj,G⟩:=hrel;clear O b ae ak al am;rcases IG K with E|E;·subst E;have e:=A_ (show dig (val xs / d).toNat=trim zs/\val xs % d=q by have Z:=aj.o;rw[FF,FF]at Z;obtain⟨ax,ay⟩:=D2a H Z ag ah;refine⟨?_,ay⟩;rw[ax];exact(A8i h (Int.toNat_of_nonneg (S_ h)).symm).symm);have aS:¬ ((0:Int)<=((0:Nat):Int) - 1):=oS;go_wp2_with fail;refine(A9y _ _ _ _ zs _ u h.i64).mono ?_;rintro _ w3 ⟨rfl,aI,aC⟩;have D:Bw w w3:=Below.go;go_wp2;go_ret2;rw[e.o.1,e.o.2];exact⟨_,rfl,aC,D⟩
  ·obtain⟨j,rfl⟩:∃ j,K=j+1:=⟨K - 1,oS⟩
   have Y:(((j+1:Nat):Int) - 1)=j:=oS;rw[Y];have az:j<n:=aa;obtain⟨b1,o1,x,rfl,b,W,_,ab⟩:=DL ar az;have X:=ap.get W;have au:=A_ W;have aF:=X.1;have aG:=X.2;have aJ:=(G.cell (p:=⟨b1,o1+j,I⟩) b).trans ab;have aH:b1<wr.1.size:=by have:=G.size;omega
   clear X W ab b;obtain⟨aT,ai,aD,aE⟩:=h.o.num (j:=j) (by rw[A2n u];omega);obtain⟨aO,aK,aN⟩:=A0t u ai;have aq:=A_ (by rw[A2n u];omega:j<zs.length);clear ai aD aE;have Q:=A_ (D9u H ag ah aF aG);have r:=A_ (D4g aq au aj);have L:=A_ (h.set j Q.1 Q.2.1);have R:=A_ (A3a u j ((q*1000000000+x) / d));have D:=A_ (G.setCell (p:=⟨w.1.size,j,I⟩) (CE _) (RH RD ((q*1000000000+x) / d)));have aP:(j:Int)<n:=oS;have aR:(n:Int)<=1048576:=oS;have af:j<=n:=oS;have aM:1<=d:=oS;have ao:(DW (RH RD ((j:Int) - 1))+1).toNat<(DW (RH RD (j:Int))+1).toNat:=by simp[DW]
   clear Y aa E;go_wp2_with fail;first
   |exact⟨⟨j,(q*1000000000+x) % d,_,af,rfl,rfl,Q.2.2.1,Q.2.2.2,R,L,r,D⟩,ao⟩
   |exact⟨by(repeat apply FS);exact⟨⟨j,(q*1000000000+x) % d,_,af,rfl,rfl,Q.2.2.1,Q.2.2.2,R,L,r,D⟩,rfl⟩,ao⟩

def E2b (w:AD) (N:Nat) (V:Int) (e:Ending) (w':AD):Prop :=
 ∃ zs,e=.returned (S (QZ ⟨w.1.size,0,I⟩) N N)/\zs.length=N/\Lims zs/\val zs=V/\w'.ownsRow w.1.size 3 1 (S (QZ ⟨w.1.size,0,I⟩) N N) N (zs.map (RH RD))/\Bw w w'

theorem C2d (A:Option AJ) (n c N:Nat) (xs:List Int) (bs:List Nat) (d:Int) (w:AD) (ai:Sl w A n c xs bs) (an:Lims xs) (aE:0<d) (aF:d<1000000000) (aO:N<=1048576) (ad:n<=N) (al:val xs*d<pw N) :
  BL prog 205 #[S A n c,RH RD d,RH RD N] w (E2b w N (val xs*d)):=by
 obtain⟨ax,ap,ar,au,aw⟩:=FB A6b;have aq:=A_ ai.1;have aA:=A_ ai;have ay:=A_ an;have az:=A_ al;have b2:=A_ (by rw[aw];omega:ax.bytes*N<=281474976710656);have aC:=A_ (by unfold BS;omega:N<=BS);clear ai an al;go_enter func205,ntmps205;go_wp2_with (at_make;(refine KK _ rfl _ _ 35 rfl w.1.size 3 ax (RH RD 0) 1 underlying35 ap ar au .i64 .i64 _ _ N rfl rfl rfl rfl b2 aC (CE _) ?_);intro a2 ag ao);rw[A8c]at ag;have X:=(DI w.1.size w).grown ao (CE _) (by intro k Y;cases Y);clear ao;go_loopw [8,15] (λy i wr=>∃ (k:Nat) (b:Int) (zs:List Int),k<=N/\0<=b/\b<1000000000/\i=RH RD k/\y=RH RD b/\wr.ownsRow w.1.size 3 1 (S (QZ ⟨w.1.size,0,I⟩) N N) N (zs.map (RH RD))/\BI (Lims zs)/\BI (∀ j,k<=j->j<N->zs[j]?=QZ 0)/\BI (val zs+pw k*b=val (xs.take k)*d)/\Bw w wr) (λy i wr=>N - (DW i).toNat);case atStart =>refine⟨0,0,_,EO _,II _,oS,rfl,rfl,ag,Lims.zeros _,λj _ aG=>by rw[OO,if_pos aG],?_,X⟩;show val _+pw 0*0=val (xs.take 0)*d;rw[A9k,FM];simp[val]
 case round =>
  obtain⟨k,b,zs,Y,aT,aU,rfl,rfl,Z,ae,ak,ah,T⟩:=hrel;clear ag X ap ar au aw;rcases CG k N with h|h
  ·have aX:(k:Int)<N:=oS
   have aP:(N:Int)<=1048576:=oS;have af:=A_ (ak k (CE _) h);obtain⟨aW,aS,aV⟩:=A0t Z af;have ab:k+1<=N:=h;rcases CG k n with ac|ac
   ·obtain⟨b1,o1,x,rfl,X,aj,_,am⟩:=DL aA ac
    have E:=ay.get aj;have aB:=A_ aj;have aJ:=E.1;have aK:=E.2;have aR:=(T.cell (p:=⟨b1,o1+k,I⟩) X).trans am;have aQ:b1<wr.1.size:=by have:=T.size;omega
    clear E aj am X;have aI:(k:Int)<n:=oS;obtain⟨aZ,a1⟩:=C0c aJ aK (Int.le_of_lt aE) aF;have G:=A_ (by omega:0<=(b+x*d) / 1000000000);have H:=A_ (by omega:(b+x*d) / 1000000000<1000000000);have L:=A_ (ae.o.set k (u:=(b+x*d) % 1000000000) oS oS);have O:=A_ (show ∀ j,k+1<=j->j<N->(zs.set k ((b+x*d) % 1000000000))[j]?=QZ 0 by intro j D aa;rw[JU oS];exact ak.o j oS aa);have r:=A_ (show val (zs.set k ((b+x*d) % 1000000000))+pw (k+1)*((b+x*d) / 1000000000)=val (xs.take (k+1))*d by rw[B3g af.o ah.o,Y_ aB.o];grind);have R:=A_ (A3a Z k ((b+x*d) % 1000000000));have W:=A_ (T.setCell (p:=⟨w.1.size,k,I⟩) (CE _) (RH RD ((b+x*d) % 1000000000)));clear ad Y;go_wp2_with fail;first
    |exact⟨⟨k+1,(b+x*d) / 1000000000,_,ab,G,H,rfl,rfl,R,L,O,r,W⟩,V_ h⟩
    |exact⟨by(repeat apply FS);exact⟨⟨k+1,(b+x*d) / 1000000000,_,ab,G,H,rfl,rfl,R,L,O,r,W⟩,rfl⟩,V_ h⟩
   ·have aI:¬ ((k:Int)<n):=oS
    have G:=A_ (by omega:0<=b / 1000000000);have H:=A_ (by omega:b / 1000000000<1000000000);have L:=A_ (ae.o.set k (u:=b % 1000000000) oS oS);have O:=A_ (show ∀ j,k+1<=j->j<N->(zs.set k (b % 1000000000))[j]?=QZ 0 by intro j D aa;rw[JU oS];exact ak.o j oS aa);have r:=A_ (show val (zs.set k (b % 1000000000))+pw (k+1)*(b / 1000000000)=val (xs.take (k+1))*d by
     have E:xs.length<=k:=by rw[aq.o];exact ac
     have D:=ah.o;rw[DT E]at D;rw[B3g af.o D,DT (QO E)];grind)
    have R:=A_ (A3a Z k (b % 1000000000));have W:=A_ (T.setCell (p:=⟨w.1.size,k,I⟩) (CE _) (RH RD (b % 1000000000)));clear ad Y ac;go_wp2_with fail;first
    |exact⟨⟨k+1,b / 1000000000,_,ab,G,H,rfl,rfl,R,L,O,r,W⟩,V_ h⟩
    |exact⟨by(repeat apply FS);exact⟨⟨k+1,b / 1000000000,_,ab,G,H,rfl,rfl,R,L,O,r,W⟩,rfl⟩,V_ h⟩
  have aH:k=N:=oS;subst aH;have e:=A_ (show val zs=val xs*d by
   have D:=ah.o;rw[DT (by rw[aq.o];exact ad)]at D;have aa:=S_ ae;have aM:=A5r k;have aN:=az.o;have:b=0:=by
    rcases FH 0 b with aD|aD;·have:pw k*1<=pw k*b:=Int.mul_le_mul_of_nonneg_left oS oS;omega
    omega
   subst this;omega)
  have aY:¬ ((k:Int)<k):=oS;have aL:=A_ (A2n Z);clear h Y ad;go_wp2;go_ret;exact⟨zs,rfl,aL,ae,e,Z,T⟩
end Go.Proofs.YtjcanieccnljfaaGreat.X
