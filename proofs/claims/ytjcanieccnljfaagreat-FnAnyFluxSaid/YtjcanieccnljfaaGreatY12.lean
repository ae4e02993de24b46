/- A part of the proof. -/
import Derived.Test.YtjcanieccnljfaaGreatY11
set_option linter.constructorNameAsVariable false
set_option maxHeartbeats 16000000
set_option maxRecDepth 10000
open Bool renaming and_eq_true→DJ,false→AH,true→AF
open Decidable renaming decide→BQ
open Go renaming Addr→AJ,Calls→BL,Oper→CZ,Program→FQ,TypeId→CV,Value→AU,World→AD,bodyPost_ret→CK,maxLen→BS,results→CO,undef→FX,yielded→IU
open Go.IntKind renaming i64→RD
open Go.Obj renaming cells→BG
open Go.Region renaming wanted→JB
open Go.Value renaming agg→BJ,bool→J,int→N,slice→QX
open Go.XB.Sl renaming below→BN,getInt→DL
open Go.XB.TPoint renaming agg→EW,elemA→GD
open Go.XB.TRat renaming agg→CF,mkAgg→FK
open Int renaming eq_ofNat_of_zero_le→NP,eq_of_mul_eq_mul_right→QG,gcd→CQ,mul_pos→GW,natAbs_mul→OL
open List renaming drop_succ_cons→GU,drop_zero→FF,getD→JG,mem_append→DV,mem_of_getElem?→DH,take_succ_cons→GT,take_zero→FM
open Nat renaming gcd_dvd_right→NQ,le_trans→CJ
open Option renaming none→I,some→QZ
namespace Go.Proofs.YtjcanieccnljfaaGreat.X
open Go.RowKit Go.XB Go.XN Proofs.Tryz
attribute [local go_sem] L_ opAt N_ M_ Region.wanted yielded
attribute [local simp] N_ M_ MP.eq MP.agg MP.sl A0r
theorem C9n (w:AD):BL prog 124 #[N RD 1,N RD 2] w (A0c w (mkR 1 2)) :=
 A7u 1 2 w oG oG dE

theorem D8n (v1 v2:AU) (p q:TPoint) (b1 b2:List Nat) (w:AD) (E:Agg w v1 p b1) (G:Agg w v2 q b2) :
  BL prog 26 #[v1,v2] w (A0c w (E3w p q)):=by
 have an:=A_ E;have ao:=A_ G;obtain⟨aB,a4,aJ,bd,aC,a5,aK,be,aD,a6,aL,bf,aE,a7,aM,bg,rfl,rfl,W,X,Y,Z⟩:=EW E;obtain⟨aF,a8,aN,bi,aG,a9,aO,bj,aH,ba,aP,bk,aI,bc,aQ,bl,rfl,rfl,aa,ab,ac,ad⟩:=EW G;have P1:=A_ (FK (x:=p.x) W X);have P2:=A_ (FK (x:=p.y) Y Z);have Q1:=A_ (FK (x:=q.x) aa ab);have Q2:=A_ (FK (x:=q.y) ac ad);clear W X Y Z aa ab ac ad E G an ao;go_enter func26,ntmps26;go_wp2_with fail;refine W_ 10 kR kR kR kR kR ?_;simp only[GT,FM,GU,FF];iterate 4 refine C_ _ ?_
 refine D_ (MP.agg (A0d p.x q.y)) ?_ ?_;·intro ag ah H b h;obtain⟨au,ax⟩:=F_ b;simp at h;refine G_ ?_;exact H_ (A0n _ _ p.x q.y _ _ H (P1.below Below.go) (Q2.below Below.go))
 iterate 4 refine C_ _ ?_
 refine D_ (MP.agg (A0d p.y q.x)) ?_ ?_;·intro ag ah H b h;obtain⟨au,ax⟩:=F_ b;simp at h;refine G_ ?_;exact H_ (A0n _ _ p.y q.x _ _ H (P2.below Below.go) (Q1.below Below.go))
 intro ag ah wa b h (aw:Hid _);simp at h;have ae:=h.2.2.2.2.1;have af:=h.2.2.2.2.2.2.2.2.2;have ak:=A_ ae.1.1;have al:=A_ af.1.1;clear h aw ae af;obtain⟨aT,aV⟩:=F_ b;have aX:w.1.size<wa.1.size:=ltg b;have aZ:w.1.size+1<wa.1.size:=ltg b;have a2:w.1.size+1+1<wa.1.size:=ltg b;go_wp2_with fail;refine(A5b _ _ (A0d p.x q.y) (A0d p.y q.x) _ _ wa ak al).mono ?_;rintro _ wb ⟨bm,bh,rfl,D,T,u⟩;obtain⟨ai,az,aq,aR,aj,aA,ar,aS,rfl,ay,_,_⟩:=CF D;have am:=A_ D;have O:=A_ T;clear D T ay;obtain⟨aU,aW⟩:=F_ u;have aY:w.1.size<wb.1.size:=ltg u;have a1:w.1.size+1<wb.1.size:=ltg u;have a3:w.1.size+1+1<wb.1.size:=ltg u;go_wp2;refine CK (v:=BJ #[J (A3t (A0d p.x q.y) (A0d p.y q.x)).1.1,QX ai az aq,QX aj aA ar]) (by simp[CO,results26,go_sem, *]) rfl ?_;refine A1s (lo:=w.1.size+3) am O.free (λap u=>by have:=(O.2 ap u).1;(try simp at this);omega) oS ?_ ?_;·exact Above.go
 exact Below.go

theorem A7l (v0 v1 v2:AU) (o p q:TPoint) (ak b1 b2:List Nat) (w:AD) (D:Agg w v0 o ak) (G:Agg w v1 p b1) (H:Agg w v2 q b2) :
  BL prog 181 #[v0,v1,v2] w (A0c w (A2y o p q)):=by
 have T:=A_ D;obtain⟨aQ,bv,a3,bD,aR,bz,a4,bE,aS,bA,a5,bF,aT,bB,a6,bG,rfl,rfl,aq,ar,au,aw⟩:=EW D;have ah:=A_ G;have ai:=A_ H;obtain⟨aI,bm,aU,bH,aJ,bn,aV,bI,aK,bo,aW,bJ,aL,bp,aX,bK,rfl,rfl,ax,ay,az,aA⟩:=EW G;obtain⟨aM,bq,aY,bM,aN,br,aZ,bN,aO,bt,a1,bO,aP,bu,a2,bP,rfl,rfl,aB,aC,aD,aE⟩:=EW H;clear aq ar au aw ax ay az aA aB aC aD aE D G H;go_enter func181,ntmps181;go_wp2_with fail;refine W_ 6 kR kR kR kR kR ?_;simp only[GT,FM,GU,FF];iterate 2 refine C_ _ ?_
 refine D_ (MP.agg (A4a p o)) ?_ ?_;·intro aa ab O b h;obtain⟨an,ap⟩:=F_ b;simp at h;refine G_ ?_;exact H_ (A1u _ _ p o _ _ O (ah.below Below.go) (T.below Below.go))
 iterate 2 refine C_ _ ?_
 refine D_ (MP.agg (A4a q o)) ?_ ?_;·intro aa ab O b h;obtain⟨an,ap⟩:=F_ b;simp at h;refine G_ ?_;exact H_ (A1u _ _ q o _ _ O (ai.below Below.go) (T.below Below.go))
 intro aa ab wa b h (ao:Hid _);simp at h;have Y:=h.2.2.1;have Z:=h.2.2.2.2.2;have ae:=A_ Y.1.1;have af:=A_ Z.1.1;clear h ao Y Z;obtain⟨a9,bc⟩:=F_ b;have be:w.1.size<wa.1.size:=ltg b;have bg:w.1.size+1<wa.1.size:=ltg b;have bi:w.1.size+1+1<wa.1.size:=ltg b;have bk:w.1.size+1+1+1<wa.1.size:=ltg b;go_wp2_with fail;refine(D8n _ _ (A4a p o) (A4a q o) _ _ wa ae af).mono ?_;rintro _ wb ⟨bQ,bL,rfl,E,X,u⟩;obtain⟨ac,aG,al,a7,ad,aH,am,a8,rfl,aF,_,_⟩:=CF E;have ag:=A_ E;have W:=A_ X;clear E X aF;obtain⟨ba,bd⟩:=F_ u;have bf:w.1.size<wb.1.size:=ltg u;have bh:w.1.size+1<wb.1.size:=ltg u;have bj:w.1.size+1+1<wb.1.size:=ltg u;have bl:w.1.size+1+1+1<wb.1.size:=ltg u;go_wp2;refine CK (v:=BJ #[J (E3w (A4a p o) (A4a q o)).1.1,QX ac aG al,QX ad aH am]) (by simp[CO,results181,go_sem, *]) rfl ?_;refine A1s (lo:=w.1.size+4) ag W.free (λaj u=>by have:=(W.2 aj u).1;(try simp at this);omega) oS ?_ ?_;·exact Above.go
 exact Below.go

theorem B1s (v1 v2:AU) (p q:TPoint) (b1 b2:List Nat) (w:AD) (E:Agg w v1 p b1) (G:Agg w v2 q b2) :
  BL prog 210 #[v1,v2] w (A0c w (A2f p q)):=by
 have ah:=A_ E;have ai:=A_ G;obtain⟨aH,bd,aP,bl,aI,be,aQ,bm,aJ,bf,aR,bn,aK,bg,aS,bo,rfl,rfl,ar,au,aw,ax⟩:=EW E;obtain⟨aL,bh,aT,bq,aM,bi,aU,br,aN,bj,aV,bt,aO,bk,aW,bu,rfl,rfl,ay,az,aA,aB⟩:=EW G;clear ar au aw ax ay az aA aB E G;go_enter func210,ntmps210;go_wp2_with fail;refine W_ 4 kR kR kR kR kR ?_;simp only[GT,FM,GU,FF];refine D_ (MP.agg (mkR 1 2)) ?_ ?_;·intro Y Z H b h;obtain⟨ao,aq⟩:=F_ b;simp at h;refine G_ ?_;exact H_ (C9n H)
 iterate 2 refine C_ _ ?_
 refine D_ (MP.agg (A3y p q)) ?_ ?_;·intro Y Z H b h;obtain⟨ao,aq⟩:=F_ b;simp at h;refine G_ ?_;exact H_ (A4x _ _ p q _ _ H (ah.below Below.go) (ai.below Below.go))
 intro Y Z wa b h (ap:Hid _);simp at h;have W:=h.1;have X:=h.2.2.2;have ae:=A_ W.1.1;have af:=A_ X.1.1;clear h ap W X;obtain⟨a2,a4⟩:=F_ b;have a6:w.1.size<wa.1.size:=ltg b;have a8:w.1.size+1<wa.1.size:=ltg b;have ba:w.1.size+1+1<wa.1.size:=ltg b;go_wp2_with fail;refine(A1n _ _ (mkR 1 2) (A3y p q) _ _ wa ae af).mono ?_;rintro _ wb ⟨bv,bp,rfl,D,T,u⟩;obtain⟨aa,aD,ak,aX,ab,aE,al,aY,ac,aF,am,aZ,ad,aG,an,a1,rfl,aC,_,_,_,_⟩:=EW D;have ag:=A_ D;have O:=A_ T;clear D T aC;obtain⟨a3,a5⟩:=F_ u;have a7:w.1.size<wb.1.size:=ltg u;have a9:w.1.size+1<wb.1.size:=ltg u;have bc:w.1.size+1+1<wb.1.size:=ltg u;go_wp2;refine CK (v:=BJ #[J (A0v (mkR 1 2) (A3y p q)).x.1.1,QX aa aD ak,QX ab aE al,J (A0v (mkR 1 2) (A3y p q)).y.1.1,QX ac aF am,QX ad aG an]) (by simp[CO,results210,go_sem, *]) rfl ?_;refine A1s (lo:=w.1.size+3) ag O.free (λaj u=>by have:=(O.2 aj u).1;(try simp at this);omega) oS ?_ ?_;·exact Above.go
 exact Below.go
end Go.Proofs.YtjcanieccnljfaaGreat.X

namespace Go.XN
open Go.XB
def A7m:List TPoint->Bool
 | [a,b,c]=>(A1b a&&(A1b b&&A1b c))&&BQ (0<A9m (A2y a b c))
 |_=>AH
end Go.XN
namespace Go.Proofs.YtjcanieccnljfaaGreat.X
open Go.RowKit Go.XB Go.XN Proofs.Tryz
attribute [local go_sem] L_ opAt N_ M_ Region.wanted yielded
attribute [local simp] N_ M_ MP.eq MP.agg MP.sl A0r
theorem E0p (f:Nat) (af:A4f f) (A:Option AJ) (n c:Nat) (xs:List TPoint) (bs:List Nat) (w:AD) (p:TPoint->Bool) (u:Sl w A n c xs bs)
  (Y:∀ (v:AU) (x:TPoint) (b:List Nat) (w:AD),x∈xs->Agg w v x b->BL prog f #[v] w (A0b w (J (p x)))) :
  BL prog 191 #[QX A n c,.func (.func f) #[] #[]] w (B9x w (xs.any p)):=by
 have ab:=A_ u.1;have ad:=A_ u;have ac:=A_ Y;unfold A4f at af;have ai:n<=BS:=CJ u.2.1 u.2.2.1;unfold BS at ai;clear u Y;go_enter func191,ntmps191;go_wp2_with fail;go_loopg [8] n (λg s8 wr=>∃ k:Nat,k+g=n/\s8=N RD k/\Hid ((xs.take k).any p=AH)/\Bw w wr);case atStart=>exact⟨0,oS,rfl,by show(xs.take 0).any p=AH;simp,Below.refl _ _⟩
 case round =>
  obtain⟨k,X,rfl,O,G⟩:=hrel;rcases Nat.lt_or_ge k n with h|h
  ·obtain⟨an,aF,x,aj,m1,ao,aG,ak,m2,ap,aH,al,aD,aq,aI,am,aE,ar,aJ,rfl,aB,Z,au,aw,ax,ay,az,aA,T⟩:=GD (BN ad G) h
   have E:=A_ Z;have aa:=A_ T;have ah:(k:Int)<n:=oS;obtain⟨g,rfl⟩:∃ g,gk=g+1:=⟨gk - 1,oS⟩
   have ag:=A_ (by omega:k+1+g=n);have aC:k+1<=n:=h;clear Z X h T;go_wp2_with fail;refine(ac _ x _ wr (DH E) aa).mono ?_;rintro _ aK ⟨rfl,ae⟩;have W:=Below.next G ae;cases D:p x
   ·have H:=A_ (B6c E O D)
    clear D;go_wp2_with fail;go_roundg g;case measure=>omega
    case rel=>exact⟨k+1,ag,gN,H,W⟩
   have H:=A_ (D1e E D);clear D;go_wp2;go_ret;exact⟨k,rfl,by rw[H.o];simp,W⟩
  have e:=A_ (show xs.any p=AH by have:=O.o;rwa [List.take_of_length_le (by rw[ab.o];omega)]at this);have ah:¬ ((k:Int)<n):=oS;clear X h;go_wp2;go_ret;exact⟨-1,rfl,by rw[e.o];rfl,G⟩

theorem B8q (f:Nat) (h:A4f f) (A:Option AJ) (n c:Nat) (xs:List TPoint) (bs:List Nat) (w:AD) (p:TPoint->Bool) (D:Sl w A n c xs bs)
  (u:∀ (v:AU) (x:TPoint) (b:List Nat) (w:AD),x∈xs->Agg w v x b->BL prog f #[v] w (A0b w (J (p x)))) :
  BL prog 134 #[QX A n c,.func (.func f) #[] #[]] w (A0b w (J (xs.any p))):=by
 have O:=A_ D;have H:=A_ u;have G:=A_ h;clear D u h;go_enter func134,ntmps134;go_wp2_with fail;refine(E0p f G A n c xs bs _ p (BN O Below.go) H).mono ?_;rintro _ W ⟨r,rfl,e,T⟩;have E:=A_ e;clear e;go_wp2;go_ret;exact⟨Q_ E,T⟩

theorem B3e:A4f 239:=λa w=>kR
def D0l (x:TPoint):Bool:=!A1b x
theorem B4t (v:AU) (x:TPoint) (b:List Nat) (w:AD) (h:Agg w v x b):BL prog 239 #[v] w (A0b w (J (D0l x))):=by
 have u:=A_ h;obtain⟨O,ad,Y,ah,T,ae,Z,ai,W,af,aa,aj,X,ag,ab,ak,rfl,rfl,D,E,G,H⟩:=EW h;clear D E G H h;go_enter func239,ntmps239;go_wp2_with fail;refine(B2j _ x _ _ (Agg.below u Below.go)).mono ?_;rintro _ al ⟨rfl,ac⟩;go_wp2;go_ret;exact⟨rfl,Below.go⟩

theorem B2m (A:Option AJ) (n c:Nat) (xs:List TPoint) (bs:List Nat) (w:AD) (W:Sl w A n c xs bs) :
  BL prog 216 #[QX A n c] w (A0b w (J (A7m xs))):=by
 have Z:=A_ W;by_cases al:n=3
 ·subst al
  have ab:=A_ (by rw[List.not_all_eq_any_not];rfl:xs.any D0l=!xs.all A1b);cases X:xs.all A1b
  ·have Y:=A_ (show A7m xs=AH by
    match xs,W.1 with
    | [a,E,c'],_ =>
     simp only[List.all_cons,List.all_nil,Bool.and_true]at X
     show((A1b a&&(A1b E&&A1b c'))&&_)=AH
     rw[X];rfl)
   have ac:=A_ (by rw[ab.o,X];rfl:xs.any D0l=AF)
   clear X ab W
   go_enter func216,ntmps216
   go_wp2_with fail
   refine A0g ?_
   iterate 5 refine C_ _ ?_
   refine D_ (MP.eq (J AF)) ?_ ?_
   ·intro G H D u b;obtain⟨af,ag⟩:=F_ u;simp at b;refine G_ ?_;exact A0i (by have C:=B8q 239 B3e A 3 c xs bs D D0l (BN Z u) (λv x E w _ h=>B4t v x E w h);rwa [ac.o]at C)
   iterate 3 refine C_ _ ?_
   iterate 12 apply A4m;case h =>intro G H D u b;simp at b;go_simp;first|done|(simp[FX];done)
   iterate 2 refine C_ _ ?_
   intro G H ap u b (aa:Hid _)
   simp at b
   go_simp
   clear b aa
   go_wp2
   go_ret
   rw[Y.o]
   exact⟨rfl,u⟩
  ·have ac:=A_ (by rw[ab.o,X];rfl:xs.any D0l=AH)
   have ah:=A_ X;clear X ab;have aw:=W;obtain⟨O,b1,T,rfl⟩:∃ a E c',xs=[a,E,c']:=by
    match xs,W.1 with
    | [a,E,c'],_=>exact⟨a,E,c',rfl⟩
   obtain⟨a1,bB,aZ,P1,bl,a5,p1,P2,bm,a6,p2,aT,bn,a7,bF,aU,bo,a8,bG,aP,bi,am,ax,ay,az,aA,aB,aC,ai⟩:=GD Z (by decide:0<3);obtain⟨a2,bD,b2,Q1,bp,a9,q1,Q2,bq,ba,q2,aV,br,bc,bH,aW,bt,bd,bI,ad,aQ,an,aD,aE,aF,aG,aH,aI,aj⟩:=GD Z (by decide:1<3);obtain⟨a3,bE,a4,R1,bu,be,bJ,R2,bv,bf,bK,aX,bz,bg,bL,aY,bA,bh,bM,ae,aR,ao,aJ,aK,aL,aM,aN,aO,ak⟩:=GD Z (by decide:2<3);subst aP;injection ad with ad;injection ad with h1 h2 _;subst h1;subst h2;injection ae with ae;injection ae with h1 h2 _;subst h1;subst h2;simp at am an ao;subst am;subst an;subst ao;simp at ax ay az aA aB aC aD aE aF aG aH aI aJ aK aL aM aN aO;have aq:=A_ ai;have ar:=A_ aj;have au:=A_ ak;clear aQ aR ai aj ak W aw;have Y:=A_ (show BQ (0<A9m (A2y O b1 T))=A7m [O,b1,T] by
    have h:=ah.o;simp only[List.all_cons,List.all_nil,Bool.and_true]at h;show _=((A1b O&&(A1b b1&&A1b T))&&_)
    rw[h];rfl)
   clear ah;go_enter func216,ntmps216;go_wp2_with fail;refine A0g ?_;iterate 5 refine C_ _ ?_
   refine D_ (MP.eq (J AH)) ?_ ?_;·intro G H D u b;obtain⟨af,ag⟩:=F_ u;simp at b;refine G_ ?_;exact A0i (by have C:=B8q 239 B3e _ 3 c [O,b1,T] bs D D0l (BN Z u) (λv x E w _ h=>B4t v x E w h);rwa [ac.o]at C)
   iterate 3 refine C_ _ ?_
   iterate 9 refine C_ _ ?_
   refine D_ (MP.agg (A2y O b1 T)) ?_ ?_;·intro G H D u b;obtain⟨af,ag⟩:=F_ u;simp at b;refine G_ ?_;exact H_ (A7l _ _ _ O b1 T _ _ _ D (aq.below u) (ar.below u) (au.below u))
   refine D_ (MP.eq (N RD (A9m (A2y O b1 T)))) ?_ ?_;·intro G H D u b;obtain⟨af,ag⟩:=F_ u;simp at b;refine G_ ?_;exact A0i (B8u _ (A2y O b1 T) _ D b.1.1)
   iterate 3 refine C_ _ ?_
   intro G H ap u b (aa:Hid _);simp at b;go_simp;clear b aa;go_wp2;go_ret;exact⟨Q_ Y,u⟩
 have Y:=A_ (show A7m xs=AH by
  have aS:=W.1;match xs with
  | []=>rfl
  | [_]=>rfl
  | [_,_]=>rfl
  | [_,_,_]=>exact absurd aS.symm al
  |_::_::_::_::_=>rfl)
 have bk:¬ ((n:Int)=3):=oS;have bj:((n:Int)==3)=AH:=oR;clear W;go_enter func216,ntmps216;go_wp2_with fail;refine A0g ?_;iterate 4 refine C_ _ ?_
 iterate 3 apply A4m;case h =>intro G H D u b;simp at b;go_simp;first|done|(simp[FX];done)
 iterate 2 refine C_ _ ?_
 iterate 12 apply A4m;case h =>intro G H D u b;simp at b;go_simp;first|done|(simp[FX];done)
 iterate 2 refine C_ _ ?_
 intro G H ap u b (aa:Hid _);simp at b;go_simp;clear b aa;go_wp2;go_ret;rw[Y.o];exact⟨rfl,u⟩
end Go.Proofs.YtjcanieccnljfaaGreat.X

namespace Go.XB
open Go.RowKit
def MP.slbox (cs:Array AU) (t:CV):MP:=⟨λv bs w=>∃ g,v=QX (QZ ⟨g,0,I⟩) 1 1/\bs=[g]/\w.1[g]?=QZ (BG cs t),λv bs w w' hb h=>by
 obtain⟨g,e,hz,hg⟩:=h;exact⟨g,e,hz,(hb.block g (E_ hg)).trans hg⟩⟩
section
variable {P:FQ} {l:List CZ} {a0:Act}
theorem A1d {w0:AD} {F:List DP->Prop} {o:CZ} {D:List CZ} {u:List DP} (m:DP) (T:Cong m (N_ o))
  (h:∀ (y:Nat->AU) (z:Nat->List Nat) (w:AD),Bw w0 w->(∀ k∈N_ o,(u.getD k (λ_=>MP.eq FX) y).p (y k) (z k) w) ->
   JB o (IU l.toArray (L_ l y a0 (N_ o)).tmps)=AF/\∃ v w',(execOp (L_ l y a0 (N_ o)).eval o).run P w=.ok (.value v) w'/\Bw w w'/\∃ bs,(m y).p v bs w'/\∀ b∈bs,w.1.size<=b/\b<w'.1.size)
  (X:A4c P l w0 a0 F D (u++[m])):A4c P l w0 a0 F (o::D) u:=by
 refine⟨m,T,λy z w O W=>?_,X⟩;obtain⟨E,v,w',G,H⟩:=h y z w O W;rw[if_pos E];unfold B2b;rw[G];exact H
end
theorem A0a {w:AD} {g:Nat} {b:Array AU} {t:CV} (h:w.1[g]?=QZ (BG b t)):∀ j u,b.toList[j]?=QZ u->w.cell? ((⟨g,0,I⟩:AJ).add j)=QZ u:=by
 intro j u D;have e:(⟨g,0,I⟩:AJ).add j=⟨g,j,I⟩:=by unfold AJ.add;split<;>simp_all
 rw[e];exact(B_ h (by simpa using D)).1
end Go.XB
namespace Go.Proofs.YtjcanieccnljfaaGreat.X
open Go.RowKit Go.XB Go.XN Proofs.Tryz
attribute [local go_sem] L_ opAt N_ M_ Region.wanted yielded
attribute [local simp] N_ M_ MP.eq MP.agg MP.sl A0r
theorem D1n:(prog.info? 41).map (λi=>(i.zero,i.size,i.bytes))=QZ (QZ (BJ #[J AH,QX I 0 0,QX I 0 0,J AH,QX I 0 0,QX I 0 0]),6,112):=kR
def at0 (xs:List Int) (a:Int):Int:=xs.getD a.toNat 0
def E9r (xs ys:List Int) (a b c:Int):Int:=(at0 xs b - at0 xs a)*(at0 ys c - at0 ys a) - (at0 ys b - at0 ys a)*(at0 xs c - at0 xs a)
def A5u (xs ys:List Int) (a b c:Int):Int:=sgn (E9r xs ys a b c)
def A5t (xs ys:List Int) (a b c:Int):Bool:=BQ (A5u xs ys a b c=0)&&(inB (min (at0 xs a) (at0 xs b)) (at0 xs c) (max (at0 xs a) (at0 xs b))&&inB (min (at0 ys a) (at0 ys b)) (at0 ys c) (max (at0 ys a) (at0 ys b)))
def A6a (xs:List Int):Prop:=∀ x∈xs,-100<=x/\x<=100
def Plc (w:AD) (v:AU) (n:Nat) (xs ys:List Int):Prop:=∃ (A:Option AJ) (c X oX cX Y oY cY:Nat) (bX bY:List Nat),v=BJ #[QX A n c,QX (QZ ⟨X,oX,I⟩) n cX,QX (QZ ⟨Y,oY,I⟩) n cY]/\Sl w (QZ ⟨X,oX,I⟩) n cX xs bX/\Sl w (QZ ⟨Y,oY,I⟩) n cY ys bY
theorem Plc.below {w w':AD} {v:AU} {n:Nat} {xs ys:List Int} (h:Plc w v n xs ys) (b:Bw w w'):Plc w' v n xs ys:=by
 obtain⟨A,c,u,Y,H,D,Z,O,E,G,T,W,X⟩:=h;exact⟨A,c,u,Y,H,D,Z,O,E,G,T,W.below b,X.below b⟩
theorem D0b {a b:Int} (u:-200<=a/\a<=200) (D:-200<=b/\b<=200):-40000<=a*b/\a*b<=40000:=by
 have h:(a*b).natAbs<=200*200:=by rw[OL];exact Nat.mul_le_mul oS oS
 omega
theorem A3v (v:AU) (n:Nat) (xs ys:List Int) (a b c:Int) (w:AD) (ac:Plc w v n xs ys) (O:A6a xs) (T:A6a ys) (Z:0<=a/\a<n) (aa:0<=b/\b<n) (ab:0<=c/\c<n) :
  BL prog 137 #[v,N RD a,N RD b,N RD c] w (A0b w (N RD (A5u xs ys a b c))):=by
 obtain⟨A,aI,aA,aY,aJ,aB,aZ,aK,aG,aH,rfl,E,G⟩:=ac;obtain⟨W,rfl⟩:=NP Z.1;obtain⟨X,rfl⟩:=NP aa.1;obtain⟨Y,rfl⟩:=NP ab.1;obtain⟨_,_,u,h,aR,ad,_,aL⟩:=DL E (by omega:W<n);cases h;obtain⟨_,_,aj,h,_,ae,_,aM⟩:=DL E (by omega:X<n);cases h;obtain⟨_,_,ak,h,_,af,_,aN⟩:=DL E (by omega:Y<n);cases h;obtain⟨_,_,D,h,aS,ag,_,aO⟩:=DL G (by omega:W<n);cases h;obtain⟨_,_,al,h,_,ah,_,aP⟩:=DL G (by omega:X<n);cases h;obtain⟨_,_,am,h,_,ai,_,aQ⟩:=DL G (by omega:Y<n);cases h;have an:=A_ (show sgn ((aj - u)*(am - D) - (al - D)*(ak - u))=A5u xs ys W X Y by unfold A5u E9r at0;simp[JG,ad,ae,af,ag,ah,ai]);have b1:=O u (DH ad);have b2:=O aj (DH ae);have aC:=O ak (DH af);have aD:=T D (DH ag);have aE:=T al (DH ah);have aF:=T am (DH ai);obtain⟨p,ac⟩:∃ p,aj - u=p:=⟨_,rfl⟩
 obtain⟨q,aq⟩:∃ q,am - D=q:=⟨_,rfl⟩
 obtain⟨r,ar⟩:∃ r,al - D=r:=⟨_,rfl⟩
 obtain⟨s,au⟩:∃ s,ak - u=s:=⟨_,rfl⟩
 have p1:-200<=p/\p<=200:=oS;have q1:-200<=q/\q<=200:=oS;have aw:-200<=r/\r<=200:=oS;have ax:-200<=s/\s<=200:=oS;obtain⟨m1,hm1⟩:∃ m,p*q=m:=⟨_,rfl⟩
 obtain⟨m2,hm2⟩:∃ m,r*s=m:=⟨_,rfl⟩
 have k1:-40000<=m1/\m1<=40000:=by have:=D0b p1 q1;rw[hm1]at this;exact this
 have k2:-40000<=m2/\m2<=40000:=by have:=D0b aw ax;rw[hm2]at this;exact this
 rw[ac,aq,ar,au,hm1,hm2]at an;have aV:(W:Int)<n:=Z.2;have aW:(X:Int)<n:=aa.2;have aX:(Y:Int)<n:=ab.2;clear E G ad ae af ag ah ai O T Z aa ab;go_enter func137,ntmps137;go_wp2_with fail;refine A0g ?_;iterate 47 refine C_ _ ?_
 refine D_ (MP.eq (N RD (sgn (m1 - m2)))) ?_ ?_;·intro ay az a1 ao H;obtain⟨aT,aU⟩:=F_ ao;simp at H;refine G_ ?_;exact A0i (C2j _ _)
 refine C_ _ ?_;intro ay az wa ao H (ap:Hid _);simp at H;go_simp;clear H ap;go_wp2;go_ret;rw[<-an.o];exact⟨rfl,Below.go⟩

end Go.Proofs.YtjcanieccnljfaaGreat.X

namespace Go.XN
open Go.XB
structure Q where
 n:Int
 d:Int
def Q.ok (q:Q):Bool:=BQ (0<q.d)&&(BQ (q.d<10 ^ 200)&&(BQ (-(10 ^ 200)<q.n)&&BQ (q.n<10 ^ 200)))
def toR (q:Q):TRat:=mkR q.n q.d
def E0z (q r:Q):Q:=⟨q.n*r.d+r.n*q.d,q.d*r.d⟩
def E3c (q r:Q):Q:=⟨q.n*r.d - r.n*q.d,q.d*r.d⟩
def C0q (q r:Q):Q:=⟨q.n*r.n,q.d*r.d⟩
def E6c (q:Q):Q:=⟨-q.n,q.d⟩
def D6g (q:Q):Q:=⟨q.d,q.n⟩
def qeq (q r:Q):Bool:=BQ (q.n*r.d=r.n*q.d)
def A3u (r s:TRat):TRat:=if (J_ r&&J_ s)&&!s.num.mag.isEmpty then A0d r ⟨⟨s.1.1,s.2⟩,s.1.2⟩else A0h
end Go.XN
namespace Go.Proofs.YtjcanieccnljfaaGreat.X
open Go.RowKit Go.XB Go.XN Proofs.Tryz
attribute [local go_sem] L_ opAt N_ M_ Region.wanted yielded
attribute [local simp] N_ M_ MP.eq MP.agg MP.sl A0r
theorem _root_.dK {p:Prop} (h:p:=by decide +kernel):p:=h
theorem E9h:(10:Int) ^ 200<pw 24:=dK
structure Q.Ok (q:Q):Prop where
 d0:0<q.d
 d1:q.d<10 ^ 200
 n0:-(10 ^ 200)<q.n
 n1:q.n<10 ^ 200
theorem Q.ok_iff {q:Q}:q.ok=AF↔Q.Ok q:=by
 unfold Q.ok;constructor;·intro h;simp only[DJ,decide_eq_true_eq]at h;exact⟨h.1,h.2.1,h.2.2.1,h.2.2.2⟩
 intro h;simp only[DJ,decide_eq_true_eq];exact⟨h.d0,h.d1,h.n0,h.n1⟩
theorem A8q {q:Q} (h:q.ok=AF):J_ (toR q)=AF:=by
 obtain⟨u,X,Y,Z⟩:=Q.ok_iff.1 h;have af:=E9h;obtain⟨g,a,b,ac,T,aa,ab,_,H,O⟩:=B6r (A:=q.n) u;have ae:b<=q.d:=by have:1*b<=g*b:=Int.mul_le_mul_of_nonneg_right oS oS;omega
 have ad:a.natAbs<=q.n.natAbs:=by rw[T,OL];exact Nat.le_mul_of_pos_left _ oS
 have D:toR q=⟨A0f a,dig b.natAbs⟩:=by unfold toR mkR;rw[H,O,if_pos ⟨len_le_iff.2 (by generalize (10:Int) ^ 200=G at *;omega),len_le_iff.2 (by generalize (10:Int) ^ 200=G at *;omega)⟩]
 unfold toR at D ⊢;rw[<-D1c u,D];have E:val (dig b.natAbs)=b:=by rw[A1j];omega
 cases W:dig b.natAbs with
 |nil=>rw[W]at E;simp[val]at E;omega
 |cons _ _=>rfl
theorem B2u {q:Q} (h:q.ok=AF):RatV (toR q):=ratOkB_iff.1 (A8q h)
theorem A6l {q:Q} (h:q.ok=AF):R_ (toR q)*q.d=q.n*T_ (toR q):=E8a (Q.ok_iff.1 h).d0 (A8q h)
theorem D9b {q r:Q} (b:q.ok=AF) (h:r.ok=AF) (u:(E0z q r).ok=AF):A0k (toR q) (toR r)=toR (E0z q r):=by
 have H:=A6l b;have O:=A6l h;have G:=A6l u;rw[E5r (A8q b) (A8q h)];refine A9v (B2u u) (GW (B2u b).den0 (B2u h).den0) ?_;have D:=(Q.ok_iff.1 b).d0;have E:=(Q.ok_iff.1 h).d0;have T:0<q.d*r.d:=GW D E;refine QG (a:=q.d*r.d) oS ?_;simp only[E0z]at G ⊢;grind
theorem E7d {q r:Q} (b:q.ok=AF) (h:r.ok=AF) (u:(E3c q r).ok=AF):A3t (toR q) (toR r)=toR (E3c q r):=by
 have H:=A6l b;have O:=A6l h;have G:=A6l u;unfold A3t;rw[A8q b,A8q h];show mkR _ _=_;refine A9v (B2u u) (GW (B2u b).den0 (B2u h).den0) ?_;have D:=(Q.ok_iff.1 b).d0;have E:=(Q.ok_iff.1 h).d0;have T:0<q.d*r.d:=GW D E;refine QG (a:=q.d*r.d) oS ?_;simp only[E3c]at G ⊢;grind
theorem C3v {q r:Q} (b:q.ok=AF) (h:r.ok=AF) (u:(C0q q r).ok=AF):A0d (toR q) (toR r)=toR (C0q q r):=by
 have H:=A6l b;have O:=A6l h;have G:=A6l u;unfold A0d;rw[A8q b,A8q h];show mkR _ _=_;refine A9v (B2u u) (GW (B2u b).den0 (B2u h).den0) ?_;have D:=(Q.ok_iff.1 b).d0;have E:=(Q.ok_iff.1 h).d0;have T:0<q.d*r.d:=GW D E;refine QG (a:=q.d*r.d) oS ?_;simp only[C0q]at G ⊢;grind
theorem B7t {q r:Q} (u:q.ok=AF) (b:r.ok=AF) (h:qeq q r=AF):toR q=toR r:=by
 have E:=A6l b;have e:q.n*r.d=r.n*q.d:=of_decide_eq_true h;refine A9v (B2u b) (Q.ok_iff.1 u).d0 ?_;have D:=(Q.ok_iff.1 b).d0;refine QG (a:=r.d) oS ?_;grind
theorem E6e {q:Q} (b:q.ok=AF):C3m (toR q)=toR (E6c q):=by
 have D:=A6l b;have T:(E6c q).ok=AF:=by obtain⟨G,D,H,O⟩:=Q.ok_iff.1 b;exact Q.ok_iff.2 ⟨G,D,by show -(10 ^ 200) < -q.n;omega,by show -q.n<10 ^ 200;omega⟩
 have V:=B2u b;unfold C3m;rw[A8q b];show(⟨A0f (-R_ (toR q)),(toR q).2⟩:TRat)=_;have h:A0f (-R_ (toR q))=⟨!(toR q).1.1&&!(toR q).1.2.isEmpty,(toR q).1.2⟩:=B9l V.1;have E:RatV ⟨A0f (-R_ (toR q)),(toR q).2⟩:=by
  refine⟨?_,V.2,V.den0,?_,V.den24,?_⟩;·rw[h,bigOkB_iff];refine⟨(bigOkB_iff.1 V.1).1,λu e=>?_⟩;simp at u;exact u.2 e
  ·rw[h];exact V.num24
  rw[h];exact V.one
 refine(A9v E (Q.ok_iff.1 b).d0 ?_).symm;show -q.n*T_ (toR q)=A0q (A0f (-R_ (toR q)))*q.d;rw[A5m];grind
theorem D6r {n:Int} (G:-1000000<n) (H:n<1000000):RatV (U_ n):=by
 have D:(dig n.natAbs).length<=24:=len_le_iff.2 (by have:=E9h;generalize pw 24=E at *;omega);refine⟨?_,?_,(by decide:0<val [1]),D,(by decide:[(1:Int)].length<=24),?_⟩
 ·rw[bigOkB_iff]
  refine⟨⟨by show(dig n.natAbs).length<=60;omega,A0j _⟩,λu e=>?_⟩;have O:n<0:=by simpa[U_,A0f]using u
  have b:=A1j n.natAbs;have h:dig n.natAbs=[]:=e;rw[h]at b;simp[val]at b;omega
 ·exact(natOkB_iff.1 (by decide:A3m [1]=AF)).2
 show CQ _ (val [1])=1;rw[show val [1]=1 by decide];exact Int.gcd_one
theorem B9z {n:Int} (b:-1000000<n) (h:n<1000000):U_ n=toR ⟨n,1⟩:=by
 refine(A9v (A:=n) (B:=1) (T:=U_ n) (D6r b h) dE ?_).symm;show n*val [1]=A0q (A0f n)*1;rw[A5m];simp[val]
theorem E0d {q r:Q} (H:q.ok=AF) (u:r.ok=AF) (E:0<r.n) (ad:(C0q q (D6g r)).ok=AF):A3u (toR q) (toR r)=toR (C0q q (D6g r)):=by
 have X:=A6l u;have V:=B2u u;obtain⟨T,W,ae,n1⟩:=Q.ok_iff.1 u;have aa:(D6g r).ok=AF:=Q.ok_iff.2 ⟨E,n1,by show -(10 ^ 200)<r.d;omega,W⟩;have Z:=V.den0;have h:0<R_ (toR r):=by
  have Y:0<R_ (toR r)*r.d:=by rw[X];exact GW E Z
  exact Int.pos_of_mul_pos_left Y T
 have G:(toR r).1.1=AH:=by
  cases b:(toR r).1.1 with
  |false=>rfl
  |true =>
   have:=S_ V.mag.1
   unfold R_ A0q at h
   rw[b]at h
   simp at h;omega
 have D:R_ (toR r)=val (toR r).1.2:=by unfold R_ A0q;rw[G];rfl
 have ac:(toR r).1.2.isEmpty=AH:=by
  cases b:(toR r).1.2 with
  |nil=>rw[D,b]at h;simp[val]at h
  |cons _ _=>rfl
 have ab:(⟨⟨(toR r).1.1,(toR r).2⟩,(toR r).1.2⟩:TRat)=toR (D6g r):=by
  have O:RatV ⟨⟨(toR r).1.1,(toR r).2⟩,(toR r).1.2⟩:=by
   refine⟨?_,V.mag,by rw[<-D];exact h,V.den24,V.num24,?_⟩;·rw[bigOkB_iff];refine⟨⟨by have:=V.den24;show(toR r).2.length<=60;omega,V.2⟩,λb=>?_⟩;rw[G]at b;cases b
   show CQ (val (toR r).2) (val (toR r).1.2)=1;rw[Int.gcd_comm];exact V.one
  refine(A9v O (show 0<(D6g r).d from E) ?_).symm;show r.d*val (toR r).1.2=(if (toR r).1.1 then -val (toR r).2 else val (toR r).2)*r.n;rw[G,<-D];show r.d*R_ (toR r)=T_ (toR r)*r.n;grind
 unfold A3u;rw[A8q H,A8q u,ac,ab];exact C3v H aa ad
theorem D4z {q:Q} (u:q.ok=AF):A9m (toR q)=sgn q.n:=by
 have D:=A6l u;have V:=B2u u;have E:=(Q.ok_iff.1 u).d0;have H:=V.den0;unfold A9m;rw[A8q u];show sgn (R_ (toR q))=sgn q.n;have G:0<T_ (toR q):=H;rcases Int.lt_trichotomy q.n 0 with b|b|b
 ·have:R_ (toR q)<0:=by
   rcases Int.lt_or_le (R_ (toR q)) 0 with h|h
   ·exact h
   have:=Int.mul_nonneg h (Int.le_of_lt E)
   have O:=GW (by omega:0 < -q.n) G
   have e:-q.n*T_ (toR q) = -(q.n*T_ (toR q)):=by rw[Int.neg_mul]
   omega
  unfold sgn;rw[if_pos this,if_pos b]
 ·have:R_ (toR q)=0:=by
   rw[b,Int.zero_mul]at D
   exact(Int.mul_eq_zero.1 D).resolve_right oS
  rw[this,b]
 ·have:0<R_ (toR q):=by
   have h:0<R_ (toR q)*q.d:=by rw[D];exact GW b G
   exact Int.pos_of_mul_pos_left h E
  rw[B5h this,B5h b]
theorem ix0 (a b c:Int) (w:AD):Sem.run prog (Instr.index 111 (BJ #[N RD a,N RD b,N RD c]) (N RD 0)) w=.ok (N RD a) w:=kR
theorem ix1 (a b c:Int) (w:AD):Sem.run prog (Instr.index 111 (BJ #[N RD a,N RD b,N RD c]) (N RD 1)) w=.ok (N RD b) w:=kR
theorem ix2 (a b c:Int) (w:AD):Sem.run prog (Instr.index 111 (BJ #[N RD a,N RD b,N RD c]) (N RD 2)) w=.ok (N RD c) w:=kR
def cnr (t:TTri):Nat->Int
 |0=>t.a
 |1=>t.b
 |_=>t.c
theorem ixn (t:TTri) {i:Nat} (h:i<3) (w:AD):Sem.run prog (Instr.index 111 (BJ #[N RD t.a,N RD t.b,N RD t.c]) (N RD i)) w=.ok (N RD (cnr t i)) w:=by
 obtain rfl|rfl|rfl:i=0\/i=1\/i=2:=oS;·exact ix0 _ _ _ w
 ·exact ix1 _ _ _ w
 exact ix2 _ _ _ w
theorem C7j {t:TTri} {w:AD} {g:Nat} (h:w.cell? ⟨g,0,I⟩=QZ (N RD t.a)/\w.cell? ⟨g,1,I⟩=QZ (N RD t.b)/\w.cell? ⟨g,2,I⟩=QZ (N RD t.c)) {i:Nat} (hi:i<3):w.cell? ⟨g,i,I⟩=QZ (N RD (cnr t i)):=by
 obtain rfl|rfl|rfl:i=0\/i=1\/i=2:=oS;·exact h.1
 ·exact h.2.1
 exact h.2.2
theorem C3u {t:TTri} (h:I64 t.a/\I64 t.b/\I64 t.c):∀ i,I64 (cnr t i)
 |0=>h.1
 |1=>h.2.1
 |_+2=>h.2.2
theorem F1e {i:Nat} (h:i<3):(((i:Int)+1).tmod 3=((i+1) % 3:Nat)/\((i:Int)+2).tmod 3=((i+2) % 3:Nat))/\(i+1) % 3<3/\(i+2) % 3<3:=by
 obtain rfl|rfl|rfl:i=0\/i=1\/i=2:=oS;all_goals exact⟨⟨rfl,rfl⟩,dE,dE⟩
theorem E1u {t:TTri} {w:AD} {g:Nat} {ty:CV} (h:w.1[g]?=QZ (BG #[N RD t.a,N RD t.b,N RD t.c] ty)) :
  (w.cell? ⟨g,0,I⟩=QZ (N RD t.a)/\w.cell? ⟨g,1,I⟩=QZ (N RD t.b)/\w.cell? ⟨g,2,I⟩=QZ (N RD t.c))/\g<w.1.size/\∀ {i:Nat} {a:Int},i<3->cnr t i=a->w.cell? ⟨g,i,I⟩=QZ (N RD a) :=
 have d:=⟨(B_ h (j:=0) rfl).1,(B_ h (j:=1) rfl).1,(B_ h (j:=2) rfl).1⟩
 ⟨d,E_ h,λhi e=>e ▸ C7j d hi⟩
theorem C5r (v:AU) (n:Nat) (xs ys:List Int) (a b c:Int) (w:AD) (aI:Plc w v n xs ys) (aJ:A6a xs) (aK:A6a ys) (Y:0<=a/\a<n) (Z:0<=b/\b<n) (ab:0<=c/\c<n) (aL:A5u xs ys a b c=0) (T:inB (min (at0 xs a) (at0 xs b)) (at0 xs c) (max (at0 xs a) (at0 xs b))=AH) :
  BL prog 139 #[v,N RD a,N RD b,N RD c] w (A0b w (J (A5t xs ys a b c))):=by
 have aV:=A_ aI;obtain⟨A,aY,aE,a3,aZ,aF,a4,a1,a8,a9,rfl,W,X⟩:=aI;have aU:=A_ (A3v _ n xs ys a b c (w.alloc (BG #[QX A n aY,QX (QZ ⟨aE,a3,I⟩) n aZ,QX (QZ ⟨aF,a4,I⟩) n a1] 105)) (aV.below (Below.box _)) aJ aK Y Z ab);have aD:=A_ aL;obtain⟨G,rfl⟩:=NP Y.1;obtain⟨H,rfl⟩:=NP Z.1;obtain⟨O,rfl⟩:=NP ab.1;obtain⟨_,_,ap,u,bj,aM,_,bc⟩:=DL W (by omega:G<n);cases u;obtain⟨_,_,aq,u,_,aN,_,bd⟩:=DL W (by omega:H<n);cases u;obtain⟨_,_,ar,u,_,aO,_,be⟩:=DL W (by omega:O<n);cases u;obtain⟨_,_,au,u,bl,aP,_,bf⟩:=DL X (by omega:G<n);cases u;obtain⟨_,_,aw,u,_,aQ,_,bg⟩:=DL X (by omega:H<n);cases u;obtain⟨_,_,ax,u,_,aR,_,bh⟩:=DL X (by omega:O<n);cases u;have ah:at0 xs G=ap:=by unfold at0;simp[JG,aM]
 have ai:at0 xs H=aq:=by unfold at0;simp[JG,aN]
 have aj:at0 xs O=ar:=by unfold at0;simp[JG,aO]
 have ay:at0 ys G=au:=by unfold at0;simp[JG,aP]
 have az:at0 ys H=aw:=by unfold at0;simp[JG,aQ]
 have aA:at0 ys O=ax:=by unfold at0;simp[JG,aR]
 rw[ah,ai,aj]at T;have aB:=A_ T;obtain⟨lx,ac⟩:∃ l,min ap aq=l:=⟨_,rfl⟩
 obtain⟨an,ad⟩:∃ l,max ap aq=l:=⟨_,rfl⟩
 obtain⟨aS,al⟩:∃ l,min au aw=l:=⟨_,rfl⟩
 obtain⟨aT,am⟩:∃ l,max au aw=l:=⟨_,rfl⟩
 rw[ac,ad]at aB T;have aC:=A_ (show(inB lx ar an&&inB aS ax aT)=A5t xs ys G H O by unfold A5t;rw[ah,ai,aj,ay,az,aA,aD.o,ac,ad,al,am];simp);have aW:=A_ ac;have aX:=A_ ad;have a6:=A_ al;have a7:=A_ am;obtain⟨ba,ak⟩:∃ b,inB aS ax aT=b:=⟨_,rfl⟩
 have a5:=A_ ak;rw[ak,T]at aC;have bo:(G:Int)<n:=Y.2;have bp:(H:Int)<n:=Z.2;have bq:(O:Int)<n:=ab.2;clear W X aM aN aO aP aQ aR aJ aK Y Z ab aL ak T ac ad al am ah ai aj ay az aA;go_enter func139,ntmps139;go_wp2_with fail;have C:=aU.o;rw[aD.o]at C;refine C.mono ?_;clear C;rintro _ ao ⟨rfl,aa⟩;obtain⟨bm,bn⟩:=F_ aa;have br:w.1.size<ao.1.size:=ltg aa;have bi:aE<ao.1.size:=by have:=aa.size;simp at this;omega
 have bk:aF<ao.1.size:=by have:=aa.size;simp at this;omega
 go_wp2_with fail;refine A0g ?_;iterate 15 refine C_ _ ?_
 refine A2b (N RD lx) ?_ ?_;·intro af ag ae E D;obtain⟨aG,aH⟩:=F_ E;simp at D;refine⟨gD,?_⟩;go_simp;(rw[<-aW.o];split<;>omega)
 iterate 10 refine C_ _ ?_
 refine A2b (N RD an) ?_ ?_;·intro af ag ae E D;obtain⟨aG,aH⟩:=F_ E;simp at D;refine⟨gD,?_⟩;go_simp;(rw[<-aX.o];split<;>omega)
 refine D_ (MP.eq (J AH)) ?_ ?_;·intro af ag ae E D;obtain⟨aG,aH⟩:=F_ E;simp at D;refine G_ ?_;exact A0i (by have C:=A0s ar lx an ae;rw[aB.o]at C;exact C)
 refine C_ _ ?_;iterate 28 apply A4m;case h =>intro af ag ae E D;simp at D;go_simp;first|done|(simp[FX];done)
 iterate 2 refine C_ _ ?_
 intro af ag wa E D (a2:Hid _);simp at D;go_simp;clear D a2;go_wp2;go_ret;rw[<-aC.o];exact⟨sI,Below.go⟩

theorem C8j (v:AU) (n:Nat) (xs ys:List Int) (a b c:Int) (w:AD) (aJ:Plc w v n xs ys) (aK:A6a xs) (aL:A6a ys) (ac:0<=a/\a<n) (ad:0<=b/\b<n) (af:0<=c/\c<n) (aM:A5u xs ys a b c=0) (X:inB (min (at0 xs a) (at0 xs b)) (at0 xs c) (max (at0 xs a) (at0 xs b))=AF) :
  BL prog 139 #[v,N RD a,N RD b,N RD c] w (A0b w (J (A5t xs ys a b c))):=by
 have aV:=A_ aJ;obtain⟨A,a2,aH,a6,a3,aI,a7,a4,a8,a9,rfl,aa,ab⟩:=aJ;have aU:=A_ (A3v _ n xs ys a b c (w.alloc (BG #[QX A n a2,QX (QZ ⟨aH,a6,I⟩) n a3,QX (QZ ⟨aI,a7,I⟩) n a4] 105)) (aV.below (Below.box _)) aK aL ac ad af);have aG:=A_ aM;obtain⟨G,rfl⟩:=NP ac.1;obtain⟨H,rfl⟩:=NP ad.1;obtain⟨O,rfl⟩:=NP af.1;obtain⟨_,_,aw,D,bi,aN,_,ba⟩:=DL aa (by omega:G<n);cases D;obtain⟨_,_,ax,D,_,aO,_,bc⟩:=DL aa (by omega:H<n);cases D;obtain⟨_,_,ay,D,_,aP,_,bd⟩:=DL aa (by omega:O<n);cases D;obtain⟨_,_,az,D,bk,aQ,_,be⟩:=DL ab (by omega:G<n);cases D;obtain⟨_,_,aA,D,_,aR,_,bf⟩:=DL ab (by omega:H<n);cases D;obtain⟨_,_,ak,D,_,aS,_,bg⟩:=DL ab (by omega:O<n);cases D;have al:at0 xs G=aw:=by unfold at0;simp[JG,aN]
 have am:at0 xs H=ax:=by unfold at0;simp[JG,aO]
 have an:at0 xs O=ay:=by unfold at0;simp[JG,aP]
 have aB:at0 ys G=az:=by unfold at0;simp[JG,aQ]
 have aC:at0 ys H=aA:=by unfold at0;simp[JG,aR]
 have aD:at0 ys O=ak:=by unfold at0;simp[JG,aS]
 rw[al,am,an]at X;have aE:=A_ X;obtain⟨lx,ag⟩:∃ l,min aw ax=l:=⟨_,rfl⟩
 obtain⟨ar,ah⟩:∃ l,max aw ax=l:=⟨_,rfl⟩
 obtain⟨ai,ap⟩:∃ l,min az aA=l:=⟨_,rfl⟩
 obtain⟨aj,aq⟩:∃ l,max az aA=l:=⟨_,rfl⟩
 rw[ag,ah]at aE X;have aF:=A_ (show(inB lx ay ar&&inB ai ak aj)=A5t xs ys G H O by unfold A5t;rw[al,am,an,aB,aC,aD,aG.o,ag,ah,ap,aq];simp);have aW:=A_ ag;have aY:=A_ ah;have aX:=A_ ap;have aZ:=A_ aq;obtain⟨a1,ao⟩:∃ b,inB ai ak aj=b:=⟨_,rfl⟩
 have aT:=A_ ao;rw[ao,X]at aF;have bn:(G:Int)<n:=ac.2;have bo:(H:Int)<n:=ad.2;have bp:(O:Int)<n:=af.2;clear aa ab aN aO aP aQ aR aS aK aL ac ad af aM ao X ag ah ap aq al am an aB aC aD;go_enter func139,ntmps139;go_wp2_with fail;have C:=aU.o;rw[aG.o]at C;refine C.mono ?_;clear C;rintro _ au ⟨rfl,ae⟩;obtain⟨bl,bm⟩:=F_ ae;have bq:w.1.size<au.1.size:=ltg ae;have bh:aH<au.1.size:=by have:=ae.size;simp at this;omega
 have bj:aI<au.1.size:=by have:=ae.size;simp at this;omega
 go_wp2_with fail;refine A0g ?_;iterate 15 refine C_ _ ?_
 refine A2b (N RD lx) ?_ ?_;·intro T W E u h;obtain⟨Y,Z⟩:=F_ u;simp at h;refine⟨gD,?_⟩;go_simp;(rw[<-aW.o];split<;>omega)
 iterate 10 refine C_ _ ?_
 refine A2b (N RD ar) ?_ ?_;·intro T W E u h;obtain⟨Y,Z⟩:=F_ u;simp at h;refine⟨gD,?_⟩;go_simp;(rw[<-aY.o];split<;>omega)
 refine D_ (MP.eq (J AF)) ?_ ?_;·intro T W E u h;obtain⟨Y,Z⟩:=F_ u;simp at h;refine G_ ?_;exact A0i (by have C:=A0s ay lx ar E;rw[aE.o]at C;exact C)
 refine C_ _ ?_;iterate 15 refine C_ _ ?_
 refine A2b (N RD ai) ?_ ?_;·intro T W E u h;obtain⟨Y,Z⟩:=F_ u;simp at h;refine⟨gD,?_⟩;go_simp;(rw[<-aX.o];split<;>omega)
 iterate 10 refine C_ _ ?_
 refine A2b (N RD aj) ?_ ?_;·intro T W E u h;obtain⟨Y,Z⟩:=F_ u;simp at h;refine⟨gD,?_⟩;go_simp;(rw[<-aZ.o];split<;>omega)
 refine D_ (MP.eq (J a1)) ?_ ?_;·intro T W E u h;obtain⟨Y,Z⟩:=F_ u;simp at h;refine G_ ?_;exact A0i (by have C:=A0s ak ai aj E;rw[aT.o]at C;exact C)
 iterate 2 refine C_ _ ?_
 intro T W wa u h (a5:Hid _);simp at h;go_simp;clear h a5;go_wp2;go_ret;rw[<-aF.o];exact⟨sI,Below.go⟩
theorem B2s (v:AU) (n:Nat) (xs ys:List Int) (a b c:Int) (w:AD) (G:Plc w v n xs ys) (H:A6a xs) (O:A6a ys) (u:0<=a/\a<n) (D:0<=b/\b<n) (E:0<=c/\c<n) :
  BL prog 139 #[v,N RD a,N RD b,N RD c] w (A0b w (J (A5t xs ys a b c))):=by
 by_cases h:A5u xs ys a b c=0
 ·cases W:inB (min (at0 xs a) (at0 xs b)) (at0 xs c) (max (at0 xs a) (at0 xs b))
  ·exact C5r v n xs ys a b c w G H O u D E h W
  exact C8j v n xs ys a b c w G H O u D E h W
 have Z:=A_ G;obtain⟨A,ac,aa,ah,ad,ab,ai,ae,aj,ak,rfl,af,ag⟩:=G;have X:=A_ (A3v _ n xs ys a b c (w.alloc (BG #[QX A n ac,QX (QZ ⟨aa,ah,I⟩) n ad,QX (QZ ⟨ab,ai,I⟩) n ae] 105)) (Z.below (Below.box _)) H O u D E);have Y:=A_ (by unfold A5t;rw[decide_eq_false h];rfl:AH=A5t xs ys a b c);obtain⟨r,T⟩:∃ r,A5u xs ys a b c=r:=⟨_,rfl⟩
 rw[T]at h;have R:=A_ T;have am:(r==0)=AH:=by simp[h]
 clear af ag H O u D E T;go_enter func139,ntmps139;go_wp2_with fail;have C:=X.o;rw[R.o]at C;refine C.mono ?_;clear C;rintro _ an ⟨rfl,al⟩;go_wp2;go_ret;rw[<-Y.o];exact⟨rfl,Below.go⟩
end Go.Proofs.YtjcanieccnljfaaGreat.X

namespace Go.XN
open Go.XB
structure LF where
 a:Int
 b:Int
 c:Int
 e:Int
 f:Int
 d:Int
 deriving DecidableEq
abbrev A2c:=Int×Int×Int×Int×Int
def A4z:LF:=⟨0,0,0,0,0,0⟩
def A4k:LF:=⟨0,0,0,0,0,1⟩
def LF.ok (l:LF):Bool:=Nat.ble 1 l.d.toNat&&Nat.ble (l.a.natAbs+(l.b.natAbs+(l.c.natAbs+(l.e.natAbs+(l.f.natAbs+l.d.natAbs))))) 100000000000000000000000000000000000000000000000000000000000000000000000000000000
def LF.at (l:LF) (s:A2c):Q:=⟨l.a*s.1+(l.b*s.2.1+(l.c*s.2.2.1+(l.e*s.2.2.2.1+l.f*s.2.2.2.2))),l.d⟩
structure SrcIn (s:A2c):Prop where
 a0:-60<=s.1
 a1:s.1<=60
 b0:-60<=s.2.1
 b1:s.2.1<=60
 c0:-60<=s.2.2.1
 c1:s.2.2.1<=60
 e0:-60<=s.2.2.2.1
 e1:s.2.2.2.1<=60
 f0:-60<=s.2.2.2.2
 f1:s.2.2.2.2<=60
def lfG (l:LF):Nat:=Nat.gcd (Nat.gcd l.a.natAbs l.b.natAbs) (Nat.gcd (Nat.gcd l.c.natAbs l.d.natAbs) (Nat.gcd l.e.natAbs l.f.natAbs))
def E9l (g:Nat) (l:LF):LF:=⟨l.a / g,l.b / g,l.c / g,l.e / g,l.f / g,l.d / g⟩
def D9v (l:LF):LF:=bif Nat.beq (lfG l) 1 then l else E9l (lfG l) l
def D1s (g:Bool) (l:LF):LF:=bif g&&l.ok then D9v l else A4z
def C8u (l m:LF):LF:=D1s (l.ok&&m.ok) ⟨l.a*m.d+m.a*l.d,l.b*m.d+m.b*l.d,l.c*m.d+m.c*l.d,l.e*m.d+m.e*l.d,l.f*m.d+m.f*l.d,l.d*m.d⟩
def E1z (l m:LF):LF:=D1s (l.ok&&m.ok) ⟨l.a*m.d - m.a*l.d,l.b*m.d - m.b*l.d,l.c*m.d - m.c*l.d,l.e*m.d - m.e*l.d,l.f*m.d - m.f*l.d,l.d*m.d⟩
def E8k (l:LF):LF:=D1s l.ok ⟨-l.a,-l.b,-l.c,-l.e,-l.f,l.d⟩
def qOf (k:TRat):Q:=⟨R_ k,T_ k⟩
def E0e (k:TRat):Bool:=J_ k&&(qOf k).ok
def A7p (k:TRat) (l:LF):LF:=D1s (E0e k&&l.ok) ⟨R_ k*l.a,R_ k*l.b,R_ k*l.c,R_ k*l.e,R_ k*l.f,T_ k*l.d⟩
def E6y (l:LF) (k:TRat):LF:=D1s ((E0e k&&BQ (0<R_ k))&&l.ok) ⟨T_ k*l.a,T_ k*l.b,T_ k*l.c,T_ k*l.e,T_ k*l.f,R_ k*l.d⟩
def LF.zero (l:LF):Bool:=l.ok&&(BQ (l.a=0)&&(BQ (l.b=0)&&(BQ (l.c=0)&&(BQ (l.e=0)&&BQ (l.f=0)))))
def leq (l m:LF):Bool:=(l.ok&&m.ok)&&(BQ (l.a*m.d=m.a*l.d)&&(BQ (l.b*m.d=m.b*l.d)&&(BQ (l.c*m.d=m.c*l.d)&&(BQ (l.e*m.d=m.e*l.d)&&BQ (l.f*m.d=m.f*l.d)))))
end Go.XN
namespace Go.Proofs.YtjcanieccnljfaaGreat.X
open Go.RowKit Go.XB Go.XN
theorem F0k:(100000000000000000000000000000000000000000000000000000000000000000000000000000000:Int)<10 ^ 190:=dK
theorem LF.ok_iff {l:LF} (h:l.ok=AF):0<l.d/\(-(10 ^ 190)<l.a/\l.a<10 ^ 190)/\(-(10 ^ 190)<l.b/\l.b<10 ^ 190)/\(-(10 ^ 190)<l.c/\l.c<10 ^ 190)/\(-(10 ^ 190)<l.e/\l.e<10 ^ 190)/\(-(10 ^ 190)<l.f/\l.f<10 ^ 190)/\(-(10 ^ 190)<l.d/\l.d<10 ^ 190):=by
 unfold LF.ok at h;rw[DJ]at h;have u:=Nat.le_of_ble_eq_true h.1;have D:=Nat.le_of_ble_eq_true h.2;have E:=F0k;generalize (10:Int) ^ 190=b at *;omega
theorem B0z {x s T:Int} (h:-T<x) (u:x<T) (D:-60<=s) (E:s<=60):-(60*T)<=x*s/\x*s<=60*T:=by
 have b:(x*s).natAbs<=(T*60).natAbs:=by rw[OL,OL];exact Nat.mul_le_mul oS oS
 rw[Int.mul_comm T 60]at b;omega
theorem E9g:301*(10:Int) ^ 190<10 ^ 200:=dK
theorem LF.at_ok {l:LF} {s:A2c} (h:l.ok=AF) (b:SrcIn s):(l.at s).ok=AF:=by
 obtain⟨Y,⟨a0,D⟩,⟨E,b1⟩,⟨G,H⟩,⟨O,T⟩,⟨W,X⟩,⟨ah,ai⟩⟩:=LF.ok_iff h;have aj:=E9g;have Z:=B0z a0 D b.a0 b.a1;have aa:=B0z E b1 b.b0 b.b1;have ab:=B0z G H b.c0 b.c1;have ac:=B0z O T b.e0 b.e1;have ad:=B0z W X b.f0 b.f1;refine Q.ok_iff.2 ⟨Y,?_,?_,?_⟩;·show l.d<10 ^ 200;clear Z aa ab ac ad;generalize (10:Int) ^ 200=S at *;generalize (10:Int) ^ 190=u at *;omega
 ·show -(10 ^ 200)<l.a*s.1+(l.b*s.2.1+(l.c*s.2.2.1+(l.e*s.2.2.2.1+l.f*s.2.2.2.2)))
  generalize l.a*s.1=ag at *;generalize l.b*s.2.1=v at *;generalize l.c*s.2.2.1=t at *;generalize l.e*s.2.2.2.1=ae at *;generalize l.f*s.2.2.2.2=af at *;generalize (10:Int) ^ 200=S at *;generalize (10:Int) ^ 190=u at *;omega
 show l.a*s.1+(l.b*s.2.1+(l.c*s.2.2.1+(l.e*s.2.2.2.1+l.f*s.2.2.2.2)))<10 ^ 200;generalize l.a*s.1=ag at *;generalize l.b*s.2.1=v at *;generalize l.c*s.2.2.1=t at *;generalize l.e*s.2.2.2.1=ae at *;generalize l.f*s.2.2.2.2=af at *;generalize (10:Int) ^ 200=S at *;generalize (10:Int) ^ 190=u at *;omega
theorem C3z {g:Nat} {a:Int} (h:g∣a.natAbs):a=(g:Int)*(a / g):=(Int.mul_ediv_cancel' (Int.ofNat_dvd_left.2 h)).symm
theorem E4s {l:LF} {s:A2c} (h:l.ok=AF) (b:(D9v l).ok=AF) (u:SrcIn s):toR ((D9v l).at s)=toR (l.at s):=by
 unfold D9v at b ⊢;cases ac:Nat.beq (lfG l) 1 with
 |true=>rfl
 |false =>
  rw[ac]at b
  simp only[cond_false]at b ⊢
  have W:lfG l∣l.a.natAbs:=Nat.dvd_trans (Nat.gcd_dvd_left _ _) (Nat.gcd_dvd_left _ _)
  have X:lfG l∣l.b.natAbs:=Nat.dvd_trans (Nat.gcd_dvd_left _ _) (NQ _ _)
  have Y:lfG l∣l.c.natAbs:=Nat.dvd_trans (NQ _ _) (Nat.dvd_trans (Nat.gcd_dvd_left _ _) (Nat.gcd_dvd_left _ _))
  have Z:lfG l∣l.d.natAbs:=Nat.dvd_trans (NQ _ _) (Nat.dvd_trans (Nat.gcd_dvd_left _ _) (NQ _ _))
  have aa:lfG l∣l.e.natAbs:=Nat.dvd_trans (NQ _ _) (Nat.dvd_trans (NQ _ _) (Nat.gcd_dvd_left _ _))
  have ab:lfG l∣l.f.natAbs:=Nat.dvd_trans (NQ _ _) (Nat.dvd_trans (NQ _ _) (NQ _ _))
  have D:=C3z W;have E:=C3z X;have G:=C3z Y;have H:=C3z Z;have O:=C3z aa;have T:=C3z ab
  refine B7t (LF.at_ok b u) (LF.at_ok h u) ?_
  unfold qeq LF.at E9l
  refine decide_eq_true ?_
  show(l.a / (lfG l:Int)*s.1+(l.b / (lfG l:Int)*s.2.1+(l.c / (lfG l:Int)*s.2.2.1+(l.e / (lfG l:Int)*s.2.2.2.1+l.f / (lfG l:Int)*s.2.2.2.2))))*l.d=(l.a*s.1+(l.b*s.2.1+(l.c*s.2.2.1+(l.e*s.2.2.2.1+l.f*s.2.2.2.2))))*(l.d / (lfG l:Int))
  generalize l.a / (lfG l:Int)=ad at *
  generalize l.b / (lfG l:Int)=ae at *
  generalize l.c / (lfG l:Int)=af at *
  generalize l.e / (lfG l:Int)=ah at *
  generalize l.f / (lfG l:Int)=ai at *
  generalize l.d / (lfG l:Int)=ag at *
  rw[D,E,G,H,O,T]
  grind
def Rep (s:A2c) (l:LF) (r:TRat):Prop:=l.ok=AF->r=toR (l.at s)
theorem Rep.bad {s:A2c} {r:TRat}:Rep s A4z r:=λh=>by cases h
theorem Rep.mk {s:A2c} {l:LF} {r:TRat} {g:Bool} (D:SrcIn s) (h:g=AF->l.ok=AF->r=toR (l.at s)):Rep s (D1s g l) r:=by
 unfold D1s;cases b:g&&l.ok with
 |false=>exact Rep.bad
 |true =>
  rw[DJ]at b
  intro u
  exact(h b.1 b.2).trans (E4s b.2 u D).symm
theorem Rep.val {s:A2c} {l:LF} {r:TRat} (h:Rep s l r) (hs:SrcIn s) (hk:l.ok=AF):J_ r=AF:=by rw[h hk];exact A8q (LF.at_ok hk hs)
theorem Rep.add {s:A2c} {l m:LF} {r q:TRat} (h:SrcIn s) (D:Rep s l r) (E:Rep s m q):Rep s (C8u l m) (A0k r q):=by
 refine Rep.mk h λb G=>?_;rw[DJ]at b;have e:LF.at ⟨l.a*m.d+m.a*l.d,l.b*m.d+m.b*l.d,l.c*m.d+m.c*l.d,l.e*m.d+m.e*l.d,l.f*m.d+m.f*l.d,l.d*m.d⟩ s=E0z (l.at s) (m.at s):=by unfold LF.at E0z;congr 1;grind
 have u:=LF.at_ok G h;rw[e]at u ⊢;rw[D b.1,E b.2];exact D9b (LF.at_ok b.1 h) (LF.at_ok b.2 h) u
theorem Rep.sub {s:A2c} {l m:LF} {r q:TRat} (h:SrcIn s) (D:Rep s l r) (E:Rep s m q):Rep s (E1z l m) (A3t r q):=by
 refine Rep.mk h λb G=>?_;rw[DJ]at b;have e:LF.at ⟨l.a*m.d - m.a*l.d,l.b*m.d - m.b*l.d,l.c*m.d - m.c*l.d,l.e*m.d - m.e*l.d,l.f*m.d - m.f*l.d,l.d*m.d⟩ s=E3c (l.at s) (m.at s):=by unfold LF.at E3c;congr 1;grind
 have u:=LF.at_ok G h;rw[e]at u ⊢;rw[D b.1,E b.2];exact E7d (LF.at_ok b.1 h) (LF.at_ok b.2 h) u
theorem Rep.neg {s:A2c} {l:LF} {r:TRat} (h:SrcIn s) (u:Rep s l r):Rep s (E8k l) (C3m r):=by
 refine Rep.mk h λb D=>?_;have e:LF.at ⟨-l.a,-l.b,-l.c,-l.e,-l.f,l.d⟩ s=E6c (l.at s):=by unfold LF.at E6c;congr 1;grind
 rw[e,u b];exact E6e (LF.at_ok b h)
theorem C4c {k:TRat} (h:J_ k=AF):toR (qOf k)=k:=by
 have V:=ratOkB_iff.1 h;exact A9v V V.den0 rfl
theorem C0u {k:TRat}:E0e k=AF↔J_ k=AF/\(qOf k).ok=AF:=by unfold E0e;simp
theorem Rep.scale {s:A2c} {k:TRat} {l:LF} {r:TRat} (h:SrcIn s) (D:Rep s l r):Rep s (A7p k l) (A0d k r):=by
 refine Rep.mk h λb E=>?_;rw[DJ,C0u]at b;have e:LF.at ⟨R_ k*l.a,R_ k*l.b,R_ k*l.c,R_ k*l.e,R_ k*l.f,T_ k*l.d⟩ s=C0q (qOf k) (l.at s):=by unfold LF.at C0q qOf;congr 1;grind
 have u:=LF.at_ok E h;rw[e]at u ⊢;rw[D b.2];conv=>lhs;rw[<-C4c b.1.1]
 exact C3v b.1.2 (LF.at_ok b.2 h) u
theorem Rep.scale' {s:A2c} {k:TRat} {l:LF} {r:TRat} (h:SrcIn s) (D:Rep s l r):Rep s (A7p k l) (A0d r k):=by
 refine Rep.mk h λb E=>?_;rw[DJ,C0u]at b;have e:LF.at ⟨R_ k*l.a,R_ k*l.b,R_ k*l.c,R_ k*l.e,R_ k*l.f,T_ k*l.d⟩ s=C0q (l.at s) (qOf k):=by unfold LF.at C0q qOf;congr 1<;>grind
 have u:=LF.at_ok E h;rw[e]at u ⊢;rw[D b.2];conv=>lhs;rw[<-C4c b.1.1]
 exact C3v (LF.at_ok b.2 h) b.1.2 u
theorem Rep.div {s:A2c} {k:TRat} {l:LF} {r:TRat} (h:SrcIn s) (D:Rep s l r):Rep s (E6y l k) (A3u r k):=by
 refine Rep.mk h λb E=>?_;rw[DJ,DJ,C0u,decide_eq_true_eq]at b;have e:LF.at ⟨T_ k*l.a,T_ k*l.b,T_ k*l.c,T_ k*l.e,T_ k*l.f,R_ k*l.d⟩ s=C0q (l.at s) (D6g (qOf k)):=by unfold LF.at C0q D6g qOf;congr 1<;>grind
 have u:=LF.at_ok E h;rw[e]at u ⊢;rw[D b.2];conv=>lhs;rw[<-C4c b.1.1.1]
 exact E0d (LF.at_ok b.2 h) b.1.1.2 b.1.2 u
theorem Rep.zero {s:A2c}:Rep s A4k (U_ 0):=λ_=>by
 rw[B9z (n:=0) dE dE]
 show toR ⟨0,1⟩=toR ⟨0*s.1+(0*s.2.1+(0*s.2.2.1+(0*s.2.2.2.1+0*s.2.2.2.2))),1⟩
 simp
theorem Rep.is_zero {s:A2c} {l:LF} {r:TRat} (u:SrcIn s) (h:Rep s l r) (b:l.zero=AF):J_ r=AF/\A9m r=0:=by
 unfold LF.zero at b;simp only[DJ,decide_eq_true_eq]at b;refine⟨h.val u b.1,?_⟩;rw[h b.1,D4z (LF.at_ok b.1 u)];unfold LF.at;rw[b.2.1,b.2.2.1,b.2.2.2.1,b.2.2.2.2.1,b.2.2.2.2.2];simp[sgn]
theorem Rep.eq {s:A2c} {l m:LF} {r q:TRat} (h:SrcIn s) (u:Rep s l r) (D:Rep s m q) (b:leq l m=AF):r=q:=by
 unfold leq at b;simp only[DJ,decide_eq_true_eq]at b;obtain⟨⟨k1,k2⟩,E,G,H,O,T⟩:=b;rw[u k1,D k2];refine B7t (LF.at_ok k1 h) (LF.at_ok k2 h) (decide_eq_true ?_);unfold LF.at;show(l.a*s.1+(l.b*s.2.1+(l.c*s.2.2.1+(l.e*s.2.2.2.1+l.f*s.2.2.2.2))))*m.d=(m.a*s.1+(m.b*s.2.1+(m.c*s.2.2.1+(m.e*s.2.2.2.1+m.f*s.2.2.2.2))))*l.d;grind
end Go.Proofs.YtjcanieccnljfaaGreat.X

namespace Go
section
variable {P:FQ}
theorem B0y {w:AD} {G:Array CZ} {o:CZ} {a:Act} {K:Act->AD->Prop} {Q:Exit->Act->AD->Prop} {H:Prop} (ac:o.guard=I) (s x:Operand) (t:CV)
  (af:o.op=.call { callee:=.builtin .append,args:=#[s,x],argTypes:=#[t,t] })
  (base:Nat) (e:CV) (i:TypeInfo) (z:AU) (size E:Nat) (al:P.underlying t=QZ (.slice e)) (hi:P.info? e=QZ i) (ao:i.zero=QZ z)
  (aj:i.size=size) (aa:i.bytes=E) (ap:z.cells.size=size) (ak:0<size)
  (g n cap:Nat) (xs:List AU) (ai:a.eval s=QX (QZ ⟨g,0,I⟩) n cap) (ag:w.ownsRow base e size (QX (QZ ⟨g,0,I⟩) n cap) n xs)
  (D:AJ) (m c:Nat) (b:List AU) (an:a.eval x=QX (QZ D) m c) (ad:b.length=m*size) (ae:∀ j u,b[j]?=QZ u->w.cell? (D.add j)=QZ u) (O:∀ u∈b,u.oneCell'=AF)
  (Y:n+m<=BS) (ab:(n+m)*E<=140737488355328) (Z:base<=w.1.size)
  (h:∀ g' cap' w',w'.ownsRow base e size (QX (QZ ⟨g',0,I⟩) (n+m) cap') (n+m) (xs++b)->w.grownBy w' (QZ g)->(g'=g\/g'=w.1.size)->K (a.put o.dst (QX (QZ ⟨g',0,I⟩) (n+m) cap')) w') :
  if JB o (IU G a.tmps)=AF then CZ.wp P o a w K Q else H:=by
 have am:JB o (IU G a.tmps)=AF:=by simp[JB,ac]
 rw[if_pos am];obtain⟨g',cap',w',ah,T,W,X⟩:=D4h (P:=P) w base t o.type e i z size E al hi ao aj aa ap ak g n cap xs ag D m c b ad ae O Y ab Z;unfold CZ.wp execOp;simp only[af,resolve,invoke,builtin,Sem.run_bind,Sem.run_pure,Result.andThen_ok,List.map_toArray,List.map_cons,List.map_nil,ai,an,ah];exact h g' cap' w' T W X
end
end Go

namespace Go.XB
open Go.RowKit Go.Proofs.YtjcanieccnljfaaGreat.X
theorem _root_.iO {p:Prop} (h:p:=by intro e;injection e with e;omega):p:=h
theorem C1x {w w1 w2:AD} {r:Option Nat} {x:Nat} (h:w.grownBy w1 r) (h2:w1.grownBy w2 (QZ x)) (hx:w.1.size<=x):w.grownBy w2 r :=
 ⟨h2.os.trans h.os,h2.tape.trans h.tape,h2.output.trans h.output,CJ h.size h2.size,λk hk hne=>(h2.block k (Nat.lt_of_lt_of_le hk h.size) iO).trans (h.block k hk hne)⟩
theorem Sl.grown {α:Type} [Dat α] {w w':AD} {A:Option AJ} {n c g:Nat} {xs:List α} {bs:List Nat} (h:Sl w A n c xs bs) (hg:w.grownBy w' (QZ g)) (hn:g∉bs):Sl w' A n c xs bs :=
 h.keep λb hb=>hg.block b (h.lt b hb) (by intro e;injection e with e;exact hn (e ▸ hb))
section
variable {α:Type} [Dat α]
def PC (w:AD) (e:CV) (wr:AD) (gB i cap:Nat) (ps:List α) (zs:List Nat):Prop :=
 ∃ cells fss,wr.ownsRow w.1.size e (Dat.sz α) (QX (QZ ⟨gB,0,I⟩) i cap) i cells/\Filled wr cells ps fss/\ps.length=i/\zs=fss.flatten/\gB∉zs/\∀ b∈zs,w.1.size<=b
variable {w wr wa:AD} {e:CV} {gB i cap:Nat} {ps:List α} {zs:List Nat}
theorem PC.start {w2:AD} (h:w.1.size<=w2.1.size):PC (α:=α) w e (w2.alloc (BG #[] e)) w2.1.size 0 0 [] [] :=
 ⟨[],[],World.ownsRow_made w2 #[] 0 h (Nat.zero_le _) sI,Filled.nil _ _,rfl,rfl,sI,sI⟩
theorem PC.lt (h:PC w e wr gB i cap ps zs):w.1.size<=gB/\gB<wr.1.size:=by obtain⟨_,_,h1,_⟩:=h;exact World.ownsRow.lt h1 _ rfl
theorem PC.zlt (h:PC w e wr gB i cap ps zs):∀ b∈zs,w.1.size<=b/\b<wr.1.size:=by
 obtain⟨cells,fss,G,D,H,rfl,O,E⟩:=h;exact λb u=>⟨E b u,D.lt b u⟩
theorem PC.keep (h:PC w e wr gB i cap ps zs) {x:Nat} (E:wr.grownBy wa (QZ x)) (X:x≠gB) (W:x∉zs):PC w e wa gB i cap ps zs:=by
 obtain⟨cells,fss,G,u,H,rfl,O,T⟩:=h;refine⟨cells,fss,G.kept E ?_,u.keep (λb D=>E.block b (u.lt b D) (by intro e;injection e with e;exact W (e ▸ D))),H,rfl,O,T⟩;show QZ gB=I\/QZ gB≠QZ x;exact .inr oR
theorem PC.keepG (h:PC w e wr gB i cap ps zs) {g:Nat} (hk:wr.grownBy wa (QZ g)) (hg:g<w.1.size):PC w e wa gB i cap ps zs :=
 h.keep hk (by have:=h.lt;omega) (λhz=>by have:=(h.zlt g hz).1;omega)
theorem PC.below (h:PC w e wr gB i cap ps zs) (b:Bw wr wa):PC w e wa gB i cap ps zs:=by
 obtain⟨cells,fss,u,D,E,G,H,O⟩:=h;exact⟨cells,fss,I_ u b,D.below b,E,G,H,O⟩
theorem PC.sl (h:PC w e wr gB i cap ps zs):∃ bs,Sl wr (QZ ⟨gB,0,I⟩) i cap ps bs/\∀ b∈bs,w.1.size<=b:=by
 obtain⟨cells,fss,D,E,G,rfl,Z,H⟩:=h;obtain⟨A,c,bs,X,W,T⟩:=E.sl (α:=α) D G;cases X;refine⟨bs,W,λb u=>?_⟩;rcases T with⟨_,rfl⟩|⟨g',Y,rfl,O,_⟩;·simp at u
 rcases List.mem_cons.1 u with rfl|u;·exact O
 exact H b u
end
end Go.XB
namespace Go
open Go.RowKit Go.XB Go.Proofs.YtjcanieccnljfaaGreat.X
theorem C9k {P:FQ} {α:Type} [Dat α] {w wr:AD} {gB k cap:Nat} {ps:List α} {zs:List Nat} {ae:Array CZ} {rest:List CZ} {o:CZ} {a:Act} {Q:Exit->Act->AD->Prop} (ak:o.guard=I) (s x:Operand) (t:CV)
  (am:o.op=.call { callee:=.builtin .append,args:=#[s,x],argTypes:=#[t,t] })
  (e:CV) (i:TypeInfo) (z:AU) (O:Nat) (aq:P.underlying t=QZ (.slice e)) (hi:P.info? e=QZ i) (aw:i.zero=QZ z)
  (ap:i.size=Dat.sz α) (ai:i.bytes=O) (ax:z.cells.size=Dat.sz α) (ab:PC w e wr gB k cap ps zs) (ar:w.1.size<=wr.1.size) (ao:a.eval s=QX (QZ ⟨gB,0,I⟩) k cap)
  (H:AJ) (c:Nat) (cs:List AU) (pt:α) (zb:List Nat) (au:a.eval x=QX (QZ H) 1 c) (al:∀ j u,cs[j]?=QZ u->wr.cell? (H.add j)=QZ u)
  (G:Dat.at_ wr cs pt zb) (Y:∀ b∈zb,w.1.size<=b/\b≠gB) (ah:k+1<=BS) (aj:(k+1)*O<=140737488355328)
  (h:∀ g' cap' w8,PC w e w8 g' (k+1) cap' (ps++[pt]) (zs++zb)->wr.grownBy w8 (QZ gB)->(g'=gB\/g'=wr.1.size)->wpList P ae Q rest (a.put o.dst (QX (QZ ⟨g',0,I⟩) (k+1) cap')) w8):wpList P ae Q (o::rest) a wr:=by
 have ad:=ab.zlt;obtain⟨cells,fss,T,af,Z,rfl,aa,ag⟩:=ab;have ay:=World.ownsRow.lt T _ rfl;refine A1m ak s x t am w.1.size e i z (Dat.sz α) O aq hi aw ap ai ax Dat.pos gB k cap cells ao T H 1 c cs au (by rw[Nat.one_mul];exact Dat.len G) al (Dat.one G) ah aj ar ?_;intro g' cap' w8 an W X;refine h g' cap' w8 ?_ W X;have ac:∀ b∈zb,b<wr.1.size:=Dat.lt G;have k1:∀ b∈fss.flatten,w8.1[b]?=wr.1[b]?:=λb E=>W.block b (ad b E).2 (by intro e;injection e with e;exact aa (e ▸ E));have k2:∀ b∈zb,w8.1[b]?=wr.1[b]?:=λb E=>W.block b (ac b E) (by intro e;injection e with e;exact(Y b E).2 e);refine⟨_,fss++[zb],an,Filled.push (af.keep k1) (by rw[T.1,Z]) (Dat.keep G k2),by simp[Z],sI,?_,?_⟩
 ·intro D
  rcases DV.1 D with D|D
  ·rcases X with rfl|rfl
   ·exact aa D
   have:=(ad _ D).2;omega
  rcases X with rfl|rfl;·exact(Y _ D).2 rfl
  have:=ac _ D;omega
 intro b D;rcases DV.1 D with D|D
 ·exact ag b D
 exact(Y b D).1
end Go

namespace Go.Proofs.YtjcanieccnljfaaGreat.X
open Go.RowKit Go.XB Go.XN Proofs.Tryz
attribute [local go_sem] L_ opAt N_ M_ Region.wanted yielded
attribute [local simp] N_ M_ MP.eq MP.agg MP.sl A0r
theorem D2d (v1 v2:AU) (x y:TBigInt) (b1 b2:List Nat) (w:AD) (X:Agg w v1 x b1) (Y:Agg w v2 y b2) (E:A2j x=AF) (G:A2j y=AF) (af:y.mag≠[]) :
  BL prog 147 #[v1,v2] w (A0c w (mkR (C8r (x.neg != y.neg) x.mag) (val y.mag))):=by
 have al:=A_ X;have am:=A_ Y;obtain⟨Z,n1,ac,aU,rfl,rfl,W⟩:=TBigInt.agg X;obtain⟨aa,n2,ad,aV,rfl,rfl,D⟩:=TBigInt.agg Y;have au:=A_ W;have aw:=A_ D;have aq:=A_ E;have ar:=A_ G;have ag:=A_ (bigOkB_iff.1 E).1;have ah:=A_ (bigOkB_iff.1 G).1;have ao:=A_ (by rw[<-W.1];have:=(bigOkB_iff.1 E).1.1;omega:n1<=65536);have ap:=A_ (by rw[<-D.1];have:=(bigOkB_iff.1 G).1.1;omega:n2<=65536);have an:=A_ (by rw[<-D.1];exact List.length_pos_iff.2 af:0<n2);clear W D X Y E G af;go_enter func147,ntmps147;go_wp2_with fail;have C:=B7b _ x _ (((w.alloc (BG #[J x.neg,QX Z n1 ac] 37)).alloc (BG #[J y.neg,QX aa n2 ad] 37)).alloc (BG #[J AH,QX I 0 0,QX I 0 0] 39)) (al.below Below.go);rw[aq.o]at C;refine C.mono ?_;clear C;rintro _ H ⟨rfl,h⟩;obtain⟨aF,aI⟩:=F_ h;have aL:w.1.size<H.1.size:=ltg h;have aO:w.1.size+1<H.1.size:=ltg h;have aR:w.1.size+1+1<H.1.size:=ltg h;go_wp2_with fail;have C:=B7b _ y _ H (am.below Below.go);rw[ar.o]at C;refine C.mono ?_;clear C;rintro _ O ⟨rfl,u⟩;obtain⟨aG,aJ⟩:=F_ u;have aM:w.1.size<O.1.size:=ltg u;have aP:w.1.size+1<O.1.size:=ltg u;have aS:w.1.size+1+1<O.1.size:=ltg u;go_wp2_with fail;refine(D5l (x.neg != y.neg) Z aa n1 n2 ac ad x.mag y.mag _ _ O (au.below Below.go) (aw.below Below.go) ag.2 ah.2 an ao ap).mono ?_;rintro _ wb ⟨aX,aW,rfl,T,ae,b⟩;obtain⟨ai,aB,ay,aD,aj,aC,az,aE,rfl,aA,_,_⟩:=CF T;have ak:=A_ T;have ab:=A_ ae;clear T ae aA;obtain⟨aH,aK⟩:=F_ b;have aN:w.1.size<wb.1.size:=ltg b;have aQ:w.1.size+1<wb.1.size:=ltg b;have aT:w.1.size+1+1<wb.1.size:=ltg b;go_wp2;refine CK (v:=BJ #[J (mkR (C8r (x.neg != y.neg) x.mag) (val y.mag)).1.1,QX ai aB ay,QX aj aC az]) (by simp[CO,results147,go_sem, *]) rfl ?_;refine A1s (lo:=w.1.size+3) ak ab.free (λax b=>by have:=(ab.2 ax b).1;(try simp at this);omega) oS ?_ ?_;·exact Above.go
 exact Below.go

theorem C9y {a d:Int} (u:0<=a) (D:0<d):C8r ((A0f a).neg != (A0f d).neg) (A0f a).mag=a/\val (A0f d).mag=d:=by
 have b:(A0f a).neg=AH:=by unfold A0f;simp;omega
 have h:(A0f d).neg=AH:=by unfold A0f;simp;omega
 rw[b,h];refine⟨?_,?_⟩;·show val (dig a.natAbs)=a;rw[A1j];omega
 show val (dig d.natAbs)=d;rw[A1j];omega
theorem B3j (a d:Int) (u:0<=a) (b:a<=1000) (G:0<d) (al:d<=1000) (w:AD):BL prog 83 #[N RD a,N RD d] w (A0c w (mkR a d)):=by
 have V:=A_ (C9y u G);have ag:=A_ (D1g a ⟨oS,oS⟩);have ah:=A_ (D1g d ⟨oS,oS⟩);have af:=A_ (by intro e;have:=(C9y u G).2;rw[e]at this;simp[val]at this;omega:(A0f d).mag≠[]);have ad:=A_ (show I64 a from⟨oS,oS⟩);have ae:=A_ (show I64 d from⟨oS,oS⟩);clear u b G al;go_enter func83,ntmps83;go_wp2_with fail;refine(B2n a _ ad).mono ?_;rintro _ aw ⟨v1,ar,rfl,O,am,T⟩;have ab:=A_ O;clear O am;obtain⟨az,aC⟩:=F_ T;have aF:w.1.size<aw.1.size:=ltg T;go_wp2_with fail;refine(B2n d _ ae).mono ?_;rintro _ X ⟨v2,au,rfl,b,an,E⟩;have ac:=A_ b;clear b an;obtain⟨aA,aD⟩:=F_ E;have aG:w.1.size<X.1.size:=ltg E;go_wp2_with fail;have C:=D2d v1 v2 (A0f a) (A0f d) ar au X (ab.below E) ac ag ah af;rw[V.o.1,V.o.2]at C;refine(C).mono ?_;rintro _ wb ⟨aJ,aI,rfl,D,W,h⟩;obtain⟨Y,ap,aj,ax,Z,aq,ak,ay,rfl,ao,_,_⟩:=CF D;have aa:=A_ D;have H:=A_ W;clear D W ao;obtain⟨aB,aE⟩:=F_ h;have aH:w.1.size<wb.1.size:=ltg h;go_wp2;refine CK (v:=BJ #[J (mkR a d).1.1,QX Y ap aj,QX Z aq ak]) (by simp[CO,results83,go_sem, *]) rfl ?_;refine A1s (lo:=w.1.size+1) aa H.free (λai h=>by have:=(H.2 ai h).1;(try simp at this);omega) oS ?_ ?_;·exact Above.go
 exact Below.go
end Go.Proofs.YtjcanieccnljfaaGreat.X
