/- A part of the proof. -/
import Derived.Test.YtjcanieccnljfaaGreatY12
import Derived.Test.YtjcanieccnljfaaGreatY4
set_option linter.constructorNameAsVariable false
set_option maxHeartbeats 16000000
set_option maxRecDepth 10000
open Bool renaming false→AH,true→AF
open Go renaming Addr→AJ,Calls→BL,Value→AU,World→AD,bodyPost_ret→CK,cell_one_new→JR,heap_alloc_new→DB,maxLen→BS,results→CO
open Go.IntKind renaming i64→K
open Go.Obj renaming cells→BG
open Go.RowKit.Below renaming refl→DI,trans→JK
open Go.Value renaming agg→BJ,bool→RT,int→RH,ownBlock→JD,slice→QX
open Go.World renaming ownsRow_made→JP,size_alloc→FU
open Go.World.ownsRow renaming lt→FG
open Go.XB.Below renaming box→BP,next→BH
open Go.XB.MP renaming agg→CH
open Go.XB.TPoint renaming agg→EW,elemA→GD
open Go.XB.TRat renaming agg→CF,mkAgg→FK
open List renaming drop_succ_cons→GU,drop_zero→FF,getD_eq_getElem?_getD→EH,getElem?_eq_getElem→DU,getElem?_eq_some_iff→DM,getElem?_take→JM,map_append→OE,mem_append→DV,mem_of_getElem?→DH,take_of_length_le→DT,take_succ_cons→GT,take_zero→FM
open Nat renaming le_refl→CE,le_trans→CJ,lt_or_ge→CG,zero_le→EO
open Option renaming none→I,some→B
namespace Go.XB
open Go.RowKit
theorem Sl.first {α:Type} [Dat α] {w:AD} {A:Option AJ} {n c:Nat} {xs:List α} {bs:List Nat} (h:Sl w A n c xs bs) {k:Nat} (ag:k<=n):∃ bs',Sl w A k c (xs.take k) bs':=by
 obtain⟨ac,ad,H,ae,T⟩:=h;rcases Nat.eq_zero_or_pos k with G|G;·subst G;exact⟨[],sI,EO _,H,λ_=>rfl,λh=>absurd h oS⟩
 obtain⟨D,ab,E,W,af,aa,X,Y⟩:=T oS;refine⟨D::(E.take k).flatten,oR,oS,H,λh=>absurd h oS,λ_=>⟨D,ab,E.take k,W,rfl,by simp[aa],X,λj x O b u=>?_⟩⟩;rw[JM]at b u;split at b;·rename_i Z;rw[if_pos Z]at u;exact Y j x O b u
 cases b
theorem E8q {α:Type} {p:α->Bool} {xs:List α} {k:Nat} {x:α} (h:xs.all p=AF) (hx:xs[k]?=B x):p x=AF:=List.all_eq_true.1 h x (DH hx)
theorem E1i {α:Type} [DecidableEq α] {xs:List α} {k:Nat} {x:α} (h:xs.Nodup) (O:xs[k]?=B x):(xs.take k).any (λy=>decide (x=y))=AH:=by
 rw[List.any_eq_false];intro y T;obtain⟨j,b⟩:=List.mem_iff_getElem?.1 T;rw[JM]at b;split at b;·rename_i H;have E:=DM.1 O;have G:=DM.1 b;obtain⟨l1,u⟩:=E;obtain⟨l2,D⟩:=G;have:=List.pairwise_iff_getElem.1 h j k l2 l1 H;rw[u,D]at this;simp;exact λe=>this e.symm
 cases b
end Go.XB
namespace Go.Proofs.YtjcanieccnljfaaGreat.X
open Go.RowKit Go.XB Go.XN Proofs.Tryz
attribute [local go_sem] L_ opAt N_ M_ Region.wanted yielded
attribute [local simp] N_ M_ MP.eq MP.agg MP.sl A0r
theorem D6u (f:Nat) (ah:A4f f) (O:AU) (A:Option AJ) (n c:Nat) (xs:List TPoint) (bs:List Nat) (w:AD) (p:TPoint->Bool) (u:Sl w A n c xs bs)
  (Z:∀ (v:AU) (x:TPoint) (b:List Nat) (w':AD),Bw w w'->x∈xs->Agg w' v x b->BL prog f #[v,O] w' (A0b w' (RT (p x)))) :
  BL prog 191 #[QX A n c,.func (.func f) #[] #[O]] w (B9x w (xs.any p)):=by
 have ad:=A_ u.1;have af:=A_ u;have ae:=A_ Z;unfold A4f at ah;have ak:n<=BS:=CJ u.2.1 u.2.2.1;unfold BS at ak;clear u Z;go_enter func191,ntmps191;go_wp2_with fail;go_loopg [8] n (λg s8 wr=>∃ k:Nat,k+g=n/\s8=RH K k/\Hid ((xs.take k).any p=AH)/\Bw w wr);case atStart=>exact⟨0,oS,rfl,by show(xs.take 0).any p=AH;simp,DI _ _⟩
 case round =>
  obtain⟨k,Y,rfl,T,D⟩:=hrel;have ac:=A_ D;rcases CG k n with h|h
  ·obtain⟨ap,aH,x,al,m1,aq,aI,am,m2,ar,aJ,an,aF,au,aK,ao,aG,aw,aL,rfl,aD,aa,ax,ay,az,aA,aB,aC,W⟩:=GD (Sl.below af D) h
   have G:=A_ aa;have ab:=A_ W;have aj:(k:Int)<n:=oS;obtain⟨g,rfl⟩:∃ g,gk=g+1:=⟨gk - 1,oS⟩
   have ai:=A_ (by omega:k+1+g=n);have aE:k+1<=n:=h;clear aa Y h W;go_wp2_with fail;refine(ae _ x _ wr ac (DH G) ab).mono ?_;rintro _ aM ⟨rfl,ag⟩;have X:=BH D ag;cases E:p x
   ·have H:=A_ (B6c G T E)
    clear E;go_wp2_with fail;go_roundg g;case measure=>omega
    case rel=>exact⟨k+1,ai,gN,H,X⟩
   have H:=A_ (D1e G E);clear E;go_wp2;go_ret;exact⟨k,rfl,by rw[H.o];simp,X⟩
  have e:=A_ (show xs.any p=AH by have:=T.o;rwa [DT (by rw[ad.o];omega)]at this);have aj:¬ ((k:Int)<n):=oS;clear Y h;go_wp2;go_ret;exact⟨-1,rfl,by rw[e.o];rfl,D⟩

theorem C8o (f:Nat) (u:A4f f) (h:AU) (A:Option AJ) (n c:Nat) (xs:List TPoint) (bs:List Nat) (w:AD) (p:TPoint->Bool) (E:Sl w A n c xs bs)
  (D:∀ (v:AU) (x:TPoint) (b:List Nat) (w':AD),Bw w w'->x∈xs->Agg w' v x b->BL prog f #[v,h] w' (A0b w' (RT (p x)))) :
  BL prog 134 #[QX A n c,.func (.func f) #[] #[h]] w (A0b w (RT (xs.any p))):=by
 have T:=A_ E;have O:=A_ D;have H:=A_ u;clear E D u;go_enter func134,ntmps134;go_wp2_with fail;refine(D6u f H h A n c xs bs _ p T O).mono ?_;rintro _ X ⟨r,rfl,e,W⟩;have G:=A_ e;clear e;go_wp2;go_ret;exact⟨Q_ G,W⟩

theorem B1t:A4f 135:=λa w=>kR
theorem C1m (v:AU) (x:TPoint) (b:List Nat) (g:Nat) (u0 u1 u2 D u4 E:AU) (y:TPoint) (T:List Nat) (w:AD) (u:Agg w v x b) (h:w.1[g]?=B (BG #[u0,u1,u2,D,u4,E] 41)) (G:Agg w (BJ #[u0,u1,u2,D,u4,E]) y T) :
  BL prog 135 #[v,.pointer (B ⟨g,0,I⟩)] w (A0b w (RT (decide (y=x)))):=by
 have H:=A_ u;have O:=A_ G;obtain⟨aa,ap,aj,aw,ab,aq,ak,ax,ac,ar,al,ay,ad,au,am,az,rfl,rfl,W,X,Y,Z⟩:=EW u;have ae:=(B_ h (j:=0) (v:=u0) rfl).1;have af:=(B_ h (j:=1) (v:=u1) rfl).1;have ag:=(B_ h (j:=2) (v:=u2) rfl).1;have c3:=(B_ h (j:=3) (v:=D) rfl).1;have ah:=(B_ h (j:=4) (v:=u4) rfl).1;have ai:=(B_ h (j:=5) (v:=E) rfl).1;have ao:g<w.1.size:=E_ h;clear W X Y Z u G h;go_enter func135,ntmps135;go_wp2_with fail;refine(B1e _ _ y x _ _ _ (O.below Below.go) (H.below Below.go)).mono ?_;rintro _ aA ⟨rfl,an⟩;go_wp2;go_ret;exact⟨rfl,Below.go⟩

theorem C4p (A:Option AJ) (n c:Nat) (xs:List TPoint) (bs:List Nat) (w:AD) (H:Sl w A n c xs bs) (ah:xs.all A1b=AF) (ak:xs.Nodup) (aS:3<=n) (aT:n<=40) :
  BL prog 64 #[QX A n c] w (A0b w (RT AF)):=by
 have ab:=A_ H;have aq:=A_ ah;have ar:=A_ ak;have aZ:n<=c:=H.2.1;have ax:=B1t;unfold A4f at ax;have aw:=A_ (by unfold inB;simp;omega:inB 3 n 40=AF);clear H ah ak;go_enter func64,ntmps64;go_wp2_with fail;go_loopg [7] n (λg s wr=>∃ k:Nat,k+g=n/\s=RH K k/\Bw w wr);case atStart=>exact⟨0,oS,rfl,DI _ _⟩
 case round =>
  obtain⟨k,aj,rfl,u⟩:=hrel;rcases CG k n with h|h
  ·obtain⟨aB,aG,x,T,am,ac,aJ,W,an,ad,aL,X,ao,ae,aO,Y,ap,af,aQ,aC,aU,O,aI,aK,aM,aN,aP,aR,ag⟩:=GD (ab.below u) h
   subst aC;obtain⟨ps,al⟩:=(ab.o.below u).first (Nat.le_of_lt h)
   have au:=A_ al;have ay:=A_ (E1i ar O);have az:=A_ (E8q aq O);have Z:=A_ ag;have aX:(k:Int)<n:=oS;have aY:(0:Int)<=k:=oS;have aW:(k:Int)<=c:=oS;obtain⟨g,rfl⟩:∃ g,gk=g+1:=⟨gk - 1,oS⟩
   have aF:=A_ (by omega:k+1+g=n);have aV:(k:Int)<=40:=oS;have E:=A_ u;clear O aj h ag al;go_wp2_with fail;have C:=B2j _ x _ (wr.alloc (BG #[RT x.x.1.1,QX T am ac,QX W an ad,RT x.y.1.1,QX X ao ae,QX Y ap af] 41)) (Z.below (BP _));rw[az.o]at C;refine C.mono ?_;clear C;rintro _ D ⟨rfl,b⟩;have aH:=A_ b;have G:=A_ (show Bw wr D from JK (BP _) (b.mono sI));have aa:=A_ (show D.1[wr.1.size]?=B (BG #[RT x.x.1.1,QX T am ac,QX W an ad,RT x.y.1.1,QX X ao ae,QX Y ap af] 41)from(b.block _ sI).trans (DB wr _));clear b;go_wp2_with fail;have C:=C8o 135 B1t (.pointer (B ⟨wr.1.size,0,I⟩)) (B ⟨aB,aG,I⟩) k c _ ps D (λy=>decide (x=y)) (au.below G) (λv y aA w' ai _ aD=>C1m v y aA wr.1.size _ _ _ _ _ _ x _ w' aD ((ai.block _ (E_ aa)).trans aa) ((Z.below G).below ai));rw[ay.o]at C;refine C.mono ?_;clear C;rintro _ a1 ⟨rfl,aE⟩;go_wp2_with fail;go_roundg g;case measure=>omega
   case rel=>exact⟨k+1,aF,gN,BH (BH E G) aE⟩
  obtain rfl:k=n:=oS;have E:=A_ u;clear aj h;go_wp2_with fail;have C:=A0s k 3 40 wr;rw[aw.o]at C;refine C.mono ?_;clear C;rintro _ D ⟨rfl,b⟩;go_wp2;go_ret;exact⟨rfl,BH E b⟩
end Go.Proofs.YtjcanieccnljfaaGreat.X

namespace Go.XN
open Go.XB
def A1k (p q:TPoint):TRat:=A0k (A0d p.x q.x) (A0d p.y q.y)
def A6c (a b c:TPoint):TRat:=A0d (mkR 1 2) (A2y a b c)
def A5x (a b c:TPoint):TPoint:=A0v (mkR 1 3) (A3y (A3y a b) c)
def ptI (x y:Int):TPoint:=⟨U_ x,U_ y⟩
end Go.XN
namespace Go.Proofs.YtjcanieccnljfaaGreat.X
open Go.RowKit Go.XB Go.XN Proofs.Tryz
attribute [local go_sem] L_ opAt N_ M_ Region.wanted yielded
attribute [local simp] N_ M_ MP.eq MP.agg MP.sl A0r
theorem E4i {w0 w1 w2:AD} {x:TPoint} {u0 u1 u2 u3 u4 u5:AU} {b1 b2:List Nat} (h1:Agg w1 (BJ #[u0,u1,u2]) x.x b1) (o1:Own w0 w1 b1) (h12:Bw w1 w2) (h2:Agg w2 (BJ #[u3,u4,u5]) x.y b2) (o2:Own w1 w2 b2) (hw2:w0.1.size<=w1.1.size) :
  Agg w2 (BJ #[u0,u1,u2,u3,u4,u5]) x (b1++b2)/\Free w2 (b1++b2)/\∀ b∈b1++b2,w0.1.size<=b :=
 ⟨B4l (h1.below h12) h2,Free.join (o1.free.below h12) o2.free (λb hb hb2=>by have:=o1.lt b hb;have:=(o2.2 b hb2).1;omega),λb hb=>by
  rcases DV.1 hb with h|h
  ·exact(o1.2 b h).1
  have:=(o2.2 b h).1;omega⟩

theorem B9v (x y:Int) (w:AD) (H:I64 x) (O:I64 y):BL prog 209 #[RH K x,RH K y] w (A0c w (ptI x y)):=by
 have ab:=A_ H;have ac:=A_ O;clear H O;go_enter func209,ntmps209;go_wp2_with fail;refine(A0l x _ ab).mono ?_;rintro _ ap ⟨v1,aE,rfl,b,E,u⟩;obtain⟨T,al,ae,ar,W,am,af,au,rfl,aj,_,_⟩:=CF b;have Z:=A_ b;have aa:=A_ E;clear b E aj;obtain⟨ay,aA⟩:=F_ u;have aC:w.1.size<ap.1.size:=ltg u;go_wp2_with fail;refine(A0l y _ ac).mono ?_;rintro _ aq ⟨v2,aF,rfl,h,G,D⟩;obtain⟨X,an,ag,aw,Y,ao,ah,ax,rfl,ak,_,_⟩:=CF h;have J:=A_ (E4i (x:=ptI x y) Z aa D h G (by have:=u.size;exact this));clear h G ak;obtain⟨az,aB⟩:=F_ D;have aD:w.1.size<aq.1.size:=ltg D;go_wp2;refine CK (v:=BJ #[RT (U_ x).1.1,QX T al ae,QX W am af,RT (U_ y).1.1,QX X an ag,QX Y ao ah]) (by simp[CO,results209,go_sem, *]) rfl ?_;refine A1s (lo:=w.1.size+1) J.1 J.2.1 (λad ai=>by have:=J.2.2 ad ai;(try simp at this);omega) oS ?_ ?_;·exact Above.go
 exact Below.go

theorem B3o (x y:Int) (w:AD) (H:I64 x) (O:I64 y):BL prog 79 #[RH K x,RH K y] w (A0c w (ptI x y)):=by
 have ab:=A_ H;have ac:=A_ O;clear H O;go_enter func79,ntmps79;go_wp2_with fail;refine(B0d x _ ab).mono ?_;rintro _ ap ⟨v1,aE,rfl,b,E,u⟩;obtain⟨T,al,ae,ar,W,am,af,au,rfl,aj,_,_⟩:=CF b;have Z:=A_ b;have aa:=A_ E;clear b E aj;obtain⟨ay,aA⟩:=F_ u;have aC:w.1.size<ap.1.size:=ltg u;go_wp2_with fail;refine(B0d y _ ac).mono ?_;rintro _ aq ⟨v2,aF,rfl,h,G,D⟩;obtain⟨X,an,ag,aw,Y,ao,ah,ax,rfl,ak,_,_⟩:=CF h;have J:=A_ (E4i (x:=ptI x y) Z aa D h G (by have:=u.size;exact this));clear h G ak;obtain⟨az,aB⟩:=F_ D;have aD:w.1.size<aq.1.size:=ltg D;go_wp2;refine CK (v:=BJ #[RT (U_ x).1.1,QX T al ae,QX W am af,RT (U_ y).1.1,QX X an ag,QX Y ao ah]) (by simp[CO,results79,go_sem, *]) rfl ?_;refine A1s (lo:=w.1.size+1) J.1 J.2.1 (λad ai=>by have:=J.2.2 ad ai;(try simp at this);omega) oS ?_ ?_;·exact Above.go
 exact Below.go

theorem A8z (v1 v2:AU) (p q:TPoint) (b1 b2:List Nat) (w:AD) (E:Agg w v1 p b1) (G:Agg w v2 q b2) :
  BL prog 164 #[v1,v2] w (A0c w (A1k p q)):=by
 have an:=A_ E;have ao:=A_ G;obtain⟨aB,a4,aL,bd,aC,a5,aM,be,aD,a6,aN,bf,aE,a7,aO,bg,rfl,rfl,W,X,Y,Z⟩:=EW E;obtain⟨aF,a8,aP,bi,aG,a9,aQ,bj,aH,ba,aR,bk,aI,bc,aS,bl,rfl,rfl,aa,ab,ac,ad⟩:=EW G;have P1:=A_ (FK (x:=p.x) W X);have P2:=A_ (FK (x:=p.y) Y Z);have Q1:=A_ (FK (x:=q.x) aa ab);have Q2:=A_ (FK (x:=q.y) ac ad);clear W X Y Z aa ab ac ad E G an ao;go_enter func164,ntmps164;go_wp2_with fail;refine W_ 10 kR kR kR kR kR ?_;simp only[GT,FM,GU,FF];iterate 4 refine C_ _ ?_
 refine D_ (CH (A0d p.x q.x)) ?_ ?_;·intro ag ah H b h;obtain⟨au,ax⟩:=F_ b;simp at h;refine G_ ?_;exact H_ (A0n _ _ p.x q.x _ _ H (P1.below Below.go) (Q1.below Below.go))
 iterate 4 refine C_ _ ?_
 refine D_ (CH (A0d p.y q.y)) ?_ ?_;·intro ag ah H b h;obtain⟨au,ax⟩:=F_ b;simp at h;refine G_ ?_;exact H_ (A0n _ _ p.y q.y _ _ H (P2.below Below.go) (Q2.below Below.go))
 intro ag ah wa b h (aw:Hid _);simp at h;have ae:=h.2.2.2.2.1;have af:=h.2.2.2.2.2.2.2.2.2;have ak:=A_ ae.1.1;have al:=A_ af.1.1;clear h aw ae af;obtain⟨aT,aV⟩:=F_ b;have aX:w.1.size<wa.1.size:=ltg b;have aZ:w.1.size+1<wa.1.size:=ltg b;have a2:w.1.size+1+1<wa.1.size:=ltg b;go_wp2_with fail;refine(A0x _ _ (A0d p.x q.x) (A0d p.y q.y) _ _ wa ak al).mono ?_;rintro _ wb ⟨bm,bh,rfl,D,T,u⟩;obtain⟨ai,az,aq,aJ,aj,aA,ar,aK,rfl,ay,_,_⟩:=CF D;have am:=A_ D;have O:=A_ T;clear D T ay;obtain⟨aU,aW⟩:=F_ u;have aY:w.1.size<wb.1.size:=ltg u;have a1:w.1.size+1<wb.1.size:=ltg u;have a3:w.1.size+1+1<wb.1.size:=ltg u;go_wp2;refine CK (v:=BJ #[RT (A0k (A0d p.x q.x) (A0d p.y q.y)).1.1,QX ai az aq,QX aj aA ar]) (by simp[CO,results164,go_sem, *]) rfl ?_;refine A1s (lo:=w.1.size+3) am O.free (λap u=>by have:=(O.2 ap u).1;(try simp at this);omega) oS ?_ ?_;·exact Above.go
 exact Below.go

theorem B3h (A:Option AJ) (c:Nat) (h b1 u:TPoint) (bs:List Nat) (w:AD) (ad:Sl w A 3 c [h,b1,u] bs) :
  BL prog 125 #[QX A 3 c] w (A0c w (A6c h b1 u)):=by
 have G:=A_ ad;obtain⟨a9,bO,a8,P1,bB,be,p1,P2,bD,bf,p2,a2,bE,bg,bR,a3,bF,bh,bS,aQ,bq,ae,au,aw,ax,ay,az,aA,Z⟩:=GD G (by decide:0<3);obtain⟨ba,bP,b2,Q1,bG,bi,q1,Q2,bH,bj,q2,a4,bI,bk,W,a5,bJ,bl,bT,H,aR,af,aB,aC,aD,aE,aF,aG,aa⟩:=GD G (by decide:1<3);obtain⟨bc,bQ,bd,R1,bK,bm,bU,R2,bL,bn,bV,a6,bM,bo,bW,a7,bN,bp,bX,O,aS,ag,aH,aI,aJ,aK,aL,aM,ab⟩:=GD G (by decide:2<3);subst aQ;injection H with H;injection H with h1 h2 _;subst h1;subst h2;injection O with O;injection O with h1 h2 _;subst h1;subst h2;simp at ae af ag;subst ae;subst af;subst ag;simp at au aw ax ay az aA aB aC aD aE aF aG aH aI aJ aK aL aM;have ao:=A_ Z;have aq:=A_ aa;have ar:=A_ ab;clear aR aS Z aa ab ad;go_enter func125,ntmps125;go_wp2_with fail;refine W_ 11 kR kR kR kR kR ?_;simp only[GT,FM,GU,FF];refine D_ (CH (mkR 1 2)) ?_ ?_;·intro ai aj X D b;obtain⟨aT,aV⟩:=F_ D;simp at b;refine G_ ?_;exact H_ (C9n X)
 iterate 9 refine C_ _ ?_
 refine D_ (CH (A2y h b1 u)) ?_ ?_;·intro ai aj X D b;obtain⟨aT,aV⟩:=F_ D;simp at b;refine G_ ?_;exact H_ (A7l _ _ _ h b1 u _ _ _ X (ao.below Below.go) (aq.below Below.go) (ar.below Below.go))
 intro ai aj wa D b (aU:Hid _);simp at b;have W:=b.1;have ah:=b.2.2.2.2.2.2.2.2.2.2;have am:=A_ W.1.1;have an:=A_ ah.1.1;clear b aU W ah;obtain⟨br,bu⟩:=F_ D;have bz:w.1.size<wa.1.size:=ltg D;go_wp2_with fail;refine(A0n _ _ (mkR 1 2) (A2y h b1 u) _ _ wa am an).mono ?_;rintro _ wb ⟨bZ,bY,rfl,T,ac,E⟩;obtain⟨ak,aX,aO,aZ,al,aY,aP,a1,rfl,aW,_,_⟩:=CF T;have ap:=A_ T;have Y:=A_ ac;clear T ac aW;obtain⟨bt,bv⟩:=F_ E;have bA:w.1.size<wb.1.size:=ltg E;go_wp2;refine CK (v:=BJ #[RT (A0d (mkR 1 2) (A2y h b1 u)).1.1,QX ak aX aO,QX al aY aP]) (by simp[CO,results125,go_sem, *]) rfl ?_;refine A1s (lo:=w.1.size+1) ap Y.free (λaN E=>by have:=(Y.2 aN E).1;(try simp at this);omega) oS ?_ ?_;·exact Above.go
 exact Below.go
theorem D0w {xs:List Int} (h:A6a xs) (k:Int):-100<=at0 xs k/\at0 xs k<=100:=by
 unfold at0;by_cases b:k.toNat<xs.length;·rw[EH,DU b];exact h _ (List.getElem_mem b)
 rw[EH,List.getElem?_eq_none oS];decide
theorem D3n {xs:List Int} {k:Nat} (b:k<xs.length):xs.take (k+1)=xs.take k++[at0 xs k]:=by
 rw[List.take_add_one];unfold at0;simp[List.getD,DU b]
theorem B1a {w w':AD} {b:Nat} {o:Obj} (h:w.1[b]?=B o) (hb:Bw w w'):w'.1[b]?=B o:=(hb.block b (E_ h)).trans h
theorem D7h (w:AD) (g o:Nat) (v:AU):w.grownBy (w.setCell ⟨g,o,I⟩ v) (B g) :=
 ⟨rfl,rfl,rfl,sI,λk _ hne=>Below.heap_setCell w ⟨g,o,I⟩ v k (λe=>hne (by rw[e]))⟩
theorem A3r {w:AD} {base g n cap:Nat} {e:TypeId} {xs:List AU} {b o:Nat} {v:AU} (h:w.ownsRow base e 1 (QX (B ⟨g,0,I⟩) n cap) n xs) (hb:b<base):(w.setCell ⟨b,o,I⟩ v).ownsRow base e 1 (QX (B ⟨g,0,I⟩) n cap) n xs :=
 h.kept (D7h w b o v) (.inr (by have h1:base<=g:=(FG h _ rfl).1;simp[JD];omega))
theorem D7c {a b n c:Nat} (h:a≠b):(QX (B ⟨b,0,I⟩) n c).ownBlock≠B a:=by simp[JD];exact λe=>h e.symm
theorem D9i (x:Int):∀ u∈([RH K x]:List AU),u.oneCell'=AF:=by intro u hu;simp at hu;subst hu;rfl
def E2z (w:AD) (n:Nat) (xs ys:List Int) (e:Ending) (w':AD):Prop:=∃ v,e=.returned v/\Plc w' v n xs ys/\Bw w w'
def D124 (s:Int):Prop:=s=1\/s=2\/s=4
def E2d (s d:Int):Int:=s / Int.gcd s d*d
def E9f:TPoint:=⟨⟨⟨AH,[]⟩,[]⟩,⟨⟨AH,[]⟩,[]⟩⟩
def C3g (ps:List TPoint):Nat->Int
 |0=>1
 |k+1=>E2d (E2d (C3g ps k) (T_ (ps.getD k E9f).x)) (T_ (ps.getD k E9f).y)
structure CoS (r:TRat) (a S:Int):Prop where
 sm:A2a r=AF
 li:Lims r.1.2
 ne:NegOk r.1
 dn:D124 (T_ r)
 nu:-1000<=R_ r/\R_ r<=1000
 eq:a=R_ r*(S / T_ r)
def E5p (ps:List TPoint) (xs ys:List Int):Prop:=ps.length=xs.length/\ps.length=ys.length/\∀ (k:Nat) (p:TPoint),ps[k]?=B p->CoS p.x (at0 xs k) (C3g ps ps.length)/\CoS p.y (at0 ys k) (C3g ps ps.length)
theorem D1f {s d:Int} (h:D124 s) (b:D124 d):D124 (E2d s d):=by
 unfold D124;rcases h with rfl|rfl|rfl<;>rcases b with rfl|rfl|rfl<;>decide
theorem D5f {s d:Int} (h:D124 s) (b:D124 d):∃ g q,((Int.gcd s d:Nat):Int)=g/\¬ g=0/\K.wrap (s.tdiv g)=q/\K.wrap (q*d)=E2d s d:=by
 rcases h with rfl|rfl|rfl<;>rcases b with rfl|rfl|rfl<;>exact⟨_,_,rfl,dE,rfl,dE⟩
theorem D4e {S d n a:Int} (G:D124 S) (H:D124 d) (O:-1000<=n/\n<=1000) (e:a=n*(S / d)):∃ q,¬ d=0/\K.wrap (S.tdiv d)=q/\K.wrap (n*q)=a:=by
 have b:∃ q:Int,¬ d=0/\K.wrap (S.tdiv d)=q/\S / d=q/\(q=0\/q=1\/q=2\/q=4):=by rcases G with rfl|rfl|rfl<;>rcases H with rfl|rfl|rfl<;>exact⟨_,dE,rfl,dE,dE⟩
 obtain⟨q,h,u,D,E⟩:=b;refine⟨q,h,u,?_⟩;rw[e,D,IntWalk.i64_in];rcases E with rfl|rfl|rfl|rfl<;>omega
theorem D124.small {s:Int} (h:D124 s):0<=s/\s<=4:=by rcases h with rfl|rfl|rfl<;>decide
theorem E7s {ps:List TPoint} (h:∀ (k:Nat) (p:TPoint),ps[k]?=B p->D124 (T_ p.x)/\D124 (T_ p.y)):∀ k,k<=ps.length->D124 (C3g ps k)
 |0,_=>.inl rfl
 |k+1,hk=>by
  have h1:ps[k]?=B (ps[k]'oS):=DU oS
  have h2:=h k _ h1
  rw[C3g,EH,h1]
  exact D1f (D1f (E7s h k oS) h2.1) h2.2
theorem D4p (A:Option AJ) (n c:Nat) (ps:List TPoint) (bs:List Nat) (xs ys:List Int) (w:AD) (O:Sl w A n c ps bs) (aK:E5p ps xs ys) (ca:A6a xs) (cb:A6a ys) (dq:n<=40) (dr:0<n) :
  BL prog 66 #[QX A n c] w (E2z w n xs ys):=by
 have bO:=A_ O;have bL:=A_ aK;have bM:=A_ ca;have bN:=A_ cb;have bJ:=A_ (show xs.length=n from aK.1.symm.trans O.1);have bK:=A_ (show ys.length=n from aK.2.1.symm.trans O.1);have bI:=A_ (show ∀ k,k<=n->D124 (C3g ps k)from λk a2=>E7s (λj p aS=>⟨(aK.2.2 j p aS).1.dn,(aK.2.2 j p aS).2.dn⟩) k (by rw[O.1];exact a2));have co:=A_ O.1;have cp:=A_ (show(1:Int)=C3g ps 0 from rfl);obtain⟨ch,b0,cd,ce,cg⟩:=info_parts E5x;clear O aK ca cb;go_enter func66,ntmps66;go_wp2_with fail;go_loopg [4,23] n (λg s4 s wr=>∃ (k:Nat) (sh:Int),k+g=n/\s4=RH K sh/\s=RH K k/\Hid (sh=C3g ps k)/\Bw w wr/\Hid (wr.1[w.1.size]?=B (BG #[QX I 0 0,QX I 0 0,QX I 0 0] 105))/\Hid (wr.1[w.1.size+1]?=B (BG #[QX A n c,QX I 0 0,QX I 0 0] 105)));case atStart =>
  refine⟨0,1,oS,rfl,rfl,cp.o,Below.go,?_,?_⟩;·exact(Below.heap_alloc _ _ _ sI).trans (DB w _)
  have:=DB (w.alloc (BG #[QX I 0 0,QX I 0 0,QX I 0 0] 105)) (BG #[QX A n c,QX I 0 0,QX I 0 0] 105);rw[FU]at this;exact this
 case round =>
  obtain⟨k,ab,a2,rfl,rfl,aL,W,aa,G⟩:=hrel;have aA:=A_ W;rcases CG k n with a3|a3
  ·rename AD=>a9
   have cW:(k:Int)<n:=oS;have dm:(k:Int)<=40:=oS;obtain⟨g,rfl⟩:∃ g,gk=g+1:=⟨gk - 1,oS⟩
   have cV:=A_ (by omega:k+1+g=n);obtain⟨cA,c4,x,ad,au,ai,cE,ae,aw,aj,cF,af,ax,ak,cH,ag,ay,al,cJ,bk,cN,aM,cD,ao,a1,cG,cI,cK,aR⟩:=GD (bO.below W) a3;subst bk;obtain⟨p1,p2,_,aT,aU⟩:=E9v aR;have aX:=A_ aT;have aY:=A_ aU;obtain⟨b,h⟩:=bL.2.2 k x aM;obtain⟨az,a5⟩:∃ s,E2d ab (T_ x.x)=s:=⟨_,rfl⟩
   obtain⟨aV,a6⟩:∃ s,E2d az (T_ x.y)=s:=⟨_,rfl⟩
   have aZ:D124 ab:=by rw[aL.o];exact bI.o k oS
   have ao:D124 az:=by rw[<-a5];exact D1f aZ b.dn
   have a1:D124 aV:=by rw[<-a6];exact D1f ao h.dn
   have cw:=A_ (by rw[C3g,EH,aM,<-a6,<-a5,aL.o];rfl:aV=C3g ps (k+1));obtain⟨dd,q1,ba,de,ds,hm1⟩:=D5f aZ b.dn;obtain⟨df,q2,bc,dg,dt,hm2⟩:=D5f ao h.dn;rw[a5]at hm1;rw[a6]at hm2;have bf:0<=ab/\ab<=9223372036854775807:=by have:=aZ.small;omega
   have bg:0<=az/\az<=9223372036854775807:=by have:=ao.small;omega
   have u1:az<=268435456:=by have:=ao.small;omega
   have u2:aV<=268435456:=by have:=a1.small;omega
   obtain⟨aD,aq⟩:∃ d,T_ x.x=d:=⟨_,rfl⟩
   obtain⟨aE,ar⟩:∃ d,T_ x.y=d:=⟨_,rfl⟩
   obtain⟨bv,aI⟩:∃ d,R_ x.x=d:=⟨_,rfl⟩
   obtain⟨bz,aJ⟩:∃ d,R_ x.y=d:=⟨_,rfl⟩
   rw[aq]at ba hm1;rw[ar]at bc hm2;have bh:0<=aD/\aD<=9223372036854775807:=by have:=b.dn.small;omega
   have bi:0<=aE/\aE<=9223372036854775807:=by have:=h.dn.small;omega
   have Y:=A_ (And.intro bf (And.intro bg (And.intro bh bi)));have cj:=A_ ba;have ck:=A_ bc;have D:=A_ (show A2a x.x=AF/\Lims x.x.1.2/\NegOk x.x.1/\R_ x.x=bv/\T_ x.x=aD from⟨b.sm,b.li,b.ne,aI,aq⟩);have E:=A_ (show A2a x.y=AF/\Lims x.y.1.2/\NegOk x.y.1/\R_ x.y=bz/\T_ x.y=aE from⟨h.sm,h.li,h.ne,aJ,ar⟩);clear a2 a3 aM aR aT aU W b h a5 a6 aZ ao a1 aq ar aI aJ bf bg bh bi ba bc aL;go_wp2_with fail;go_loopg [4,33] 2 (λg s4 s wr2=>∃ (i:Nat) (v:Int),i+g=2/\s4=RH K v/\s=RH K i/\Hid ((i=0/\v=ab)\/(i=1/\v=az)\/(i=2/\v=aV))/\Below ((a9.alloc (BG #[RT x.x.1.1,QX ad au ai,QX ae aw aj,RT x.y.1.1,QX af ax ak,QX ag ay al] 41)).alloc (BG #[RT x.x.1.1,QX ad au ai,QX ae aw aj,RT x.y.1.1,QX af ax ak,QX ag ay al] 39)).1.size ((a9.alloc (BG #[RT x.x.1.1,QX ad au ai,QX ae aw aj,RT x.y.1.1,QX af ax ak,QX ag ay al] 41)).alloc (BG #[RT x.x.1.1,QX ad au ai,QX ae aw aj,RT x.y.1.1,QX af ax ak,QX ag ay al] 39)) wr2);case atStart=>exact⟨0,ab,rfl,rfl,rfl,.inl ⟨rfl,rfl⟩,DI _ _⟩
   case round =>
    obtain⟨i,bA,br,rfl,rfl,cc,ap⟩:=hrel;have ah:=A_ (show Bw a9 wr from JK ((BP _).alloc sI _) (ap.mono oR));obtain⟨dj,dk⟩:=F_ ap;have du:a9.1.size+1<wr.1.size:=by have:=ap.size;simp at this;omega
    obtain⟨rfl,rfl⟩|⟨rfl,rfl⟩|⟨rfl,rfl⟩:=cc.o;all_goals clear cc
    ·obtain rfl:gk=1+1:=oS
     clear br;go_wp2_with fail;have C:=A1g _ x.x _ (wr.alloc (BG #[RT x.x.1.1,QX ad au ai,QX ae aw aj] 39)) ((aX.below ah).below (BP _));rw[D.o.1]at C;refine C.mono ?_;clear C;rintro _ ac ⟨rfl,X⟩;obtain⟨bo,bp⟩:=F_ X;have Z:=A_ (show Bw wr ac from JK (BP _) (X.mono sI));go_wp2_with fail;have C:=A3c _ x.x _ ac ((aX.below ah).below Z) D.1 D.2.1 D.2.2.1;rw[D.o.2.2.2.1,D.o.2.2.2.2]at C;refine C.mono ?_;clear C;rintro _ a7 ⟨rfl,aF⟩;have aN:=A_ (BH Z aF);go_wp2_with fail;have C:=B2z bA aD a7 Y.1.1 Y.2.2.1.1 Y.1.2 Y.2.2.1.2;rw[cj.o]at C;refine C.mono ?_;clear C;rintro _ w3 ⟨rfl,bm⟩;have aO:=A_ (BH aN bm);go_wp2_with fail;go_roundg 1;case measure=>omega
     case rel=>exact⟨0+1,az,rfl,gN,gN,.inr (.inl ⟨rfl,rfl⟩),ap.trans (aO.mono ap.size)⟩
    ·obtain rfl:gk=0+1:=oS
     clear br;go_wp2_with fail;have C:=A1g _ x.y _ (wr.alloc (BG #[RT x.y.1.1,QX af ax ak,QX ag ay al] 39)) ((aY.below ah).below (BP _));rw[E.o.1]at C;refine C.mono ?_;clear C;rintro _ ac ⟨rfl,X⟩;obtain⟨bo,bp⟩:=F_ X;have Z:=A_ (show Bw wr ac from JK (BP _) (X.mono sI));go_wp2_with fail;have C:=A3c _ x.y _ ac ((aY.below ah).below Z) E.1 E.2.1 E.2.2.1;rw[E.o.2.2.2.1,E.o.2.2.2.2]at C;refine C.mono ?_;clear C;rintro _ a7 ⟨rfl,aF⟩;have aN:=A_ (BH Z aF);go_wp2_with fail;have C:=B2z bA aE a7 Y.2.1.1 Y.2.2.2.1 Y.2.1.2 Y.2.2.2.2;rw[ck.o]at C;refine C.mono ?_;clear C;rintro _ w3 ⟨rfl,bm⟩;have aO:=A_ (BH aN bm);go_wp2_with fail;go_roundg 0;case measure=>omega
     case rel=>exact⟨1+1,aV,rfl,gN,gN,.inr (.inr ⟨rfl,rfl⟩),ap.trans (aO.mono ap.size)⟩
    clear br;go_wp2_with fail;go_roundg g;case measure=>omega
    case rel=>exact⟨k+1,bA,cV,rfl,gN,cw,BH aA ah,B1a aa ah,B1a G ah⟩
  obtain rfl:k=n:=oS;have cW:¬ ((k:Int)<k):=oS;have bH:=A_ (by rw[aL.o];exact bI k (CE _):D124 ab);have ci:=A_ (by rw[co.o,aL.o]:C3g ps ps.length=ab);clear a2 a3 W aL;go_wp2_with fail;have R0:=A_ (show((wr.alloc (BG #[] 3)).alloc (BG #[] 3)).ownsRow (w.1.size+2) 3 1 (QX (B ⟨wr.1.size,0,I⟩) 0 0) 0 []from I_ (JP wr #[] 0 (by have:=E_ G;omega) (EO _) rfl) (BP _));have R1:=A_ (show((wr.alloc (BG #[] 3)).alloc (BG #[] 3)).ownsRow (w.1.size+2) 3 1 (QX (B ⟨wr.1.size+1,0,I⟩) 0 0) 0 []from by have:=JP (base:=w.1.size+2) (e:=3) (size:=1) (wr.alloc (BG #[] 3)) #[] 0 (by have:=E_ G;simp;omega) (EO _) rfl;rw[FU]at this;exact this);go_loopg [11,12,62] k (λg s11 s12 s wr=>∃ (j H am u an:Nat),j+g=k/\s11=QX (B ⟨H,0,I⟩) j am/\s12=QX (B ⟨u,0,I⟩) j an/\s=RH K j/\Hid (wr.ownsRow (w.1.size+2) 3 1 (QX (B ⟨H,0,I⟩) j am) j ((xs.take j).map (RH K)))/\Hid (wr.ownsRow (w.1.size+2) 3 1 (QX (B ⟨u,0,I⟩) j an) j ((ys.take j).map (RH K)))/\Hid (H≠u)/\Bw w wr/\Hid (wr.1[w.1.size]?=B (BG #[QX I 0 0,QX I 0 0,QX I 0 0] 105))/\Hid (wr.1[w.1.size+1]?=B (BG #[QX A k c,QX I 0 0,QX I 0 0] 105)));case atStart=>exact⟨0,wr.1.size,0,wr.1.size+1,0,oS,rfl,rfl,rfl,R0.o,R1.o,(by omega:wr.1.size≠wr.1.size+1),BH aA.o ((BP _).alloc sI _),B1a aa.o ((BP _).alloc sI _),B1a G.o ((BP _).alloc sI _)⟩
  case round =>
   clear aa G R0 R1 aA;obtain⟨j,H,am,u,an,aS,rfl,rfl,rfl,bu,b9,a4,W,aa,G⟩:=hrel;have aA:=A_ W;rcases CG j k with aH|aH
   ·have cU:(j:Int)<k:=oS
    have dl:(j:Int)<=40:=oS;obtain⟨g,rfl⟩:∃ g,gk=g+1:=⟨gk - 1,oS⟩
    have cR:=A_ (by omega:j+1+g=k);obtain⟨cA,c4,x,ad,au,ai,cE,ae,aw,aj,cF,af,ax,ak,cH,ag,ay,al,cJ,bk,cN,aM,cD,ao,a1,cG,cI,cK,aR⟩:=GD (bO.below W) aH;subst bk;obtain⟨p1,p2,_,aT,aU⟩:=E9v aR;have aX:=A_ aT;have aY:=A_ aU;obtain⟨b,h⟩:=bL.2.2 j x aM;rw[ci.o]at b h;have bR:=A_ (D3n (xs:=xs) (k:=j) (by rw[bJ.o];exact aH));have bS:=A_ (D3n (xs:=ys) (k:=j) (by rw[bK.o];exact aH));have cz:=D0w bM (j:Int);have bb:=D0w bN (j:Int);obtain⟨a,bl⟩:∃ a,at0 xs (j:Int)=a:=⟨_,rfl⟩
    obtain⟨aC,bn⟩:∃ aC,at0 ys (j:Int)=aC:=⟨_,rfl⟩
    rw[bl]at bR cz;rw[bn]at bS bb;obtain⟨aD,aq⟩:∃ d,T_ x.x=d:=⟨_,rfl⟩
    obtain⟨aE,ar⟩:∃ d,T_ x.y=d:=⟨_,rfl⟩
    obtain⟨bv,aI⟩:∃ d,R_ x.x=d:=⟨_,rfl⟩
    obtain⟨bz,aJ⟩:∃ d,R_ x.y=d:=⟨_,rfl⟩
    obtain⟨dv,cP,cZ,cX⟩:=D4e bH b.dn b.nu b.eq;obtain⟨dw,cQ,c0,cY⟩:=D4e bH h.dn h.nu h.eq;rw[bl,aI]at cX;rw[bn,aJ]at cY;rw[aq]at cP cZ;rw[ar]at cQ c0;have D:=A_ (show A2a x.x=AF/\Lims x.x.1.2/\NegOk x.x.1/\R_ x.x=bv/\T_ x.x=aD from⟨b.sm,b.li,b.ne,aI,aq⟩);have E:=A_ (show A2a x.y=AF/\Lims x.y.1.2/\NegOk x.y.1/\R_ x.y=bz/\T_ x.y=aE from⟨h.sm,h.li,h.ne,aJ,ar⟩);have cx:=A_ (by unfold inB;simp;omega:inB (-536870912) a 536870912=AF);have cy:=A_ (by unfold inB;simp;omega:inB (-536870912) aC 536870912=AF);have bF:=A_ (by unfold BS;omega:j+1<=BS);have bG:=A_ (by omega:(j+1)*8<=140737488355328);clear aS aH aM aR aT aU bl bn W b h aq ar aI aJ;go_wp2_with fail;have C:=A3c _ x.x _ (wr.alloc (BG #[RT x.x.1.1,QX ad au ai,QX ae aw aj,RT x.y.1.1,QX af ax ak,QX ag ay al] 41)) (aX.below (BP _)) D.1 D.2.1 D.2.2.1;rw[D.o.2.2.2.1,D.o.2.2.2.2]at C;refine C.mono ?_;clear C;rintro _ ac ⟨rfl,X⟩;obtain⟨bo,bp⟩:=F_ X;have Z:=A_ (show Bw wr ac from JK (BP _) (X.mono sI));go_wp2_with fail;have C:=A3c _ x.y _ ac (aY.below Z) E.1 E.2.1 E.2.2.1;rw[E.o.2.2.2.1,E.o.2.2.2.2]at C;refine C.mono ?_;clear C;rintro _ a7 ⟨rfl,aF⟩;have aN:=A_ (BH Z aF);go_wp2_with fail;refine A0g ?_;iterate 12 refine C_ _ ?_
    intro dx dy w3 bW bZ (cO:Hid _);simp at bZ;go_simp;clear bZ cO;have aO:=A_ (BH aN bW);go_wp2_with fail;have C:=A0s a (-536870912) 536870912 w3;rw[cx.o]at C;refine C.mono ?_;clear C;rintro _ c5 ⟨rfl,bX⟩;have cm:=A_ (BH aO bX);go_wp2_with fail;have C:=A0s aC (-536870912) 536870912 c5;rw[cy.o]at C;refine C.mono ?_;clear C;rintro _ aW ⟨rfl,bY⟩;have aB:=A_ (BH cm bY);clear X bo bp aF bW bX bY;have b5:=I_ bu aB;have be:=A_ (I_ b9 aB);have aP:=A_ (by have:=E_ G;have:=aB.size;omega:w.1.size+2<=aW.1.size);go_wp2_with (first|(at_builtin;refine A1m rfl _ _ 35 rfl (w.1.size+2) 3 ch (RH K 0) 1 8 underlying35 b0 cd ce cg rfl dE u j an ((ys.take j).map (.int K)) gD (((be.alloc (BG #[RH K a] 3)).kept aG (.inr (D7c a4))).alloc _) ⟨a8.1.size,0,I⟩ 1 1 [RH K aC] gD rfl (JR _ _ _) (D9i _) bF bG (A1a (CJ (A1a aP _) aG.size) _) ?_;intro bj bV bB b8 bq b4)|(at_builtin;refine A1m rfl _ _ 35 rfl (w.1.size+2) 3 ch (RH K 0) 1 8 underlying35 b0 cd ce cg rfl dE H j am ((xs.take j).map (.int K)) gD (b5.alloc _) ⟨aW.1.size,0,I⟩ 1 1 [RH K a] gD rfl (JR _ _ _) (D9i _) bF bG (A1a aP _) ?_;intro aQ bU a8 b6 aG b3));have bP:=A_ b6;have cn:=A_ aG;have bQ:=A_ b3;have b7:=(be.alloc (BG #[RH K a] 3)).kept aG (.inr (D7c a4));have bT:=A_ (by have:=aG.size;simp at this;have:=aP.o;omega:w.1.size+2<=a8.1.size);clear b6 aG b3 b5;have cM:=A_ b7;have bD:w.1.size+2<=aQ/\aQ<a8.1.size:=FG bP _ rfl;have c7:w.1.size+2<=u/\u<a8.1.size:=FG cM _ rfl;have bE:w.1.size+2<=u/\u<aW.1.size:=FG be _ rfl;have c6:w.1.size+2<=H/\H<wr.1.size:=FG bu _ rfl;have cv:=A_ (show aQ≠bj by
     rcases bQ with T|T<;>rcases b4 with h2|h2;·rw[T,h2];exact a4
     ·have:=bD.2;simp at h2;omega
     ·rw[h2,T];simp;have:=bE.2;omega
     have:=bD.2;simp at h2;omega)
    have cq:=A_ (show bB.ownsRow (w.1.size+2) 3 1 (QX (B ⟨aQ,0,I⟩) (j+1) bU) (j+1) ((xs.take (j+1)).map (RH K)) by
     have cL:=(bP.alloc (BG #[RH K aC] 3)).kept bq (.inr (D7c (λe=>by
      rcases bQ with T|T;·exact a4 (T.symm.trans e.symm)
      simp at T;have dh:u<aW.1.size:=bE.2;omega)))
     rw[bR.o,OE];exact cL)
    have ct:=A_ (show bB.ownsRow (w.1.size+2) 3 1 (QX (B ⟨bj,0,I⟩) (j+1) bV) (j+1) ((ys.take (j+1)).map (RH K)) by rw[bS.o,OE];exact b8)
    have bd:=A_ (show Below (w.1.size+2) aW bB from
     ((((DI _ _).alloc aP _).grown cn (A1a aP _) (λk2 bt=>by injection bt with T;omega)).alloc bT.o _).grown bq (A1a bT.o _) (λk2 bt=>by injection bt with T;omega))
    clear b8 bq b4 b7 bD c7 bE c6;go_wp2_with fail;go_roundg g;case measure=>omega
    case rel=>exact⟨j+1,aQ,bU,bj,bV,cR.o,rfl,rfl,gN,cq.o,ct.o,cv.o,(BH aA.o aB.o).trans (bd.o.mono oS),(bd.o.block _ oS).trans (B1a aa.o aB.o),(bd.o.block _ oS).trans (B1a G.o aB.o)⟩
   obtain rfl:j=k:=oS;have cU:¬ ((j:Int)<j):=oS;have cs:=A_ (by have:=bu.o;rwa [DT (by rw[bJ.o];exact CE _)]at this:wr.ownsRow (w.1.size+2) 3 1 (QX (B ⟨H,0,I⟩) j am) j (xs.map (RH K)));have cu:=A_ (by have:=b9.o;rwa [DT (by rw[bK.o];exact CE _)]at this:wr.ownsRow (w.1.size+2) 3 1 (QX (B ⟨u,0,I⟩) j an) j (ys.map (RH K)));have dp:w.1.size+1<wr.1.size:=E_ G;have dn:w.1.size<wr.1.size:=oS;obtain⟨a0,dc⟩:=B_ aa (j:=0) rfl;obtain⟨c8,bh⟩:=B_ aa (j:=1) rfl;obtain⟨c9,bi⟩:=B_ aa (j:=2) rfl;obtain⟨da,bf⟩:=B_ G (j:=0) rfl;obtain⟨b1,bg⟩:=B_ G (j:=1) rfl;obtain⟨b2,db⟩:=B_ G (j:=2) rfl;clear aS aH W;go_wp2;refine CK (v:=BJ #[QX A j c,QX (B ⟨H,0,I⟩) j am,QX (B ⟨u,0,I⟩) j an]) (by simp[CO,results66,go_sem, *]) rfl ?_;obtain⟨bx,c1⟩:=A7v (A3r (A3r (A3r (A3r (A3r cs.o (by omega:w.1.size+1<w.1.size+2)) (by omega:w.1.size+1<w.1.size+2)) (by omega:w.1.size<w.1.size+2)) (by omega:w.1.size<w.1.size+2)) (by omega:w.1.size<w.1.size+2)) (λx O=>by have:=bM.o x O;constructor<;>omega);obtain⟨cB,c2⟩:=A7v (A3r (A3r (A3r (A3r (A3r cu.o (by omega:w.1.size+1<w.1.size+2)) (by omega:w.1.size+1<w.1.size+2)) (by omega:w.1.size<w.1.size+2)) (by omega:w.1.size<w.1.size+2)) (by omega:w.1.size<w.1.size+2)) (λx O=>by have:=bN.o x O;constructor<;>omega);refine⟨_,rfl,⟨A,c,H,0,am,u,0,an,bx,cB,rfl,c1,c2⟩,?_⟩;have di:=aA.o;exact Below.go

theorem C8w (A:Option AJ) (c:Nat) (b b1 u:TPoint) (bs:List Nat) (w:AD) (E:Sl w A 3 c [b,b1,u] bs) (ak:A7m [b,b1,u]=AF) :
  BL prog 218 #[QX A 3 c] w (A0c w (A5x b b1 u)):=by
 have ad:=A_ E;have aD:=A_ ak;clear ak E;go_enter func218,ntmps218;go_wp2_with fail;have C:=B2m A 3 c [b,b1,u] bs _ (ad.below (BP (w:=w) (BG #[RT AH,QX I 0 0,QX I 0 0,RT AH,QX I 0 0,QX I 0 0] 41)));rw[aD.o]at C;refine C.mono ?_;clear C;rintro _ ap ⟨rfl,Y⟩;have E:Sl ap A 3 c [b,b1,u] bs:=(ad.below (BP _)).below Y;obtain⟨bJ,bM⟩:=F_ Y;have bP:w.1.size<ap.1.size:=ltg Y;have O:=A_ E;obtain⟨bn,b6,bm,P1,bS,br,p1,P2,bT,bt,p2,bg,bU,bu,b9,bh,bV,bv,ca,a2,bI,al,aE,aF,aG,aH,aI,aJ,ag⟩:=GD O (by decide:0<3);obtain⟨bo,b7,b2,Q1,bW,bz,q1,Q2,bX,bA,q2,bi,bY,bB,Z,bj,bZ,bD,cb,T,a3,am,aK,aL,aM,aN,aO,aP,ah⟩:=GD O (by decide:1<3);obtain⟨bp,b8,bq,R1,b0,bE,cc,R2,b3,bF,cd,bk,b4,bG,ce,bl,b5,bH,cg,W,a4,an,aQ,aR,aS,aT,aU,aV,ai⟩:=GD O (by decide:2<3);subst a2;injection T with T;injection T with h1 h2 _;subst h1;subst h2;injection W with W;injection W with h1 h2 _;subst h1;subst h2;simp at al am an;subst al;subst am;subst an;simp at aE aF aG aH aI aJ aK aL aM aN aO aP aQ aR aS aT aU aV;have az:=A_ ag;have aB:=A_ ah;have aC:=A_ ai;clear a3 a4 ag ah ai E;go_wp2_with fail;refine W_ 12 kR kR kR kR kR ?_;simp only[GT,FM,GU,FF];refine D_ (CH (mkR 1 3)) ?_ ?_;·intro aa ab G D h;obtain⟨ae,af⟩:=F_ D;simp at h;refine G_ ?_;exact H_ (A7u 1 3 G oG oG dE)
 iterate 6 refine C_ _ ?_
 refine D_ (CH (A3y b b1)) ?_ ?_;·intro aa ab G D h;obtain⟨ae,af⟩:=F_ D;simp at h;refine G_ ?_;exact H_ (A4x _ _ b b1 _ _ G (az.below Below.go) (aB.below Below.go))
 iterate 3 refine C_ _ ?_
 refine D_ (CH (A3y (A3y b b1) u)) ?_ ?_;·intro aa ab G D h;obtain⟨ae,af⟩:=F_ D;simp at h;refine G_ ?_;exact H_ (A4x _ _ (A3y b b1) u _ _ G h.1.1 (aC.below Below.go))
 intro aa ab wa D h (a5:Hid _);simp at h;have Z:=h.1;have ao:=h.2.2.2.2.2.2.2.2.2.2.2;have ax:=A_ Z.1.1;have ay:=A_ ao.1.1;clear h a5 Z ao;obtain⟨bK,bN⟩:=F_ D;have bQ:w.1.size<wa.1.size:=ltg D;go_wp2_with fail;refine(A1n _ _ (mkR 1 3) (A3y (A3y b b1) u) _ _ wa ax ay).mono ?_;rintro _ wb ⟨ci,ch,rfl,X,aj,H⟩;obtain⟨aq,a7,aX,bc,ar,a8,aY,bd,au,a9,aZ,be,aw,ba,a1,bf,rfl,a6,_,_,_,_⟩:=EW X;have aA:=A_ X;have ac:=A_ aj;clear X aj a6;obtain⟨bL,bO⟩:=F_ H;have bR:w.1.size<wb.1.size:=ltg H;go_wp2;refine CK (v:=BJ #[RT (A0v (mkR 1 3) (A3y (A3y b b1) u)).x.1.1,QX aq a7 aX,QX ar a8 aY,RT (A0v (mkR 1 3) (A3y (A3y b b1) u)).y.1.1,QX au a9 aZ,QX aw ba a1]) (by simp[CO,results218,go_sem, *]) rfl ?_;refine A1s (lo:=w.1.size+1) aA ac.free (λaW H=>by have:=(ac.2 aW H).1;(try simp at this);omega) oS ?_ ?_;·exact Above.go
 exact Below.go

theorem B5c (v:AU) (p:TPoint) (b:List Nat) (w:AD) (ah:Agg w v p b) (ok:A1b p=AF) :
  BL prog 165 #[v] w (A0c w p):=by
 have O:J_ p.x=AF/\J_ p.y=AF:=by simpa[A1b]using ok
 have W:=A_ (ratOkB_iff.1 O.1);have X:=A_ (ratOkB_iff.1 O.2);obtain⟨aK,a1,aO,a5,aL,a2,aP,a6,aM,a3,aQ,a7,aN,a4,aR,a8,rfl,rfl,ad,ae,af,ag⟩:=EW ah;have P1:=A_ (FK (x:=p.x) ad ae);have P2:=A_ (FK (x:=p.y) af ag);clear ad ae af ag ah ok O;go_enter func165,ntmps165;go_wp2_with fail;refine W_ 6 kR kR kR kR kR ?_;simp only[GT,FM,GU,FF];iterate 2 refine C_ _ ?_
 refine D_ (CH p.x) ?_ ?_;·intro ai D T u h;obtain⟨aA,aB⟩:=F_ u;simp at h;refine G_ ?_;exact H_ (A3n _ p.x _ T (P1.below Below.go) (by have:=W.num24;omega) (by have:=W.o.den24;omega))
 iterate 2 refine C_ _ ?_
 refine D_ (CH p.y) ?_ ?_;·intro ai D T u h;obtain⟨aA,aB⟩:=F_ u;simp at h;refine G_ ?_;exact H_ (A3n _ p.y _ T (P2.below Below.go) (by have:=X.num24;omega) (by have:=X.o.den24;omega))
 intro ai D wa u h (Y:Hid _);simp at h;have aG:=h.2.2.1;have aH:=h.2.2.2.2.2;obtain⟨⟨E,Z⟩,ab⟩:=aG;obtain⟨⟨G,aa⟩,ac⟩:=aH;obtain⟨aj,aC,aq,aS,ak,aD,ar,aT,ax,aI,_,_⟩:=CF E;obtain⟨al,aE,au,aU,am,aF,aw,aV,ay,aJ,_,_⟩:=CF G;rw[ax]at E;rw[ay]at G;have an:=A_ (B4l (x:=p) E G);have ao:=A_ (Free.join Z aa (Y 2 5 dE dE dE))
 have ap:=A_ (show ∀ b∈D 2++D 5,w.1.size+2<=b from λb az=>by
  rcases DV.1 az with H|H;·have:=(ab b H).1;(try simp at this);omega
  have:=(ac b H).1;(try simp at this);omega)
 clear h Y E Z ab G aa ac aI aJ;generalize D 2++D 5=zs at *;obtain⟨aW,aX⟩:=F_ u;have aY:w.1.size<wa.1.size:=ltg u;have aZ:w.1.size+1<wa.1.size:=ltg u;go_wp2;refine CK (v:=BJ #[RT p.x.1.1,QX aj aC aq,QX ak aD ar,RT p.y.1.1,QX al aE au,QX am aF aw]) (by simp[CO,results165,go_sem, *]) rfl ?_;refine A1s (lo:=w.1.size+2) an.o ao.o ap.o oS ?_ ?_;·exact Above.go
 exact Below.go

theorem A8m (v1 v2:AU) (r s:TRat) (b1 b2:List Nat) (w:AD) (b:Agg w v1 r b1) (X:Agg w v2 s b2) :
  BL prog 100 #[v1,v2] w (A0c w (A3u r s)):=by
 have ab:=A_ b;have ak:=A_ X;obtain⟨ap,n1,aw,aE,aq,n2,ax,aF,rfl,rfl,-,-⟩:=CF b;obtain⟨ar,ag,c3,aG,au,aD,ay,aH,rfl,rfl,W,ae⟩:=CF X;have QI:=A_ (FK (x:=(⟨⟨s.1.1,s.2⟩,s.1.2⟩:TRat)) ae W);have Z:=A_ W.1;clear W ae b X;go_enter func100,ntmps100;go_wp2_with fail;refine BL.new4 λw0 N=>?_;refine(A1r (B ⟨w.1.size+1+1+1,0,I⟩) 2 2 [r,s] _ w0 (sl2 N.n (ab.below N.b) (ak.below N.b))).mono ?_;rintro _ ao ⟨rfl,E⟩;have h:=A_ (BH N.b E);obtain⟨aA,-,aB⟩:=bx (A0z N.k E);obtain⟨ks,-,aC⟩:=bx (A0z N.l E);have O:=A_ (A0z N.m E);clear E N;obtain⟨ko,ac,af⟩:=bx O;rw[show [r,s].all J_=(J_ r&&J_ s) by simp];rcases Bool.eq_false_or_eq_true (J_ r&&J_ s)with H|H
 rotate_left;·have D:=A_ (by unfold A3u;rw[H];rfl:A3u r s=A0h);go_wp2;refine CK (v:=BJ #[RT AH,QX I 0 0,QX I 0 0]) (by simp[CO,results100,go_sem, *]) rfl ?_;rw[D.o];exact A3e (h.grown (A5y (A5y (A5y (B3a _ _)))) h.size (λx b=>by injection b with b;omega))
 cases u:s.1.2 with
 |nil =>
  have D:=A_ (by unfold A3u;rw[H,u];rfl:A3u r s=A0h)
  obtain rfl:0=ag:=by have:=Z.o;rw[u]at this;exact this
  clear u
  go_wp2
  refine CK (v:=BJ #[RT AH,QX I 0 0,QX I 0 0]) (by simp[CO,results100,go_sem, *]) rfl ?_
  rw[D.o]
  exact A3e (h.grown (A5y (A5y (A5y (B3a _ _)))) h.size (λx b=>by injection b with b;omega))
 |cons x t =>
 have D:=A_ (by unfold A3u;rw[H,u];rfl:A3u r s=A0d r ⟨⟨s.1.1,s.2⟩,s.1.2⟩);have az:((ag:Int)==0)=AH:=by have:=Z.o;rw[u]at this;simp at this;simp;omega
 clear u;go_wp2_with fail;refine(A0n _ _ r ⟨⟨s.1.1,s.2⟩,s.1.2⟩ _ _ ao (ab.below h) (QI.below h)).mono ?_;rintro _ aK ⟨v,bs,rfl,T,ad,G⟩;obtain⟨ah,m1,am,aI,ai,m2,an,aJ,rfl,-,-,-⟩:=CF T;have aj:=A_ T;have aa:=A_ ad;have Y:=A_ G;clear T ad G ko ac af;obtain⟨ko,ac,af⟩:=bx (A0z O Y);go_wp2;refine CK (v:=BJ #[RT (A0d r ⟨⟨s.1.1,s.2⟩,s.1.2⟩).1.1,QX ah m1 am,QX ai m2 an]) (by simp[CO,results100,go_sem, *]) rfl ?_;rw[D.o];have:=E_ O;exact B8v aj aa.free (λal G=>by have:=(aa.2 al G).1;omega) (BH h.o Y.o) oS (A5y (A5y (A5y (B3a _ _))))
theorem A9z (v1 v2:AU) (r s:TRat) (b1 b2:List Nat) (w:AD) (hx:Agg w v1 r b1) (hy:Agg w v2 s b2) (_:J_ r=AF) (_:J_ s=AF) (_:s.1.2≠[]) :
  BL prog 100 #[v1,v2] w (A0c w (A3u r s)):=A8m v1 v2 r s b1 b2 w hx hy
end Go.Proofs.YtjcanieccnljfaaGreat.X
