/- A part of the proof. -/
import Derived.Test.YtbkilakncnlebaaGreatDoorY10
import Derived.Test.YtbkilakncnlebaaGreatDoorY11
set_option linter.constructorNameAsVariable false
set_option maxHeartbeats 16000000
set_option maxRecDepth 10000
open Bool renaming false→AF,true→AD
open Go renaming Addr→AH,Calls→AR,Value→AJ,World→QT,bodyPost_ret→BI,cell_one_new→JL,heap_alloc_new→CF,maxLen→BG,results→BO
open Go.IntKind renaming i64→K
open Go.Obj renaming cells→AK
open Go.RowKit.Below renaming refl→CG,trans→IY
open Go.Value renaming agg→AM,bool→AC,int→QS,ownBlock→IR,slice→QH
open Go.World renaming ownsRow_made→IW,size_alloc→EW
open Go.World.ownsRow renaming lt→EU
open Go.XB.Below renaming box→AV,next→AI
open Go.XB.MP renaming agg→BP
open Go.XB.TPoint renaming agg→DN,elemA→FC
open Go.XB.TRat renaming agg→BK,mkAgg→CU
open List renaming drop_succ_cons→GG,drop_zero→EH,getD_eq_getElem?_getD→DY,getElem?_eq_getElem→CV,getElem?_eq_some_iff→CQ,getElem?_take→IL,map_append→KJ,mem_append→CO,mem_of_getElem?→CH,take_of_length_le→CZ,take_succ_cons→GE,take_zero→ET
open Nat renaming le_refl→BH,le_trans→BM,lt_or_ge→BN,zero_le→DV
open Option renaming none→I,some→B
namespace Go.XB
open Go.RowKit
theorem Sl.first {α:Type} [Dat α] {w:QT} {A:Option AH} {n c:Nat} {xs:List α} {bs:List Nat} (h:Sl w A n c xs bs) {k:Nat} (ag:k<=n):∃ bs',Sl w A k c (xs.take k) bs':=by
 obtain⟨ac,ad,H,ae,T⟩:=h;rcases Nat.eq_zero_or_pos k with G|G;·subst G;exact⟨[],sI,DV _,H,λ_=>rfl,λh=>absurd h oS⟩
 obtain⟨D,ab,E,W,af,aa,X,Y⟩:=T oS;refine⟨D::(E.take k).flatten,oR,oS,H,λh=>absurd h oS,λ_=>⟨D,ab,E.take k,W,rfl,by simp[aa],X,λj x O b u=>?_⟩⟩;rw[IL]at b u;split at b;·rename_i Z;rw[if_pos Z]at u;exact Y j x O b u
 cases b
theorem E8q {α:Type} {p:α->Bool} {xs:List α} {k:Nat} {x:α} (h:xs.all p=AD) (hx:xs[k]?=B x):p x=AD:=List.all_eq_true.1 h x (CH hx)
theorem E1i {α:Type} [DecidableEq α] {xs:List α} {k:Nat} {x:α} (h:xs.Nodup) (O:xs[k]?=B x):(xs.take k).any (λy=>decide (x=y))=AF:=by
 rw[List.any_eq_false];intro y T;obtain⟨j,b⟩:=List.mem_iff_getElem?.1 T;rw[IL]at b;split at b;·rename_i H;have E:=CQ.1 O;have G:=CQ.1 b;obtain⟨l1,u⟩:=E;obtain⟨l2,D⟩:=G;have:=List.pairwise_iff_getElem.1 h j k l2 l1 H;rw[u,D]at this;simp;exact λe=>this e.symm
 cases b
end Go.XB
namespace Go.Proofs.YtbkilakncnlebaaGreatDoor.X
open Go.RowKit Go.XB Go.XN Proofs.Tryz
attribute [local go_sem] L_ opAt N_ M_ Region.wanted yielded
attribute [local simp] N_ M_ MP.eq MP.agg MP.sl A0r
theorem D6u (f:Nat) (ah:A4f f) (O:AJ) (A:Option AH) (n c:Nat) (xs:List TPoint) (bs:List Nat) (w:QT) (p:TPoint->Bool) (h:Sl w A n c xs bs)
  (Z:∀ (v:AJ) (x:TPoint) (b:List Nat) (w':QT),Bw w w'->x∈xs->Agg w' v x b->AR prog f #[v,O] w' (A0b w' (AC (p x)))) :
  AR prog 221 #[QH A n c,.func (.func f) #[] #[O]] w (B9x w (xs.any p)):=by
 have ad:=A_ h.1;have af:=A_ h;have ae:=A_ Z;unfold A4f at ah;have ak:n<=BG:=BM h.2.1 h.2.2.1;unfold BG at ak;clear h Z;go_enter func221,ntmps221;go_wp2_with fail;go_loopg [8] n (λg s8 wr=>∃ k:Nat,k+g=n/\s8=QS K k/\Hid ((xs.take k).any p=AF)/\Bw w wr);case atStart=>exact⟨0,oS,rfl,by show(xs.take 0).any p=AF;simp,CG _ _⟩
 case round =>
  obtain⟨k,Y,rfl,T,u⟩:=hrel;have ac:=A_ u;rcases BN k n with D|D
  ·obtain⟨ap,aG,x,al,m1,aq,aH,am,m2,ar,aI,an,aE,au,aJ,ao,aF,aw,aK,rfl,aD,aa,ax,ay,az,aA,aB,aC,W⟩:=FC (Sl.below af u) D
   have G:=A_ aa;have ab:=A_ W;have aj:(k:Int)<n:=oS;obtain⟨g,rfl⟩:∃ g,gk=g+1:=⟨gk - 1,oS⟩
   have ai:=A_ (by omega:k+1+g=n);clear aa Y D W;go_wp2_with fail;refine(ae _ x _ wr ac (CH G) ab).mono ?_;rintro _ aL ⟨rfl,ag⟩;have X:=AI u ag;cases E:p x
   ·have H:=A_ (B6c G T E)
    clear E;go_wp2_with fail;go_roundg g;case measure=>omega
    case rel=>exact⟨k+1,ai,gN,H,X⟩
   have H:=A_ (D1e G E);clear E;go_wp2;go_ret;exact⟨k,rfl,by rw[H.o];simp,X⟩
  have e:=A_ (show xs.any p=AF by have:=T.o;rwa [CZ (by rw[ad.o];omega)]at this);have aj:¬ ((k:Int)<n):=oS;clear Y D;go_wp2;go_ret;exact⟨-1,rfl,by rw[e.o];rfl,u⟩

theorem C8o (f:Nat) (u:A4f f) (h:AJ) (A:Option AH) (n c:Nat) (xs:List TPoint) (bs:List Nat) (w:QT) (p:TPoint->Bool) (E:Sl w A n c xs bs)
  (D:∀ (v:AJ) (x:TPoint) (b:List Nat) (w':QT),Bw w w'->x∈xs->Agg w' v x b->AR prog f #[v,h] w' (A0b w' (AC (p x)))) :
  AR prog 169 #[QH A n c,.func (.func f) #[] #[h]] w (A0b w (AC (xs.any p))):=by
 have T:=A_ E;have O:=A_ D;have H:=A_ u;clear E D u;go_enter func169,ntmps169;go_wp2_with fail;refine(D6u f H h A n c xs bs _ p T O).mono ?_;rintro _ X ⟨r,rfl,e,W⟩;have G:=A_ e;clear e;go_wp2;go_ret;exact⟨Q_ G,W⟩

theorem B1t:A4f 170:=λa w=>kR
theorem C1m (v:AJ) (x:TPoint) (b:List Nat) (g:Nat) (u0 u1 u2 D u4 E:AJ) (y:TPoint) (T:List Nat) (w:QT) (u:Agg w v x b) (h:w.1[g]?=B (AK #[u0,u1,u2,D,u4,E] 118)) (G:Agg w (AM #[u0,u1,u2,D,u4,E]) y T) :
  AR prog 170 #[v,.pointer (B ⟨g,0,I⟩)] w (A0b w (AC (decide (y=x)))):=by
 have H:=A_ u;have O:=A_ G;obtain⟨aa,ap,aj,aw,ab,aq,ak,ax,ac,ar,al,ay,ad,au,am,az,rfl,rfl,W,X,Y,Z⟩:=DN u;have ae:=(B_ h (j:=0) (v:=u0) rfl).1;have af:=(B_ h (j:=1) (v:=u1) rfl).1;have ag:=(B_ h (j:=2) (v:=u2) rfl).1;have c3:=(B_ h (j:=3) (v:=D) rfl).1;have ah:=(B_ h (j:=4) (v:=u4) rfl).1;have ai:=(B_ h (j:=5) (v:=E) rfl).1;have ao:g<w.1.size:=E_ h;clear W X Y Z u G h;go_enter func170,ntmps170;go_wp2_with fail;refine(B1e _ _ y x _ _ _ (O.below Below.go) (H.below Below.go)).mono ?_;rintro _ aA ⟨rfl,an⟩;go_wp2;go_ret;exact⟨rfl,Below.go⟩

theorem C4p (A:Option AH) (n c:Nat) (xs:List TPoint) (bs:List Nat) (w:QT) (H:Sl w A n c xs bs) (ah:xs.all A1b=AD) (ak:xs.Nodup) (aR:3<=n) (aS:n<=40) :
  AR prog 114 #[QH A n c] w (A0b w (AC AD)):=by
 have ab:=A_ H;have aq:=A_ ah;have ar:=A_ ak;have aY:n<=c:=H.2.1;have ax:=B1t;unfold A4f at ax;have aw:=A_ (by unfold inB;simp;omega:inB 3 n 40=AD);clear H ah ak;go_enter func114,ntmps114;go_wp2_with fail;go_loopg [7] n (λg s wr=>∃ k:Nat,k+g=n/\s=QS K k/\Bw w wr);case atStart=>exact⟨0,oS,rfl,CG _ _⟩
 case round =>
  obtain⟨k,aj,rfl,u⟩:=hrel;rcases BN k n with h|h
  ·obtain⟨aB,aG,x,T,am,ac,aI,W,an,ad,aK,X,ao,ae,aN,Y,ap,af,aP,aC,aT,O,aH,aJ,aL,aM,aO,aQ,ag⟩:=FC (ab.below u) h
   subst aC;obtain⟨ps,al⟩:=(ab.o.below u).first (Nat.le_of_lt h)
   have au:=A_ al;have ay:=A_ (E1i ar O);have az:=A_ (E8q aq O);have Z:=A_ ag;have aW:(k:Int)<n:=oS;have aX:(0:Int)<=k:=oS;have aV:(k:Int)<=c:=oS;obtain⟨g,rfl⟩:∃ g,gk=g+1:=⟨gk - 1,oS⟩
   have aF:=A_ (by omega:k+1+g=n);have aU:(k:Int)<=40:=oS;have E:=A_ u;clear O aj h ag al;go_wp2_with fail;have C:=B2j _ x _ (wr.alloc (AK #[AC x.x.1.1,QH T am ac,QH W an ad,AC x.y.1.1,QH X ao ae,QH Y ap af] 118)) (Z.below (AV _));rw[az.o]at C;refine C.mono ?_;clear C;rintro _ D ⟨rfl,b⟩;have G:=A_ (show Bw wr D from IY (AV _) (b.mono sI));have aa:=A_ (show D.1[wr.1.size]?=B (AK #[AC x.x.1.1,QH T am ac,QH W an ad,AC x.y.1.1,QH X ao ae,QH Y ap af] 118)from(b.block _ sI).trans (CF wr _));clear b;go_wp2_with fail;have C:=C8o 170 B1t (.pointer (B ⟨wr.1.size,0,I⟩)) (B ⟨aB,aG,I⟩) k c _ ps D (λy=>decide (x=y)) (au.below G) (λv y aA w' ai _ aD=>C1m v y aA wr.1.size _ _ _ _ _ _ x _ w' aD ((ai.block _ (E_ aa)).trans aa) ((Z.below G).below ai));rw[ay.o]at C;refine C.mono ?_;clear C;rintro _ aZ ⟨rfl,aE⟩;go_wp2_with fail;go_roundg g;case measure=>omega
   case rel=>exact⟨k+1,aF,gN,AI (AI E G) aE⟩
  obtain rfl:k=n:=oS;have E:=A_ u;clear aj h;go_wp2_with fail;have C:=A0s k 3 40 wr;rw[aw.o]at C;refine C.mono ?_;clear C;rintro _ D ⟨rfl,b⟩;go_wp2;go_ret;exact⟨rfl,AI E b⟩
end Go.Proofs.YtbkilakncnlebaaGreatDoor.X

namespace Go.XN
open Go.XB
def A1k (p q:TPoint):TRat:=A0k (A0d p.x q.x) (A0d p.y q.y)
def A6c (a b c:TPoint):TRat:=A0d (mkR 1 2) (A2y a b c)
def A5x (a b c:TPoint):TPoint:=A0v (mkR 1 3) (A3y (A3y a b) c)
def ptI (x y:Int):TPoint:=⟨U_ x,U_ y⟩
end Go.XN
namespace Go.Proofs.YtbkilakncnlebaaGreatDoor.X
open Go.RowKit Go.XB Go.XN Proofs.Tryz
attribute [local go_sem] L_ opAt N_ M_ Region.wanted yielded
attribute [local simp] N_ M_ MP.eq MP.agg MP.sl A0r
theorem E4i {w0 w1 w2:QT} {x:TPoint} {u0 u1 u2 u3 u4 u5:AJ} {b1 b2:List Nat} (h1:Agg w1 (AM #[u0,u1,u2]) x.x b1) (o1:Own w0 w1 b1) (h12:Bw w1 w2) (h2:Agg w2 (AM #[u3,u4,u5]) x.y b2) (o2:Own w1 w2 b2) (hw2:w0.1.size<=w1.1.size) :
  Agg w2 (AM #[u0,u1,u2,u3,u4,u5]) x (b1++b2)/\Free w2 (b1++b2)/\∀ b∈b1++b2,w0.1.size<=b :=
 ⟨B4l (h1.below h12) h2,Free.join (o1.free.below h12) o2.free (λb hb hb2=>by have:=o1.lt b hb;have:=(o2.2 b hb2).1;omega),λb hb=>by
  rcases CO.1 hb with h|h
  ·exact(o1.2 b h).1
  have:=(o2.2 b h).1;omega⟩

theorem B9v (x y:Int) (w:QT) (H:I64 x) (O:I64 y):AR prog 252 #[QS K x,QS K y] w (A0c w (ptI x y)):=by
 have ab:=A_ H;have ac:=A_ O;clear H O;go_enter func252,ntmps252;go_wp2_with fail;refine(A0l x _ ab).mono ?_;rintro _ ap ⟨v1,aE,rfl,b,E,u⟩;obtain⟨T,al,ae,ar,W,am,af,au,rfl,aj,_,_⟩:=BK b;have Z:=A_ b;have aa:=A_ E;clear b E aj;obtain⟨ay,aA⟩:=F_ u;have aC:w.1.size<ap.1.size:=ltg u;go_wp2_with fail;refine(A0l y _ ac).mono ?_;rintro _ aq ⟨v2,aF,rfl,h,G,D⟩;obtain⟨X,an,ag,aw,Y,ao,ah,ax,rfl,ak,_,_⟩:=BK h;have J:=A_ (E4i (x:=ptI x y) Z aa D h G (by have:=u.size;exact this));clear h G ak;obtain⟨az,aB⟩:=F_ D;have aD:w.1.size<aq.1.size:=ltg D;go_wp2;refine BI (v:=AM #[AC (U_ x).1.1,QH T al ae,QH W am af,AC (U_ y).1.1,QH X an ag,QH Y ao ah]) (by simp[BO,results252,go_sem, *]) rfl ?_;refine A1s (lo:=w.1.size+1) J.1 J.2.1 (λad ai=>by have:=J.2.2 ad ai;(try simp at this);omega) oS ?_ ?_;·exact Above.go
 exact Below.go

theorem B3o (x y:Int) (w:QT) (H:I64 x) (O:I64 y):AR prog 76 #[QS K x,QS K y] w (A0c w (ptI x y)):=by
 have ab:=A_ H;have ac:=A_ O;clear H O;go_enter func76,ntmps76;go_wp2_with fail;refine(B0d x _ ab).mono ?_;rintro _ ap ⟨v1,aE,rfl,b,E,u⟩;obtain⟨T,al,ae,ar,W,am,af,au,rfl,aj,_,_⟩:=BK b;have Z:=A_ b;have aa:=A_ E;clear b E aj;obtain⟨ay,aA⟩:=F_ u;have aC:w.1.size<ap.1.size:=ltg u;go_wp2_with fail;refine(B0d y _ ac).mono ?_;rintro _ aq ⟨v2,aF,rfl,h,G,D⟩;obtain⟨X,an,ag,aw,Y,ao,ah,ax,rfl,ak,_,_⟩:=BK h;have J:=A_ (E4i (x:=ptI x y) Z aa D h G (by have:=u.size;exact this));clear h G ak;obtain⟨az,aB⟩:=F_ D;have aD:w.1.size<aq.1.size:=ltg D;go_wp2;refine BI (v:=AM #[AC (U_ x).1.1,QH T al ae,QH W am af,AC (U_ y).1.1,QH X an ag,QH Y ao ah]) (by simp[BO,results76,go_sem, *]) rfl ?_;refine A1s (lo:=w.1.size+1) J.1 J.2.1 (λad ai=>by have:=J.2.2 ad ai;(try simp at this);omega) oS ?_ ?_;·exact Above.go
 exact Below.go

theorem A8z (v1 v2:AJ) (p q:TPoint) (b1 b2:List Nat) (w:QT) (E:Agg w v1 p b1) (G:Agg w v2 q b2) :
  AR prog 144 #[v1,v2] w (A0c w (A1k p q)):=by
 have an:=A_ E;have ao:=A_ G;obtain⟨aB,a4,aL,bd,aC,a5,aM,be,aD,a6,aN,bf,aE,a7,aO,bg,rfl,rfl,W,X,Y,Z⟩:=DN E;obtain⟨aF,a8,aP,bh,aG,a9,aQ,bi,aH,ba,aR,bj,aI,bc,aS,bl,rfl,rfl,aa,ab,ac,ad⟩:=DN G;have P1:=A_ (CU (x:=p.x) W X);have P2:=A_ (CU (x:=p.y) Y Z);have Q1:=A_ (CU (x:=q.x) aa ab);have Q2:=A_ (CU (x:=q.y) ac ad);clear W X Y Z aa ab ac ad E G an ao;go_enter func144,ntmps144;go_wp2_with fail;refine W_ 10 kR kR kR kR kR ?_;simp only[GE,ET,GG,EH];iterate 4 refine C_ _ ?_
 refine D_ (BP (A0d p.x q.x)) ?_ ?_;·intro ag ah H b h;obtain⟨au,ax⟩:=F_ b;simp at h;refine G_ ?_;exact H_ (A0n _ _ p.x q.x _ _ H (P1.below Below.go) (Q1.below Below.go))
 iterate 4 refine C_ _ ?_
 refine D_ (BP (A0d p.y q.y)) ?_ ?_;·intro ag ah H b h;obtain⟨au,ax⟩:=F_ b;simp at h;refine G_ ?_;exact H_ (A0n _ _ p.y q.y _ _ H (P2.below Below.go) (Q2.below Below.go))
 intro ag ah wa b h aw;clear aw;simp at h;have ae:=h.2.2.2.2.1;have af:=h.2.2.2.2.2.2.2.2.2;have ak:=A_ ae.1.1;have al:=A_ af.1.1;clear h ae af;obtain⟨aT,aV⟩:=F_ b;have aX:w.1.size<wa.1.size:=ltg b;have aZ:w.1.size+1<wa.1.size:=ltg b;have a2:w.1.size+1+1<wa.1.size:=ltg b;go_wp2_with fail;refine(A0x _ _ (A0d p.x q.x) (A0d p.y q.y) _ _ wa ak al).mono ?_;rintro _ wb ⟨bm,sb,rfl,D,T,u⟩;obtain⟨ai,az,aq,aJ,aj,aA,ar,aK,rfl,ay,_,_⟩:=BK D;have am:=A_ D;have O:=A_ T;clear D T ay;obtain⟨aU,aW⟩:=F_ u;have aY:w.1.size<wb.1.size:=ltg u;have a1:w.1.size+1<wb.1.size:=ltg u;have a3:w.1.size+1+1<wb.1.size:=ltg u;go_wp2;refine BI (v:=AM #[AC (A0k (A0d p.x q.x) (A0d p.y q.y)).1.1,QH ai az aq,QH aj aA ar]) (by simp[BO,results144,go_sem, *]) rfl ?_;refine A1s (lo:=w.1.size+3) am O.free (λap u=>by have:=(O.2 ap u).1;(try simp at this);omega) oS ?_ ?_;·exact Above.go
 exact Below.go

theorem B3h (A:Option AH) (c:Nat) (h b1 u:TPoint) (bs:List Nat) (w:QT) (ad:Sl w A 3 c [h,b1,u] bs) :
  AR prog 133 #[QH A 3 c] w (A0c w (A6c h b1 u)):=by
 have G:=A_ ad;obtain⟨bc,bR,ba,P1,bF,bg,p1,P2,bG,bh,p2,a2,bH,bi,bU,a3,bI,bj,bV,aQ,bu,ae,au,aw,ax,ay,az,aA,Z⟩:=FC G (by decide:0<3);obtain⟨bd,bS,b2,Q1,bJ,bl,q1,Q2,bK,bm,q2,a4,bL,bn,W,a5,bM,bo,bW,H,aR,af,aB,aC,aD,aE,aF,aG,aa⟩:=FC G (by decide:1<3);obtain⟨be,bT,bf,a6,bN,bp,bX,a7,bO,bq,bY,a8,bP,br,bZ,a9,bQ,bt,b0,O,aS,ag,aH,aI,aJ,aK,aL,aM,ab⟩:=FC G (by decide:2<3);subst aQ;injection H with H;injection H with h1 h2 _;subst h1;subst h2;injection O with O;injection O with h1 h2 _;subst h1;subst h2;simp at ae af ag;subst ae;subst af;subst ag;simp at au aw ax ay az aA aB aC aD aE aF aG aH aI aJ aK aL aM;have ao:=A_ Z;have aq:=A_ aa;have ar:=A_ ab;clear aR aS Z aa ab ad;go_enter func133,ntmps133;go_wp2_with fail;refine W_ 11 kR kR kR kR kR ?_;simp only[GE,ET,GG,EH];refine D_ (BP (mkR 1 2)) ?_ ?_;·intro ai aj X D b;obtain⟨aT,aV⟩:=F_ D;simp at b;refine G_ ?_;exact H_ (C9n X)
 iterate 9 refine C_ _ ?_
 refine D_ (BP (A2y h b1 u)) ?_ ?_;·intro ai aj X D b;obtain⟨aT,aV⟩:=F_ D;simp at b;refine G_ ?_;exact H_ (A7l _ _ _ h b1 u _ _ _ X (ao.below Below.go) (aq.below Below.go) (ar.below Below.go))
 intro ai aj wa D b aU;clear aU;simp at b;have W:=b.1;have ah:=b.2.2.2.2.2.2.2.2.2.2;have am:=A_ W.1.1;have an:=A_ ah.1.1;clear b W ah;obtain⟨bv,bA⟩:=F_ D;have bD:w.1.size<wa.1.size:=ltg D;go_wp2_with fail;refine(A0n _ _ (mkR 1 2) (A2y h b1 u) _ _ wa am an).mono ?_;rintro _ wb ⟨b3,sb,rfl,T,ac,E⟩;obtain⟨ak,aX,aO,aZ,al,aY,aP,a1,rfl,aW,_,_⟩:=BK T;have ap:=A_ T;have Y:=A_ ac;clear T ac aW;obtain⟨bz,bB⟩:=F_ E;have bE:w.1.size<wb.1.size:=ltg E;go_wp2;refine BI (v:=AM #[AC (A0d (mkR 1 2) (A2y h b1 u)).1.1,QH ak aX aO,QH al aY aP]) (by simp[BO,results133,go_sem, *]) rfl ?_;refine A1s (lo:=w.1.size+1) ap Y.free (λaN E=>by have:=(Y.2 aN E).1;(try simp at this);omega) oS ?_ ?_;·exact Above.go
 exact Below.go
theorem D0w {xs:List Int} (h:A6a xs) (k:Int):-100<=at0 xs k/\at0 xs k<=100:=by
 unfold at0;by_cases b:k.toNat<xs.length;·rw[DY,CV b];exact h _ (List.getElem_mem b)
 rw[DY,List.getElem?_eq_none oS];decide
theorem D3n {xs:List Int} {k:Nat} (b:k<xs.length):xs.take (k+1)=xs.take k++[at0 xs k]:=by
 rw[List.take_add_one];unfold at0;simp[List.getD,CV b]
theorem B1a {w w':QT} {b:Nat} {o:Obj} (h:w.1[b]?=B o) (hb:Bw w w'):w'.1[b]?=B o:=(hb.block b (E_ h)).trans h
theorem D7h (w:QT) (g o:Nat) (v:AJ):w.grownBy (w.setCell ⟨g,o,I⟩ v) (B g) :=
 ⟨rfl,rfl,rfl,sI,λk _ hne=>Below.heap_setCell w ⟨g,o,I⟩ v k (λe=>hne (by rw[e]))⟩
theorem A3r {w:QT} {base g n cap:Nat} {e:TypeId} {xs:List AJ} {b o:Nat} {v:AJ} (h:w.ownsRow base e 1 (QH (B ⟨g,0,I⟩) n cap) n xs) (hb:b<base):(w.setCell ⟨b,o,I⟩ v).ownsRow base e 1 (QH (B ⟨g,0,I⟩) n cap) n xs :=
 h.kept (D7h w b o v) (.inr (by have h1:base<=g:=(EU h _ rfl).1;simp[IR];omega))
theorem D7c {a b n c:Nat} (h:a≠b):(QH (B ⟨b,0,I⟩) n c).ownBlock≠B a:=by simp[IR];exact λe=>h e.symm
theorem D9i (x:Int):∀ u∈([QS K x]:List AJ),u.oneCell'=AD:=by intro u hu;simp at hu;subst hu;rfl
def E2z (w:QT) (n:Nat) (xs ys:List Int) (e:Ending) (w':QT):Prop:=∃ v,e=.returned v/\Plc w' v n xs ys/\Bw w w'
def D124 (s:Int):Prop:=s=1\/s=2\/s=4
def E2d (s d:Int):Int:=s / Int.gcd s d*d
def E9f:TPoint:=⟨⟨⟨AF,[]⟩,[]⟩,⟨⟨AF,[]⟩,[]⟩⟩
def C3g (ps:List TPoint):Nat->Int
 |0=>1
 |k+1=>E2d (E2d (C3g ps k) (T_ (ps.getD k E9f).x)) (T_ (ps.getD k E9f).y)
structure CoS (r:TRat) (a S:Int):Prop where
 sm:A2a r=AD
 li:Lims r.1.2
 ne:NegOk r.1
 dn:D124 (T_ r)
 nu:-1000<=R_ r/\R_ r<=1000
 eq:a=R_ r*(S / T_ r)
def E5p (ps:List TPoint) (xs ys:List Int):Prop:=ps.length=xs.length/\ps.length=ys.length/\∀ (k:Nat) (p:TPoint),ps[k]?=B p->CoS p.x (at0 xs k) (C3g ps ps.length)/\CoS p.y (at0 ys k) (C3g ps ps.length)
theorem D1f {s d:Int} (h:D124 s) (b:D124 d):D124 (E2d s d):=by
 unfold D124;rcases h with rfl|rfl|rfl<;>rcases b with rfl|rfl|rfl<;>decide
theorem D5f {s d:Int} (h:D124 s) (b:D124 d):∃ g q,((Int.gcd s d:Nat):Int)=g/\¬ g=0/\K.wrap (s.tdiv g)=q/\K.wrap (q*d)=E2d s d:=by
 rcases h with rfl|rfl|rfl<;>rcases b with rfl|rfl|rfl<;>exact⟨_,_,rfl,dE,rfl,dE⟩
theorem D4e {S d n a:Int} (G:D124 S) (H:D124 d) (O:-1000<=n/\n<=1000) (e:a=n*(S / d)):∃ q,¬ d=0/\K.wrap (S.tdiv d)=q/\K.wrap (n*q)=a:=by
 have b:∃ q:Int,¬ d=0/\K.wrap (S.tdiv d)=q/\S / d=q/\(q=0\/q=1\/q=2\/q=4):=by rcases G with rfl|rfl|rfl<;>rcases H with rfl|rfl|rfl<;>exact⟨_,dE,rfl,dE,dE⟩
 obtain⟨q,h,u,D,E⟩:=b;refine⟨q,h,u,?_⟩;rw[e,D,IntWalk.i64_in];rcases E with rfl|rfl|rfl|rfl<;>omega
theorem D124.small {s:Int} (h:D124 s):0<=s/\s<=4:=by rcases h with rfl|rfl|rfl<;>decide
theorem E7s {ps:List TPoint} (h:∀ (k:Nat) (p:TPoint),ps[k]?=B p->D124 (T_ p.x)/\D124 (T_ p.y)):∀ k,k<=ps.length->D124 (C3g ps k)
 |0,_=>.inl rfl
 |k+1,hk=>by
  have h1:ps[k]?=B (ps[k]'oS):=CV oS
  have h2:=h k _ h1
  rw[C3g,DY,h1]
  exact D1f (D1f (E7s h k oS) h2.1) h2.2
theorem D4p (A:Option AH) (n c:Nat) (ps:List TPoint) (bs:List Nat) (xs ys:List Int) (w:QT) (O:Sl w A n c ps bs) (aK:E5p ps xs ys) (cf:A6a xs) (cg:A6a ys) (dt:n<=40) (du:0<n) :
  AR prog 115 #[QH A n c] w (E2z w n xs ys):=by
 have bP:=A_ O;have bM:=A_ aK;have bN:=A_ cf;have bO:=A_ cg;have bK:=A_ (show xs.length=n from aK.1.symm.trans O.1);have bL:=A_ (show ys.length=n from aK.2.1.symm.trans O.1);have bJ:=A_ (show ∀ k,k<=n->D124 (C3g ps k)from λk a2=>E7s (λj p aS=>⟨(aK.2.2 j p aS).1.dn,(aK.2.2 j p aS).2.dn⟩) k (by rw[O.1];exact a2));have ct:=A_ O.1;have cu:=A_ (show(1:Int)=C3g ps 0 from rfl);obtain⟨cm,b5,ci,cj,ck⟩:=info_parts E5x;clear O aK cf cg;go_enter func115,ntmps115;go_wp2_with fail;go_loopg [4,23] n (λg s4 s wr=>∃ (k:Nat) (sh:Int),k+g=n/\s4=QS K sh/\s=QS K k/\Hid (sh=C3g ps k)/\Bw w wr/\Hid (wr.1[w.1.size]?=B (AK #[QH I 0 0,QH I 0 0,QH I 0 0] 170))/\Hid (wr.1[w.1.size+1]?=B (AK #[QH A n c,QH I 0 0,QH I 0 0] 170)));case atStart =>
  refine⟨0,1,oS,rfl,rfl,cu.o,Below.go,?_,?_⟩;·exact(Below.heap_alloc _ _ _ sI).trans (CF w _)
  have:=CF (w.alloc (AK #[QH I 0 0,QH I 0 0,QH I 0 0] 170)) (AK #[QH A n c,QH I 0 0,QH I 0 0] 170);rw[EW]at this;exact this
 case round =>
  obtain⟨k,ab,a2,rfl,rfl,aL,W,aa,G⟩:=hrel;have aA:=A_ W;rcases BN k n with a3|a3
  ·rename QT=>a9
   have c0:(k:Int)<n:=oS;have dr:(k:Int)<=40:=oS;obtain⟨g,rfl⟩:∃ g,gk=g+1:=⟨gk - 1,oS⟩
   have cZ:=A_ (by omega:k+1+g=n);obtain⟨cF,c8,x,ad,au,ai,cI,ae,aw,aj,cJ,af,ax,ak,cL,ag,ay,al,cN,bl,cR,aM,cH,ao,a1,cK,cM,cO,aR⟩:=FC (bP.below W) a3;subst bl;obtain⟨p1,p2,_,aT,aU⟩:=E9v aR;have aX:=A_ aT;have aY:=A_ aU;obtain⟨b,h⟩:=bM.2.2 k x aM;obtain⟨az,a5⟩:∃ s,E2d ab (T_ x.x)=s:=⟨_,rfl⟩
   obtain⟨aV,a6⟩:∃ s,E2d az (T_ x.y)=s:=⟨_,rfl⟩
   have aZ:D124 ab:=by rw[aL.o];exact bJ.o k oS
   have ao:D124 az:=by rw[<-a5];exact D1f aZ b.dn
   have a1:D124 aV:=by rw[<-a6];exact D1f ao h.dn
   have cA:=A_ (by rw[C3g,DY,aM,<-a6,<-a5,aL.o];rfl:aV=C3g ps (k+1));obtain⟨dh,q1,ba,di,dv,b6⟩:=D5f aZ b.dn;obtain⟨dj,q2,bc,dk,dw,b7⟩:=D5f ao h.dn;rw[a5]at b6;rw[a6]at b7;have bf:0<=ab/\ab<=9223372036854775807:=by have:=aZ.small;omega
   have bg:0<=az/\az<=9223372036854775807:=by have:=ao.small;omega
   have u1:az<=268435456:=by have:=ao.small;omega
   have u2:aV<=268435456:=by have:=a1.small;omega
   obtain⟨aD,aq⟩:∃ d,T_ x.x=d:=⟨_,rfl⟩
   obtain⟨aE,ar⟩:∃ d,T_ x.y=d:=⟨_,rfl⟩
   obtain⟨bz,aI⟩:∃ d,R_ x.x=d:=⟨_,rfl⟩
   obtain⟨bA,aJ⟩:∃ d,R_ x.y=d:=⟨_,rfl⟩
   rw[aq]at ba b6;rw[ar]at bc b7;have bh:0<=aD/\aD<=9223372036854775807:=by have:=b.dn.small;omega
   have bi:0<=aE/\aE<=9223372036854775807:=by have:=h.dn.small;omega
   have Y:=A_ (And.intro bf (And.intro bg (And.intro bh bi)));have co:=A_ ba;have cp:=A_ bc;have D:=A_ (show A2a x.x=AD/\Lims x.x.1.2/\NegOk x.x.1/\R_ x.x=bz/\T_ x.x=aD from⟨b.sm,b.li,b.ne,aI,aq⟩);have E:=A_ (show A2a x.y=AD/\Lims x.y.1.2/\NegOk x.y.1/\R_ x.y=bA/\T_ x.y=aE from⟨h.sm,h.li,h.ne,aJ,ar⟩);clear a2 a3 aM aR aT aU W b h a5 a6 aZ ao a1 aq ar aI aJ bf bg bh bi ba bc aL;go_wp2_with fail;go_loopg [4,33] 2 (λg s4 s wr2=>∃ (i:Nat) (v:Int),i+g=2/\s4=QS K v/\s=QS K i/\Hid ((i=0/\v=ab)\/(i=1/\v=az)\/(i=2/\v=aV))/\Below ((a9.alloc (AK #[AC x.x.1.1,QH ad au ai,QH ae aw aj,AC x.y.1.1,QH af ax ak,QH ag ay al] 118)).alloc (AK #[AC x.x.1.1,QH ad au ai,QH ae aw aj,AC x.y.1.1,QH af ax ak,QH ag ay al] 35)).1.size ((a9.alloc (AK #[AC x.x.1.1,QH ad au ai,QH ae aw aj,AC x.y.1.1,QH af ax ak,QH ag ay al] 118)).alloc (AK #[AC x.x.1.1,QH ad au ai,QH ae aw aj,AC x.y.1.1,QH af ax ak,QH ag ay al] 35)) wr2);case atStart=>exact⟨0,ab,rfl,rfl,rfl,.inl ⟨rfl,rfl⟩,CG _ _⟩
   case round =>
    obtain⟨i,bB,bt,rfl,rfl,ch,ap⟩:=hrel;have ah:=A_ (show Bw a9 wr from IY ((AV _).alloc sI _) (ap.mono oR));obtain⟨dn,dp⟩:=F_ ap;have dx:a9.1.size+1<wr.1.size:=by have:=ap.size;simp at this;omega
    obtain⟨rfl,rfl⟩|⟨rfl,rfl⟩|⟨rfl,rfl⟩:=ch.o;all_goals clear ch
    ·obtain rfl:gk=1+1:=oS
     clear bt;go_wp2_with fail;have C:=A1g _ x.x _ (wr.alloc (AK #[AC x.x.1.1,QH ad au ai,QH ae aw aj] 35)) ((aX.below ah).below (AV _));rw[D.o.1]at C;refine C.mono ?_;clear C;rintro _ ac ⟨rfl,X⟩;obtain⟨bp,bq⟩:=F_ X;have Z:=A_ (show Bw wr ac from IY (AV _) (X.mono sI));go_wp2_with fail;have C:=A3c _ x.x _ ac ((aX.below ah).below Z) D.1 D.2.1 D.2.2.1;rw[D.o.2.2.2.1,D.o.2.2.2.2]at C;refine C.mono ?_;clear C;rintro _ a7 ⟨rfl,aF⟩;have aN:=A_ (AI Z aF);go_wp2_with fail;have C:=B2z bB aD a7 Y.1.1 Y.2.2.1.1 Y.1.2 Y.2.2.1.2;rw[co.o]at C;refine C.mono ?_;clear C;rintro _ w3 ⟨rfl,bn⟩;have aO:=A_ (AI aN bn);go_wp2_with fail;go_roundg 1;case measure=>omega
     case rel=>exact⟨0+1,az,rfl,gN,gN,.inr (.inl ⟨rfl,rfl⟩),ap.trans (aO.mono ap.size)⟩
    ·obtain rfl:gk=0+1:=oS
     clear bt;go_wp2_with fail;have C:=A1g _ x.y _ (wr.alloc (AK #[AC x.y.1.1,QH af ax ak,QH ag ay al] 35)) ((aY.below ah).below (AV _));rw[E.o.1]at C;refine C.mono ?_;clear C;rintro _ ac ⟨rfl,X⟩;obtain⟨bp,bq⟩:=F_ X;have Z:=A_ (show Bw wr ac from IY (AV _) (X.mono sI));go_wp2_with fail;have C:=A3c _ x.y _ ac ((aY.below ah).below Z) E.1 E.2.1 E.2.2.1;rw[E.o.2.2.2.1,E.o.2.2.2.2]at C;refine C.mono ?_;clear C;rintro _ a7 ⟨rfl,aF⟩;have aN:=A_ (AI Z aF);go_wp2_with fail;have C:=B2z bB aE a7 Y.2.1.1 Y.2.2.2.1 Y.2.1.2 Y.2.2.2.2;rw[cp.o]at C;refine C.mono ?_;clear C;rintro _ w3 ⟨rfl,bn⟩;have aO:=A_ (AI aN bn);go_wp2_with fail;go_roundg 0;case measure=>omega
     case rel=>exact⟨1+1,aV,rfl,gN,gN,.inr (.inr ⟨rfl,rfl⟩),ap.trans (aO.mono ap.size)⟩
    clear bt;go_wp2_with fail;go_roundg g;case measure=>omega
    case rel=>exact⟨k+1,bB,cZ,rfl,gN,cA,AI aA ah,B1a aa ah,B1a G ah⟩
  obtain rfl:k=n:=oS;have c0:¬ ((k:Int)<k):=oS;have bI:=A_ (by rw[aL.o];exact bJ k (BH _):D124 ab);have cn:=A_ (by rw[ct.o,aL.o]:C3g ps ps.length=ab);clear a2 a3 W aL;go_wp2_with fail;have bS:=A_ (show((wr.alloc (AK #[] 3)).alloc (AK #[] 3)).ownsRow (w.1.size+2) 3 1 (QH (B ⟨wr.1.size,0,I⟩) 0 0) 0 []from I_ (IW wr #[] 0 (by have:=E_ G;omega) (DV _) rfl) (AV _));have bT:=A_ (show((wr.alloc (AK #[] 3)).alloc (AK #[] 3)).ownsRow (w.1.size+2) 3 1 (QH (B ⟨wr.1.size+1,0,I⟩) 0 0) 0 []from by have:=IW (base:=w.1.size+2) (e:=3) (size:=1) (wr.alloc (AK #[] 3)) #[] 0 (by have:=E_ G;simp;omega) (DV _) rfl;rw[EW]at this;exact this);go_loopg [11,12,62] k (λg s11 s12 s wr=>∃ (j H am u an:Nat),j+g=k/\s11=QH (B ⟨H,0,I⟩) j am/\s12=QH (B ⟨u,0,I⟩) j an/\s=QS K j/\Hid (wr.ownsRow (w.1.size+2) 3 1 (QH (B ⟨H,0,I⟩) j am) j ((xs.take j).map (QS K)))/\Hid (wr.ownsRow (w.1.size+2) 3 1 (QH (B ⟨u,0,I⟩) j an) j ((ys.take j).map (QS K)))/\Hid (H≠u)/\Bw w wr/\Hid (wr.1[w.1.size]?=B (AK #[QH I 0 0,QH I 0 0,QH I 0 0] 170))/\Hid (wr.1[w.1.size+1]?=B (AK #[QH A k c,QH I 0 0,QH I 0 0] 170)));case atStart=>exact⟨0,wr.1.size,0,wr.1.size+1,0,oS,rfl,rfl,rfl,bS.o,bT.o,(by omega:wr.1.size≠wr.1.size+1),AI aA.o ((AV _).alloc sI _),B1a aa.o ((AV _).alloc sI _),B1a G.o ((AV _).alloc sI _)⟩
  case round =>
   clear aa G bS bT aA;obtain⟨j,H,am,u,an,aS,rfl,rfl,rfl,bv,ce,a4,W,aa,G⟩:=hrel;have aA:=A_ W;rcases BN j k with aH|aH
   ·have cY:(j:Int)<k:=oS
    have dq:(j:Int)<=40:=oS;obtain⟨g,rfl⟩:∃ g,gk=g+1:=⟨gk - 1,oS⟩
    have cX:=A_ (by omega:j+1+g=k);obtain⟨cF,c8,x,ad,au,ai,cI,ae,aw,aj,cJ,af,ax,ak,cL,ag,ay,al,cN,bl,cR,aM,cH,ao,a1,cK,cM,cO,aR⟩:=FC (bP.below W) aH;subst bl;obtain⟨p1,p2,_,aT,aU⟩:=E9v aR;have aX:=A_ aT;have aY:=A_ aU;obtain⟨b,h⟩:=bM.2.2 j x aM;rw[cn.o]at b h;have bU:=A_ (D3n (xs:=xs) (k:=j) (by rw[bK.o];exact aH));have bV:=A_ (D3n (xs:=ys) (k:=j) (by rw[bL.o];exact aH));have cE:=D0w bN (j:Int);have bb:=D0w bO (j:Int);obtain⟨a,bm⟩:∃ a,at0 xs (j:Int)=a:=⟨_,rfl⟩
    obtain⟨aC,bo⟩:∃ aC,at0 ys (j:Int)=aC:=⟨_,rfl⟩
    rw[bm]at bU cE;rw[bo]at bV bb;obtain⟨aD,aq⟩:∃ d,T_ x.x=d:=⟨_,rfl⟩
    obtain⟨aE,ar⟩:∃ d,T_ x.y=d:=⟨_,rfl⟩
    obtain⟨bz,aI⟩:∃ d,R_ x.x=d:=⟨_,rfl⟩
    obtain⟨bA,aJ⟩:∃ d,R_ x.y=d:=⟨_,rfl⟩
    obtain⟨dy,cV,c4,c1⟩:=D4e bI b.dn b.nu b.eq;obtain⟨dz,cW,c5,c2⟩:=D4e bI h.dn h.nu h.eq;rw[bm,aI]at c1;rw[bo,aJ]at c2;rw[aq]at cV c4;rw[ar]at cW c5;have D:=A_ (show A2a x.x=AD/\Lims x.x.1.2/\NegOk x.x.1/\R_ x.x=bz/\T_ x.x=aD from⟨b.sm,b.li,b.ne,aI,aq⟩);have E:=A_ (show A2a x.y=AD/\Lims x.y.1.2/\NegOk x.y.1/\R_ x.y=bA/\T_ x.y=aE from⟨h.sm,h.li,h.ne,aJ,ar⟩);have cB:=A_ (by unfold inB;simp;omega:inB (-536870912) a 536870912=AD);have cD:=A_ (by unfold inB;simp;omega:inB (-536870912) aC 536870912=AD);have bG:=A_ (by unfold BG;omega:j+1<=BG);have bH:=A_ (by omega:(j+1)*8<=140737488355328);clear aS aH aM aR aT aU bm bo W b h aq ar aI aJ;go_wp2_with fail;have C:=A3c _ x.x _ (wr.alloc (AK #[AC x.x.1.1,QH ad au ai,QH ae aw aj,AC x.y.1.1,QH af ax ak,QH ag ay al] 118)) (aX.below (AV _)) D.1 D.2.1 D.2.2.1;rw[D.o.2.2.2.1,D.o.2.2.2.2]at C;refine C.mono ?_;clear C;rintro _ ac ⟨rfl,X⟩;obtain⟨bp,bq⟩:=F_ X;have Z:=A_ (show Bw wr ac from IY (AV _) (X.mono sI));go_wp2_with fail;have C:=A3c _ x.y _ ac (aY.below Z) E.1 E.2.1 E.2.2.1;rw[E.o.2.2.2.1,E.o.2.2.2.2]at C;refine C.mono ?_;clear C;rintro _ a7 ⟨rfl,aF⟩;have aN:=A_ (AI Z aF);go_wp2_with fail;refine A0g ?_;iterate 12 refine C_ _ ?_
    intro dA dB w3 bZ b4 cU;clear cU;simp at b4;go_simp;clear b4;have aO:=A_ (AI aN bZ);go_wp2_with fail;have C:=A0s a (-536870912) 536870912 w3;rw[cB.o]at C;refine C.mono ?_;clear C;rintro _ c9 ⟨rfl,b0⟩;have cq:=A_ (AI aO b0);go_wp2_with fail;have C:=A0s aC (-536870912) 536870912 c9;rw[cD.o]at C;refine C.mono ?_;clear C;rintro _ aW ⟨rfl,b3⟩;have aB:=A_ (AI cq b3);clear X bp bq aF bZ b0 b3;have ca:=I_ bv aB;have be:=A_ (I_ ce aB);have aP:=A_ (by have:=E_ G;have:=aB.size;omega:w.1.size+2<=aW.1.size);go_wp2_with (first|(at_builtin;refine A1m rfl _ _ 31 rfl (w.1.size+2) 3 cm (QS K 0) 1 8 underlying31 b5 ci cj ck rfl dE u j an ((ys.take j).map (.int K)) gD (((be.alloc (AK #[QS K a] 3)).kept aG (.inr (D7c a4))).alloc _) ⟨a8.1.size,0,I⟩ 1 1 [QS K aC] gD rfl (JL _ _ _) (D9i _) bG bH (A1a (BM (A1a aP _) aG.size) _) ?_;intro bj bY bD cd br b9)|(at_builtin;refine A1m rfl _ _ 31 rfl (w.1.size+2) 3 cm (QS K 0) 1 8 underlying31 b5 ci cj ck rfl dE H j am ((xs.take j).map (.int K)) gD (ca.alloc _) ⟨aW.1.size,0,I⟩ 1 1 [QS K a] gD rfl (JL _ _ _) (D9i _) bG bH (A1a aP _) ?_;intro aQ bX a8 cb aG b8));have bQ:=A_ cb;have cs:=A_ aG;have bR:=A_ b8;have cc:=(be.alloc (AK #[QS K a] 3)).kept aG (.inr (D7c a4));have bW:=A_ (by have:=aG.size;simp at this;have:=aP.o;omega:w.1.size+2<=a8.1.size);clear cb aG b8 ca;have cQ:=A_ cc;have bE:w.1.size+2<=aQ/\aQ<a8.1.size:=EU bQ _ rfl;have db:w.1.size+2<=u/\u<a8.1.size:=EU cQ _ rfl;have bF:w.1.size+2<=u/\u<aW.1.size:=EU be _ rfl;have da:w.1.size+2<=H/\H<wr.1.size:=EU bv _ rfl;have cz:=A_ (show aQ≠bj by
     rcases bR with T|T<;>rcases b9 with h2|h2;·rw[T,h2];exact a4
     ·have:=bE.2;simp at h2;omega
     ·rw[h2,T];simp;have:=bF.2;omega
     have:=bE.2;simp at h2;omega)
    have cv:=A_ (show bD.ownsRow (w.1.size+2) 3 1 (QH (B ⟨aQ,0,I⟩) (j+1) bX) (j+1) ((xs.take (j+1)).map (QS K)) by
     have cP:=(bQ.alloc (AK #[QS K aC] 3)).kept br (.inr (D7c (λe=>by
      rcases bR with T|T;·exact a4 (T.symm.trans e.symm)
      simp at T;have dl:u<aW.1.size:=bF.2;omega)))
     rw[bU.o,KJ];exact cP)
    have cx:=A_ (show bD.ownsRow (w.1.size+2) 3 1 (QH (B ⟨bj,0,I⟩) (j+1) bY) (j+1) ((ys.take (j+1)).map (QS K)) by rw[bV.o,KJ];exact cd)
    have bd:=A_ (show Below (w.1.size+2) aW bD from
     ((((CG _ _).alloc aP _).grown cs (A1a aP _) (λk2 bu=>by injection bu with T;omega)).alloc bW.o _).grown br (A1a bW.o _) (λk2 bu=>by injection bu with T;omega))
    clear cd br b9 cc bE db bF da;go_wp2_with fail;go_roundg g;case measure=>omega
    case rel=>exact⟨j+1,aQ,bX,bj,bY,cX.o,rfl,rfl,gN,cv.o,cx.o,cz.o,(AI aA.o aB.o).trans (bd.o.mono oS),(bd.o.block _ oS).trans (B1a aa.o aB.o),(bd.o.block _ oS).trans (B1a G.o aB.o)⟩
   obtain rfl:j=k:=oS;have cY:¬ ((j:Int)<j):=oS;have cw:=A_ (by have:=bv.o;rwa [CZ (by rw[bK.o];exact BH _)]at this:wr.ownsRow (w.1.size+2) 3 1 (QH (B ⟨H,0,I⟩) j am) j (xs.map (QS K)));have cy:=A_ (by have:=ce.o;rwa [CZ (by rw[bL.o];exact BH _)]at this:wr.ownsRow (w.1.size+2) 3 1 (QH (B ⟨u,0,I⟩) j an) j (ys.map (QS K)));have ds:w.1.size+1<wr.1.size:=E_ G;obtain⟨a0,dg⟩:=B_ aa (j:=0) rfl;obtain⟨dc,bh⟩:=B_ aa (j:=1) rfl;obtain⟨dd,bi⟩:=B_ aa (j:=2) rfl;obtain⟨de,bf⟩:=B_ G (j:=0) rfl;obtain⟨b1,bg⟩:=B_ G (j:=1) rfl;obtain⟨b2,df⟩:=B_ G (j:=2) rfl;clear aS aH W;go_wp2;refine BI (v:=AM #[QH A j c,QH (B ⟨H,0,I⟩) j am,QH (B ⟨u,0,I⟩) j an]) (by simp[BO,results115,go_sem, *]) rfl ?_;obtain⟨bx,c6⟩:=A7v (A3r (A3r (A3r (A3r (A3r cw.o (by omega:w.1.size+1<w.1.size+2)) (by omega:w.1.size+1<w.1.size+2)) (by omega:w.1.size<w.1.size+2)) (by omega:w.1.size<w.1.size+2)) (by omega:w.1.size<w.1.size+2)) (λx O=>by have:=bN.o x O;constructor<;>omega);obtain⟨cG,c7⟩:=A7v (A3r (A3r (A3r (A3r (A3r cy.o (by omega:w.1.size+1<w.1.size+2)) (by omega:w.1.size+1<w.1.size+2)) (by omega:w.1.size<w.1.size+2)) (by omega:w.1.size<w.1.size+2)) (by omega:w.1.size<w.1.size+2)) (λx O=>by have:=bO.o x O;constructor<;>omega);refine⟨_,rfl,⟨A,c,H,0,am,u,0,an,bx,cG,rfl,c6,c7⟩,?_⟩;have dm:=aA.o;exact Below.go

theorem C8w (A:Option AH) (c:Nat) (b b1 u:TPoint) (bs:List Nat) (w:QT) (E:Sl w A 3 c [b,b1,u] bs) (ak:A7m [b,b1,u]=AD) :
  AR prog 291 #[QH A 3 c] w (A0c w (A5x b b1 u)):=by
 have ad:=A_ E;have aD:=A_ ak;clear ak E;go_enter func291,ntmps291;go_wp2_with fail;have C:=B2m A 3 c [b,b1,u] bs _ (ad.below (AV (w:=w) (AK #[AC AF,QH I 0 0,QH I 0 0,AC AF,QH I 0 0,QH I 0 0] 118)));rw[aD.o]at C;refine C.mono ?_;clear C;rintro _ ap ⟨rfl,Y⟩;have E:Sl ap A 3 c [b,b1,u] bs:=(ad.below (AV _)).below Y;obtain⟨bM,bP⟩:=F_ Y;have bS:w.1.size<ap.1.size:=ltg Y;have O:=A_ E;obtain⟨bq,b9,bp,P1,bV,bv,p1,P2,bW,bz,p2,bg,bX,bA,cc,bh,bY,bB,cd,a2,bL,al,aE,aF,aG,aH,aI,aJ,ag⟩:=FC O (by decide:0<3);obtain⟨br,ca,b2,Q1,bZ,bD,q1,Q2,b0,bE,q2,bi,b3,bF,Z,bj,b4,bG,ce,T,a3,am,aK,aL,aM,aN,aO,aP,ah⟩:=FC O (by decide:1<3);obtain⟨bt,cb,bu,bl,b5,bH,cf,bm,b6,bI,cg,bn,b7,bJ,ch,bo,b8,bK,ci,W,a4,an,aQ,aR,aS,aT,aU,aV,ai⟩:=FC O (by decide:2<3);subst a2;injection T with T;injection T with h1 h2 _;subst h1;subst h2;injection W with W;injection W with h1 h2 _;subst h1;subst h2;simp at al am an;subst al;subst am;subst an;simp at aE aF aG aH aI aJ aK aL aM aN aO aP aQ aR aS aT aU aV;have az:=A_ ag;have aB:=A_ ah;have aC:=A_ ai;clear a3 a4 ag ah ai E;go_wp2_with fail;refine W_ 12 kR kR kR kR kR ?_;simp only[GE,ET,GG,EH];refine D_ (BP (mkR 1 3)) ?_ ?_;·intro aa ab G D h;obtain⟨ae,af⟩:=F_ D;simp at h;refine G_ ?_;exact H_ (A7u 1 3 G oO oO dE)
 iterate 6 refine C_ _ ?_
 refine D_ (BP (A3y b b1)) ?_ ?_;·intro aa ab G D h;obtain⟨ae,af⟩:=F_ D;simp at h;refine G_ ?_;exact H_ (A4x _ _ b b1 _ _ G (az.below Below.go) (aB.below Below.go))
 iterate 3 refine C_ _ ?_
 refine D_ (BP (A3y (A3y b b1) u)) ?_ ?_;·intro aa ab G D h;obtain⟨ae,af⟩:=F_ D;simp at h;refine G_ ?_;exact H_ (A4x _ _ (A3y b b1) u _ _ G h.1.1 (aC.below Below.go))
 intro aa ab wa D h a5;clear a5;simp at h;have Z:=h.1;have ao:=h.2.2.2.2.2.2.2.2.2.2.2;have ax:=A_ Z.1.1;have ay:=A_ ao.1.1;clear h Z ao;obtain⟨bN,bQ⟩:=F_ D;have bT:w.1.size<wa.1.size:=ltg D;go_wp2_with fail;refine(A1n _ _ (mkR 1 3) (A3y (A3y b b1) u) _ _ wa ax ay).mono ?_;rintro _ wb ⟨cj,sb,rfl,X,aj,H⟩;obtain⟨aq,a7,aX,bc,ar,a8,aY,bd,au,a9,aZ,be,aw,ba,a1,bf,rfl,a6,_,_,_,_⟩:=DN X;have aA:=A_ X;have ac:=A_ aj;clear X aj a6;obtain⟨bO,bR⟩:=F_ H;have bU:w.1.size<wb.1.size:=ltg H;go_wp2;refine BI (v:=AM #[AC (A0v (mkR 1 3) (A3y (A3y b b1) u)).x.1.1,QH aq a7 aX,QH ar a8 aY,AC (A0v (mkR 1 3) (A3y (A3y b b1) u)).y.1.1,QH au a9 aZ,QH aw ba a1]) (by simp[BO,results291,go_sem, *]) rfl ?_;refine A1s (lo:=w.1.size+1) aA ac.free (λaW H=>by have:=(ac.2 aW H).1;(try simp at this);omega) oS ?_ ?_;·exact Above.go
 exact Below.go

theorem B5c (v:AJ) (p:TPoint) (b:List Nat) (w:QT) (ah:Agg w v p b) (ok:A1b p=AD) :
  AR prog 94 #[v] w (A0c w p):=by
 have O:J_ p.x=AD/\J_ p.y=AD:=by simpa[A1b]using ok
 have W:=A_ (ratOkB_iff.1 O.1);have X:=A_ (ratOkB_iff.1 O.2);obtain⟨aJ,aZ,aN,a4,aK,a1,aO,a5,aL,a2,aP,a6,aM,a3,aQ,a7,rfl,rfl,ad,ae,af,ag⟩:=DN ah;have P1:=A_ (CU (x:=p.x) ad ae);have P2:=A_ (CU (x:=p.y) af ag);clear ad ae af ag ah ok O;go_enter func94,ntmps94;go_wp2_with fail;refine W_ 6 kR kR kR kR kR ?_;simp only[GE,ET,GG,EH];iterate 2 refine C_ _ ?_
 refine D_ (BP p.x) ?_ ?_;·intro ai D T u h;obtain⟨aA,aB⟩:=F_ u;simp at h;refine G_ ?_;exact H_ (A3n _ p.x _ T (P1.below Below.go) (by have:=W.num24;omega) (by have:=W.o.den24;omega))
 iterate 2 refine C_ _ ?_
 refine D_ (BP p.y) ?_ ?_;·intro ai D T u h;obtain⟨aA,aB⟩:=F_ u;simp at h;refine G_ ?_;exact H_ (A3n _ p.y _ T (P2.below Below.go) (by have:=X.num24;omega) (by have:=X.o.den24;omega))
 intro ai D wa u h (Y:Hid _);simp at h;have aG:=h.2.2.1;have aH:=h.2.2.2.2.2;obtain⟨⟨E,Z⟩,ab⟩:=aG;obtain⟨⟨G,aa⟩,ac⟩:=aH;obtain⟨aj,aC,aq,aR,ak,aD,ar,aS,ax,z4,_,_⟩:=BK E;obtain⟨al,aE,au,aT,am,aF,aw,aU,ay,aI,_,_⟩:=BK G;rw[ax]at E;rw[ay]at G;have an:=A_ (B4l (x:=p) E G);have ao:=A_ (Free.join Z aa (Y 2 5 dE dE dE))
 have ap:=A_ (show ∀ b∈D 2++D 5,w.1.size+2<=b from λb az=>by
  rcases CO.1 az with H|H;·have:=(ab b H).1;(try simp at this);omega
  have:=(ac b H).1;(try simp at this);omega)
 clear h Y E Z ab G aa ac z4 aI;generalize D 2++D 5=zs at *;obtain⟨aV,aW⟩:=F_ u;have aX:w.1.size<wa.1.size:=ltg u;have aY:w.1.size+1<wa.1.size:=ltg u;go_wp2;refine BI (v:=AM #[AC p.x.1.1,QH aj aC aq,QH ak aD ar,AC p.y.1.1,QH al aE au,QH am aF aw]) (by simp[BO,results94,go_sem, *]) rfl ?_;refine A1s (lo:=w.1.size+2) an.o ao.o ap.o oS ?_ ?_;·exact Above.go
 exact Below.go

theorem A8m (v1 v2:AJ) (r s:TRat) (b1 b2:List Nat) (w:QT) (b:Agg w v1 r b1) (X:Agg w v2 s b2) :
  AR prog 139 #[v1,v2] w (A0c w (A3u r s)):=by
 have ab:=A_ b;have aj:=A_ X;obtain⟨ao,n1,aw,aE,ap,n2,ax,aF,rfl,rfl,-,-⟩:=BK b;obtain⟨aq,af,c3,aG,ar,aD,ay,aH,rfl,rfl,W,ae⟩:=BK X;have QI:=A_ (CU (x:=(⟨⟨s.1.1,s.2⟩,s.1.2⟩:TRat)) ae W);have Z:=A_ W.1;clear W ae b X;go_enter func139,ntmps139;go_wp2_with fail;refine AR.new4 λw0 N=>?_;refine(A1r (B ⟨w.1.size+1+1+1,0,I⟩) 2 2 [r,s] _ w0 (sl2 N.n (ab.below N.b) (aj.below N.b))).mono ?_;rintro _ an ⟨rfl,E⟩;have h:=A_ (AI N.b E);obtain⟨aA,-,aB⟩:=bx (A0z N.k E);obtain⟨ks,-,aC⟩:=bx (A0z N.l E);have O:=A_ (A0z N.m E);clear E N;obtain⟨ko,ac,lo⟩:=bx O;rw[show [r,s].all J_=(J_ r&&J_ s) by simp];rcases Bool.eq_false_or_eq_true (J_ r&&J_ s)with H|H
 rotate_left;·have D:=A_ (by unfold A3u;rw[H];rfl:A3u r s=A0h);go_wp2;refine BI (v:=AM #[AC AF,QH I 0 0,QH I 0 0]) (by simp[BO,results139,go_sem, *]) rfl ?_;rw[D.o];exact A3e (h.grown (A5y (A5y (A5y (B3a _ _)))) h.size (λx b=>by injection b with b;omega))
 cases u:s.1.2 with
 |nil =>
  have D:=A_ (by unfold A3u;rw[H,u];rfl:A3u r s=A0h)
  obtain rfl:0=af:=by have:=Z.o;rw[u]at this;exact this
  clear u
  go_wp2
  refine BI (v:=AM #[AC AF,QH I 0 0,QH I 0 0]) (by simp[BO,results139,go_sem, *]) rfl ?_
  rw[D.o]
  exact A3e (h.grown (A5y (A5y (A5y (B3a _ _)))) h.size (λx b=>by injection b with b;omega))
 |cons x t =>
 have D:=A_ (by unfold A3u;rw[H,u];rfl:A3u r s=A0d r ⟨⟨s.1.1,s.2⟩,s.1.2⟩);have az:((af:Int)==0)=AF:=by have:=Z.o;rw[u]at this;simp at this;simp;omega
 clear u;go_wp2_with fail;refine(A0n _ _ r ⟨⟨s.1.1,s.2⟩,s.1.2⟩ _ _ an (ab.below h) (QI.below h)).mono ?_;rintro _ aK ⟨v,au,rfl,T,ad,G⟩;obtain⟨ag,m1,al,aI,ah,m2,am,aJ,rfl,-,-,-⟩:=BK T;have ai:=A_ T;have aa:=A_ ad;have Y:=A_ G;clear T ad G ko ac lo;obtain⟨ko,ac,lo⟩:=bx (A0z O Y);go_wp2;refine BI (v:=AM #[AC (A0d r ⟨⟨s.1.1,s.2⟩,s.1.2⟩).1.1,QH ag m1 al,QH ah m2 am]) (by simp[BO,results139,go_sem, *]) rfl ?_;rw[D.o];have:=E_ O;exact B8v ai aa.free (λak G=>by have:=(aa.2 ak G).1;omega) (AI h.o Y.o) oS (A5y (A5y (A5y (B3a _ _))))
theorem A9z (v1 v2:AJ) (r s:TRat) (b1 b2:List Nat) (w:QT) (hx:Agg w v1 r b1) (hy:Agg w v2 s b2) (_:J_ r=AD) (_:J_ s=AD) (_:s.1.2≠[]) :
  AR prog 139 #[v1,v2] w (A0c w (A3u r s)):=A8m v1 v2 r s b1 b2 w hx hy
end Go.Proofs.YtbkilakncnlebaaGreatDoor.X
