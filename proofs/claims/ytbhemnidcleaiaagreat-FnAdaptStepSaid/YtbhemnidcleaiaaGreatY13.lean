/- A part of the proof. -/
import Derived.Test.YtbhemnidcleaiaaGreatY11
import Derived.Test.YtbhemnidcleaiaaGreatY4
set_option linter.constructorNameAsVariable false
set_option maxHeartbeats 16000000
set_option maxRecDepth 10000
namespace Go.XB
open Go.RowKit
theorem Sl.first {α:Type} [Dat α] {w:World} {A:Option Addr} {n c:Nat} {xs:List α} {I:List Nat} (h:Sl w A n c xs I) {k:Nat} (ad:k<=n):∃ bs',Sl w A k c (xs.take k) bs':=by
 obtain⟨Z,aa,H,ab,K⟩:=h;rcases Nat.eq_zero_or_pos k with G|G;·subst G;exact⟨[],sI,Nat.zero_le _,H,λ_=>rfl,λh=>absurd h oM⟩
 obtain⟨D,Y,E,O,ac,X,S,T⟩:=K oM;refine⟨D::(E.take k).flatten,sO,oM,H,λh=>absurd h oM,λ_=>⟨D,Y,E.take k,O,rfl,by simp[X],S,λj x J b u=>?_⟩⟩;rw[List.getElem?_take]at b u;split at b;·rename_i W;rw[if_pos W]at u;exact T j x J b u
 cases b
theorem E8q {α:Type} {p:α->Bool} {xs:List α} {k:Nat} {x:α} (h:xs.all p=true) (hx:xs[k]?=some x):p x=true:=List.all_eq_true.1 h x (List.mem_of_getElem? hx)
theorem E1i {α:Type} [DecidableEq α] {xs:List α} {k:Nat} {x:α} (h:xs.Nodup) (I:xs[k]?=some x):(xs.take k).any (λy=>decide (x=y))=false:=by
 rw[List.any_eq_false];intro y J;obtain⟨j,b⟩:=List.mem_iff_getElem?.1 J;rw[List.getElem?_take]at b;split at b;·rename_i H;have E:=List.getElem?_eq_some_iff.1 I;have G:=List.getElem?_eq_some_iff.1 b;obtain⟨l1,u⟩:=E;obtain⟨l2,D⟩:=G;have:=List.pairwise_iff_getElem.1 h j k l2 l1 H;rw[u,D]at this;simp;exact λe=>this e.symm
 cases b
end Go.XB
namespace Go.Proofs.YtbhemnidcleaiaaGreat.X
open Go.RowKit Go.XB Go.XN Proofs.Tryz
attribute [local go_sem] L_ opAt N_ M_ Region.wanted yielded
attribute [local simp] N_ M_ MP.eq MP.agg MP.sl A0r
theorem D6u (f:Nat) (ae:A4f f) (I:Value) (A:Option Addr) (n c:Nat) (xs:List TPoint) (ac:List Nat) (w:World) (p:TPoint->Bool) (u:Sl w A n c xs ac)
  (T:∀ (v:Value) (x:TPoint) (b:List Nat) (w':World),Bw w w'->x∈xs->Agg w' v x b->Calls prog f #[v,I] w' (A0b w' (.bool (p x)))) :
  Calls prog 195 #[.slice A n c,.func (.func f) #[] #[I]] w (B9x w (xs.any p)):=by
 have Z:=A_ u.1;have ab:=A_ u;have aa:=A_ T;unfold A4f at ae;have ah:n<=maxLen:=Nat.le_trans u.2.1 u.2.2.1;unfold maxLen at ah;clear u T;go_enter func195,ntmps195;go_wp2_with fail;go_loopg [8] n (λg s8 wr=>∃ k:Nat,k+g=n/\s8=.int .i64 k/\Hid ((xs.take k).any p=false)/\Bw w wr);case atStart=>exact⟨0,oM,rfl,by show(xs.take 0).any p=false;simp,Below.refl _ _⟩
 case round =>
  obtain⟨k,S,rfl,J,D⟩:=hrel;have Y:=A_ D;rcases Nat.lt_or_ge k n with h|h
  ·obtain⟨am,aE,x,ai,m1,an,aF,aj,m2,ao,aG,ak,aC,ap,aH,al,aD,aq,aI,rfl,aA,W,ar,au,aw,ax,ay,az,K⟩:=TPoint.elemA (Sl.below ab D) h
   have G:=A_ W;have X:=A_ K;have ag:(k:Int)<n:=oM;obtain⟨g,rfl⟩:∃ g,gk=g+1:=⟨gk - 1,oM⟩
   have af:=A_ (by omega:k+1+g=n);have aB:k+1<=n:=h;clear W S h K;go_wp2_with fail;refine(aa _ x _ wr Y (List.mem_of_getElem? G) X).mono ?_;rintro _ aJ ⟨rfl,ad⟩;have O:=Below.next D ad;cases E:p x
   ·have H:=A_ (B6c G J E)
    clear E;go_wp2_with fail;go_roundg g;case measure=>omega
    case rel=>exact⟨k+1,af,gN,H,O⟩
   have H:=A_ (D1e G E);clear E;go_wp2;go_ret;exact⟨k,rfl,by rw[H.o];simp,O⟩
  have e:=A_ (show xs.any p=false by have:=J.o;rwa [List.take_of_length_le (by rw[Z.o];omega)]at this);have ag:¬ ((k:Int)<n):=oM;clear S h;go_wp2;go_ret;exact⟨-1,rfl,by rw[e.o];rfl,D⟩

theorem C8o (f:Nat) (D:A4f f) (h:Value) (A:Option Addr) (n c:Nat) (xs:List TPoint) (u:List Nat) (w:World) (p:TPoint->Bool) (G:Sl w A n c xs u)
  (E:∀ (v:Value) (x:TPoint) (b:List Nat) (w':World),Bw w w'->x∈xs->Agg w' v x b->Calls prog f #[v,h] w' (A0b w' (.bool (p x)))) :
  Calls prog 139 #[.slice A n c,.func (.func f) #[] #[h]] w (A0b w (.bool (xs.any p))):=by
 have K:=A_ G;have J:=A_ E;have I:=A_ D;clear G E D;go_enter func139,ntmps139;go_wp2_with fail;refine(D6u f I h A n c xs u _ p K J).mono ?_;rintro _ S ⟨r,rfl,e,O⟩;have H:=A_ e;clear e;go_wp2;go_ret;exact⟨Q_ H,O⟩

theorem B1t:A4f 140:=λa w=>kR
theorem C1m (v:Value) (x:TPoint) (b:List Nat) (g:Nat) (u0 u1 u2 D u4 E:Value) (y:TPoint) (J:List Nat) (w:World) (u:Agg w v x b) (h:w.1[g]?=some (.cells #[u0,u1,u2,D,u4,E] 38)) (G:Agg w (.agg #[u0,u1,u2,D,u4,E]) y J) :
  Calls prog 140 #[v,.pointer (some ⟨g,0,none⟩)] w (A0b w (.bool (decide (y=x)))):=by
 have H:=A_ u;have I:=A_ G;obtain⟨W,al,af,ap,X,am,ag,aq,Y,an,ah,ar,Z,ao,ai,au,rfl,rfl,K,O,S,T⟩:=TPoint.agg u;have aa:=(B_ h (j:=0) (v:=u0) rfl).1;have ab:=(B_ h (j:=1) (v:=u1) rfl).1;have ac:=(B_ h (j:=2) (v:=u2) rfl).1;have c3:=(B_ h (j:=3) (v:=D) rfl).1;have ad:=(B_ h (j:=4) (v:=u4) rfl).1;have ae:=(B_ h (j:=5) (v:=E) rfl).1;have ak:g<w.1.size:=E_ h;clear K O S T u G h;go_enter func140,ntmps140;go_wp2_with fail;refine(B1e _ _ y x _ _ _ (I.below Below.go) (H.below Below.go)).mono ?_;rintro _ aw ⟨rfl,aj⟩;go_wp2;go_ret;exact⟨rfl,Below.go⟩

theorem C4p (A:Option Addr) (n c:Nat) (xs:List TPoint) (ay:List Nat) (w:World) (H:Sl w A n c xs ay) (ad:xs.all A1b=true) (ag:xs.Nodup) (aP:3<=n) (aQ:n<=40) :
  Calls prog 92 #[.slice A n c] w (A0b w (.bool true)):=by
 have X:=A_ H;have am:=A_ ad;have an:=A_ ag;have aW:n<=c:=H.2.1;have aq:=B1t;unfold A4f at aq;have ap:=A_ (by unfold inB;simp;omega:inB 3 n 40=true);clear H ad ag;go_enter func92,ntmps92;go_wp2_with fail;go_loopg [7] n (λg s wr=>∃ k:Nat,k+g=n/\s=.int .i64 k/\Bw w wr);case atStart=>exact⟨0,oM,rfl,Below.refl _ _⟩
 case round =>
  obtain⟨k,af,rfl,u⟩:=hrel;rcases Nat.lt_or_ge k n with h|h
  ·obtain⟨ax,aD,x,J,ai,Y,aG,K,aj,Z,aI,O,ak,aa,aL,S,al,ab,aN,az,aR,I,aF,aH,aJ,aK,aM,aO,ac⟩:=TPoint.elemA (X.below u) h
   subst az;obtain⟨ps,ah⟩:=(X.o.below u).first (Nat.le_of_lt h)
   have ao:=A_ ah;have ar:=A_ (E1i an I);have au:=A_ (E8q am I);have T:=A_ ac;have aU:(k:Int)<n:=oM;have aV:(0:Int)<=k:=oM;have aT:(k:Int)<=c:=oM;obtain⟨g,rfl⟩:∃ g,gk=g+1:=⟨gk - 1,oM⟩
   have aC:=A_ (by omega:k+1+g=n);have aS:(k:Int)<=40:=oM;have E:=A_ u;clear I af h ac ah;go_wp2_with fail;have C:=B2j _ x _ (wr.alloc (.cells #[.bool x.x.1.1,.slice J ai Y,.slice K aj Z,.bool x.y.1.1,.slice O ak aa,.slice S al ab] 38)) (T.below (Below.box _));rw[au.o]at C;refine C.mono ?_;clear C;rintro _ D ⟨rfl,b⟩;have aE:=A_ b;have G:=A_ (show Bw wr D from Below.trans (Below.box _) (b.mono sI));have W:=A_ (show D.1[wr.1.size]?=some (.cells #[.bool x.x.1.1,.slice J ai Y,.slice K aj Z,.bool x.y.1.1,.slice O ak aa,.slice S al ab] 38)from(b.block _ sI).trans (heap_alloc_new wr _));clear b;go_wp2_with fail;have C:=C8o 140 B1t (.pointer (some ⟨wr.1.size,0,none⟩)) (some ⟨ax,aD,none⟩) k c _ ps D (λy=>decide (x=y)) (ao.below G) (λv y aw w' ae _ aA=>C1m v y aw wr.1.size _ _ _ _ _ _ x _ w' aA ((ae.block _ (E_ W)).trans W) ((T.below G).below ae));rw[ar.o]at C;refine C.mono ?_;clear C;rintro _ aX ⟨rfl,aB⟩;go_wp2_with fail;go_roundg g;case measure=>omega
   case rel=>exact⟨k+1,aC,gN,Below.next (Below.next E G) aB⟩
  obtain rfl:k=n:=oM;have E:=A_ u;clear af h;go_wp2_with fail;have C:=A0s k 3 40 wr;rw[ap.o]at C;refine C.mono ?_;clear C;rintro _ D ⟨rfl,b⟩;go_wp2;go_ret;exact⟨rfl,Below.next E b⟩
end Go.Proofs.YtbhemnidcleaiaaGreat.X

namespace Go.XN
open Go.XB
def A1k (p q:TPoint):TRat:=A0k (A0d p.x q.x) (A0d p.y q.y)
def A6c (a b c:TPoint):TRat:=A0d (mkR 1 2) (A2y a b c)
def A5x (a b c:TPoint):TPoint:=A0v (mkR 1 3) (A3y (A3y a b) c)
def ptI (x y:Int):TPoint:=⟨U_ x,U_ y⟩
end Go.XN
namespace Go.Proofs.YtbhemnidcleaiaaGreat.X
open Go.RowKit Go.XB Go.XN Proofs.Tryz
attribute [local go_sem] L_ opAt N_ M_ Region.wanted yielded
attribute [local simp] N_ M_ MP.eq MP.agg MP.sl A0r
theorem E4i {w0 w1 w2:World} {x:TPoint} {u0 u1 u2 u3 u4 u5:Value} {b1 b2:List Nat} (h1:Agg w1 (.agg #[u0,u1,u2]) x.x b1) (o1:Own w0 w1 b1) (h12:Bw w1 w2) (h2:Agg w2 (.agg #[u3,u4,u5]) x.y b2) (o2:Own w1 w2 b2) (hw2:w0.1.size<=w1.1.size) :
  Agg w2 (.agg #[u0,u1,u2,u3,u4,u5]) x (b1++b2)/\Free w2 (b1++b2)/\∀ b∈b1++b2,w0.1.size<=b :=
 ⟨B4l (h1.below h12) h2,Free.join (o1.free.below h12) o2.free (λb hb hb2=>by have:=o1.lt b hb;have:=(o2.2 b hb2).1;omega),λb hb=>by
  rcases List.mem_append.1 hb with h|h
  ·exact(o1.2 b h).1
  have:=(o2.2 b h).1;omega⟩

theorem B9v (x y:Int) (w:World) (I:I64 x) (J:I64 y):Calls prog 17 #[.int .i64 x,.int .i64 y] w (A0c w (ptI x y)):=by
 have Y:=A_ I;have Z:=A_ J;clear I J;go_enter func17,ntmps17;go_wp2_with fail;refine(A0l x _ Y).mono ?_;rintro _ am ⟨v1,aB,rfl,h,G,D⟩;obtain⟨K,ai,ab,ao,O,aj,ac,ap,rfl,ag,_,_⟩:=TRat.agg h;have W:=A_ h;have X:=A_ G;clear h G ag;obtain⟨au,ax⟩:=F_ D;have az:w.1.size<am.1.size:=ltg D;go_wp2_with fail;refine(A0l y _ Z).mono ?_;rintro _ an ⟨v2,aC,rfl,u,H,E⟩;obtain⟨S,ak,ad,aq,T,al,ae,ar,rfl,ah,_,_⟩:=TRat.agg u;have b:=A_ (E4i (x:=ptI x y) W X E u H (by have:=D.size;exact this));clear u H ah;obtain⟨aw,ay⟩:=F_ E;have aA:w.1.size<an.1.size:=ltg E;go_wp2;refine bodyPost_ret (v:=.agg #[.bool (U_ x).1.1,.slice K ai ab,.slice O aj ac,.bool (U_ y).1.1,.slice S ak ad,.slice T al ae]) (by simp[results,results17,go_sem, *]) rfl ?_;refine A1s (lo:=w.1.size+1) b.1 b.2.1 (λaa af=>by have:=b.2.2 aa af;(try simp at this);omega) oM ?_ ?_;·exact Above.go
 exact Below.go

theorem B3o (x y:Int) (w:World) (I:I64 x) (J:I64 y):Calls prog 148 #[.int .i64 x,.int .i64 y] w (A0c w (ptI x y)):=by
 have Y:=A_ I;have Z:=A_ J;clear I J;go_enter func148,ntmps148;go_wp2_with fail;refine(B0d x _ Y).mono ?_;rintro _ am ⟨v1,aB,rfl,h,G,D⟩;obtain⟨K,ai,ab,ao,O,aj,ac,ap,rfl,ag,_,_⟩:=TRat.agg h;have W:=A_ h;have X:=A_ G;clear h G ag;obtain⟨au,ax⟩:=F_ D;have az:w.1.size<am.1.size:=ltg D;go_wp2_with fail;refine(B0d y _ Z).mono ?_;rintro _ an ⟨v2,aC,rfl,u,H,E⟩;obtain⟨S,ak,ad,aq,T,al,ae,ar,rfl,ah,_,_⟩:=TRat.agg u;have b:=A_ (E4i (x:=ptI x y) W X E u H (by have:=D.size;exact this));clear u H ah;obtain⟨aw,ay⟩:=F_ E;have aA:w.1.size<an.1.size:=ltg E;go_wp2;refine bodyPost_ret (v:=.agg #[.bool (U_ x).1.1,.slice K ai ab,.slice O aj ac,.bool (U_ y).1.1,.slice S ak ad,.slice T al ae]) (by simp[results,results148,go_sem, *]) rfl ?_;refine A1s (lo:=w.1.size+1) b.1 b.2.1 (λaa af=>by have:=b.2.2 aa af;(try simp at this);omega) oM ?_ ?_;·exact Above.go
 exact Below.go

theorem A8z (v1 v2:Value) (p q:TPoint) (b1 b2:List Nat) (w:World) (E:Agg w v1 p b1) (G:Agg w v2 q b2) :
  Calls prog 91 #[v1,v2] w (A0c w (A1k p q)):=by
 have aj:=A_ E;have ak:=A_ G;obtain⟨ax,aZ,aH,a8,ay,a1,aI,a9,az,a2,aJ,ba,aA,a3,aK,bc,rfl,rfl,K,O,S,T⟩:=TPoint.agg E;obtain⟨aB,a4,aL,bd,aC,a5,aM,be,aD,a6,aN,bf,aE,a7,aO,bg,rfl,rfl,W,X,Y,Z⟩:=TPoint.agg G;have P1:=A_ (TRat.mkAgg (x:=p.x) K O);have P2:=A_ (TRat.mkAgg (x:=p.y) S T);have Q1:=A_ (TRat.mkAgg (x:=q.x) W X);have Q2:=A_ (TRat.mkAgg (x:=q.y) Y Z);clear K O S T W X Y Z E G aj ak;go_enter func91,ntmps91;go_wp2_with fail;refine W_ 10 kR kR kR kR kR ?_;simp only[List.take_succ_cons,List.take_zero,List.drop_succ_cons,List.drop_zero];iterate 4 refine C_ _ ?_
 refine D_ (MP.agg (A0d p.x q.x)) ?_ ?_;·intro ac ad H b h;obtain⟨ao,aq⟩:=F_ b;simp at h;refine G_ ?_;exact H_ (A0n _ _ p.x q.x _ _ H (P1.below Below.go) (Q1.below Below.go))
 iterate 4 refine C_ _ ?_
 refine D_ (MP.agg (A0d p.y q.y)) ?_ ?_;·intro ac ad H b h;obtain⟨ao,aq⟩:=F_ b;simp at h;refine G_ ?_;exact H_ (A0n _ _ p.y q.y _ _ H (P2.below Below.go) (Q2.below Below.go))
 intro ac ad wa b h (ap:Hid _);simp at h;have aa:=h.2.2.2.2.1;have ab:=h.2.2.2.2.2.2.2.2.2;have ag:=A_ aa.1.1;have ah:=A_ ab.1.1;clear h ap aa ab;obtain⟨aP,aR⟩:=F_ b;have aT:w.1.size<wa.1.size:=ltg b;have aV:w.1.size+1<wa.1.size:=ltg b;have aX:w.1.size+1+1<wa.1.size:=ltg b;go_wp2_with fail;refine(A0x _ _ (A0d p.x q.x) (A0d p.y q.y) _ _ wa ag ah).mono ?_;rintro _ wb ⟨bh,sb,rfl,D,J,u⟩;obtain⟨ae,au,am,aF,af,aw,an,aG,rfl,ar,_,_⟩:=TRat.agg D;have ai:=A_ D;have I:=A_ J;clear D J ar;obtain⟨aQ,aS⟩:=F_ u;have aU:w.1.size<wb.1.size:=ltg u;have aW:w.1.size+1<wb.1.size:=ltg u;have aY:w.1.size+1+1<wb.1.size:=ltg u;go_wp2;refine bodyPost_ret (v:=.agg #[.bool (A0k (A0d p.x q.x) (A0d p.y q.y)).1.1,.slice ae au am,.slice af aw an]) (by simp[results,results91,go_sem, *]) rfl ?_;refine A1s (lo:=w.1.size+3) ai I.free (λal u=>by have:=(I.2 al u).1;(try simp at this);omega) oM ?_ ?_;·exact Above.go
 exact Below.go

theorem B3h (A:Option Addr) (c:Nat) (h b1 u:TPoint) (aK:List Nat) (w:World) (Z:Sl w A 3 c [h,b1,u] aK) :
  Calls prog 89 #[.slice A 3 c] w (A0c w (A6c h b1 u)):=by
 have G:=A_ Z;obtain⟨a8,bM,a7,P1,bz,bd,p1,P2,bA,be,p2,aY,bB,bf,bP,aZ,bD,bg,bQ,aN,bp,aa,ao,ap,aq,ar,au,aw,T⟩:=TPoint.elemA G (by decide:0<3);obtain⟨a9,bN,b2,Q1,bE,bh,q1,Q2,bF,bi,q2,a1,bG,bj,K,a2,bH,bk,bR,H,aO,ab,ax,ay,az,aA,aB,aC,W⟩:=TPoint.elemA G (by decide:1<3);obtain⟨ba,bO,bc,a3,bI,bl,bS,a4,bJ,bm,bT,a5,bK,bn,bU,a6,bL,bo,bV,I,aP,ac,aD,aE,aF,aG,aH,aI,X⟩:=TPoint.elemA G (by decide:2<3);subst aN;injection H with H;injection H with h1 h2 _;subst h1;subst h2;injection I with I;injection I with h1 h2 _;subst h1;subst h2;simp at aa ab ac;subst aa;subst ab;subst ac;simp at ao ap aq ar au aw ax ay az aA aB aC aD aE aF aG aH aI;have ak:=A_ T;have am:=A_ W;have an:=A_ X;clear aO aP T W X Z;go_enter func89,ntmps89;go_wp2_with fail;refine W_ 11 kR kR kR kR kR ?_;simp only[List.take_succ_cons,List.take_zero,List.drop_succ_cons,List.drop_zero];refine D_ (MP.agg (mkR 1 2)) ?_ ?_;·intro ae af O D b;obtain⟨aQ,aS⟩:=F_ D;simp at b;refine G_ ?_;exact H_ (C9n O)
 iterate 9 refine C_ _ ?_
 refine D_ (MP.agg (A2y h b1 u)) ?_ ?_;·intro ae af O D b;obtain⟨aQ,aS⟩:=F_ D;simp at b;refine G_ ?_;exact H_ (A7l _ _ _ h b1 u _ _ _ O (ak.below Below.go) (am.below Below.go) (an.below Below.go))
 intro ae af wa D b (aR:Hid _);simp at b;have K:=b.1;have ad:=b.2.2.2.2.2.2.2.2.2.2;have ai:=A_ K.1.1;have aj:=A_ ad.1.1;clear b aR K ad;obtain⟨bq,bs⟩:=F_ D;have bu:w.1.size<wa.1.size:=ltg D;go_wp2_with fail;refine(A0n _ _ (mkR 1 2) (A2y h b1 u) _ _ wa ai aj).mono ?_;rintro _ wb ⟨bW,sb,rfl,J,Y,E⟩;obtain⟨ag,aU,aL,aW,ah,aV,aM,aX,rfl,aT,_,_⟩:=TRat.agg J;have al:=A_ J;have S:=A_ Y;clear J Y aT;obtain⟨br,bt⟩:=F_ E;have bv:w.1.size<wb.1.size:=ltg E;go_wp2;refine bodyPost_ret (v:=.agg #[.bool (A0d (mkR 1 2) (A2y h b1 u)).1.1,.slice ag aU aL,.slice ah aV aM]) (by simp[results,results89,go_sem, *]) rfl ?_;refine A1s (lo:=w.1.size+1) al S.free (λaJ E=>by have:=(S.2 aJ E).1;(try simp at this);omega) oM ?_ ?_;·exact Above.go
 exact Below.go
theorem D0w {xs:List Int} (h:A6a xs) (k:Int):-100<=at0 xs k/\at0 xs k<=100:=by
 unfold at0;by_cases b:k.toNat<xs.length;·rw[List.getD_eq_getElem?_getD,List.getElem?_eq_getElem b];exact h _ (List.getElem_mem b)
 rw[List.getD_eq_getElem?_getD,List.getElem?_eq_none oM];decide
theorem D3n {xs:List Int} {k:Nat} (b:k<xs.length):xs.take (k+1)=xs.take k++[at0 xs k]:=by
 rw[List.take_add_one];unfold at0;simp[List.getD,List.getElem?_eq_getElem b]
theorem B1a {w w':World} {b:Nat} {o:Obj} (h:w.1[b]?=some o) (hb:Bw w w'):w'.1[b]?=some o:=(hb.block b (E_ h)).trans h
theorem D7h (w:World) (g o:Nat) (v:Value):w.grownBy (w.setCell ⟨g,o,none⟩ v) (some g) :=
 ⟨rfl,rfl,rfl,sI,λk _ hne=>Below.heap_setCell w ⟨g,o,none⟩ v k (λe=>hne (by rw[e]))⟩
theorem A3r {w:World} {base g n cap:Nat} {e:TypeId} {xs:List Value} {b o:Nat} {v:Value} (h:w.ownsRow base e 1 (.slice (some ⟨g,0,none⟩) n cap) n xs) (hb:b<base):(w.setCell ⟨b,o,none⟩ v).ownsRow base e 1 (.slice (some ⟨g,0,none⟩) n cap) n xs :=
 h.kept (D7h w b o v) (.inr (by have h1:base<=g:=(World.ownsRow.lt h _ rfl).1;simp[Value.ownBlock];omega))
theorem D7c {a b n c:Nat} (h:a≠b):(Value.slice (some ⟨b,0,none⟩) n c).ownBlock≠some a:=by simp[Value.ownBlock];exact λe=>h e.symm
theorem D9i (x:Int):∀ u∈([.int .i64 x]:List Value),u.oneCell'=true:=by intro u hu;simp at hu;subst hu;rfl
def E2z (w:World) (n:Nat) (xs ys:List Int) (e:Ending) (w':World):Prop:=∃ v,e=.returned v/\Plc w' v n xs ys/\Bw w w'
def D124 (s:Int):Prop:=s=1\/s=2\/s=4
def E2d (s d:Int):Int:=s / Int.gcd s d*d
def E9f:TPoint:=⟨⟨⟨false,[]⟩,[]⟩,⟨⟨false,[]⟩,[]⟩⟩
def C3g (ps:List TPoint):Nat->Int
 |0=>1
 |k+1=>E2d (E2d (C3g ps k) (T_ (ps.getD k E9f).x)) (T_ (ps.getD k E9f).y)
structure CoS (r:TRat) (a S:Int):Prop where
 sm:A2a r=true
 li:Lims r.1.2
 ne:NegOk r.1
 dn:D124 (T_ r)
 nu:-1000<=R_ r/\R_ r<=1000
 eq:a=R_ r*(S / T_ r)
def E5p (ps:List TPoint) (xs ys:List Int):Prop:=ps.length=xs.length/\ps.length=ys.length/\∀ (k:Nat) (p:TPoint),ps[k]?=some p->CoS p.x (at0 xs k) (C3g ps ps.length)/\CoS p.y (at0 ys k) (C3g ps ps.length)
theorem D1f {s d:Int} (h:D124 s) (b:D124 d):D124 (E2d s d):=by
 unfold D124;rcases h with rfl|rfl|rfl<;>rcases b with rfl|rfl|rfl<;>decide
theorem D5f {s d:Int} (h:D124 s) (b:D124 d):∃ g q,((Int.gcd s d:Nat):Int)=g/\¬ g=0/\IntKind.i64.wrap (s.tdiv g)=q/\IntKind.i64.wrap (q*d)=E2d s d:=by
 rcases h with rfl|rfl|rfl<;>rcases b with rfl|rfl|rfl<;>exact⟨_,_,rfl,dE,rfl,dE⟩
theorem D4e {b d n a:Int} (H:D124 b) (I:D124 d) (J:-1000<=n/\n<=1000) (e:a=n*(b / d)):∃ q,¬ d=0/\IntKind.i64.wrap (b.tdiv d)=q/\IntKind.i64.wrap (n*q)=a:=by
 have h:∃ q:Int,¬ d=0/\IntKind.i64.wrap (b.tdiv d)=q/\b / d=q/\(q=0\/q=1\/q=2\/q=4):=by rcases H with rfl|rfl|rfl<;>rcases I with rfl|rfl|rfl<;>exact⟨_,dE,rfl,dE,dE⟩
 obtain⟨q,u,D,E,G⟩:=h;refine⟨q,u,D,?_⟩;rw[e,E,IntWalk.i64_in];rcases G with rfl|rfl|rfl|rfl<;>omega
theorem D124.small {s:Int} (h:D124 s):0<=s/\s<=4:=by rcases h with rfl|rfl|rfl<;>decide
theorem E7s {ps:List TPoint} (h:∀ (k:Nat) (p:TPoint),ps[k]?=some p->D124 (T_ p.x)/\D124 (T_ p.y)):∀ k,k<=ps.length->D124 (C3g ps k)
 |0,_=>.inl rfl
 |k+1,hk=>by
  have h1:ps[k]?=some (ps[k]'oM):=List.getElem?_eq_getElem oM
  have h2:=h k _ h1
  rw[C3g,List.getD_eq_getElem?_getD,h1]
  exact D1f (D1f (E7s h k oM) h2.1) h2.2
theorem D4p (A:Option Addr) (n c:Nat) (ps:List TPoint) (cA:List Nat) (xs ys:List Int) (w:World) (I:Sl w A n c ps cA) (aG:E5p ps xs ys) (ca:A6a xs) (cb:A6a ys) (dr:n<=40) (ds:0<n) :
  Calls prog 93 #[.slice A n c] w (E2z w n xs ys):=by
 have bK:=A_ I;have bH:=A_ aG;have bI:=A_ ca;have bJ:=A_ cb;have bF:=A_ (show xs.length=n from aG.1.symm.trans I.1);have bG:=A_ (show ys.length=n from aG.2.1.symm.trans I.1);have bE:=A_ (show ∀ k,k<=n->D124 (C3g ps k)from λk aY=>E7s (λj p aP=>⟨(aG.2.2 j p aP).1.dn,(aG.2.2 j p aP).2.dn⟩) k (by rw[I.1];exact aY));have cn:=A_ I.1;have co:=A_ (show(1:Int)=C3g ps 0 from rfl);obtain⟨cg,bY,cd,ce,cf⟩:=info_parts E5x;clear I aG ca cb;go_enter func93,ntmps93;go_wp2_with fail;go_loopg [4,23] n (λg s4 s wr=>∃ (k:Nat) (sh:Int),k+g=n/\s4=.int .i64 sh/\s=.int .i64 k/\Hid (sh=C3g ps k)/\Bw w wr/\Hid (wr.1[w.1.size]?=some (.cells #[.slice none 0 0,.slice none 0 0,.slice none 0 0] 127))/\Hid (wr.1[w.1.size+1]?=some (.cells #[.slice A n c,.slice none 0 0,.slice none 0 0] 127)));case atStart =>
  refine⟨0,1,oM,rfl,rfl,co.o,Below.go,?_,?_⟩;·exact(Below.heap_alloc _ _ _ sI).trans (heap_alloc_new w _)
  have:=heap_alloc_new (w.alloc (.cells #[.slice none 0 0,.slice none 0 0,.slice none 0 0] 127)) (.cells #[.slice A n c,.slice none 0 0,.slice none 0 0] 127);rw[World.size_alloc]at this;exact this
 case round =>
  obtain⟨k,X,aY,rfl,rfl,aH,K,W,G⟩:=hrel;have aw:=A_ K;rcases Nat.lt_or_ge k n with aZ|aZ
  ·rename World=>a6
   have cX:(k:Int)<n:=oM;have dn:(k:Int)<=40:=oM;obtain⟨g,rfl⟩:∃ g,gk=g+1:=⟨gk - 1,oM⟩
   have cW:=A_ (by omega:k+1+g=n);obtain⟨cz,c5,x,Z,ao,ae,cF,aa,ap,af,cG,ab,aq,ag,cI,ac,ar,ah,cK,bh,cO,aI,cE,ak,aX,cH,cJ,cL,aO⟩:=TPoint.elemA (bK.below K) aZ;subst bh;obtain⟨p1,p2,_,aQ,aR⟩:=E9v aO;have aU:=A_ aQ;have aV:=A_ aR;obtain⟨b,h⟩:=bH.2.2 k x aI;obtain⟨au,a2⟩:∃ s,E2d X (T_ x.x)=s:=⟨_,rfl⟩
   obtain⟨aS,a3⟩:∃ s,E2d au (T_ x.y)=s:=⟨_,rfl⟩
   have aW:D124 X:=by rw[aH.o];exact bE.o k oM
   have ak:D124 au:=by rw[<-a2];exact D1f aW b.dn
   have aX:D124 aS:=by rw[<-a3];exact D1f ak h.dn
   have cv:=A_ (by rw[C3g,List.getD_eq_getElem?_getD,aI,<-a3,<-a2,aH.o];rfl:aS=C3g ps (k+1));obtain⟨de,q1,a7,df,dt,bZ⟩:=D5f aW b.dn;obtain⟨dg,q2,a8,dh,du,b0⟩:=D5f ak h.dn;rw[a2]at bZ;rw[a3]at b0;have bc:0<=X/\X<=9223372036854775807:=by have:=aW.small;omega
   have bd:0<=au/\au<=9223372036854775807:=by have:=ak.small;omega
   have u1:au<=268435456:=by have:=ak.small;omega
   have u2:aS<=268435456:=by have:=aX.small;omega
   obtain⟨az,am⟩:∃ d,T_ x.x=d:=⟨_,rfl⟩
   obtain⟨aA,an⟩:∃ d,T_ x.y=d:=⟨_,rfl⟩
   obtain⟨br,aE⟩:∃ d,R_ x.x=d:=⟨_,rfl⟩
   obtain⟨bs,aF⟩:∃ d,R_ x.y=d:=⟨_,rfl⟩
   rw[am]at a7 bZ;rw[an]at a8 b0;have be:0<=az/\az<=9223372036854775807:=by have:=b.dn.small;omega
   have bf:0<=aA/\aA<=9223372036854775807:=by have:=h.dn.small;omega
   have S:=A_ (And.intro bc (And.intro bd (And.intro be bf)));have ci:=A_ a7;have cj:=A_ a8;have D:=A_ (show A2a x.x=true/\Lims x.x.1.2/\NegOk x.x.1/\R_ x.x=br/\T_ x.x=az from⟨b.sm,b.li,b.ne,aE,am⟩);have E:=A_ (show A2a x.y=true/\Lims x.y.1.2/\NegOk x.y.1/\R_ x.y=bs/\T_ x.y=aA from⟨h.sm,h.li,h.ne,aF,an⟩);clear aY aZ aI aO aQ aR K b h a2 a3 aW ak aX am an aE aF bc bd be bf a7 a8 aH;go_wp2_with fail;go_loopg [4,33] 2 (λg s4 s wr2=>∃ (i:Nat) (v:Int),i+g=2/\s4=.int .i64 v/\s=.int .i64 i/\Hid ((i=0/\v=X)\/(i=1/\v=au)\/(i=2/\v=aS))/\Below ((a6.alloc (.cells #[.bool x.x.1.1,.slice Z ao ae,.slice aa ap af,.bool x.y.1.1,.slice ab aq ag,.slice ac ar ah] 38)).alloc (.cells #[.bool x.x.1.1,.slice Z ao ae,.slice aa ap af,.bool x.y.1.1,.slice ab aq ag,.slice ac ar ah] 35)).1.size ((a6.alloc (.cells #[.bool x.x.1.1,.slice Z ao ae,.slice aa ap af,.bool x.y.1.1,.slice ab aq ag,.slice ac ar ah] 38)).alloc (.cells #[.bool x.x.1.1,.slice Z ao ae,.slice aa ap af,.bool x.y.1.1,.slice ab aq ag,.slice ac ar ah] 35)) wr2);case atStart=>exact⟨0,X,rfl,rfl,rfl,.inl ⟨rfl,rfl⟩,Below.refl _ _⟩
   case round =>
    obtain⟨i,bt,bo,rfl,rfl,cc,al⟩:=hrel;have ad:=A_ (show Bw a6 wr from Below.trans ((Below.box _).alloc sI _) (al.mono sO));obtain⟨dk,dl⟩:=F_ al;have dv:a6.1.size+1<wr.1.size:=by have:=al.size;simp at this;omega
    obtain⟨rfl,rfl⟩|⟨rfl,rfl⟩|⟨rfl,rfl⟩:=cc.o;all_goals clear cc
    ·obtain rfl:gk=1+1:=oM
     clear bo;go_wp2_with fail;have C:=A1g _ x.x _ (wr.alloc (.cells #[.bool x.x.1.1,.slice Z ao ae,.slice aa ap af] 35)) ((aU.below ad).below (Below.box _));rw[D.o.1]at C;refine C.mono ?_;clear C;rintro _ Y ⟨rfl,O⟩;obtain⟨bl,bm⟩:=F_ O;have T:=A_ (show Bw wr Y from Below.trans (Below.box _) (O.mono sI));go_wp2_with fail;have C:=A3c _ x.x _ Y ((aU.below ad).below T) D.1 D.2.1 D.2.2.1;rw[D.o.2.2.2.1,D.o.2.2.2.2]at C;refine C.mono ?_;clear C;rintro _ a4 ⟨rfl,aB⟩;have aJ:=A_ (Below.next T aB);go_wp2_with fail;have C:=B2z bt az a4 S.1.1 S.2.2.1.1 S.1.2 S.2.2.1.2;rw[ci.o]at C;refine C.mono ?_;clear C;rintro _ w3 ⟨rfl,bj⟩;have aK:=A_ (Below.next aJ bj);go_wp2_with fail;go_roundg 1;case measure=>omega
     case rel=>exact⟨0+1,au,rfl,gN,gN,.inr (.inl ⟨rfl,rfl⟩),al.trans (aK.mono al.size)⟩
    ·obtain rfl:gk=0+1:=oM
     clear bo;go_wp2_with fail;have C:=A1g _ x.y _ (wr.alloc (.cells #[.bool x.y.1.1,.slice ab aq ag,.slice ac ar ah] 35)) ((aV.below ad).below (Below.box _));rw[E.o.1]at C;refine C.mono ?_;clear C;rintro _ Y ⟨rfl,O⟩;obtain⟨bl,bm⟩:=F_ O;have T:=A_ (show Bw wr Y from Below.trans (Below.box _) (O.mono sI));go_wp2_with fail;have C:=A3c _ x.y _ Y ((aV.below ad).below T) E.1 E.2.1 E.2.2.1;rw[E.o.2.2.2.1,E.o.2.2.2.2]at C;refine C.mono ?_;clear C;rintro _ a4 ⟨rfl,aB⟩;have aJ:=A_ (Below.next T aB);go_wp2_with fail;have C:=B2z bt aA a4 S.2.1.1 S.2.2.2.1 S.2.1.2 S.2.2.2.2;rw[cj.o]at C;refine C.mono ?_;clear C;rintro _ w3 ⟨rfl,bj⟩;have aK:=A_ (Below.next aJ bj);go_wp2_with fail;go_roundg 0;case measure=>omega
     case rel=>exact⟨1+1,aS,rfl,gN,gN,.inr (.inr ⟨rfl,rfl⟩),al.trans (aK.mono al.size)⟩
    clear bo;go_wp2_with fail;go_roundg g;case measure=>omega
    case rel=>exact⟨k+1,bt,cW,rfl,gN,cv,Below.next aw ad,B1a W ad,B1a G ad⟩
  obtain rfl:k=n:=oM;have cX:¬ ((k:Int)<k):=oM;have bD:=A_ (by rw[aH.o];exact bE k (Nat.le_refl _):D124 X);have ch:=A_ (by rw[cn.o,aH.o]:C3g ps ps.length=X);clear aY aZ K aH;go_wp2_with fail;have bN:=A_ (show((wr.alloc (.cells #[] 3)).alloc (.cells #[] 3)).ownsRow (w.1.size+2) 3 1 (.slice (some ⟨wr.1.size,0,none⟩) 0 0) 0 []from I_ (World.ownsRow_made wr #[] 0 (by have:=E_ G;omega) (Nat.zero_le _) rfl) (Below.box _));have bO:=A_ (show((wr.alloc (.cells #[] 3)).alloc (.cells #[] 3)).ownsRow (w.1.size+2) 3 1 (.slice (some ⟨wr.1.size+1,0,none⟩) 0 0) 0 []from by have:=World.ownsRow_made (base:=w.1.size+2) (e:=3) (size:=1) (wr.alloc (.cells #[] 3)) #[] 0 (by have:=E_ G;simp;omega) (Nat.zero_le _) rfl;rw[World.size_alloc]at this;exact this);go_loopg [11,12,62] k (λg s11 s12 s wr=>∃ (j H ai u aj:Nat),j+g=k/\s11=.slice (some ⟨H,0,none⟩) j ai/\s12=.slice (some ⟨u,0,none⟩) j aj/\s=.int .i64 j/\Hid (wr.ownsRow (w.1.size+2) 3 1 (.slice (some ⟨H,0,none⟩) j ai) j ((xs.take j).map (.int .i64)))/\Hid (wr.ownsRow (w.1.size+2) 3 1 (.slice (some ⟨u,0,none⟩) j aj) j ((ys.take j).map (.int .i64)))/\Hid (H≠u)/\Bw w wr/\Hid (wr.1[w.1.size]?=some (.cells #[.slice none 0 0,.slice none 0 0,.slice none 0 0] 127))/\Hid (wr.1[w.1.size+1]?=some (.cells #[.slice A k c,.slice none 0 0,.slice none 0 0] 127)));case atStart=>exact⟨0,wr.1.size,0,wr.1.size+1,0,oM,rfl,rfl,rfl,bN.o,bO.o,(by omega:wr.1.size≠wr.1.size+1),Below.next aw.o ((Below.box _).alloc sI _),B1a W.o ((Below.box _).alloc sI _),B1a G.o ((Below.box _).alloc sI _)⟩
  case round =>
   clear W G bN bO aw;obtain⟨j,H,ai,u,aj,aP,rfl,rfl,rfl,bq,b9,a1,K,W,G⟩:=hrel;have aw:=A_ K;rcases Nat.lt_or_ge j k with aD|aD
   ·have cV:(j:Int)<k:=oM
    have dm:(j:Int)<=40:=oM;obtain⟨g,rfl⟩:∃ g,gk=g+1:=⟨gk - 1,oM⟩
    have cU:=A_ (by omega:j+1+g=k);obtain⟨cz,c5,x,Z,ao,ae,cF,aa,ap,af,cG,ab,aq,ag,cI,ac,ar,ah,cK,bh,cO,aI,cE,ak,aX,cH,cJ,cL,aO⟩:=TPoint.elemA (bK.below K) aD;subst bh;obtain⟨p1,p2,_,aQ,aR⟩:=E9v aO;have aU:=A_ aQ;have aV:=A_ aR;obtain⟨b,h⟩:=bH.2.2 j x aI;rw[ch.o]at b h;have bP:=A_ (D3n (xs:=xs) (k:=j) (by rw[bF.o];exact aD));have bQ:=A_ (D3n (xs:=ys) (k:=j) (by rw[bG.o];exact aD));have cy:=D0w bI (j:Int);have bb:=D0w bJ (j:Int);obtain⟨a,bi⟩:∃ a,at0 xs (j:Int)=a:=⟨_,rfl⟩
    obtain⟨ay,bk⟩:∃ ay,at0 ys (j:Int)=ay:=⟨_,rfl⟩
    rw[bi]at bP cy;rw[bk]at bQ bb;obtain⟨az,am⟩:∃ d,T_ x.x=d:=⟨_,rfl⟩
    obtain⟨aA,an⟩:∃ d,T_ x.y=d:=⟨_,rfl⟩
    obtain⟨br,aE⟩:∃ d,R_ x.x=d:=⟨_,rfl⟩
    obtain⟨bs,aF⟩:∃ d,R_ x.y=d:=⟨_,rfl⟩
    obtain⟨dw,cQ,c0,cY⟩:=D4e bD b.dn b.nu b.eq;obtain⟨dx,cR,c1,cZ⟩:=D4e bD h.dn h.nu h.eq;rw[bi,aE]at cY;rw[bk,aF]at cZ;rw[am]at cQ c0;rw[an]at cR c1;have D:=A_ (show A2a x.x=true/\Lims x.x.1.2/\NegOk x.x.1/\R_ x.x=br/\T_ x.x=az from⟨b.sm,b.li,b.ne,aE,am⟩);have E:=A_ (show A2a x.y=true/\Lims x.y.1.2/\NegOk x.y.1/\R_ x.y=bs/\T_ x.y=aA from⟨h.sm,h.li,h.ne,aF,an⟩);have cw:=A_ (by unfold inB;simp;omega:inB (-536870912) a 536870912=true);have cx:=A_ (by unfold inB;simp;omega:inB (-536870912) ay 536870912=true);have bA:=A_ (by unfold maxLen;omega:j+1<=maxLen);have bB:=A_ (by omega:(j+1)*8<=140737488355328);clear aP aD aI aO aQ aR bi bk K b h am an aE aF;go_wp2_with fail;have C:=A3c _ x.x _ (wr.alloc (.cells #[.bool x.x.1.1,.slice Z ao ae,.slice aa ap af,.bool x.y.1.1,.slice ab aq ag,.slice ac ar ah] 38)) (aU.below (Below.box _)) D.1 D.2.1 D.2.2.1;rw[D.o.2.2.2.1,D.o.2.2.2.2]at C;refine C.mono ?_;clear C;rintro _ Y ⟨rfl,O⟩;obtain⟨bl,bm⟩:=F_ O;have T:=A_ (show Bw wr Y from Below.trans (Below.box _) (O.mono sI));go_wp2_with fail;have C:=A3c _ x.y _ Y (aV.below T) E.1 E.2.1 E.2.2.1;rw[E.o.2.2.2.1,E.o.2.2.2.2]at C;refine C.mono ?_;clear C;rintro _ a4 ⟨rfl,aB⟩;have aJ:=A_ (Below.next T aB);go_wp2_with fail;refine A0g ?_;iterate 12 refine C_ _ ?_
    intro dy dz w3 bU bX (cP:Hid _);simp at bX;go_simp;clear bX cP;have aK:=A_ (Below.next aJ bU);go_wp2_with fail;have C:=A0s a (-536870912) 536870912 w3;rw[cw.o]at C;refine C.mono ?_;clear C;rintro _ c6 ⟨rfl,bV⟩;have ck:=A_ (Below.next aK bV);go_wp2_with fail;have C:=A0s ay (-536870912) 536870912 c6;rw[cx.o]at C;refine C.mono ?_;clear C;rintro _ aT ⟨rfl,bW⟩;have ax:=A_ (Below.next ck bW);clear O bl bm aB bU bV bW;have b5:=I_ bq ax;have ba:=A_ (I_ b9 ax);have aL:=A_ (by have:=E_ G;have:=ax.size;omega:w.1.size+2<=aT.1.size);go_wp2_with (first|(at_builtin;refine A1m rfl _ _ 31 rfl (w.1.size+2) 3 cg (.int .i64 0) 1 8 underlying31 bY cd ce cf rfl dE u j aj ((ys.take j).map (.int .i64)) gD (((ba.alloc (.cells #[.int .i64 a] 3)).kept aC (.inr (D7c a1))).alloc _) ⟨a5.1.size,0,none⟩ 1 1 [.int .i64 ay] gD rfl (cell_one_new _ _ _) (D9i _) bA bB (A1a (Nat.le_trans (A1a aL _) aC.size) _) ?_;intro bg bT bu b8 bn b4)|(at_builtin;refine A1m rfl _ _ 31 rfl (w.1.size+2) 3 cg (.int .i64 0) 1 8 underlying31 bY cd ce cf rfl dE H j ai ((xs.take j).map (.int .i64)) gD (b5.alloc _) ⟨aT.1.size,0,none⟩ 1 1 [.int .i64 a] gD rfl (cell_one_new _ _ _) (D9i _) bA bB (A1a aL _) ?_;intro aM bS a5 b6 aC b3));have bL:=A_ b6;have cm:=A_ aC;have bM:=A_ b3;have b7:=(ba.alloc (.cells #[.int .i64 a] 3)).kept aC (.inr (D7c a1));have bR:=A_ (by have:=aC.size;simp at this;have:=aL.o;omega:w.1.size+2<=a5.1.size);clear b6 aC b3 b5;have cN:=A_ b7;have bv:w.1.size+2<=aM/\aM<a5.1.size:=World.ownsRow.lt bL _ rfl;have c8:w.1.size+2<=u/\u<a5.1.size:=World.ownsRow.lt cN _ rfl;have bz:w.1.size+2<=u/\u<aT.1.size:=World.ownsRow.lt ba _ rfl;have c7:w.1.size+2<=H/\H<wr.1.size:=World.ownsRow.lt bq _ rfl;have cu:=A_ (show aM≠bg by
     rcases bM with J|J<;>rcases b4 with aN|aN;·rw[J,aN];exact a1
     ·have:=bv.2;simp at aN;omega
     ·rw[aN,J];simp;have:=bz.2;omega
     have:=bv.2;simp at aN;omega)
    have cp:=A_ (show bu.ownsRow (w.1.size+2) 3 1 (.slice (some ⟨aM,0,none⟩) (j+1) bS) (j+1) ((xs.take (j+1)).map (.int .i64)) by
     have cM:=(bL.alloc (.cells #[.int .i64 ay] 3)).kept bn (.inr (D7c (λe=>by
      rcases bM with J|J;·exact a1 (J.symm.trans e.symm)
      simp at J;have di:u<aT.1.size:=bz.2;omega)))
     rw[bP.o,List.map_append];exact cM)
    have cs:=A_ (show bu.ownsRow (w.1.size+2) 3 1 (.slice (some ⟨bg,0,none⟩) (j+1) bT) (j+1) ((ys.take (j+1)).map (.int .i64)) by rw[bQ.o,List.map_append];exact b8)
    have a9:=A_ (show Below (w.1.size+2) aT bu from
     ((((Below.refl _ _).alloc aL _).grown cm (A1a aL _) (λk2 bp=>by injection bp with J;omega)).alloc bR.o _).grown bn (A1a bR.o _) (λk2 bp=>by injection bp with J;omega))
    clear b8 bn b4 b7 bv c8 bz c7;go_wp2_with fail;go_roundg g;case measure=>omega
    case rel=>exact⟨j+1,aM,bS,bg,bT,cU.o,rfl,rfl,gN,cp.o,cs.o,cu.o,(Below.next aw.o ax.o).trans (a9.o.mono oM),(a9.o.block _ oM).trans (B1a W.o ax.o),(a9.o.block _ oM).trans (B1a G.o ax.o)⟩
   obtain rfl:j=k:=oM;have cV:¬ ((j:Int)<j):=oM;have cq:=A_ (by have:=bq.o;rwa [List.take_of_length_le (by rw[bF.o];exact Nat.le_refl _)]at this:wr.ownsRow (w.1.size+2) 3 1 (.slice (some ⟨H,0,none⟩) j ai) j (xs.map (.int .i64)));have ct:=A_ (by have:=b9.o;rwa [List.take_of_length_le (by rw[bG.o];exact Nat.le_refl _)]at this:wr.ownsRow (w.1.size+2) 3 1 (.slice (some ⟨u,0,none⟩) j aj) j (ys.map (.int .i64)));have dq:w.1.size+1<wr.1.size:=E_ G;have dp:w.1.size<wr.1.size:=oM;obtain⟨a0,dd⟩:=B_ W (j:=0) rfl;obtain⟨c9,be⟩:=B_ W (j:=1) rfl;obtain⟨da,bf⟩:=B_ W (j:=2) rfl;obtain⟨db,bc⟩:=B_ G (j:=0) rfl;obtain⟨b1,bd⟩:=B_ G (j:=1) rfl;obtain⟨b2,dc⟩:=B_ G (j:=2) rfl;clear aP aD K;go_wp2;refine bodyPost_ret (v:=.agg #[.slice A j c,.slice (some ⟨H,0,none⟩) j ai,.slice (some ⟨u,0,none⟩) j aj]) (by simp[results,results93,go_sem, *]) rfl ?_;obtain⟨bx,c2⟩:=A7v (A3r (A3r (A3r (A3r (A3r cq.o (by omega:w.1.size+1<w.1.size+2)) (by omega:w.1.size+1<w.1.size+2)) (by omega:w.1.size<w.1.size+2)) (by omega:w.1.size<w.1.size+2)) (by omega:w.1.size<w.1.size+2)) (λx I=>by have:=bI.o x I;constructor<;>omega);obtain⟨cB,c4⟩:=A7v (A3r (A3r (A3r (A3r (A3r ct.o (by omega:w.1.size+1<w.1.size+2)) (by omega:w.1.size+1<w.1.size+2)) (by omega:w.1.size<w.1.size+2)) (by omega:w.1.size<w.1.size+2)) (by omega:w.1.size<w.1.size+2)) (λx I=>by have:=bJ.o x I;constructor<;>omega);refine⟨_,rfl,⟨A,c,H,0,ai,u,0,aj,bx,cB,rfl,c2,c4⟩,?_⟩;have dj:=aw.o;exact Below.go

theorem C8w (A:Option Addr) (c:Nat) (b b1 u:TPoint) (J:List Nat) (w:World) (E:Sl w A 3 c [b,b1,u] J) (ah:A7m [b,b1,u]=true) :
  Calls prog 298 #[.slice A 3 c] w (A0c w (A5x b b1 u)):=by
 have aa:=A_ E;have aA:=A_ ah;clear ah E;go_enter func298,ntmps298;go_wp2_with fail;have C:=B2m A 3 c [b,b1,u] J _ (aa.below (Below.box (w:=w) (.cells #[.bool false,.slice none 0 0,.slice none 0 0,.bool false,.slice none 0 0,.slice none 0 0] 38)));rw[aA.o]at C;refine C.mono ?_;clear C;rintro _ am ⟨rfl,T⟩;have E:Sl am A 3 c [b,b1,u] J:=(aa.below (Below.box _)).below T;obtain⟨bH,bK⟩:=F_ T;have bN:w.1.size<am.1.size:=ltg T;have I:=A_ E;obtain⟨bm,b4,bl,P1,bQ,bq,p1,P2,bR,br,p2,bd,bS,bs,b7,be,bT,bt,b8,aY,bG,ai,aB,aC,aD,aE,aF,aG,ad⟩:=TPoint.elemA I (by decide:0<3);obtain⟨bn,b5,b2,Q1,bU,bu,q1,Q2,bV,bv,q2,bf,bW,bz,W,bg,bX,bA,b9,K,aZ,aj,aH,aI,aJ,aK,aL,aM,ae⟩:=TPoint.elemA I (by decide:1<3);obtain⟨bo,b6,bp,bh,bY,bB,ca,bi,bZ,bD,cb,bj,b0,bE,cc,bk,b3,bF,cd,O,a1,ak,aN,aO,aP,aQ,aR,aS,af⟩:=TPoint.elemA I (by decide:2<3);subst aY;injection K with K;injection K with h1 h2 _;subst h1;subst h2;injection O with O;injection O with h1 h2 _;subst h1;subst h2;simp at ai aj ak;subst ai;subst aj;subst ak;simp at aB aC aD aE aF aG aH aI aJ aK aL aM aN aO aP aQ aR aS;have aw:=A_ ad;have ay:=A_ ae;have az:=A_ af;clear aZ a1 ad ae af E;go_wp2_with fail;refine W_ 12 kR kR kR kR kR ?_;simp only[List.take_succ_cons,List.take_zero,List.drop_succ_cons,List.drop_zero];refine D_ (MP.agg (mkR 1 3)) ?_ ?_;·intro X Y G D h;obtain⟨ab,ac⟩:=F_ D;simp at h;refine G_ ?_;exact H_ (A7u 1 3 G cD cD dE)
 iterate 6 refine C_ _ ?_
 refine D_ (MP.agg (A3y b b1)) ?_ ?_;·intro X Y G D h;obtain⟨ab,ac⟩:=F_ D;simp at h;refine G_ ?_;exact H_ (A4x _ _ b b1 _ _ G (aw.below Below.go) (ay.below Below.go))
 iterate 3 refine C_ _ ?_
 refine D_ (MP.agg (A3y (A3y b b1) u)) ?_ ?_;·intro X Y G D h;obtain⟨ab,ac⟩:=F_ D;simp at h;refine G_ ?_;exact H_ (A4x _ _ (A3y b b1) u _ _ G h.1.1 (az.below Below.go))
 intro X Y wa D h (a2:Hid _);simp at h;have W:=h.1;have al:=h.2.2.2.2.2.2.2.2.2.2.2;have ar:=A_ W.1.1;have au:=A_ al.1.1;clear h a2 W al;obtain⟨bI,bL⟩:=F_ D;have bO:w.1.size<wa.1.size:=ltg D;go_wp2_with fail;refine(A1n _ _ (mkR 1 3) (A3y (A3y b b1) u) _ _ wa ar au).mono ?_;rintro _ wb ⟨ce,sb,rfl,S,ag,H⟩;obtain⟨an,a4,aU,a8,ao,a5,aV,a9,ap,a6,aW,ba,aq,a7,aX,bc,rfl,a3,_,_,_,_⟩:=TPoint.agg S;have ax:=A_ S;have Z:=A_ ag;clear S ag a3;obtain⟨bJ,bM⟩:=F_ H;have bP:w.1.size<wb.1.size:=ltg H;go_wp2;refine bodyPost_ret (v:=.agg #[.bool (A0v (mkR 1 3) (A3y (A3y b b1) u)).x.1.1,.slice an a4 aU,.slice ao a5 aV,.bool (A0v (mkR 1 3) (A3y (A3y b b1) u)).y.1.1,.slice ap a6 aW,.slice aq a7 aX]) (by simp[results,results298,go_sem, *]) rfl ?_;refine A1s (lo:=w.1.size+1) ax Z.free (λaT H=>by have:=(Z.2 aT H).1;(try simp at this);omega) oM ?_ ?_;·exact Above.go
 exact Below.go

theorem B5c (v:Value) (p:TPoint) (b:List Nat) (w:World) (ad:Agg w v p b) (ok:A1b p=true) :
  Calls prog 137 #[v] w (A0c w p):=by
 have I:J_ p.x=true/\J_ p.y=true:=by simpa[A1b]using ok
 have K:=A_ (ratOkB_iff.1 I.1);have O:=A_ (ratOkB_iff.1 I.2);obtain⟨aF,aV,aJ,aZ,aG,aW,aK,a1,aH,aX,aL,a2,aI,aY,aM,a3,rfl,rfl,Z,aa,ab,ac⟩:=TPoint.agg ad;have P1:=A_ (TRat.mkAgg (x:=p.x) Z aa);have P2:=A_ (TRat.mkAgg (x:=p.y) ab ac);clear Z aa ab ac ad ok I;go_enter func137,ntmps137;go_wp2_with fail;refine W_ 6 kR kR kR kR kR ?_;simp only[List.take_succ_cons,List.take_zero,List.drop_succ_cons,List.drop_zero];iterate 2 refine C_ _ ?_
 refine D_ (MP.agg p.x) ?_ ?_;·intro ae D J u h;obtain⟨aw,ax⟩:=F_ u;simp at h;refine G_ ?_;exact H_ (A3n _ p.x _ J (P1.below Below.go) (by have:=K.num24;omega) (by have:=K.o.den24;omega))
 iterate 2 refine C_ _ ?_
 refine D_ (MP.agg p.y) ?_ ?_;·intro ae D J u h;obtain⟨aw,ax⟩:=F_ u;simp at h;refine G_ ?_;exact H_ (A3n _ p.y _ J (P2.below Below.go) (by have:=O.num24;omega) (by have:=O.o.den24;omega))
 intro ae D wa u h (S:Hid _);simp at h;have aC:=h.2.2.1;have aD:=h.2.2.2.2.2;obtain⟨⟨E,T⟩,X⟩:=aC;obtain⟨⟨G,W⟩,Y⟩:=aD;obtain⟨af,ay,am,aN,ag,az,an,aO,aq,z4,_,_⟩:=TRat.agg E;obtain⟨ah,aA,ao,aP,ai,aB,ap,aQ,ar,aE,_,_⟩:=TRat.agg G;rw[aq]at E;rw[ar]at G;have aj:=A_ (B4l (x:=p) E G);have ak:=A_ (Free.join T W (S 2 5 dE dE dE))
 have al:=A_ (show ∀ b∈D 2++D 5,w.1.size+2<=b from λb au=>by
  rcases List.mem_append.1 au with H|H;·have:=(X b H).1;(try simp at this);omega
  have:=(Y b H).1;(try simp at this);omega)
 clear h S E T X G W Y z4 aE;generalize D 2++D 5=zs at *;obtain⟨aR,aS⟩:=F_ u;have aT:w.1.size<wa.1.size:=ltg u;have aU:w.1.size+1<wa.1.size:=ltg u;go_wp2;refine bodyPost_ret (v:=.agg #[.bool p.x.1.1,.slice af ay am,.slice ag az an,.bool p.y.1.1,.slice ah aA ao,.slice ai aB ap]) (by simp[results,results137,go_sem, *]) rfl ?_;refine A1s (lo:=w.1.size+2) aj.o ak.o al.o oM ?_ ?_;·exact Above.go
 exact Below.go

theorem A8m (v1 v2:Value) (r s:TRat) (b1 b2:List Nat) (w:World) (b:Agg w v1 r b1) (O:Agg w v2 s b2) :
  Calls prog 162 #[v1,v2] w (A0c w (A3u r s)):=by
 have X:=A_ b;have ag:=A_ O;obtain⟨al,n1,aq,aB,am,n2,ar,aC,rfl,rfl,-,-⟩:=TRat.agg b;obtain⟨an,ac,c3,aD,ao,aA,au,aE,rfl,rfl,K,aa⟩:=TRat.agg O;have QI:=A_ (TRat.mkAgg (x:=(⟨⟨s.1.1,s.2⟩,s.1.2⟩:TRat)) aa K);have T:=A_ K.1;clear K aa b O;go_enter func162,ntmps162;go_wp2_with fail;refine Calls.new4 λw0 N=>?_;refine(A1r (some ⟨w.1.size+1+1+1,0,none⟩) 2 2 [r,s] _ w0 (sl2 N.n (X.below N.b) (ag.below N.b))).mono ?_;rintro _ ak ⟨rfl,E⟩;have h:=A_ (Below.next N.b E);obtain⟨ax,-,ay⟩:=bx (A0z N.k E);obtain⟨ks,-,az⟩:=bx (A0z N.l E);have I:=A_ (A0z N.m E);clear E N;obtain⟨ko,Y,ab⟩:=bx I;rw[show [r,s].all J_=(J_ r&&J_ s) by simp];rcases Bool.eq_false_or_eq_true (J_ r&&J_ s)with H|H
 rotate_left;·have D:=A_ (by unfold A3u;rw[H];rfl:A3u r s=A0h);go_wp2;refine bodyPost_ret (v:=.agg #[.bool false,.slice none 0 0,.slice none 0 0]) (by simp[results,results162,go_sem, *]) rfl ?_;rw[D.o];exact A3e (h.grown (A5y (A5y (A5y (B3a _ _)))) h.size (λx b=>by injection b with b;omega))
 cases u:s.1.2 with
 |nil =>
  have D:=A_ (by unfold A3u;rw[H,u];rfl:A3u r s=A0h)
  obtain rfl:0=ac:=by have:=T.o;rw[u]at this;exact this
  clear u
  go_wp2
  refine bodyPost_ret (v:=.agg #[.bool false,.slice none 0 0,.slice none 0 0]) (by simp[results,results162,go_sem, *]) rfl ?_
  rw[D.o]
  exact A3e (h.grown (A5y (A5y (A5y (B3a _ _)))) h.size (λx b=>by injection b with b;omega))
 |cons x t =>
 have D:=A_ (by unfold A3u;rw[H,u];rfl:A3u r s=A0d r ⟨⟨s.1.1,s.2⟩,s.1.2⟩);have aw:((ac:Int)==0)=false:=by have:=T.o;rw[u]at this;simp at this;simp;omega
 clear u;go_wp2_with fail;refine(A0n _ _ r ⟨⟨s.1.1,s.2⟩,s.1.2⟩ _ _ ak (X.below h) (QI.below h)).mono ?_;rintro _ aH ⟨v,ap,rfl,J,Z,G⟩;obtain⟨ad,m1,ai,aF,ae,m2,aj,aG,rfl,-,-,-⟩:=TRat.agg J;have af:=A_ J;have W:=A_ Z;have S:=A_ G;clear J Z G ko Y ab;obtain⟨ko,Y,ab⟩:=bx (A0z I S);go_wp2;refine bodyPost_ret (v:=.agg #[.bool (A0d r ⟨⟨s.1.1,s.2⟩,s.1.2⟩).1.1,.slice ad m1 ai,.slice ae m2 aj]) (by simp[results,results162,go_sem, *]) rfl ?_;rw[D.o];have:=E_ I;exact B8v af W.free (λah G=>by have:=(W.2 ah G).1;omega) (Below.next h.o S.o) oM (A5y (A5y (A5y (B3a _ _))))
theorem A9z (v1 v2:Value) (r s:TRat) (b1 b2:List Nat) (w:World) (hx:Agg w v1 r b1) (hy:Agg w v2 s b2) (_:J_ r=true) (_:J_ s=true) (_:s.1.2≠[]) :
  Calls prog 162 #[v1,v2] w (A0c w (A3u r s)):=A8m v1 v2 r s b1 b2 w hx hy
end Go.Proofs.YtbhemnidcleaiaaGreat.X
