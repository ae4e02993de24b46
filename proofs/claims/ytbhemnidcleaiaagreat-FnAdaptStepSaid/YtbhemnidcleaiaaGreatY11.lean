/- A part of the proof. -/
import Derived.Test.YtbhemnidcleaiaaGreatY10
set_option linter.constructorNameAsVariable false
set_option maxHeartbeats 16000000
set_option maxRecDepth 10000
namespace Go.Proofs.YtbhemnidcleaiaaGreat.X
open Go.RowKit Go.XB Go.XN Proofs.Tryz
attribute [local go_sem] L_ opAt N_ M_ Region.wanted yielded
attribute [local simp] N_ M_ MP.eq MP.agg MP.sl A0r
theorem C9n (w:World):Calls prog 27 #[.int .i64 1,.int .i64 2] w (A0c w (mkR 1 2)) :=
 A7u 1 2 w cD cD dE

theorem D8n (v1 v2:Value) (p q:TPoint) (b1 b2:List Nat) (w:World) (E:Agg w v1 p b1) (G:Agg w v2 q b2) :
  Calls prog 78 #[v1,v2] w (A0c w (E3w p q)):=by
 have aj:=A_ E;have ak:=A_ G;obtain⟨ax,aZ,aF,a8,ay,a1,aG,a9,az,a2,aH,ba,aA,a3,aI,bc,rfl,rfl,K,O,S,T⟩:=TPoint.agg E;obtain⟨aB,a4,aJ,bd,aC,a5,aK,be,aD,a6,aL,bf,aE,a7,aM,bg,rfl,rfl,W,X,Y,Z⟩:=TPoint.agg G;have P1:=A_ (TRat.mkAgg (x:=p.x) K O);have P2:=A_ (TRat.mkAgg (x:=p.y) S T);have Q1:=A_ (TRat.mkAgg (x:=q.x) W X);have Q2:=A_ (TRat.mkAgg (x:=q.y) Y Z);clear K O S T W X Y Z E G aj ak;go_enter func78,ntmps78;go_wp2_with fail;refine W_ 10 kR kR kR kR kR ?_;simp only[List.take_succ_cons,List.take_zero,List.drop_succ_cons,List.drop_zero];iterate 4 refine C_ _ ?_
 refine D_ (MP.agg (A0d p.x q.y)) ?_ ?_;·intro ac ad H b h;obtain⟨ao,aq⟩:=F_ b;simp at h;refine G_ ?_;exact H_ (A0n _ _ p.x q.y _ _ H (P1.below Below.go) (Q2.below Below.go))
 iterate 4 refine C_ _ ?_
 refine D_ (MP.agg (A0d p.y q.x)) ?_ ?_;·intro ac ad H b h;obtain⟨ao,aq⟩:=F_ b;simp at h;refine G_ ?_;exact H_ (A0n _ _ p.y q.x _ _ H (P2.below Below.go) (Q1.below Below.go))
 intro ac ad wa b h (ap:Hid _);simp at h;have aa:=h.2.2.2.2.1;have ab:=h.2.2.2.2.2.2.2.2.2;have ag:=A_ aa.1.1;have ah:=A_ ab.1.1;clear h ap aa ab;obtain⟨aP,aR⟩:=F_ b;have aT:w.1.size<wa.1.size:=ltg b;have aV:w.1.size+1<wa.1.size:=ltg b;have aX:w.1.size+1+1<wa.1.size:=ltg b;go_wp2_with fail;refine(A5b _ _ (A0d p.x q.y) (A0d p.y q.x) _ _ wa ag ah).mono ?_;rintro _ wb ⟨bh,sb,rfl,D,J,u⟩;obtain⟨ae,au,am,aN,af,aw,an,aO,rfl,ar,_,_⟩:=TRat.agg D;have ai:=A_ D;have I:=A_ J;clear D J ar;obtain⟨aQ,aS⟩:=F_ u;have aU:w.1.size<wb.1.size:=ltg u;have aW:w.1.size+1<wb.1.size:=ltg u;have aY:w.1.size+1+1<wb.1.size:=ltg u;go_wp2;refine bodyPost_ret (v:=.agg #[.bool (A3t (A0d p.x q.y) (A0d p.y q.x)).1.1,.slice ae au am,.slice af aw an]) (by simp[results,results78,go_sem, *]) rfl ?_;refine A1s (lo:=w.1.size+3) ai I.free (λal u=>by have:=(I.2 al u).1;(try simp at this);omega) oM ?_ ?_;·exact Above.go
 exact Below.go

theorem A7l (v0 v1 v2:Value) (o p q:TPoint) (ag b1 b2:List Nat) (w:World) (D:Agg w v0 o ag) (G:Agg w v1 p b1) (H:Agg w v2 q b2) :
  Calls prog 136 #[v0,v1,v2] w (A0c w (A2y o p q)):=by
 have J:=A_ D;obtain⟨aM,bq,aY,bu,aN,br,aZ,bv,aO,bs,a1,bz,aP,bt,a2,bA,rfl,rfl,am,an,ao,ap⟩:=TPoint.agg D;have ad:=A_ G;have ae:=A_ H;obtain⟨aE,bi,aQ,bB,aF,bj,aR,bD,aG,bk,aS,bE,aH,bl,aT,bF,rfl,rfl,aq,ar,au,aw⟩:=TPoint.agg G;obtain⟨aI,bm,aU,bG,aJ,bn,aV,bH,aK,bo,aW,bI,aL,bp,aX,bJ,rfl,rfl,ax,ay,az,aA⟩:=TPoint.agg H;clear am an ao ap aq ar au aw ax ay az aA D G H;go_enter func136,ntmps136;go_wp2_with fail;refine W_ 6 kR kR kR kR kR ?_;simp only[List.take_succ_cons,List.take_zero,List.drop_succ_cons,List.drop_zero];iterate 2 refine C_ _ ?_
 refine D_ (MP.agg (A4a p o)) ?_ ?_;·intro W X I b h;obtain⟨aj,al⟩:=F_ b;simp at h;refine G_ ?_;exact H_ (A1u _ _ p o _ _ I (ad.below Below.go) (J.below Below.go))
 iterate 2 refine C_ _ ?_
 refine D_ (MP.agg (A4a q o)) ?_ ?_;·intro W X I b h;obtain⟨aj,al⟩:=F_ b;simp at h;refine G_ ?_;exact H_ (A1u _ _ q o _ _ I (ae.below Below.go) (J.below Below.go))
 intro W X wa b h (ak:Hid _);simp at h;have S:=h.2.2.1;have T:=h.2.2.2.2.2;have aa:=A_ S.1.1;have ab:=A_ T.1.1;clear h ak S T;obtain⟨a5,a7⟩:=F_ b;have a9:w.1.size<wa.1.size:=ltg b;have bc:w.1.size+1<wa.1.size:=ltg b;have be:w.1.size+1+1<wa.1.size:=ltg b;have bg:w.1.size+1+1+1<wa.1.size:=ltg b;go_wp2_with fail;refine(D8n _ _ (A4a p o) (A4a q o) _ _ wa aa ab).mono ?_;rintro _ wb ⟨bK,sb,rfl,E,O,u⟩;obtain⟨Y,aC,ah,a3,Z,aD,ai,a4,rfl,aB,_,_⟩:=TRat.agg E;have ac:=A_ E;have K:=A_ O;clear E O aB;obtain⟨a6,a8⟩:=F_ u;have ba:w.1.size<wb.1.size:=ltg u;have bd:w.1.size+1<wb.1.size:=ltg u;have bf:w.1.size+1+1<wb.1.size:=ltg u;have bh:w.1.size+1+1+1<wb.1.size:=ltg u;go_wp2;refine bodyPost_ret (v:=.agg #[.bool (E3w (A4a p o) (A4a q o)).1.1,.slice Y aC ah,.slice Z aD ai]) (by simp[results,results136,go_sem, *]) rfl ?_;refine A1s (lo:=w.1.size+4) ac K.free (λaf u=>by have:=(K.2 af u).1;(try simp at this);omega) oM ?_ ?_;·exact Above.go
 exact Below.go

theorem B1s (v1 v2:Value) (p q:TPoint) (b1 b2:List Nat) (w:World) (E:Agg w v1 p b1) (G:Agg w v2 q b2) :
  Calls prog 172 #[v1,v2] w (A0c w (A2f p q)):=by
 have ad:=A_ E;have ae:=A_ G;obtain⟨aD,a8,aL,bh,aE,a9,aM,bi,aF,ba,aN,bj,aG,bc,aO,bk,rfl,rfl,an,ao,ap,aq⟩:=TPoint.agg E;obtain⟨aH,bd,aP,bl,aI,be,aQ,bm,aJ,bf,aR,bn,aK,bg,aS,bo,rfl,rfl,ar,au,aw,ax⟩:=TPoint.agg G;clear an ao ap aq ar au aw ax E G;go_enter func172,ntmps172;go_wp2_with fail;refine W_ 4 kR kR kR kR kR ?_;simp only[List.take_succ_cons,List.take_zero,List.drop_succ_cons,List.drop_zero];refine D_ (MP.agg (mkR 1 2)) ?_ ?_;·intro S T H b h;obtain⟨ak,am⟩:=F_ b;simp at h;refine G_ ?_;exact H_ (C9n H)
 iterate 2 refine C_ _ ?_
 refine D_ (MP.agg (A3y p q)) ?_ ?_;·intro S T H b h;obtain⟨ak,am⟩:=F_ b;simp at h;refine G_ ?_;exact H_ (A4x _ _ p q _ _ H (ad.below Below.go) (ae.below Below.go))
 intro S T wa b h (al:Hid _);simp at h;have K:=h.1;have O:=h.2.2.2;have aa:=A_ K.1.1;have ab:=A_ O.1.1;clear h al K O;obtain⟨aX,aZ⟩:=F_ b;have a2:w.1.size<wa.1.size:=ltg b;have a4:w.1.size+1<wa.1.size:=ltg b;have a6:w.1.size+1+1<wa.1.size:=ltg b;go_wp2_with fail;refine(A1n _ _ (mkR 1 2) (A3y p q) _ _ wa aa ab).mono ?_;rintro _ wb ⟨bp,sb,rfl,D,J,u⟩;obtain⟨W,az,ag,aT,X,aA,ah,aU,Y,aB,ai,aV,Z,aC,aj,aW,rfl,ay,_,_,_,_⟩:=TPoint.agg D;have ac:=A_ D;have I:=A_ J;clear D J ay;obtain⟨aY,a1⟩:=F_ u;have a3:w.1.size<wb.1.size:=ltg u;have a5:w.1.size+1<wb.1.size:=ltg u;have a7:w.1.size+1+1<wb.1.size:=ltg u;go_wp2;refine bodyPost_ret (v:=.agg #[.bool (A0v (mkR 1 2) (A3y p q)).x.1.1,.slice W az ag,.slice X aA ah,.bool (A0v (mkR 1 2) (A3y p q)).y.1.1,.slice Y aB ai,.slice Z aC aj]) (by simp[results,results172,go_sem, *]) rfl ?_;refine A1s (lo:=w.1.size+3) ac I.free (λaf u=>by have:=(I.2 af u).1;(try simp at this);omega) oM ?_ ?_;·exact Above.go
 exact Below.go
end Go.Proofs.YtbhemnidcleaiaaGreat.X

namespace Go.XN
open Go.XB
def A7m:List TPoint->Bool
 | [a,b,c]=>(A1b a&&(A1b b&&A1b c))&&decide (0<A9m (A2y a b c))
 |_=>false
end Go.XN
namespace Go.Proofs.YtbhemnidcleaiaaGreat.X
open Go.RowKit Go.XB Go.XN Proofs.Tryz
attribute [local go_sem] L_ opAt N_ M_ Region.wanted yielded
attribute [local simp] N_ M_ MP.eq MP.agg MP.sl A0r
theorem E0p (f:Nat) (ac:A4f f) (A:Option Addr) (n c:Nat) (xs:List TPoint) (aa:List Nat) (w:World) (p:TPoint->Bool) (u:Sl w A n c xs aa)
  (S:∀ (v:Value) (x:TPoint) (b:List Nat) (w:World),x∈xs->Agg w v x b->Calls prog f #[v] w (A0b w (.bool (p x)))) :
  Calls prog 195 #[.slice A n c,.func (.func f) #[] #[]] w (B9x w (xs.any p)):=by
 have X:=A_ u.1;have Z:=A_ u;have Y:=A_ S;unfold A4f at ac;have af:n<=maxLen:=Nat.le_trans u.2.1 u.2.2.1;unfold maxLen at af;clear u S;go_enter func195,ntmps195;go_wp2_with fail;go_loopg [8] n (λg s8 wr=>∃ k:Nat,k+g=n/\s8=.int .i64 k/\Hid ((xs.take k).any p=false)/\Bw w wr);case atStart=>exact⟨0,oM,rfl,by show(xs.take 0).any p=false;simp,Below.refl _ _⟩
 case round =>
  obtain⟨k,O,rfl,I,G⟩:=hrel;rcases Nat.lt_or_ge k n with h|h
  ·obtain⟨ak,aC,x,ag,m1,al,aD,ah,m2,am,aE,ai,aA,an,aF,aj,aB,ao,aG,rfl,ay,T,ap,aq,ar,au,aw,ax,J⟩:=TPoint.elemA (Sl.below Z G) h
   have E:=A_ T;have W:=A_ J;have ae:(k:Int)<n:=oM;obtain⟨g,rfl⟩:∃ g,gk=g+1:=⟨gk - 1,oM⟩
   have ad:=A_ (by omega:k+1+g=n);have az:k+1<=n:=h;clear T O h J;go_wp2_with fail;refine(Y _ x _ wr (List.mem_of_getElem? E) W).mono ?_;rintro _ aH ⟨rfl,ab⟩;have K:=Below.next G ab;cases D:p x
   ·have H:=A_ (B6c E I D)
    clear D;go_wp2_with fail;go_roundg g;case measure=>omega
    case rel=>exact⟨k+1,ad,gN,H,K⟩
   have H:=A_ (D1e E D);clear D;go_wp2;go_ret;exact⟨k,rfl,by rw[H.o];simp,K⟩
  have e:=A_ (show xs.any p=false by have:=I.o;rwa [List.take_of_length_le (by rw[X.o];omega)]at this);have ae:¬ ((k:Int)<n):=oM;clear O h;go_wp2;go_ret;exact⟨-1,rfl,by rw[e.o];rfl,G⟩

theorem B8q (f:Nat) (u:A4f f) (A:Option Addr) (n c:Nat) (xs:List TPoint) (h:List Nat) (w:World) (p:TPoint->Bool) (E:Sl w A n c xs h)
  (D:∀ (v:Value) (x:TPoint) (b:List Nat) (w:World),x∈xs->Agg w v x b->Calls prog f #[v] w (A0b w (.bool (p x)))) :
  Calls prog 139 #[.slice A n c,.func (.func f) #[] #[]] w (A0b w (.bool (xs.any p))):=by
 have J:=A_ E;have I:=A_ D;have H:=A_ u;clear E D u;go_enter func139,ntmps139;go_wp2_with fail;refine(E0p f H A n c xs h _ p (Sl.below J Below.go) I).mono ?_;rintro _ O ⟨r,rfl,e,K⟩;have G:=A_ e;clear e;go_wp2;go_ret;exact⟨Q_ G,K⟩

theorem B3e:A4f 246:=λa w=>kR
def D0l (x:TPoint):Bool:=!A1b x
theorem B4t (v:Value) (x:TPoint) (b:List Nat) (w:World) (h:Agg w v x b):Calls prog 246 #[v] w (A0b w (.bool (D0l x))):=by
 have u:=A_ h;obtain⟨I,Z,S,ad,J,aa,T,ae,K,ab,W,af,O,ac,X,ag,rfl,rfl,D,E,G,H⟩:=TPoint.agg h;clear D E G H h;go_enter func246,ntmps246;go_wp2_with fail;refine(B2j _ x _ _ (Agg.below u Below.go)).mono ?_;rintro _ ah ⟨rfl,Y⟩;go_wp2;go_ret;exact⟨rfl,Below.go⟩

theorem B2m (A:Option Addr) (n c:Nat) (xs:List TPoint) (Z:List Nat) (w:World) (K:Sl w A n c xs Z) :
  Calls prog 197 #[.slice A n c] w (A0b w (.bool (A7m xs))):=by
 have T:=A_ K;by_cases ai:n=3
 ·subst ai
  have X:=A_ (by rw[List.not_all_eq_any_not];rfl:xs.any D0l=!xs.all A1b);cases O:xs.all A1b
  ·have S:=A_ (show A7m xs=false by
    match xs,K.1 with
    | [a,E,c'],_ =>
     simp only[List.all_cons,List.all_nil,Bool.and_true]at O
     show((A1b a&&(A1b E&&A1b c'))&&_)=false
     rw[O];rfl)
   have Y:=A_ (by rw[X.o,O];rfl:xs.any D0l=true)
   clear O X K
   go_enter func197,ntmps197
   go_wp2_with fail
   refine A0g ?_
   iterate 5 refine C_ _ ?_
   refine D_ (MP.eq (.bool true)) ?_ ?_
   ·intro G H D u b;obtain⟨ac,ad⟩:=F_ u;simp at b;refine G_ ?_;exact A0i (by have C:=B8q 246 B3e A 3 c xs Z D D0l (Sl.below T u) (λv x E w _ h=>B4t v x E w h);rwa [Y.o]at C)
   iterate 3 refine C_ _ ?_
   iterate 12 apply A4m;case h =>intro G H D u b;simp at b;go_simp;first|done|(simp[undef];done)
   iterate 2 refine C_ _ ?_
   intro G H am u b (W:Hid _)
   simp at b
   go_simp
   clear b W
   go_wp2
   go_ret
   rw[S.o]
   exact⟨rfl,u⟩
  ·have Y:=A_ (by rw[X.o,O];rfl:xs.any D0l=false)
   have ae:=A_ O;clear O X;have aq:=K;obtain⟨I,b1,J,rfl⟩:∃ a E c',xs=[a,E,c']:=by
    match xs,K.1 with
    | [a,E,c'],_=>exact⟨a,E,c',rfl⟩
   obtain⟨aZ,bz,aY,P1,bk,a4,p1,P2,bl,a5,p2,aQ,bm,a6,bD,aR,bn,a7,bE,aM,bh,aj,ar,au,aw,ax,ay,az,af⟩:=TPoint.elemA T (by decide:0<3);obtain⟨a1,bA,b2,Q1,bo,a8,q1,Q2,bp,a9,q2,aS,bq,ba,bF,aT,br,bc,bG,aa,aN,ak,aA,aB,aC,aD,aE,aF,ag⟩:=TPoint.elemA T (by decide:1<3);obtain⟨a2,bB,a3,aU,bs,bd,bH,aV,bt,be,bI,aW,bu,bf,bJ,aX,bv,bg,bK,ab,aO,al,aG,aH,aI,aJ,aK,aL,ah⟩:=TPoint.elemA T (by decide:2<3);subst aM;injection aa with aa;injection aa with h1 h2 _;subst h1;subst h2;injection ab with ab;injection ab with h1 h2 _;subst h1;subst h2;simp at aj ak al;subst aj;subst ak;subst al;simp at ar au aw ax ay az aA aB aC aD aE aF aG aH aI aJ aK aL;have an:=A_ af;have ao:=A_ ag;have ap:=A_ ah;clear aN aO af ag ah K aq;have S:=A_ (show decide (0<A9m (A2y I b1 J))=A7m [I,b1,J] by
    have h:=ae.o;simp only[List.all_cons,List.all_nil,Bool.and_true]at h;show _=((A1b I&&(A1b b1&&A1b J))&&_)
    rw[h];rfl)
   clear ae;go_enter func197,ntmps197;go_wp2_with fail;refine A0g ?_;iterate 5 refine C_ _ ?_
   refine D_ (MP.eq (.bool false)) ?_ ?_;·intro G H D u b;obtain⟨ac,ad⟩:=F_ u;simp at b;refine G_ ?_;exact A0i (by have C:=B8q 246 B3e _ 3 c [I,b1,J] Z D D0l (Sl.below T u) (λv x E w _ h=>B4t v x E w h);rwa [Y.o]at C)
   iterate 3 refine C_ _ ?_
   iterate 9 refine C_ _ ?_
   refine D_ (MP.agg (A2y I b1 J)) ?_ ?_;·intro G H D u b;obtain⟨ac,ad⟩:=F_ u;simp at b;refine G_ ?_;exact H_ (A7l _ _ _ I b1 J _ _ _ D (an.below u) (ao.below u) (ap.below u))
   refine D_ (MP.eq (.int .i64 (A9m (A2y I b1 J)))) ?_ ?_;·intro G H D u b;obtain⟨ac,ad⟩:=F_ u;simp at b;refine G_ ?_;exact A0i (B8u _ (A2y I b1 J) _ D b.1.1)
   iterate 3 refine C_ _ ?_
   intro G H am u b (W:Hid _);simp at b;go_simp;clear b W;go_wp2;go_ret;exact⟨Q_ S,u⟩
 have S:=A_ (show A7m xs=false by
  have aP:=K.1;match xs with
  | []=>rfl
  | [_]=>rfl
  | [_,_]=>rfl
  | [_,_,_]=>exact absurd aP.symm ai
  |_::_::_::_::_=>rfl)
 have bj:¬ ((n:Int)=3):=oM;have bi:((n:Int)==3)=false:=sO;clear K;go_enter func197,ntmps197;go_wp2_with fail;refine A0g ?_;iterate 4 refine C_ _ ?_
 iterate 3 apply A4m;case h =>intro G H D u b;simp at b;go_simp;first|done|(simp[undef];done)
 iterate 2 refine C_ _ ?_
 iterate 12 apply A4m;case h =>intro G H D u b;simp at b;go_simp;first|done|(simp[undef];done)
 iterate 2 refine C_ _ ?_
 intro G H am u b (W:Hid _);simp at b;go_simp;clear b W;go_wp2;go_ret;rw[S.o];exact⟨rfl,u⟩
end Go.Proofs.YtbhemnidcleaiaaGreat.X

namespace Go.XB
open Go.RowKit
def MP.slbox (cs:Array Value) (t:TypeId):MP:=⟨λv bs w=>∃ g,v=.slice (some ⟨g,0,none⟩) 1 1/\bs=[g]/\w.1[g]?=some (.cells cs t),λv bs w w' hb h=>by
 obtain⟨g,e,hz,hg⟩:=h;exact⟨g,e,hz,(hb.block g (E_ hg)).trans hg⟩⟩
section
variable {P:Program} {l:List Oper} {a0:Act}
theorem A1d {w0:World} {F:List DP->Prop} {o:Oper} {D:List Oper} {u:List DP} (m:DP) (J:Cong m (N_ o))
  (h:∀ (y:Nat->Value) (z:Nat->List Nat) (w:World),Bw w0 w->(∀ k∈N_ o,(u.getD k (λ_=>MP.eq undef) y).p (y k) (z k) w) ->
   Region.wanted o (yielded l.toArray (L_ l y a0 (N_ o)).tmps)=true/\∃ v w',(execOp (L_ l y a0 (N_ o)).eval o).run P w=.ok (.value v) w'/\Bw w w'/\∃ bs,(m y).p v bs w'/\∀ b∈bs,w.1.size<=b/\b<w'.1.size)
  (O:A4c P l w0 a0 F D (u++[m])):A4c P l w0 a0 F (o::D) u:=by
 refine⟨m,J,λy z w I K=>?_,O⟩;obtain⟨E,v,w',G,H⟩:=h y z w I K;rw[if_pos E];unfold B2b;rw[G];exact H
end
theorem A0a {w:World} {g:Nat} {b:Array Value} {t:TypeId} (h:w.1[g]?=some (.cells b t)):∀ j u,b.toList[j]?=some u->w.cell? ((⟨g,0,none⟩:Addr).add j)=some u:=by
 intro j u D;have e:(⟨g,0,none⟩:Addr).add j=⟨g,j,none⟩:=by unfold Addr.add;split<;>simp_all
 rw[e];exact(B_ h (by simpa using D)).1
end Go.XB
namespace Go.Proofs.YtbhemnidcleaiaaGreat.X
open Go.RowKit Go.XB Go.XN Proofs.Tryz
attribute [local go_sem] L_ opAt N_ M_ Region.wanted yielded
attribute [local simp] N_ M_ MP.eq MP.agg MP.sl A0r
theorem D1n:(prog.info? 38).map (λi=>(i.zero,i.size,i.bytes))=some (some (.agg #[.bool false,.slice none 0 0,.slice none 0 0,.bool false,.slice none 0 0,.slice none 0 0]),6,112):=kR
def at0 (xs:List Int) (a:Int):Int:=xs.getD a.toNat 0
def E9r (xs ys:List Int) (a b c:Int):Int:=(at0 xs b - at0 xs a)*(at0 ys c - at0 ys a) - (at0 ys b - at0 ys a)*(at0 xs c - at0 xs a)
def A5u (xs ys:List Int) (a b c:Int):Int:=sgn (E9r xs ys a b c)
def A5t (xs ys:List Int) (a b c:Int):Bool:=decide (A5u xs ys a b c=0)&&(inB (min (at0 xs a) (at0 xs b)) (at0 xs c) (max (at0 xs a) (at0 xs b))&&inB (min (at0 ys a) (at0 ys b)) (at0 ys c) (max (at0 ys a) (at0 ys b)))
def A6a (xs:List Int):Prop:=∀ x∈xs,-100<=x/\x<=100
def Plc (w:World) (v:Value) (n:Nat) (xs ys:List Int):Prop:=∃ (A:Option Addr) (c X oX cX Y oY cY:Nat) (bX bY:List Nat),v=.agg #[.slice A n c,.slice (some ⟨X,oX,none⟩) n cX,.slice (some ⟨Y,oY,none⟩) n cY]/\Sl w (some ⟨X,oX,none⟩) n cX xs bX/\Sl w (some ⟨Y,oY,none⟩) n cY ys bY
theorem Plc.below {w w':World} {v:Value} {n:Nat} {xs ys:List Int} (h:Plc w v n xs ys) (b:Bw w w'):Plc w' v n xs ys:=by
 obtain⟨A,c,u,S,H,D,T,I,E,G,J,K,O⟩:=h;exact⟨A,c,u,S,H,D,T,I,E,G,J,K.below b,O.below b⟩
theorem D0b {a b:Int} (u:-200<=a/\a<=200) (D:-200<=b/\b<=200):-40000<=a*b/\a*b<=40000:=by
 have h:(a*b).natAbs<=200*200:=by rw[Int.natAbs_mul];exact Nat.mul_le_mul oM oM
 omega
theorem A3v (v:Value) (n:Nat) (xs ys:List Int) (a b c:Int) (w:World) (Y:Plc w v n xs ys) (I:A6a xs) (J:A6a ys) (T:0<=a/\a<n) (W:0<=b/\b<n) (X:0<=c/\c<n) :
  Calls prog 141 #[v,.int .i64 a,.int .i64 b,.int .i64 c] w (A0b w (.int .i64 (A5u xs ys a b c))):=by
 obtain⟨A,aG,ay,aW,aH,az,aX,aI,aE,aF,rfl,E,G⟩:=Y;obtain⟨K,rfl⟩:=Int.eq_ofNat_of_zero_le T.1;obtain⟨O,rfl⟩:=Int.eq_ofNat_of_zero_le W.1;obtain⟨S,rfl⟩:=Int.eq_ofNat_of_zero_le X.1;obtain⟨_,_,u,h,aP,Z,_,aJ⟩:=Sl.getInt E (by omega:K<n);cases h;obtain⟨_,_,af,h,_,aa,_,aK⟩:=Sl.getInt E (by omega:O<n);cases h;obtain⟨_,_,ag,h,_,ab,_,aL⟩:=Sl.getInt E (by omega:S<n);cases h;obtain⟨_,_,D,h,aQ,ac,_,aM⟩:=Sl.getInt G (by omega:K<n);cases h;obtain⟨_,_,ah,h,_,ad,_,aN⟩:=Sl.getInt G (by omega:O<n);cases h;obtain⟨_,_,ai,h,_,ae,_,aO⟩:=Sl.getInt G (by omega:S<n);cases h;have aj:=A_ (show sgn ((af - u)*(ai - D) - (ah - D)*(ag - u))=A5u xs ys K O S by unfold A5u E9r at0;simp[List.getD,Z,aa,ab,ac,ad,ae]);have b1:=I u (List.mem_of_getElem? Z);have b2:=I af (List.mem_of_getElem? aa);have aA:=I ag (List.mem_of_getElem? ab);have aB:=J D (List.mem_of_getElem? ac);have aC:=J ah (List.mem_of_getElem? ad);have aD:=J ai (List.mem_of_getElem? ae);obtain⟨p,Y⟩:∃ p,af - u=p:=⟨_,rfl⟩
 obtain⟨q,ao⟩:∃ q,ai - D=q:=⟨_,rfl⟩
 obtain⟨r,ap⟩:∃ r,ah - D=r:=⟨_,rfl⟩
 obtain⟨s,aq⟩:∃ s,ag - u=s:=⟨_,rfl⟩
 have p1:-200<=p/\p<=200:=oM;have q1:-200<=q/\q<=200:=oM;have ar:-200<=r/\r<=200:=oM;have au:-200<=s/\s<=200:=oM;obtain⟨m1,al⟩:∃ m,p*q=m:=⟨_,rfl⟩
 obtain⟨m2,am⟩:∃ m,r*s=m:=⟨_,rfl⟩
 have k1:-40000<=m1/\m1<=40000:=by have:=D0b p1 q1;rw[al]at this;exact this
 have k2:-40000<=m2/\m2<=40000:=by have:=D0b ar au;rw[am]at this;exact this
 rw[Y,ao,ap,aq,al,am]at aj;have aT:(K:Int)<n:=T.2;have aU:(O:Int)<n:=W.2;have aV:(S:Int)<n:=X.2;clear E G Z aa ab ac ad ae I J T W X;go_enter func141,ntmps141;go_wp2_with fail;refine A0g ?_;iterate 47 refine C_ _ ?_
 refine D_ (MP.eq (.int .i64 (sgn (m1 - m2)))) ?_ ?_;·intro aw ax aY ak H;obtain⟨aR,aS⟩:=F_ ak;simp at H;refine G_ ?_;exact A0i (C2j _ _)
 refine C_ _ ?_;intro aw ax wa ak H (an:Hid _);simp at H;go_simp;clear H an;go_wp2;go_ret;rw[<-aj.o];exact⟨rfl,Below.go⟩

end Go.Proofs.YtbhemnidcleaiaaGreat.X

namespace Go.XN
open Go.XB
structure Q where
 n:Int
 d:Int
def Q.ok (q:Q):Bool:=decide (0<q.d)&&(decide (q.d<10 ^ 200)&&(decide (-(10 ^ 200)<q.n)&&decide (q.n<10 ^ 200)))
def toR (q:Q):TRat:=mkR q.n q.d
def E0z (q r:Q):Q:=⟨q.n*r.d+r.n*q.d,q.d*r.d⟩
def E3c (q r:Q):Q:=⟨q.n*r.d - r.n*q.d,q.d*r.d⟩
def C0q (q r:Q):Q:=⟨q.n*r.n,q.d*r.d⟩
def E6c (q:Q):Q:=⟨-q.n,q.d⟩
def D6g (q:Q):Q:=⟨q.d,q.n⟩
def qeq (q r:Q):Bool:=decide (q.n*r.d=r.n*q.d)
def A3u (r s:TRat):TRat:=if (J_ r&&J_ s)&&!s.num.mag.isEmpty then A0d r ⟨⟨s.1.1,s.2⟩,s.1.2⟩else A0h
end Go.XN
namespace Go.Proofs.YtbhemnidcleaiaaGreat.X
open Go.RowKit Go.XB Go.XN Proofs.Tryz
attribute [local go_sem] L_ opAt N_ M_ Region.wanted yielded
attribute [local simp] N_ M_ MP.eq MP.agg MP.sl A0r
theorem _root_.dK {p:Prop} (h:p:=by decide +kernel):p:=h
theorem E9h:(10:Int) ^ 200<pw 24:=dK
structure Q.Ok (q:Q):Prop where
 d0:0<q.d
 d1:q.d<10 ^ 200
 n0:-(10 ^ 200)<q.n
 n1:q.n<10 ^ 200
theorem Q.ok_iff {q:Q}:q.ok=true↔Q.Ok q:=by
 unfold Q.ok;constructor;·intro h;simp only[Bool.and_eq_true,decide_eq_true_eq]at h;exact⟨h.1,h.2.1,h.2.2.1,h.2.2.2⟩
 intro h;simp only[Bool.and_eq_true,decide_eq_true_eq];exact⟨h.d0,h.d1,h.n0,h.n1⟩
theorem A8q {q:Q} (h:q.ok=true):J_ (toR q)=true:=by
 obtain⟨u,O,S,T⟩:=Q.ok_iff.1 h;have ab:=E9h;obtain⟨g,a,b,Y,J,W,X,_,H,I⟩:=B6r (A:=q.n) u;have aa:b<=q.d:=by have:1*b<=g*b:=Int.mul_le_mul_of_nonneg_right oM oM;omega
 have Z:a.natAbs<=q.n.natAbs:=by rw[J,Int.natAbs_mul];exact Nat.le_mul_of_pos_left _ oM
 have D:toR q=⟨A0f a,dig b.natAbs⟩:=by unfold toR mkR;rw[H,I,if_pos ⟨len_le_iff.2 (by generalize (10:Int) ^ 200=G at *;omega),len_le_iff.2 (by generalize (10:Int) ^ 200=G at *;omega)⟩]
 unfold toR at D ⊢;rw[<-D1c u,D];have E:val (dig b.natAbs)=b:=by rw[A1j];omega
 cases K:dig b.natAbs with
 |nil=>rw[K]at E;simp[val]at E;omega
 |cons _ _=>rfl
theorem B2u {q:Q} (h:q.ok=true):RatV (toR q):=ratOkB_iff.1 (A8q h)
theorem A6l {q:Q} (h:q.ok=true):R_ (toR q)*q.d=q.n*T_ (toR q):=E8a (Q.ok_iff.1 h).d0 (A8q h)
theorem D9b {q r:Q} (b:q.ok=true) (h:r.ok=true) (u:(E0z q r).ok=true):A0k (toR q) (toR r)=toR (E0z q r):=by
 have H:=A6l b;have I:=A6l h;have G:=A6l u;rw[E5r (A8q b) (A8q h)];refine A9v (B2u u) (Int.mul_pos (B2u b).den0 (B2u h).den0) ?_;have D:=(Q.ok_iff.1 b).d0;have E:=(Q.ok_iff.1 h).d0;have J:0<q.d*r.d:=Int.mul_pos D E;refine Int.eq_of_mul_eq_mul_right (a:=q.d*r.d) oM ?_;simp only[E0z]at G ⊢;grind
theorem E7d {q r:Q} (b:q.ok=true) (h:r.ok=true) (u:(E3c q r).ok=true):A3t (toR q) (toR r)=toR (E3c q r):=by
 have H:=A6l b;have I:=A6l h;have G:=A6l u;unfold A3t;rw[A8q b,A8q h];show mkR _ _=_;refine A9v (B2u u) (Int.mul_pos (B2u b).den0 (B2u h).den0) ?_;have D:=(Q.ok_iff.1 b).d0;have E:=(Q.ok_iff.1 h).d0;have J:0<q.d*r.d:=Int.mul_pos D E;refine Int.eq_of_mul_eq_mul_right (a:=q.d*r.d) oM ?_;simp only[E3c]at G ⊢;grind
theorem C3v {q r:Q} (b:q.ok=true) (h:r.ok=true) (u:(C0q q r).ok=true):A0d (toR q) (toR r)=toR (C0q q r):=by
 have H:=A6l b;have I:=A6l h;have G:=A6l u;unfold A0d;rw[A8q b,A8q h];show mkR _ _=_;refine A9v (B2u u) (Int.mul_pos (B2u b).den0 (B2u h).den0) ?_;have D:=(Q.ok_iff.1 b).d0;have E:=(Q.ok_iff.1 h).d0;have J:0<q.d*r.d:=Int.mul_pos D E;refine Int.eq_of_mul_eq_mul_right (a:=q.d*r.d) oM ?_;simp only[C0q]at G ⊢;grind
theorem B7t {q r:Q} (u:q.ok=true) (b:r.ok=true) (h:qeq q r=true):toR q=toR r:=by
 have E:=A6l b;have e:q.n*r.d=r.n*q.d:=of_decide_eq_true h;refine A9v (B2u b) (Q.ok_iff.1 u).d0 ?_;have D:=(Q.ok_iff.1 b).d0;refine Int.eq_of_mul_eq_mul_right (a:=r.d) oM ?_;grind
theorem E6e {q:Q} (b:q.ok=true):C3m (toR q)=toR (E6c q):=by
 have D:=A6l b;have J:(E6c q).ok=true:=by obtain⟨G,D,H,I⟩:=Q.ok_iff.1 b;exact Q.ok_iff.2 ⟨G,D,by show -(10 ^ 200) < -q.n;omega,by show -q.n<10 ^ 200;omega⟩
 have V:=B2u b;unfold C3m;rw[A8q b];show(⟨A0f (-R_ (toR q)),(toR q).2⟩:TRat)=_;have h:A0f (-R_ (toR q))=⟨!(toR q).1.1&&!(toR q).1.2.isEmpty,(toR q).1.2⟩:=B9l V.1;have E:RatV ⟨A0f (-R_ (toR q)),(toR q).2⟩:=by
  refine⟨?_,V.2,V.den0,?_,V.den24,?_⟩;·rw[h,bigOkB_iff];refine⟨(bigOkB_iff.1 V.1).1,λu e=>?_⟩;simp at u;exact u.2 e
  ·rw[h];exact V.num24
  rw[h];exact V.one
 refine(A9v E (Q.ok_iff.1 b).d0 ?_).symm;show -q.n*T_ (toR q)=A0q (A0f (-R_ (toR q)))*q.d;rw[A5m];grind
theorem D6r {n:Int} (G:-1000000<n) (H:n<1000000):RatV (U_ n):=by
 have D:(dig n.natAbs).length<=24:=len_le_iff.2 (by have:=E9h;generalize pw 24=E at *;omega);refine⟨?_,?_,(by decide:0<val [1]),D,(by decide:[(1:Int)].length<=24),?_⟩
 ·rw[bigOkB_iff]
  refine⟨⟨by show(dig n.natAbs).length<=60;omega,A0j _⟩,λu e=>?_⟩;have I:n<0:=by simpa[U_,A0f]using u
  have b:=A1j n.natAbs;have h:dig n.natAbs=[]:=e;rw[h]at b;simp[val]at b;omega
 ·exact(natOkB_iff.1 (by decide:A3m [1]=true)).2
 show Int.gcd _ (val [1])=1;rw[show val [1]=1 by decide];exact Int.gcd_one
theorem B9z {n:Int} (b:-1000000<n) (h:n<1000000):U_ n=toR ⟨n,1⟩:=by
 refine(A9v (A:=n) (B:=1) (T:=U_ n) (D6r b h) dE ?_).symm;show n*val [1]=A0q (A0f n)*1;rw[A5m];simp[val]
theorem E0d {q r:Q} (H:q.ok=true) (u:r.ok=true) (E:0<r.n) (Z:(C0q q (D6g r)).ok=true):A3u (toR q) (toR r)=toR (C0q q (D6g r)):=by
 have O:=A6l u;have V:=B2u u;obtain⟨J,K,aa,n1⟩:=Q.ok_iff.1 u;have W:(D6g r).ok=true:=Q.ok_iff.2 ⟨E,n1,by show -(10 ^ 200)<r.d;omega,K⟩;have T:=V.den0;have h:0<R_ (toR r):=by
  have S:0<R_ (toR r)*r.d:=by rw[O];exact Int.mul_pos E T
  exact Int.pos_of_mul_pos_left S J
 have G:(toR r).1.1=false:=by
  cases b:(toR r).1.1 with
  |false=>rfl
  |true =>
   have:=S_ V.mag.1
   unfold R_ A0q at h
   rw[b]at h
   simp at h;omega
 have D:R_ (toR r)=val (toR r).1.2:=by unfold R_ A0q;rw[G];rfl
 have Y:(toR r).1.2.isEmpty=false:=by
  cases b:(toR r).1.2 with
  |nil=>rw[D,b]at h;simp[val]at h
  |cons _ _=>rfl
 have X:(⟨⟨(toR r).1.1,(toR r).2⟩,(toR r).1.2⟩:TRat)=toR (D6g r):=by
  have I:RatV ⟨⟨(toR r).1.1,(toR r).2⟩,(toR r).1.2⟩:=by
   refine⟨?_,V.mag,by rw[<-D];exact h,V.den24,V.num24,?_⟩;·rw[bigOkB_iff];refine⟨⟨by have:=V.den24;show(toR r).2.length<=60;omega,V.2⟩,λb=>?_⟩;rw[G]at b;cases b
   show Int.gcd (val (toR r).2) (val (toR r).1.2)=1;rw[Int.gcd_comm];exact V.one
  refine(A9v I (show 0<(D6g r).d from E) ?_).symm;show r.d*val (toR r).1.2=(if (toR r).1.1 then -val (toR r).2 else val (toR r).2)*r.n;rw[G,<-D];show r.d*R_ (toR r)=T_ (toR r)*r.n;grind
 unfold A3u;rw[A8q H,A8q u,Y,X];exact C3v H W Z
theorem D4z {q:Q} (u:q.ok=true):A9m (toR q)=sgn q.n:=by
 have D:=A6l u;have V:=B2u u;have E:=(Q.ok_iff.1 u).d0;have H:=V.den0;unfold A9m;rw[A8q u];show sgn (R_ (toR q))=sgn q.n;have G:0<T_ (toR q):=H;rcases Int.lt_trichotomy q.n 0 with b|b|b
 ·have:R_ (toR q)<0:=by
   rcases Int.lt_or_le (R_ (toR q)) 0 with h|h
   ·exact h
   have:=Int.mul_nonneg h (Int.le_of_lt E)
   have I:=Int.mul_pos (by omega:0 < -q.n) G
   have e:-q.n*T_ (toR q) = -(q.n*T_ (toR q)):=by rw[Int.neg_mul]
   omega
  unfold sgn;rw[if_pos this,if_pos b]
 ·have:R_ (toR q)=0:=by
   rw[b,Int.zero_mul]at D
   exact(Int.mul_eq_zero.1 D).resolve_right oM
  rw[this,b]
 ·have:0<R_ (toR q):=by
   have h:0<R_ (toR q)*q.d:=by rw[D];exact Int.mul_pos b G
   exact Int.pos_of_mul_pos_left h E
  rw[B5h this,B5h b]
theorem ix0 (a b c:Int) (w:World):Sem.run prog (Instr.index 111 (.agg #[.int .i64 a,.int .i64 b,.int .i64 c]) (.int .i64 0)) w=.ok (.int .i64 a) w:=kR
theorem ix1 (a b c:Int) (w:World):Sem.run prog (Instr.index 111 (.agg #[.int .i64 a,.int .i64 b,.int .i64 c]) (.int .i64 1)) w=.ok (.int .i64 b) w:=kR
theorem ix2 (a b c:Int) (w:World):Sem.run prog (Instr.index 111 (.agg #[.int .i64 a,.int .i64 b,.int .i64 c]) (.int .i64 2)) w=.ok (.int .i64 c) w:=kR
def cnr (t:TTri):Nat->Int
 |0=>t.a
 |1=>t.b
 |_=>t.c
theorem ixn (t:TTri) {i:Nat} (h:i<3) (w:World):Sem.run prog (Instr.index 111 (.agg #[.int .i64 t.a,.int .i64 t.b,.int .i64 t.c]) (.int .i64 i)) w=.ok (.int .i64 (cnr t i)) w:=by
 obtain rfl|rfl|rfl:i=0\/i=1\/i=2:=oM;·exact ix0 _ _ _ w
 ·exact ix1 _ _ _ w
 exact ix2 _ _ _ w
theorem C7j {t:TTri} {w:World} {g:Nat} (h:w.cell? ⟨g,0,none⟩=some (.int .i64 t.a)/\w.cell? ⟨g,1,none⟩=some (.int .i64 t.b)/\w.cell? ⟨g,2,none⟩=some (.int .i64 t.c)) {i:Nat} (hi:i<3):w.cell? ⟨g,i,none⟩=some (.int .i64 (cnr t i)):=by
 obtain rfl|rfl|rfl:i=0\/i=1\/i=2:=oM;·exact h.1
 ·exact h.2.1
 exact h.2.2
theorem C3u {t:TTri} (h:I64 t.a/\I64 t.b/\I64 t.c):∀ i,I64 (cnr t i)
 |0=>h.1
 |1=>h.2.1
 |_+2=>h.2.2
theorem F1e {i:Nat} (h:i<3):(((i:Int)+1).tmod 3=((i+1) % 3:Nat)/\((i:Int)+2).tmod 3=((i+2) % 3:Nat))/\(i+1) % 3<3/\(i+2) % 3<3:=by
 obtain rfl|rfl|rfl:i=0\/i=1\/i=2:=oM;all_goals exact⟨⟨rfl,rfl⟩,dE,dE⟩
theorem E1u {t:TTri} {w:World} {g:Nat} {ty:TypeId} (h:w.1[g]?=some (.cells #[.int .i64 t.a,.int .i64 t.b,.int .i64 t.c] ty)) :
  (w.cell? ⟨g,0,none⟩=some (.int .i64 t.a)/\w.cell? ⟨g,1,none⟩=some (.int .i64 t.b)/\w.cell? ⟨g,2,none⟩=some (.int .i64 t.c))/\g<w.1.size/\∀ {i:Nat} {a:Int},i<3->cnr t i=a->w.cell? ⟨g,i,none⟩=some (.int .i64 a) :=
 have d:=⟨(B_ h (j:=0) rfl).1,(B_ h (j:=1) rfl).1,(B_ h (j:=2) rfl).1⟩
 ⟨d,E_ h,λhi e=>e ▸ C7j d hi⟩
theorem C5r (v:Value) (n:Nat) (xs ys:List Int) (a b c:Int) (w:World) (aE:Plc w v n xs ys) (aF:A6a xs) (aG:A6a ys) (S:0<=a/\a<n) (T:0<=b/\b<n) (X:0<=c/\c<n) (aH:A5u xs ys a b c=0) (J:inB (min (at0 xs a) (at0 xs b)) (at0 xs c) (max (at0 xs a) (at0 xs b))=false) :
  Calls prog 143 #[v,.int .i64 a,.int .i64 b,.int .i64 c] w (A0b w (.bool (A5t xs ys a b c))):=by
 have aR:=A_ aE;obtain⟨A,aU,aA,aY,aV,aB,aZ,aW,a4,a5,rfl,K,O⟩:=aE;have aQ:=A_ (A3v _ n xs ys a b c (w.alloc (.cells #[.slice A n aU,.slice (some ⟨aA,aY,none⟩) n aV,.slice (some ⟨aB,aZ,none⟩) n aW] 127)) (aR.below (Below.box _)) aF aG S T X);have az:=A_ aH;obtain⟨G,rfl⟩:=Int.eq_ofNat_of_zero_le S.1;obtain⟨H,rfl⟩:=Int.eq_ofNat_of_zero_le T.1;obtain⟨I,rfl⟩:=Int.eq_ofNat_of_zero_le X.1;obtain⟨_,_,al,u,bf,aI,_,a7⟩:=Sl.getInt K (by omega:G<n);cases u;obtain⟨_,_,am,u,_,aJ,_,a8⟩:=Sl.getInt K (by omega:H<n);cases u;obtain⟨_,_,an,u,_,aK,_,a9⟩:=Sl.getInt K (by omega:I<n);cases u;obtain⟨_,_,ao,u,bh,aL,_,ba⟩:=Sl.getInt O (by omega:G<n);cases u;obtain⟨_,_,ap,u,_,aM,_,bc⟩:=Sl.getInt O (by omega:H<n);cases u;obtain⟨_,_,aq,u,_,aN,_,bd⟩:=Sl.getInt O (by omega:I<n);cases u;have ad:at0 xs G=al:=by unfold at0;simp[List.getD,aI]
 have ae:at0 xs H=am:=by unfold at0;simp[List.getD,aJ]
 have af:at0 xs I=an:=by unfold at0;simp[List.getD,aK]
 have ar:at0 ys G=ao:=by unfold at0;simp[List.getD,aL]
 have au:at0 ys H=ap:=by unfold at0;simp[List.getD,aM]
 have aw:at0 ys I=aq:=by unfold at0;simp[List.getD,aN]
 rw[ad,ae,af]at J;have ax:=A_ J;obtain⟨lx,Y⟩:∃ l,min al am=l:=⟨_,rfl⟩
 obtain⟨aj,Z⟩:∃ l,max al am=l:=⟨_,rfl⟩
 obtain⟨aO,ah⟩:∃ l,min ao ap=l:=⟨_,rfl⟩
 obtain⟨aP,ai⟩:∃ l,max ao ap=l:=⟨_,rfl⟩
 rw[Y,Z]at ax J;have ay:=A_ (show(inB lx an aj&&inB aO aq aP)=A5t xs ys G H I by unfold A5t;rw[ad,ae,af,ar,au,aw,az.o,Y,Z,ah,ai];simp);have aS:=A_ Y;have aT:=A_ Z;have a2:=A_ ah;have a3:=A_ ai;obtain⟨a6,ag⟩:∃ b,inB aO aq aP=b:=⟨_,rfl⟩
 have a1:=A_ ag;rw[ag,J]at ay;have bk:(G:Int)<n:=S.2;have bl:(H:Int)<n:=T.2;have bm:(I:Int)<n:=X.2;clear K O aI aJ aK aL aM aN aF aG S T X aH ag J Y Z ah ai ad ae af ar au aw;go_enter func143,ntmps143;go_wp2_with fail;have C:=aQ.o;rw[az.o]at C;refine C.mono ?_;clear C;rintro _ ak ⟨rfl,W⟩;obtain⟨bi,bj⟩:=F_ W;have bn:w.1.size<ak.1.size:=ltg W;have be:aA<ak.1.size:=by have:=W.size;simp at this;omega
 have bg:aB<ak.1.size:=by have:=W.size;simp at this;omega
 go_wp2_with fail;refine A0g ?_;iterate 15 refine C_ _ ?_
 refine A2b (.int .i64 lx) ?_ ?_;·intro ab ac aa E D;obtain⟨aC,aD⟩:=F_ E;simp at D;refine⟨gD,?_⟩;go_simp;(rw[<-aS.o];split<;>omega)
 iterate 10 refine C_ _ ?_
 refine A2b (.int .i64 aj) ?_ ?_;·intro ab ac aa E D;obtain⟨aC,aD⟩:=F_ E;simp at D;refine⟨gD,?_⟩;go_simp;(rw[<-aT.o];split<;>omega)
 refine D_ (MP.eq (.bool false)) ?_ ?_;·intro ab ac aa E D;obtain⟨aC,aD⟩:=F_ E;simp at D;refine G_ ?_;exact A0i (by have C:=A0s an lx aj aa;rw[ax.o]at C;exact C)
 refine C_ _ ?_;iterate 28 apply A4m;case h =>intro ab ac aa E D;simp at D;go_simp;first|done|(simp[undef];done)
 iterate 2 refine C_ _ ?_
 intro ab ac wa E D (aX:Hid _);simp at D;go_simp;clear D aX;go_wp2;go_ret;rw[<-ay.o];exact⟨sI,Below.go⟩

theorem C8j (v:Value) (n:Nat) (xs ys:List Int) (a b c:Int) (w:World) (aF:Plc w v n xs ys) (aG:A6a xs) (aH:A6a ys) (Y:0<=a/\a<n) (Z:0<=b/\b<n) (ab:0<=c/\c<n) (aI:A5u xs ys a b c=0) (O:inB (min (at0 xs a) (at0 xs b)) (at0 xs c) (max (at0 xs a) (at0 xs b))=true) :
  Calls prog 143 #[v,.int .i64 a,.int .i64 b,.int .i64 c] w (A0b w (.bool (A5t xs ys a b c))):=by
 have aR:=A_ aF;obtain⟨A,aX,aD,a2,aY,aE,a3,aZ,a4,a5,rfl,W,X⟩:=aF;have aQ:=A_ (A3v _ n xs ys a b c (w.alloc (.cells #[.slice A n aX,.slice (some ⟨aD,a2,none⟩) n aY,.slice (some ⟨aE,a3,none⟩) n aZ] 127)) (aR.below (Below.box _)) aG aH Y Z ab);have aC:=A_ aI;obtain⟨G,rfl⟩:=Int.eq_ofNat_of_zero_le Y.1;obtain⟨H,rfl⟩:=Int.eq_ofNat_of_zero_le Z.1;obtain⟨I,rfl⟩:=Int.eq_ofNat_of_zero_le ab.1;obtain⟨_,_,ap,D,be,aJ,_,a6⟩:=Sl.getInt W (by omega:G<n);cases D;obtain⟨_,_,aq,D,_,aK,_,a7⟩:=Sl.getInt W (by omega:H<n);cases D;obtain⟨_,_,ar,D,_,aL,_,a8⟩:=Sl.getInt W (by omega:I<n);cases D;obtain⟨_,_,au,D,bg,aM,_,a9⟩:=Sl.getInt X (by omega:G<n);cases D;obtain⟨_,_,aw,D,_,aN,_,ba⟩:=Sl.getInt X (by omega:H<n);cases D;obtain⟨_,_,ag,D,_,aO,_,bc⟩:=Sl.getInt X (by omega:I<n);cases D;have ah:at0 xs G=ap:=by unfold at0;simp[List.getD,aJ]
 have ai:at0 xs H=aq:=by unfold at0;simp[List.getD,aK]
 have aj:at0 xs I=ar:=by unfold at0;simp[List.getD,aL]
 have ax:at0 ys G=au:=by unfold at0;simp[List.getD,aM]
 have ay:at0 ys H=aw:=by unfold at0;simp[List.getD,aN]
 have az:at0 ys I=ag:=by unfold at0;simp[List.getD,aO]
 rw[ah,ai,aj]at O;have aA:=A_ O;obtain⟨lx,ac⟩:∃ l,min ap aq=l:=⟨_,rfl⟩
 obtain⟨an,ad⟩:∃ l,max ap aq=l:=⟨_,rfl⟩
 obtain⟨ae,al⟩:∃ l,min au aw=l:=⟨_,rfl⟩
 obtain⟨af,am⟩:∃ l,max au aw=l:=⟨_,rfl⟩
 rw[ac,ad]at aA O;have aB:=A_ (show(inB lx ar an&&inB ae ag af)=A5t xs ys G H I by unfold A5t;rw[ah,ai,aj,ax,ay,az,aC.o,ac,ad,al,am];simp);have aS:=A_ ac;have aU:=A_ ad;have aT:=A_ al;have aV:=A_ am;obtain⟨aW,ak⟩:∃ b,inB ae ag af=b:=⟨_,rfl⟩
 have aP:=A_ ak;rw[ak,O]at aB;have bj:(G:Int)<n:=Y.2;have bk:(H:Int)<n:=Z.2;have bl:(I:Int)<n:=ab.2;clear W X aJ aK aL aM aN aO aG aH Y Z ab aI ak O ac ad al am ah ai aj ax ay az;go_enter func143,ntmps143;go_wp2_with fail;have C:=aQ.o;rw[aC.o]at C;refine C.mono ?_;clear C;rintro _ ao ⟨rfl,aa⟩;obtain⟨bh,bi⟩:=F_ aa;have bm:w.1.size<ao.1.size:=ltg aa;have bd:aD<ao.1.size:=by have:=aa.size;simp at this;omega
 have bf:aE<ao.1.size:=by have:=aa.size;simp at this;omega
 go_wp2_with fail;refine A0g ?_;iterate 15 refine C_ _ ?_
 refine A2b (.int .i64 lx) ?_ ?_;·intro J K E u h;obtain⟨S,T⟩:=F_ u;simp at h;refine⟨gD,?_⟩;go_simp;(rw[<-aS.o];split<;>omega)
 iterate 10 refine C_ _ ?_
 refine A2b (.int .i64 an) ?_ ?_;·intro J K E u h;obtain⟨S,T⟩:=F_ u;simp at h;refine⟨gD,?_⟩;go_simp;(rw[<-aU.o];split<;>omega)
 refine D_ (MP.eq (.bool true)) ?_ ?_;·intro J K E u h;obtain⟨S,T⟩:=F_ u;simp at h;refine G_ ?_;exact A0i (by have C:=A0s ar lx an E;rw[aA.o]at C;exact C)
 refine C_ _ ?_;iterate 15 refine C_ _ ?_
 refine A2b (.int .i64 ae) ?_ ?_;·intro J K E u h;obtain⟨S,T⟩:=F_ u;simp at h;refine⟨gD,?_⟩;go_simp;(rw[<-aT.o];split<;>omega)
 iterate 10 refine C_ _ ?_
 refine A2b (.int .i64 af) ?_ ?_;·intro J K E u h;obtain⟨S,T⟩:=F_ u;simp at h;refine⟨gD,?_⟩;go_simp;(rw[<-aV.o];split<;>omega)
 refine D_ (MP.eq (.bool aW)) ?_ ?_;·intro J K E u h;obtain⟨S,T⟩:=F_ u;simp at h;refine G_ ?_;exact A0i (by have C:=A0s ag ae af E;rw[aP.o]at C;exact C)
 iterate 2 refine C_ _ ?_
 intro J K wa u h (a1:Hid _);simp at h;go_simp;clear h a1;go_wp2;go_ret;rw[<-aB.o];exact⟨sI,Below.go⟩
theorem B2s (v:Value) (n:Nat) (xs ys:List Int) (a b c:Int) (w:World) (G:Plc w v n xs ys) (H:A6a xs) (I:A6a ys) (u:0<=a/\a<n) (D:0<=b/\b<n) (E:0<=c/\c<n) :
  Calls prog 143 #[v,.int .i64 a,.int .i64 b,.int .i64 c] w (A0b w (.bool (A5t xs ys a b c))):=by
 by_cases h:A5u xs ys a b c=0
 ·cases K:inB (min (at0 xs a) (at0 xs b)) (at0 xs c) (max (at0 xs a) (at0 xs b))
  ·exact C5r v n xs ys a b c w G H I u D E h K
  exact C8j v n xs ys a b c w G H I u D E h K
 have T:=A_ G;obtain⟨A,Y,W,ad,Z,X,ae,aa,af,ag,rfl,ab,ac⟩:=G;have O:=A_ (A3v _ n xs ys a b c (w.alloc (.cells #[.slice A n Y,.slice (some ⟨W,ad,none⟩) n Z,.slice (some ⟨X,ae,none⟩) n aa] 127)) (T.below (Below.box _)) H I u D E);have S:=A_ (by unfold A5t;rw[decide_eq_false h];rfl:false=A5t xs ys a b c);obtain⟨r,J⟩:∃ r,A5u xs ys a b c=r:=⟨_,rfl⟩
 rw[J]at h;have R:=A_ J;have ai:(r==0)=false:=by simp[h]
 clear ab ac H I u D E J;go_enter func143,ntmps143;go_wp2_with fail;have C:=O.o;rw[R.o]at C;refine C.mono ?_;clear C;rintro _ aj ⟨rfl,ah⟩;go_wp2;go_ret;rw[<-S.o];exact⟨rfl,Below.go⟩
end Go.Proofs.YtbhemnidcleaiaaGreat.X

namespace Go.XN
open Go.XB
structure LF where
 a:Int
 b:Int
 c:Int
 d:Int
 deriving DecidableEq
abbrev A2c:=Int×Int×Int
def A4z:LF:=⟨0,0,0,0⟩
def A4k:LF:=⟨0,0,0,1⟩
def LF.ok (l:LF):Bool:=Nat.ble 1 l.d.toNat&&Nat.ble (l.a.natAbs+(l.b.natAbs+(l.c.natAbs+l.d.natAbs))) 100000000000000000000000000000000000000000000000000000000000000000000000000000000
def LF.at (l:LF) (s:A2c):Q:=⟨l.a*s.1+(l.b*s.2.1+l.c*s.2.2),l.d⟩
structure SrcIn (s:A2c):Prop where
 a0:-3<=s.1
 a1:s.1<=3
 b0:-3<=s.2.1
 b1:s.2.1<=3
 c0:-3<=s.2.2
 c1:s.2.2<=3
def lfG (l:LF):Nat:=Nat.gcd (Nat.gcd l.a.natAbs l.b.natAbs) (Nat.gcd l.c.natAbs l.d.natAbs)
def E9l (g:Nat) (l:LF):LF:=⟨l.a / g,l.b / g,l.c / g,l.d / g⟩
def D9v (l:LF):LF:=bif Nat.beq (lfG l) 1 then l else E9l (lfG l) l
def D1s (g:Bool) (l:LF):LF:=bif g&&l.ok then D9v l else A4z
def C8u (l m:LF):LF:=D1s (l.ok&&m.ok) ⟨l.a*m.d+m.a*l.d,l.b*m.d+m.b*l.d,l.c*m.d+m.c*l.d,l.d*m.d⟩
def E1z (l m:LF):LF:=D1s (l.ok&&m.ok) ⟨l.a*m.d - m.a*l.d,l.b*m.d - m.b*l.d,l.c*m.d - m.c*l.d,l.d*m.d⟩
def E8k (l:LF):LF:=D1s l.ok ⟨-l.a,-l.b,-l.c,l.d⟩
def qOf (k:TRat):Q:=⟨R_ k,T_ k⟩
def E0e (k:TRat):Bool:=J_ k&&(qOf k).ok
def A7p (k:TRat) (l:LF):LF:=D1s (E0e k&&l.ok) ⟨R_ k*l.a,R_ k*l.b,R_ k*l.c,T_ k*l.d⟩
def E6y (l:LF) (k:TRat):LF:=D1s ((E0e k&&decide (0<R_ k))&&l.ok) ⟨T_ k*l.a,T_ k*l.b,T_ k*l.c,R_ k*l.d⟩
def LF.zero (l:LF):Bool:=l.ok&&(decide (l.a=0)&&(decide (l.b=0)&&decide (l.c=0)))
def leq (l m:LF):Bool:=(l.ok&&m.ok)&&(decide (l.a*m.d=m.a*l.d)&&(decide (l.b*m.d=m.b*l.d)&&decide (l.c*m.d=m.c*l.d)))
end Go.XN
namespace Go.Proofs.YtbhemnidcleaiaaGreat.X
open Go.RowKit Go.XB Go.XN
theorem F0k:(100000000000000000000000000000000000000000000000000000000000000000000000000000000:Int)<10 ^ 190:=dK
theorem LF.ok_iff {l:LF} (h:l.ok=true):0<l.d/\(-(10 ^ 190)<l.a/\l.a<10 ^ 190)/\(-(10 ^ 190)<l.b/\l.b<10 ^ 190)/\(-(10 ^ 190)<l.c/\l.c<10 ^ 190)/\(-(10 ^ 190)<l.d/\l.d<10 ^ 190):=by
 unfold LF.ok at h;rw[Bool.and_eq_true]at h;have u:=Nat.le_of_ble_eq_true h.1;have D:=Nat.le_of_ble_eq_true h.2;have E:=F0k;generalize (10:Int) ^ 190=b at *;omega
theorem B0z {x s T:Int} (b:-T<x) (h:x<T) (u:-3<=s) (D:s<=3):-(3*T)<x*s/\x*s<3*T:=by
 obtain rfl|rfl|rfl|rfl|rfl|rfl|rfl:s = -3\/s = -2\/s = -1\/s=0\/s=1\/s=2\/s=3:=oM;all_goals constructor<;>omega
theorem E9g:9*(10:Int) ^ 190<10 ^ 200:=dK
theorem LF.at_ok {l:LF} {s:A2c} (h:l.ok=true) (b:SrcIn s):(l.at s).ok=true:=by
 obtain⟨J,⟨a0,E⟩,⟨G,b1⟩,⟨H,I⟩,⟨W,X⟩⟩:=LF.ok_iff h;have Y:=E9g;have K:=B0z a0 E b.a0 b.a1;have O:=B0z G b1 b.b0 b.b1;have S:=B0z H I b.c0 b.c1;refine Q.ok_iff.2 ⟨J,?_,?_,?_⟩;·show l.d<10 ^ 200;clear K O S;generalize (10:Int) ^ 200=u at *;generalize (10:Int) ^ 190=D at *;omega
 ·show -(10 ^ 200)<l.a*s.1+(l.b*s.2.1+l.c*s.2.2)
  generalize l.a*s.1=T at *;generalize l.b*s.2.1=v at *;generalize l.c*s.2.2=t at *;generalize (10:Int) ^ 200=u at *;generalize (10:Int) ^ 190=D at *;omega
 show l.a*s.1+(l.b*s.2.1+l.c*s.2.2)<10 ^ 200;generalize l.a*s.1=T at *;generalize l.b*s.2.1=v at *;generalize l.c*s.2.2=t at *;generalize (10:Int) ^ 200=u at *;generalize (10:Int) ^ 190=D at *;omega
theorem C3z {g:Nat} {a:Int} (h:g∣a.natAbs):a=(g:Int)*(a / g):=(Int.mul_ediv_cancel' (Int.ofNat_dvd_left.2 h)).symm
theorem E4s {l:LF} {s:A2c} (h:l.ok=true) (b:(D9v l).ok=true) (u:SrcIn s):toR ((D9v l).at s)=toR (l.at s):=by
 unfold D9v at b ⊢;cases S:Nat.beq (lfG l) 1 with
 |true=>rfl
 |false =>
  rw[S]at b
  simp only[cond_false]at b ⊢
  have I:lfG l∣l.a.natAbs:=Nat.dvd_trans (Nat.gcd_dvd_left _ _) (Nat.gcd_dvd_left _ _)
  have J:lfG l∣l.b.natAbs:=Nat.dvd_trans (Nat.gcd_dvd_left _ _) (Nat.gcd_dvd_right _ _)
  have K:lfG l∣l.c.natAbs:=Nat.dvd_trans (Nat.gcd_dvd_right _ _) (Nat.gcd_dvd_left _ _)
  have O:lfG l∣l.d.natAbs:=Nat.dvd_trans (Nat.gcd_dvd_right _ _) (Nat.gcd_dvd_right _ _)
  have D:=C3z I;have E:=C3z J;have G:=C3z K;have H:=C3z O
  refine B7t (LF.at_ok b u) (LF.at_ok h u) ?_
  unfold qeq LF.at E9l
  refine decide_eq_true ?_
  show(l.a / (lfG l:Int)*s.1+(l.b / (lfG l:Int)*s.2.1+l.c / (lfG l:Int)*s.2.2))*l.d=(l.a*s.1+(l.b*s.2.1+l.c*s.2.2))*(l.d / (lfG l:Int))
  generalize l.a / (lfG l:Int)=T at *
  generalize l.b / (lfG l:Int)=W at *
  generalize l.c / (lfG l:Int)=X at *
  generalize l.d / (lfG l:Int)=Y at *
  rw[D,E,G,H]
  grind
def Rep (s:A2c) (l:LF) (r:TRat):Prop:=l.ok=true->r=toR (l.at s)
theorem Rep.bad {s:A2c} {r:TRat}:Rep s A4z r:=λh=>by cases h
theorem Rep.mk {s:A2c} {l:LF} {r:TRat} {g:Bool} (D:SrcIn s) (h:g=true->l.ok=true->r=toR (l.at s)):Rep s (D1s g l) r:=by
 unfold D1s;cases b:g&&l.ok with
 |false=>exact Rep.bad
 |true =>
  rw[Bool.and_eq_true]at b
  intro u
  exact(h b.1 b.2).trans (E4s b.2 u D).symm
theorem Rep.val {s:A2c} {l:LF} {r:TRat} (h:Rep s l r) (hs:SrcIn s) (hk:l.ok=true):J_ r=true:=by rw[h hk];exact A8q (LF.at_ok hk hs)
theorem Rep.add {s:A2c} {l m:LF} {r q:TRat} (h:SrcIn s) (D:Rep s l r) (E:Rep s m q):Rep s (C8u l m) (A0k r q):=by
 refine Rep.mk h λb G=>?_;rw[Bool.and_eq_true]at b;have e:LF.at ⟨l.a*m.d+m.a*l.d,l.b*m.d+m.b*l.d,l.c*m.d+m.c*l.d,l.d*m.d⟩ s=E0z (l.at s) (m.at s):=by unfold LF.at E0z;congr 1;grind
 have u:=LF.at_ok G h;rw[e]at u ⊢;rw[D b.1,E b.2];exact D9b (LF.at_ok b.1 h) (LF.at_ok b.2 h) u
theorem Rep.sub {s:A2c} {l m:LF} {r q:TRat} (h:SrcIn s) (D:Rep s l r) (E:Rep s m q):Rep s (E1z l m) (A3t r q):=by
 refine Rep.mk h λb G=>?_;rw[Bool.and_eq_true]at b;have e:LF.at ⟨l.a*m.d - m.a*l.d,l.b*m.d - m.b*l.d,l.c*m.d - m.c*l.d,l.d*m.d⟩ s=E3c (l.at s) (m.at s):=by unfold LF.at E3c;congr 1;grind
 have u:=LF.at_ok G h;rw[e]at u ⊢;rw[D b.1,E b.2];exact E7d (LF.at_ok b.1 h) (LF.at_ok b.2 h) u
theorem Rep.neg {s:A2c} {l:LF} {r:TRat} (h:SrcIn s) (u:Rep s l r):Rep s (E8k l) (C3m r):=by
 refine Rep.mk h λb D=>?_;have e:LF.at ⟨-l.a,-l.b,-l.c,l.d⟩ s=E6c (l.at s):=by unfold LF.at E6c;congr 1;grind
 rw[e,u b];exact E6e (LF.at_ok b h)
theorem C4c {k:TRat} (h:J_ k=true):toR (qOf k)=k:=by
 have V:=ratOkB_iff.1 h;exact A9v V V.den0 rfl
theorem C0u {k:TRat}:E0e k=true↔J_ k=true/\(qOf k).ok=true:=by unfold E0e;simp
theorem Rep.scale {s:A2c} {k:TRat} {l:LF} {r:TRat} (h:SrcIn s) (D:Rep s l r):Rep s (A7p k l) (A0d k r):=by
 refine Rep.mk h λb E=>?_;rw[Bool.and_eq_true,C0u]at b;have e:LF.at ⟨R_ k*l.a,R_ k*l.b,R_ k*l.c,T_ k*l.d⟩ s=C0q (qOf k) (l.at s):=by unfold LF.at C0q qOf;congr 1;grind
 have u:=LF.at_ok E h;rw[e]at u ⊢;rw[D b.2];conv=>lhs;rw[<-C4c b.1.1]
 exact C3v b.1.2 (LF.at_ok b.2 h) u
theorem Rep.scale' {s:A2c} {k:TRat} {l:LF} {r:TRat} (h:SrcIn s) (D:Rep s l r):Rep s (A7p k l) (A0d r k):=by
 refine Rep.mk h λb E=>?_;rw[Bool.and_eq_true,C0u]at b;have e:LF.at ⟨R_ k*l.a,R_ k*l.b,R_ k*l.c,T_ k*l.d⟩ s=C0q (l.at s) (qOf k):=by unfold LF.at C0q qOf;congr 1<;>grind
 have u:=LF.at_ok E h;rw[e]at u ⊢;rw[D b.2];conv=>lhs;rw[<-C4c b.1.1]
 exact C3v (LF.at_ok b.2 h) b.1.2 u
theorem Rep.div {s:A2c} {k:TRat} {l:LF} {r:TRat} (h:SrcIn s) (D:Rep s l r):Rep s (E6y l k) (A3u r k):=by
 refine Rep.mk h λb E=>?_;rw[Bool.and_eq_true,Bool.and_eq_true,C0u,decide_eq_true_eq]at b;have e:LF.at ⟨T_ k*l.a,T_ k*l.b,T_ k*l.c,R_ k*l.d⟩ s=C0q (l.at s) (D6g (qOf k)):=by unfold LF.at C0q D6g qOf;congr 1<;>grind
 have u:=LF.at_ok E h;rw[e]at u ⊢;rw[D b.2];conv=>lhs;rw[<-C4c b.1.1.1]
 exact E0d (LF.at_ok b.2 h) b.1.1.2 b.1.2 u
theorem Rep.zero {s:A2c}:Rep s A4k (U_ 0):=λ_=>by
 rw[B9z (n:=0) dE dE]
 show toR ⟨0,1⟩=toR ⟨0*s.1+(0*s.2.1+0*s.2.2),1⟩
 simp
theorem Rep.is_zero {s:A2c} {l:LF} {r:TRat} (u:SrcIn s) (h:Rep s l r) (b:l.zero=true):J_ r=true/\A9m r=0:=by
 unfold LF.zero at b;simp only[Bool.and_eq_true,decide_eq_true_eq]at b;refine⟨h.val u b.1,?_⟩;rw[h b.1,D4z (LF.at_ok b.1 u)];unfold LF.at;rw[b.2.1,b.2.2.1,b.2.2.2];simp[sgn]
theorem Rep.eq {s:A2c} {l m:LF} {r q:TRat} (h:SrcIn s) (u:Rep s l r) (D:Rep s m q) (b:leq l m=true):r=q:=by
 unfold leq at b;simp only[Bool.and_eq_true,decide_eq_true_eq]at b;obtain⟨⟨k1,k2⟩,E,G,H⟩:=b;rw[u k1,D k2];refine B7t (LF.at_ok k1 h) (LF.at_ok k2 h) (decide_eq_true ?_);unfold LF.at;show(l.a*s.1+(l.b*s.2.1+l.c*s.2.2))*m.d=(m.a*s.1+(m.b*s.2.1+m.c*s.2.2))*l.d;grind
end Go.Proofs.YtbhemnidcleaiaaGreat.X

namespace Go
section
variable {P:Program}
theorem B0y {w:World} {H:Array Oper} {o:Oper} {a:Act} {G:Act->World->Prop} {Q:Exit->Act->World->Prop} {I:Prop} (Z:o.guard=none) (s x:Operand) (t:TypeId)
  (ac:o.op=.call { callee:=.builtin .append,args:=#[s,x],argTypes:=#[t,t] })
  (base:Nat) (e:TypeId) (i:TypeInfo) (z:Value) (size E:Nat) (ai:P.underlying t=some (.slice e)) (hi:P.info? e=some i) (al:i.zero=some z)
  (ag:i.size=size) (X:i.bytes=E) (am:z.cells.size=size) (ah:0<size)
  (g n cap:Nat) (xs:List Value) (af:a.eval s=.slice (some ⟨g,0,none⟩) n cap) (ad:w.ownsRow base e size (.slice (some ⟨g,0,none⟩) n cap) n xs)
  (D:Addr) (m c:Nat) (b:List Value) (ak:a.eval x=.slice (some D) m c) (aa:b.length=m*size) (ab:∀ j u,b[j]?=some u->w.cell? (D.add j)=some u) (J:∀ u∈b,u.oneCell'=true)
  (T:n+m<=maxLen) (Y:(n+m)*E<=140737488355328) (W:base<=w.1.size)
  (h:∀ g' cap' w',w'.ownsRow base e size (.slice (some ⟨g',0,none⟩) (n+m) cap') (n+m) (xs++b)->w.grownBy w' (some g)->(g'=g\/g'=w.1.size)->G (a.put o.dst (.slice (some ⟨g',0,none⟩) (n+m) cap')) w') :
  if Region.wanted o (yielded H a.tmps)=true then Oper.wp P o a w G Q else I:=by
 have aj:Region.wanted o (yielded H a.tmps)=true:=by simp[Region.wanted,Z]
 rw[if_pos aj];obtain⟨g',cap',w',ae,K,O,S⟩:=D4h (P:=P) w base t o.type e i z size E ai hi al ag X am ah g n cap xs ad D m c b aa ab J T Y W;unfold Oper.wp execOp;simp only[ac,resolve,invoke,builtin,Sem.run_bind,Sem.run_pure,Result.andThen_ok,List.map_toArray,List.map_cons,List.map_nil,af,ak,ae];exact h g' cap' w' K O S
end
end Go

namespace Go.Proofs.YtbhemnidcleaiaaGreat.X
open Go.RowKit Go.XB Go.XN Proofs.Tryz
attribute [local go_sem] L_ opAt N_ M_ Region.wanted yielded
attribute [local simp] N_ M_ MP.eq MP.agg MP.sl A0r
theorem D2d (v1 v2:Value) (x y:TBigInt) (b1 b2:List Nat) (w:World) (O:Agg w v1 x b1) (S:Agg w v2 y b2) (E:A2j x=true) (G:A2j y=true) (ab:y.mag≠[]) :
  Calls prog 102 #[v1,v2] w (A0c w (mkR (C8r (x.neg != y.neg) x.mag) (val y.mag))):=by
 have ah:=A_ O;have ai:=A_ S;obtain⟨T,n1,Y,aQ,rfl,rfl,K⟩:=TBigInt.agg O;obtain⟨W,n2,Z,aR,rfl,rfl,D⟩:=TBigInt.agg S;have ao:=A_ K;have ap:=A_ D;have am:=A_ E;have an:=A_ G;have ac:=A_ (bigOkB_iff.1 E).1;have ad:=A_ (bigOkB_iff.1 G).1;have ak:=A_ (by rw[<-K.1];have:=(bigOkB_iff.1 E).1.1;omega:n1<=65536);have al:=A_ (by rw[<-D.1];have:=(bigOkB_iff.1 G).1.1;omega:n2<=65536);have aj:=A_ (by rw[<-D.1];exact List.length_pos_iff.2 ab:0<n2);clear K D O S E G ab;go_enter func102,ntmps102;go_wp2_with fail;have C:=B7b _ x _ (((w.alloc (.cells #[.bool x.neg,.slice T n1 Y] 33)).alloc (.cells #[.bool y.neg,.slice W n2 Z] 33)).alloc (.cells #[.bool false,.slice none 0 0,.slice none 0 0] 35)) (ah.below Below.go);rw[am.o]at C;refine C.mono ?_;clear C;rintro _ H ⟨rfl,h⟩;obtain⟨aB,aE⟩:=F_ h;have aH:w.1.size<H.1.size:=ltg h;have aK:w.1.size+1<H.1.size:=ltg h;have aN:w.1.size+1+1<H.1.size:=ltg h;go_wp2_with fail;have C:=B7b _ y _ H (ai.below Below.go);rw[an.o]at C;refine C.mono ?_;clear C;rintro _ I ⟨rfl,u⟩;obtain⟨aC,aF⟩:=F_ u;have aI:w.1.size<I.1.size:=ltg u;have aL:w.1.size+1<I.1.size:=ltg u;have aO:w.1.size+1+1<I.1.size:=ltg u;go_wp2_with fail;refine(D5l (x.neg != y.neg) T W n1 n2 Y Z x.mag y.mag _ _ I (ao.below Below.go) (ap.below Below.go) ac.2 ad.2 aj ak al).mono ?_;rintro _ wb ⟨aS,sb,rfl,J,aa,b⟩;obtain⟨ae,ax,ar,az,af,ay,au,aA,rfl,aw,_,_⟩:=TRat.agg J;have ag:=A_ J;have X:=A_ aa;clear J aa aw;obtain⟨aD,aG⟩:=F_ b;have aJ:w.1.size<wb.1.size:=ltg b;have aM:w.1.size+1<wb.1.size:=ltg b;have aP:w.1.size+1+1<wb.1.size:=ltg b;go_wp2;refine bodyPost_ret (v:=.agg #[.bool (mkR (C8r (x.neg != y.neg) x.mag) (val y.mag)).1.1,.slice ae ax ar,.slice af ay au]) (by simp[results,results102,go_sem, *]) rfl ?_;refine A1s (lo:=w.1.size+3) ag X.free (λaq b=>by have:=(X.2 aq b).1;(try simp at this);omega) oM ?_ ?_;·exact Above.go
 exact Below.go

theorem C9y {a d:Int} (u:0<=a) (D:0<d):C8r ((A0f a).neg != (A0f d).neg) (A0f a).mag=a/\val (A0f d).mag=d:=by
 have b:(A0f a).neg=false:=by unfold A0f;simp;omega
 have h:(A0f d).neg=false:=by unfold A0f;simp;omega
 rw[b,h];refine⟨?_,?_⟩;·show val (dig a.natAbs)=a;rw[A1j];omega
 show val (dig d.natAbs)=d;rw[A1j];omega
theorem B3j (a d:Int) (u:0<=a) (b:a<=1000) (G:0<d) (ah:d<=1000) (w:World):Calls prog 47 #[.int .i64 a,.int .i64 d] w (A0c w (mkR a d)):=by
 have V:=A_ (C9y u G);have ac:=A_ (D1g a ⟨oM,oM⟩);have ad:=A_ (D1g d ⟨oM,oM⟩);have ab:=A_ (by intro e;have:=(C9y u G).2;rw[e]at this;simp[val]at this;omega:(A0f d).mag≠[]);have Z:=A_ (show I64 a from⟨oM,oM⟩);have aa:=A_ (show I64 d from⟨oM,oM⟩);clear u b G ah;go_enter func47,ntmps47;go_wp2_with fail;refine(B2n a _ Z).mono ?_;rintro _ ap ⟨v1,an,rfl,I,ai,J⟩;have X:=A_ I;clear I ai;obtain⟨au,ay⟩:=F_ J;have aB:w.1.size<ap.1.size:=ltg J;go_wp2_with fail;refine(B2n d _ aa).mono ?_;rintro _ O ⟨v2,ao,rfl,b,aj,E⟩;have Y:=A_ b;clear b aj;obtain⟨aw,az⟩:=F_ E;have aC:w.1.size<O.1.size:=ltg E;go_wp2_with fail;have C:=D2d v1 v2 (A0f a) (A0f d) an ao O (X.below E) Y ac ad ab;rw[V.o.1,V.o.2]at C;refine(C).mono ?_;rintro _ wb ⟨aE,sb,rfl,D,K,h⟩;obtain⟨S,al,af,aq,T,am,ag,ar,rfl,ak,_,_⟩:=TRat.agg D;have W:=A_ D;have H:=A_ K;clear D K ak;obtain⟨ax,aA⟩:=F_ h;have aD:w.1.size<wb.1.size:=ltg h;go_wp2;refine bodyPost_ret (v:=.agg #[.bool (mkR a d).1.1,.slice S al af,.slice T am ag]) (by simp[results,results47,go_sem, *]) rfl ?_;refine A1s (lo:=w.1.size+1) W H.free (λae h=>by have:=(H.2 ae h).1;(try simp at this);omega) oM ?_ ?_;·exact Above.go
 exact Below.go
end Go.Proofs.YtbhemnidcleaiaaGreat.X

namespace Go.XB
open Go.RowKit Go.Proofs.YtbhemnidcleaiaaGreat.X
theorem _root_.iO {p:Prop} (h:p:=by intro e;injection e with e;omega):p:=h
theorem C1x {w w1 w2:World} {r:Option Nat} {x:Nat} (h:w.grownBy w1 r) (h2:w1.grownBy w2 (some x)) (hx:w.1.size<=x):w.grownBy w2 r :=
 ⟨h2.os.trans h.os,h2.tape.trans h.tape,h2.output.trans h.output,Nat.le_trans h.size h2.size,λk hk hne=>(h2.block k (Nat.lt_of_lt_of_le hk h.size) iO).trans (h.block k hk hne)⟩
theorem Sl.grown {α:Type} [Dat α] {w w':World} {A:Option Addr} {n c g:Nat} {xs:List α} {bs:List Nat} (h:Sl w A n c xs bs) (hg:w.grownBy w' (some g)) (hn:g∉bs):Sl w' A n c xs bs :=
 h.keep λb hb=>hg.block b (h.lt b hb) (by intro e;injection e with e;exact hn (e ▸ hb))
section
variable {α:Type} [Dat α]
def PC (w:World) (e:TypeId) (wr:World) (gB i cap:Nat) (ps:List α) (zs:List Nat):Prop :=
 ∃ cells fss,wr.ownsRow w.1.size e (Dat.sz α) (.slice (some ⟨gB,0,none⟩) i cap) i cells/\Filled wr cells ps fss/\ps.length=i/\zs=fss.flatten/\gB∉zs/\∀ b∈zs,w.1.size<=b
variable {w wr wa:World} {e:TypeId} {gB i cap:Nat} {ps:List α} {zs:List Nat}
theorem PC.start {w2:World} (h:w.1.size<=w2.1.size):PC (α:=α) w e (w2.alloc (.cells #[] e)) w2.1.size 0 0 [] [] :=
 ⟨[],[],World.ownsRow_made w2 #[] 0 h (Nat.zero_le _) sI,Filled.nil _ _,rfl,rfl,sI,sI⟩
theorem PC.lt (h:PC w e wr gB i cap ps zs):w.1.size<=gB/\gB<wr.1.size:=by obtain⟨_,_,h1,_⟩:=h;exact World.ownsRow.lt h1 _ rfl
theorem PC.zlt (h:PC w e wr gB i cap ps zs):∀ b∈zs,w.1.size<=b/\b<wr.1.size:=by
 obtain⟨cells,fss,G,D,H,rfl,I,E⟩:=h;exact λb u=>⟨E b u,D.lt b u⟩
theorem PC.keep (h:PC w e wr gB i cap ps zs) {x:Nat} (E:wr.grownBy wa (some x)) (O:x≠gB) (K:x∉zs):PC w e wa gB i cap ps zs:=by
 obtain⟨cells,fss,G,u,H,rfl,I,J⟩:=h;refine⟨cells,fss,G.kept E ?_,u.keep (λb D=>E.block b (u.lt b D) (by intro e;injection e with e;exact K (e ▸ D))),H,rfl,I,J⟩;show some gB=none\/some gB≠some x;exact .inr sO
theorem PC.keepG (h:PC w e wr gB i cap ps zs) {g:Nat} (hk:wr.grownBy wa (some g)) (hg:g<w.1.size):PC w e wa gB i cap ps zs :=
 h.keep hk (by have:=h.lt;omega) (λhz=>by have:=(h.zlt g hz).1;omega)
theorem PC.below (h:PC w e wr gB i cap ps zs) (b:Bw wr wa):PC w e wa gB i cap ps zs:=by
 obtain⟨cells,fss,u,D,E,G,H,I⟩:=h;exact⟨cells,fss,I_ u b,D.below b,E,G,H,I⟩
theorem PC.sl (h:PC w e wr gB i cap ps zs):∃ bs,Sl wr (some ⟨gB,0,none⟩) i cap ps bs/\∀ b∈bs,w.1.size<=b:=by
 have W:=h.lt;obtain⟨cells,fss,D,E,G,rfl,T,H⟩:=h;obtain⟨A,c,bs,O,K,J⟩:=E.sl (α:=α) D G;cases O;refine⟨bs,K,λb u=>?_⟩;rcases J with⟨_,rfl⟩|⟨g',S,rfl,I,_⟩
 ·simp at u
 rcases List.mem_cons.1 u with rfl|u;·exact I
 exact H b u
end
end Go.XB
namespace Go
open Go.RowKit Go.XB Go.Proofs.YtbhemnidcleaiaaGreat.X
theorem C9k {P:Program} {α:Type} [Dat α] {w wr:World} {gB k cap:Nat} {ps:List α} {zs:List Nat} {ab:Array Oper} {rest:List Oper} {o:Oper} {a:Act} {Q:Exit->Act->World->Prop} (ai:o.guard=none) (s x:Operand) (t:TypeId)
  (ak:o.op=.call { callee:=.builtin .append,args:=#[s,x],argTypes:=#[t,t] })
  (e:TypeId) (i:TypeInfo) (z:Value) (J:Nat) (ao:P.underlying t=some (.slice e)) (hi:P.info? e=some i) (ar:i.zero=some z)
  (an:i.size=Dat.sz α) (ag:i.bytes=J) (au:z.cells.size=Dat.sz α) (Y:PC w e wr gB k cap ps zs) (ap:w.1.size<=wr.1.size) (am:a.eval s=.slice (some ⟨gB,0,none⟩) k cap)
  (I:Addr) (c:Nat) (cs:List Value) (ac:α) (E:List Nat) (aq:a.eval x=.slice (some I) 1 c) (aj:∀ j u,cs[j]?=some u->wr.cell? (I.add j)=some u)
  (H:Dat.at_ wr cs ac E) (T:∀ b∈E,w.1.size<=b/\b≠gB) (af:k+1<=maxLen) (ah:(k+1)*J<=140737488355328)
  (h:∀ g' cap' w8,PC w e w8 g' (k+1) cap' (ps++[ac]) (zs++E)->wr.grownBy w8 (some gB)->(g'=gB\/g'=wr.1.size)->wpList P ab Q rest (a.put o.dst (.slice (some ⟨g',0,none⟩) (k+1) cap')) w8):wpList P ab Q (o::rest) a wr:=by
 have aa:=Y.zlt;obtain⟨cells,fss,K,ad,W,rfl,X,ae⟩:=Y;have aw:=World.ownsRow.lt K _ rfl;refine A1m ai s x t ak w.1.size e i z (Dat.sz α) J ao hi ar an ag au Dat.pos gB k cap cells am K I 1 c cs aq (by rw[Nat.one_mul];exact Dat.len H) aj (Dat.one H) af ah ap ?_;intro g' cap' w8 al O S;refine h g' cap' w8 ?_ O S;have Z:∀ b∈E,b<wr.1.size:=Dat.lt H;have k1:∀ b∈fss.flatten,w8.1[b]?=wr.1[b]?:=λb G=>O.block b (aa b G).2 (by intro e;injection e with e;exact X (e ▸ G));have k2:∀ b∈E,w8.1[b]?=wr.1[b]?:=λb G=>O.block b (Z b G) (by intro e;injection e with e;exact(T b G).2 e);refine⟨_,fss++[E],al,Filled.push (ad.keep k1) (by rw[K.1,W]) (Dat.keep H k2),by simp[W],sI,?_,?_⟩
 ·intro D
  rcases List.mem_append.1 D with D|D
  ·rcases S with rfl|rfl
   ·exact X D
   have:=(aa _ D).2;omega
  rcases S with rfl|rfl;·exact(T _ D).2 rfl
  have:=Z _ D;omega
 intro b D;rcases List.mem_append.1 D with D|D
 ·exact ae b D
 exact(T b D).1
end Go
