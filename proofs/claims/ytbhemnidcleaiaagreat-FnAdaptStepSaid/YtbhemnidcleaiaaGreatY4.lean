/- A part of the proof. -/
import Derived.Test.YtbhemnidcleaiaaGreatY2
import Derived.BigQuiet
import Derived.Deep.Slices
import Derived.KernelRfl
set_option linter.constructorNameAsVariable false
set_option maxHeartbeats 16000000
set_option maxRecDepth 10000
namespace Go.Proofs.YtbhemnidcleaiaaGreat.X
open Go.RowKit Go.XB Proofs.Tryz
theorem E5x:(prog.info? 3).map (λi=>(i.zero,i.size,i.bytes))=some (some (.int .i64 0),1,8):=by kernel_rfl
theorem A2x (A E:Option Addr) (n b c c':Nat) (xs ys:List Int) (K O:List Nat) (w:World) (h:Sl w A n c xs K) (u:Sl w E b c' ys O) :
  Calls prog 40 #[.slice A n c,.slice E b c'] w (A0b w (.bool (decide (xs=ys)))):=by
 have ac:n<=maxLen:=Nat.le_trans h.2.1 h.2.2.1;have ad:b<=maxLen:=Nat.le_trans u.2.1 u.2.2.1;have G:Hid (xs.length=n):=h.1;have H:Hid (ys.length=b):=u.1;unfold maxLen at ac ad;have aa:Hid (Sl w A n c xs K):=h;have ab:Hid (Sl w E b c' ys O):=u;clear h u;by_cases W:n=b
 ·subst W
  go_enter func40,ntmps40;go_wp2;go_loopw [5,13] (λ_ i wr=>∃ k:Nat,k<=n/\i=.int .i64 k/\Hid (xs.take k=ys.take k)/\∃ m,wr=w.drewN m) (λ_ i wr=>n - (intOf i).toNat);case atStart=>exact⟨0,Nat.zero_le _,rfl,rfl,0,rfl⟩
  case round =>
   obtain⟨k,am,rfl,X,m,rfl⟩:=hrel;by_cases T:k<n
   ·obtain⟨ae,an,x,rfl,ag,Y,_,ai⟩:=Sl.getInt aa T
    obtain⟨af,ao,y,rfl,ah,Z,_,aj⟩:=Sl.getInt ab T;have I:Hid (xs[k]?=some x):=Y;have J:Hid (ys[k]?=some y):=Z;clear Y Z;have ak:(0:Int)<=k:=oM;have al:(k:Int)<n:=oM;by_cases D:x=y
    ·have S:(x != y)=false:=by simp[D]
     go_wp2;go_quiet (fail);go_wp2;go_roundw;case rel=>exact⟨k+1,oM,by go_num,B0r I.o J.o X D,_,rfl⟩
     case measure=>simp[intOf];omega
    have S:(x != y)=true:=by simp[D]
    go_wp2;go_quiet (fail);go_wp2;go_ret;exact⟨Q_ (by simp[D9g I.o J.o D]),⟨rfl,rfl,rfl,Nat.le_refl _,λ_ _=>rfl⟩⟩
   go_wp2;go_ret;exact⟨Q_ (by simp[B2g G.o H.o oM X.o]),⟨rfl,rfl,rfl,Nat.le_refl _,λ_ _=>rfl⟩⟩
 have S:((n:Int) != b)=true:=sO;go_enter func40,ntmps40;go_wp2;go_ret;exact⟨Q_ (by have:xs≠ys:=λe=>W (by rw[<-G.o,<-H.o,e]);simp[this]),Below.refl _ _⟩
attribute [local go_sem] L_ opAt N_ M_ Region.wanted yielded
attribute [local simp] N_ M_ MP.eq A0r


end Go.Proofs.YtbhemnidcleaiaaGreat.X

namespace Go.XB
open Go.RowKit Go.ChangeShapes Go.WideShapes Go.Deep

def Opens (P:Program) (t:TypeId) (α:Type) [Dat α]:Prop :=
 ∀ {H:Type} (enc:TypeId×Value->H) (w:World) (fuel:Nat) (cs:List Value) (y:DataW H×List MemPlace),DataW.trod enc P w 0 (λ_=>true) true fuel t cs=some y->∃ (x:α) (bs:List Nat),Dat.at_ w cs x bs

section
variable {P:Program} {t e:TypeId}

theorem D6f {α:Type} (p:Nat->α->List Nat->Prop):∀ n,(∀ i,i<n->∃ x fs,p i x fs)->∃ (xs:List α) (fss:List (List Nat)),xs.length=n/\fss.length=n/\∀ i x fs,xs[i]?=some x->fss[i]?=some fs->p i x fs
 |0,_=>⟨[],[],rfl,rfl,λi x fs h=>by simp at h⟩
 |n+1,h=>by
  obtain⟨xs,fss,h1,h2,h3⟩:=D6f p n λi hi=>h i oM
  obtain⟨x,fs,hp⟩:=h n oM
  refine⟨xs++[x],fss++[fs],by simp[h1],by simp[h2],λi y gs hy hg=>?_⟩
  by_cases hi:i<n
  ·rw[List.getElem?_append_left oM]at hy hg
   exact h3 i y gs hy hg
  have hin:i=n:=by have:=(List.getElem?_eq_some_iff.1 hy).1;simp at this;omega
  subst hin
  rw[List.getElem?_append_right oM,h1]at hy
  rw[List.getElem?_append_right oM,h2]at hg
  simp at hy hg
  subst hy;subst hg
  exact hp

theorem Opens.slice {α:Type} [Dat α] (S:P.underlying t=some (.slice e)) (G:P.cellsOf e=Dat.sz α) (K:Opens P e α):Opens P t (List α):=λenc w fuel cs y h=>by
 rcases open_slice S h with⟨rfl,_⟩|⟨a,len,cap,m,n,DD,Pl,rfl,_,hl,hm,hmm,_,hi⟩
 ·exact⟨[],[],none,0,0,rfl,Sl.nil w⟩
 have hlm:len<=m:=by rw[hmm];simpa using hl
 rcases Nat.eq_zero_or_pos len with h0|h0
 ·subst h0
  exact⟨[],[],_,0,cap,rfl,rfl,hl,hm,λ_=>rfl,λh=>absurd h oM⟩
 obtain⟨xs,fss,h1,h2,h3⟩:=D6f (α:=α) (λi x fs=>∃ cs',w.cells? 0 (a.add (i*Dat.sz α)) (Dat.sz α)=some cs'/\Dat.at_ w cs' x fs) len λi hil=>by
  obtain⟨cs',hcs,ht'⟩:=hi i oM
  rw[G]at hcs
  obtain⟨x,fs,ha⟩:=K enc w _ _ _ ht'
  exact⟨x,fs,cs',hcs,ha⟩
 have hpos:0<Dat.sz α:=Dat.pos
 obtain⟨cs0,hcs0,_⟩:=h3 0 _ _ (List.getElem?_eq_getElem oM) (List.getElem?_eq_getElem oM)
 obtain⟨_,hl0,hat0⟩:=World.cells?_some hcs0
 have hc0:=hat0 (i:=0) oM
 rw[Nat.zero_mul]at hc0
 have hspot:a.spot=none:=by
  have b:w.cell? ((a.add 0).add 0)=some (cs0[0]'oM):=by rw[hc0];exact List.getElem?_eq_getElem oM
  simp only[Addr.add,if_true]at b
  unfold World.cell? at b
  split at b
  ·split at b
   ·cases b
   rename_i O;simpa using O
  cases b
 have E:a.block<w.1.size:=by
  have b:w.cell? ((a.add 0).add 0)=some (cs0[0]'oM):=by rw[hc0];exact List.getElem?_eq_getElem oM
  have:=block_lt_of_cell b
  simpa[E1b]using this
 refine⟨xs,a.block::fss.flatten,_,len,cap,rfl,h1,hl,hm,λh=>absurd h oM,λ_=>⟨a.block,a.off,fss,?_,rfl,by rw[h1,h2],E,λk x fs T H=>?_⟩⟩
 ·cases a;simp only at hspot;subst hspot;rfl
 obtain⟨cs',hcs,ha⟩:=h3 k x fs T H
 obtain⟨_,J,D⟩:=World.cells?_some hcs
 refine⟨cs',λj Y u=>?_,ha⟩
 have I:j<Dat.sz α:=by rw[<-J];exact(List.getElem?_eq_some_iff.1 u).1
 have:=D (i:=j) I
 rw[u]at this
 rw[<-this]
 congr 1
 cases a
 simp only at hspot
 subst hspot
 unfold Addr.add
 by_cases W:k*Dat.sz α=0<;>by_cases X:j=0<;>simp[W,X,Nat.add_assoc]

theorem Opens.sl {α:Type} [Dat α] (G:Opens P t (List α)) (I:P.underlying t=some (.slice e)) {b:Type} {enc:TypeId×Value->b} {w:World} {r:Reach} {D:Nat} {v:Value} {d:DataW b} {p:List MemPlace}
  (J:Value.okWide P w r D t v) (h:DataW.Trod enc P w 0 (λ_=>true) true t v d p):∃ (A:Option Addr) (n c:Nat) (xs:List α) (bs:List Nat),v=.slice A n c/\Sl w A n c xs bs:=by
 obtain⟨A,n,c,rfl⟩:=okWide_slice I J;obtain⟨O,E⟩:=h;obtain⟨xs,bs,K,S,c',u,H⟩:=G enc w _ _ _ E;simp[Value.cells]at u;obtain⟨rfl,rfl,rfl⟩:=u;exact⟨_,_,_,xs,bs,rfl,H⟩
end
end Go.XB

namespace Go.Proofs.YtbhemnidcleaiaaGreat.X
open Go.XB Proofs.Tryz

section
open Go.RowKit
attribute [local go_sem] L_ opAt N_ M_ Region.wanted yielded
attribute [local simp] N_ M_ MP.eq A0r
theorem E4j {x y:TRat} (a:x.1.1=y.1.1) (b:x.1.2=y.1.2) (c:x.2=y.2):x=y:=by
 obtain⟨⟨_,_⟩,_⟩:=x;obtain⟨⟨_,_⟩,_⟩:=y;simp only at a b c;rw[a,b,c]
theorem D7e {x y:TPoint} (a:x.x=y.x) (b:x.y=y.y):x=y:=by
 obtain⟨_,_⟩:=x;obtain⟨_,_⟩:=y;simp only at a b;rw[a,b]
theorem A2s (v Y:Value) (x y:TRat) (ac ad:List Nat) (w:World) (S:Agg w v x ac) (T:Agg w Y y ad):Calls prog 12 #[v,Y] w (A0b w (.bool (decide (x=y)))):=by
 obtain⟨am,ax,aq,aB,an,ay,ar,aC,rfl,rfl,Z,aa⟩:=TRat.agg S;obtain⟨ao,az,au,aD,ap,aA,aw,aE,rfl,rfl,v1,v2⟩:=TRat.agg T;have G:=A_ Z;have E:=A_ v1;have J:=A_ aa;have I:=A_ v2;clear S T Z v1 aa v2;by_cases h:x.1.1=y.1.1;rotate_left
 ·have ae:(x.1.1==y.1.1)=false:=by simp[h]
  have Q:=A_ h;clear h;go_enter func12,ntmps12;go_wp2;go_ret;exact⟨Q_ (by have:x≠y:=λe=>Q.o (by rw[e]);simp[this]),Below.go⟩
 have ae:(x.1.1==y.1.1)=true:=by simp[h]
 have ab:=A_ h;clear h;by_cases q1:x.1.2=y.1.2;rotate_left
 ·have af:decide (x.1.2=y.1.2)=false:=by simp[q1]
  have Q:=A_ q1;clear q1;go_enter func12,ntmps12;go_wp2_with fail;refine(A2x _ _ _ _ _ _ x.1.2 y.1.2 _ _ _ (Sl.below G Below.go) (Sl.below E Below.go)).mono ?_;rintro e u1 ⟨rfl,b⟩;obtain⟨K,O⟩:=F_ b;have D:w.1.size<u1.1.size/\w.1.size+1<u1.1.size:=by have:=b.size;(try simp at this);omega
  obtain⟨W,X⟩:=D;go_wp2;go_ret;exact⟨Q_ (by have:x≠y:=λe=>Q.o (by rw[e]);simp[this]),Below.go⟩
 have af:decide (x.1.2=y.1.2)=true:=by simp[q1]
 have Q1:=A_ q1;clear q1;by_cases q2:x.2=y.2;rotate_left
 ·have ag:decide (x.2=y.2)=false:=by simp[q2]
  have Q:=A_ q2;clear q2;go_enter func12,ntmps12;go_wp2_with fail;refine(A2x _ _ _ _ _ _ x.1.2 y.1.2 _ _ _ (Sl.below G Below.go) (Sl.below E Below.go)).mono ?_;rintro e u1 ⟨rfl,b⟩;obtain⟨K,O⟩:=F_ b;have D:w.1.size<u1.1.size/\w.1.size+1<u1.1.size:=by have:=b.size;(try simp at this);omega
  obtain⟨W,X⟩:=D;go_wp2_with fail;refine(A2x _ _ _ _ _ _ x.2 y.2 _ _ _ (Sl.below J Below.go) (Sl.below I Below.go)).mono ?_;rintro e u2 ⟨rfl,u⟩;obtain⟨ah,aj⟩:=F_ u;have H:w.1.size<u2.1.size/\w.1.size+1<u2.1.size:=by have:=u.size;(try simp at this);omega
  obtain⟨ak,al⟩:=H;go_wp2;go_ret;exact⟨Q_ (by have:x≠y:=λe=>Q.o (by rw[e]);simp[this]),Below.go⟩
 have ag:decide (x.2=y.2)=true:=by simp[q2]
 have Q2:=A_ q2;clear q2;go_enter func12,ntmps12;go_wp2_with fail;refine(A2x _ _ _ _ _ _ x.1.2 y.1.2 _ _ _ (Sl.below G Below.go) (Sl.below E Below.go)).mono ?_;rintro e u1 ⟨rfl,b⟩;obtain⟨K,O⟩:=F_ b;have D:w.1.size<u1.1.size/\w.1.size+1<u1.1.size:=by have:=b.size;(try simp at this);omega
 obtain⟨W,X⟩:=D;go_wp2_with fail;refine(A2x _ _ _ _ _ _ x.2 y.2 _ _ _ (Sl.below J Below.go) (Sl.below I Below.go)).mono ?_;rintro e u2 ⟨rfl,u⟩;obtain⟨ah,aj⟩:=F_ u;have H:w.1.size<u2.1.size/\w.1.size+1<u2.1.size:=by have:=u.size;(try simp at this);omega
 obtain⟨ak,al⟩:=H;go_wp2;go_ret;have ai:x=y:=@E4j x y ab Q1 Q2;exact⟨Q_ (by simp[ai]),Below.go⟩
theorem B1e (v ac:Value) (x y:TPoint) (ak al:List Nat) (w:World) (Y:Agg w v x ak) (Z:Agg w ac y al):Calls prog 15 #[v,ac] w (A0b w (.bool (decide (x=y)))):=by
 obtain⟨aw,aM,aE,aU,ax,aN,aF,aV,ay,aO,aG,aW,az,aP,aH,aX,rfl,rfl,af,ag,ah,ai⟩:=TPoint.agg Y;obtain⟨aA,aQ,aI,aY,aB,aR,aJ,aZ,aC,aS,aK,a1,aD,aT,aL,a2,rfl,rfl,v1,v2,ad,ae⟩:=TPoint.agg Z;have H:=A_ af;have E:=A_ v1;have I:=A_ ag;have G:=A_ v2;have S:=A_ ah;have K:=A_ ad;have T:=A_ ai;have O:=A_ ae;clear Y Z af v1 ag v2 ah ad ai ae;by_cases h:x.x=y.x;rotate_left
 ·have am:decide (x.x=y.x)=false:=by simp[h]
  have Q:=A_ h;clear h;go_enter func15,ntmps15;go_wp2_with fail;refine(A2s _ _ x.x y.x _ _ _ (TRat.mkAgg (Sl.below H Below.go) (Sl.below I Below.go)) (TRat.mkAgg (Sl.below E Below.go) (Sl.below G Below.go))).mono ?_;rintro e u0 ⟨rfl,b⟩;obtain⟨W,X⟩:=F_ b;have D:w.1.size<u0.1.size/\w.1.size+1<u0.1.size:=by have:=b.size;(try simp at this);omega
  obtain⟨aa,ab⟩:=D;go_wp2;go_ret;exact⟨Q_ (by have:x≠y:=λe=>Q.o (by rw[e]);simp[this]),Below.go⟩
 have am:decide (x.x=y.x)=true:=by simp[h]
 have aj:=A_ h;clear h;by_cases q1:x.y=y.y;rotate_left
 ·have an:decide (x.y=y.y)=false:=by simp[q1]
  have Q:=A_ q1;clear q1;go_enter func15,ntmps15;go_wp2_with fail;refine(A2s _ _ x.x y.x _ _ _ (TRat.mkAgg (Sl.below H Below.go) (Sl.below I Below.go)) (TRat.mkAgg (Sl.below E Below.go) (Sl.below G Below.go))).mono ?_;rintro e u0 ⟨rfl,b⟩;obtain⟨W,X⟩:=F_ b;have D:w.1.size<u0.1.size/\w.1.size+1<u0.1.size:=by have:=b.size;(try simp at this);omega
  obtain⟨aa,ab⟩:=D;go_wp2_with fail;refine(A2s _ _ x.y y.y _ _ _ (TRat.mkAgg (Sl.below S Below.go) (Sl.below T Below.go)) (TRat.mkAgg (Sl.below K Below.go) (Sl.below O Below.go))).mono ?_;rintro e u1 ⟨rfl,u⟩;obtain⟨ao,aq⟩:=F_ u;have J:w.1.size<u1.1.size/\w.1.size+1<u1.1.size:=by have:=u.size;(try simp at this);omega
  obtain⟨ar,au⟩:=J;go_wp2;go_ret;exact⟨Q_ (by have:x≠y:=λe=>Q.o (by rw[e]);simp[this]),Below.go⟩
 have an:decide (x.y=y.y)=true:=by simp[q1]
 have Q1:=A_ q1;clear q1;go_enter func15,ntmps15;go_wp2_with fail;refine(A2s _ _ x.x y.x _ _ _ (TRat.mkAgg (Sl.below H Below.go) (Sl.below I Below.go)) (TRat.mkAgg (Sl.below E Below.go) (Sl.below G Below.go))).mono ?_;rintro e u0 ⟨rfl,b⟩;obtain⟨W,X⟩:=F_ b;have D:w.1.size<u0.1.size/\w.1.size+1<u0.1.size:=by have:=b.size;(try simp at this);omega
 obtain⟨aa,ab⟩:=D;go_wp2_with fail;refine(A2s _ _ x.y y.y _ _ _ (TRat.mkAgg (Sl.below S Below.go) (Sl.below T Below.go)) (TRat.mkAgg (Sl.below K Below.go) (Sl.below O Below.go))).mono ?_;rintro e u1 ⟨rfl,u⟩;obtain⟨ao,aq⟩:=F_ u;have J:w.1.size<u1.1.size/\w.1.size+1<u1.1.size:=by have:=u.size;(try simp at this);omega
 obtain⟨ar,au⟩:=J;go_wp2;go_ret;have ap:x=y:=@D7e x y aj Q1;exact⟨Q_ (by simp[ap]),Below.go⟩

theorem E6r (x y:TTri):decide (x=y)=(decide (x.a=y.a)&&(decide (x.b=y.b)&&(decide (x.c=y.c)&&(decide (x.4=y.4)&&decide (x.5=y.5))))):=by
 obtain⟨a,h,c,d,e⟩:=x;obtain⟨b,u,c',D,E⟩:=y;simp

theorem A0o (A H:Option Addr) (n D c c':Nat) (xs ys:List TPoint) (aj ak:List Nat) (w:World) (h:Sl w A n c xs aj) (u:Sl w H D c' ys ak) :
  Calls prog 55 #[.slice A n c,.slice H D c',.func (.func 15) #[] #[]] w (A0b w (.bool (decide (xs=ys)))):=by
 have an:n<=maxLen:=Nat.le_trans h.2.1 h.2.2.1;have ao:D<=maxLen:=Nat.le_trans u.2.1 u.2.2.1;have I:=A_ h.1;have J:=A_ u.1;unfold maxLen at an ao;have ah:=A_ h;have ai:=A_ u;clear h u;by_cases aa:n=D
 ·subst aa
  go_enter func55,ntmps55;go_wp2;go_loopw [17] (λi wr=>∃ k:Nat,k<=n/\i=.int .i64 k/\Hid (xs.take k=ys.take k)/\Bw w wr) (λi wr=>n - (intOf i).toNat);case atStart=>exact⟨0,Nat.zero_le _,rfl,rfl,Below.refl _ _⟩
  case round =>
   obtain⟨k,bi,rfl,ab,E⟩:=hrel;by_cases G:k<n
   ·have ac:k+1<=n:=oM
    obtain⟨aw,aM,x,ap,aI,ax,aN,aq,aJ,ay,aO,ar,aK,az,aP,au,aL,aA,aQ,rfl,aH,T,aB,aC,aD,aE,aF,aG,S⟩:=TPoint.elemA (Sl.below ah E) G;have O:=A_ T;have K:=A_ S;clear T S;obtain⟨aV,bd,y,aR,a8,aW,be,aS,a9,aX,bf,aT,ba,aY,bg,aU,bc,aZ,bh,rfl,a7,Z,a1,a2,a3,a4,a5,a6,Y⟩:=TPoint.elemA (Sl.below ai E) G;have X:=A_ Z;have W:=A_ Y;clear Z Y;by_cases b:x=y
    ·have al:decide (x=y)=true:=by simp[b]
     have ad:=A_ (B0r O X ab b);clear b;go_wp2_with fail;refine(B1e _ _ x y _ _ _ (Agg.below K Below.go) (Agg.below W Below.go)).mono ?_;rintro e af ⟨rfl,am⟩;have ae:Bw w af:=Below.go;go_wp2;first
     |exact⟨⟨k+1,ac,B3m k,ad,ae⟩,V_ G⟩
     |exact⟨by(repeat apply Exists.intro);exact⟨⟨k+1,ac,B3m k,ad,ae⟩,rfl⟩,V_ G⟩
    have al:decide (x=y)=false:=by simp[b]
    have ag:=A_ (D9g O X b);clear b;go_wp2_with fail;refine(B1e _ _ x y _ _ _ (Agg.below K Below.go) (Agg.below W Below.go)).mono ?_;rintro e af ⟨rfl,am⟩;go_wp2;go_ret;exact⟨Q_ (by simp[ag.o]),Below.go⟩
   go_wp2;go_ret;exact⟨Q_ (by simp[B2g I.o J.o oM ab.o]),E⟩
 have E:((n:Int) != D)=true:=sO;go_enter func55,ntmps55;go_wp2;go_ret;exact⟨Q_ (by have:xs≠ys:=λe=>aa (by rw[<-I.o,<-J.o,e]);simp[this]),Below.refl _ _⟩
theorem A3i (A H:Option Addr) (n D c c':Nat) (xs ys:List TRat) (aj ak:List Nat) (w:World) (h:Sl w A n c xs aj) (u:Sl w H D c' ys ak) :
  Calls prog 117 #[.slice A n c,.slice H D c',.func (.func 12) #[] #[]] w (A0b w (.bool (decide (xs=ys)))):=by
 have an:n<=maxLen:=Nat.le_trans h.2.1 h.2.2.1;have ao:D<=maxLen:=Nat.le_trans u.2.1 u.2.2.1;have I:=A_ h.1;have J:=A_ u.1;unfold maxLen at an ao;have ah:=A_ h;have ai:=A_ u;clear h u;by_cases aa:n=D
 ·subst aa
  go_enter func117,ntmps117;go_wp2;go_loopw [17] (λi wr=>∃ k:Nat,k<=n/\i=.int .i64 k/\Hid (xs.take k=ys.take k)/\Bw w wr) (λi wr=>n - (intOf i).toNat);case atStart=>exact⟨0,Nat.zero_le _,rfl,rfl,Below.refl _ _⟩
  case round =>
   obtain⟨k,aU,rfl,ab,E⟩:=hrel;by_cases G:k<n
   ·have ac:k+1<=n:=oM
    obtain⟨ar,aD,x,ap,aB,au,aE,aq,aC,aw,aF,rfl,aA,T,ax,ay,az,S⟩:=TRat.elemA (Sl.below ah E) G;have O:=A_ T;have K:=A_ S;clear T S;obtain⟨aI,aR,y,aG,aP,aJ,aS,aH,aQ,aK,aT,rfl,aO,Z,aL,aM,aN,Y⟩:=TRat.elemA (Sl.below ai E) G;have X:=A_ Z;have W:=A_ Y;clear Z Y;by_cases b:x=y
    ·have al:decide (x=y)=true:=by simp[b]
     have ad:=A_ (B0r O X ab b);clear b;go_wp2_with fail;refine(A2s _ _ x y _ _ _ (Agg.below K Below.go) (Agg.below W Below.go)).mono ?_;rintro e af ⟨rfl,am⟩;have ae:Bw w af:=Below.go;go_wp2;first
     |exact⟨⟨k+1,ac,B3m k,ad,ae⟩,V_ G⟩
     |exact⟨by(repeat apply Exists.intro);exact⟨⟨k+1,ac,B3m k,ad,ae⟩,rfl⟩,V_ G⟩
    have al:decide (x=y)=false:=by simp[b]
    have ag:=A_ (D9g O X b);clear b;go_wp2_with fail;refine(A2s _ _ x y _ _ _ (Agg.below K Below.go) (Agg.below W Below.go)).mono ?_;rintro e af ⟨rfl,am⟩;go_wp2;go_ret;exact⟨Q_ (by simp[ag.o]),Below.go⟩
   go_wp2;go_ret;exact⟨Q_ (by simp[B2g I.o J.o oM ab.o]),E⟩
 have E:((n:Int) != D)=true:=sO;go_enter func117,ntmps117;go_wp2;go_ret;exact⟨Q_ (by have:xs≠ys:=λe=>aa (by rw[<-I.o,<-J.o,e]);simp[this]),Below.refl _ _⟩

theorem A4w (A J:Option Addr) (n E c c':Nat) (xs ys:List TTri) (aj ak:List Nat) (w:World) (u:Sl w A n c xs aj) (D:Sl w J E c' ys ak) :
  Calls prog 56 #[.slice A n c,.slice J E c'] w (A0b w (.bool (decide (xs=ys)))):=by
 have am:n<=maxLen:=Nat.le_trans u.2.1 u.2.2.1;have an:E<=maxLen:=Nat.le_trans D.2.1 D.2.2.1;have K:=A_ u.1;have O:=A_ D.1;unfold maxLen at am an;have ah:=A_ u;have ai:=A_ D;clear u D;by_cases aa:n=E
 ·subst aa
  go_enter func56,ntmps56;go_wp2;go_loopw [13] (λi wr=>∃ k:Nat,k<=n/\i=.int .i64 k/\Hid (xs.take k=ys.take k)/\Bw w wr) (λi wr=>n - (intOf i).toNat);case atStart=>exact⟨0,Nat.zero_le _,rfl,rfl,Below.refl _ _⟩
  case round =>
   obtain⟨k,aQ,rfl,ab,b⟩:=hrel;by_cases H:k<n
   ·have ac:k+1<=n:=oM
    obtain⟨ar,aB,x,rfl,aA,W,au,aw,ax,ay,az,T⟩:=TTri.elemA (Sl.below ah b) H;have S:=A_ W;have aq:=A_ T;clear W T;obtain⟨aD,aK,y,rfl,aJ,Z,aE,aF,aG,aH,aI,Y⟩:=TTri.elemA (Sl.below ai b) H;have X:=A_ Z;have aC:=A_ Y;clear Z Y;have aO:(0:Int)<=k:=oM;have aP:(k:Int)<n:=oM;go_wp2;refine A0g ?_;iterate 8 refine C_ _ ?_
    refine A2b (.bool (!decide (x=y))) ?_ ?_;·intro ao ap af G I;obtain⟨aL,aN⟩:=F_ G;simp at I;refine⟨gD,?_⟩;go_simp;(rw[E6r x y];(repeat' split)<;>simp_all)
    intro ao ap af G I (aM:Hid _);simp at I;by_cases h:x=y
    ·have al:decide (x=y)=true:=by simp[h]
     have ad:=A_ (B0r S X ab h);have ae:Bw w af:=Below.next b G;clear h;go_simp;go_wp2;first
     |exact⟨⟨k+1,ac,B3m k,ad,ae⟩,V_ H⟩
     |exact⟨by(repeat apply Exists.intro);exact⟨⟨k+1,ac,B3m k,ad,ae⟩,rfl⟩,V_ H⟩
    have al:decide (x=y)=false:=by simp[h]
    have ag:=A_ (D9g S X h);clear h;go_simp;go_wp2;go_ret;exact⟨Q_ (by simp[ag.o]),Below.next b G⟩
   go_wp2;go_ret;exact⟨Q_ (by simp[B2g K.o O.o oM ab.o]),b⟩
 have b:((n:Int) != E)=true:=sO;go_enter func56,ntmps56;go_wp2;go_ret;exact⟨Q_ (by have:xs≠ys:=λe=>aa (by rw[<-K.o,<-O.o,e]);simp[this]),Below.refl _ _⟩

theorem E1a {x y:TMesh} (a:x.1=y.1) (b:x.triangles=y.triangles):x=y:=by
 obtain⟨_,_⟩:=x;obtain⟨_,_⟩:=y;simp only at a b;rw[a,b]
end
section
open Go.RowKit
theorem D2o {x y:TProblem} (a:x.1=y.1) (b:x.2=y.2) (c:x.3=y.3):x=y:=by
 obtain⟨_,_,_⟩:=x;obtain⟨_,_,_⟩:=y;simp only at a b c;rw[a,b,c]
theorem A5j (A b:Option Addr) (n D c c':Nat) (xs ys:List TRat) (H I:List Nat) (w:World) (h:Sl w A n c xs H) (u:Sl w b D c' ys I) :
  Calls prog 57 #[.slice A n c,.slice b D c'] w (A0b w (.bool (decide (xs=ys)))):=by
 have E:=A_ h;have G:=A_ u;clear h u;go_enter func57,ntmps57;go_wp2_with fail;refine(A3i _ _ _ _ _ _ xs ys _ _ _ E G).mono ?_;rintro e K ⟨rfl,J⟩;go_wp2;go_ret;exact⟨rfl,J⟩
theorem A7i (v Y:Value) (x y:TMesh) (ac ad:List Nat) (w:World) (S:Agg w v x ac) (T:Agg w Y y ad):Calls prog 23 #[v,Y] w (A0b w (.bool (decide (x=y)))):=by
 obtain⟨al,aw,ap,aA,am,ax,aq,aB,rfl,rfl,w0,aa⟩:=TMesh.agg S;obtain⟨an,ay,ar,aC,ao,az,au,aD,rfl,rfl,Z,v1⟩:=TMesh.agg T;have G:=A_ w0;have E:=A_ Z;have J:=A_ aa;have I:=A_ v1;clear S T w0 Z aa v1;by_cases h:x.1=y.1;rotate_left
 ·have ae:decide (x.1=y.1)=false:=by simp[h]
  have Q:=A_ h;clear h;go_enter func23,ntmps23;go_wp2_with fail;refine(A0o _ _ _ _ _ _ x.1 y.1 _ _ _ (Sl.below G Below.go) (Sl.below E Below.go)).mono ?_;rintro e u0 ⟨rfl,b⟩;obtain⟨K,O⟩:=F_ b;have D:w.1.size<u0.1.size/\w.1.size+1<u0.1.size:=by have:=b.size;(try simp at this);omega
  obtain⟨W,X⟩:=D;go_wp2;go_ret;exact⟨Q_ (by have:x≠y:=λe=>Q.o (by rw[e]);simp[this]),Below.go⟩
 have ae:decide (x.1=y.1)=true:=by simp[h]
 have ab:=A_ h;clear h;by_cases q1:x.triangles=y.triangles;rotate_left
 ·have af:decide (x.triangles=y.triangles)=false:=by simp[q1]
  have Q:=A_ q1;clear q1;go_enter func23,ntmps23;go_wp2_with fail;refine(A0o _ _ _ _ _ _ x.1 y.1 _ _ _ (Sl.below G Below.go) (Sl.below E Below.go)).mono ?_;rintro e u0 ⟨rfl,b⟩;obtain⟨K,O⟩:=F_ b;have D:w.1.size<u0.1.size/\w.1.size+1<u0.1.size:=by have:=b.size;(try simp at this);omega
  obtain⟨W,X⟩:=D;go_wp2_with fail;refine(A4w _ _ _ _ _ _ x.triangles y.triangles _ _ _ (Sl.below J Below.go) (Sl.below I Below.go)).mono ?_;rintro e u1 ⟨rfl,u⟩;obtain⟨ag,ai⟩:=F_ u;have H:w.1.size<u1.1.size/\w.1.size+1<u1.1.size:=by have:=u.size;(try simp at this);omega
  obtain⟨aj,ak⟩:=H;go_wp2;go_ret;exact⟨Q_ (by have:x≠y:=λe=>Q.o (by rw[e]);simp[this]),Below.go⟩
 have af:decide (x.triangles=y.triangles)=true:=by simp[q1]
 have Q1:=A_ q1;clear q1;go_enter func23,ntmps23;go_wp2_with fail;refine(A0o _ _ _ _ _ _ x.1 y.1 _ _ _ (Sl.below G Below.go) (Sl.below E Below.go)).mono ?_;rintro e u0 ⟨rfl,b⟩;obtain⟨K,O⟩:=F_ b;have D:w.1.size<u0.1.size/\w.1.size+1<u0.1.size:=by have:=b.size;(try simp at this);omega
 obtain⟨W,X⟩:=D;go_wp2_with fail;refine(A4w _ _ _ _ _ _ x.triangles y.triangles _ _ _ (Sl.below J Below.go) (Sl.below I Below.go)).mono ?_;rintro e u1 ⟨rfl,u⟩;obtain⟨ag,ai⟩:=F_ u;have H:w.1.size<u1.1.size/\w.1.size+1<u1.1.size:=by have:=u.size;(try simp at this);omega
 obtain⟨aj,ak⟩:=H;go_wp2;go_ret;have ah:x=y:=@E1a x y ab Q1;exact⟨Q_ (by simp[ah]),Below.go⟩
theorem C1p (v ai:Value) (x y:TProblem) (ao ap:List Nat) (w:World) (ae:Agg w v x ao) (af:Agg w ai y ap):Calls prog 24 #[v,ai] w (A0b w (.bool (decide (x=y)))):=by
 obtain⟨aB,aR,aJ,aZ,aC,aS,aK,a1,aD,aT,aL,a2,aE,aU,aM,a3,rfl,rfl,w0,al,am,w3⟩:=TProblem.agg ae;obtain⟨aF,aV,aN,a4,aG,aW,aO,a5,aH,aX,aP,a6,aI,aY,aQ,a7,rfl,rfl,aj,v1,v2,ak⟩:=TProblem.agg af;have J:=A_ w0;have H:=A_ aj;have K:=A_ al;have I:=A_ v1;have S:=A_ am;have O:=A_ v2;have ab:=A_ w3;have aa:=A_ ak;clear ae af w0 aj al v1 am v2 w3 ak;by_cases D:x.1=y.1;rotate_left
 ·have aq:decide (x.1=y.1)=false:=by simp[D]
  have Q:=A_ D;clear D;go_enter func24,ntmps24;go_wp2_with fail;refine(A7i _ _ x.1 y.1 _ _ _ (TMesh.mkAgg (Sl.below J Below.go) (Sl.below K Below.go)) (TMesh.mkAgg (Sl.below H Below.go) (Sl.below I Below.go))).mono ?_;rintro e u0 ⟨rfl,b⟩;obtain⟨T,W⟩:=F_ b;have u:w.1.size<u0.1.size/\w.1.size+1<u0.1.size:=by have:=b.size;(try simp at this);omega
  obtain⟨X,Y⟩:=u;go_wp2;go_ret;exact⟨Q_ (by have:x≠y:=λe=>Q.o (by rw[e]);simp[this]),Below.go⟩
 have aq:decide (x.1=y.1)=true:=by simp[D]
 have an:=A_ D;clear D;by_cases q1:x.2=y.2;rotate_left
 ·have ar:decide (x.2=y.2)=false:=by simp[q1]
  have Q:=A_ q1;clear q1;go_enter func24,ntmps24;go_wp2_with fail;refine(A7i _ _ x.1 y.1 _ _ _ (TMesh.mkAgg (Sl.below J Below.go) (Sl.below K Below.go)) (TMesh.mkAgg (Sl.below H Below.go) (Sl.below I Below.go))).mono ?_;rintro e u0 ⟨rfl,b⟩;obtain⟨T,W⟩:=F_ b;have u:w.1.size<u0.1.size/\w.1.size+1<u0.1.size:=by have:=b.size;(try simp at this);omega
  obtain⟨X,Y⟩:=u;go_wp2_with fail;refine(A5j _ _ _ _ _ _ x.2 y.2 _ _ _ (Sl.below S Below.go) (Sl.below O Below.go)).mono ?_;rintro e u1 ⟨rfl,h⟩;obtain⟨ac,ad⟩:=F_ h;have G:w.1.size<u1.1.size/\w.1.size+1<u1.1.size:=by have:=h.size;(try simp at this);omega
  obtain⟨ag,ah⟩:=G;go_wp2;go_ret;exact⟨Q_ (by have:x≠y:=λe=>Q.o (by rw[e]);simp[this]),Below.go⟩
 have ar:decide (x.2=y.2)=true:=by simp[q1]
 have Q1:=A_ q1;clear q1;by_cases q2:x.3=y.3;rotate_left
 ·have au:decide (x.3=y.3)=false:=by simp[q2]
  have Q:=A_ q2;clear q2;go_enter func24,ntmps24;go_wp2_with fail;refine(A7i _ _ x.1 y.1 _ _ _ (TMesh.mkAgg (Sl.below J Below.go) (Sl.below K Below.go)) (TMesh.mkAgg (Sl.below H Below.go) (Sl.below I Below.go))).mono ?_;rintro e u0 ⟨rfl,b⟩;obtain⟨T,W⟩:=F_ b;have u:w.1.size<u0.1.size/\w.1.size+1<u0.1.size:=by have:=b.size;(try simp at this);omega
  obtain⟨X,Y⟩:=u;go_wp2_with fail;refine(A5j _ _ _ _ _ _ x.2 y.2 _ _ _ (Sl.below S Below.go) (Sl.below O Below.go)).mono ?_;rintro e u1 ⟨rfl,h⟩;obtain⟨ac,ad⟩:=F_ h;have G:w.1.size<u1.1.size/\w.1.size+1<u1.1.size:=by have:=h.size;(try simp at this);omega
  obtain⟨ag,ah⟩:=G;go_wp2_with fail;refine(A5j _ _ _ _ _ _ x.3 y.3 _ _ _ (Sl.below ab Below.go) (Sl.below aa Below.go)).mono ?_;rintro e u2 ⟨rfl,E⟩;obtain⟨aw,ay⟩:=F_ E;have Z:w.1.size<u2.1.size/\w.1.size+1<u2.1.size:=by have:=E.size;(try simp at this);omega
  obtain⟨az,aA⟩:=Z;go_wp2;go_ret;exact⟨Q_ (by have:x≠y:=λe=>Q.o (by rw[e]);simp[this]),Below.go⟩
 have au:decide (x.3=y.3)=true:=by simp[q2]
 have Q2:=A_ q2;clear q2;go_enter func24,ntmps24;go_wp2_with fail;refine(A7i _ _ x.1 y.1 _ _ _ (TMesh.mkAgg (Sl.below J Below.go) (Sl.below K Below.go)) (TMesh.mkAgg (Sl.below H Below.go) (Sl.below I Below.go))).mono ?_;rintro e u0 ⟨rfl,b⟩;obtain⟨T,W⟩:=F_ b;have u:w.1.size<u0.1.size/\w.1.size+1<u0.1.size:=by have:=b.size;(try simp at this);omega
 obtain⟨X,Y⟩:=u;go_wp2_with fail;refine(A5j _ _ _ _ _ _ x.2 y.2 _ _ _ (Sl.below S Below.go) (Sl.below O Below.go)).mono ?_;rintro e u1 ⟨rfl,h⟩;obtain⟨ac,ad⟩:=F_ h;have G:w.1.size<u1.1.size/\w.1.size+1<u1.1.size:=by have:=h.size;(try simp at this);omega
 obtain⟨ag,ah⟩:=G;go_wp2_with fail;refine(A5j _ _ _ _ _ _ x.3 y.3 _ _ _ (Sl.below ab Below.go) (Sl.below aa Below.go)).mono ?_;rintro e u2 ⟨rfl,E⟩;obtain⟨aw,ay⟩:=F_ E;have Z:w.1.size<u2.1.size/\w.1.size+1<u2.1.size:=by have:=E.size;(try simp at this);omega
 obtain⟨az,aA⟩:=Z;go_wp2;go_ret;have ax:x=y:=@D2o x y an Q1 Q2;exact⟨Q_ (by simp[ax]),Below.go⟩
end
end Go.Proofs.YtbhemnidcleaiaaGreat.X
