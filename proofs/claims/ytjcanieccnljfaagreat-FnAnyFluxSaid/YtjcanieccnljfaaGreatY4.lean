/- A part of the proof. -/
import Derived.Test.YtjcanieccnljfaaGreatY2
import Derived.BigQuiet
import Derived.Deep.Slices
import Derived.KernelRfl
set_option linter.constructorNameAsVariable false
set_option maxHeartbeats 16000000
set_option maxRecDepth 10000
open Bool renaming false→AH,true→AF
open Decidable renaming decide→BQ
open Go renaming Addr→AJ,Calls→BL,TypeId→CV,Value→AU,World→AD,maxLen→BS
open Go.Value renaming bool→J,int→N,slice→S
open Go.XB.Sl renaming below→BN,getInt→DL
open Go.XB.TRat renaming agg→CF,elemA→IM,mkAgg→FK
open List renaming getElem?_append_right→MC,getElem?_eq_getElem→DU,getElem?_eq_some_iff→DM
open Nat renaming le_refl→CE,le_trans→CJ,zero_le→EO
open Option renaming some→B
namespace Go.Proofs.YtjcanieccnljfaaGreat.X
open Go.RowKit Go.XB Proofs.Tryz
theorem E5x:(prog.info? 3).map (λi=>(i.zero,i.size,i.bytes))=B (B (N .i64 0),1,8):=by kernel_rfl
theorem A2x (A E:Option AJ) (n b c c':Nat) (xs ys:List Int) (bs W:List Nat) (w:AD) (h:Sl w A n c xs bs) (u:Sl w E b c' ys W) :
  BL prog 46 #[S A n c,S E b c'] w (A0b w (J (BQ (xs=ys)))):=by
 have af:n<=BS:=CJ h.2.1 h.2.2.1;have ag:b<=BS:=CJ u.2.1 u.2.2.1;have G:Hid (xs.length=n):=h.1;have H:Hid (ys.length=b):=u.1;unfold BS at af ag;have ad:Hid (Sl w A n c xs bs):=h;have ae:Hid (Sl w E b c' ys W):=u;clear h u;by_cases Z:n=b
 ·subst Z
  go_enter func46,ntmps46;go_wp2;go_loopw [5,13] (λ_ i wr=>∃ k:Nat,k<=n/\i=N .i64 k/\Hid (xs.take k=ys.take k)/\∃ m,wr=w.drewN m) (λ_ i wr=>n - (intOf i).toNat);case atStart=>exact⟨0,EO _,rfl,rfl,0,rfl⟩
  case round =>
   obtain⟨k,ap,rfl,aa,m,rfl⟩:=hrel;by_cases Y:k<n
   ·obtain⟨ah,aq,x,rfl,aj,ab,_,al⟩:=DL ad Y
    obtain⟨ai,ar,y,rfl,ak,ac,_,am⟩:=DL ae Y;have O:Hid (xs[k]?=B x):=ab;have T:Hid (ys[k]?=B y):=ac;clear ab ac;have an:(0:Int)<=k:=oS;have ao:(k:Int)<n:=oS;by_cases D:x=y
    ·have X:(x != y)=AH:=by simp[D]
     go_wp2;go_quiet (fail);go_wp2;go_roundw;case rel=>exact⟨k+1,oS,by go_num,B0r O.o T.o aa D,_,rfl⟩
     case measure=>simp[intOf];omega
    have X:(x != y)=AF:=by simp[D]
    go_wp2;go_quiet (fail);go_wp2;go_ret;exact⟨Q_ (by simp[D9g O.o T.o D]),⟨rfl,rfl,rfl,CE _,λ_ _=>rfl⟩⟩
   go_wp2;go_ret;exact⟨Q_ (by simp[B2g G.o H.o oS aa.o]),⟨rfl,rfl,rfl,CE _,λ_ _=>rfl⟩⟩
 have X:((n:Int) != b)=AF:=oR;go_enter func46,ntmps46;go_wp2;go_ret;exact⟨Q_ (by have:xs≠ys:=λe=>Z (by rw[<-G.o,<-H.o,e]);simp[this]),Below.refl _ _⟩
attribute [local go_sem] L_ opAt N_ M_ Region.wanted yielded
attribute [local simp] N_ M_ MP.eq A0r


end Go.Proofs.YtjcanieccnljfaaGreat.X

namespace Go.XB
open Go.RowKit Go.ChangeShapes Go.WideShapes Go.Deep

def Opens (P:Program) (t:CV) (α:Type) [Dat α]:Prop :=
 ∀ {H:Type} (enc:CV×AU->H) (w:AD) (fuel:Nat) (cs:List AU) (y:DataW H×List MemPlace),DataW.trod enc P w 0 (λ_=>AF) AF fuel t cs=B y->∃ (x:α) (bs:List Nat),Dat.at_ w cs x bs

section
variable {P:Program} {t e:CV}

theorem D6f {α:Type} (p:Nat->α->List Nat->Prop):∀ n,(∀ i,i<n->∃ x fs,p i x fs)->∃ (xs:List α) (fss:List (List Nat)),xs.length=n/\fss.length=n/\∀ i x fs,xs[i]?=B x->fss[i]?=B fs->p i x fs
 |0,_=>⟨[],[],rfl,rfl,λi x fs h=>by simp at h⟩
 |n+1,h=>by
  obtain⟨xs,fss,h1,h2,h3⟩:=D6f p n λi hi=>h i oS
  obtain⟨x,fs,hp⟩:=h n oS
  refine⟨xs++[x],fss++[fs],by simp[h1],by simp[h2],λi y gs hy hg=>?_⟩
  by_cases hi:i<n
  ·rw[List.getElem?_append_left oS]at hy hg
   exact h3 i y gs hy hg
  have hin:i=n:=by have:=(DM.1 hy).1;simp at this;omega
  subst hin
  rw[MC oS,h1]at hy
  rw[MC oS,h2]at hg
  simp at hy hg
  subst hy;subst hg
  exact hp

theorem Opens.slice {α:Type} [Dat α] (Y:P.underlying t=B (.slice e)) (G:P.cellsOf e=Dat.sz α) (W:Opens P e α):Opens P t (List α):=λenc w fuel cs y h=>by
 rcases open_slice Y h with⟨rfl,_⟩|⟨a,len,cap,m,n,DD,Pl,rfl,_,hl,hm,hmm,_,hi⟩
 ·exact⟨[],[],none,0,0,rfl,Sl.nil w⟩
 have hlm:len<=m:=by rw[hmm];simpa using hl
 rcases Nat.eq_zero_or_pos len with h0|h0
 ·subst h0
  exact⟨[],[],_,0,cap,rfl,rfl,hl,hm,λ_=>rfl,λh=>absurd h oS⟩
 obtain⟨xs,fss,h1,h2,h3⟩:=D6f (α:=α) (λi x fs=>∃ cs',w.cells? 0 (a.add (i*Dat.sz α)) (Dat.sz α)=B cs'/\Dat.at_ w cs' x fs) len λi hil=>by
  obtain⟨cs',hcs,ht'⟩:=hi i oS
  rw[G]at hcs
  obtain⟨x,fs,ha⟩:=W enc w _ _ _ ht'
  exact⟨x,fs,cs',hcs,ha⟩
 have hpos:0<Dat.sz α:=Dat.pos
 obtain⟨cs0,hcs0,_⟩:=h3 0 _ _ (DU oS) (DU oS)
 obtain⟨_,hl0,hat0⟩:=AD.cells?_some hcs0
 have hc0:=hat0 (i:=0) oS
 rw[Nat.zero_mul]at hc0
 have hspot:a.spot=none:=by
  have b:w.cell? ((a.add 0).add 0)=B (cs0[0]'oS):=by rw[hc0];exact DU oS
  simp only[AJ.add,if_true]at b
  unfold AD.cell? at b
  split at b
  ·split at b
   ·cases b
   rename_i X;simpa using X
  cases b
 have E:a.block<w.1.size:=by
  have b:w.cell? ((a.add 0).add 0)=B (cs0[0]'oS):=by rw[hc0];exact DU oS
  have:=block_lt_of_cell b
  simpa[E1b]using this
 refine⟨xs,a.block::fss.flatten,_,len,cap,rfl,h1,hl,hm,λh=>absurd h oS,λ_=>⟨a.block,a.off,fss,?_,rfl,by rw[h1,h2],E,λk x fs Z H=>?_⟩⟩
 ·cases a;simp only at hspot;subst hspot;rfl
 obtain⟨cs',hcs,ha⟩:=h3 k x fs Z H
 obtain⟨_,T,D⟩:=AD.cells?_some hcs
 refine⟨cs',λj ac u=>?_,ha⟩
 have O:j<Dat.sz α:=by rw[<-T];exact(DM.1 u).1
 have:=D (i:=j) O
 rw[u]at this
 rw[<-this]
 congr 1
 cases a
 simp only at hspot
 subst hspot
 unfold AJ.add
 by_cases aa:k*Dat.sz α=0<;>by_cases ab:j=0<;>simp[aa,ab,Nat.add_assoc]

theorem Opens.sl {α:Type} [Dat α] (G:Opens P t (List α)) (O:P.underlying t=B (.slice e)) {b:Type} {enc:CV×AU->b} {w:AD} {r:Reach} {D:Nat} {v:AU} {d:DataW b} {p:List MemPlace}
  (T:AU.okWide P w r D t v) (h:DataW.Trod enc P w 0 (λ_=>AF) AF t v d p):∃ (A:Option AJ) (n c:Nat) (xs:List α) (bs:List Nat),v=S A n c/\Sl w A n c xs bs:=by
 obtain⟨A,n,c,rfl⟩:=okWide_slice O T;obtain⟨X,E⟩:=h;obtain⟨xs,bs,W,Y,c',u,H⟩:=G enc w _ _ _ E;simp[Value.cells]at u;obtain⟨rfl,rfl,rfl⟩:=u;exact⟨_,_,_,xs,bs,rfl,H⟩
end
end Go.XB

namespace Go.Proofs.YtjcanieccnljfaaGreat.X
open Go.XB Proofs.Tryz

section
open Go.RowKit
attribute [local go_sem] L_ opAt N_ M_ Region.wanted yielded
attribute [local simp] N_ M_ MP.eq A0r
theorem E4j {x y:TRat} (a:x.1.1=y.1.1) (b:x.1.2=y.1.2) (c:x.2=y.2):x=y:=by
 obtain⟨⟨_,_⟩,_⟩:=x;obtain⟨⟨_,_⟩,_⟩:=y;simp only at a b c;rw[a,b,c]
theorem D7e {x y:TPoint} (a:x.x=y.x) (b:x.y=y.y):x=y:=by
 obtain⟨_,_⟩:=x;obtain⟨_,_⟩:=y;simp only at a b;rw[a,b]
theorem A2s (v ac:AU) (x y:TRat) (bs ag:List Nat) (w:AD) (Y:Agg w v x bs) (Z:Agg w ac y ag):BL prog 15 #[v,ac] w (A0b w (J (BQ (x=y)))):=by
 obtain⟨ap,aA,aw,aE,aq,aB,ax,aF,rfl,rfl,ad,ae⟩:=CF Y;obtain⟨ar,aC,ay,aG,au,aD,az,aH,rfl,rfl,v1,v2⟩:=CF Z;have G:=A_ ad;have E:=A_ v1;have T:=A_ ae;have O:=A_ v2;clear Y Z ad v1 ae v2;by_cases h:x.1.1=y.1.1;rotate_left
 ·have ah:(x.1.1==y.1.1)=AH:=by simp[h]
  have Q:=A_ h;clear h;go_enter func15,ntmps15;go_wp2;go_ret;exact⟨Q_ (by have:x≠y:=λe=>Q.o (by rw[e]);simp[this]),Below.go⟩
 have ah:(x.1.1==y.1.1)=AF:=by simp[h]
 have af:=A_ h;clear h;by_cases q1:x.1.2=y.1.2;rotate_left
 ·have ai:BQ (x.1.2=y.1.2)=AH:=by simp[q1]
  have Q:=A_ q1;clear q1;go_enter func15,ntmps15;go_wp2_with fail;refine(A2x _ _ _ _ _ _ x.1.2 y.1.2 _ _ _ (BN G Below.go) (BN E Below.go)).mono ?_;rintro e u1 ⟨rfl,b⟩;obtain⟨W,X⟩:=F_ b;have D:w.1.size<u1.1.size/\w.1.size+1<u1.1.size:=by have:=b.size;(try simp at this);omega
  obtain⟨aa,ab⟩:=D;go_wp2;go_ret;exact⟨Q_ (by have:x≠y:=λe=>Q.o (by rw[e]);simp[this]),Below.go⟩
 have ai:BQ (x.1.2=y.1.2)=AF:=by simp[q1]
 have Q1:=A_ q1;clear q1;by_cases q2:x.2=y.2;rotate_left
 ·have aj:BQ (x.2=y.2)=AH:=by simp[q2]
  have Q:=A_ q2;clear q2;go_enter func15,ntmps15;go_wp2_with fail;refine(A2x _ _ _ _ _ _ x.1.2 y.1.2 _ _ _ (BN G Below.go) (BN E Below.go)).mono ?_;rintro e u1 ⟨rfl,b⟩;obtain⟨W,X⟩:=F_ b;have D:w.1.size<u1.1.size/\w.1.size+1<u1.1.size:=by have:=b.size;(try simp at this);omega
  obtain⟨aa,ab⟩:=D;go_wp2_with fail;refine(A2x _ _ _ _ _ _ x.2 y.2 _ _ _ (BN T Below.go) (BN O Below.go)).mono ?_;rintro e u2 ⟨rfl,u⟩;obtain⟨ak,am⟩:=F_ u;have H:w.1.size<u2.1.size/\w.1.size+1<u2.1.size:=by have:=u.size;(try simp at this);omega
  obtain⟨an,ao⟩:=H;go_wp2;go_ret;exact⟨Q_ (by have:x≠y:=λe=>Q.o (by rw[e]);simp[this]),Below.go⟩
 have aj:BQ (x.2=y.2)=AF:=by simp[q2]
 have Q2:=A_ q2;clear q2;go_enter func15,ntmps15;go_wp2_with fail;refine(A2x _ _ _ _ _ _ x.1.2 y.1.2 _ _ _ (BN G Below.go) (BN E Below.go)).mono ?_;rintro e u1 ⟨rfl,b⟩;obtain⟨W,X⟩:=F_ b;have D:w.1.size<u1.1.size/\w.1.size+1<u1.1.size:=by have:=b.size;(try simp at this);omega
 obtain⟨aa,ab⟩:=D;go_wp2_with fail;refine(A2x _ _ _ _ _ _ x.2 y.2 _ _ _ (BN T Below.go) (BN O Below.go)).mono ?_;rintro e u2 ⟨rfl,u⟩;obtain⟨ak,am⟩:=F_ u;have H:w.1.size<u2.1.size/\w.1.size+1<u2.1.size:=by have:=u.size;(try simp at this);omega
 obtain⟨an,ao⟩:=H;go_wp2;go_ret;have al:x=y:=@E4j x y af Q1 Q2;exact⟨Q_ (by simp[al]),Below.go⟩
theorem B1e (v ag:AU) (x y:TPoint) (bs ao:List Nat) (w:AD) (ac:Agg w v x bs) (ad:Agg w ag y ao):BL prog 136 #[v,ag] w (A0b w (J (BQ (x=y)))):=by
 obtain⟨az,aP,aH,aX,aA,aQ,aI,aY,aB,aR,aJ,aZ,aC,aS,aK,a1,rfl,rfl,aj,ak,al,am⟩:=TPoint.agg ac;obtain⟨aD,aT,aL,a2,aE,aU,aM,a3,aF,aV,aN,a4,aG,aW,aO,a5,rfl,rfl,v1,v2,ah,ai⟩:=TPoint.agg ad;have H:=A_ aj;have E:=A_ v1;have O:=A_ ak;have G:=A_ v2;have Y:=A_ al;have W:=A_ ah;have Z:=A_ am;have X:=A_ ai;clear ac ad aj v1 ak v2 al ah am ai;by_cases h:x.x=y.x;rotate_left
 ·have ap:BQ (x.x=y.x)=AH:=by simp[h]
  have Q:=A_ h;clear h;go_enter func136,ntmps136;go_wp2_with fail;refine(A2s _ _ x.x y.x _ _ _ (FK (BN H Below.go) (BN O Below.go)) (FK (BN E Below.go) (BN G Below.go))).mono ?_;rintro e u0 ⟨rfl,b⟩;obtain⟨aa,ab⟩:=F_ b;have D:w.1.size<u0.1.size/\w.1.size+1<u0.1.size:=by have:=b.size;(try simp at this);omega
  obtain⟨ae,af⟩:=D;go_wp2;go_ret;exact⟨Q_ (by have:x≠y:=λe=>Q.o (by rw[e]);simp[this]),Below.go⟩
 have ap:BQ (x.x=y.x)=AF:=by simp[h]
 have an:=A_ h;clear h;by_cases q1:x.y=y.y;rotate_left
 ·have aq:BQ (x.y=y.y)=AH:=by simp[q1]
  have Q:=A_ q1;clear q1;go_enter func136,ntmps136;go_wp2_with fail;refine(A2s _ _ x.x y.x _ _ _ (FK (BN H Below.go) (BN O Below.go)) (FK (BN E Below.go) (BN G Below.go))).mono ?_;rintro e u0 ⟨rfl,b⟩;obtain⟨aa,ab⟩:=F_ b;have D:w.1.size<u0.1.size/\w.1.size+1<u0.1.size:=by have:=b.size;(try simp at this);omega
  obtain⟨ae,af⟩:=D;go_wp2_with fail;refine(A2s _ _ x.y y.y _ _ _ (FK (BN Y Below.go) (BN Z Below.go)) (FK (BN W Below.go) (BN X Below.go))).mono ?_;rintro e u1 ⟨rfl,u⟩;obtain⟨ar,aw⟩:=F_ u;have T:w.1.size<u1.1.size/\w.1.size+1<u1.1.size:=by have:=u.size;(try simp at this);omega
  obtain⟨ax,ay⟩:=T;go_wp2;go_ret;exact⟨Q_ (by have:x≠y:=λe=>Q.o (by rw[e]);simp[this]),Below.go⟩
 have aq:BQ (x.y=y.y)=AF:=by simp[q1]
 have Q1:=A_ q1;clear q1;go_enter func136,ntmps136;go_wp2_with fail;refine(A2s _ _ x.x y.x _ _ _ (FK (BN H Below.go) (BN O Below.go)) (FK (BN E Below.go) (BN G Below.go))).mono ?_;rintro e u0 ⟨rfl,b⟩;obtain⟨aa,ab⟩:=F_ b;have D:w.1.size<u0.1.size/\w.1.size+1<u0.1.size:=by have:=b.size;(try simp at this);omega
 obtain⟨ae,af⟩:=D;go_wp2_with fail;refine(A2s _ _ x.y y.y _ _ _ (FK (BN Y Below.go) (BN Z Below.go)) (FK (BN W Below.go) (BN X Below.go))).mono ?_;rintro e u1 ⟨rfl,u⟩;obtain⟨ar,aw⟩:=F_ u;have T:w.1.size<u1.1.size/\w.1.size+1<u1.1.size:=by have:=u.size;(try simp at this);omega
 obtain⟨ax,ay⟩:=T;go_wp2;go_ret;have au:x=y:=@D7e x y an Q1;exact⟨Q_ (by simp[au]),Below.go⟩

theorem A3i (A H:Option AJ) (n D c c':Nat) (xs ys:List TRat) (bs an:List Nat) (w:AD) (h:Sl w A n c xs bs) (u:Sl w H D c' ys an) :
  BL prog 127 #[S A n c,S H D c',.func (.func 15) #[] #[]] w (A0b w (J (BQ (xs=ys)))):=by
 have aq:n<=BS:=CJ h.2.1 h.2.2.1;have ar:D<=BS:=CJ u.2.1 u.2.2.1;have O:=A_ h.1;have T:=A_ u.1;unfold BS at aq ar;have al:=A_ h;have am:=A_ u;clear h u;by_cases ae:n=D
 ·subst ae
  go_enter func127,ntmps127;go_wp2;go_loopw [17] (λi wr=>∃ k:Nat,k<=n/\i=N .i64 k/\Hid (xs.take k=ys.take k)/\Bw w wr) (λi wr=>n - (intOf i).toNat);case atStart=>exact⟨0,EO _,rfl,rfl,Below.refl _ _⟩
  case round =>
   obtain⟨k,aX,rfl,af,E⟩:=hrel;by_cases G:k<n
   ·have ag:k+1<=n:=oS
    obtain⟨ax,aG,x,au,aE,ay,aH,aw,aF,az,aI,rfl,aD,Z,aA,aB,aC,Y⟩:=IM (BN al E) G;have X:=A_ Z;have W:=A_ Y;clear Z Y;obtain⟨aL,aU,y,aJ,aS,aM,aV,aK,aT,aN,aW,rfl,aR,ad,aO,aP,aQ,ac⟩:=IM (BN am E) G;have ab:=A_ ad;have aa:=A_ ac;clear ad ac;by_cases b:x=y
    ·have ao:BQ (x=y)=AF:=by simp[b]
     have ah:=A_ (B0r X ab af b);clear b;go_wp2_with fail;refine(A2s _ _ x y _ _ _ (Agg.below W Below.go) (Agg.below aa Below.go)).mono ?_;rintro e aj ⟨rfl,ap⟩;have ai:Bw w aj:=Below.go;go_wp2;first
     |exact⟨⟨k+1,ag,B3m k,ah,ai⟩,V_ G⟩
     |exact⟨by(repeat apply Exists.intro);exact⟨⟨k+1,ag,B3m k,ah,ai⟩,rfl⟩,V_ G⟩
    have ao:BQ (x=y)=AH:=by simp[b]
    have ak:=A_ (D9g X ab b);clear b;go_wp2_with fail;refine(A2s _ _ x y _ _ _ (Agg.below W Below.go) (Agg.below aa Below.go)).mono ?_;rintro e aj ⟨rfl,ap⟩;go_wp2;go_ret;exact⟨Q_ (by simp[ak.o]),Below.go⟩
   go_wp2;go_ret;exact⟨Q_ (by simp[B2g O.o T.o oS af.o]),E⟩
 have E:((n:Int) != D)=AF:=oR;go_enter func127,ntmps127;go_wp2;go_ret;exact⟨Q_ (by have:xs≠ys:=λe=>ae (by rw[<-O.o,<-T.o,e]);simp[this]),Below.refl _ _⟩
end
section
open Go.RowKit
theorem A5j (A b:Option AJ) (n D c c':Nat) (xs ys:List TRat) (bs H:List Nat) (w:AD) (h:Sl w A n c xs bs) (u:Sl w b D c' ys H) :
  BL prog 56 #[S A n c,S b D c'] w (A0b w (J (BQ (xs=ys)))):=by
 have E:=A_ h;have G:=A_ u;clear h u;go_enter func56,ntmps56;go_wp2_with fail;refine(A3i _ _ _ _ _ _ xs ys _ _ _ E G).mono ?_;rintro e T ⟨rfl,O⟩;go_wp2;go_ret;exact⟨rfl,O⟩
end
end Go.Proofs.YtjcanieccnljfaaGreat.X
