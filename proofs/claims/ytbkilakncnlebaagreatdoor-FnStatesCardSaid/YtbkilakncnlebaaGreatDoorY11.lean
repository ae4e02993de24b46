/- A part of the proof. -/
import Derived.Test.YtbkilakncnlebaaGreatDoorY2
import Derived.BigQuiet
import Derived.Deep.Slices
import Derived.KernelRfl
set_option linter.constructorNameAsVariable false
set_option maxHeartbeats 16000000
set_option maxRecDepth 10000
open Bool renaming false→AF,true→AD
open Decidable renaming decide→AU
open Exists renaming intro→EI
open Go renaming Addr→AH,Calls→AR,TypeId→BS,Value→AJ,World→J,maxLen→BG
open Go.RowKit.Below renaming refl→CG
open Go.Value renaming bool→AC,int→N,slice→S
open Go.XB.Agg renaming below→DT
open Go.XB.Sl renaming below→AQ,getInt→DB
open Go.XB.TMesh renaming mkAgg→GT
open Go.XB.TProblem renaming agg→FG,mkAgg→JS
open Go.XB.TRat renaming agg→BK,mkAgg→CU
open List renaming getElem?_append_right→JO,getElem?_eq_getElem→CV,getElem?_eq_some_iff→CQ
open Nat renaming le_refl→BH,le_trans→BM,zero_le→DV
open Option renaming some→B
namespace Go.Proofs.YtbkilakncnlebaaGreatDoor.X
open Go.RowKit Go.XB Proofs.Tryz
theorem E5x:(prog.info? 3).map (λi=>(i.zero,i.size,i.bytes))=B (B (N .i64 0),1,8):=by kernel_rfl
theorem A2x (A E:Option AH) (n b c c':Nat) (xs ys:List Int) (bs W:List Nat) (w:J) (h:Sl w A n c xs bs) (u:Sl w E b c' ys W) :
  AR prog 64 #[S A n c,S E b c'] w (A0b w (AC (AU (xs=ys)))):=by
 have af:n<=BG:=BM h.2.1 h.2.2.1;have ag:b<=BG:=BM u.2.1 u.2.2.1;have G:Hid (xs.length=n):=h.1;have H:Hid (ys.length=b):=u.1;unfold BG at af ag;have ad:Hid (Sl w A n c xs bs):=h;have ae:Hid (Sl w E b c' ys W):=u;clear h u;by_cases Z:n=b
 ·subst Z
  go_enter func64,ntmps64;go_wp2;go_loopw [5,13] (λ_ i wr=>∃ k:Nat,k<=n/\i=N .i64 k/\Hid (xs.take k=ys.take k)/\∃ m,wr=w.drewN m) (λ_ i wr=>n - (intOf i).toNat);case atStart=>exact⟨0,DV _,rfl,rfl,0,rfl⟩
  case round =>
   obtain⟨k,ap,rfl,aa,m,rfl⟩:=hrel;by_cases Y:k<n
   ·obtain⟨ah,aq,x,rfl,aj,ab,_,al⟩:=DB ad Y
    obtain⟨ai,ar,y,rfl,ak,ac,_,am⟩:=DB ae Y;have O:Hid (xs[k]?=B x):=ab;have T:Hid (ys[k]?=B y):=ac;clear ab ac;have an:(0:Int)<=k:=oS;have ao:(k:Int)<n:=oS;by_cases D:x=y
    ·have X:(x != y)=AF:=by simp[D]
     go_wp2;go_quiet (fail);go_wp2;go_roundw;case rel=>exact⟨k+1,oS,by go_num,B0r O.o T.o aa D,_,rfl⟩
     case measure=>simp[intOf];omega
    have X:(x != y)=AD:=by simp[D]
    go_wp2;go_quiet (fail);go_wp2;go_ret;exact⟨Q_ (by simp[D9g O.o T.o D]),⟨rfl,rfl,rfl,BH _,λ_ _=>rfl⟩⟩
   go_wp2;go_ret;exact⟨Q_ (by simp[B2g G.o H.o oS aa.o]),⟨rfl,rfl,rfl,BH _,λ_ _=>rfl⟩⟩
 have X:((n:Int) != b)=AD:=oR;go_enter func64,ntmps64;go_wp2;go_ret;exact⟨Q_ (by have:xs≠ys:=λe=>Z (by rw[<-G.o,<-H.o,e]);simp[this]),CG _ _⟩
attribute [local go_sem] L_ opAt N_ M_ Region.wanted yielded
attribute [local simp] N_ M_ MP.eq A0r


end Go.Proofs.YtbkilakncnlebaaGreatDoor.X

namespace Go.XB
open Go.RowKit Go.ChangeShapes Go.WideShapes Go.Deep

def Opens (P:Program) (t:BS) (α:Type) [Dat α]:Prop :=
 ∀ {H:Type} (enc:BS×AJ->H) (w:J) (fuel:Nat) (cs:List AJ) (y:DataW H×List MemPlace),DataW.trod enc P w 0 (λ_=>AD) AD fuel t cs=B y->∃ (x:α) (bs:List Nat),Dat.at_ w cs x bs

section
variable {P:Program} {t e:BS}

theorem D6f {α:Type} (p:Nat->α->List Nat->Prop):∀ n,(∀ i,i<n->∃ x fs,p i x fs)->∃ (xs:List α) (fss:List (List Nat)),xs.length=n/\fss.length=n/\∀ i x fs,xs[i]?=B x->fss[i]?=B fs->p i x fs
 |0,_=>⟨[],[],rfl,rfl,λi x fs h=>by simp at h⟩
 |n+1,h=>by
  obtain⟨xs,fss,h1,h2,h3⟩:=D6f p n λi hi=>h i oS
  obtain⟨x,fs,hp⟩:=h n oS
  refine⟨xs++[x],fss++[fs],by simp[h1],by simp[h2],λi y gs hy hg=>?_⟩
  by_cases hi:i<n
  ·rw[List.getElem?_append_left oS]at hy hg
   exact h3 i y gs hy hg
  have hin:i=n:=by have:=(CQ.1 hy).1;simp at this;omega
  subst hin
  rw[JO oS,h1]at hy
  rw[JO oS,h2]at hg
  simp at hy hg
  subst hy;subst hg
  exact hp

theorem Opens.slice {α:Type} [Dat α] (Y:P.underlying t=B (.slice e)) (G:P.cellsOf e=Dat.sz α) (W:Opens P e α):Opens P t (List α):=λenc w fuel cs y h=>by
 rcases open_slice Y h with⟨rfl,_⟩|⟨a,len,cap,m,n,DD,Pl,rfl,_,hl,hm,hmm,_,hi⟩
 ·exact⟨[],[],none,0,0,rfl,Sl.nil w⟩
 have hlm:len<=m:=by rw[hmm];simpa using hl
 rcases Nat.eq_zero_or_pos len with h0|h0
 ·subst h0
  exact⟨[],[],_,0,cap,rfl,rfl,hl,hm,λ_=>rfl,λh=>absurd h oS⟩
 obtain⟨xs,fss,h1,h2,h3⟩:=D6f (α:=α) (λi x fs=>∃ cs',w.cells? 0 (a.add (i*Dat.sz α)) (Dat.sz α)=B cs'/\Dat.at_ w cs' x fs) len λi hil=>by
  obtain⟨cs',hcs,ht'⟩:=hi i oS
  rw[G]at hcs
  obtain⟨x,fs,ha⟩:=W enc w _ _ _ ht'
  exact⟨x,fs,cs',hcs,ha⟩
 have hpos:0<Dat.sz α:=Dat.pos
 obtain⟨cs0,hcs0,_⟩:=h3 0 _ _ (CV oS) (CV oS)
 obtain⟨_,hl0,hat0⟩:=J.cells?_some hcs0
 have hc0:=hat0 (i:=0) oS
 rw[Nat.zero_mul]at hc0
 have hspot:a.spot=none:=by
  have b:w.cell? ((a.add 0).add 0)=B (cs0[0]'oS):=by rw[hc0];exact CV oS
  simp only[AH.add,if_true]at b
  unfold J.cell? at b
  split at b
  ·split at b
   ·cases b
   rename_i X;simpa using X
  cases b
 have E:a.block<w.1.size:=by
  have b:w.cell? ((a.add 0).add 0)=B (cs0[0]'oS):=by rw[hc0];exact CV oS
  have:=block_lt_of_cell b
  simpa[E1b]using this
 refine⟨xs,a.block::fss.flatten,_,len,cap,rfl,h1,hl,hm,λh=>absurd h oS,λ_=>⟨a.block,a.off,fss,?_,rfl,by rw[h1,h2],E,λk x fs Z H=>?_⟩⟩
 ·cases a;simp only at hspot;subst hspot;rfl
 obtain⟨cs',hcs,ha⟩:=h3 k x fs Z H
 obtain⟨_,T,D⟩:=J.cells?_some hcs
 refine⟨cs',λj ac u=>?_,ha⟩
 have O:j<Dat.sz α:=by rw[<-T];exact(CQ.1 u).1
 have:=D (i:=j) O
 rw[u]at this
 rw[<-this]
 congr 1
 cases a
 simp only at hspot
 subst hspot
 unfold AH.add
 by_cases aa:k*Dat.sz α=0<;>by_cases ab:j=0<;>simp[aa,ab,Nat.add_assoc]

theorem Opens.sl {α:Type} [Dat α] (G:Opens P t (List α)) (O:P.underlying t=B (.slice e)) {b:Type} {enc:BS×AJ->b} {w:J} {r:Reach} {D:Nat} {v:AJ} {d:DataW b} {p:List MemPlace}
  (T:AJ.okWide P w r D t v) (h:DataW.Trod enc P w 0 (λ_=>AD) AD t v d p):∃ (A:Option AH) (n c:Nat) (xs:List α) (bs:List Nat),v=S A n c/\Sl w A n c xs bs:=by
 obtain⟨A,n,c,rfl⟩:=okWide_slice O T;obtain⟨X,E⟩:=h;obtain⟨xs,bs,W,Y,c',u,H⟩:=G enc w _ _ _ E;simp[Value.cells]at u;obtain⟨rfl,rfl,rfl⟩:=u;exact⟨_,_,_,xs,bs,rfl,H⟩
end
end Go.XB

namespace Go.Proofs.YtbkilakncnlebaaGreatDoor.X
open Go.XB Proofs.Tryz

section
open Go.RowKit
attribute [local go_sem] L_ opAt N_ M_ Region.wanted yielded
attribute [local simp] N_ M_ MP.eq A0r
theorem E4j {x y:TRat} (a:x.1.1=y.1.1) (b:x.1.2=y.1.2) (c:x.2=y.2):x=y:=by
 obtain⟨⟨_,_⟩,_⟩:=x;obtain⟨⟨_,_⟩,_⟩:=y;simp only at a b c;rw[a,b,c]
theorem D7e {x y:TPoint} (a:x.x=y.x) (b:x.y=y.y):x=y:=by
 obtain⟨_,_⟩:=x;obtain⟨_,_⟩:=y;simp only at a b;rw[a,b]
theorem F3s {x y:TReport} (a:x.triangles=y.triangles) (b:x.energy=y.energy) (c:x.bound=y.bound):x=y:=by
 obtain⟨_,_,_⟩:=x;obtain⟨_,_,_⟩:=y;simp only at a b c;rw[a,b,c]
theorem A2s (v ac:AJ) (x y:TRat) (bs ag:List Nat) (w:J) (Y:Agg w v x bs) (Z:Agg w ac y ag):AR prog 29 #[v,ac] w (A0b w (AC (AU (x=y)))):=by
 obtain⟨ap,aA,aw,aE,aq,aB,ax,aF,rfl,rfl,ad,ae⟩:=BK Y;obtain⟨ar,aC,ay,aG,au,aD,az,aH,rfl,rfl,v1,v2⟩:=BK Z;have G:=A_ ad;have E:=A_ v1;have T:=A_ ae;have O:=A_ v2;clear Y Z ad v1 ae v2;by_cases h:x.1.1=y.1.1;rotate_left
 ·have ah:(x.1.1==y.1.1)=AF:=by simp[h]
  have Q:=A_ h;clear h;go_enter func29,ntmps29;go_wp2;go_ret;exact⟨Q_ (by have:x≠y:=λe=>Q.o (by rw[e]);simp[this]),Below.go⟩
 have ah:(x.1.1==y.1.1)=AD:=by simp[h]
 have af:=A_ h;clear h;by_cases q1:x.1.2=y.1.2;rotate_left
 ·have ai:AU (x.1.2=y.1.2)=AF:=by simp[q1]
  have Q:=A_ q1;clear q1;go_enter func29,ntmps29;go_wp2_with fail;refine(A2x _ _ _ _ _ _ x.1.2 y.1.2 _ _ _ (AQ G Below.go) (AQ E Below.go)).mono ?_;rintro e u1 ⟨rfl,b⟩;obtain⟨W,X⟩:=F_ b;have D:w.1.size<u1.1.size/\w.1.size+1<u1.1.size:=by have:=b.size;(try simp at this);omega
  obtain⟨aa,ab⟩:=D;go_wp2;go_ret;exact⟨Q_ (by have:x≠y:=λe=>Q.o (by rw[e]);simp[this]),Below.go⟩
 have ai:AU (x.1.2=y.1.2)=AD:=by simp[q1]
 have Q1:=A_ q1;clear q1;by_cases q2:x.2=y.2;rotate_left
 ·have aj:AU (x.2=y.2)=AF:=by simp[q2]
  have Q:=A_ q2;clear q2;go_enter func29,ntmps29;go_wp2_with fail;refine(A2x _ _ _ _ _ _ x.1.2 y.1.2 _ _ _ (AQ G Below.go) (AQ E Below.go)).mono ?_;rintro e u1 ⟨rfl,b⟩;obtain⟨W,X⟩:=F_ b;have D:w.1.size<u1.1.size/\w.1.size+1<u1.1.size:=by have:=b.size;(try simp at this);omega
  obtain⟨aa,ab⟩:=D;go_wp2_with fail;refine(A2x _ _ _ _ _ _ x.2 y.2 _ _ _ (AQ T Below.go) (AQ O Below.go)).mono ?_;rintro e u2 ⟨rfl,u⟩;obtain⟨ak,am⟩:=F_ u;have H:w.1.size<u2.1.size/\w.1.size+1<u2.1.size:=by have:=u.size;(try simp at this);omega
  obtain⟨an,ao⟩:=H;go_wp2;go_ret;exact⟨Q_ (by have:x≠y:=λe=>Q.o (by rw[e]);simp[this]),Below.go⟩
 have aj:AU (x.2=y.2)=AD:=by simp[q2]
 have Q2:=A_ q2;clear q2;go_enter func29,ntmps29;go_wp2_with fail;refine(A2x _ _ _ _ _ _ x.1.2 y.1.2 _ _ _ (AQ G Below.go) (AQ E Below.go)).mono ?_;rintro e u1 ⟨rfl,b⟩;obtain⟨W,X⟩:=F_ b;have D:w.1.size<u1.1.size/\w.1.size+1<u1.1.size:=by have:=b.size;(try simp at this);omega
 obtain⟨aa,ab⟩:=D;go_wp2_with fail;refine(A2x _ _ _ _ _ _ x.2 y.2 _ _ _ (AQ T Below.go) (AQ O Below.go)).mono ?_;rintro e u2 ⟨rfl,u⟩;obtain⟨ak,am⟩:=F_ u;have H:w.1.size<u2.1.size/\w.1.size+1<u2.1.size:=by have:=u.size;(try simp at this);omega
 obtain⟨an,ao⟩:=H;go_wp2;go_ret;have al:x=y:=@E4j x y af Q1 Q2;exact⟨Q_ (by simp[al]),Below.go⟩
theorem B1e (v ag:AJ) (x y:TPoint) (bs ao:List Nat) (w:J) (ac:Agg w v x bs) (ad:Agg w ag y ao):AR prog 70 #[v,ag] w (A0b w (AC (AU (x=y)))):=by
 obtain⟨az,aP,aH,aX,aA,aQ,aI,aY,aB,aR,aJ,aZ,aC,aS,aK,a1,rfl,rfl,aj,ak,al,am⟩:=TPoint.agg ac;obtain⟨aD,aT,aL,a2,aE,aU,aM,a3,aF,aV,aN,a4,aG,aW,aO,a5,rfl,rfl,v1,v2,ah,ai⟩:=TPoint.agg ad;have H:=A_ aj;have E:=A_ v1;have O:=A_ ak;have G:=A_ v2;have Y:=A_ al;have W:=A_ ah;have Z:=A_ am;have X:=A_ ai;clear ac ad aj v1 ak v2 al ah am ai;by_cases h:x.x=y.x;rotate_left
 ·have ap:AU (x.x=y.x)=AF:=by simp[h]
  have Q:=A_ h;clear h;go_enter func70,ntmps70;go_wp2_with fail;refine(A2s _ _ x.x y.x _ _ _ (CU (AQ H Below.go) (AQ O Below.go)) (CU (AQ E Below.go) (AQ G Below.go))).mono ?_;rintro e u0 ⟨rfl,b⟩;obtain⟨aa,ab⟩:=F_ b;have D:w.1.size<u0.1.size/\w.1.size+1<u0.1.size:=by have:=b.size;(try simp at this);omega
  obtain⟨ae,af⟩:=D;go_wp2;go_ret;exact⟨Q_ (by have:x≠y:=λe=>Q.o (by rw[e]);simp[this]),Below.go⟩
 have ap:AU (x.x=y.x)=AD:=by simp[h]
 have an:=A_ h;clear h;by_cases q1:x.y=y.y;rotate_left
 ·have aq:AU (x.y=y.y)=AF:=by simp[q1]
  have Q:=A_ q1;clear q1;go_enter func70,ntmps70;go_wp2_with fail;refine(A2s _ _ x.x y.x _ _ _ (CU (AQ H Below.go) (AQ O Below.go)) (CU (AQ E Below.go) (AQ G Below.go))).mono ?_;rintro e u0 ⟨rfl,b⟩;obtain⟨aa,ab⟩:=F_ b;have D:w.1.size<u0.1.size/\w.1.size+1<u0.1.size:=by have:=b.size;(try simp at this);omega
  obtain⟨ae,af⟩:=D;go_wp2_with fail;refine(A2s _ _ x.y y.y _ _ _ (CU (AQ Y Below.go) (AQ Z Below.go)) (CU (AQ W Below.go) (AQ X Below.go))).mono ?_;rintro e u1 ⟨rfl,u⟩;obtain⟨ar,aw⟩:=F_ u;have T:w.1.size<u1.1.size/\w.1.size+1<u1.1.size:=by have:=u.size;(try simp at this);omega
  obtain⟨ax,ay⟩:=T;go_wp2;go_ret;exact⟨Q_ (by have:x≠y:=λe=>Q.o (by rw[e]);simp[this]),Below.go⟩
 have aq:AU (x.y=y.y)=AD:=by simp[q1]
 have Q1:=A_ q1;clear q1;go_enter func70,ntmps70;go_wp2_with fail;refine(A2s _ _ x.x y.x _ _ _ (CU (AQ H Below.go) (AQ O Below.go)) (CU (AQ E Below.go) (AQ G Below.go))).mono ?_;rintro e u0 ⟨rfl,b⟩;obtain⟨aa,ab⟩:=F_ b;have D:w.1.size<u0.1.size/\w.1.size+1<u0.1.size:=by have:=b.size;(try simp at this);omega
 obtain⟨ae,af⟩:=D;go_wp2_with fail;refine(A2s _ _ x.y y.y _ _ _ (CU (AQ Y Below.go) (AQ Z Below.go)) (CU (AQ W Below.go) (AQ X Below.go))).mono ?_;rintro e u1 ⟨rfl,u⟩;obtain⟨ar,aw⟩:=F_ u;have T:w.1.size<u1.1.size/\w.1.size+1<u1.1.size:=by have:=u.size;(try simp at this);omega
 obtain⟨ax,ay⟩:=T;go_wp2;go_ret;have au:x=y:=@D7e x y an Q1;exact⟨Q_ (by simp[au]),Below.go⟩
theorem C2f (v ag:AJ) (x y:TReport) (bs ap:List Nat) (w:J) (ac:Agg w v x bs) (ad:Agg w ag y ap):AR prog 31 #[v,ag] w (A0b w (AC (AU (x=y)))):=by
 obtain⟨aB,aT,aL,a2,aC,aU,aM,a3,aD,aV,aN,a4,aE,aW,aO,a5,rfl,rfl,w0,al,w3,am,an⟩:=TReport.agg ac;obtain⟨aF,aX,aP,a6,aG,aY,aQ,a7,aH,aZ,aR,a8,aI,a1,aS,a9,rfl,rfl,ah,v2,ai,aj,ak⟩:=TReport.agg ad;have aK:=A_ w0;have aJ:=A_ ah;have H:=A_ al;have E:=A_ v2;have O:=A_ w3;have G:=A_ ai;have Y:=A_ am;have W:=A_ aj;have Z:=A_ an;have X:=A_ ak;clear ac ad w0 ah al v2 w3 ai am aj an ak;by_cases h:x.triangles=y.triangles;rotate_left
 ·have aq:(x.triangles==y.triangles)=AF:=by simp[h]
  have Q:=A_ h;clear h;go_enter func31,ntmps31;go_wp2;go_ret;exact⟨Q_ (by have:x≠y:=λe=>Q.o (by rw[e]);simp[this]),Below.go⟩
 have aq:(x.triangles==y.triangles)=AD:=by simp[h]
 have ao:=A_ h;clear h;by_cases q1:x.energy=y.energy;rotate_left
 ·have ar:AU (x.energy=y.energy)=AF:=by simp[q1]
  have Q:=A_ q1;clear q1;go_enter func31,ntmps31;go_wp2_with fail;refine(A2s _ _ x.energy y.energy _ _ _ (CU (AQ H Below.go) (AQ O Below.go)) (CU (AQ E Below.go) (AQ G Below.go))).mono ?_;rintro e u1 ⟨rfl,b⟩;obtain⟨aa,ab⟩:=F_ b;have D:w.1.size<u1.1.size/\w.1.size+1<u1.1.size:=by have:=b.size;(try simp at this);omega
  obtain⟨ae,af⟩:=D;go_wp2;go_ret;exact⟨Q_ (by have:x≠y:=λe=>Q.o (by rw[e]);simp[this]),Below.go⟩
 have ar:AU (x.energy=y.energy)=AD:=by simp[q1]
 have Q1:=A_ q1;clear q1;by_cases q2:x.bound=y.bound;rotate_left
 ·have au:AU (x.bound=y.bound)=AF:=by simp[q2]
  have Q:=A_ q2;clear q2;go_enter func31,ntmps31;go_wp2_with fail;refine(A2s _ _ x.energy y.energy _ _ _ (CU (AQ H Below.go) (AQ O Below.go)) (CU (AQ E Below.go) (AQ G Below.go))).mono ?_;rintro e u1 ⟨rfl,b⟩;obtain⟨aa,ab⟩:=F_ b;have D:w.1.size<u1.1.size/\w.1.size+1<u1.1.size:=by have:=b.size;(try simp at this);omega
  obtain⟨ae,af⟩:=D;go_wp2_with fail;refine(A2s _ _ x.bound y.bound _ _ _ (CU (AQ Y Below.go) (AQ Z Below.go)) (CU (AQ W Below.go) (AQ X Below.go))).mono ?_;rintro e u2 ⟨rfl,u⟩;obtain⟨aw,ay⟩:=F_ u;have T:w.1.size<u2.1.size/\w.1.size+1<u2.1.size:=by have:=u.size;(try simp at this);omega
  obtain⟨az,aA⟩:=T;go_wp2;go_ret;exact⟨Q_ (by have:x≠y:=λe=>Q.o (by rw[e]);simp[this]),Below.go⟩
 have au:AU (x.bound=y.bound)=AD:=by simp[q2]
 have Q2:=A_ q2;clear q2;go_enter func31,ntmps31;go_wp2_with fail;refine(A2s _ _ x.energy y.energy _ _ _ (CU (AQ H Below.go) (AQ O Below.go)) (CU (AQ E Below.go) (AQ G Below.go))).mono ?_;rintro e u1 ⟨rfl,b⟩;obtain⟨aa,ab⟩:=F_ b;have D:w.1.size<u1.1.size/\w.1.size+1<u1.1.size:=by have:=b.size;(try simp at this);omega
 obtain⟨ae,af⟩:=D;go_wp2_with fail;refine(A2s _ _ x.bound y.bound _ _ _ (CU (AQ Y Below.go) (AQ Z Below.go)) (CU (AQ W Below.go) (AQ X Below.go))).mono ?_;rintro e u2 ⟨rfl,u⟩;obtain⟨aw,ay⟩:=F_ u;have T:w.1.size<u2.1.size/\w.1.size+1<u2.1.size:=by have:=u.size;(try simp at this);omega
 obtain⟨az,aA⟩:=T;go_wp2;go_ret;have ax:x=y:=@F3s x y ao Q1 Q2;exact⟨Q_ (by simp[ax]),Below.go⟩

theorem E6r (x y:TTri):AU (x=y)=(AU (x.a=y.a)&&(AU (x.b=y.b)&&(AU (x.c=y.c)&&(AU (x.4=y.4)&&AU (x.5=y.5))))):=by
 obtain⟨a,h,c,d,e⟩:=x;obtain⟨b,u,c',D,E⟩:=y;simp

theorem A8n (A H:Option AH) (n D c c':Nat) (xs ys:List TReport) (bs an:List Nat) (w:J) (h:Sl w A n c xs bs) (u:Sl w H D c' ys an) :
  AR prog 30 #[S A n c,S H D c',.func (.func 31) #[] #[]] w (A0b w (AC (AU (xs=ys)))):=by
 have aq:n<=BG:=BM h.2.1 h.2.2.1;have ar:D<=BG:=BM u.2.1 u.2.2.1;have O:=A_ h.1;have T:=A_ u.1;unfold BG at aq ar;have al:=A_ h;have am:=A_ u;clear h u;by_cases ae:n=D
 ·subst ae
  go_enter func30,ntmps30;go_wp2;go_loopw [17] (λi wr=>∃ k:Nat,k<=n/\i=N .i64 k/\Hid (xs.take k=ys.take k)/\Bw w wr) (λi wr=>n - (intOf i).toNat);case atStart=>exact⟨0,DV _,rfl,rfl,CG _ _⟩
  case round =>
   obtain⟨k,bo,rfl,af,E⟩:=hrel;by_cases G:k<n
   ·have ag:k+1<=n:=oS
    obtain⟨az,aQ,x,au,aM,aA,aR,aw,aN,aB,aS,ax,aO,aC,aT,ay,aP,aD,aU,rfl,aL,Z,aE,aF,aG,aH,aI,aJ,aK,Y⟩:=TReport.elemA (AQ al E) G;have X:=A_ Z;have W:=A_ Y;clear Z Y;obtain⟨aZ,bi,y,aV,be,a1,bj,aW,bf,a2,bl,aX,bg,a3,bm,aY,bh,a4,bn,rfl,bd,ad,a5,a6,a7,a8,a9,ba,bc,ac⟩:=TReport.elemA (AQ am E) G;have ab:=A_ ad;have aa:=A_ ac;clear ad ac;by_cases b:x=y
    ·have ao:AU (x=y)=AD:=by simp[b]
     have ah:=A_ (B0r X ab af b);clear b;go_wp2_with fail;refine(C2f _ _ x y _ _ _ (DT W Below.go) (DT aa Below.go)).mono ?_;rintro e aj ⟨rfl,ap⟩;have ai:Bw w aj:=Below.go;go_wp2;first
     |exact⟨⟨k+1,ag,B3m k,ah,ai⟩,V_ G⟩
     |exact⟨by(repeat apply EI);exact⟨⟨k+1,ag,B3m k,ah,ai⟩,rfl⟩,V_ G⟩
    have ao:AU (x=y)=AF:=by simp[b]
    have ak:=A_ (D9g X ab b);clear b;go_wp2_with fail;refine(C2f _ _ x y _ _ _ (DT W Below.go) (DT aa Below.go)).mono ?_;rintro e aj ⟨rfl,ap⟩;go_wp2;go_ret;exact⟨Q_ (by simp[ak.o]),Below.go⟩
   go_wp2;go_ret;exact⟨Q_ (by simp[B2g O.o T.o oS af.o]),E⟩
 have E:((n:Int) != D)=AD:=oR;go_enter func30,ntmps30;go_wp2;go_ret;exact⟨Q_ (by have:xs≠ys:=λe=>ae (by rw[<-O.o,<-T.o,e]);simp[this]),CG _ _⟩
theorem A0o (A H:Option AH) (n D c c':Nat) (xs ys:List TPoint) (bs an:List Nat) (w:J) (h:Sl w A n c xs bs) (u:Sl w H D c' ys an) :
  AR prog 69 #[S A n c,S H D c',.func (.func 70) #[] #[]] w (A0b w (AC (AU (xs=ys)))):=by
 have aq:n<=BG:=BM h.2.1 h.2.2.1;have ar:D<=BG:=BM u.2.1 u.2.2.1;have O:=A_ h.1;have T:=A_ u.1;unfold BG at aq ar;have al:=A_ h;have am:=A_ u;clear h u;by_cases ae:n=D
 ·subst ae
  go_enter func69,ntmps69;go_wp2;go_loopw [17] (λi wr=>∃ k:Nat,k<=n/\i=N .i64 k/\Hid (xs.take k=ys.take k)/\Bw w wr) (λi wr=>n - (intOf i).toNat);case atStart=>exact⟨0,DV _,rfl,rfl,CG _ _⟩
  case round =>
   obtain⟨k,bm,rfl,af,E⟩:=hrel;by_cases G:k<n
   ·have ag:k+1<=n:=oS
    obtain⟨az,aP,x,au,aL,aA,aQ,aw,aM,aB,aR,ax,aN,aC,aS,ay,aO,aD,aT,rfl,aK,Z,aE,aF,aG,aH,aI,aJ,Y⟩:=TPoint.elemA (AQ al E) G;have X:=A_ Z;have W:=A_ Y;clear Z Y;obtain⟨aY,bg,y,aU,bc,aZ,bh,aV,bd,a1,bi,aW,be,a2,bj,aX,bf,a3,bl,rfl,ba,ad,a4,a5,a6,a7,a8,a9,ac⟩:=TPoint.elemA (AQ am E) G;have ab:=A_ ad;have aa:=A_ ac;clear ad ac;by_cases b:x=y
    ·have ao:AU (x=y)=AD:=by simp[b]
     have ah:=A_ (B0r X ab af b);clear b;go_wp2_with fail;refine(B1e _ _ x y _ _ _ (DT W Below.go) (DT aa Below.go)).mono ?_;rintro e aj ⟨rfl,ap⟩;have ai:Bw w aj:=Below.go;go_wp2;first
     |exact⟨⟨k+1,ag,B3m k,ah,ai⟩,V_ G⟩
     |exact⟨by(repeat apply EI);exact⟨⟨k+1,ag,B3m k,ah,ai⟩,rfl⟩,V_ G⟩
    have ao:AU (x=y)=AF:=by simp[b]
    have ak:=A_ (D9g X ab b);clear b;go_wp2_with fail;refine(B1e _ _ x y _ _ _ (DT W Below.go) (DT aa Below.go)).mono ?_;rintro e aj ⟨rfl,ap⟩;go_wp2;go_ret;exact⟨Q_ (by simp[ak.o]),Below.go⟩
   go_wp2;go_ret;exact⟨Q_ (by simp[B2g O.o T.o oS af.o]),E⟩
 have E:((n:Int) != D)=AD:=oR;go_enter func69,ntmps69;go_wp2;go_ret;exact⟨Q_ (by have:xs≠ys:=λe=>ae (by rw[<-O.o,<-T.o,e]);simp[this]),CG _ _⟩
theorem A3i (A H:Option AH) (n D c c':Nat) (xs ys:List TRat) (bs an:List Nat) (w:J) (h:Sl w A n c xs bs) (u:Sl w H D c' ys an) :
  AR prog 72 #[S A n c,S H D c',.func (.func 29) #[] #[]] w (A0b w (AC (AU (xs=ys)))):=by
 have aq:n<=BG:=BM h.2.1 h.2.2.1;have ar:D<=BG:=BM u.2.1 u.2.2.1;have O:=A_ h.1;have T:=A_ u.1;unfold BG at aq ar;have al:=A_ h;have am:=A_ u;clear h u;by_cases ae:n=D
 ·subst ae
  go_enter func72,ntmps72;go_wp2;go_loopw [17] (λi wr=>∃ k:Nat,k<=n/\i=N .i64 k/\Hid (xs.take k=ys.take k)/\Bw w wr) (λi wr=>n - (intOf i).toNat);case atStart=>exact⟨0,DV _,rfl,rfl,CG _ _⟩
  case round =>
   obtain⟨k,aX,rfl,af,E⟩:=hrel;by_cases G:k<n
   ·have ag:k+1<=n:=oS
    obtain⟨ax,aG,x,au,aE,ay,aH,aw,aF,az,aI,rfl,aD,Z,aA,aB,aC,Y⟩:=TRat.elemA (AQ al E) G;have X:=A_ Z;have W:=A_ Y;clear Z Y;obtain⟨aL,aU,y,aJ,aS,aM,aV,aK,aT,aN,aW,rfl,aR,ad,aO,aP,aQ,ac⟩:=TRat.elemA (AQ am E) G;have ab:=A_ ad;have aa:=A_ ac;clear ad ac;by_cases b:x=y
    ·have ao:AU (x=y)=AD:=by simp[b]
     have ah:=A_ (B0r X ab af b);clear b;go_wp2_with fail;refine(A2s _ _ x y _ _ _ (DT W Below.go) (DT aa Below.go)).mono ?_;rintro e aj ⟨rfl,ap⟩;have ai:Bw w aj:=Below.go;go_wp2;first
     |exact⟨⟨k+1,ag,B3m k,ah,ai⟩,V_ G⟩
     |exact⟨by(repeat apply EI);exact⟨⟨k+1,ag,B3m k,ah,ai⟩,rfl⟩,V_ G⟩
    have ao:AU (x=y)=AF:=by simp[b]
    have ak:=A_ (D9g X ab b);clear b;go_wp2_with fail;refine(A2s _ _ x y _ _ _ (DT W Below.go) (DT aa Below.go)).mono ?_;rintro e aj ⟨rfl,ap⟩;go_wp2;go_ret;exact⟨Q_ (by simp[ak.o]),Below.go⟩
   go_wp2;go_ret;exact⟨Q_ (by simp[B2g O.o T.o oS af.o]),E⟩
 have E:((n:Int) != D)=AD:=oR;go_enter func72,ntmps72;go_wp2;go_ret;exact⟨Q_ (by have:xs≠ys:=λe=>ae (by rw[<-O.o,<-T.o,e]);simp[this]),CG _ _⟩

theorem A4w (A T:Option AH) (n E c c':Nat) (xs ys:List TTri) (bs an:List Nat) (w:J) (u:Sl w A n c xs bs) (D:Sl w T E c' ys an) :
  AR prog 71 #[S A n c,S T E c'] w (A0b w (AC (AU (xs=ys)))):=by
 have aq:n<=BG:=BM u.2.1 u.2.2.1;have ar:E<=BG:=BM D.2.1 D.2.2.1;have W:=A_ u.1;have X:=A_ D.1;unfold BG at aq ar;have al:=A_ u;have am:=A_ D;clear u D;by_cases ae:n=E
 ·subst ae
  go_enter func71,ntmps71;go_wp2;go_loopw [13] (λi wr=>∃ k:Nat,k<=n/\i=N .i64 k/\Hid (xs.take k=ys.take k)/\Bw w wr) (λi wr=>n - (intOf i).toNat);case atStart=>exact⟨0,DV _,rfl,rfl,CG _ _⟩
  case round =>
   obtain⟨k,aT,rfl,af,b⟩:=hrel;by_cases H:k<n
   ·have ag:k+1<=n:=oS
    obtain⟨ay,aF,x,rfl,aE,aa,az,aA,aB,aC,aD,Z⟩:=TTri.elemA (AQ al b) H;have Y:=A_ aa;have ax:=A_ Z;clear aa Z;obtain⟨aH,aO,y,rfl,aN,ad,aI,aJ,aK,aL,aM,ac⟩:=TTri.elemA (AQ am b) H;have ab:=A_ ad;have aG:=A_ ac;clear ad ac;have aR:(0:Int)<=k:=oS;have aS:(k:Int)<n:=oS;go_wp2;refine A0g ?_;iterate 8 refine C_ _ ?_
    refine A2b (AC (!decide (x=y))) ?_ ?_;·intro au aw aj G O;obtain⟨aP,aQ⟩:=F_ G;simp at O;refine⟨gD,?_⟩;go_simp;(rw[E6r x y];(repeat' split)<;>simp_all)
    intro au aw aj G O ap;clear ap;simp at O;by_cases h:x=y
    ·have ao:AU (x=y)=AD:=by simp[h]
     have ah:=A_ (B0r Y ab af h);have ai:Bw w aj:=Below.next b G;clear h;go_simp;go_wp2;first
     |exact⟨⟨k+1,ag,B3m k,ah,ai⟩,V_ H⟩
     |exact⟨by(repeat apply EI);exact⟨⟨k+1,ag,B3m k,ah,ai⟩,rfl⟩,V_ H⟩
    have ao:AU (x=y)=AF:=by simp[h]
    have ak:=A_ (D9g Y ab h);clear h;go_simp;go_wp2;go_ret;exact⟨Q_ (by simp[ak.o]),Below.next b G⟩
   go_wp2;go_ret;exact⟨Q_ (by simp[B2g W.o X.o oS af.o]),b⟩
 have b:((n:Int) != E)=AD:=oR;go_enter func71,ntmps71;go_wp2;go_ret;exact⟨Q_ (by have:xs≠ys:=λe=>ae (by rw[<-W.o,<-X.o,e]);simp[this]),CG _ _⟩

theorem E1a {x y:TMesh} (a:x.1=y.1) (b:x.triangles=y.triangles):x=y:=by
 obtain⟨_,_⟩:=x;obtain⟨_,_⟩:=y;simp only at a b;rw[a,b]
end
section
open Go.RowKit
theorem D2o {x y:TProblem} (a:x.1=y.1) (b:x.2=y.2) (c:x.3=y.3):x=y:=by
 obtain⟨_,_,_⟩:=x;obtain⟨_,_,_⟩:=y;simp only at a b c;rw[a,b,c]
theorem F4z {x y:TState} (a:x.problem=y.problem) (b:x.part=y.part) (c:x.reports=y.reports):x=y:=by
 obtain⟨_,_,_⟩:=x;obtain⟨_,_,_⟩:=y;simp only at a b c;rw[a,b,c]
theorem A5j (A b:Option AH) (n D c c':Nat) (xs ys:List TRat) (bs H:List Nat) (w:J) (h:Sl w A n c xs bs) (u:Sl w b D c' ys H) :
  AR prog 38 #[S A n c,S b D c'] w (A0b w (AC (AU (xs=ys)))):=by
 have E:=A_ h;have G:=A_ u;clear h u;go_enter func38,ntmps38;go_wp2_with fail;refine(A3i _ _ _ _ _ _ xs ys _ _ _ E G).mono ?_;rintro e T ⟨rfl,O⟩;go_wp2;go_ret;exact⟨rfl,O⟩
theorem A7i (v ac:AJ) (x y:TMesh) (bs ag:List Nat) (w:J) (Y:Agg w v x bs) (Z:Agg w ac y ag):AR prog 37 #[v,ac] w (A0b w (AC (AU (x=y)))):=by
 obtain⟨ao,az,au,aD,ap,aA,aw,aE,rfl,rfl,w0,ae⟩:=TMesh.agg Y;obtain⟨aq,aB,ax,aF,ar,aC,ay,aG,rfl,rfl,ad,v1⟩:=TMesh.agg Z;have G:=A_ w0;have E:=A_ ad;have T:=A_ ae;have O:=A_ v1;clear Y Z w0 ad ae v1;by_cases h:x.1=y.1;rotate_left
 ·have ah:AU (x.1=y.1)=AF:=by simp[h]
  have Q:=A_ h;clear h;go_enter func37,ntmps37;go_wp2_with fail;refine(A0o _ _ _ _ _ _ x.1 y.1 _ _ _ (AQ G Below.go) (AQ E Below.go)).mono ?_;rintro e u0 ⟨rfl,b⟩;obtain⟨W,X⟩:=F_ b;have D:w.1.size<u0.1.size/\w.1.size+1<u0.1.size:=by have:=b.size;(try simp at this);omega
  obtain⟨aa,ab⟩:=D;go_wp2;go_ret;exact⟨Q_ (by have:x≠y:=λe=>Q.o (by rw[e]);simp[this]),Below.go⟩
 have ah:AU (x.1=y.1)=AD:=by simp[h]
 have af:=A_ h;clear h;by_cases q1:x.triangles=y.triangles;rotate_left
 ·have ai:AU (x.triangles=y.triangles)=AF:=by simp[q1]
  have Q:=A_ q1;clear q1;go_enter func37,ntmps37;go_wp2_with fail;refine(A0o _ _ _ _ _ _ x.1 y.1 _ _ _ (AQ G Below.go) (AQ E Below.go)).mono ?_;rintro e u0 ⟨rfl,b⟩;obtain⟨W,X⟩:=F_ b;have D:w.1.size<u0.1.size/\w.1.size+1<u0.1.size:=by have:=b.size;(try simp at this);omega
  obtain⟨aa,ab⟩:=D;go_wp2_with fail;refine(A4w _ _ _ _ _ _ x.triangles y.triangles _ _ _ (AQ T Below.go) (AQ O Below.go)).mono ?_;rintro e u1 ⟨rfl,u⟩;obtain⟨aj,al⟩:=F_ u;have H:w.1.size<u1.1.size/\w.1.size+1<u1.1.size:=by have:=u.size;(try simp at this);omega
  obtain⟨am,an⟩:=H;go_wp2;go_ret;exact⟨Q_ (by have:x≠y:=λe=>Q.o (by rw[e]);simp[this]),Below.go⟩
 have ai:AU (x.triangles=y.triangles)=AD:=by simp[q1]
 have Q1:=A_ q1;clear q1;go_enter func37,ntmps37;go_wp2_with fail;refine(A0o _ _ _ _ _ _ x.1 y.1 _ _ _ (AQ G Below.go) (AQ E Below.go)).mono ?_;rintro e u0 ⟨rfl,b⟩;obtain⟨W,X⟩:=F_ b;have D:w.1.size<u0.1.size/\w.1.size+1<u0.1.size:=by have:=b.size;(try simp at this);omega
 obtain⟨aa,ab⟩:=D;go_wp2_with fail;refine(A4w _ _ _ _ _ _ x.triangles y.triangles _ _ _ (AQ T Below.go) (AQ O Below.go)).mono ?_;rintro e u1 ⟨rfl,u⟩;obtain⟨aj,al⟩:=F_ u;have H:w.1.size<u1.1.size/\w.1.size+1<u1.1.size:=by have:=u.size;(try simp at this);omega
 obtain⟨am,an⟩:=H;go_wp2;go_ret;have ak:x=y:=@E1a x y af Q1;exact⟨Q_ (by simp[ak]),Below.go⟩
theorem C1p (v am:AJ) (x y:TProblem) (bs au:List Nat) (w:J) (ai:Agg w v x bs) (aj:Agg w am y au):AR prog 11 #[v,am] w (A0b w (AC (AU (x=y)))):=by
 obtain⟨aE,aU,aM,a3,aF,aV,aN,a4,aG,aW,aO,a5,aH,aX,aP,a6,rfl,rfl,w0,ap,aq,w3⟩:=FG ai;obtain⟨aI,aY,aQ,a7,aJ,aZ,aR,a8,aK,a1,aS,a9,aL,a2,aT,ba,rfl,rfl,an,v1,v2,ao⟩:=FG aj;have T:=A_ w0;have H:=A_ an;have W:=A_ ap;have O:=A_ v1;have Y:=A_ aq;have X:=A_ v2;have af:=A_ w3;have ae:=A_ ao;clear ai aj w0 an ap v1 aq v2 w3 ao;by_cases D:x.1=y.1;rotate_left
 ·have aw:AU (x.1=y.1)=AF:=by simp[D]
  have Q:=A_ D;clear D;go_enter func11,ntmps11;go_wp2_with fail;refine(A7i _ _ x.1 y.1 _ _ _ (GT (AQ T Below.go) (AQ W Below.go)) (GT (AQ H Below.go) (AQ O Below.go))).mono ?_;rintro e u0 ⟨rfl,b⟩;obtain⟨Z,aa⟩:=F_ b;have u:w.1.size<u0.1.size/\w.1.size+1<u0.1.size:=by have:=b.size;(try simp at this);omega
  obtain⟨ab,ac⟩:=u;go_wp2;go_ret;exact⟨Q_ (by have:x≠y:=λe=>Q.o (by rw[e]);simp[this]),Below.go⟩
 have aw:AU (x.1=y.1)=AD:=by simp[D]
 have ar:=A_ D;clear D;by_cases q1:x.2=y.2;rotate_left
 ·have ax:AU (x.2=y.2)=AF:=by simp[q1]
  have Q:=A_ q1;clear q1;go_enter func11,ntmps11;go_wp2_with fail;refine(A7i _ _ x.1 y.1 _ _ _ (GT (AQ T Below.go) (AQ W Below.go)) (GT (AQ H Below.go) (AQ O Below.go))).mono ?_;rintro e u0 ⟨rfl,b⟩;obtain⟨Z,aa⟩:=F_ b;have u:w.1.size<u0.1.size/\w.1.size+1<u0.1.size:=by have:=b.size;(try simp at this);omega
  obtain⟨ab,ac⟩:=u;go_wp2_with fail;refine(A5j _ _ _ _ _ _ x.2 y.2 _ _ _ (AQ Y Below.go) (AQ X Below.go)).mono ?_;rintro e u1 ⟨rfl,h⟩;obtain⟨ag,ah⟩:=F_ h;have G:w.1.size<u1.1.size/\w.1.size+1<u1.1.size:=by have:=h.size;(try simp at this);omega
  obtain⟨ak,al⟩:=G;go_wp2;go_ret;exact⟨Q_ (by have:x≠y:=λe=>Q.o (by rw[e]);simp[this]),Below.go⟩
 have ax:AU (x.2=y.2)=AD:=by simp[q1]
 have Q1:=A_ q1;clear q1;by_cases q2:x.3=y.3;rotate_left
 ·have ay:AU (x.3=y.3)=AF:=by simp[q2]
  have Q:=A_ q2;clear q2;go_enter func11,ntmps11;go_wp2_with fail;refine(A7i _ _ x.1 y.1 _ _ _ (GT (AQ T Below.go) (AQ W Below.go)) (GT (AQ H Below.go) (AQ O Below.go))).mono ?_;rintro e u0 ⟨rfl,b⟩;obtain⟨Z,aa⟩:=F_ b;have u:w.1.size<u0.1.size/\w.1.size+1<u0.1.size:=by have:=b.size;(try simp at this);omega
  obtain⟨ab,ac⟩:=u;go_wp2_with fail;refine(A5j _ _ _ _ _ _ x.2 y.2 _ _ _ (AQ Y Below.go) (AQ X Below.go)).mono ?_;rintro e u1 ⟨rfl,h⟩;obtain⟨ag,ah⟩:=F_ h;have G:w.1.size<u1.1.size/\w.1.size+1<u1.1.size:=by have:=h.size;(try simp at this);omega
  obtain⟨ak,al⟩:=G;go_wp2_with fail;refine(A5j _ _ _ _ _ _ x.3 y.3 _ _ _ (AQ af Below.go) (AQ ae Below.go)).mono ?_;rintro e u2 ⟨rfl,E⟩;obtain⟨az,aB⟩:=F_ E;have ad:w.1.size<u2.1.size/\w.1.size+1<u2.1.size:=by have:=E.size;(try simp at this);omega
  obtain⟨aC,aD⟩:=ad;go_wp2;go_ret;exact⟨Q_ (by have:x≠y:=λe=>Q.o (by rw[e]);simp[this]),Below.go⟩
 have ay:AU (x.3=y.3)=AD:=by simp[q2]
 have Q2:=A_ q2;clear q2;go_enter func11,ntmps11;go_wp2_with fail;refine(A7i _ _ x.1 y.1 _ _ _ (GT (AQ T Below.go) (AQ W Below.go)) (GT (AQ H Below.go) (AQ O Below.go))).mono ?_;rintro e u0 ⟨rfl,b⟩;obtain⟨Z,aa⟩:=F_ b;have u:w.1.size<u0.1.size/\w.1.size+1<u0.1.size:=by have:=b.size;(try simp at this);omega
 obtain⟨ab,ac⟩:=u;go_wp2_with fail;refine(A5j _ _ _ _ _ _ x.2 y.2 _ _ _ (AQ Y Below.go) (AQ X Below.go)).mono ?_;rintro e u1 ⟨rfl,h⟩;obtain⟨ag,ah⟩:=F_ h;have G:w.1.size<u1.1.size/\w.1.size+1<u1.1.size:=by have:=h.size;(try simp at this);omega
 obtain⟨ak,al⟩:=G;go_wp2_with fail;refine(A5j _ _ _ _ _ _ x.3 y.3 _ _ _ (AQ af Below.go) (AQ ae Below.go)).mono ?_;rintro e u2 ⟨rfl,E⟩;obtain⟨az,aB⟩:=F_ E;have ad:w.1.size<u2.1.size/\w.1.size+1<u2.1.size:=by have:=E.size;(try simp at this);omega
 obtain⟨aC,aD⟩:=ad;go_wp2;go_ret;have aA:x=y:=@D2o x y ar Q1 Q2;exact⟨Q_ (by simp[aA]),Below.go⟩
theorem F2r (v au:AJ) (x y:TState) (bs aH:List Nat) (w:J) (ao:Agg w v x bs) (ap:Agg w au y aH):AR prog 9 #[v,au] w (A0b w (AC (AU (x=y)))):=by
 obtain⟨aQ,bl,a5,bE,aR,bm,a6,bF,aS,bn,a7,bG,aT,bo,a8,bH,aU,bp,a9,bI,aV,bq,ba,bJ,aW,br,bc,bK,rfl,rfl,w0,aB,aC,w3,aD,aE,aF⟩:=TState.agg ao;obtain⟨aX,bt,bd,bL,aY,bu,be,bM,aZ,bv,bf,bN,a1,bz,bg,bO,a2,bA,bh,bP,a3,bB,bi,bQ,a4,bD,bj,bR,rfl,rfl,aw,v1,v2,ax,ay,az,aA⟩:=TState.agg ap;have X:=A_ w0;have H:=A_ aw;have Y:=A_ aB;have O:=A_ v1;have Z:=A_ aC;have T:=A_ v2;have aa:=A_ w3;have W:=A_ ax;have ad:=A_ aD;have ab:=A_ ay;have ae:=A_ aE;have ac:=A_ az;have al:=A_ aF;have ak:=A_ aA;clear ao ap w0 aw aB v1 aC v2 w3 ax aD ay aE az aF aA;by_cases D:x.problem=y.problem;rotate_left
 ·have aI:AU (x.problem=y.problem)=AF:=by simp[D]
  have Q:=A_ D;clear D;go_enter func9,ntmps9;go_wp2_with fail;refine(C1p _ _ x.problem y.problem _ _ _ (JS (AQ X Below.go) (AQ Y Below.go) (AQ Z Below.go) (AQ aa Below.go)) (JS (AQ H Below.go) (AQ O Below.go) (AQ T Below.go) (AQ W Below.go))).mono ?_;rintro e u0 ⟨rfl,b⟩;obtain⟨af,ag⟩:=F_ b;have u:w.1.size<u0.1.size/\w.1.size+1<u0.1.size:=by have:=b.size;(try simp at this);omega
  obtain⟨ah,ai⟩:=u;go_wp2;go_ret;exact⟨Q_ (by have:x≠y:=λe=>Q.o (by rw[e]);simp[this]),Below.go⟩
 have aI:AU (x.problem=y.problem)=AD:=by simp[D]
 have aG:=A_ D;clear D;by_cases q1:x.part=y.part;rotate_left
 ·have aJ:AU (x.part=y.part)=AF:=by simp[q1]
  have Q:=A_ q1;clear q1;go_enter func9,ntmps9;go_wp2_with fail;refine(C1p _ _ x.problem y.problem _ _ _ (JS (AQ X Below.go) (AQ Y Below.go) (AQ Z Below.go) (AQ aa Below.go)) (JS (AQ H Below.go) (AQ O Below.go) (AQ T Below.go) (AQ W Below.go))).mono ?_;rintro e u0 ⟨rfl,b⟩;obtain⟨af,ag⟩:=F_ b;have u:w.1.size<u0.1.size/\w.1.size+1<u0.1.size:=by have:=b.size;(try simp at this);omega
  obtain⟨ah,ai⟩:=u;go_wp2_with fail;refine(A2s _ _ x.part y.part _ _ _ (CU (AQ ad Below.go) (AQ ae Below.go)) (CU (AQ ab Below.go) (AQ ac Below.go))).mono ?_;rintro e u1 ⟨rfl,h⟩;obtain⟨am,an⟩:=F_ h;have G:w.1.size<u1.1.size/\w.1.size+1<u1.1.size:=by have:=h.size;(try simp at this);omega
  obtain⟨aq,ar⟩:=G;go_wp2;go_ret;exact⟨Q_ (by have:x≠y:=λe=>Q.o (by rw[e]);simp[this]),Below.go⟩
 have aJ:AU (x.part=y.part)=AD:=by simp[q1]
 have Q1:=A_ q1;clear q1;by_cases q2:x.reports=y.reports;rotate_left
 ·have aK:AU (x.reports=y.reports)=AF:=by simp[q2]
  have Q:=A_ q2;clear q2;go_enter func9,ntmps9;go_wp2_with fail;refine(C1p _ _ x.problem y.problem _ _ _ (JS (AQ X Below.go) (AQ Y Below.go) (AQ Z Below.go) (AQ aa Below.go)) (JS (AQ H Below.go) (AQ O Below.go) (AQ T Below.go) (AQ W Below.go))).mono ?_;rintro e u0 ⟨rfl,b⟩;obtain⟨af,ag⟩:=F_ b;have u:w.1.size<u0.1.size/\w.1.size+1<u0.1.size:=by have:=b.size;(try simp at this);omega
  obtain⟨ah,ai⟩:=u;go_wp2_with fail;refine(A2s _ _ x.part y.part _ _ _ (CU (AQ ad Below.go) (AQ ae Below.go)) (CU (AQ ab Below.go) (AQ ac Below.go))).mono ?_;rintro e u1 ⟨rfl,h⟩;obtain⟨am,an⟩:=F_ h;have G:w.1.size<u1.1.size/\w.1.size+1<u1.1.size:=by have:=h.size;(try simp at this);omega
  obtain⟨aq,ar⟩:=G;go_wp2_with fail;refine(A8n _ _ _ _ _ _ x.reports y.reports _ _ _ (AQ al Below.go) (AQ ak Below.go)).mono ?_;rintro e u2 ⟨rfl,E⟩;obtain⟨aL,aN⟩:=F_ E;have aj:w.1.size<u2.1.size/\w.1.size+1<u2.1.size:=by have:=E.size;(try simp at this);omega
  obtain⟨aO,aP⟩:=aj;go_wp2;go_ret;exact⟨Q_ (by have:x≠y:=λe=>Q.o (by rw[e]);simp[this]),Below.go⟩
 have aK:AU (x.reports=y.reports)=AD:=by simp[q2]
 have Q2:=A_ q2;clear q2;go_enter func9,ntmps9;go_wp2_with fail;refine(C1p _ _ x.problem y.problem _ _ _ (JS (AQ X Below.go) (AQ Y Below.go) (AQ Z Below.go) (AQ aa Below.go)) (JS (AQ H Below.go) (AQ O Below.go) (AQ T Below.go) (AQ W Below.go))).mono ?_;rintro e u0 ⟨rfl,b⟩;obtain⟨af,ag⟩:=F_ b;have u:w.1.size<u0.1.size/\w.1.size+1<u0.1.size:=by have:=b.size;(try simp at this);omega
 obtain⟨ah,ai⟩:=u;go_wp2_with fail;refine(A2s _ _ x.part y.part _ _ _ (CU (AQ ad Below.go) (AQ ae Below.go)) (CU (AQ ab Below.go) (AQ ac Below.go))).mono ?_;rintro e u1 ⟨rfl,h⟩;obtain⟨am,an⟩:=F_ h;have G:w.1.size<u1.1.size/\w.1.size+1<u1.1.size:=by have:=h.size;(try simp at this);omega
 obtain⟨aq,ar⟩:=G;go_wp2_with fail;refine(A8n _ _ _ _ _ _ x.reports y.reports _ _ _ (AQ al Below.go) (AQ ak Below.go)).mono ?_;rintro e u2 ⟨rfl,E⟩;obtain⟨aL,aN⟩:=F_ E;have aj:w.1.size<u2.1.size/\w.1.size+1<u2.1.size:=by have:=E.size;(try simp at this);omega
 obtain⟨aO,aP⟩:=aj;go_wp2;go_ret;have aM:x=y:=@F4z x y aG Q1 Q2;exact⟨Q_ (by simp[aM]),Below.go⟩
end
end Go.Proofs.YtbkilakncnlebaaGreatDoor.X
