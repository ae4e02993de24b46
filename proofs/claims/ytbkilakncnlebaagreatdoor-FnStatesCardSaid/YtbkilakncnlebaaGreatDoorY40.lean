/- A part of the proof. -/
import Derived.Test.YtbkilakncnlebaaGreatDoorY35
import Derived.Test.YtbkilakncnlebaaGreatDoorY36
import Derived.Test.YtbkilakncnlebaaGreatDoorY37
import Derived.Test.YtbkilakncnlebaaGreatDoorY38
import Derived.Test.YtbkilakncnlebaaGreatDoorY39
set_option linter.constructorNameAsVariable false
set_option maxHeartbeats 16000000
set_option maxRecDepth 10000
open Bool renaming and_eq_true→CK,true→AD
open Decidable renaming decide→AU
open List renaming all_eq_true→BJ,mem_range→IQ,range→EZ,replicate→CJ
namespace Go.Proofs.YtbkilakncnlebaaGreatDoor.X
open Go.RowKit Go.XB Go.XN
def E7l (m:TMesh) (v:Int) (f:TFan):Bool:=(f.triangles.all λk=>(AU (0<=k)&&AU (k<m.triangles.length))&&B6x (m.triangles.getD k.toNat A4p) v) &&
 ((AU (f.triangles.length<=48)&&AU (1<=f.triangles.length))&&(AU (f.spokes.length=f.triangles.length+(if f.closed then 0 else 1))&&f.spokes.all λi=>AU (0<=i)&&AU (i<(P_ m.triangles).length)))
def B8t (m:TMesh):Bool:=D8j m&&((EZ m.1.length).all λv=>fanOk m.triangles v&&(AU ((A8x m.triangles v).length<=48)&&(A8x m.triangles v).all (E7l m v)))
theorem E7x:B8t (A4d 0)=AD:=dK
theorem E8r:B8t (A4d 1)=AD:=dK
theorem E8h:B8t (B0j 0)=AD:=dK
theorem E8z:B8t (B0j 1)=AD:=dK
theorem E8i:B8t (B0j 2)=AD:=dK
theorem E7u:B8t (C2p 0)=AD:=dK
theorem C2t {m:TMesh} (h:A8j m):B8t m=AD:=by
 rcases h with⟨r,b,rfl⟩|⟨r,b,rfl⟩|rfl
 ·obtain rfl|rfl:r=0\/r=1:=oS
  ·exact E7x
  exact E8r
 ·obtain rfl|rfl|rfl:r=0\/r=1\/r=2:=oS
  ·exact E8h
  ·exact E8z
  exact E8i
 exact E7u
theorem E5j {r:TRat} (h:IsK r):∃ q∈ad6,r=kq q:=by
 obtain⟨a,d,b,u,rfl⟩:=h;obtain rfl|rfl|rfl|rfl:a=1\/a=2\/a=3\/a=4:=oS;all_goals obtain rfl|rfl:d=1\/d=2:=oS
 ·exact⟨(1,1),dE,rfl⟩
 ·exact⟨(1,2),dE,rfl⟩
 ·exact⟨(2,1),dE,rfl⟩
 ·exact⟨(1,1),dE,dK⟩
 ·exact⟨(3,1),dE,rfl⟩
 ·exact⟨(3,2),dE,rfl⟩
 ·exact⟨(4,1),dE,rfl⟩
 exact⟨(2,1),dE,dK⟩
theorem E4v {q:QI} (h:q∈ad6):(1<=q.1/\q.1<=4)/\(1<=q.2/\q.2<=2):=by
 have:(ad6.all λq=>(AU (1<=q.1)&&AU (q.1<=4))&&(AU (1<=q.2)&&AU (q.2<=2)))=AD:=dE;have:=BJ.1 this q h;simpa using this
theorem six {P:QI->Prop} (b:P (1,1)) (u:P (2,1)) (D:P (3,1)) (E:P (4,1)) (G:P (1,2)) (H:P (3,2)) {q:QI} (h:q∈ad6):P q:=by
 unfold ad6 at h;simp only[List.mem_cons,List.not_mem_nil,or_false]at h;rcases h with rfl|rfl|rfl|rfl|rfl|rfl
 ·exact b
 ·exact u
 ·exact D
 ·exact E
 ·exact G
 exact H
theorem ra0 {q u:QI} (hq:q∈ad6) (hu:u∈ad6):B5d 0 q u=AD :=
 six (P:=λq=>B5d 0 q u=AD) (BJ.1 F2k u hu) (BJ.1 F1x u hu) (BJ.1 F1n u hu) (BJ.1 F0p u hu) (BJ.1 F1v u hu) (BJ.1 F2e u hu) hq
theorem ra1 {q u:QI} (hq:q∈ad6) (hu:u∈ad6):B5d 1 q u=AD :=
 six (P:=λq=>B5d 1 q u=AD) (BJ.1 F2c u hu) (BJ.1 F2b u hu) (BJ.1 F1j u hu) (BJ.1 F0e u hu) (BJ.1 F1q u hu) (BJ.1 F0m u hu) hq
theorem rc1 {q u:QI} (hq:q∈ad6) (hu:u∈ad6):C1u q u=AD :=
 six (P:=λq=>C1u q u=AD) (BJ.1 F1a u hu) (BJ.1 F2f u hu) (BJ.1 F0a u hu) (BJ.1 F1g u hu) (BJ.1 F0b u hu) (BJ.1 F1t u hu) hq
theorem rc2 {q u:QI} (hq:q∈ad6) (hu:u∈ad6):C2k q u=AD :=
 six (P:=λq=>C2k q u=AD) (BJ.1 F0f u hu) (BJ.1 F2a u hu) (BJ.1 F0g u hu) (BJ.1 F2i u hu) (BJ.1 F1z u hu) (BJ.1 F0q u hu) hq
theorem re_ {q:QI} (h0:∀ z∈ad6,A4b q (1,1) z=AD) (h1:∀ z∈ad6,A4b q (2,1) z=AD) (h2:∀ z∈ad6,A4b q (3,1) z=AD) (h3:∀ z∈ad6,A4b q (4,1) z=AD) (h4:∀ z∈ad6,A4b q (1,2) z=AD) (h5:∀ z∈ad6,A4b q (3,2) z=AD) {u z:QI} (hu:u∈ad6) (hz:z∈ad6):A4b q u z=AD :=
 six (P:=λu=>A4b q u z=AD) (h0 z hz) (h1 z hz) (h2 z hz) (h3 z hz) (h4 z hz) (h5 z hz) hu
theorem re {q u z:QI} (D:q∈ad6) (b:u∈ad6) (h:z∈ad6):A4b q u z=AD:=by
 refine six (P:=λq=>A4b q u z=AD) ?_ ?_ ?_ ?_ ?_ ?_ D;·exact re_ (BJ.1 F2j) (BJ.1 F1h) (BJ.1 F1d) (BJ.1 F0n) (BJ.1 F1l) (BJ.1 F2g) b h
 ·exact re_ (BJ.1 F1f) (BJ.1 F0r) (BJ.1 F0t) (BJ.1 F2h) (BJ.1 E9z) (BJ.1 F0s) b h
 ·exact re_ (BJ.1 F0l) (BJ.1 F0z) (BJ.1 E9y) (BJ.1 F0u) (BJ.1 F1m) (BJ.1 F0o) b h
 ·exact re_ (BJ.1 F0d) (BJ.1 F1r) (BJ.1 F0i) (BJ.1 F1b) (BJ.1 F1c) (BJ.1 F0h) b h
 ·exact re_ (BJ.1 F0c) (BJ.1 F1p) (BJ.1 F1s) (BJ.1 F0x) (BJ.1 F0y) (BJ.1 F1y) b h
 exact re_ (BJ.1 F1o) (BJ.1 F0j) (BJ.1 F1i) (BJ.1 F1u) (BJ.1 F1k) (BJ.1 F0v) b h
theorem D4n {a b c:Int} (h:-1<=a/\a<=3) (u:-1<=b/\b<=3) (D:-1<=c/\c<=3):RepL (a,b,c) B6u [U_ a,U_ b,U_ c]:=by
 refine⟨rfl,λi=>?_⟩;match i with
 |0=>exact λ_=>(B9z oS oS).trans (congrArg (λn=>toR ⟨n,1⟩) (by omega:a=1*a+(0*b+0*c)))
 |1=>exact λ_=>(B9z oS oS).trans (congrArg (λn=>toR ⟨n,1⟩) (by omega:b=0*a+(1*b+0*c)))
 |2=>exact λ_=>(B9z oS oS).trans (congrArg (λn=>toR ⟨n,1⟩) (by omega:c=0*a+(0*b+1*c)))
 |n+3=>exact Rep.bad
theorem C5c (s:A2c):∀ n,RepL s (CJ n A4k) (CJ n (U_ 0))
 |0=>RepL.nil
 |n+1=>by
  rw[List.replicate_succ',List.replicate_succ']
  exact(C5c s n).push Rep.zero
theorem E4w {a b c:Int} (ha:-1<=a/\a<=3) (hb:-1<=b/\b<=3) (hc:-1<=c/\c<=3):SrcIn (a,b,c):=⟨by show -3<=a;omega,ha.2,by show -3<=b;omega,hb.2,by show -3<=c;omega,hc.2⟩
theorem D9n {p:TProblem} {us ks:List TRat} {ul:List LF} {s:A2c} {os:Option TRat} (Y:B4x p) (b:SolD p (xsA p.1) (ysA p.1) os) (D:RunD p us ks ul s) (ai:A8r p os=us) (af:us.length=p.1.1.length) (ag:us.all J_=AD) :
  SdD p (xsA p.1) (ysA p.1) os:=by
 subst ai;have E:=C2t Y.1;have H:=B3s Y.1;unfold B8t at E;unfold C5z at H;simp only[CK,BJ,IQ,decide_eq_true_eq]at E H;obtain⟨aj,⟨Z,-⟩,aa,-⟩:=H;have W:LinD p (A8r p os):=⟨λt h=>⟨(b.md.tri t h).it,b.pr.reg t h,b.md.grad t h⟩,b.md.1.ok,b.md.1.n40,b.md.1.t48,b.pr.dl,af,ag⟩
 have X:(A4i p (A8r p os)).length=(P_ p.1.triangles).length:=C7s _ _ _
 refine⟨b,⟨W,b.pr.sl,λv u=>(E.2 v u).1,λv u f O=>?_,λv u=>(E.2 v u).2.1,Z,D.fluxOk⟩,⟨λt h=>⟨(W.tri t h).1,b.pr.reg t h⟩,b.md.1.ok,b.md.1.n40,b.md.1.t48,b.pr.sl,X,λk t h=>D.eq h⟩,
  ⟨W,X,D.fluxOk,λt h=>?_,D8y λr ah=>ratOkB_iff.2 (D.ind.val r ah)⟩,b.md.1.t1⟩
 ·have G:=(E.2 v u).2.2 f O;unfold E7l at G;simp only[CK,BJ,decide_eq_true_eq]at G;obtain⟨b1,⟨b2,ab⟩,ac,ad⟩:=G;exact⟨λk T=>⟨(b1 k T).1.1,(b1 k T).1.2,(b1 k T).2⟩,b2,ab,ac,ad,λae=>D.fanCl u O ae,D.fanOk u O⟩
 have:=aa t h;unfold B4h at this;simp only[CK]at this;exact this
theorem E0y {m:TMesh} (h:A8j m):MeshD m (xsA m) (ysA m)/\∀ t∈m.triangles,0<=t.4/\t.4<3:=by
 have u:=C2t h;have b:=B3s h;unfold B8t at u;unfold C5z at b;rw[CK]at u b;exact D5p (B4i b.1).1 (B4i b.1).2 u.1
theorem E2v {p:TProblem} (h:B4x p):ProbI p (xsA p.1) (ysA p.1)/\MeshD p.1 (xsA p.1) (ysA p.1):=by
 obtain⟨u,D⟩:=E0y h.1;exact⟨⟨u.1,h.2.kl,BJ.2 λr b=>(h.2.k r b).ok.1,λr b=>(h.2.k r b).ok.2,h.2.fl,BJ.2 λr b=>(h.2.f r b).ok,D⟩,u⟩
theorem E5g {p:TProblem} (h:B4x p) (D:A3f p.1 false=[]):SolD p (xsA p.1) (ysA p.1) none/\A8r p none=B4j p.1 []:=by
 obtain⟨H,G⟩:=E2v h;have u:(A3f p.1 false).length=0:=by rw[D];rfl
 have O:∀ E,C0y p.1 E=[]:=λE=>by unfold C0y;rw[u,D0e]
 have b:A6v p=[]:=by unfold A6v;rw[u,C5l]
 exact⟨⟨G,H,O _,trivial,λr T=>(by cases T),by rw[b];rfl,by rw[b];rfl,by rw[b];rfl,by rw[b];rfl,by rw[b];rfl,by rw[D];rfl⟩,by unfold A8r;rw[b];rfl⟩
theorem E6j {p:TProblem} {s l:TRat} (h:B4x p) (b:OnePt p s l) (W:J_ l=AD) (E:J_ (A3u l s)=AD) (H:0<R_ s):SolD p (xsA p.1) (ysA p.1) (some s)/\A8r p (some s)=[U_ 0,U_ 0,U_ 0,U_ 0,A3u l s]:=by
 obtain⟨T,O⟩:=E2v h;have D:=b.b;unfold E0b at D;simp only[CK,decide_eq_true_eq,Bool.not_eq_true']at D;obtain⟨b1,b2,Y,Z,G,aa,ab⟩:=D;have u:A7r (some s) [l]=[A3u l s]:=rfl;refine⟨⟨O,T,b.st,⟨b1,b2⟩,λr X=>by cases X;exact H,?_,?_,?_,?_,by rw[b.ld];rfl,by rw[b.pt];rfl⟩,?_⟩;·rw[b.ld];simp[W]
 ·rw[b.ld];simp[G]
 ·rw[b.ld,u];simp[E]
 ·rw[b.ld,u];simp[C4g E]
 unfold A8r B4j;rw[b.ld,u,b.rw_];rfl
def F1w:Bool:=(EZ 32).all λn=>[1,2,4].all λd=>AU (0<R_ (mkR ((n:Int)+1) d))
theorem E6h:F1w=AD:=dK
theorem E8c {N b:Int} (D:1<=N/\N<=32) (u:b=1\/b=2\/b=4):0<R_ (mkR N b):=by
 have h:=BJ.1 (BJ.1 E6h (N - 1).toNat (IQ.2 oS)) b (by rcases u with rfl|rfl|rfl<;>decide);rw[show(((N - 1).toNat:Nat):Int)+1=N by omega,decide_eq_true_eq]at h;exact h
def ulB (r:Int):Bool:=ad6.all λq=>ad6.all λu=>((ul0 r q u).getD 4 A4z).ok
theorem ul_ok:ulB 0=AD/\ulB 1=AD:=dK
theorem load_rep {r a b c:Int}:Rep (a,b,c) ⟨3 - r,1+r,0,3⟩ (mkR ((3 - r)*a+(1+r)*b) 3):=λ_=>by
 show _=mkR ((3 - r)*a+((1+r)*b+0*c)) 3
 rw[Int.zero_mul,Int.add_zero]
theorem E6i {r a b c:Int} {q u z:QI} (ab:0<=r/\r<2) (D:q∈ad6) (E:u∈ad6) (H:-1<=a/\a<=3) (O:-1<=b/\b<=3) (Z:-1<=c/\c<=3) (h:B4x ⟨A4d r,[kq q,kq u,kq z],[U_ a,U_ b,U_ c]⟩)
  (W:List TRat->Prop) (ae:W [U_ 0,U_ 0,U_ 0,U_ 0,A3u (mkR ((3 - r)*a+(1+r)*b) 3) (mkR ((3 - r)*q.1*u.2+(1+r)*u.1*q.2) (q.2*u.2))]) :
  ∃ os ks ul s,SdD ⟨A4d r,[kq q,kq u,kq z],[U_ a,U_ b,U_ c]⟩ (xsA (A4d r)) (ysA (A4d r)) os/\RunD ⟨A4d r,[kq q,kq u,kq z],[U_ a,U_ b,U_ c]⟩ (A8r ⟨A4d r,[kq q,kq u,kq z],[U_ a,U_ b,U_ c]⟩ os) ks ul s/\W (A8r ⟨A4d r,[kq q,kq u,kq z],[U_ a,U_ b,U_ c]⟩ os):=by
 obtain⟨q1,q2⟩:=E4v D;obtain⟨u1,u2⟩:=E4v E;have ag:OnePt ⟨A4d r,[kq q,kq u,kq z],[U_ a,U_ b,U_ c]⟩ _ _:=E8w ab q1 q2 u1 u2 H O;obtain⟨af,ad⟩:=C2q ab q1 q2 u1 u2;have G:=E4w H O Z;have ak:B5d r q u=AD:=by
  obtain rfl|rfl:r=0\/r=1:=oS;·exact ra0 D E
  exact ra1 D E
 have ai:((ul0 r q u).getD 4 A4z).ok=AD:=by
  obtain rfl|rfl:r=0\/r=1:=oS;·exact BJ.1 (BJ.1 ul_ok.1 q D) u E
  exact BJ.1 (BJ.1 ul_ok.2 q D) u E
 have aj:(⟨3 - r,1+r,0,3⟩:LF).ok=AD:=by
  obtain rfl|rfl:r=0\/r=1:=oS;·decide
  decide
 have aa:=Rep.div G (load_rep (r:=r) (a:=a) (b:=b) (c:=c)) (k:=mkR ((3 - r)*q.1*u.2+(1+r)*u.1*q.2) (q.2*u.2));have X:=aa.val G ai;obtain⟨ah,T⟩:=E6j h ag (load_rep.val G aj) X (E8c af ad);have al:J_ (U_ 0)=AD:=dE
 have Y:RunD ⟨A4d r,[kq q,kq u,kq z],[U_ a,U_ b,U_ c]⟩ [U_ 0,U_ 0,U_ 0,U_ 0,A3u (mkR ((3 - r)*a+(1+r)*b) 3) (mkR ((3 - r)*q.1*u.2+(1+r)*u.1*q.2) (q.2*u.2))] [kq q,kq u] (ul0 r q u) (a,b,c) :=
  ⟨G,(C5c _ 4).push aa,D4n H O Z,λt ac=>by obtain rfl|rfl:r=0\/r=1:=oS;all_goals simp[A4d]at ac;rcases ac with rfl|rfl|rfl|rfl<;>rfl,rfl,ak⟩
 exact⟨_,_,_,_,D9n h ah Y T rfl (by simp[al,X]),by rw[T];exact Y,by rw[T];exact ae⟩
theorem B9h {m:TMesh} {ks u:List TRat} {a b c:Int} {n:Nat} (H:-1<=a/\a<=3) (O:-1<=b/\b<=3) (T:-1<=c/\c<=3) (h:B4x ⟨m,u,[U_ a,U_ b,U_ c]⟩) (ab:A3f m false=[]) (Z:B4j m []=CJ n (U_ 0)) (aa:n=m.1.length)
  (Y:∀ t∈m.triangles,kC ks t=u.getD t.4.toNat A0h) (ae:kC ks A4p=u.getD 0 A0h) (ad:C5b m ks (CJ n A4k) B6u=AD)
  (E:List TRat->Prop) (W:E (CJ n (U_ 0))) :
  ∃ os ks ul s,SdD ⟨m,u,[U_ a,U_ b,U_ c]⟩ (xsA m) (ysA m) os/\RunD ⟨m,u,[U_ a,U_ b,U_ c]⟩ (A8r ⟨m,u,[U_ a,U_ b,U_ c]⟩ os) ks ul s/\E (A8r ⟨m,u,[U_ a,U_ b,U_ c]⟩ os):=by
 obtain⟨X,D⟩:=E5g h ab;rw[show(⟨m,u,[U_ a,U_ b,U_ c]⟩:TProblem).1=m from rfl,Z]at D;have G:RunD ⟨m,u,[U_ a,U_ b,U_ c]⟩ (CJ n (U_ 0)) ks (CJ n A4k) (a,b,c):=⟨E4w H O T,C5c _ n,D4n H O T,Y,ae,ad⟩
 refine⟨_,_,_,_,D9n h X G D (by rw[List.length_replicate];exact aa) ?_,by rw[D];exact G,by rw[D];exact W⟩;rw[BJ];intro r ac;rw[List.eq_of_mem_replicate ac];decide
theorem F7d {p:TProblem} (h:B4x p) (G:TProblem->List TRat->Prop) (af:∀ {r a b c:Int} {q u z:QI},(0<=r/\r<2)->q∈ad6->u∈ad6->(-1<=a/\a<=3)->(-1<=b/\b<=3)->G ⟨A4d r,[kq q,kq u,kq z],[U_ a,U_ b,U_ c]⟩ [U_ 0,U_ 0,U_ 0,U_ 0,A3u (mkR ((3 - r)*a+(1+r)*b) 3) (mkR ((3 - r)*q.1*u.2+(1+r)*u.1*q.2) (q.2*u.2))])
  (aa:∀ {r:Int} {q u z:QI} {fs:List TRat},(0<=r/\r<3)->q∈ad6->u∈ad6->z∈ad6->G ⟨B0j r,[kq q,kq u,kq z],fs⟩ (CJ 4 (U_ 0)))
  (ag:∀ {q u z:QI} {fs:List TRat},q∈ad6->u∈ad6->z∈ad6->G ⟨C2p 0,[kq q,kq u,kq z],fs⟩ (CJ 8 (U_ 0))) :
  ∃ os ks ul s,SdD p (xsA p.1) (ysA p.1) os/\RunD p (A8r p os) ks ul s/\G p (A8r p os):=by
 obtain⟨m,ai,fs⟩:=p;obtain⟨ah,k1,k2,rfl⟩:=E9k h.2.kl;obtain⟨ac,ad,ae,rfl⟩:=E9k h.2.fl;obtain⟨q,E,rfl⟩:=E5j (h.2.k ah sI);obtain⟨u,H,rfl⟩:=E5j (h.2.k k1 sI);obtain⟨z,W,rfl⟩:=E5j (h.2.k k2 sI);obtain⟨a,O,rfl⟩:=h.2.f ac sI;obtain⟨b,T,rfl⟩:=h.2.f ad sI;obtain⟨c,X,rfl⟩:=h.2.f ae sI;rcases h.1 with⟨r,ab,Y⟩|⟨r,ab,Y⟩|Y;·have Z:m=A4d r:=Y;subst Z;exact E6i ab E H O T X h (G _) (af ab E H O T)
 ·have Z:m=B0j r:=Y
  subst Z;obtain rfl|rfl|rfl:r=0\/r=1\/r=2:=oS
  ·exact B9h (n:=4) (ks:=[kq q]) O T X h dK dK rfl (λt D=>by simp[B0j]at D;rcases D with rfl|rfl<;>rfl) rfl (BJ.1 rc0 q E) (G _) (aa oS E H W)
  ·exact B9h (n:=4) (ks:=[kq q,kq u]) O T X h dK dK rfl (λt D=>by simp[B0j]at D;rcases D with rfl|rfl<;>rfl) rfl (rc1 E H) (G _) (aa oS E H W)
  exact B9h (n:=4) (ks:=[kq q,A0h,kq z]) O T X h dK dK rfl (λt D=>by simp[B0j]at D;rcases D with rfl|rfl<;>rfl) rfl (rc2 E W) (G _) (aa oS E H W)
 have Z:m=C2p 0:=Y;subst Z;exact B9h (n:=8) (ks:=[kq q,kq u,kq z]) O T X h dK dK rfl (λt D=>by simp[C2p]at D;rcases D with rfl|rfl|rfl|rfl|rfl|rfl<;>rfl) rfl (re E H W) (G _) (ag E H W)
end Go.Proofs.YtbkilakncnlebaaGreatDoor.X
