/- A part of the proof. -/
import Derived.Test.YtbhemnidcleaiaaGreatY41
import Derived.Test.YtbhemnidcleaiaaGreatY42
import Derived.Test.YtbhemnidcleaiaaGreatY43
import Derived.Test.YtbhemnidcleaiaaGreatY44
import Derived.Test.YtbhemnidcleaiaaGreatY46
import Derived.Test.YtbhemnidcleaiaaGreatY49
set_option linter.constructorNameAsVariable false
set_option maxHeartbeats 16000000
set_option maxRecDepth 10000
namespace Go.Proofs.YtbhemnidcleaiaaGreat.X
open Go.RowKit Go.XB Go.XN
def E7l (m:TMesh) (v:Int) (f:TFan):Bool:=(f.triangles.all λk=>(decide (0<=k)&&decide (k<m.triangles.length))&&B6x (m.triangles.getD k.toNat A4p) v) &&
 ((decide (f.triangles.length<=48)&&decide (1<=f.triangles.length))&&(decide (f.spokes.length=f.triangles.length+(if f.closed then 0 else 1))&&f.spokes.all λi=>decide (0<=i)&&decide (i<(P_ m.triangles).length)))
def B8t (m:TMesh):Bool:=D8j m&&((List.range m.1.length).all λv=>fanOk m.triangles v&&(decide ((A8x m.triangles v).length<=48)&&(A8x m.triangles v).all (E7l m v)))
theorem E7x:B8t (A4d 0)=true:=dK
theorem E8r:B8t (A4d 1)=true:=dK
theorem E8h:B8t (B0j 0)=true:=dK
theorem E8z:B8t (B0j 1)=true:=dK
theorem E8i:B8t (B0j 2)=true:=dK
theorem E7u:B8t (C2p 0)=true:=dK
theorem C2t {m:TMesh} (h:A8j m):B8t m=true:=by
 rcases h with⟨r,b,rfl⟩|⟨r,b,rfl⟩|rfl
 ·obtain rfl|rfl:r=0\/r=1:=oM
  ·exact E7x
  exact E8r
 ·obtain rfl|rfl|rfl:r=0\/r=1\/r=2:=oM
  ·exact E8h
  ·exact E8z
  exact E8i
 exact E7u
theorem E5j {r:TRat} (h:IsK r):∃ q∈ad6,r=kq q:=by
 obtain⟨a,d,b,u,rfl⟩:=h;obtain rfl|rfl|rfl|rfl:a=1\/a=2\/a=3\/a=4:=oM;all_goals obtain rfl|rfl:d=1\/d=2:=oM
 ·exact⟨(1,1),dE,rfl⟩
 ·exact⟨(1,2),dE,rfl⟩
 ·exact⟨(2,1),dE,rfl⟩
 ·exact⟨(1,1),dE,dK⟩
 ·exact⟨(3,1),dE,rfl⟩
 ·exact⟨(3,2),dE,rfl⟩
 ·exact⟨(4,1),dE,rfl⟩
 exact⟨(2,1),dE,dK⟩
theorem E4v {q:QI} (h:q∈ad6):(1<=q.1/\q.1<=4)/\(1<=q.2/\q.2<=2):=by
 have:(ad6.all λq=>(decide (1<=q.1)&&decide (q.1<=4))&&(decide (1<=q.2)&&decide (q.2<=2)))=true:=dE;have:=List.all_eq_true.1 this q h;simpa using this
theorem six {P:QI->Prop} (b:P (1,1)) (u:P (2,1)) (D:P (3,1)) (E:P (4,1)) (G:P (1,2)) (H:P (3,2)) {q:QI} (h:q∈ad6):P q:=by
 unfold ad6 at h;simp only[List.mem_cons,List.not_mem_nil,or_false]at h;rcases h with rfl|rfl|rfl|rfl|rfl|rfl
 ·exact b
 ·exact u
 ·exact D
 ·exact E
 ·exact G
 exact H
theorem ra0 {q u:QI} (hq:q∈ad6) (hu:u∈ad6):B5d 0 q u=true :=
 six (P:=λq=>B5d 0 q u=true) (List.all_eq_true.1 F2k u hu) (List.all_eq_true.1 F1x u hu) (List.all_eq_true.1 F1n u hu) (List.all_eq_true.1 F0p u hu) (List.all_eq_true.1 F1v u hu) (List.all_eq_true.1 F2e u hu) hq
theorem ra1 {q u:QI} (hq:q∈ad6) (hu:u∈ad6):B5d 1 q u=true :=
 six (P:=λq=>B5d 1 q u=true) (List.all_eq_true.1 F2c u hu) (List.all_eq_true.1 F2b u hu) (List.all_eq_true.1 F1j u hu) (List.all_eq_true.1 F0e u hu) (List.all_eq_true.1 F1q u hu) (List.all_eq_true.1 F0m u hu) hq
theorem rc1 {q u:QI} (hq:q∈ad6) (hu:u∈ad6):C1u q u=true :=
 six (P:=λq=>C1u q u=true) (List.all_eq_true.1 F1a u hu) (List.all_eq_true.1 F2f u hu) (List.all_eq_true.1 F0a u hu) (List.all_eq_true.1 F1g u hu) (List.all_eq_true.1 F0b u hu) (List.all_eq_true.1 F1t u hu) hq
theorem rc2 {q u:QI} (hq:q∈ad6) (hu:u∈ad6):C2k q u=true :=
 six (P:=λq=>C2k q u=true) (List.all_eq_true.1 F0f u hu) (List.all_eq_true.1 F2a u hu) (List.all_eq_true.1 F0g u hu) (List.all_eq_true.1 F2i u hu) (List.all_eq_true.1 F1z u hu) (List.all_eq_true.1 F0q u hu) hq
theorem re_ {q:QI} (h0:∀ z∈ad6,A4b q (1,1) z=true) (h1:∀ z∈ad6,A4b q (2,1) z=true) (h2:∀ z∈ad6,A4b q (3,1) z=true) (h3:∀ z∈ad6,A4b q (4,1) z=true) (h4:∀ z∈ad6,A4b q (1,2) z=true) (h5:∀ z∈ad6,A4b q (3,2) z=true) {u z:QI} (hu:u∈ad6) (hz:z∈ad6):A4b q u z=true :=
 six (P:=λu=>A4b q u z=true) (h0 z hz) (h1 z hz) (h2 z hz) (h3 z hz) (h4 z hz) (h5 z hz) hu
theorem re {q u z:QI} (D:q∈ad6) (b:u∈ad6) (h:z∈ad6):A4b q u z=true:=by
 refine six (P:=λq=>A4b q u z=true) ?_ ?_ ?_ ?_ ?_ ?_ D;·exact re_ (List.all_eq_true.1 F2j) (List.all_eq_true.1 F1h) (List.all_eq_true.1 F1d) (List.all_eq_true.1 F0n) (List.all_eq_true.1 F1l) (List.all_eq_true.1 F2g) b h
 ·exact re_ (List.all_eq_true.1 F1f) (List.all_eq_true.1 F0r) (List.all_eq_true.1 F0t) (List.all_eq_true.1 F2h) (List.all_eq_true.1 E9z) (List.all_eq_true.1 F0s) b h
 ·exact re_ (List.all_eq_true.1 F0l) (List.all_eq_true.1 F0z) (List.all_eq_true.1 E9y) (List.all_eq_true.1 F0u) (List.all_eq_true.1 F1m) (List.all_eq_true.1 F0o) b h
 ·exact re_ (List.all_eq_true.1 F0d) (List.all_eq_true.1 F1r) (List.all_eq_true.1 F0i) (List.all_eq_true.1 F1b) (List.all_eq_true.1 F1c) (List.all_eq_true.1 F0h) b h
 ·exact re_ (List.all_eq_true.1 F0c) (List.all_eq_true.1 F1p) (List.all_eq_true.1 F1s) (List.all_eq_true.1 F0x) (List.all_eq_true.1 F0y) (List.all_eq_true.1 F1y) b h
 exact re_ (List.all_eq_true.1 F1o) (List.all_eq_true.1 F0j) (List.all_eq_true.1 F1i) (List.all_eq_true.1 F1u) (List.all_eq_true.1 F1k) (List.all_eq_true.1 F0v) b h
theorem D4n {a b c:Int} (h:-1<=a/\a<=3) (u:-1<=b/\b<=3) (D:-1<=c/\c<=3):RepL (a,b,c) B6u [U_ a,U_ b,U_ c]:=by
 refine⟨rfl,λi=>?_⟩;match i with
 |0=>exact λ_=>(B9z oM oM).trans (congrArg (λn=>toR ⟨n,1⟩) (by omega:a=1*a+(0*b+0*c)))
 |1=>exact λ_=>(B9z oM oM).trans (congrArg (λn=>toR ⟨n,1⟩) (by omega:b=0*a+(1*b+0*c)))
 |2=>exact λ_=>(B9z oM oM).trans (congrArg (λn=>toR ⟨n,1⟩) (by omega:c=0*a+(0*b+1*c)))
 |n+3=>exact Rep.bad
theorem C5c (s:A2c):∀ n,RepL s (List.replicate n A4k) (List.replicate n (U_ 0))
 |0=>RepL.nil
 |n+1=>by
  rw[List.replicate_succ',List.replicate_succ']
  exact(C5c s n).push Rep.zero
theorem E4w {a b c:Int} (ha:-1<=a/\a<=3) (hb:-1<=b/\b<=3) (hc:-1<=c/\c<=3):SrcIn (a,b,c):=⟨by show -3<=a;omega,ha.2,by show -3<=b;omega,hb.2,by show -3<=c;omega,hc.2⟩
theorem D9n {p:TProblem} {us ks:List TRat} {ul:List LF} {s:A2c} {G:Option TRat} (T:B4x p) (b:SolD p (xsA p.1) (ysA p.1) G) (D:RunD p us ks ul s) (af:A8r p G=us) (ac:us.length=p.1.1.length) (ad:us.all J_=true) :
  SdD p (xsA p.1) (ysA p.1) G:=by
 subst af;have E:=C2t T.1;have I:=B3s T.1;unfold B8t at E;unfold C5z at I;simp only[Bool.and_eq_true,List.all_eq_true,List.mem_range,decide_eq_true_eq]at E I;obtain⟨ag,⟨W,-⟩,X,-⟩:=I;have O:LinD p (A8r p G):=⟨λt h=>⟨(b.md.tri t h).it,b.pr.reg t h,b.md.grad t h⟩,b.md.1.ok,b.md.1.n40,b.md.1.t48,b.pr.dl,ac,ad⟩
 have S:(A4i p (A8r p G)).length=(P_ p.1.triangles).length:=C7s _ _ _
 refine⟨b,⟨O,b.pr.sl,λv u=>(E.2 v u).1,λv u f J=>?_,λv u=>(E.2 v u).2.1,W,D.fluxOk⟩,⟨λt h=>⟨(O.tri t h).1,b.pr.reg t h⟩,b.md.1.ok,b.md.1.n40,b.md.1.t48,b.pr.sl,S,λk t h=>D.eq h⟩,
  ⟨O,S,D.fluxOk,λt h=>?_,D8y λr ae=>ratOkB_iff.2 (D.ind.val r ae)⟩,b.md.1.t1⟩
 ·have H:=(E.2 v u).2.2 f J;unfold E7l at H;simp only[Bool.and_eq_true,List.all_eq_true,decide_eq_true_eq]at H;obtain⟨b1,⟨b2,Y⟩,Z,aa⟩:=H;exact⟨λk K=>⟨(b1 k K).1.1,(b1 k K).1.2,(b1 k K).2⟩,b2,Y,Z,aa,λab=>D.fanCl u J ab,D.fanOk u J⟩
 have:=X t h;unfold B4h at this;simp only[Bool.and_eq_true]at this;exact this
theorem E0y {m:TMesh} (h:A8j m):MeshD m (xsA m) (ysA m)/\∀ t∈m.triangles,0<=t.4/\t.4<3:=by
 have u:=C2t h;have b:=B3s h;unfold B8t at u;unfold C5z at b;rw[Bool.and_eq_true]at u b;exact D5p (B4i b.1).1 (B4i b.1).2 u.1
theorem E2v {p:TProblem} (h:B4x p):ProbI p (xsA p.1) (ysA p.1)/\MeshD p.1 (xsA p.1) (ysA p.1):=by
 obtain⟨u,D⟩:=E0y h.1;exact⟨⟨u.1,h.2.kl,List.all_eq_true.2 λr b=>(h.2.k r b).ok.1,λr b=>(h.2.k r b).ok.2,h.2.fl,List.all_eq_true.2 λr b=>(h.2.f r b).ok,D⟩,u⟩
theorem E5g {p:TProblem} (h:B4x p) (D:A3f p.1 false=[]):SolD p (xsA p.1) (ysA p.1) none/\A8r p none=B4j p.1 []:=by
 obtain⟨H,G⟩:=E2v h;have u:(A3f p.1 false).length=0:=by rw[D];rfl
 have I:∀ E,C0y p.1 E=[]:=λE=>by unfold C0y;rw[u,D0e]
 have b:A6v p=[]:=by unfold A6v;rw[u,C5l]
 exact⟨⟨G,H,I _,trivial,λr J=>(by cases J),by rw[b];rfl,by rw[b];rfl,by rw[b];rfl,by rw[b];rfl,by rw[b];rfl,by rw[D];rfl⟩,by unfold A8r;rw[b];rfl⟩
theorem E6j {p:TProblem} {s l:TRat} (h:B4x p) (b:OnePt p s l) (K:J_ l=true) (E:J_ (A3u l s)=true) (H:0<R_ s):SolD p (xsA p.1) (ysA p.1) (some s)/\A8r p (some s)=[U_ 0,U_ 0,U_ 0,U_ 0,A3u l s]:=by
 obtain⟨J,I⟩:=E2v h;have D:=b.b;unfold E0b at D;simp only[Bool.and_eq_true,decide_eq_true_eq,Bool.not_eq_true']at D;obtain⟨b1,b2,S,T,G,W,X⟩:=D;have u:A7r (some s) [l]=[A3u l s]:=rfl;refine⟨⟨I,J,b.st,⟨b1,b2⟩,λr O=>by cases O;exact H,?_,?_,?_,?_,by rw[b.ld];rfl,by rw[b.pt];rfl⟩,?_⟩;·rw[b.ld];simp[K]
 ·rw[b.ld];simp[G]
 ·rw[b.ld,u];simp[E]
 ·rw[b.ld,u];simp[C4g E]
 unfold A8r B4j;rw[b.ld,u,b.rw_];rfl
def F1w:Bool:=(List.range 32).all λn=>[1,2,4].all λd=>decide (0<R_ (mkR ((n:Int)+1) d))
theorem E6h:F1w=true:=dK
theorem E8c {N b:Int} (D:1<=N/\N<=32) (u:b=1\/b=2\/b=4):0<R_ (mkR N b):=by
 have h:=List.all_eq_true.1 (List.all_eq_true.1 E6h (N - 1).toNat (List.mem_range.2 oM)) b (by rcases u with rfl|rfl|rfl<;>decide);rw[show(((N - 1).toNat:Nat):Int)+1=N by omega,decide_eq_true_eq]at h;exact h
def ulB (r:Int):Bool:=ad6.all λq=>ad6.all λu=>((ul0 r q u).getD 4 A4z).ok
theorem ul_ok:ulB 0=true/\ulB 1=true:=dK
theorem load_rep {r a b c:Int}:Rep (a,b,c) ⟨3 - r,1+r,0,3⟩ (mkR ((3 - r)*a+(1+r)*b) 3):=λ_=>by
 show _=mkR ((3 - r)*a+((1+r)*b+0*c)) 3
 rw[Int.zero_mul,Int.add_zero]
theorem E6i {r a b c:Int} {q u z:QI} (T:0<=r/\r<2) (D:q∈ad6) (E:u∈ad6) (H:-1<=a/\a<=3) (I:-1<=b/\b<=3) (O:-1<=c/\c<=3) (h:B4x ⟨A4d r,[kq q,kq u,kq z],[U_ a,U_ b,U_ c]⟩) :
  ∃ os ks ul s,SdD ⟨A4d r,[kq q,kq u,kq z],[U_ a,U_ b,U_ c]⟩ (xsA (A4d r)) (ysA (A4d r)) os/\RunD ⟨A4d r,[kq q,kq u,kq z],[U_ a,U_ b,U_ c]⟩ (A8r ⟨A4d r,[kq q,kq u,kq z],[U_ a,U_ b,U_ c]⟩ os) ks ul s:=by
 obtain⟨q1,q2⟩:=E4v D;obtain⟨u1,u2⟩:=E4v E;have aa:OnePt ⟨A4d r,[kq q,kq u,kq z],[U_ a,U_ b,U_ c]⟩ _ _:=E8w T q1 q2 u1 u2 H I;obtain⟨Z,Y⟩:=C2q T q1 q2 u1 u2;have G:=E4w H I O;have ae:B5d r q u=true:=by
  obtain rfl|rfl:r=0\/r=1:=oM;·exact ra0 D E
  exact ra1 D E
 have ac:((ul0 r q u).getD 4 A4z).ok=true:=by
  obtain rfl|rfl:r=0\/r=1:=oM;·exact List.all_eq_true.1 (List.all_eq_true.1 ul_ok.1 q D) u E
  exact List.all_eq_true.1 (List.all_eq_true.1 ul_ok.2 q D) u E
 have ad:(⟨3 - r,1+r,0,3⟩:LF).ok=true:=by
  obtain rfl|rfl:r=0\/r=1:=oM;·decide
  decide
 have S:=Rep.div G (load_rep (r:=r) (a:=a) (b:=b) (c:=c)) (k:=mkR ((3 - r)*q.1*u.2+(1+r)*u.1*q.2) (q.2*u.2));have J:=S.val G ac;obtain⟨ab,X⟩:=E6j h aa (load_rep.val G ad) J (E8c Z Y);have af:J_ (U_ 0)=true:=dE
 have K:RunD ⟨A4d r,[kq q,kq u,kq z],[U_ a,U_ b,U_ c]⟩ [U_ 0,U_ 0,U_ 0,U_ 0,A3u (mkR ((3 - r)*a+(1+r)*b) 3) (mkR ((3 - r)*q.1*u.2+(1+r)*u.1*q.2) (q.2*u.2))] [kq q,kq u] (ul0 r q u) (a,b,c) :=
  ⟨G,(C5c _ 4).push S,D4n H I O,λt W=>by obtain rfl|rfl:r=0\/r=1:=oM;all_goals simp[A4d]at W;rcases W with rfl|rfl|rfl|rfl<;>rfl,rfl,ae⟩
 exact⟨_,_,_,_,D9n h ab K X rfl (by simp[af,J]),by rw[X];exact K⟩
theorem B9h {m:TMesh} {ks u:List TRat} {a b c:Int} {n:Nat} (G:-1<=a/\a<=3) (H:-1<=b/\b<=3) (I:-1<=c/\c<=3) (h:B4x ⟨m,u,[U_ a,U_ b,U_ c]⟩) (T:A3f m false=[]) (O:B4j m []=List.replicate n (U_ 0)) (S:n=m.1.length)
  (K:∀ t∈m.triangles,kC ks t=u.getD t.4.toNat A0h) (Y:kC ks A4p=u.getD 0 A0h) (X:C5b m ks (List.replicate n A4k) B6u=true) :
  ∃ os ks ul s,SdD ⟨m,u,[U_ a,U_ b,U_ c]⟩ (xsA m) (ysA m) os/\RunD ⟨m,u,[U_ a,U_ b,U_ c]⟩ (A8r ⟨m,u,[U_ a,U_ b,U_ c]⟩ os) ks ul s:=by
 obtain⟨J,D⟩:=E5g h T;rw[show(⟨m,u,[U_ a,U_ b,U_ c]⟩:TProblem).1=m from rfl,O]at D;have E:RunD ⟨m,u,[U_ a,U_ b,U_ c]⟩ (List.replicate n (U_ 0)) ks (List.replicate n A4k) (a,b,c):=⟨E4w G H I,C5c _ n,D4n G H I,K,Y,X⟩
 refine⟨_,_,_,_,D9n h J E D (by rw[List.length_replicate];exact S) ?_,by rw[D];exact E⟩;rw[List.all_eq_true];intro r W;rw[List.eq_of_mem_replicate W];decide
theorem E6s {p:TProblem} (h:B4x p):∃ os ks ul s,SdD p (xsA p.1) (ysA p.1) os/\RunD p (A8r p os) ks ul s:=by
 obtain⟨m,aa,ab⟩:=p;obtain⟨Y,k1,k2,rfl⟩:=E9k h.2.kl;obtain⟨T,W,X,rfl⟩:=E9k h.2.fl;obtain⟨q,I,rfl⟩:=E5j (h.2.k Y sI);obtain⟨S,J,rfl⟩:=E5j (h.2.k k1 sI);obtain⟨z,O,rfl⟩:=E5j (h.2.k k2 sI);obtain⟨a,u,rfl⟩:=h.2.f T sI;obtain⟨Z,D,rfl⟩:=h.2.f W sI;obtain⟨c,E,rfl⟩:=h.2.f X sI;rcases h.1 with⟨r,K,G⟩|⟨r,K,G⟩|G;·have H:m=A4d r:=G;subst H;exact E6i K I J u D E h
 ·have H:m=B0j r:=G
  subst H;obtain rfl|rfl|rfl:r=0\/r=1\/r=2:=oM
  ·exact B9h (n:=4) (ks:=[kq q]) u D E h dK dK rfl (λt b=>by simp[B0j]at b;rcases b with rfl|rfl<;>rfl) rfl (List.all_eq_true.1 rc0 q I)
  ·exact B9h (n:=4) (ks:=[kq q,kq S]) u D E h dK dK rfl (λt b=>by simp[B0j]at b;rcases b with rfl|rfl<;>rfl) rfl (rc1 I J)
  exact B9h (n:=4) (ks:=[kq q,A0h,kq z]) u D E h dK dK rfl (λt b=>by simp[B0j]at b;rcases b with rfl|rfl<;>rfl) rfl (rc2 I O)
 have H:m=C2p 0:=G;subst H;exact B9h (n:=8) (ks:=[kq q,kq S,kq z]) u D E h dK dK rfl (λt b=>by simp[C2p]at b;rcases b with rfl|rfl|rfl|rfl|rfl|rfl<;>rfl) rfl (re I J O)
theorem C6s:∀ {l L:List Int},L∈C6o l->L.length<=l.length
 | [],L,h=>by simp[C6o]at h;subst h;exact Nat.le_refl _
 |x::l,L,h=>by
  unfold C6o at h
  rcases List.mem_append.1 h with h|h
  ·exact Nat.le_succ_of_le (C6s h)
  obtain⟨L',h',rfl⟩:=List.mem_map.1 h
  exact Nat.succ_le_succ (C6s h')
theorem D7x {p:TProblem} {b:Int} (h:B4x p) (D:0<=b/\b<=5):∃ xs ys xs' ys' os R,SdD p xs ys os/\B3f (mkR b 5)=true/\C1k (A2z p os).indicators (mkR b 5)=true/\(A2z p os).indicators.length<20 /\
  (A5k (A2z p os).indicators (mkR b 5)).length<=48/\RefD p.1 (A5k (A2z p os).indicators (mkR b 5)) R xs ys xs' ys'/\CopD ⟨A2m p.1 R,p.2,p.3⟩/\(decide (A5k (A2z p os).indicators (mkR b 5)=[])=decide (A2m p.1 R=p.1)):=by
 obtain⟨os,ks,ul,s,u,I⟩:=E6s h;have Y:=u.sol.md.1.t48;have X:p.1.triangles.length<20:=by have:=B3s h.1;unfold C5z at this;simp only[Bool.and_eq_true,decide_eq_true_eq]at this;exact this.2.1.2
 have O:(A2z p os).indicators.length=p.1.triangles.length:=D3z p _ _;have S:=I.ind;have H:=I.tail.1;obtain⟨m1,m2,W,G⟩:=E3e (xs:=(A2z p os).indicators) S (by have J:=B2p (by have:(0:Int)<10 ^ 15:=dK;omega:-(10 ^ 15)<C5g p ks ul) H.2 (by have:(0:Int)<10 ^ 15:=dK;omega:-(10 ^ 15)<C5g p ks ul) H.2;have e:288*((10:Int) ^ 15*10 ^ 15)<10 ^ 40:=dK;have:=J.2;generalize C5g p ks ul*C5g p ks ul=x at *;generalize (10:Int) ^ 15*10 ^ 15=y at *;generalize (10:Int) ^ 40=z at *;omega) oM D.1 D.2;rw[O]at G;obtain⟨R,E,K⟩:=D4l h.1 G;have Z:=C6s G;refine⟨_,_,_,_,os,R,u,(D9d D.1 D.2).1,?_,oM,?_,E,⟨λq T=>List.all_eq_true.1 E.o.ok q T,Nat.le_trans E.o.n40 dE,Nat.le_trans E.o.t48 dE,⟨by rw[h.2.kl];decide,B6l u.sol.pr.dok⟩,⟨by rw[h.2.fl];decide,B6l u.sol.pr.sok⟩⟩,K⟩;·unfold C1k;rw[m1,m2,W];rfl
 have:(A8w p.1.triangles.length).length=p.1.triangles.length:=by simp[A8w]
 omega
end Go.Proofs.YtbhemnidcleaiaaGreat.X
