/- A part of the proof. -/
import Derived.Test.YtjcanieccnljfaaGreatY46
import Derived.Test.YtjcanieccnljfaaGreatY36
import Derived.Test.YtjcanieccnljfaaGreatY37
import Derived.Test.YtjcanieccnljfaaGreatY38
import Derived.Test.YtjcanieccnljfaaGreatY39
import Derived.Test.YtjcanieccnljfaaGreatY40
import Derived.Test.YtjcanieccnljfaaGreatY41
import Derived.Test.YtjcanieccnljfaaGreatY42
import Derived.Test.YtjcanieccnljfaaGreatY43
import Derived.Test.YtjcanieccnljfaaGreatY44
set_option linter.constructorNameAsVariable false
set_option maxHeartbeats 16000000
set_option maxRecDepth 10000
open Bool renaming and_eq_true→DJ,false→AH,true→AF
open Decidable renaming decide→BQ
open Int renaming lt_trans→KJ,mul_pos→GW
open List renaming all_eq_true→CU,eq_nil_of_length_eq_zero→IV,getD_eq_getElem?_getD→EH,getElem?_map→IR,length_map→JV,mem_cons→JH,mem_range→JW,replicate→DK
open Nat renaming le_refl→CE,le_trans→CJ
namespace Go.Proofs.YtjcanieccnljfaaGreat.X
open Go.RowKit Go.XB Go.XN
def D8j (m:TMesh):Bool:=m.triangles.all λt=>D2p m.1.length t&&(E3k (Z_ m.1 t.a) (Z_ m.1 t.b) (Z_ m.1 t.c)&&(J_ (A6c (Z_ m.1 t.a) (Z_ m.1 t.b) (Z_ m.1 t.c)) &&
 (((E3h m t).all λr=>!r.any A2e)&&(((B6b m t).all λr=>!r.any A2e)&&(BQ (0<=t.4)&&BQ (t.4<3))))))
theorem D5p {m:TMesh} {xs ys:List Int} (h:MeshI m xs ys) (E:B8e m) (u:D8j m=AF):MeshD m xs ys/\∀ t∈m.triangles,0<=t.4/\t.4<3:=by
 unfold D8j at u;simp only[DJ,CU,Bool.not_eq_true',decide_eq_true_eq]at u;refine⟨⟨h,E,?_,?_,?_,?_⟩,λt b=>(u t b).2.2.2.2.2⟩;·intro t b;have g:=D0i (u t b).2.1;exact⟨C7y (u t b).1,g.pr,(u t b).2.2.1⟩
 ·intro t b;exact D0i (u t b).2.1
 ·intro t b r D;exact(u t b).2.2.2.1 r D
 intro t b r D;exact(u t b).2.2.2.2.1 r D
def coA (r:TRat):Bool:=A2a r&&((BQ (T_ r=1) || (BQ (T_ r=2) || BQ (T_ r=4)))&&(BQ (-100<=R_ r)&&BQ (R_ r<=100)))
def shA (m:TMesh):Int:=C3g m.1 m.1.length
def xsA (m:TMesh):List Int:=m.1.map λp=>R_ p.x*(shA m / T_ p.x)
def ysA (m:TMesh):List Int:=m.1.map λp=>R_ p.y*(shA m / T_ p.y)
theorem E6q {m:TMesh} (h:m.1.all (λp=>A1b p&&(coA p.x&&coA p.y))=AF):E5p m.1 (xsA m) (ysA m):=by
 refine⟨by simp[xsA],by simp[ysA],λk p E=>?_⟩;have O:=CU.1 h p (List.mem_of_getElem? E);simp only[DJ]at O;obtain⟨D,Z,aa⟩:=O;unfold A1b at D;simp only[DJ]at D
 have G:∀ (r:TRat) (a S:Int),J_ r=AF->coA r=AF->a=R_ r*(S / T_ r)->CoS r a S:=λr a S T b W=>by
  unfold coA at b;simp only[DJ,Bool.or_eq_true,decide_eq_true_eq]at b;have V:=ratOkB_iff.1 T;have u:=V.1;unfold A2j at u;simp only[DJ,natOkB_iff,Bool.or_eq_true,Bool.not_eq_true',List.isEmpty_eq_false_iff]at u
  have Y:NegOk r.1:=λH=>by
   rcases u.2 with h|h;·rw[h]at H;cases H
   exact h
  have X:D124 (T_ r):=by
   rcases b.2.1 with h|h|h;·exact .inl h
   ·exact .inr (.inl h)
   exact .inr (.inr h)
  exact⟨b.1,u.1.2.1,Y,X,oS,W⟩
 refine⟨G _ _ _ D.1 Z ?_,G _ _ _ D.2 aa ?_⟩;·show at0 (xsA m) k=_;unfold at0 xsA;simp[EH,IR,E,shA]
 show at0 (ysA m) k=_;unfold at0 ysA;simp[EH,IR,E,shA]
def D8w (m:TMesh):Bool:=m.1.all (λp=>A1b p&&(coA p.x&&coA p.y))&&(decide m.1.Nodup&&E5k (xsA m) (ysA m) m.1.length m.triangles)
theorem B4i {m:TMesh} (h:D8w m=AF):MeshI m (xsA m) (ysA m)/\B8e m:=by
 unfold D8w at h;simp only[DJ,decide_eq_true_eq]at h;refine D8r rfl (λ_ _=>E6q h.1) ?_ h.2.1 h.2.2;rw[CU];intro p b;have:=CU.1 h.1 p b;simp only[DJ]at this;exact this.1
def E7l (m:TMesh) (v:Int) (f:TFan):Bool:=(f.triangles.all λk=>(BQ (0<=k)&&BQ (k<m.triangles.length))&&B6x (m.triangles.getD k.toNat A4p) v) &&
 ((BQ (f.triangles.length<=48)&&BQ (1<=f.triangles.length))&&(BQ (f.spokes.length=f.triangles.length+(if f.closed then 0 else 1))&&f.spokes.all λi=>BQ (0<=i)&&BQ (i<(P_ m.triangles).length)))
def B8t (m:TMesh):Bool:=D8j m&&((List.range m.1.length).all λv=>fanOk m.triangles v&&(BQ ((A8x m.triangles v).length<=48)&&(A8x m.triangles v).all (E7l m v)))
def F3b (m:TMesh):Bool:=(P_ m.triangles).all λe=>J_ (A4a (Z_ m.1 e.b) (Z_ m.1 e.a)).x&&J_ (A4a (Z_ m.1 e.b) (Z_ m.1 e.a)).y
def mfB (m m':TMesh) (R:List Bool):Bool :=
 ((D8w m&&B8t m)&&(D8w m'&&D8j m'))&&((BQ (clZ m=some R)&&BQ (A2m m R=m'))&&((BQ ((P_ m.triangles).length<=40)&&BQ (m.triangles.length<=48))&&((m.triangles.all λt=>B4h (P_ m.triangles) t)&&(F3b m&&D9c (cfF m)))))
def R0:List Bool:=[AF,AF,AH,AF,AH,AF,AH,AH]
def R1:List Bool:=[AH,AF,AH,AH,AH]
def R2:List Bool:=[AH,AF,AH,AH,AH,AH,AF,AH,AH,AF,AH,AH,AH]
set_option maxRecDepth 100000
theorem F3x:mfB (A4d 0) (hm0 0) R0=AF:=dK
theorem F4a:mfB (A4d 1) (hm0 1) R0=AF:=dK
theorem F3u:mfB (B0j 0) (hm1 0) R1=AF:=dK
theorem F3z:mfB (B0j 1) (hm1 1) R1=AF:=dK
theorem F4b:mfB (B0j 2) (hm1 2) R1=AF:=dK
theorem F3y:mfB (C2p 0) hm2 R2=AF:=dK
structure MeshF (m m':TMesh) (R:List Bool):Prop where
 md:MeshD m (xsA m) (ysA m)
 md':MeshD m' (xsA m') (ysA m')
 rg:∀ t∈m.triangles,0<=t.4/\t.4<3
 rg':∀ t∈m'.triangles,0<=t.4/\t.4<3
 ref:RefD m (upL m.triangles.length) R (xsA m) (ysA m) (xsA m') (ysA m')
 bi:A2m m R=m'
 el:(P_ m.triangles).length<=40
 sd:∀ t∈m.triangles,B4h (P_ m.triangles) t=AF
 fan:∀ v:Nat,v<m.1.length->fanOk m.triangles v=AF/\(A8x m.triangles v).length<=48/\∀ f∈A8x m.triangles v,E7l m v f=AF
 ed:∀ e∈P_ m.triangles,J_ (A4a (Z_ m.1 e.b) (Z_ m.1 e.a)).x=AF/\J_ (A4a (Z_ m.1 e.b) (Z_ m.1 e.a)).y=AF
 cf:D9c (cfF m)=AF
theorem B9h {m T:TMesh} {R:List Bool} (h:mfB m T R=AF):MeshF m T R:=by
 unfold mfB B8t F3b at h;obtain⟨cf,O⟩:∃ cf,D9c (cfF m)=cf:=⟨_,rfl⟩
 rw[O]at h;simp only[DJ,decide_eq_true_eq,CU,JW]at h;obtain⟨⟨⟨Z,ac,b⟩,ad,ae⟩,⟨af,ag⟩,⟨ah,ak⟩,H,aa,ab⟩:=h;subst ab;obtain⟨D,E⟩:=B4i Z;obtain⟨G,Y⟩:=B4i ad;obtain⟨W,ai⟩:=D5p D E ac;obtain⟨X,aj⟩:=D5p G Y ae;subst ag;exact⟨W,X,ai,aj,⟨D,G,H,af,oS,E⟩,rfl,ah,H,λv u=>⟨(b v u).1,(b v u).2.1,(b v u).2.2⟩,aa,O⟩
theorem C1z {m:TMesh} {rows:List Int} {n:Nat} {loc loc':Nat->List (List TRat)}:∀ k,(∀ j,j<k->loc j=loc' j)->A6h m rows n loc k=A6h m rows n loc' k
 |0,_=>rfl
 |k+1,h=>by rw[A6h,A6h,C1z k (λj hj=>h j oS),h k oS]
theorem E9n {p:TProblem} {ks:List TRat} (u:∀ t∈p.1.triangles,kC ks t=B4w p t):stM p=stM (prZ p.1 ks):=by
 unfold stM C0y;refine C1z _ λj h=>?_;have b:=u _ (B9b (d:=D6n) h);unfold kC B4w at b;unfold A9s prZ;rw[b]
theorem B9c {p:TProblem} {ks:List TRat} {s:A2c} {xs ys:List Int} (b:SrcIn s) (Z:RepL s B6u p.3) (aa:∀ t∈p.1.triangles,kC ks t=B4w p t) (u:MeshD p.1 xs ys) (E:ProbI p xs ys) (h:F2o p.1 ks=AF) :
  SolD p xs ys/\RepL s (uZ p.1 ks) (A8r p)/\LinD p (A8r p):=by
 unfold F2o at h;simp only[DJ,decide_eq_true_eq]at h;obtain⟨W,H,X,O,Y⟩:=h;have G:=E9n aa;have rl:=D0v b Z;have rx:RepL s (xZ p.1 ks) (D7x p):=by unfold xZ D7x;rw[G];exact E3i b rl
 have T:RepL s (uZ p.1 ks) (A8r p):=D6y rx;have ab:(A8r p).all J_=AF:=CU.2 (T.val b Y);refine⟨⟨u,E,?_,CU.2 (rl.val b H),D8y (rl.val b H),CU.2 (rx.val b O),D8y (rx.val b O),by rw[<-rl.1];exact X⟩,T,⟨λt D=>⟨(u.tri t D).it,E.reg t D,u.grad t D⟩,u.1.ok,u.1.n40,u.1.t48,E.dl,?_,ab⟩⟩;·rw[G];exact F2u W
 unfold A8r B4j;rw[JV,C0l]
theorem E7x {M u N v:Int} {x y:TRat} (b:Ov M u x) (D:Ov N v y) (h:v*M<=u*N):0<=D2m x y:=by
 have H:R_ x*M=u*T_ x:=by have:=A6l b.ok;rw[<-b.is]at this;exact this
 have O:R_ y*N=v*T_ y:=by have:=A6l D.ok;rw[<-D.is]at this;exact this
 have E:0<T_ x:=(ratOkB_iff.1 b.val).den0;have G:0<T_ y:=(ratOkB_iff.1 D.val).den0;have T:=b.m0;have W:=D.m0;unfold D2m;rw[b.val,D.val];show 0<=A6u x y;unfold A6u;have Y:0<=R_ x*T_ y - R_ y*T_ x:=by
  have X:0<T_ x*T_ y:=GW E G;have k1:(R_ x*T_ y - R_ y*T_ x)*(M*N)=(u*N - v*M)*(T_ x*T_ y):=by
   calc (R_ x*T_ y - R_ y*T_ x)*(M*N)=(R_ x*M)*(T_ y*N) - (R_ y*N)*(T_ x*M):=by grind
    _=_:=by rw[H,O];grind
  have k2:0<=(R_ x*T_ y - R_ y*T_ x)*(M*N):=by rw[k1];exact Int.mul_nonneg oS (Int.le_of_lt X)
  rw[Int.mul_comm]at k2;exact Int.nonneg_of_mul_nonneg_right k2 (GW T W)
 unfold sgn;split;·omega
 split<;>omega
theorem D1w {v:TRat} (h:J_ v=AF):A0d (U_ 0) v=U_ 0:=by
 have z:J_ (U_ 0)=AF:=dE;have u:R_ (U_ 0)=0:=dE;have b:T_ (U_ 0)=1:=dE;unfold A0d;rw[z,h,u,b];exact A9v (ratOkB_iff.1 z) (by rw[Int.one_mul];exact(ratOkB_iff.1 h).den0) (by rw[u,b];simp)
theorem E6s {v:TRat} (h:J_ v=AF):A0k (U_ 0) v=v:=by
 have z:J_ (U_ 0)=AF:=dE;have u:R_ (U_ 0)=0:=dE;have b:T_ (U_ 0)=1:=dE;unfold A0k;rw[z,h,u,b];exact A9v (ratOkB_iff.1 h) (by rw[Int.one_mul];exact(ratOkB_iff.1 h).den0) sI
theorem RepL.zip {s:A2c} {f:LF->LF->LF} {g:TRat->TRat->TRat} (h:∀ {a b x y},Rep s a x->Rep s b y->Rep s (f a b) (g x y)):∀ {l m:List LF} {v w:List TRat},RepL s l v->RepL s m w->RepL s (List.zipWith f l m) (List.zipWith g v w)
 | [],m,v,w,h1,h2=>by
  rw[IV h1.1.symm];simpa using RepL.nil
 |a::l,[],v,w,h1,h2=>by
  rw[IV h2.1.symm];simpa using RepL.nil
 |a::l,b::m,v,w,h1,h2=>by
  obtain⟨x,v,rfl⟩:∃ x v',v=x::v':=by
   cases v with
   |nil=>have:=h1.1;simp at this
   |cons x v=>exact⟨x,v,rfl⟩
  obtain⟨y,w,rfl⟩:∃ y w',w=y::w':=by
   cases w with
   |nil=>have:=h2.1;simp at this
   |cons x v=>exact⟨x,v,rfl⟩
  obtain⟨u,D⟩:=h1.tail
  obtain⟨b1,b2⟩:=h2.tail
  have ih:=RepL.zip h D b2
  refine⟨by simpa using ih.1,λi=>?_⟩
  match i with
  |0=>simpa using h u b1
  |i+1=>simpa using ih.2 i
theorem D1z {s:A2c} {m:TMesh} {d:TPoint} (b:SrcIn s) (h:Rep s lX d.x) (u:Rep s lY d.y):RepL s (cfF m) (A4w m d):=by
 refine⟨by simp[cfF,A4w],λi=>?_⟩;simp only[cfF,A4w,EH,IR];cases (P_ m.triangles)[i]? with
 |none=>exact Rep.bad
 |some e=>exact Rep.sub b (Rep.scale' b h) (Rep.scale' b u)
def ptO:TPoint:=⟨U_ 0,U_ 0⟩
theorem E2v {m:TMesh} (h:∀ e∈P_ m.triangles,J_ (A4a (Z_ m.1 e.b) (Z_ m.1 e.a)).x=AF/\J_ (A4a (Z_ m.1 e.b) (Z_ m.1 e.a)).y=AF):A4w m ptO=DK (P_ m.triangles).length (U_ 0):=by
 unfold A4w;rw[List.eq_replicate_iff];refine⟨sI,λG D=>?_⟩;obtain⟨e,E,rfl⟩:=List.mem_map.1 D;obtain⟨b,u⟩:=h e E;unfold E3w;show A3t (A0d (U_ 0) _) (A0d (U_ 0) _)=_;rw[D1w u,D1w b];decide
theorem D7j:∀ {fl:List TRat} {n:Nat},fl.length=n->(∀ r∈fl,J_ r=AF)->List.zipWith A0k (DK n (U_ 0)) fl=fl
 | [],n,h,_=>sI
 |x::fl,n,h,hv=>by
  obtain⟨n,rfl⟩:∃ k,n=k+1:=⟨n - 1,by simp at h;omega⟩
  rw[List.replicate_succ,List.zipWith_cons_cons,E6s (hv x sI),D7j (by simpa using h) (λr hr=>hv r (by simp[hr]))]
theorem E1k (p:TProblem) (us u:List TRat) (n i:Nat) (h:i<n):(B3i p us u n).getD i A0h=D5o p us u i (p.1.triangles.getD i A4p):=by
 induction n with
 |zero=>omega
 |succ n ih =>
  rw[B3i,C4z,B6p]
  by_cases b:i<n
  ·rw[if_pos b];exact ih b
  have e:n=i:=oS
  subst e
  rw[if_neg b,Nat.sub_self,List.getD_cons_zero]
theorem Ov.sub {M u v:Int} {r q:TRat} (b:Ov M u r) (G:Ov M v q) (u0:-(10 ^ 100)<u - v) (u1:u - v<10 ^ 100):Ov M (u - v) (A3t r q):=by
 refine⟨b.m0,b.m1,u0,u1,?_⟩;have W:Ov M (u - v) (toR ⟨u - v,M⟩):=⟨b.m0,b.m1,u0,u1,rfl⟩
 have H:(E3c ⟨u,M⟩ ⟨v,M⟩).ok=AF:=by
  have h:-(10 ^ 45)<M:=by have:=b.m0;have:(0:Int)<10 ^ 45:=dK;omega
  have a:=B2p u0 u1 h b.m1;have O:=B2p h b.m1 h b.m1;have D:(10:Int) ^ 100*10 ^ 45<10 ^ 190:=dK;have T:(10:Int) ^ 45*10 ^ 45<10 ^ 190:=dK;have E:u*M - v*M=(u - v)*M:=by grind
  refine E6n (GW b.m0 b.m0) (KJ O.2 T) ?_ ?_;·show _<u*M - v*M;rw[E];exact KJ (Int.neg_lt_neg D) a.1
  show u*M - v*M<_;rw[E];exact KJ a.2 D
 rw[b.is,G.is,E7d b.ok G.ok H];refine B7t H W.ok (decide_eq_true ?_);show(u*M - v*M)*M=(u - v)*(M*M);grind
theorem E9q {M U V:Int} {k l:Nat} {x y:TRat} (E:k<=48) (G:l<=48) (h:(0<=V/\V<=k*B5e)/\Ov M V x) (u:(0<=U/\U<=l*B5e)/\Ov M U y):Ov M (V - U) (A3t x y):=by
 have a:=C2t k oS;have D:=C2t l oS;have f:(10:Int) ^ 99<10 ^ 100:=dK;exact h.2.sub u.2 (by generalize (10:Int) ^ 99=S at *;generalize (10:Int) ^ 100=b at *;omega) (by generalize (10:Int) ^ 99=S at *;generalize (10:Int) ^ 100=b at *;omega)
theorem E7g {m D:TMesh} {ks:List TRat} {b u:Int} (h:psd 5 (C1k (E9w m D ks b u))=AF) (x:List Int) :
  (A0o (C6c u D ks (uZ D ks) D.triangles.length) x - A0o (C6c u m ks (uZ m ks) m.triangles.length) x)*(288*(b*b))<=A0o (C0a b m ks (uZ m ks) (X5 m ks) m.triangles.length) x*(16*(u*u)):=by
 have E:=F3g h x;unfold E9w at E;rw[C3c,C3c,D3l,D3l,D3l]at E;generalize A0o (C6c u D ks (uZ D ks) D.triangles.length) x=V at *;generalize A0o (C6c u m ks (uZ m ks) m.triangles.length) x=U at *;generalize A0o (C0a b m ks (uZ m ks) (X5 m ks) m.triangles.length) x=B at *;have e:B*(16*(u*u)) - (V - U)*(288*(b*b))=16*(u*u*B+(-(18*(b*b))*V+18*(b*b)*U)):=by grind
 generalize u*u*B+(-(18*(b*b))*V+18*(b*b)*U)=G at *;omega
theorem F3f {u:Int} (h:0<=u):0<=sgn u:=by unfold sgn;split<;>(try split)<;>omega
theorem F3d {p:TProblem} {us ks:List TRat} {s:A2c} (h:RunD p us ks (uZ p.1 ks) s):(X5 p.1 ks).length=(P_ p.1.triangles).length:=by
 have b:=h.flux.1;have u:(A4i p us).length=(P_ p.1.triangles).length:=C7s _ _ _;unfold X5 cfF;rw[List.length_zipWith,JV];omega
theorem E4l {p:TProblem} {aq:TMesh} {R:List Bool} {ks b:List TRat} {s:A2c} {D:Int} (E:RunD p (A8r p) ks (uZ p.1 ks) s) (ah:LinD p (A8r p)) (aa:ProbI p (xsA p.1) (ysA p.1)) (h:MeshF p.1 aq R)
  (ap:∀ i∈A3f p.1 AF,A2v ((A8r p).getD i.toNat A0h)=0) (G:RepL s (X5 p.1 ks) b) (X:F3e p.1 (X5 p.1 ks)=AF) (ai:E6i D p.1 ks (uZ p.1 ks) (X5 p.1 ks)=AF) :
  BdD p (xsA p.1) (ysA p.1) (A8r p) b/\Ov (288*(D*D)) (A0o (C0a D p.1 ks (uZ p.1 ks) (X5 p.1 ks) p.1.triangles.length) (sv s)) (A8v (C3k p (A8r p) b))/\∀ x∈C3k p (A8r p) b,0<=A9m x:=by
 have H:=E.hs;unfold F3e at X;rw[DJ]at X;obtain⟨am,an⟩:=X;have ac:b.all J_=AF:=CU.2 (G.val H am);have T:b.length=(P_ p.1.triangles).length:=by rw[<-G.1,F3d E]
 have eq:EqD p b:=⟨λt u=>⟨(ah.tri t u).1,aa.reg t u⟩,h.md.1.ok,h.md.1.n40,h.md.1.t48,aa.sl,T,λk t u=>by have al:=(List.getElem?_eq_some_iff.1 u).1;have W:=CU.1 an k (JW.2 al);rw[show p.1.triangles.getD k A4p=t by rw[EH,u];rfl,DJ]at W;have aj:=E1e (t:=t) H E.hf;exact⟨C4g (aj.val H W.1),Rep.eq H (E4d H G) aj W.2⟩⟩
 have ab:∀ x∈C3k p (A8r p) b,∃ O,0<=O/\Ov (288*(D*D)) O x:=λx Z=>by
  obtain⟨i,af,rfl⟩:=List.getElem_of_mem Z;have ag:i<p.1.triangles.length:=by rw[<-D3z p (A8r p) b];exact af
  have ad:=E8w E G ai ag;have e:(C3k p (A8r p) b)[i]=D5o p (A8r p) b i (p.1.triangles.getD i A4p):=by rw[<-E1k p (A8r p) b _ i ag,EH];show _=(C3k p (A8r p) b)[i]?.getD A0h;rw[List.getElem?_eq_getElem af];rfl
  rw[e];exact⟨_,ad.1.1,ad.2⟩
 have ae:=D9h E G ai h.md.1.t48 p.1.triangles.length (CE _);refine⟨⟨aa,h.md.es,ap,⟨h.md.1,T,ac⟩,eq,⟨ah,T,ac,λt u=>?_,D8y λr ao=>?_⟩,h.md.1.t1,ae.2.val⟩,ae.2,λx Z=>?_⟩;·have:=h.sd t u;unfold B4h at this;simp only[DJ]at this;exact this
 ·obtain⟨O,_,Y⟩:=ab r ao;exact Y.val
 obtain⟨O,ak,Y⟩:=ab x Z;rw[Y.sign];exact F3f ak
theorem B1c {n d:Int} (b:0<d) (h:d<=1000) (u:-100000<=n) (D:n<=100000):(Q.ok ⟨n,d⟩)=AF:=by
 have f:(100000:Int)<10 ^ 190:=dK;exact E6n b oS oS oS
theorem D4n {a b c X h:Int} (u:-1<=a/\a<=3) (D:-1<=b/\b<=3) (E:-1<=c/\c<=3):RepL (a,b,c,X,h) B6u [U_ a,U_ b,U_ c]:=by
 refine⟨rfl,λi=>?_⟩;match i with
 |0=>exact λ_=>(B9z oS oS).trans (congrArg (λn=>toR ⟨n,1⟩) (by omega:a=1*a+(0*b+(0*c+(0*X+0*h)))))
 |1=>exact λ_=>(B9z oS oS).trans (congrArg (λn=>toR ⟨n,1⟩) (by omega:b=0*a+(1*b+(0*c+(0*X+0*h)))))
 |2=>exact λ_=>(B9z oS oS).trans (congrArg (λn=>toR ⟨n,1⟩) (by omega:c=0*a+(0*b+(1*c+(0*X+0*h)))))
 |n+3=>exact Rep.bad
theorem E4w {a b c X Y:Int} (ha:-1<=a/\a<=3) (hb:-1<=b/\b<=3) (hc:-1<=c/\c<=3) (hX:-60<=X/\X<=60) (hY:-60<=Y/\Y<=60):SrcIn (a,b,c,X,Y) :=
 ⟨by show -60<=a;omega,by show a<=60;omega,by show -60<=b;omega,by show b<=60;omega,by show -60<=c;omega,by show c<=60;omega,hX.1,hX.2,hY.1,hY.2⟩
theorem E1a {a b c X Y:Int}:Rep (a,b,c,X,Y) lX (toR ⟨X,12⟩):=λ_=>congrArg (λn=>toR ⟨n,12⟩) (by omega:X=0*a+(0*b+(0*c+(1*X+0*Y))))
theorem E0w {a b c X Y:Int}:Rep (a,b,c,X,Y) lY (toR ⟨Y,12⟩):=λ_=>congrArg (λn=>toR ⟨n,12⟩) (by omega:Y=0*a+(0*b+(0*c+(0*X+1*Y))))
theorem D2q {n:Int} (h:-100<=n/\n<=100):U_ n=toR ⟨12*n,12⟩:=by
 rw[B9z oS oS];exact B7t (B1c dE dE oS oS) (B1c dE dE oS oS) (decide_eq_true (by omega:n*12=12*n*1))
theorem F3o {x y q:Int} (h:inD x y q):∃ X Y,(-60<=X/\X<=60)/\(-60<=Y/\Y<=60)/\(ptD x y q).x=toR ⟨X,12⟩/\(ptD x y q).y=toR ⟨Y,12⟩:=by
 obtain⟨H,T,u⟩:=h;have b:(ptD x y q).y=toR ⟨12*y,12⟩:=D2q oS;rcases u with rfl|u;·exact⟨12*x,12*y,oS,oS,by rw[D4o];exact D2q oS,b⟩
 have e:∀ c:Int,(x*q+1*1)*12=(12*x+c)*(1*q)->-60<=12*x+c/\12*x+c<=60->∃ X Y,(-60<=X/\X<=60)/\(-60<=Y/\Y<=60)/\(ptD x y q).x=toR ⟨X,12⟩/\(ptD x y q).y=toR ⟨Y,12⟩:=λc G E=>by
  refine⟨12*x+c,12*y,E,oS,?_,b⟩;rw[E4c x y q oS];show A0k (U_ x) (mkR 1 q)=_;have O:-100<=x*q/\x*q<=100:=by obtain rfl|rfl|rfl:q=2\/q=3\/q=4:=oS;all_goals omega
  have k1:(Q.ok ⟨x,1⟩)=AF:=B1c dE dE oS oS;have k2:(Q.ok ⟨1,q⟩)=AF:=B1c oS oS dE dE;have D:(E0z ⟨x,1⟩ ⟨1,q⟩).ok=AF:=B1c (n:=x*q+1*1) (d:=1*q) oS oS oS oS;rw[B9z oS oS];refine(D9b k1 k2 D).trans (B7t D (B1c dE dE oS oS) (decide_eq_true G))
 obtain rfl|rfl|rfl:q=2\/q=3\/q=4:=oS;·exact e 6 oS oS
 ·exact e 4 oS oS
 exact e 3 oS oS
structure AnyD (p:TProblem) (d:TPoint) (R:List Bool) (xs ys xs' ys':List Int):Prop where
 iso:IsSolD p xs ys (A8r p)
 pt:A1b d=AF
 cfd:(A4w p.1 d).any A2e=AH
 cfl:(A4w p.1 d).length=(A4i p (A8r p)).length
 b1:BdD p xs ys (A8r p) (A4i p (A8r p))
 b2:BdD p xs ys (A8r p) (List.zipWith A0k (A4w p.1 d) (A4i p (A8r p)))
 imp:ImpD p R xs ys xs' ys'
 nn:∀ x∈C3k p (A8r p) (A4i p (A8r p)),0<=A9m x
 c1:0<=D2m (A8v (C3k p (A8r p) (List.zipWith A0k (A4w p.1 d) (A4i p (A8r p))))) (A3t (enL (A1z p R) (A8r (A1z p R))) (enL p (A8r p)))
 c2:0<=D2m (A8v (C3k p (A8r p) (A4i p (A8r p)))) (A3t (enL (A1z p R) (A8r (A1z p R))) (enL p (A8r p)))
theorem E6j (m:TMesh) (d:TPoint):(A4w m d).length=(P_ m.triangles).length:=by unfold A4w;rw[JV]
theorem B7g {m u:TMesh} {R:List Bool} {ks E:List TRat} {a b c x y q:Int} (h:MeshF m u R) (W:E3r m u ks=AF) (aj:∀ t∈m.triangles,kC ks t=E.getD t.4.toNat A0h) (bl:∀ t∈u.triangles,kC ks t=E.getD t.4.toNat A0h) (az:kC ks A4p=E.getD 0 A0h)
  (aw:E.length=3) (ax:E.all J_=AF) (aM:∀ r∈E,0<R_ r) (ag:-1<=a/\a<=3) (ah:-1<=b/\b<=3) (ai:-1<=c/\c<=3) (bj:inD x y q) :
  AnyD ⟨m,E,[U_ a,U_ b,U_ c]⟩ (ptD x y q) R (xsA m) (ysA m) (xsA u) (ysA u):=by
 obtain⟨H,O,aJ,aK,ap,aq⟩:=F3o bj
 have aA:[U_ a,U_ b,U_ c].all J_=AF:=CU.2 λr W=>by
  simp only[JH,List.not_mem_nil,or_false]at W;rcases W with rfl|rfl|rfl
  ·exact ratOkB_iff.2 (D6r oS oS)
  ·exact ratOkB_iff.2 (D6r oS oS)
  exact ratOkB_iff.2 (D6r oS oS)
 obtain⟨p,am⟩:∃ p:TProblem,p=⟨m,E,[U_ a,U_ b,U_ c]⟩:=⟨_,rfl⟩
 have bc:p.1=m:=by rw[am]
 have al:p.3=[U_ a,U_ b,U_ c]:=by rw[am]
 have ac:p.2=E:=by rw[am]
 rw[<-am];subst bc;have Y:∀ t∈p.1.triangles,kC ks t=B4w p t:=λt ay=>by rw[aj t ay,B4w,ac]
 have ae:ProbI p (xsA p.1) (ysA p.1):=⟨h.md.1,by rw[ac];exact aw,by rw[ac];exact ax,by rw[ac];exact aM,by rw[al];rfl,by rw[al];exact aA,h.rg⟩
 have G:A1z p R=⟨u,E,[U_ a,U_ b,U_ c]⟩:=by unfold A1z;rw[h.bi,al,ac]
 have aR:ProbI (A1z p R) (xsA u) (ysA u):=by rw[G];exact⟨h.md'.1,aw,ax,aM,rfl,aA,h.rg'⟩
 have an:∀ t∈(A1z p R).1.triangles,kC ks t=B4w (A1z p R) t:=by rw[G];intro t ay;exact bl t ay
 unfold E3r F3q at W;simp only[DJ]at W;obtain⟨⟨aS,bq⟩,ao,aU,aV,aW,aX,br,aZ⟩:=W;have af:∀ H O,RepL (a,b,c,H,O) B6u p.3:=λH O=>by rw[al];exact D4n ag ah ai
 have D:=E4w ag ah ai aJ aK;have Z:SrcIn (a,b,c,0,0):=E4w ag ah ai oS oS;obtain⟨aF,u1,aa⟩:=B9c D (af H O) Y h.md ae aS;obtain⟨_,u0,_⟩:=B9c Z (af 0 0) Y h.md ae aS;have aP:MeshD (A1z p R).1 (xsA u) (ysA u):=by rw[G];exact h.md'
 have bg:RepL (a,b,c,H,O) B6u (A1z p R).3:=by rw[G];exact D4n ag ah ai
 have aT:F2o (A1z p R).1 ks=AF:=by rw[G];exact bq
 obtain⟨a3,u2,a2⟩:=B9c D bg an aP aR aT;have aO:kC ks A4p=B4w p A4p:=by rw[az,B4w,ac];rfl
 have ab:RunD p (A8r p) ks (uZ p.1 ks) (a,b,c,H,O):=⟨D,u1,af H O,Y,aO,aU⟩
 have aE:RunD p (A8r p) ks (uZ p.1 ks) (a,b,c,0,0):=⟨Z,u0,af 0 0,Y,aO,aU⟩
 unfold F3r at ao;rw[DJ]at ao;have aD:∀ i∈A3f p.1 AF,A2v ((A8r p).getD i.toNat A0h)=0:=λi bk=>by have T:=(u1.2 i.toNat).is_zero D (CU.1 ao.1 i bk);have ad:=T.2;unfold A9m at ad;rwa [if_pos T.1]at ad
 have bf:FluxD p (A8r p):=⟨aa,ae.sl,λv X=>(h.fan v X).1,λv X f au=>by have T:=(h.fan v X).2.2 f au;unfold E7l at T;simp only[DJ,CU,decide_eq_true_eq]at T;obtain⟨b1,⟨b2,a4⟩,a5,a6⟩:=T;exact⟨λk aj=>⟨(b1 k aj).1.1,(b1 k aj).1.2,(b1 k aj).2⟩,b2,a4,a5,a6,λbi=>ab.fanCl X au bi,ab.fanOk X au⟩,λv X=>(h.fan v X).2.1,h.el,ab.fluxOk⟩
 have aI:(A4i p (A8r p)).length=(P_ p.1.triangles).length:=C7s _ _ _;have bm:IsSolD p (xsA p.1) (ysA p.1) (A8r p):=⟨aF,aa.ul,aa.uo,aD,by unfold D7i inN;rw[JV],by rw[E9n Y];exact E4b D (E1c D (E3b u1)) (D0v D (af H O)) ao.2,bf⟩
 have bv:RepL (a,b,c,H,O) (X5 p.1 ks) (List.zipWith A0k (A4w p.1 (ptD x y q)) (A4i p (A8r p))):=RepL.zip (λT ad=>Rep.add D T ad) (D1z D (by rw[ap];exact E1a) (by rw[aq];exact E0w)) ab.flux;have bu:RepL (a,b,c,0,0) (X5 p.1 ks) (A4i p (A8r p)):=by have a1:U_ 0=toR ⟨0,12⟩:=D2q (n:=0) oS;have ar:=RepL.zip (f:=C8u) (g:=A0k) (λT ad=>Rep.add Z T ad) (D1z (m:=p.1) (d:=ptO) Z (by show Rep _ lX (U_ 0);rw[a1];exact E1a) (by show Rep _ lY (U_ 0);rw[a1];exact E0w)) aE.flux;rw[E2v h.ed,D7j aI λr W=>CU.1 ab.fluxOk r W]at ar;exact ar
 obtain⟨a8,bp,-⟩:=E4l ab aa ae h aD bv aV aW;obtain⟨a7,bo,bn⟩:=E4l aE aa ae h aD bu aV aW;have a9:=D5j D u1 Y aX h.md.1.t48 p.1.triangles.length (CE _);have aY:enB (F3t p.1 u ks) (A1z p R).1 ks (uZ (A1z p R).1 ks)=AF:=by rw[G];exact br
 have aG:=D5j D u2 an aY (by rw[G];exact h.md'.1.t48) (A1z p R).1.triangles.length (CE _);have ba:=D5j Z u0 Y aX h.md.1.t48 p.1.triangles.length (CE _);have bh:RepL (a,b,c,0,0) B6u (A1z p R).3:=by rw[G];exact D4n ag ah ai
 obtain⟨_,bt,_⟩:=B9c Z bh an aP aR aT;have aH:=D5j Z bt an aY (by rw[G];exact h.md'.1.t48) (A1z p R).1.triangles.length (CE _);have aL:(A1z p R).1=u:=by rw[G]
 rw[aL]at aG aH;have aB:=h.md.1.t48;have aC:=h.md'.1.t48;have o1:=E9q aC aB aG a9;have aQ:=E9q aC aB aH ba;have bd:E2i (A1z p R) (A8r (A1z p R)) u.triangles.length=enL (A1z p R) (A8r (A1z p R)):=by unfold enL;rw[aL]
 have be:E2i p (A8r p) p.1.triangles.length=enL p (A8r p):=rfl;rw[bd,be]at o1 aQ;have aN:∀ ak,(-60<=ak/\ak<=60)->J_ (toR ⟨ak,12⟩)=AF:=λak ar=>A8q (B1c dE dE oS oS);refine⟨bm,?_,?_,by rw[E6j,aI],a7,a8,⟨⟨ae,h.ref,?_,aB⟩,aF,a3,aa,a2,o1.val⟩,bn,E7x bp o1 (E7g aZ _),E7x bo aQ (E7g aZ _)⟩;·unfold A1b;rw[ap,aq,aN H aJ,aN O aK];rfl
 ·exact D8y λr W=>(D1z (m:=p.1) (d:=ptD x y q) D (by rw[ap];exact E1a) (by rw[aq];exact E0w)).val D h.cf r W
 rw[G];exact⟨λz az=>CU.1 h.md'.1.ok z az,CJ h.md'.1.n40 dE,CJ aC dE,⟨by show E.length<=144;rw[aw];decide,B6l ax⟩,⟨by show 3<=144;decide,B6l aA⟩⟩
theorem E9k {α:Type} {l:List α} (h:l.length=3):∃ a b c,l=[a,b,c]:=by
 match l,h with
 | [a,b,c],_=>exact⟨a,b,c,rfl⟩
theorem IsK.ok {r:TRat} (h:IsK r):J_ r=AF/\0<R_ r:=by
 obtain⟨a,d,b,u,rfl⟩:=h;obtain rfl|rfl|rfl|rfl:a=1\/a=2\/a=3\/a=4:=oS;all_goals obtain rfl|rfl:d=1\/d=2:=oS
 all_goals decide +kernel
theorem E5j {r:TRat} (h:IsK r):∃ q∈ad6,r=kq q:=by
 obtain⟨a,d,b,u,rfl⟩:=h;obtain rfl|rfl|rfl|rfl:a=1\/a=2\/a=3\/a=4:=oS;all_goals obtain rfl|rfl:d=1\/d=2:=oS
 ·exact⟨(1,1),dE,rfl⟩
 ·exact⟨(1,2),dE,rfl⟩
 ·exact⟨(2,1),dE,rfl⟩
 ·exact⟨(1,1),dE,dK⟩
 ·exact⟨(3,1),dE,rfl⟩
 ·exact⟨(3,2),dE,rfl⟩
 ·exact⟨(4,1),dE,rfl⟩
 exact⟨(2,1),dE,dK⟩
theorem six {P:QI->Prop} (b:P (1,1)) (u:P (2,1)) (D:P (3,1)) (E:P (4,1)) (G:P (1,2)) (H:P (3,2)) {q:QI} (h:q∈ad6):P q:=by
 unfold ad6 at h;simp only[JH,List.not_mem_nil,or_false]at h;rcases h with rfl|rfl|rfl|rfl|rfl|rfl
 ·exact b
 ·exact u
 ·exact D
 ·exact E
 ·exact G
 exact H
theorem ra0 {q u:QI} (hq:q∈ad6) (hu:u∈ad6):B5d 0 q u=AF :=
 six (P:=λq=>B5d 0 q u=AF) (CU.1 F2k u hu) (CU.1 F1x u hu) (CU.1 F1n u hu) (CU.1 F0p u hu) (CU.1 F1v u hu) (CU.1 F2e u hu) hq
theorem ra1 {q u:QI} (hq:q∈ad6) (hu:u∈ad6):B5d 1 q u=AF :=
 six (P:=λq=>B5d 1 q u=AF) (CU.1 F2c u hu) (CU.1 F2b u hu) (CU.1 F1j u hu) (CU.1 F0e u hu) (CU.1 F1q u hu) (CU.1 F0m u hu) hq
theorem rc1 {q u:QI} (hq:q∈ad6) (hu:u∈ad6):C1u q u=AF :=
 six (P:=λq=>C1u q u=AF) (CU.1 F1a u hu) (CU.1 F2f u hu) (CU.1 F0a u hu) (CU.1 F1g u hu) (CU.1 F0b u hu) (CU.1 F1t u hu) hq
theorem rc2 {q u:QI} (hq:q∈ad6) (hu:u∈ad6):C2k q u=AF :=
 six (P:=λq=>C2k q u=AF) (CU.1 F0f u hu) (CU.1 F2a u hu) (CU.1 F0g u hu) (CU.1 F2i u hu) (CU.1 F1z u hu) (CU.1 F0q u hu) hq
theorem re_ {q:QI} (h0:∀ z∈ad6,A4b q (1,1) z=AF) (h1:∀ z∈ad6,A4b q (2,1) z=AF) (h2:∀ z∈ad6,A4b q (3,1) z=AF) (h3:∀ z∈ad6,A4b q (4,1) z=AF) (h4:∀ z∈ad6,A4b q (1,2) z=AF) (h5:∀ z∈ad6,A4b q (3,2) z=AF) {u z:QI} (hu:u∈ad6) (hz:z∈ad6):A4b q u z=AF :=
 six (P:=λu=>A4b q u z=AF) (h0 z hz) (h1 z hz) (h2 z hz) (h3 z hz) (h4 z hz) (h5 z hz) hu
theorem re {q u z:QI} (D:q∈ad6) (b:u∈ad6) (h:z∈ad6):A4b q u z=AF:=by
 refine six (P:=λq=>A4b q u z=AF) ?_ ?_ ?_ ?_ ?_ ?_ D;·exact re_ (CU.1 F2j) (CU.1 F1h) (CU.1 F1d) (CU.1 F0n) (CU.1 F1l) (CU.1 F2g) b h
 ·exact re_ (CU.1 F1f) (CU.1 F0r) (CU.1 F0t) (CU.1 F2h) (CU.1 E9z) (CU.1 F0s) b h
 ·exact re_ (CU.1 F0l) (CU.1 F0z) (CU.1 E9y) (CU.1 F0u) (CU.1 F1m) (CU.1 F0o) b h
 ·exact re_ (CU.1 F0d) (CU.1 F1r) (CU.1 F0i) (CU.1 F1b) (CU.1 F1c) (CU.1 F0h) b h
 ·exact re_ (CU.1 F0c) (CU.1 F1p) (CU.1 F1s) (CU.1 F0x) (CU.1 F0y) (CU.1 F1y) b h
 exact re_ (CU.1 F1o) (CU.1 F0j) (CU.1 F1i) (CU.1 F1u) (CU.1 F1k) (CU.1 F0v) b h
theorem D2i {p:TProblem} (h:B4x p) {x y q:Int} (G:inD x y q):∃ R xs ys xs' ys',AnyD p (ptD x y q) R xs ys xs' ys':=by
 have H:p.2.all J_=AF:=CU.2 λr Y=>(h.2.k r Y).ok.1;have O:∀ r∈p.2,0<R_ r:=λr Y=>(h.2.k r Y).ok.2;obtain⟨m,ah,ai⟩:=p;obtain⟨af,k1,k2,rfl⟩:=E9k h.2.kl;obtain⟨ac,ad,ae,rfl⟩:=E9k h.2.fl;obtain⟨v,T,rfl⟩:=E5j (h.2.k af sI);obtain⟨aa,Z,rfl⟩:=E5j (h.2.k k1 sI);obtain⟨z,ab,rfl⟩:=E5j (h.2.k k2 sI);obtain⟨a,u,rfl⟩:=h.2.f ac sI;obtain⟨ag,D,rfl⟩:=h.2.f ad sI;obtain⟨c,E,rfl⟩:=h.2.f ae sI;rcases h.1 with⟨r,Y,W⟩|⟨r,Y,W⟩|W
 ·have X:m=A4d r:=W
  subst X;obtain rfl|rfl:r=0\/r=1:=oS
  ·exact⟨_,_,_,_,_,B7g (ks:=[kq v,kq aa]) (B9h F3x) (ra0 T Z) (λt b=>by simp[A4d]at b;rcases b with rfl|rfl|rfl|rfl<;>rfl) (λt b=>by simp[hm0]at b;rcases b with rfl|rfl|rfl|rfl|rfl|rfl|rfl|rfl<;>rfl) rfl rfl H O u D E G⟩
  exact⟨_,_,_,_,_,B7g (ks:=[kq v,kq aa]) (B9h F4a) (ra1 T Z) (λt b=>by simp[A4d]at b;rcases b with rfl|rfl|rfl|rfl<;>rfl) (λt b=>by simp[hm0]at b;rcases b with rfl|rfl|rfl|rfl|rfl|rfl|rfl|rfl<;>rfl) rfl rfl H O u D E G⟩
 ·have X:m=B0j r:=W
  subst X;obtain rfl|rfl|rfl:r=0\/r=1\/r=2:=oS
  ·exact⟨_,_,_,_,_,B7g (ks:=[kq v]) (B9h F3u) (CU.1 rc0 v T) (λt b=>by simp[B0j]at b;rcases b with rfl|rfl<;>rfl) (λt b=>by simp[hm1]at b;rcases b with rfl|rfl|rfl|rfl<;>rfl) rfl rfl H O u D E G⟩
  ·exact⟨_,_,_,_,_,B7g (ks:=[kq v,kq aa]) (B9h F3z) (rc1 T Z) (λt b=>by simp[B0j]at b;rcases b with rfl|rfl<;>rfl) (λt b=>by simp[hm1]at b;rcases b with rfl|rfl|rfl|rfl<;>rfl) rfl rfl H O u D E G⟩
  exact⟨_,_,_,_,_,B7g (ks:=[kq v,A0h,kq z]) (B9h F4b) (rc2 T ab) (λt b=>by simp[B0j]at b;rcases b with rfl|rfl<;>rfl) (λt b=>by simp[hm1]at b;rcases b with rfl|rfl|rfl|rfl<;>rfl) rfl rfl H O u D E G⟩
 have X:m=C2p 0:=W;subst X;exact⟨_,_,_,_,_,B7g (ks:=[kq v,kq aa,kq z]) (B9h F3y) (re T Z ab) (λt b=>by simp[C2p]at b;rcases b with rfl|rfl|rfl|rfl|rfl|rfl<;>rfl) (λt b=>by simp[hm2]at b;rcases b with rfl|rfl|rfl|rfl|rfl|rfl|rfl|rfl|rfl|rfl|rfl|rfl<;>rfl) rfl rfl H O u D E G⟩
end Go.Proofs.YtjcanieccnljfaaGreat.X
