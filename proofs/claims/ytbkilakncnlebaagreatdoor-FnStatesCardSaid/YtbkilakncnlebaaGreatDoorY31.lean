/- A part of the proof. -/
import Derived.Test.YtbkilakncnlebaaGreatDoorY26
import Derived.Test.YtbkilakncnlebaaGreatDoorY30
import Derived.Test.YtbkilakncnlebaaGreatDoorY21
set_option linter.constructorNameAsVariable false
set_option maxHeartbeats 16000000
set_option maxRecDepth 10000
open Bool renaming and_eq_true→CK,false→AF,true→AD
open List renaming all_eq_true→BJ,getD_eq_getElem?_getD→DY,mem_map→FM,mem_range→IQ,range→EZ
namespace Go.Proofs.YtbkilakncnlebaaGreatDoor.X
open Go.RowKit Go.XB Go.XN
structure SdD (p:TProblem) (xs ys:List Int) (os:Option TRat):Prop where
 sol:SolD p xs ys os
 flux:FluxD p (A8r p os)
 eq:EqD p (A4i p (A8r p os))
 ind:IndD p (A8r p os) (A4i p (A8r p os))
 t1:1<=p.1.triangles.length
def A2z (p:TProblem) (os:Option TRat):TSolved:=⟨A8r p os,C3k p (A8r p os) (A4i p (A8r p os)),A8v (C3k p (A8r p os) (A4i p (A8r p os)))⟩
theorem D3z (p:TProblem) (us fs:List TRat):(C3k p us fs).length=p.1.triangles.length:=B6p p us fs _
theorem E7b {α:Type} [Dat α] {w:World} {A:Option Addr} {n c:Nat} {xs:List α} {bs:List Nat} (h:Sl w A n c xs bs) (D:0<n):∃ a,A=some a:=by
 obtain⟨_,_,_,_,b⟩:=h;obtain⟨E,G,_,u,_⟩:=b D;exact⟨_,u⟩
attribute [local go_sem] L_ Go.XB.opAt N_ M_ Region.wanted yielded
attribute [local simp] N_ M_ MP.eq MP.agg MP.sl MP.box A0r
section
def E7h (m:TMesh) (ks:List TRat) (ul fl:List LF) (v:Int) (f:TFan):Bool :=
 (bif f.closed then((C5w m.1 ks ul fl (A6g m.triangles f) v (A6g m.triangles f).length).getD (A6g m.triangles f).length A4z).zero else AD)&&D9c (E8y m ks ul fl f v)
def F0w (ls:List LF):Int:=ls.foldl (λd l=>d*l.d / Int.gcd d l.d) 1
def E7r (m:TMesh) (ks:List TRat) (ul xs:List LF) (k:Nat) (t:TTri):List LP :=
 (B5b (Z_ m.1 t.a) (Z_ m.1 t.b) (Z_ m.1 t.c)).map λz=>D4q (E8v (Z_ m.1 t.a) (Z_ m.1 t.b) (Z_ m.1 t.c) (D3b (P_ m.triangles) xs k t) z) (D9j m.1 ks ul t)
def C4d (m:TMesh) (ks:List TRat) (ul xs:List LF):List LP:=((EZ m.triangles.length).map λk=>E7r m ks ul xs k (m.triangles.getD k A4p)).flatten
def E6k (m:TMesh) (ks:List TRat) (ul xs:List LF):Int:=F0w ((C4d m ks ul xs).flatMap λP=>[P.1,P.2])
def E7w (m:TMesh) (ks:List TRat) (t:TTri):Bool :=
 (decide (T_ (arC m.1 t)*(8 / T_ (arC m.1 t))=8)&&(J_ (arC m.1 t)&&(decide (0<R_ (arC m.1 t))&&decide (R_ (arC m.1 t)<100)))) &&
 (J_ (kC ks t)&&(decide (0<R_ (kC ks t))&&(decide (R_ (kC ks t)*(12 / R_ (kC ks t))=12)&&decide (T_ (kC ks t)<100))))
def C5b (m:TMesh) (ks:List TRat) (ul fl:List LF):Bool :=
 ((EZ m.1.length).all λv=>(A8x m.triangles v).all λf=>E7h m ks ul fl v f) &&
 (D9c (B2x m ks ul fl) &&
 (((EZ m.triangles.length).all λk=>(E3o m.1 fl (m.triangles.getD k A4p)).ok&&leq (E9j (P_ m.triangles) (B2x m ks ul fl) k) (E3o m.1 fl (m.triangles.getD k A4p))) &&
 ((decide (0<E6k m ks ul (B2x m ks ul fl))&&decide (E6k m ks ul (B2x m ks ul fl)<10 ^ 15)) &&
 ((m.triangles.all λt=>E7w m ks t)&&(C4d m ks ul (B2x m ks ul fl)).all λP=>E5n (E6k m ks ul (B2x m ks ul fl)) P))))
def B6u:List LF:=[⟨1,0,0,1⟩,⟨0,1,0,1⟩,⟨0,0,1,1⟩]
def k6:List TRat:=[mkR 1 1,mkR 2 1,mkR 3 1,mkR 4 1,mkR 1 2,mkR 3 2]
structure RunD (p:TProblem) (us:List TRat) (ks:List TRat) (ul:List LF) (s:A2c):Prop where
 hs:SrcIn s
 hu:RepL s ul us
 hf:RepL s B6u p.3
 kt:∀ t∈p.1.triangles,kC ks t=B4w p t
 kz:kC ks A4p=B4w p A4p
 run:C5b p.1 ks ul B6u=AD
theorem C4g {r:TRat} (h:J_ r=AD):A2e r=AF:=by
 have:=(ratOkB_iff.1 h).den0;unfold A2e;cases b:r.2 with
 |nil=>exfalso;unfold T_ at this;rw[b]at this;revert this;decide
 |cons _ _=>rfl
theorem D8y {xs:List TRat} (h:∀ r∈xs,J_ r=AD):xs.any A2e=AF:=by
 rw[List.any_eq_false];intro r b;rw[C4g (h r b)];decide
theorem D7d {ts:List TTri} {f:TFan} {t:TTri} (h:t∈A6g ts f):t∈ts\/t=A4p:=by
 unfold A6g at h;obtain⟨k,_,rfl⟩:=FM.1 h;rw[DY];cases b:ts[k.toNat]? with
 |none=>exact .inr rfl
 |some x=>exact .inl (List.mem_of_getElem? b)
section
variable {p:TProblem} {us ks:List TRat} {ul:List LF} {s:A2c}
theorem RunD.ko (h:RunD p us ks ul s):∀ f,D1o p ks (A6g p.1.triangles f):=λf t ht=>by
 rcases D7d ht with h1|rfl
 ·exact h.kt t h1
 exact h.kz
theorem RunD.flux (h:RunD p us ks ul s):RepL s (B2x p.1 ks ul B6u) (A4i p us):=E1h h.hs h.ko h.hu h.hf
theorem RunD.fans (h:RunD p us ks ul s) {v:Nat} (D:v<p.1.1.length) {f:TFan} (u:f∈A8x p.1.triangles v):E7h p.1 ks ul B6u v f=AD:=by
 have b:=h.run;unfold C5b at b;rw[CK]at b;exact BJ.1 (BJ.1 b.1 v (IQ.2 D)) f u
theorem RunD.ok (h:RunD p us ks ul s):D9c (B2x p.1 ks ul B6u)=AD:=by
 have b:=h.run;unfold C5b at b;rw[CK,CK]at b;exact b.2.1
theorem RunD.fluxOk (h:RunD p us ks ul s):(A4i p us).all J_=AD:=BJ.2 λr hr=>h.flux.val h.hs h.ok r hr
theorem RunD.fanOk (h:RunD p us ks ul s) {v:Nat} (E:v<p.1.1.length) {f:TFan} (u:f∈A8x p.1.triangles v):(A6f p us f v).any A2e=AF:=by
 have b:=h.fans E u;unfold E7h at b;rw[CK]at b;exact D8y λr D=>(D3x h.hs (h.ko f) h.hu h.hf).val h.hs b.2 r D
theorem RunD.fanCl (h:RunD p us ks ul s) {v:Nat} (O:v<p.1.1.length) {f:TFan} (H:f∈A8x p.1.triangles v) (G:f.closed=AD) :
  J_ ((A2h (A1h p us f v) f.triangles.length).getD f.triangles.length A0h)=AD/\A2v ((A2h (A1h p us f v) f.triangles.length).getD f.triangles.length A0h)=0:=by
 have u:=h.fans O H;unfold E7h at u;rw[CK,G]at u;have e:(A6g p.1.triangles f).length=f.triangles.length:=by simp[A6g]
 have E:=(B6i (v:=(v:Int)) h.hs (h.ko f) h.hu h.hf _ (Nat.le_refl (A6g p.1.triangles f).length)).2 (A6g p.1.triangles f).length;have b:=E.is_zero h.hs u.1;rw[e,<-C9j]at b;refine⟨b.1,?_⟩;have D:=b.2;unfold A9m at D;rwa [if_pos b.1]at D
theorem RunD.eq (h:RunD p us ks ul s) {k:Nat} {t:TTri} (D:p.1.triangles[k]?=some t):(B7d p t).2.isEmpty=AF/\D1y (P_ p.1.triangles) (A4i p us) k=B7d p t:=by
 have b:=h.run;unfold C5b at b;rw[CK,CK,CK]at b;have G:=(List.getElem?_eq_some_iff.1 D).1;have u:=BJ.1 b.2.2.1 k (IQ.2 G);rw[show p.1.triangles.getD k A4p=t by rw[DY,D];rfl,CK]at u;have E:=E1e (t:=t) h.hs h.hf;refine⟨C4g (E.val h.hs u.1),?_⟩;exact Rep.eq h.hs (E4d h.hs h.flux) E u.2
end
end
theorem ov_third:Ov 3 1 (mkR 1 3):=⟨dE,dK,dK,dK,rfl⟩
theorem D9o {a b c T:Int} (h0:0<=a) (h1:a<=c) (h2:0<=b) (h3:c*b<=T):0<=a*b/\a*b<=T :=
 ⟨Int.mul_nonneg h0 h2,Int.le_trans (Int.mul_le_mul_of_nonneg_right h1 h2) h3⟩
theorem E5w {b:Int} {a k ae af ag:TRat} {h D E:Int} (Z:0<b) (aa:b<10 ^ 15) (O:(0<=h/\h<2*10 ^ 62)/\Ov (b*b) h ae) (T:(0<=D/\D<2*10 ^ 62)/\Ov (b*b) D af) (W:(0<=E/\E<2*10 ^ 62)/\Ov (b*b) E ag)
  (ab:J_ a=AD) (a0:0<R_ a) (aB:R_ a<100) (X:T_ a*(8 / T_ a)=8) (ac:J_ k=AD) (aw:0<R_ k) (ad:R_ k*(12 / R_ k)=12) (k1:T_ k<100) :
  ∃ u,(0<=u/\u<=A7a)/\Ov (288*(b*b)) u (A3u (A0d a (A0d (mkR 1 3) (A0k (A0k (A0k (U_ 0) ae) af) ag))) k):=by
 obtain⟨⟨aL,aO⟩,O⟩:=O;obtain⟨⟨aM,aP⟩,T⟩:=T;obtain⟨⟨aN,aQ⟩,W⟩:=W;have aD:0<T_ a:=(ratOkB_iff.1 ab).den0;have aH:0<T_ k:=(ratOkB_iff.1 ac).den0;have ai:0<=8 / T_ a:=Int.ediv_nonneg dE oS;have b1:8 / T_ a<=8:=Int.ediv_le_self _ dE;have aj:0<=12 / R_ k:=Int.ediv_nonneg dE oS;have ak:12 / R_ k<=12:=Int.ediv_le_self _ dE;have aC:R_ k<=12:=by
  rcases Int.lt_or_le 12 (R_ k)with G|G;·rw[Int.ediv_eq_zero_of_lt dE G,Int.mul_zero]at ad;omega
  exact G
 have aE:T_ a<=8:=by
  rcases Int.lt_or_le 8 (T_ a)with G|G;·rw[Int.ediv_eq_zero_of_lt dE G,Int.mul_zero]at X;omega
  exact G
 have al:(10:Int) ^ 15*10 ^ 15=10 ^ 30:=dK;have aF:0<b*b:=Int.mul_pos Z Z;have aG:b*b<10 ^ 30:=by have:=(B2p (by have:(0:Int)<10 ^ 15:=dK;omega:-(10 ^ 15)<b) aa (by have:(0:Int)<10 ^ 15:=dK;omega:-(10 ^ 15)<b) aa).2;rwa [al]at this
 have aJ:1000000000*(10:Int) ^ 62<10 ^ 100:=dK;have aK:1000000000*(10:Int) ^ 62<=A7a:=dK;generalize (10:Int) ^ 62=H at *;have au:=O.zero;have an:=au.add O oS oS;have ao:=an.add T oS oS;have Y:=ao.add W oS oS;have am:(0+h+D+E:Int)=h+D+E:=oS;rw[am]at Y;have ah:0<=h+D+E:=oS;have aA:h+D+E<=6*H:=oS;generalize h+D+E=S at *;generalize b*b=N at *;have ap:=ov_third.mul Y (P:=3*N) (t:=S) oS oS oS oS oS oS (by grind);have ax:=Ov.con ab (by have:(100:Int)<10 ^ 45:=dK;omega) oS oS;have p1:0<=R_ a*S/\R_ a*S<=600*H:=D9o (c:=100) oS oS ah oS;have p2:0<=(8 / T_ a)*(R_ a*S)/\(8 / T_ a)*(R_ a*S)<=4800*H:=D9o (c:=8) ai b1 p1.1 oS;have aq:=ax.mul ap (P:=24*N) (t:=(8 / T_ a)*(R_ a*S)) oS oS oS oS oS oS (by
  calc R_ a*S*(24*N)=R_ a*S*(3*N)*8:=by grind
   _=R_ a*S*(3*N)*(T_ a*(8 / T_ a)):=by rw[X]
   _=_:=by grind)
 generalize (8 / T_ a)*(R_ a*S)=U at *;have ok:=Ov.con ac (by have:(100:Int)<10 ^ 45:=dK;omega) oS oS;have ay:0<=T_ k*U/\T_ k*U<=480000*H:=D9o (c:=100) oS oS p2.1 oS;have az:0<=(12 / R_ k)*(T_ k*U)/\(12 / R_ k)*(T_ k*U)<=5760000*H:=D9o (c:=12) aj ak ay.1 oS;have aI:U*T_ k=T_ k*U:=Int.mul_comm _ _;have ar:=aq.div ok aw (P:=288*N) (t:=(12 / R_ k)*(T_ k*U)) oS oS oS oS oS oS (by
  calc U*T_ k*(288*N)=U*T_ k*(24*N)*12:=by grind
   _=U*T_ k*(24*N)*(R_ k*(12 / R_ k)):=by rw[ad]
   _=_:=by grind)
 exact⟨_,⟨az.1,oS⟩,ar⟩
theorem E1k (p:TProblem) (us u:List TRat) (n i:Nat) (h:i<n):(B3i p us u n).getD i A0h=D5o p us u i (p.1.triangles.getD i A4p):=by
 induction n with
 |zero=>omega
 |succ n ih =>
  rw[B3i,C4z,B6p]
  by_cases b:i<n
  ·rw[if_pos b];exact ih b
  have e:n=i:=oS
  subst e
  rw[if_neg b,Nat.sub_self,List.getD_cons_zero]
theorem E8f {s:A2c} {u:Int} {P:LP} {q:TPoint} (G:SrcIn s) (D:0<u) (E:u<10 ^ 15) (h:RepP s P q) (b:E5n u P=AD):∃ S,(0<=S/\S<2*10 ^ 62)/\Ov (u*u) S (A1k q q):=by
 unfold E5n at b;rw[CK]at b;have o1:P.1.ok=AD:=by have:=b.1;unfold E2a at this;simp only[CK]at this;exact this.2.2.2.2.2
 have o2:P.2.ok=AD:=by have:=b.2;unfold E2a at this;simp only[CK]at this;exact this.2.2.2.2.2
 obtain⟨X,H,T⟩:=E2t G D E (h.fst o2) b.1;obtain⟨Y,O,W⟩:=E2t G D E (h.snd o1) b.2;exact E9u D E H O T W
def C5g (p:TProblem) (ks:List TRat) (ul:List LF):Int:=E6k p.1 ks ul (B2x p.1 ks ul B6u)
theorem RunD.tail {p:TProblem} {us ks:List TRat} {ul:List LF} {s:A2c} (h:RunD p us ks ul s):(0<C5g p ks ul/\C5g p ks ul<10 ^ 15)/\(∀ t∈p.1.triangles,E7w p.1 ks t=AD)/\∀ P∈C4d p.1 ks ul (B2x p.1 ks ul B6u),E5n (C5g p ks ul) P=AD:=by
 have b:=h.run;unfold C5b at b;rw[CK,CK,CK,CK,CK,CK,decide_eq_true_eq,decide_eq_true_eq]at b;exact⟨b.2.2.2.1,BJ.1 b.2.2.2.2.1,BJ.1 b.2.2.2.2.2⟩
theorem RunD.ind {p:TProblem} {us ks:List TRat} {ul:List LF} {s:A2c} (h:RunD p us ks ul s):OvL (288*(C5g p ks ul*C5g p ks ul)) (C3k p us (A4i p us)):=by
 obtain⟨⟨O,T⟩,ae,af⟩:=h.tail;intro i b;rw[C3k,B6p]at b;rw[C3k,E1k _ _ _ _ _ b];have X:p.1.triangles.getD i A4p∈p.1.triangles:=by rw[DY,List.getElem?_eq_getElem b];exact List.getElem_mem b
 have u:=ae _ X;have W:=h.kt _ X;have ah:∀ P∈E7r p.1 ks ul (B2x p.1 ks ul B6u) i (p.1.triangles.getD i A4p),E5n (C5g p ks ul) P=AD:=λP ag=>af P (by unfold C4d;exact List.mem_flatten.2 ⟨_,FM.2 ⟨i,IQ.2 b,rfl⟩,ag⟩);generalize C5g p ks ul=am at *;generalize p.1.triangles.getD i A4p=t at *;have aj:=D5z (es:=P_ p.1.triangles) (k:=(i:Int)) (t:=t) h.hs h.flux;have ai:=E1l h.hs W h.hu
 have al:∀ z,RepP s (D4q (E8v (Z_ p.1.1 t.a) (Z_ p.1.1 t.b) (Z_ p.1.1 t.c) (D3b (P_ p.1.triangles) (B2x p.1 ks ul B6u) i t) z) (D9j p.1.1 ks ul t)) (A3y (A2q (Z_ p.1.1 t.a) (Z_ p.1.1 t.b) (Z_ p.1.1 t.c) (A7o (P_ p.1.triangles) (A4i p us) i t) z) (B2e p us t)) :=
  λz=>RepP.add h.hs (E4x h.hs aj) ai
 have q:=λz ak=>E8f h.hs O T (al z) (ah _ (FM.2 ⟨z,ak,rfl⟩));obtain⟨an,ab⟩:=q (A2f (Z_ p.1.1 t.b) (Z_ p.1.1 t.c)) (by simp[B5b]);obtain⟨ao,ac⟩:=q (A2f (Z_ p.1.1 t.c) (Z_ p.1.1 t.a)) (by simp[B5b]);obtain⟨ap,ad⟩:=q (A2f (Z_ p.1.1 t.a) (Z_ p.1.1 t.b)) (by simp[B5b]);unfold E7w at u;simp only[CK,decide_eq_true_eq]at u;obtain⟨⟨Y,Z,c3,aa⟩,D,E,G,H⟩:=u;rw[W]at D E G H;have r:=E5w O T ab ac ad Z c3 aa Y D E G H;have e:D5o p us (A4i p us) i t=A3u (A0d (arC p.1.1 t) (A0d (mkR 1 3) (A0k (A0k (A0k (U_ 0) (A1k (A3y (A2q (Z_ p.1.1 t.a) (Z_ p.1.1 t.b) (Z_ p.1.1 t.c) (A7o (P_ p.1.triangles) (A4i p us) i t) (A2f (Z_ p.1.1 t.b) (Z_ p.1.1 t.c))) (B2e p us t)) (A3y (A2q (Z_ p.1.1 t.a) (Z_ p.1.1 t.b) (Z_ p.1.1 t.c) (A7o (P_ p.1.triangles) (A4i p us) i t) (A2f (Z_ p.1.1 t.b) (Z_ p.1.1 t.c))) (B2e p us t)))) (A1k (A3y (A2q (Z_ p.1.1 t.a) (Z_ p.1.1 t.b) (Z_ p.1.1 t.c) (A7o (P_ p.1.triangles) (A4i p us) i t) (A2f (Z_ p.1.1 t.c) (Z_ p.1.1 t.a))) (B2e p us t)) (A3y (A2q (Z_ p.1.1 t.a) (Z_ p.1.1 t.b) (Z_ p.1.1 t.c) (A7o (P_ p.1.triangles) (A4i p us) i t) (A2f (Z_ p.1.1 t.c) (Z_ p.1.1 t.a))) (B2e p us t)))) (A1k (A3y (A2q (Z_ p.1.1 t.a) (Z_ p.1.1 t.b) (Z_ p.1.1 t.c) (A7o (P_ p.1.triangles) (A4i p us) i t) (A2f (Z_ p.1.1 t.a) (Z_ p.1.1 t.b))) (B2e p us t)) (A3y (A2q (Z_ p.1.1 t.a) (Z_ p.1.1 t.b) (Z_ p.1.1 t.c) (A7o (P_ p.1.triangles) (A4i p us) i t) (A2f (Z_ p.1.1 t.a) (Z_ p.1.1 t.b))) (B2e p us t)))))) (B4w p t):=by simp only[D5o,C1a,C5f,B5b,List.getD_cons_zero,List.getD_cons_succ,arC]
 rw[e];exact r
end Go.Proofs.YtbkilakncnlebaaGreatDoor.X
