/- A part of the proof. -/
import Derived.Test.YtbhemnidcleaiaaGreatY23
import Derived.Test.YtbhemnidcleaiaaGreatY35
set_option linter.constructorNameAsVariable false
set_option maxHeartbeats 16000000
set_option maxRecDepth 10000
namespace Go.Proofs.YtbhemnidcleaiaaGreat.X
open Go.RowKit Go.XB Go.XN
section
def E7h (m:TMesh) (ks:List TRat) (ul fl:List LF) (v:Int) (f:TFan):Bool :=
 (bif f.closed then((C5w m.1 ks ul fl (A6g m.triangles f) v (A6g m.triangles f).length).getD (A6g m.triangles f).length A4z).zero else true)&&D9c (E8y m ks ul fl f v)
def F0w (ls:List LF):Int:=ls.foldl (λd l=>d*l.d / Int.gcd d l.d) 1
def E7r (m:TMesh) (ks:List TRat) (ul xs:List LF) (k:Nat) (t:TTri):List LP :=
 (B5b (Z_ m.1 t.a) (Z_ m.1 t.b) (Z_ m.1 t.c)).map λz=>D4q (E8v (Z_ m.1 t.a) (Z_ m.1 t.b) (Z_ m.1 t.c) (D3b (P_ m.triangles) xs k t) z) (D9j m.1 ks ul t)
def C4d (m:TMesh) (ks:List TRat) (ul xs:List LF):List LP:=((List.range m.triangles.length).map λk=>E7r m ks ul xs k (m.triangles.getD k A4p)).flatten
def E6k (m:TMesh) (ks:List TRat) (ul xs:List LF):Int:=F0w ((C4d m ks ul xs).flatMap λP=>[P.1,P.2])
def E7w (m:TMesh) (ks:List TRat) (t:TTri):Bool :=
 (decide (T_ (arC m.1 t)*(8 / T_ (arC m.1 t))=8)&&(J_ (arC m.1 t)&&(decide (0<R_ (arC m.1 t))&&decide (R_ (arC m.1 t)<100)))) &&
 (J_ (kC ks t)&&(decide (0<R_ (kC ks t))&&(decide (R_ (kC ks t)*(12 / R_ (kC ks t))=12)&&decide (T_ (kC ks t)<100))))
def C5b (m:TMesh) (ks:List TRat) (ul fl:List LF):Bool :=
 ((List.range m.1.length).all λv=>(A8x m.triangles v).all λf=>E7h m ks ul fl v f) &&
 (D9c (B2x m ks ul fl) &&
 (((List.range m.triangles.length).all λk=>(E3o m.1 fl (m.triangles.getD k A4p)).ok&&leq (E9j (P_ m.triangles) (B2x m ks ul fl) k) (E3o m.1 fl (m.triangles.getD k A4p))) &&
 ((decide (0<E6k m ks ul (B2x m ks ul fl))&&decide (E6k m ks ul (B2x m ks ul fl)<10 ^ 15)) &&
 ((m.triangles.all λt=>E7w m ks t)&&(C4d m ks ul (B2x m ks ul fl)).all λP=>E5n (E6k m ks ul (B2x m ks ul fl)) P))))
def B6u:List LF:=[⟨1,0,0,1⟩,⟨0,1,0,1⟩,⟨0,0,1,1⟩]
def k6:List TRat:=[mkR 1 1,mkR 2 1,mkR 3 1,mkR 4 1,mkR 1 2,mkR 3 2]
structure RunD (p:TProblem) (us:List TRat) (ks:List TRat) (ul:List LF) (s:A2c):Prop where
 hs:SrcIn s
 hu:RepL s ul us
 hf:RepL s B6u p.3
 kt:∀ t∈p.1.triangles,kC ks t=B4w p t
 kz:kC ks A4p=B4w p A4p
 run:C5b p.1 ks ul B6u=true
theorem C4g {r:TRat} (h:J_ r=true):A2e r=false:=by
 have:=(ratOkB_iff.1 h).den0;unfold A2e;cases b:r.2 with
 |nil=>exfalso;unfold T_ at this;rw[b]at this;revert this;decide
 |cons _ _=>rfl
theorem D8y {xs:List TRat} (h:∀ r∈xs,J_ r=true):xs.any A2e=false:=by
 rw[List.any_eq_false];intro r b;rw[C4g (h r b)];decide
theorem D7d {ts:List TTri} {f:TFan} {t:TTri} (h:t∈A6g ts f):t∈ts\/t=A4p:=by
 unfold A6g at h;obtain⟨k,_,rfl⟩:=List.mem_map.1 h;rw[List.getD_eq_getElem?_getD];cases b:ts[k.toNat]? with
 |none=>exact .inr rfl
 |some x=>exact .inl (List.mem_of_getElem? b)
section
variable {p:TProblem} {us ks:List TRat} {ul:List LF} {s:A2c}
theorem RunD.ko (h:RunD p us ks ul s):∀ f,D1o p ks (A6g p.1.triangles f):=λf t ht=>by
 rcases D7d ht with h1|rfl
 ·exact h.kt t h1
 exact h.kz
theorem RunD.flux (h:RunD p us ks ul s):RepL s (B2x p.1 ks ul B6u) (A4i p us):=E1h h.hs h.ko h.hu h.hf
theorem RunD.fans (h:RunD p us ks ul s) {v:Nat} (D:v<p.1.1.length) {f:TFan} (u:f∈A8x p.1.triangles v):E7h p.1 ks ul B6u v f=true:=by
 have b:=h.run;unfold C5b at b;rw[Bool.and_eq_true]at b;exact List.all_eq_true.1 (List.all_eq_true.1 b.1 v (List.mem_range.2 D)) f u
theorem RunD.ok (h:RunD p us ks ul s):D9c (B2x p.1 ks ul B6u)=true:=by
 have b:=h.run;unfold C5b at b;rw[Bool.and_eq_true,Bool.and_eq_true]at b;exact b.2.1
theorem RunD.fluxOk (h:RunD p us ks ul s):(A4i p us).all J_=true:=List.all_eq_true.2 λr hr=>h.flux.val h.hs h.ok r hr
theorem RunD.fanOk (h:RunD p us ks ul s) {v:Nat} (E:v<p.1.1.length) {f:TFan} (u:f∈A8x p.1.triangles v):(A6f p us f v).any A2e=false:=by
 have b:=h.fans E u;unfold E7h at b;rw[Bool.and_eq_true]at b;exact D8y λr D=>(D3x h.hs (h.ko f) h.hu h.hf).val h.hs b.2 r D
theorem RunD.fanCl (h:RunD p us ks ul s) {v:Nat} (I:v<p.1.1.length) {f:TFan} (H:f∈A8x p.1.triangles v) (G:f.closed=true) :
  J_ ((A2h (A1h p us f v) f.triangles.length).getD f.triangles.length A0h)=true/\A2v ((A2h (A1h p us f v) f.triangles.length).getD f.triangles.length A0h)=0:=by
 have u:=h.fans I H;unfold E7h at u;rw[Bool.and_eq_true,G]at u;have e:(A6g p.1.triangles f).length=f.triangles.length:=by simp[A6g]
 have E:=(B6i (v:=(v:Int)) h.hs (h.ko f) h.hu h.hf _ (Nat.le_refl (A6g p.1.triangles f).length)).2 (A6g p.1.triangles f).length;have b:=E.is_zero h.hs u.1;rw[e,<-C9j]at b;refine⟨b.1,?_⟩;have D:=b.2;unfold A9m at D;rwa [if_pos b.1]at D
theorem RunD.eq (h:RunD p us ks ul s) {k:Nat} {t:TTri} (D:p.1.triangles[k]?=some t):(B7d p t).2.isEmpty=false/\D1y (P_ p.1.triangles) (A4i p us) k=B7d p t:=by
 have b:=h.run;unfold C5b at b;rw[Bool.and_eq_true,Bool.and_eq_true,Bool.and_eq_true]at b;have G:=(List.getElem?_eq_some_iff.1 D).1;have u:=List.all_eq_true.1 b.2.2.1 k (List.mem_range.2 G);rw[show p.1.triangles.getD k A4p=t by rw[List.getD_eq_getElem?_getD,D];rfl,Bool.and_eq_true]at u;have E:=E1e (t:=t) h.hs h.hf;refine⟨C4g (E.val h.hs u.1),?_⟩;exact Rep.eq h.hs (E4d h.hs h.flux) E u.2
end
end
theorem ov_third:Ov 3 1 (mkR 1 3):=⟨dE,dK,dK,dK,rfl⟩
theorem D9o {a b c T:Int} (h0:0<=a) (h1:a<=c) (h2:0<=b) (h3:c*b<=T):0<=a*b/\a*b<=T :=
 ⟨Int.mul_nonneg h0 h2,Int.le_trans (Int.mul_le_mul_of_nonneg_right h1 h2) h3⟩
theorem E5w {b:Int} {a k ab ac ad:TRat} {D E G:Int} (W:0<b) (X:b<10 ^ 15) (J:(0<=D/\D<2*10 ^ 62)/\Ov (b*b) D ab) (K:(0<=E/\E<2*10 ^ 62)/\Ov (b*b) E ac) (O:(0<=G/\G<2*10 ^ 62)/\Ov (b*b) G ad)
  (Y:J_ a=true) (a0:0<R_ a) (ay:R_ a<100) (S:T_ a*(8 / T_ a)=8) (Z:J_ k=true) (aq:0<R_ k) (aa:R_ k*(12 / R_ k)=12) (k1:T_ k<100) :
  ∃ u,(0<=u/\u<=A7a)/\Ov (288*(b*b)) u (A3u (A0d a (A0d (mkR 1 3) (A0k (A0k (A0k (U_ 0) ab) ac) ad))) k):=by
 obtain⟨⟨aK,aN⟩,J⟩:=J;obtain⟨⟨aL,aO⟩,K⟩:=K;obtain⟨⟨aM,aP⟩,O⟩:=O;have aA:0<T_ a:=(ratOkB_iff.1 Y).den0;have aE:0<T_ k:=(ratOkB_iff.1 Z).den0;have af:0<=8 / T_ a:=Int.ediv_nonneg dE oM;have b1:8 / T_ a<=8:=Int.ediv_le_self _ dE;have ag:0<=12 / R_ k:=Int.ediv_nonneg dE oM;have ah:12 / R_ k<=12:=Int.ediv_le_self _ dE;have az:R_ k<=12:=by
  rcases Int.lt_or_le 12 (R_ k)with H|H;·rw[Int.ediv_eq_zero_of_lt dE H,Int.mul_zero]at aa;omega
  exact H
 have aB:T_ a<=8:=by
  rcases Int.lt_or_le 8 (T_ a)with H|H;·rw[Int.ediv_eq_zero_of_lt dE H,Int.mul_zero]at S;omega
  exact H
 have ai:(10:Int) ^ 15*10 ^ 15=10 ^ 30:=dK;have aC:0<b*b:=Int.mul_pos W W;have aD:b*b<10 ^ 30:=by have:=(B2p (by have:(0:Int)<10 ^ 15:=dK;omega:-(10 ^ 15)<b) X (by have:(0:Int)<10 ^ 15:=dK;omega:-(10 ^ 15)<b) X).2;rwa [ai]at this
 have aG:288*(10:Int) ^ 30<10 ^ 45:=dK;have aH:1000000000*(10:Int) ^ 62<10 ^ 100:=dK;have aI:1000000000*(10:Int) ^ 62<10 ^ 190:=dK;have aJ:1000000000*(10:Int) ^ 62<=A7a:=dK;generalize (10:Int) ^ 62=I at *;have ap:=J.zero;have ak:=ap.add J oM oM;have al:=ak.add K oM oM;have T:=al.add O oM oM;have aj:(0+D+E+G:Int)=D+E+G:=oM;rw[aj]at T;have ae:0<=D+E+G:=oM;have ax:D+E+G<=6*I:=oM;generalize D+E+G=h at *;generalize b*b=N at *;have am:=ov_third.mul T (P:=3*N) (t:=h) oM oM oM oM oM oM (by grind);have ar:=Ov.con Y (by have:(100:Int)<10 ^ 45:=dK;omega) oM oM;have p1:0<=R_ a*h/\R_ a*h<=600*I:=D9o (c:=100) oM oM ae oM;have p2:0<=(8 / T_ a)*(R_ a*h)/\(8 / T_ a)*(R_ a*h)<=4800*I:=D9o (c:=8) af b1 p1.1 oM;have an:=ar.mul am (P:=24*N) (t:=(8 / T_ a)*(R_ a*h)) oM oM oM oM oM oM (by
  calc R_ a*h*(24*N)=R_ a*h*(3*N)*8:=by grind
   _=R_ a*h*(3*N)*(T_ a*(8 / T_ a)):=by rw[S]
   _=_:=by grind)
 generalize (8 / T_ a)*(R_ a*h)=U at *;have ok:=Ov.con Z (by have:(100:Int)<10 ^ 45:=dK;omega) oM oM;have au:0<=T_ k*U/\T_ k*U<=480000*I:=D9o (c:=100) oM oM p2.1 oM;have aw:0<=(12 / R_ k)*(T_ k*U)/\(12 / R_ k)*(T_ k*U)<=5760000*I:=D9o (c:=12) ag ah au.1 oM;have aF:U*T_ k=T_ k*U:=Int.mul_comm _ _;have ao:=an.div ok aq (P:=288*N) (t:=(12 / R_ k)*(T_ k*U)) oM oM oM oM oM oM (by
  calc U*T_ k*(288*N)=U*T_ k*(24*N)*12:=by grind
   _=U*T_ k*(24*N)*(R_ k*(12 / R_ k)):=by rw[aa]
   _=_:=by grind)
 exact⟨_,⟨aw.1,oM⟩,ao⟩
theorem E1k (p:TProblem) (us u:List TRat) (n i:Nat) (h:i<n):(B3i p us u n).getD i A0h=D5o p us u i (p.1.triangles.getD i A4p):=by
 induction n with
 |zero=>omega
 |succ n ih =>
  rw[B3i,C4z,B6p]
  by_cases b:i<n
  ·rw[if_pos b];exact ih b
  have e:n=i:=oM
  subst e
  rw[if_neg b,Nat.sub_self,List.getD_cons_zero]
theorem E8f {s:A2c} {u:Int} {P:LP} {q:TPoint} (G:SrcIn s) (D:0<u) (E:u<10 ^ 15) (h:RepP s P q) (b:E5n u P=true):∃ S,(0<=S/\S<2*10 ^ 62)/\Ov (u*u) S (A1k q q):=by
 unfold E5n at b;rw[Bool.and_eq_true]at b;have o1:P.1.ok=true:=by have:=b.1;unfold E2a at this;simp only[Bool.and_eq_true]at this;exact this.2.2.2.2.2
 have o2:P.2.ok=true:=by have:=b.2;unfold E2a at this;simp only[Bool.and_eq_true]at this;exact this.2.2.2.2.2
 obtain⟨O,H,J⟩:=E2t G D E (h.fst o2) b.1;obtain⟨T,I,K⟩:=E2t G D E (h.snd o1) b.2;exact E9u D E H I J K
def C5g (p:TProblem) (ks:List TRat) (ul:List LF):Int:=E6k p.1 ks ul (B2x p.1 ks ul B6u)
theorem RunD.tail {p:TProblem} {us ks:List TRat} {ul:List LF} {s:A2c} (h:RunD p us ks ul s):(0<C5g p ks ul/\C5g p ks ul<10 ^ 15)/\(∀ t∈p.1.triangles,E7w p.1 ks t=true)/\∀ P∈C4d p.1 ks ul (B2x p.1 ks ul B6u),E5n (C5g p ks ul) P=true:=by
 have b:=h.run;unfold C5b at b;rw[Bool.and_eq_true,Bool.and_eq_true,Bool.and_eq_true,Bool.and_eq_true,Bool.and_eq_true,Bool.and_eq_true,decide_eq_true_eq,decide_eq_true_eq]at b;exact⟨b.2.2.2.1,List.all_eq_true.1 b.2.2.2.2.1,List.all_eq_true.1 b.2.2.2.2.2⟩
theorem RunD.ind {p:TProblem} {us ks:List TRat} {ul:List LF} {s:A2c} (h:RunD p us ks ul s):OvL (288*(C5g p ks ul*C5g p ks ul)) (C3k p us (A4i p us)):=by
 obtain⟨⟨I,J⟩,aa,ab⟩:=h.tail;intro i b;rw[C3k,B6p]at b;rw[C3k,E1k _ _ _ _ _ b];have O:p.1.triangles.getD i A4p∈p.1.triangles:=by rw[List.getD_eq_getElem?_getD,List.getElem?_eq_getElem b];exact List.getElem_mem b
 have u:=aa _ O;have K:=h.kt _ O;have ad:∀ P∈E7r p.1 ks ul (B2x p.1 ks ul B6u) i (p.1.triangles.getD i A4p),E5n (C5g p ks ul) P=true:=λP ac=>ab P (by unfold C4d;exact List.mem_flatten.2 ⟨_,List.mem_map.2 ⟨i,List.mem_range.2 b,rfl⟩,ac⟩);generalize C5g p ks ul=ai at *;generalize p.1.triangles.getD i A4p=t at *;have af:=D5z (es:=P_ p.1.triangles) (k:=(i:Int)) (t:=t) h.hs h.flux;have ae:=E1l h.hs K h.hu
 have ah:∀ z,RepP s (D4q (E8v (Z_ p.1.1 t.a) (Z_ p.1.1 t.b) (Z_ p.1.1 t.c) (D3b (P_ p.1.triangles) (B2x p.1 ks ul B6u) i t) z) (D9j p.1.1 ks ul t)) (A3y (A2q (Z_ p.1.1 t.a) (Z_ p.1.1 t.b) (Z_ p.1.1 t.c) (A7o (P_ p.1.triangles) (A4i p us) i t) z) (B2e p us t)) :=
  λz=>RepP.add h.hs (E4x h.hs af) ae
 have q:=λz ag=>E8f h.hs I J (ah z) (ad _ (List.mem_map.2 ⟨z,ag,rfl⟩));obtain⟨aj,X⟩:=q (A2f (Z_ p.1.1 t.b) (Z_ p.1.1 t.c)) (by simp[B5b]);obtain⟨ak,Y⟩:=q (A2f (Z_ p.1.1 t.c) (Z_ p.1.1 t.a)) (by simp[B5b]);obtain⟨al,Z⟩:=q (A2f (Z_ p.1.1 t.a) (Z_ p.1.1 t.b)) (by simp[B5b]);unfold E7w at u;simp only[Bool.and_eq_true,decide_eq_true_eq]at u;obtain⟨⟨S,T,c3,W⟩,D,E,G,H⟩:=u;rw[K]at D E G H;have r:=E5w I J X Y Z T c3 W S D E G H;have e:D5o p us (A4i p us) i t=A3u (A0d (arC p.1.1 t) (A0d (mkR 1 3) (A0k (A0k (A0k (U_ 0) (A1k (A3y (A2q (Z_ p.1.1 t.a) (Z_ p.1.1 t.b) (Z_ p.1.1 t.c) (A7o (P_ p.1.triangles) (A4i p us) i t) (A2f (Z_ p.1.1 t.b) (Z_ p.1.1 t.c))) (B2e p us t)) (A3y (A2q (Z_ p.1.1 t.a) (Z_ p.1.1 t.b) (Z_ p.1.1 t.c) (A7o (P_ p.1.triangles) (A4i p us) i t) (A2f (Z_ p.1.1 t.b) (Z_ p.1.1 t.c))) (B2e p us t)))) (A1k (A3y (A2q (Z_ p.1.1 t.a) (Z_ p.1.1 t.b) (Z_ p.1.1 t.c) (A7o (P_ p.1.triangles) (A4i p us) i t) (A2f (Z_ p.1.1 t.c) (Z_ p.1.1 t.a))) (B2e p us t)) (A3y (A2q (Z_ p.1.1 t.a) (Z_ p.1.1 t.b) (Z_ p.1.1 t.c) (A7o (P_ p.1.triangles) (A4i p us) i t) (A2f (Z_ p.1.1 t.c) (Z_ p.1.1 t.a))) (B2e p us t)))) (A1k (A3y (A2q (Z_ p.1.1 t.a) (Z_ p.1.1 t.b) (Z_ p.1.1 t.c) (A7o (P_ p.1.triangles) (A4i p us) i t) (A2f (Z_ p.1.1 t.a) (Z_ p.1.1 t.b))) (B2e p us t)) (A3y (A2q (Z_ p.1.1 t.a) (Z_ p.1.1 t.b) (Z_ p.1.1 t.c) (A7o (P_ p.1.triangles) (A4i p us) i t) (A2f (Z_ p.1.1 t.a) (Z_ p.1.1 t.b))) (B2e p us t)))))) (B4w p t):=by simp only[D5o,C1a,C5f,B5b,List.getD_cons_zero,List.getD_cons_succ,arC]
 rw[e];exact r
end Go.Proofs.YtbhemnidcleaiaaGreat.X
