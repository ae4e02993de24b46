/- A part of the proof. -/
import Derived.Test.YtbkilakncnlebaaGreatDoorY4
import Derived.Deep.LoopGhost
import Derived.Lib.ItoaNum
import Derived.Laws.BytesArg
import Derived.Lib.Split
import Derived.Lib.AtoiAll
set_option linter.constructorNameAsVariable false
set_option maxHeartbeats 16000000
set_option maxRecDepth 10000
section
open Go.Lib renaming decDigits→FK
namespace Go.Proofs.YtbkilakncnlebaaGreatDoor.X
open Go.RowKit Go.XB Go.XN
attribute [local go_sem] L_ opAt N_ M_ Region.wanted yielded
attribute [local simp] N_ M_ MP.eq MP.agg MP.sl A0r
section
theorem B9n (a b:List UInt8):(⟨a.toArray⟩:ByteArray)++⟨b.toArray⟩=⟨(a++b).toArray⟩:=by
 apply ByteArray.ext;simp
theorem F2q:∀ (k u:Nat),u<10 ^ (k+1)->Lib.nDigits u<=k+1
 |0,u,h=>by rw[Lib.nDigits_small (by simpa using h)];exact Nat.le_refl _
 |k+1,u,h=>by
  by_cases h0:u<10
  ·rw[Lib.nDigits_small h0];omega
  rw[Lib.nDigits_big h0]
  have:=F2q k (u / 10) (by rw[Nat.pow_succ]at h;omega)
  omega
theorem E3p {u:Nat} (k:Nat) (h:u<10 ^ (k+1)):(FK u).length<=k+1:=by rw[Lib.decDigits_length];exact F2q k u h
theorem F5e (u:Nat):1<=(FK u).length:=by rw[Lib.decDigits_length];exact Lib.nDigits_pos u
attribute [local go_sem] B9n
end
def D6y (s:List UInt8):List UInt8:=List.replicate (9 - s.length) 48++s
def C4v (x:Int):List UInt8:=D6y (FK x.toNat)
def C2x:List Int->List UInt8
 | []=>[48]
 |x::r=>FK x.toNat++r.flatMap C4v
def B1g (xs:List Int):List UInt8:=C2x xs.reverse
def B1o (xs:List Int):List UInt8:=if A3m xs then B1g xs else []

theorem F3y {s:List UInt8} (h:s.length<=9):(D6y s).length=9:=by unfold D6y;simp;omega
theorem F5n {x:Int} (h:x<1000000000):(FK x.toNat).length<=9:=E3p 8 oS
theorem C9u {x:Int} (h:x<1000000000):(C4v x).length=9:=F3y (F5n h)
theorem C7i:∀ {r:List Int},(∀ x∈r,x<1000000000)->(r.flatMap C4v).length=9*r.length
 | [],_=>rfl
 |x::r,h=>by
  rw[List.flatMap_cons,List.length_append,C9u (h x sI),C7i (λy hy=>h y (by simp[hy]))]
  simp;omega
theorem E6l {xs:List Int} (h:A3m xs=true):(B1g xs).length<=540:=by
 obtain⟨D,E⟩:=natOkB_iff.1 h;have b:∀ x∈xs.reverse,x<1000000000:=λx G=>(E.1 x (List.mem_reverse.1 G)).2;have u:xs.reverse.length<=60:=by simpa using D
 unfold B1g;generalize xs.reverse=r at b u;cases r with
 |nil=>simp[C2x]
 |cons x r =>
  have:=F5n (b x sI)
  have e:=C7i (r:=r) (λy H=>b y (by simp[H]))
  simp at u
  simp only[C2x,List.length_append];omega
theorem C6p (xs:List Int):(B1o xs).length<=540:=by
 unfold B1o;split;·exact E6l (by assumption)
 simp
theorem F3v {xs:List Int} {m:Nat} {x:Int} (u:xs.length=m+1) (h:xs[m]?=some x):B1g xs=FK x.toNat++(xs.take m).reverse.flatMap C4v:=by
 have b:=List.take_add_one (l:=xs) (i:=m);rw[List.take_of_length_le oS,h]at b;unfold B1g;conv=>lhs;rw[b]
 simp[C2x]
def B1w (x:TBigInt):List UInt8:=if A2j x then(if x.neg then 45::B1o x.mag else B1o x.mag)else []
def A9t (r:TRat):List UInt8:=if J_ r then(if r.2=[1]then B1w r.1 else B1w r.1++47::B1o r.2)else []
theorem F2p (x:TBigInt):(B1w x).length<=541:=by
 have:=C6p x.mag;unfold B1w;split
 ·split
  ·simp;omega
  omega
 simp
theorem B7g (r:TRat):(A9t r).length<=1082:=by
 have:=F2p r.1;have:=C6p r.2;unfold A9t;split
 ·split
  ·omega
  simp;omega
 simp
end Go.Proofs.YtbkilakncnlebaaGreatDoor.X
end
open Go.Lib renaming decDigits→FK,itoa→FS,split→LD
open List renaming append_assoc→DM,cons_append→MD,foldl_cons→OO,getElem?_eq_some_iff→CQ,intercalate→OF,length_append→EF,length_cons→GW,length_pos_iff→MF,map_cons→JT,mem_append→CO,mem_cons→EM,mem_cons_of_mem→JA,mem_map→FM,mem_of_getElem?→CH
open Nat renaming add_mul→JZ,mul_le_mul_right→JQ
namespace Go.XN
open Go.Lib

theorem F7u (s:List UInt8) (c:UInt8) (j:Nat):occAt s [c] j=(s[j]?==some c):=by
 have e:s[j]?=(s.drop j).head?:=by rw[List.head?_drop]
 unfold occAt;rw[e];cases s.drop j with
 |nil=>rfl
 |cons a l=>simp only[List.isPrefixOf,List.head?_cons,Bool.and_true];rw[Option.some_beq_some,BEq.comm]
theorem D5j {a b:List UInt8} {c:UInt8} (h:c∉a):index (a++c::b) [c]=(a.length:Int):=by
 refine index_first sI (by rw[F7u];simp) λj u=>?_;rw[F7u,List.getElem?_append_left u];cases e:a[j]? with
 |none=>rfl
 |some x=>simp;intro D;exact h (D ▸ CH e)
theorem F3r {a:List UInt8} {c:UInt8} (h:c∉a):index a [c] = -1:=by
 refine index_none λj _=>?_;rw[F7u];cases e:a[j]? with
 |none=>rfl
 |some x=>simp;intro b;exact h (b ▸ CH e)
theorem F6b {a b:List UInt8} {c:UInt8} (h:c∉a):cut (a++c::b) [c]=(a,b,true):=by
 unfold cut;rw[D5j h,if_pos oS];simp
theorem F7s {a:List UInt8} {c:UInt8} (h:c∉a):cut a [c]=(a,[],false):=by
 unfold cut;rw[F3r h,if_neg oS]
theorem F3o (c:UInt8) (w:List UInt8):[c].intercalate [w]=w:=by simp[OF]
theorem B8w (c:UInt8) (w v:List UInt8) (r:List (List UInt8)):[c].intercalate (w::v::r)=w++c::[c].intercalate (v::r):=by
 simp[OF,List.intersperse]
theorem F2o {c:UInt8}:∀ ws:List (List UInt8),(∀ w∈ws,c∉w)->ws≠[]->LD ([c].intercalate ws) [c]=ws
 | [],_,h=>absurd rfl h
 | [w],h,_=>by
  rw[F3o];unfold LD;rw[count_miss (F3r (h w sI))];rfl
 |w::v::r,h,_=>by
  have hw:=h w sI
  have ih:=F2o (v::r) (λx hx=>h x (by simp[hx])) sI
  rw[B8w]
  unfold LD at ih ⊢
  rw[count_hit sI (D5j hw)]
  have e:(w++c::[c].intercalate (v::r)).drop (w.length+[c].length)=[c].intercalate (v::r):=by
   rw[<-List.drop_drop,List.drop_left];rfl
  rw[e,Nat.add_comm 1,splitK,if_neg (by rw[D5j hw];simp),D5j hw]
  simp only[Int.toNat_natCast]
  rw[e,ih];simp
def A1z (ls:List (List UInt8)):List UInt8:=ls.flatMap (·++[10])
theorem F4d:∀ ls:List (List UInt8),[(10:UInt8)].intercalate (ls++[[]])=A1z ls
 | []=>rfl
 | [w]=>by simp[OF,A1z]
 |w::v::r=>by
  have ih:=F4d (v::r)
  rw[MD,MD,B8w,<-MD,ih]
  simp[A1z]
theorem F4y:∀ ls:List (List UInt8),ls≠[]->[(10:UInt8)].intercalate ls++[10]=A1z ls
 | [],h=>absurd rfl h
 | [w],_=>by simp[OF,A1z]
 |w::v::r,_=>by
  have ih:=F4y (v::r) sI
  rw[B8w,DM,MD,ih]
  simp[A1z]
theorem F4e {ls:List (List UInt8)} (h:∀ w∈ls,(10:UInt8)∉w):LD (A1z ls) [10]=ls++[[]]:=by
 rw[<-F4d];exact F2o _ (λw u=>by rcases CO.1 u with b|b;exact h w b;simp at b;subst b;simp) sI
def B4g (c:UInt8):Prop:=48<=c.toNat/\c.toNat<=57
theorem E3r:∀ (u:Nat),∀ c∈decDigits u,B4g c:=by
 intro u;induction u using Nat.strongRecOn with
 |_ u ih =>
  intro c b
  rw[decDigits]at b
  split at b
  ·rename_i D
   simp at b;subst b
   simp[B4g];omega
  rename_i D
  rcases CO.1 b with h|h
  ·exact ih _ oS c h
  simp at h;subst h
  simp[B4g];omega
def C7o (l:List UInt8):Nat:=l.foldl (λa c=>10*a+(c.toNat - 48)) 0
theorem F3c (l:List UInt8) (c:UInt8):C7o (l++[c])=10*C7o l+(c.toNat - 48):=by simp[C7o]
theorem E5t:∀ u:Nat,C7o (decDigits u)=u:=by
 intro u;induction u using Nat.strongRecOn with
 |_ u ih =>
  rw[decDigits]
  split
  ·rename_i h
   have:(UInt8.ofNat (48+u)).toNat=48+u:=oR
   simp only[C7o,OO,List.foldl_nil];rw[this];omega
  rename_i h
  rw[F3c,ih _ oS]
  have:(UInt8.ofNat (48+u % 10)).toNat=48+u % 10:=oR
  rw[this];omega
theorem F5a (k:Nat) (l:List UInt8):C7o (List.replicate k 48++l)=C7o l:=by
 unfold C7o;rw[List.foldl_append];congr 1;induction k with
 |zero=>rfl
 |succ k ih=>rw[List.replicate_succ,OO];exact ih
theorem F7t (l:List UInt8):∀ (acc:Nat),(∀ c∈l,B4g c)->l.foldl (λa c=>10*a+(c.toNat - 48)) acc<1000000000000000000->parseUint10 acc l=.ok (l.foldl (λa c=>10*a+(c.toNat - 48)) acc):=by
 induction l with
 |nil=>intro acc _ _;rfl
 |cons c r ih =>
  intro acc u b
  have h:=u c sI
  have E:∀ (l:List UInt8) (x:Nat),x<=l.foldl (λa c=>10*a+(c.toNat - 48)) x:=by
   intro l;induction l with
   |nil=>intro x;exact Nat.le_refl _
   |cons d t it=>intro x;rw[OO];exact Nat.le_trans oS (it _)
  have G:=E r (10*acc+(c.toNat - 48))
  rw[OO]at b ⊢
  have H:=Nat.lt_of_le_of_lt G b
  unfold B4g at h
  rw[parseUint10,if_pos h,if_neg oS,if_neg oS,Nat.mul_comm acc 10]
  exact ih _ (λd D=>u d (by simp[D])) b
theorem F6k (u:Nat):decDigits u≠[]:=by
 intro h;have:=decDigits_length u;rw[h]at this;have:=nDigits_pos u;simp at *;omega
theorem F5k {n:Int} (H:0<=n) (O:n<1000000000000000000):atoiAll (itoa n)=.ok n:=by
 have E:itoa n=decDigits n.toNat:=by unfold itoa;rw[if_neg oS]
 rw[E];have b:=E5t n.toNat;have h:=E3r n.toNat;have u:=F6k n.toNat;generalize decDigits n.toNat=l at b h u;cases l with
 |nil=>exact absurd rfl u
 |cons c r =>
  have D:=h c sI
  unfold B4g at D
  have G:parseMag (c::r)=.ok n.toNat:=by unfold parseMag;rw[if_neg sI,F7t _ 0 h (by unfold C7o at b;rw[b];omega)];unfold C7o at b;rw[b]
  unfold atoiAll
  simp only[]
  rw[if_neg oS,G]
  simp only[]
  rw[if_neg oS,if_neg oS,if_neg oS]
  congr 1;omega
end Go.XN

namespace Go.Proofs.YtbkilakncnlebaaGreatDoor.X
open Go.RowKit Go.XB Go.XN
def numCh (c:UInt8):Prop:=B4g c\/c=45\/c=47
theorem F6q {c d:UInt8} (h:B4g c) (b:d.toNat<48\/57<d.toNat):c≠d:=by
 intro e;subst e;unfold B4g at h;omega
theorem F6r {s:List UInt8} (h:∀ c∈s,B4g c):∀ c∈D6y s,B4g c:=by
 intro c u;unfold D6y at u;rcases CO.1 u with b|b
 ·rw[(List.mem_replicate.1 b).2];unfold B4g;decide
 exact h c b
theorem F7b (x:Int):∀ c∈C4v x,B4g c:=F6r (E3r _)
theorem F5x (x:Int):C7o (C4v x)=x.toNat:=by unfold C4v D6y;rw[F5a,E5t]
theorem F5j (r:List Int):∀ c∈r.flatMap C4v,B4g c:=by
 intro c h;obtain⟨x,_,b⟩:=List.mem_flatMap.1 h;exact F7b x c b
theorem F4m:∀ r:List Int,∀ c∈C2x r,B4g c
 | [],c,h=>by simp[C2x]at h;subst h;unfold B4g;decide
 |x::r,c,h=>by
  rcases CO.1 h with h1|h1
  ·exact E3r _ c h1
  exact F5j r c h1
theorem D3l (xs:List Int):∀ c∈B1g xs,B4g c:=F4m _
theorem F3e (xs:List Int):B1g xs≠[]:=by
 unfold B1g;cases xs.reverse with
 |nil=>simp[C2x]
 |cons x r=>intro h;exact F6k _ (List.append_eq_nil_iff.1 h).1
theorem D5u {xs:List Int} (ab:A3m xs=true) {k:Nat} {x:Int} (b:xs[k]?=some x) :
  C7o (((B1g xs).take ((B1g xs).length - 9*k)).drop ((B1g xs).length - 9*k - 9))=x.toNat/\9*k<(B1g xs).length/\(B1g xs).length<=9*xs.length/\0<(B1g xs).length - 9*k:=by
 obtain⟨ae,X⟩:=natOkB_iff.1 ab;have T:∀ x∈xs,x<1000000000:=λx b=>(X.1 x b).2;have Z:k<xs.length:=(CQ.1 b).1;have ad:xs=xs.take k++x::xs.drop (k+1):=by have:=List.drop_eq_getElem_cons Z;rw[(CQ.1 b).2]at this;rw[<-this,List.take_append_drop]
 have W:((xs.take k).reverse.flatMap C4v).length=9*k:=by rw[C7i (λy D=>T y (List.mem_of_mem_take (List.mem_reverse.1 D)))];simp;omega
 have ac:xs.reverse=(xs.drop (k+1)).reverse++x::(xs.take k).reverse:=by
  conv=>lhs;rw[ad]
  simp
 have h:x<1000000000:=T x (CH b);have ag:=F5e x.toNat;have af:=F5n h;unfold B1g;rw[ac];cases O:(xs.drop (k+1)).reverse with
 |nil =>
  have ah:xs.length=k+1:=by have:=congrArg List.length O;simp at this;omega
  simp only[List.nil_append,C2x,EF,W]
  have G:(FK x.toNat).length+9*k - 9*k=(FK x.toNat).length:=oS
  have H:(FK x.toNat).length - 9=0:=oS
  rw[G,H,List.take_left,List.drop_zero]
  exact⟨E5t _,oS,oS,oS⟩
 |cons y r =>
  have D:∀ z∈y::r,z<1000000000:=λz E=>T z (by rw[<-O]at E;exact List.mem_of_mem_drop (List.mem_reverse.1 E))
  have aa:(y::r).length=xs.length - (k+1):=by rw[<-O];simp
  have ai:r.length+1=xs.length - (k+1):=by simpa using aa
  have ak:=F5e y.toNat
  have aj:=F5n (D y sI)
  have u:=C7i (r:=r) (λz E=>D z (by simp[E]))
  simp only[MD,C2x,List.flatMap_append,List.flatMap_cons]
  rw[<-DM,<-DM]
  have Y:(FK y.toNat++r.flatMap C4v++C4v x++(xs.take k).reverse.flatMap C4v).length=(FK y.toNat).length+9*r.length+9+9*k:=by simp only[EF,W,u,C9u h]
  rw[Y]
  have G:(FK y.toNat).length+9*r.length+9+9*k - 9*k=(FK y.toNat++r.flatMap C4v++C4v x).length:=by simp only[EF,u,C9u h];omega
  have H:(FK y.toNat++r.flatMap C4v++C4v x).length - 9=(FK y.toNat++r.flatMap C4v).length:=by simp only[EF,u,C9u h];omega
  rw[G,H,List.take_left,List.drop_left]
  refine⟨F5x x,oS,oS,?_⟩
  simp only[EF,u,C9u h];omega
theorem F2y {xs:List Int} (b:A3m xs=true) (h:xs≠[]):(B1g xs).length<=9*xs.length/\9*(xs.length - 1)<(B1g xs).length:=by
 have D:0<xs.length:=MF.2 h;have u:xs[xs.length - 1]?=some xs[xs.length - 1]:=List.getElem?_eq_getElem oS;have:=D5u b u;exact⟨this.2.2.1,this.2.1⟩
theorem F5p {x:TBigInt} (h:A2j x=true) (b:A3m x.mag=true):B1w x=if x.neg then 45::B1g x.mag else B1g x.mag:=by
 unfold B1w B1o;rw[if_pos h];simp[b]
theorem F3p (xs:List Int):∀ c∈B1o xs,B4g c:=by
 intro c b;unfold B1o at b;split at b;·exact D3l xs c b
 simp at b
theorem F4s (x:TBigInt):∀ c∈B1w x,B4g c\/c=45:=by
 intro c b;unfold B1w at b;split at b
 ·split at b
  ·rcases EM.1 b with h|h
   ·exact .inr h
   exact .inl (F3p _ c h)
  exact .inl (F3p _ c b)
 simp at b
theorem F7q (r:TRat):∀ c∈A9t r,numCh c:=by
 intro c h;unfold A9t at h;split at h
 ·split at h
  ·rcases F4s _ c h with b|b
   ·exact .inl b
   exact .inr (.inl b)
  rcases CO.1 h with b|b
  ·rcases F4s _ c b with b|b
   ·exact .inl b
   exact .inr (.inl b)
  rcases EM.1 b with b|b;·exact .inr (.inr b)
  exact .inl (F3p _ c b)
 simp at h
theorem numCh.ne {c d:UInt8} (h:numCh c) (b:d.toNat<45\/57<d.toNat):c≠d:=by
 rcases h with h|h|h;·exact F6q h oS
 ·subst h;intro e;subst e;simp at b
 subst h;intro e;subst e;simp at b
theorem D1w (r:TRat) {d:UInt8} (hd:d.toNat<45\/57<d.toNat):d∉A9t r:=λh=>(F7q r d h).ne hd rfl
theorem F4h (x:TBigInt):(47:UInt8)∉B1w x:=λh=>by
 rcases F4s x _ h with h|h
 ·unfold B4g at h;simp at h
 simp at h
theorem F6j {n:Int} (h:0<=n):∀ c∈FS n,B4g c:=by
 have b:FS n=FK n.toNat:=by unfold FS;rw[if_neg oS]
 rw[b];exact E3r _
theorem F5f {n:Int} (h:0<=n) {d:UInt8} (hd:d.toNat<45\/57<d.toNat):d∉FS n:=λhm=>F6q (F6j h d hm) oS rfl
def C7m (p:TPoint):List UInt8:=A9t p.x++44::A9t p.y
def ptW (p:TPoint):List (List UInt8):=[[112],C7m p]
def C2g (t:TTri):List Int:=[t.a,t.b,t.c,t.4,t.5]
def D1d (t:TTri):List (List UInt8):=[116]::(C2g t).map FS
def B1c (word:List UInt8) (u:List TRat):List (List UInt8):=word::u.map A9t
def kW:List UInt8:=[107]
def fW:List UInt8:=[102]
def C8m:List UInt8:=[112,97,114,116]
def C9d (r:TReport):List (List UInt8):=[114]::FS r.triangles::[r.energy,r.bound].map A9t
def A6d (ws:List (List UInt8)):List UInt8:=[(32:UInt8)].intercalate ws
def A5k (m:TMesh):List (List UInt8):=(m.1.map λp=>A6d (ptW p))++m.triangles.map λt=>A6d (D1d t)
def A5h (p:TProblem):List (List UInt8):=A5k p.1++[A6d (B1c kW p.2),A6d (B1c fW p.3)]
def A5d (s:TState):List (List UInt8):=A5h s.problem++(A6d (B1c C8m [s.part])::s.reports.map λr=>A6d (C9d r))
def B9a (m:TMesh):List UInt8:=A1z (A5k m)
def B8l (p:TProblem):List UInt8:=A1z (A5h p)
def C1k (s:TState):List UInt8:=A1z (A5d s)
theorem D3v {ws:List (List UInt8)} {c:UInt8} (u:c≠32) (h:∀ w∈ws,c∉w):c∉A6d ws:=by
 unfold A6d;induction ws with
 |nil=>simp[OF]
 |cons w r ih =>
  cases r with
  |nil=>rw[F3o];exact h w sI
  |cons v r =>
   rw[B8w]
   intro D
   rcases CO.1 D with b|b
   ·exact h w sI b
   rcases EM.1 b with b|b
   ·exact u b
   exact ih (λx E=>h x (by simp[E])) b
theorem C4x {ws:List (List UInt8)} (h:∀ w∈ws,(32:UInt8)∉w) (hn:ws≠[]):LD (A6d ws) [32]=ws:=F2o ws h hn
def F2t (t:TTri):Prop:=∀ x∈C2g t,0<=x/\x<1000000
theorem F7w (p:TPoint):∀ w∈ptW p,(32:UInt8)∉w:=by
 intro w h;simp[ptW]at h;rcases h with rfl|rfl
 ·simp
 unfold C7m;intro b;rcases CO.1 b with b|b
 ·exact D1w _ dE b
 rcases EM.1 b with b|b;·simp at b
 exact D1w _ dE b
theorem F6f (p:TPoint):∀ w∈ptW p,(10:UInt8)∉w:=by
 intro w h;simp[ptW]at h;rcases h with rfl|rfl
 ·simp
 unfold C7m;intro b;rcases CO.1 b with b|b
 ·exact D1w _ dE b
 rcases EM.1 b with b|b;·simp at b
 exact D1w _ dE b
theorem F5i {t:TTri} (D:F2t t) {d:UInt8} (u:d.toNat<45):∀ w∈D1d t,d∉w:=by
 intro w b;rcases EM.1 b with rfl|b
 ·intro h;simp at h;subst h;simp at u
 obtain⟨x,E,rfl⟩:=FM.1 b;exact F5f (D x E).1 oS
theorem F3z {word:List UInt8} {u:List TRat} {d:UInt8} (D:d.toNat<45) (h:d∉word):∀ w∈B1c word u,d∉w:=by
 intro w b;rcases EM.1 b with rfl|b
 ·exact h
 obtain⟨x,_,rfl⟩:=FM.1 b;exact D1w _ oS
theorem F5d {r:TReport} (u:0<=r.triangles) {d:UInt8} (h:d.toNat<45):∀ w∈C9d r,d∉w:=by
 intro w b;rcases EM.1 b with rfl|b
 ·intro b;simp at b;subst b;simp at h
 rcases EM.1 b with rfl|b;·exact F5f u oS
 obtain⟨x,_,rfl⟩:=FM.1 b;exact D1w _ oS
theorem F6t {xs:List Int} (h:xs.getLast?≠some 0):trim xs=xs:=by
 rcases List.eq_nil_or_concat xs with e|⟨l,x,e⟩;·rw[e];rfl
 rw[List.concat_eq_append]at e;rw[e]at h ⊢;exact C0p (by intro e;subst e;simp at h)
theorem F5o {xs:List Int} (u:A3m xs=true):∃ ys:List Int,trim ys=xs/\(∀ k,9*k<(B1g xs).length↔k<ys.length) /\
  (∀ (k:Nat) x,ys[k]?=some x->C7o (((B1g xs).take ((B1g xs).length - 9*k)).drop ((B1g xs).length - 9*k - 9))=x.toNat/\0<=x/\x<1000000000)/\ys.length<=60/\0<ys.length:=by
 obtain⟨E,D⟩:=natOkB_iff.1 u;have G:=D.1;by_cases h:xs=[]
 ·subst h
  refine⟨[0],dE,λk=>?_,λk x b=>?_,dE,dE⟩;·show 9*k<1↔k<1;omega
  rcases k with _|k;·simp at b;subst b;exact⟨dE,dE,dE⟩
  simp at b
 obtain⟨O,T⟩:=F2y u h;have H:0<xs.length:=MF.2 h;refine⟨xs,F6t D.2,λk=>?_,λk x b=>⟨(D5u u b).1,G x (CH b)⟩,E,H⟩;constructor<;>intro W<;>omega
theorem D9h {B:Nat}:∀ {ls:List (List UInt8)},(∀ l∈ls,l.length<=B)->(A1z ls).length<=ls.length*(B+1)
 | [],_=>by simp[A1z]
 |l::ls,h=>by
  have h1:=D9h (λx hx=>h x (JA _ hx)) (ls:=ls)
  have h2:=h l sI
  have e:(A1z (l::ls)).length=l.length+1+(A1z ls).length:=by simp[A1z,List.length_flatMap];omega
  rw[e,GW,JZ];omega
theorem C7r {B:Nat}:∀ {ws:List (List UInt8)},(∀ l∈ws,l.length<=B)->(A6d ws).length<=ws.length*(B+1)
 | [],_=>by simp[A6d,OF]
 | [w],h=>by unfold A6d;rw[F3o];have:=h w sI;simp;omega
 |w::v::r,h=>by
  have h1:=C7r (λx hx=>h x (JA _ hx)) (ws:=v::r)
  have h2:=h w sI
  unfold A6d at h1 ⊢
  rw[B8w,EF,GW,GW (a:=w),JZ];omega
theorem D5w (p:TPoint):(C7m p).length<=2165:=by
 have b:=B7g p.x;have h:=B7g p.y;unfold C7m;simp only[EF,GW];omega
theorem D0q {n:Int} (h:0<=n) (u:n<1000000):(FS n).length<=6:=by
 have b:FS n=FK n.toNat:=by unfold FS;rw[if_neg oS]
 rw[b];exact E3p 5 oS
def linesOk (ls:List (List UInt8)) (B:Nat):Prop:=(∀ l∈ls,(10:UInt8)∉l)/\∀ l∈ls,l.length<=B
theorem linesOk.app {a b:List (List UInt8)} {B:Nat} (h:linesOk a B) (g:linesOk b B):linesOk (a++b) B :=
 ⟨λl hl=>(CO.1 hl).elim (h.1 l) (g.1 l),λl hl=>(CO.1 hl).elim (h.2 l) (g.2 l)⟩
theorem F5h (p:TPoint):(10:UInt8)∉A6d (ptW p)/\(A6d (ptW p)).length<=10000:=by
 refine⟨D3v dE (F6f p),?_⟩
 have h:=C7r (B:=2165) (ws:=ptW p) (λl b=>by
  simp[ptW]at b;rcases b with rfl|rfl
  ·simp
  exact D5w p)
 have e:(ptW p).length=2:=rfl;rw[e]at h;omega
theorem F3u {t:TTri} (h:F2t t):(10:UInt8)∉A6d (D1d t)/\(A6d (D1d t)).length<=10000:=by
 refine⟨D3v dE (F5i h dE),?_⟩
 have D:=C7r (B:=6) (ws:=D1d t) (λl b=>by
  rcases EM.1 b with rfl|b;·simp
  obtain⟨x,u,rfl⟩:=FM.1 b;exact D0q (h x u).1 (h x u).2)
 have e:(D1d t).length=6:=rfl;rw[e]at D;omega
theorem C3r {word:List UInt8} {u:List TRat} (E:(10:UInt8)∉word) (D:word.length<=1082) (G:u.length<=3):(10:UInt8)∉A6d (B1c word u)/\(A6d (B1c word u)).length<=10000:=by
 refine⟨D3v dE (F3z dE E),?_⟩
 have h:=C7r (B:=1082) (ws:=B1c word u) (λl b=>by
  rcases EM.1 b with rfl|b;·exact D
  obtain⟨x,_,rfl⟩:=FM.1 b;exact B7g x)
 have e:(B1c word u).length=u.length+1:=by simp[B1c]
 have:(u.length+1)*(1082+1)<=4*1083:=JQ _ oS;rw[e]at h;omega
theorem D4o {r:TReport} (h:0<=r.triangles) (D:r.triangles<1000000):(10:UInt8)∉A6d (C9d r)/\(A6d (C9d r)).length<=10000:=by
 refine⟨D3v dE (F5d h dE),?_⟩
 have u:=C7r (B:=1082) (ws:=C9d r) (λl b=>by
  rcases EM.1 b with rfl|b;·simp
  rcases EM.1 b with rfl|b;·have:=D0q h D;omega
  obtain⟨x,_,rfl⟩:=FM.1 b;exact B7g x)
 have e:(C9d r).length=4:=rfl;rw[e]at u;omega
def D7x (m:TMesh):Prop:=m.1.length<=40/\m.triangles.length<=48/\∀ t∈m.triangles,F2t t
def E4c (p:TProblem):Prop:=D7x p.1/\p.2.length=3/\p.3.length=3
def F3n (s:TState):Prop:=E4c s.problem/\s.reports.length<=10/\∀ r∈s.reports,0<=r.triangles/\r.triangles<1000000
theorem B4s {m:TMesh} (h:D7x m):linesOk (A5k m) 10000/\(A5k m).length=m.1.length+m.triangles.length:=by
 refine⟨linesOk.app ⟨λl b=>?_,λl b=>?_⟩ ⟨λl b=>?_,λl b=>?_⟩,by simp[A5k]⟩;·obtain⟨p,_,rfl⟩:=FM.1 b;exact(F5h p).1
 ·obtain⟨p,_,rfl⟩:=FM.1 b;exact(F5h p).2
 ·obtain⟨t,u,rfl⟩:=FM.1 b;exact(F3u (h.2.2 t u)).1
 obtain⟨t,u,rfl⟩:=FM.1 b;exact(F3u (h.2.2 t u)).2
theorem F2s {p:TProblem} (h:E4c p):linesOk (A5h p) 10000/\(A5h p).length=p.1.1.length+p.1.triangles.length+2:=by
 have E:=C3r (word:=kW) (u:=p.2) dE dE (by rw[h.2.1];decide);have D:=C3r (word:=fW) (u:=p.3) dE dE (by rw[h.2.2];decide);refine⟨linesOk.app (B4s h.1).1 ⟨λl b=>?_,λl b=>?_⟩,by simp[A5h,(B4s h.1).2]⟩
 ·simp at b;rcases b with rfl|rfl
  ·exact E.1
  exact D.1
 simp at b;rcases b with rfl|rfl
 ·exact E.2
 exact D.2
theorem C5s {s:TState} (h:F3n s):linesOk (A5d s) 10000/\(A5d s).length=(A5h s.problem).length+1+s.reports.length:=by
 have E:=C3r (word:=C8m) (u:=[s.part]) dE dE sI;refine⟨linesOk.app (F2s h.1).1 ⟨λl b=>?_,λl b=>?_⟩,by simp[A5d];omega⟩
 ·rcases EM.1 b with rfl|b
  ·exact E.1
  obtain⟨r,D,rfl⟩:=FM.1 b;exact(D4o (h.2.2 r D).1 (h.2.2 r D).2).1
 rcases EM.1 b with rfl|b;·exact E.2
 obtain⟨r,D,rfl⟩:=FM.1 b;exact(D4o (h.2.2 r D).1 (h.2.2 r D).2).2
theorem C1i {ls:List (List UInt8)} (h:linesOk ls 10000) (b:ls.length<=101):(A1z ls).length<=1010101:=by
 have:=D9h h.2;have:ls.length*(10000+1)<=101*10001:=JQ _ b;omega
def D0x (l:List UInt8):Bool:=Lib.hasPrefix l [112,97,114,116,32]
theorem F5r (r:TRat):D0x (A6d (B1c C8m [r]))=true:=by
 unfold A6d B1c;rw[JT,List.map_nil,B8w];rfl
theorem F5z {s:TState}:∀ l∈A5h s.problem,D0x l=false:=by
 intro l b;unfold A5h A5k at b;rcases CO.1 b with b|b
 ·rcases CO.1 b with b|b
  ·obtain⟨p,_,rfl⟩:=FM.1 b;unfold A6d ptW;rw[B8w];rfl
  obtain⟨t,_,rfl⟩:=FM.1 b;unfold A6d D1d C2g;rw[JT,B8w];rfl
 ·simp at b
  rcases b with rfl|rfl
  ·unfold A6d B1c
   cases s.problem.2 with
   |nil=>rfl
   |cons a r=>rw[JT,B8w];rfl
  ·unfold A6d B1c
   cases s.problem.3 with
   |nil=>rfl
   |cons a r=>rw[JT,B8w];rfl
end Go.Proofs.YtbkilakncnlebaaGreatDoor.X
