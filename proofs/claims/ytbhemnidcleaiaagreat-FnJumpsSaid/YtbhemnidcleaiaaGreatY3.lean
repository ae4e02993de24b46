/- A part of the proof. -/
import Derived.Test.YtbhemnidcleaiaaGreatY1
import Derived.Test.YtbhemnidcleaiaaGreatY2
set_option linter.constructorNameAsVariable false
set_option maxHeartbeats 16000000
set_option maxRecDepth 10000
namespace Go.XN

def G_:List Int→Int
 | []=>0
 | x::xs=>x+1000000000*G_ xs

def pw (n:Nat):Int:=1000000000 ^ n
theorem A7h:pw 0=1:=by simp[pw]
theorem A1l (n:Nat):pw (n+1)=1000000000*pw n:=by unfold pw;rw[Int.pow_succ,Int.mul_comm]
theorem A4q (n:Nat):0<pw n:=by
 induction n with
 | zero=>rw[A7h];omega
 | succ n ih=>rw[A1l];omega
theorem A7a (m n:Nat):pw (m+n)=pw m*pw n:=by unfold pw;exact Int.pow_add ..
theorem A2x {m n:Nat} (h:m≤n):pw m≤pw n:=by
 induction n with
 | zero => have : m = 0 := by omega
           subst this;exact Int.le_refl _
 | succ n ih =>
  rcases Nat.lt_or_ge n m with h1 | h1
  ·have:m=n+1:=by omega
   subst this;exact Int.le_refl _
  have h2:=ih h1;have h3:=A4q n;rw[A1l];omega

def Lims (l:List Int):Prop:=∀ x∈l,0≤x∧x<1000000000
theorem Lims.nil:Lims []:=fun _ h=>by simp at h
theorem Lims.cons {x:Int} {l:List Int} (h0:0≤x) (h1:x<1000000000) (h:Lims l):Lims (x::l):=fun y hy=>by
 rcases List.mem_cons.1 hy with rfl | hy
 ·exact ⟨h0,h1⟩
 exact h y hy
theorem Lims.tail {x:Int} {l:List Int} (h:Lims (x::l)):Lims l:=fun y hy=>h y (List.mem_cons_of_mem _ hy)
theorem Lims.head {x:Int} {l:List Int} (h:Lims (x::l)):0≤x∧x<1000000000:=h x (List.mem_cons_self ..)
theorem Lims.append {a b:List Int} (ha:Lims a) (hb:Lims b):Lims (a++b):=fun y hy=>by
 rcases List.mem_append.1 hy with hy | hy
 ·exact ha y hy
 exact hb y hy
theorem Lims.left {a b:List Int} (h:Lims (a++b)):Lims a:=fun y hy=>h y (List.mem_append_left _ hy)
theorem Lims.take {l:List Int} (h:Lims l) (k:Nat):Lims (l.take k):=fun y hy=>h y (List.mem_of_mem_take hy)
theorem Lims.drop {l:List Int} (h:Lims l) (k:Nat):Lims (l.drop k):=fun y hy=>h y (List.mem_of_mem_drop hy)
theorem Lims.get {l:List Int} (h:Lims l) {k:Nat} {x:Int} (hx:l[k]?=some x):0≤x∧x<1000000000:=h x (List.mem_of_getElem? hx)
theorem Lims.one {x:Int} (h0:0≤x) (h1:x<1000000000):Lims [x]:=Lims.cons h0 h1 Lims.nil

theorem B3q (a b:List Int):G_ (a++b)=G_ a+pw a.length*G_ b:=by
 induction a with
 | nil=>simp[G_,A7h]
 | cons x a ih=>rw[List.cons_append,G_,ih,G_,List.length_cons,A1l];grind
theorem A4o (a:List Int) (x:Int):G_ (a++[x])=G_ a+pw a.length*x:=by rw[B3q];simp[G_]
theorem T_ {l:List Int} (h:Lims l):0≤G_ l:=by
 induction l with
 | nil=>simp[G_]
 | cons x l ih=>have:=ih h.tail;have:=h.head;rw[G_];omega
theorem A2r {l:List Int} (h:Lims l):G_ l<pw l.length:=by
 induction l with
 | nil=>simp[G_,A7h]
 | cons x l ih=>have:=ih h.tail;have:=h.head;rw[G_,List.length_cons,A1l];omega
theorem A7j (n:Nat):G_ (List.replicate n 0)=0:=by
 induction n with
 | zero=>rfl
 | succ n ih=>rw[List.replicate_succ,G_,ih];rfl
theorem Y_ {l:List Int} {k:Nat} {x:Int} (h:l[k]?=some x):G_ (l.take (k+1))=G_ (l.take k)+pw k*x:=by
 have hk:=(List.getElem?_eq_some_iff.1 h).1
 rw[Go.XB.take_step h,A4o,List.length_take,Nat.min_eq_left (by omega)]
theorem A4i {l:List Int} {k:Nat} {x:Int} (h:l[k]?=some x):G_ (l.drop k)=x+1000000000*G_ (l.drop (k+1)):=by
 obtain ⟨hk,rfl⟩:=List.getElem?_eq_some_iff.1 h
 rw[List.drop_eq_getElem_cons hk,G_]
theorem A8l (l:List Int) (k:Nat) (hk:k≤l.length):G_ l=G_ (l.take k)+pw k*G_ (l.drop k):=by
 have:=B3q (l.take k) (l.drop k)
 rwa [List.take_append_drop,List.length_take,Nat.min_eq_left hk] at this

def Can (l:List Int):Prop:=Lims l∧l.getLast?≠some 0
theorem Can.nil:Can []:=⟨Lims.nil,by simp⟩

def C3l:Nat→Nat→List Int
 | 0,_=>[]
 | f+1,n=>if n=0 then [] else ((n % 1000000000:Nat):Int)::C3l f (n / 1000000000)
def dig (n:Nat):List Int:=C3l n n

theorem C0p:∀ (f g n:Nat),n≤f→n≤g→C3l f n=C3l g n
 | 0,0,_,_,_=>rfl
 | 0, g + 1, n, h, _ => by have : n = 0 := by omega
                           subst this; simp[C3l]
 | f + 1, 0, n, _, h => by have : n = 0 := by omega
                           subst this; simp[C3l]
 | f+1,g+1,n,hf,hg=>by
  unfold C3l
  split
  ·rfl
  rw[C0p f g (n / 1000000000) (by omega) (by omega)]

theorem C9x:dig 0=[]:=rfl
theorem B4g {n:Nat} (h:n≠0):dig n=((n % 1000000000:Nat):Int)::dig (n / 1000000000):=by
 unfold dig
 cases n with
 | zero=>exact absurd rfl h
 | succ n =>
  conv=>lhs;unfold C3l
  rw[if_neg (by omega)]
  rw[C0p n ((n+1) / 1000000000) _ (by omega) (by omega)]

theorem B1l (n:Nat):Lims (dig n)∧G_ (dig n)=n∧((dig n).getLast?≠some 0)∧(dig n=[]↔n=0):=by
 induction n using Nat.strongRecOn with
 | _ n ih =>
  by_cases h:n=0
  ·subst h;rw[C9x];exact ⟨Lims.nil,rfl,by simp,by simp⟩
  ·rw[B4g h]
   obtain ⟨h1,h2,h3,h4⟩:=ih (n / 1000000000) (by omega)
   refine ⟨Lims.cons (by omega) (by omega) h1,by rw[G_,h2];omega,?_,by simp[h]⟩
   by_cases h5:n / 1000000000=0
   ·rw[h4.2 h5]
    simp;omega
   ·cases hd:dig (n / 1000000000) with
    | nil=>exact absurd (h4.1 hd) h5
    | cons y ys=>rw[List.getLast?_cons_cons,← hd];exact h3

theorem W_ (n:Nat):Can (dig n):=⟨(B1l n).1,(B1l n).2.2.1⟩
theorem A1n (n:Nat):G_ (dig n)=n:=(B1l n).2.1
theorem A9e {n:Nat}:dig n=[]↔n=0:=(B1l n).2.2.2

theorem Can.tail {x:Int} {l:List Int} (h:Can (x::l)):Can l:=by
 refine ⟨h.1.tail,?_⟩
 cases l with
 | nil=>simp
 | cons y l=>have:=h.2;rwa [List.getLast?_cons_cons] at this

theorem Can.eq_dig {l:List Int} (h:Can l):l=dig (G_ l).toNat:=by
 induction l with
 | nil=>rfl
 | cons x l ih =>
  have h1:=ih h.tail
  have hx:=h.1.head
  have hv:=T_ h.1.tail
  have hne:G_ (x::l)≠0:=by
   rw[G_]
   intro e
   have hx0:x=0:=by omega
   have hv0:G_ l=0:=by omega
   rw[hv0] at h1
   have hl:l=[]:=by rw[h1];rfl
   subst hl;subst hx0
   exact h.2 (by simp)
  have hpos:0≤G_ (x::l):=T_ h.1
  rw[B4g (by omega)]
  congr 1
  ·rw[G_];omega
  conv=>lhs;rw[h1]
  congr 1
  rw[G_];omega

theorem Can.of_val {l:List Int} (h:Can l) {n:Nat} (hn:G_ l=n):l=dig n:=by
 rw[h.eq_dig,hn];simp
theorem Can.val_inj {a b:List Int} (ha:Can a) (hb:Can b) (h:G_ a=G_ b):a=b:=by
 rw[ha.eq_dig,hb.eq_dig,h]

theorem Can.len_le {l:List Int} (h:Can l) (hne:l≠[]):pw (l.length - 1)≤G_ l:=by
 have hl:l=l.take (l.length - 1)++[l.getLast hne]:=by
  rw[← List.dropLast_eq_take,List.dropLast_concat_getLast]
 have hlast:=h.1 (l.getLast hne) (List.getLast_mem hne)
 have hnz:l.getLast hne≠0:=fun e=>h.2 (by rw[List.getLast?_eq_some_getLast hne,e])
 have hlen:(l.take (l.length - 1)).length=l.length - 1:=by rw[List.length_take];omega
 have hv:G_ l=G_ (l.take (l.length - 1))+pw (l.length - 1)*l.getLast hne:=by
  conv=>lhs;rw[hl]
  rw[A4o,hlen]
 have h0:=T_ (h.1.take (l.length - 1))
 have hp:=A4q (l.length - 1)
 have:pw (l.length - 1)*1≤pw (l.length - 1)*l.getLast hne:=Int.mul_le_mul_of_nonneg_left (by omega) (Int.le_of_lt hp)
 omega
theorem Can.lt_of_len {a b:List Int} (ha:Lims a) (hb:Can b) (h:a.length<b.length):G_ a<G_ b:=by
 have h1:=A2r ha
 have h2:=hb.len_le (by intro e;rw[e] at h;simp at h)
 have h3:=A2x (show a.length≤b.length - 1 by omega)
 omega
theorem Can.pos {l:List Int} (h:Can l) (hne:l≠[]):0<G_ l:=by
 have:=h.len_le hne;have:=A4q (l.length - 1);omega
def trim (l:List Int):List Int:=(l.reverse.dropWhile (·==0)).reverse
theorem A8t (l:List Int):trim (l++[0])=trim l:=by unfold trim;simp
theorem B5w {l:List Int} {x:Int} (h:x≠0):trim (l++[x])=l++[x]:=by unfold trim;simp[h]
theorem B5x (l:List Int):(∃ n,l=trim l++List.replicate n 0)∧(trim l).getLast?≠some 0:=by
 induction h:l.length generalizing l with
 | zero =>
  have:l=[]:=List.eq_nil_of_length_eq_zero h
  subst this
  exact ⟨⟨0,rfl⟩,by simp[trim]⟩
 | succ n ih =>
  have hne:l≠[]:=by intro e;subst e;simp at h
  have hl:l=l.dropLast++[l.getLast hne]:=(List.dropLast_concat_getLast hne).symm
  by_cases hz:l.getLast hne=0
  ·rw[hz] at hl
   obtain ⟨⟨m,hm⟩,h2⟩:=ih l.dropLast (by rw[List.length_dropLast];omega)
   have e : trim l = trim l.dropLast := by conv => lhs; rw[hl]
                                           exact A8t _
   refine ⟨⟨m+1,?_⟩,by rw[e];exact h2⟩
   rw[e,List.replicate_succ',← List.append_assoc,← hm]
   exact hl
  have e : trim l = l := by conv => lhs; rw[hl]
                            rw[B5w hz]; exact hl.symm
  refine ⟨⟨0,by simp[e]⟩,?_⟩
  rw[e,List.getLast?_eq_some_getLast hne]
  simpa using hz
theorem B9n (l:List Int):G_ (trim l)=G_ l:=by
 obtain ⟨⟨n,h⟩,_⟩:=B5x l
 conv=>rhs;rw[h]
 rw[B3q,A7j];simp
theorem Can.trim {l:List Int} (h:Lims l):Can (trim l):=by
 obtain ⟨⟨n,e⟩,h2⟩:=B5x l
 exact ⟨by rw[e] at h;exact h.left,h2⟩
theorem A6m {l:List Int} (h:Lims l) {n:Nat} (hn:G_ l=n):trim l=dig n:=(Can.trim h).of_val (by rw[B9n,hn])
theorem Can.trim_eq {l:List Int} (h:Can l):XN.trim l=l:=(Can.trim h.1).val_inj h (B9n l)
theorem B0a (l:List Int):trim l=l.take (trim l).length:=by
 obtain ⟨⟨n,e⟩,_⟩:=B5x l
 conv=>rhs;arg 2;rw[e]
 simp

theorem B4i {a b:List Int} (ha:Lims a) (hb:Lims b) {k:Nat} {x y:Int} (hx:a[k]?=some x) (hy:b[k]?=some y) (he:a.drop (k+1)=b.drop (k+1)) (hlen:a.length=b.length) :
  (x<y→G_ a<G_ b)∧(y<x→G_ b<G_ a):=by
 have hka:=(List.getElem?_eq_some_iff.1 hx).1
 have hkb:=(List.getElem?_eq_some_iff.1 hy).1
 have h1:=A8l a k (by omega)
 have h2:=A8l b k (by omega)
 rw[A4i hx] at h1
 rw[A4i hy,← he] at h2
 have h3:=A2r (ha.take k);have h4:=T_ (ha.take k)
 have h5:=A2r (hb.take k);have h6:=T_ (hb.take k)
 rw[List.length_take,Nat.min_eq_left (by omega)] at h3 h5
 have hp:=A4q k
 constructor
 ·intro hxy
  have:pw k*(x+1)≤pw k*y:=Int.mul_le_mul_of_nonneg_left (by omega) (Int.le_of_lt hp)
  grind
 intro hxy
 have:pw k*(y+1)≤pw k*x:=Int.mul_le_mul_of_nonneg_left (by omega) (Int.le_of_lt hp)
 grind
theorem A3h {n k:Nat} (h:(n:Int)<pw k):(dig n).length≤k:=by
 rcases Nat.lt_or_ge k (dig n).length with h1 | h1
 ·have hne:dig n≠[]:=by intro e;rw[e] at h1;simp at h1
  have h2:=(W_ n).len_le hne
  rw[A1n] at h2
  have:=A2x (show k≤(dig n).length - 1 by omega)
  omega
 exact h1
theorem pw_vals:pw 1=1000000000∧pw 2=1000000000000000000∧pw 3=1000000000000000000000000000:=by
 refine ⟨?_,?_,?_⟩<;>(unfold pw;rfl)
def sgn (n:Int):Int:=if n<0 then -1 else if 0<n then 1 else 0

end Go.XN

namespace Go.XN

theorem A6h {out:List Int} {k:Nat} (hl:out.length=k) (s:Int):G_ (out++[s % 1000000000])+pw (k+1)*(s / 1000000000)=G_ out+pw k*s:=by
 rw[A4o,hl,A1l]
 have:s=1000000000*(s / 1000000000)+s % 1000000000:=by omega
 generalize s / 1000000000=q at *
 generalize s % 1000000000=r at *
 subst this
 grind

theorem Can.of_len {l:List Int} (h:Lims l) (hv:l≠[]→pw (l.length - 1)≤G_ l):Can l:=by
 refine ⟨h,fun e=>?_⟩
 have hne:l≠[]:=by intro e';subst e';simp at e
 have h1:=hv hne
 have hl:l=l.take (l.length - 1)++[0]:=by
  conv=>lhs;rw[← List.dropLast_concat_getLast hne]
  rw[List.dropLast_eq_take]
  rw[List.getLast?_eq_some_getLast hne] at e
  rw[Option.some.inj e]
 have h2:=A2r (h.take (l.length - 1))
 rw[List.length_take] at h2
 rw[hl,A4o] at h1
 have h3:=A2x (show min (l.length - 1) l.length≤l.length - 1 by omega)
 have h4:(List.take (l.length - 1) l++[(0:Int)]).length - 1=l.length - 1:=by rw[← hl]
 rw[h4] at h1
 omega

theorem Lims.snoc {l:List Int} {x:Int} (h:Lims l) (h0:0≤x) (h1:x<1000000000):Lims (l++[x]):=h.append (Lims.one h0 h1)
theorem Can.snoc {l:List Int} {x:Int} (h:Lims l) (h0:0<x) (h1:x<1000000000):Can (l++[x]):=⟨h.snoc (by omega) h1,by simp;omega⟩

theorem C7h {xs out:List Int} {c V:Int} (hx:Can xs) (ho:Lims out) (hl:out.length=xs.length) (hv:G_ out+pw xs.length*c=G_ xs+V) (hV:0≤V) (h0:0≤c) (h1:c<1000000000) :
  (if 0<c then out++[c] else out)=dig (G_ xs+V).toNat:=by
 have hvx:=T_ hx.1
 split
 ·rename_i hc
  refine (Can.snoc ho hc h1).of_val ?_
  rw[A4o,hl,hv];omega
 rename_i hc
 have:c=0:=by omega
 subst this
 rw[Int.mul_zero,Int.add_zero] at hv
 refine (Can.of_len ho fun hne=>?_).of_val (by rw[hv];omega)
 have hxne:xs≠[]:=by intro e;apply hne;apply List.eq_nil_of_length_eq_zero;rw[hl,e];rfl
 have:=hx.len_le hxne
 rw[hl,hv];omega
end Go.XN

namespace Go.XN
open Go.XB

theorem B0t {l:List Int} {j:Nat} {x:Int} (h:l[j]?=some x) (u:Int):G_ (l.set j u)=G_ l+pw j*(u - x):=by
 induction l generalizing j with
 | nil=>simp at h
 | cons a l ih =>
  cases j with
  | zero =>
   simp at h
   subst h
   rw[List.set_cons_zero,G_,G_,A7h];omega
  | succ j =>
   rw[List.set_cons_succ,G_,G_,ih (by simpa using h),A1l]
   grind
theorem Lims.set {l:List Int} (h:Lims l) (j:Nat) {u:Int} (h0:0≤u) (h1:u<1000000000):Lims (l.set j u):=fun y hy=>by
 rcases List.mem_or_eq_of_mem_set hy with hy | rfl
 ·exact h y hy
 exact ⟨h0,h1⟩
theorem Lims.zeros (n:Nat):Lims (List.replicate n 0):=fun y hy=>by rw[List.eq_of_mem_replicate hy];omega
theorem Lims.num {l:List Int} (h:Lims l) {j:Nat} (hj:j<l.length):∃ x,l[j]?=some x∧0≤x∧x<1000000000 :=
 ⟨_,List.getElem?_eq_getElem hj,h _ (List.getElem_mem hj)⟩
theorem B4x {x y:Int} (hx0:0≤x) (hx:x<1000000000) (hy0:0≤y) (hy:y<1000000000):0≤x*y∧x*y≤999999998000000001:=by
 refine ⟨Int.mul_nonneg hx0 hy0,?_⟩
 have h1:x*y≤999999999*y:=Int.mul_le_mul_of_nonneg_right (by omega) hy0
 omega

theorem B0j {l:List Int} {j:Nat} {x:Int} (h:l[j]?=some x) {t:Int} {V c:Int} (hv:G_ l+pw j*c=V):G_ (l.set j (t % 1000000000))+pw (j+1)*(t / 1000000000)=V+pw j*(t - x - c):=by
 rw[B0t h,A1l]
 have:t=1000000000*(t / 1000000000)+t % 1000000000:=by omega
 generalize t / 1000000000=q at *
 generalize t % 1000000000=r at *
 subst this
 grind
end Go.XN
namespace Go.XB
theorem A7d (n:Nat):(madeCells (Value.int .i64 0).cells (n*1)).toList=(List.replicate n (0:Int)).map (.int .i64):=by
 rw[List.map_replicate]
 refine List.eq_replicate_iff.2 ⟨by simp[size_madeCells],fun b hb=>?_⟩
 simp only [madeCells,Array.toList_map,List.mem_map] at hb
 obtain ⟨a,_,rfl⟩:=hb
 have:(Value.int .i64 0).cells=#[.int .i64 0]:=rfl
 rw[this]
 simp[Nat.mod_one]
end Go.XB

namespace Go.XN
open Go.XB

theorem C7l {r x d:Int} (hd:0<d) (hr0:0≤r) (hr:r<d) (hx0:0≤x) (hx:x<1000000000) :
  0≤(r*1000000000+x) / d∧(r*1000000000+x) / d<1000000000∧0≤(r*1000000000+x) % d∧(r*1000000000+x) % d<d :=
 ⟨Int.ediv_nonneg (by omega) (by omega),Int.ediv_lt_of_lt_mul hd (by omega),Int.emod_nonneg _ (by omega),Int.emod_lt_of_pos _ hd⟩

theorem B7m {l:List Int} {j:Nat} (hj:j<l.length) (u:Int):(l.set j u).drop j=u::l.drop (j+1):=by
 rw[List.drop_eq_getElem_cons (by simpa using hj),List.drop_set_of_lt (by omega)]
 simp
theorem C2v {l xs:List Int} {j:Nat} {x r d:Int} (hj:j<l.length) (hx:xs[j]?=some x) (h:G_ (l.drop (j+1))*d+r=G_ (xs.drop (j+1))) :
  G_ ((l.set j ((r*1000000000+x) / d)).drop j)*d+(r*1000000000+x) % d=G_ (xs.drop j):=by
 rw[B7m hj,G_,A4i hx,← h]
 have:=Int.mul_ediv_add_emod (r*1000000000+x) d
 generalize (r*1000000000+x) / d=q at *
 generalize (r*1000000000+x) % d=s at *
 grind
theorem C2j {a q r d:Int} (hd:0<d) (h:q*d+r=a) (h0:0≤r) (h1:r<d):a / d=q∧a % d=r:=by
 refine (Int.ediv_emod_unique hd).2 ⟨?_,h0,h1⟩
 rw[Int.mul_comm];omega
end Go.XN

namespace Go.XN
open Go.XB

section
variable {U V P F top u0 v1 v2 q rest m1 m2 l1 l2:Int}

theorem C8c (hP:0<P) (hF:0<F) (hU:U=l1+P*(1000000000*F)*top) (hl1:l1<P*(1000000000*F)) (hV:V=m1+1000000000*F*v1) (hm1:0≤m1) (_hv1:0<v1)
  (hq0:0≤q) (hq:top<(q+1)*v1):U<(q+1)*(V*P):=by
 have hC:0<P*(1000000000*F):=Int.mul_pos hP (by omega)
 generalize hc:P*(1000000000*F)=C at *
 have h1:C*(top+1)≤C*((q+1)*v1):=Int.mul_le_mul_of_nonneg_left (by omega) (by omega)
 have h2:0≤(q+1)*(m1*P):=Int.mul_nonneg (by omega) (Int.mul_nonneg hm1 (by omega))
 have h3:(q+1)*(V*P)=(q+1)*(m1*P)+C*((q+1)*v1):=by rw[hV,← hc];grind
 have h4:C*(top+1)=C*top+C:=by grind
 omega

theorem D1b (hP:0<P) (hF:0<F) (hU:U=l2+P*F*(u0+1000000000*top)) (hl2:l2<P*F) (hV:V=m2+F*(v2+1000000000*v1)) (hm2:0≤m2)
  (hq0:0≤q) (hr:rest=top - q*v1) (ht:rest*1000000000+u0<q*v2):U<q*(V*P):=by
 have hC:0<P*F:=Int.mul_pos hP hF
 generalize hc:P*F=C at *
 have h1:C*(u0+1000000000*top+1)≤C*(q*v2+1000000000*(q*v1)):=Int.mul_le_mul_of_nonneg_left (by omega) (by omega)
 have h2:0≤q*(m2*P):=Int.mul_nonneg hq0 (Int.mul_nonneg hm2 (by omega))
 have h3:q*(V*P)=q*(m2*P)+C*(q*v2+1000000000*(q*v1)):=by rw[hV,← hc];grind
 have h4:C*(u0+1000000000*top+1)=C*(u0+1000000000*top)+C:=by grind
 omega

theorem C9c (hP:0<P) (hF:0<F) (hU1:U=l1+P*(1000000000*F)*top) (hl1:0≤l1) (hU2:U=l2+P*F*(u0+1000000000*top)) (hl2:0≤l2)
  (hV1:V=m1+1000000000*F*v1) (hm0:0≤m1) (hm1:m1<1000000000*F) (hV2:V=m2+F*(v2+1000000000*v1)) (hm2:m2<F) (hv1:0<v1)
  (hq0:0≤q) (hq1:q<1000000000) (hr:rest=top - q*v1) (ht:1000000000≤rest∨q*v2≤rest*1000000000+u0):(q - 1)*(V*P)≤U:=by
 have hVP:0≤V*P:=Int.mul_nonneg (by rw[hV1];have:=Int.mul_nonneg (show (0:Int)≤1000000000*F by omega) (Int.le_of_lt hv1);omega) (by omega)
 rcases ht with ht | ht
 ·have hC:0<P*(1000000000*F):=Int.mul_pos hP (by omega)
  have h0:q*(m1*P)≤q*(1000000000*F*P):=Int.mul_le_mul_of_nonneg_left (Int.mul_le_mul_of_nonneg_right (by omega) (by omega)) hq0
  have h1:P*(1000000000*F)*(q+q*v1)≤P*(1000000000*F)*top:=Int.mul_le_mul_of_nonneg_left (by omega) (by omega)
  have h3:q*(V*P)=q*(m1*P)+P*(1000000000*F)*(q*v1):=by rw[hV1];grind
  have h4:P*(1000000000*F)*(q+q*v1)=q*(1000000000*F*P)+P*(1000000000*F)*(q*v1):=by grind
  have h5:(q - 1)*(V*P)=q*(V*P) - V*P:=by grind
  omega
 have hC:0<P*F:=Int.mul_pos hP hF
 have h0:q*(m2*P)≤q*(F*P):=Int.mul_le_mul_of_nonneg_left (Int.mul_le_mul_of_nonneg_right (by omega) (by omega)) hq0
 have h1:P*F*(q*v2+1000000000*(q*v1))≤P*F*(u0+1000000000*top):=Int.mul_le_mul_of_nonneg_left (by omega) (by omega)
 have h3:q*(V*P)=q*(m2*P)+P*F*(q*v2+1000000000*(q*v1)):=by rw[hV2];grind
 have h6:q*(F*P)≤1000000000*(F*P):=Int.mul_le_mul_of_nonneg_right (by omega) (by rw[Int.mul_comm];omega)
 have h7:1000000000*F*1≤1000000000*F*v1:=Int.mul_le_mul_of_nonneg_left (by omega) (by omega)
 have h8:1000000000*F*P≤V*P:=Int.mul_le_mul_of_nonneg_right (by omega) (by omega)
 have h9:1000000000*(F*P)=1000000000*F*P:=by grind
 have h5:(q - 1)*(V*P)=q*(V*P) - V*P:=by grind
 omega
end
end Go.XN

namespace Go.XN
open Go.XB

theorem A7r {l:List Int} (h:Lims l) {i:Nat} (hi:i≤l.length) (hU:G_ l<pw i):G_ (l.drop i)=0:=by
 have h1:=A8l l i hi
 have h2:=T_ (h.drop i)
 have h3:=T_ (h.take i)
 have h4:=A4q i
 rcases Int.lt_or_le 0 (G_ (l.drop i)) with h5 | h5
 ·have:pw i*1≤pw i*G_ (l.drop i):=Int.mul_le_mul_of_nonneg_left (by omega) (by omega)
  omega
 omega
theorem D5w {l:List Int} (h:Lims l) {i:Nat} {x y:Int} (hx:l[i]?=some x) (hy:l[i+1]?=some y) (hU:G_ l<pw (i+2)):G_ l=G_ (l.take i)+pw i*(x+1000000000*y):=by
 have hl:=(List.getElem?_eq_some_iff.1 hy).1
 have h1:=A8l l (i+2) (by omega)
 rw[A7r h (by omega) hU,Y_ hy,Y_ hx,A1l] at h1
 rw[h1];grind
theorem D6v {l:List Int} (h:Lims l) {i:Nat} {z x y:Int} (hz:l[i]?=some z) (hx:l[i+1]?=some x) (hy:l[i+2]?=some y) (hU:G_ l<pw (i+3)):G_ l=G_ (l.take i)+pw i*(z+1000000000*(x+1000000000*y)):=by
 rw[D5w h hx hy hU,Y_ hz,A1l];grind
theorem B1b {l:List Int} (h:Lims l) (i:Nat) (hi:i≤l.length):0≤G_ (l.take i)∧G_ (l.take i)<pw i:=by
 refine ⟨T_ (h.take i),?_⟩
 have:=A2r (h.take i)
 rwa [List.length_take,Nat.min_eq_left hi] at this
theorem B7s {l l':List Int} (h:Lims l) (h':Lims l') {i:Nat} (hi:i≤l.length) (hl:l'.length=l.length) (he:∀ k,i≤k→l'[k]?=l[k]?) (hU:G_ l<pw i):G_ l'<pw i:=by
 have e:l'.drop i=l.drop i:=by
  apply List.ext_getElem?
  intro k
  rw[List.getElem?_drop,List.getElem?_drop,he _ (by omega)]
 have h1:=A8l l' i (by omega)
 rw[e,A7r h hi hU] at h1
 have:=(B1b h' i (by omega)).2
 omega
theorem C8d {X W r:Int} {hi:Nat} (hr:0≤r∧r≤1) (h:W=X+pw hi - pw hi*r) (h0:0≤X) (h1:W<pw hi):W=X:=by
 rcases (show r=0∨r=1 by omega) with rfl | rfl
 ·omega
 omega
theorem D0p {ys:List Int} (h:Can ys) {m:Nat} {t:Int} (hl:ys.length=m+1) (ht:ys[m]?=some t) :
  0<1000000000 / (t+1)∧1000000000 / (t+1)<1000000000∧G_ ys*(1000000000 / (t+1))<pw (m+1)∧0<t∧t<1000000000:=by
 have htl:=h.1.get ht
 have ht0:0<t:=by
  have hne:ys≠[]:=by intro e;subst e;simp at hl
  have h1:=h.2
  rw[List.getLast?_eq_getElem?,hl,Nat.add_sub_cancel,ht] at h1
  have:t≠0:=fun e=>h1 (by rw[e])
  omega
 have h0:1≤1000000000 / (t+1):=Int.le_ediv_of_mul_le (by omega) (by omega)
 have h1:0<1000000000 / (t+1):=by omega
 have h2:1000000000 / (t+1)*(t+1)≤1000000000:=Int.ediv_mul_le _ (by omega)
 have h3:1000000000 / (t+1)<1000000000:=Int.ediv_lt_of_lt_mul (by omega) (by omega)
 refine ⟨h1,h3,?_,ht0,htl.2⟩
 generalize 1000000000 / (t+1)=b at *
 have h4:=Y_ ht
 rw[List.take_of_length_le (by omega)] at h4
 have h5:=(B1b h.1 m (by omega)).2
 have h6:G_ ys*b<pw m*(t+1)*b:=Int.mul_lt_mul_of_pos_right (by rw[h4];grind) h1
 have h7:pw m*(b*(t+1))≤pw m*1000000000:=Int.mul_le_mul_of_nonneg_left h2 (Int.le_of_lt (A4q m))
 rw[A1l]
 have h8:pw m*(t+1)*b=pw m*(b*(t+1)):=by grind
 have h9:pw m*1000000000=1000000000*pw m:=by grind
 omega
end Go.XN

namespace Go.XN
open Go.XB

structure Dig3 (zs vs:List Int) (j p:Nat) (u0 top v1 v2:Int):Prop where
 lz:Lims zs
 lv:Lims vs
 z:∃ u1 u2,zs[j+p]?=some u0∧zs[j+p+1]?=some u1∧zs[j+p+2]?=some u2∧u2*1000000000+u1=top
 w2:vs[p]?=some v2
 w1:vs[p+1]?=some v1
 vl:vs.length=p+2
 v1p:0<v1
 up:G_ zs<G_ vs*pw (j+1)

section
variable {zs vs:List Int} {j p:Nat} {u0 top v1 v2:Int}

theorem Dig3.lt (h:Dig3 zs vs j p u0 top v1 v2):G_ zs<pw (j+p+3):=by
 have h1:=h.up
 have h2:G_ vs<pw (p+2):=by have:=A2r h.lv;rwa [h.vl] at this
 have h3:G_ vs*pw (j+1)<pw (p+2)*pw (j+1):=Int.mul_lt_mul_of_pos_right h2 (A4q _)
 rw[← A7a,show p+2+(j+1)=j+p+3 by omega] at h3
 omega
theorem Dig3.zl (h:Dig3 zs vs j p u0 top v1 v2):j+p+2<zs.length:=by
 obtain ⟨u1,u2,_,_,h2,_⟩:=h.z
 exact (List.getElem?_eq_some_iff.1 h2).1
theorem Dig3.eu1 (h:Dig3 zs vs j p u0 top v1 v2):G_ zs=G_ (zs.take (j+p+1))+pw j*(1000000000*pw p)*top∧0≤G_ (zs.take (j+p+1))∧G_ (zs.take (j+p+1))<pw j*(1000000000*pw p):=by
 obtain ⟨u1,u2,h0,h1,h2,e⟩:=h.z
 have hl:=h.zl
 have hb:=B1b h.lz (j+p+1) (by omega)
 rw[A1l,A7a] at hb
 refine ⟨?_,hb.1,by have:=hb.2;grind⟩
 rw[← e,D5w h.lz h1 h2 h.lt,A1l,A7a];grind
theorem Dig3.eu2 (h:Dig3 zs vs j p u0 top v1 v2):G_ zs=G_ (zs.take (j+p))+pw j*pw p*(u0+1000000000*top)∧0≤G_ (zs.take (j+p))∧G_ (zs.take (j+p))<pw j*pw p:=by
 obtain ⟨u1,u2,h0,h1,h2,e⟩:=h.z
 have hl:=h.zl
 have hb:=B1b h.lz (j+p) (by omega)
 rw[A7a] at hb
 refine ⟨?_,hb.1,hb.2⟩
 rw[← e,D6v h.lz h0 h1 h2 h.lt,A7a];grind
theorem Dig3.ev1 (h:Dig3 zs vs j p u0 top v1 v2):G_ vs=G_ (vs.take (p+1))+1000000000*pw p*v1∧0≤G_ (vs.take (p+1))∧G_ (vs.take (p+1))<1000000000*pw p:=by
 have h4:=Y_ h.w1
 rw[List.take_of_length_le (Nat.le_of_eq h.vl),A1l] at h4
 have hb:=B1b h.lv (p+1) (by rw[h.vl];omega)
 rw[A1l] at hb
 exact ⟨h4,hb⟩
theorem Dig3.ev2 (h:Dig3 zs vs j p u0 top v1 v2):G_ vs=G_ (vs.take p)+pw p*(v2+1000000000*v1)∧0≤G_ (vs.take p)∧G_ (vs.take p)<pw p:=by
 refine ⟨?_,B1b h.lv p (by rw[h.vl];omega)⟩
 rw[h.ev1.1,Y_ h.w2];grind
theorem Dig3.top_lim (h:Dig3 zs vs j p u0 top v1 v2):0≤top∧top≤999999999999999999:=by
 obtain ⟨u1,u2,h0,h1,h2,e⟩:=h.z
 have:=h.lz.get h1
 have:=h.lz.get h2
 omega
theorem Dig3.start (h:Dig3 zs vs j p u0 top v1 v2) {q:Int} (hq:(q=top / v1∧top / v1<999999999)∨(q=999999999∧999999999≤top / v1)) :
  (0≤q∧q≤999999999)∧(0≤q*v1∧q*v1≤top)∧G_ zs<(q+1)*(G_ vs*pw j):=by
 have hv:=h.v1p
 have qm:=Int.ediv_mul_le top (show v1≠0 by omega)
 have qn:=Int.ediv_nonneg h.top_lim.1 (show 0≤v1 by omega)
 rcases hq with ⟨rfl,hq⟩ | ⟨rfl,hq⟩
 ·refine ⟨⟨qn,by omega⟩,⟨Int.mul_nonneg qn (by omega),qm⟩,?_⟩
  exact C8c (A4q j) (A4q p) h.eu1.1 h.eu1.2.2 h.ev1.1 h.ev1.2.1 hv qn (Int.lt_ediv_add_one_mul_self top hv)
 have h1:999999999*v1≤top / v1*v1:=Int.mul_le_mul_of_nonneg_right hq (by omega)
 refine ⟨by omega,⟨by omega,by omega⟩,?_⟩
 have:=h.up
 rw[A1l] at this
 grind
theorem Dig3.step (h:Dig3 zs vs j p u0 top v1 v2) {q rest:Int} (hq0:0≤q) (hr:rest=top - q*v1) (ht:rest*1000000000+u0<q*v2):rest+v1=top - (q - 1)*v1∧G_ zs<(q - 1+1)*(G_ vs*pw j):=by
 refine ⟨by rw[hr];grind,?_⟩
 rw[show q - 1+1=q by omega]
 exact D1b (A4q j) (A4q p) h.eu2.1 h.eu2.2.2 h.ev2.1 h.ev2.2.1 hq0 hr ht
theorem Dig3.last (h:Dig3 zs vs j p u0 top v1 v2) {q rest:Int} (hq0:0≤q) (hq1:q≤999999999) (hr:rest=top - q*v1) (ht:1000000000≤rest∨q*v2≤rest*1000000000+u0):(q - 1)*(G_ vs*pw j)≤G_ zs :=
 C9c (A4q j) (A4q p) h.eu1.1 h.eu1.2.1 h.eu2.1 h.eu2.2.1 h.ev1.1 h.ev1.2.1 h.ev1.2.2 h.ev2.1 h.ev2.2.2 h.v1p hq0 (by omega) hr ht
theorem Dig3.done0 (_h:Dig3 zs vs j p u0 top v1 v2) {q:Int} {z1:List Int} (hU:G_ zs<(q+1)*(G_ vs*pw j)) (hl:Lims z1) (hv:G_ z1=G_ zs - pw j*(q*G_ vs)+pw (j+(p+2)+1)*0):G_ z1=G_ zs - G_ vs*(pw j*q)∧0≤G_ z1∧G_ z1<G_ vs*pw j:=by
 have:=T_ hl
 refine ⟨by rw[hv];grind,this,?_⟩
 have e:G_ z1=G_ zs - pw j*(q*G_ vs):=by omega
 rw[e]
 have:(q+1)*(G_ vs*pw j)=pw j*(q*G_ vs)+G_ vs*pw j:=by grind
 omega
theorem Dig3.done1 (h:Dig3 zs vs j p u0 top v1 v2) {q cy:Int} {z1 z2:List Int} (hL:(q - 1)*(G_ vs*pw j)≤G_ zs) (hl:Lims z1) (hv:G_ z1=G_ zs - pw j*(q*G_ vs)+pw (j+(p+2)+1)*1) (hn:z1.length=zs.length) (ho:∀ k,j+(p+2)+1≤k→z1[k]?=zs[k]?)
  (hl2:Lims z2) (hc:0≤cy∧cy≤1) (hv2:G_ z2=G_ z1+pw j*G_ vs - pw (j+(p+2)+1)*cy) (hn2:z2.length=z1.length) (ho2:∀ k,j+(p+2)+1≤k→z2[k]?=z1[k]?) :
  G_ z2=G_ zs - G_ vs*(pw j*(q - 1))∧0≤G_ z2∧G_ z2<G_ vs*pw j:=by
 have hz:=h.zl
 have b0:=h.lt
 rw[show j+p+3=j+(p+2)+1 by omega] at b0
 have b1:=B7s h.lz hl (i:=j+(p+2)+1) (by omega) hn ho b0
 have b2:=B7s hl hl2 (i:=j+(p+2)+1) (by omega) hn2 ho2 b1
 have n2:=T_ hl2
 have e1:(q - 1)*(G_ vs*pw j)=pw j*(q*G_ vs) - G_ vs*pw j:=by grind
 have e2:pw j*G_ vs=G_ vs*pw j:=Int.mul_comm _ _
 have key:G_ z2=G_ zs - pw j*(q*G_ vs)+G_ vs*pw j:=C8d (hi:=j+(p+2)+1) hc (by rw[hv2,hv,e2,Int.mul_one];omega) (by omega) b2
 refine ⟨by rw[key];grind,n2,?_⟩
 omega
theorem C7q {os:List Int} {X V q z z1:Int} {j:Nat} (hj:j<os.length) (h:z=X - V*(pw (j+1)*G_ (os.drop (j+1)))) (h1:z1=z - V*(pw j*q)):z1=X - V*(pw j*G_ ((os.set j q).drop j)):=by
 rw[h1,h,B7m hj,G_,A1l];grind
end
theorem D1p {ys vs:List Int} {p:Nat} {f v1:Int} (hy:Can ys) (ly:ys.length=p+2) (lv:Lims vs) (hl:vs.length=p+2) (hv:G_ vs=G_ ys*f) (hf:0<f) (h1:vs[p+1]?=some v1):0<v1:=by
 have h2:=hy.len_le (by intro e;rw[e] at ly;simp at ly)
 rw[ly,show p+2 - 1=p+1 from rfl] at h2
 have h3:G_ ys*1≤G_ ys*f:=Int.mul_le_mul_of_nonneg_left (by omega) (T_ hy.1)
 have h4:=Y_ h1
 rw[List.take_of_length_le (Nat.le_of_eq hl)] at h4
 have h5:=(B1b lv (p+1) (by omega)).2
 have h6:=(lv.get h1).1
 rcases Int.lt_or_le 0 v1 with h | h
 ·exact h
 have:v1=0:=by omega
 subst this
 omega
end Go.XN

namespace Go.XN
open Go.XB

def A3c (a:List Int):Bool:=decide (a.length≤60)&&(a.all (fun x=>decide (0≤x∧x<1000000000))&&decide (a.getLast?≠some 0))
theorem natOkB_iff {a:List Int}:A3c a=true↔a.length≤60∧Can a:=by
 unfold A3c Can Lims;simp[List.all_eq_true]
def A1x (x:TBigInt):Bool:=A3c x.mag&&(!x.neg || !x.mag.isEmpty)
def A0f (x:TBigInt):Int:=if x.neg then -G_ x.mag else G_ x.mag
def Q_ (n:Int):TBigInt:=⟨decide (n<0),dig n.natAbs⟩

theorem Can.dig_natAbs {l:List Int} (h:Can l):dig (G_ l).natAbs=l:=by
 have e:(G_ l).natAbs=(G_ l).toNat:=by have:=T_ h.1;omega
 rw[e];exact h.eq_dig.symm
theorem B8r {neg:Bool} {mag:List Int} {v:Int} (hm:Can mag) (hv:v=if neg then -G_ mag else G_ mag):(⟨neg&&!mag.isEmpty,mag⟩:TBigInt)=Q_ v:=by
 have h0:=T_ hm.1
 unfold Q_
 have e:dig v.natAbs=mag:=by
  rw[hv]
  cases neg
  ·exact hm.dig_natAbs
  simpa using hm.dig_natAbs
 rw[e]
 congr 1
 cases mag with
 | nil=>subst hv;cases neg<;>simp[G_]
 | cons a l =>
  have hp:=hm.pos (by simp)
  cases neg
  ·subst hv;simp;omega
  subst hv;simp;omega
theorem A1m (n:Int):A0f (Q_ n)=n:=by
 unfold A0f Q_
 simp only [decide_eq_true_eq,A1n]
 split<;>omega
theorem A0y (n:Int):Can (Q_ n).mag:=W_ _
theorem bigOkB_iff {x:TBigInt}:A1x x=true↔(x.mag.length≤60∧Can x.mag)∧(x.neg=true→x.mag≠[]):=by
 unfold A1x
 rw[Bool.and_eq_true,natOkB_iff]
 cases x.neg<;>simp
theorem C9p {x:TBigInt} (h:A1x x=true):Q_ (A0f x)=x:=by
 obtain ⟨⟨_,hc⟩,hn⟩:=bigOkB_iff.1 h
 have:=B8r (neg:=x.neg) hc (v:=A0f x) rfl
 rw[← this]
 cases x with
 | mk neg mag =>
  simp only at hn ⊢
  congr 1
  cases neg<;>simp_all

def D7a:Nat:=1000000000 ^ 24
theorem len_le_iff {n k:Nat}:(dig n).length≤k↔(n:Int)<pw k:=by
 refine ⟨fun h=>?_,A3h⟩
 have h1:=A2r (B1l n).1
 rw[A1n] at h1
 have:=A2x h
 omega

def S_ (r:TRat):Bool:=A1x r.num&&(A3c r.den&&(!r.den.isEmpty&&(decide (r.num.mag.length≤24)&&(decide (r.den.length≤24)&&decide (Int.gcd (G_ r.num.mag) (G_ r.den)=1)))))
def A1j:TRat:=⟨⟨false,[]⟩,[]⟩
structure RatV (r:TRat):Prop where
 num:A1x r.num=true
 den:Can r.den
 den0:0<G_ r.den
 num24:r.num.mag.length≤24
 den24:r.den.length≤24
 one:Int.gcd (G_ r.num.mag) (G_ r.den)=1
theorem ratOkB_iff {r:TRat}:S_ r=true↔RatV r:=by
 unfold S_
 simp only [Bool.and_eq_true,decide_eq_true_eq,natOkB_iff,Bool.not_eq_true',List.isEmpty_eq_false_iff]
 constructor
 ·rintro ⟨h1,⟨_,h2⟩,h3,h4,h5,h6⟩
  exact ⟨h1,h2,h2.pos h3,h4,h5,h6⟩
 rintro ⟨h1,h2,h3,h4,h5,h6⟩
 exact ⟨h1,⟨by omega,h2⟩,by intro e;rw[e] at h3;simp[G_] at h3,h4,h5,h6⟩
theorem RatV.mag {r:TRat} (h:RatV r):Can r.num.mag:=(bigOkB_iff.1 h.num).1.2

def mkR (n d:Int):TRat :=
 if (dig (n / Int.gcd n d).natAbs).length≤24∧(dig (d / Int.gcd n d).natAbs).length≤24 then ⟨Q_ (n / Int.gcd n d),dig (d / Int.gcd n d).natAbs⟩ else A1j
def L_ (r:TRat):Int:=A0f r.num
def I_ (r:TRat):Int:=G_ r.den

def A2d (r s:TRat):TRat:=if S_ r&&S_ s then mkR (L_ r*I_ s+L_ s*I_ r) (I_ r*I_ s) else A1j
def A0u (r s:TRat):TRat:=if S_ r&&S_ s then mkR (L_ r*I_ s - L_ s*I_ r) (I_ r*I_ s) else A1j
def A1c (r s:TRat):TRat:=if S_ r&&S_ s then mkR (L_ r*L_ s) (I_ r*I_ s) else A1j
def D7j (r:TRat):TRat:=if S_ r then ⟨Q_ (-L_ r),r.den⟩ else A1j
def C1f (r s:TRat):Int:=sgn (L_ r*I_ s - L_ s*I_ r)
def A3a (r s:TRat):Int:=if S_ r&&S_ s then C1f r s else 0
def B5z (r:TRat):Int:=sgn (L_ r)
def A2s (r:TRat):Int:=if S_ r then B5z r else 0
def D7n (r s:TRat):TRat:=if S_ r&&S_ s then (if C1f r s≤0 then r else s) else A1j
def D7m (r s:TRat):TRat:=if S_ r&&S_ s then (if 0≤C1f r s then r else s) else A1j
def A1y (n:Int):TRat:=⟨Q_ n,[1]⟩
end Go.XN

namespace Go.XB
open Go.RowKit
structure TByte where
 v:Int
 deriving DecidableEq
instance:Dat TByte where
 sz:=1
 pos:=by decide
 at_:=fun _ cs x bs=>cs=[.int .u8 x.v]∧bs=[]∧0≤x.v∧x.v<256
 len:=fun h=>by rw[h.1];rfl
 one:=fun h u hu=>by rw[h.1] at hu;simp at hu;subst hu;rfl
 lt:=fun h b hb=>by rw[h.2.1] at hb;simp at hb
 keep:=fun h _=>h
theorem Sl.getByte {w:World} {A:Option Addr} {n c:Nat} {xs:List TByte} {bs:List Nat} (h:Sl w A n c xs bs) {k:Nat} (hk:k<n) :
  ∃ b off x,A=some ⟨b,off,none⟩∧b<w.heap.size∧b∈bs∧(0≤x∧x<256)∧w.cell? ⟨b,off+k,none⟩=some (.int .u8 x):=by
 obtain ⟨h1,h2,h3,h4,h5⟩:=h
 obtain ⟨b,off,bss,hA,hbs,hl,hb,he⟩:=h5 (by omega)
 have hx:xs[k]?=some (xs[k]'(by omega)):=List.getElem?_eq_getElem (by omega)
 have hf:bss[k]?=some (bss[k]'(by omega)):=List.getElem?_eq_getElem (by omega)
 obtain ⟨cs,hc,ha⟩:=he k _ _ hx hf
 obtain ⟨e1,_,e3⟩:=ha
 refine ⟨b,off,(xs[k]'(by omega)).v,hA,hb,by rw[hbs];simp,e3,?_⟩
 have:=hc 0 (.int .u8 (xs[k]'(by omega)).v) (by rw[e1];rfl)
 simpa [Dat.sz] using this
end Go.XB
namespace Go.Proofs.YtbhemnidcleaiaaGreat.X
open Go.RowKit Go.XB
attribute [local go_sem] O_ opAt P_ M_ Region.wanted yielded
attribute [local simp] P_ M_ MP.eq MP.agg MP.sl A0e

theorem C5x (a:Int):0≤bits .and .i64 a 255∧bits .and .i64 a 255<256:=by
 have h:bits .and .i64 a 255=IntKind.i64.wrap ((BitVec.ofInt 64 a &&& BitVec.ofInt 64 255).toNat):=rfl
 have h2:(BitVec.ofInt 64 a &&& BitVec.ofInt 64 255).toNat≤255:=by
  rw[BitVec.toNat_and]
  exact Nat.le_trans Nat.and_le_right (by decide)
 rw[h,IntWalk.i64_in _ (by omega)]
 omega
theorem B5u (w:World) (g o:Nat) (v:Value):w.grownBy (w.setCell ⟨g,o,none⟩ v) (some g) :=
 ⟨rfl,rfl,rfl,by simp,fun k _ hne=>Below.heap_setCell w ⟨g,o,none⟩ v k (fun e=>hne (by rw[e]))⟩
theorem A1u {w w':World} (hb:Below w.heap.size w w') (r:Option Nat):w.grownBy w' r:=⟨hb.os,hb.tape,hb.output,hb.size,fun k hk _=>hb.block k hk⟩
def Cur (w:World) (g:Nat) (A:Option Addr) (n c:Nat):Prop:=∃ (i:Nat) (h:Int),i≤n∧g<w.heap.size∧w.cell? ⟨g,0,none⟩=some (.slice A n c)∧w.cell? ⟨g,1,none⟩=some (.int .i64 i)∧w.cell? ⟨g,2,none⟩=some (.int .i64 h)∧w.frozen? ⟨g,1,none⟩=false∧w.frozen? ⟨g,2,none⟩=false
def C1d (w:World) (g:Nat) (A:Option Addr) (n c:Nat) (m:Int) (e:Ending) (w':World):Prop:=∃ x:Int,e=.returned (.int .i64 x)∧(0≤x∧x<m)∧Cur w' g A n c∧w.grownBy w' (some g)

theorem C1l (g:Nat) (A:Option Addr) (n c:Nat) (xs:List TByte) (bs:List Nat) (w:World) (hx:Sl w A n c xs bs) (hn:n≤1048576) (hc:Cur w g A n c) (hg:g∉bs) :
  Calls Tryz.prog 104 #[.pointer (some ⟨g,0,none⟩)] w (C1d w g A n c 256):=by
 obtain ⟨i,h,hi,hl,c0,c1,c2,f1,f2⟩:=hc
 have HX:=A_ hx
 rcases Nat.lt_or_ge i n with hin | hin
 ·obtain ⟨b,off,x,rfl,hb,hbm,hx1,cx⟩:=Sl.getByte hx hin
  have hbg:b≠g:=fun e=>hg (e ▸ hbm)
  have hgb:g≠b:=fun e=>hg (e ▸ hbm)
  have hii:(i:Int)<n:=by omega
  have hi0:(0:Int)≤i:=by omega
  clear hx hg hbm
  go_enter Tryz.func104,Tryz.ntmps104
  go_wp2_with fail
  refine A0l ?_
  iterate 13
   refine D_ _ ?_
  intro yq zq ux hC hd (hdis:Hid _)
  simp at hd
  have q12:=hd.2.2.2.2.2.2.2.2.2.2.2.2
  obtain ⟨x1,e12,hb1⟩:∃ x1,yq 12=.int .i64 x1∧(0≤x1∧x1<256):=⟨_,q12.1.1,C5x _⟩
  obtain ⟨hcu,hfu⟩:=C_ hC
  have hsu:=hC.size
  simp at hsu
  have k0:ux.cell? ⟨g,0,none⟩=some (.slice (some ⟨b,off,none⟩) n c):=by go_simp
  have k1:ux.cell? ⟨g,1,none⟩=some (.int .i64 i):=by go_simp
  obtain ⟨h2,k2⟩:∃ h2,ux.cell? ⟨g,2,none⟩=some (.int .i64 h2):=⟨_,by go_simp;first | done | rfl⟩
  have kx:ux.cell? ⟨b,off+i,none⟩=some (.int .u8 x):=by go_simp
  have z1:ux.frozen? ⟨g,1,none⟩=false:=by go_simp
  have z2:ux.frozen? ⟨g,2,none⟩=false:=by go_simp
  have G1:=A_ (show w.grownBy ux (some g) from (B5u w g 2 _).trans (A1u hC _))
  have hlu:g<ux.heap.size:=by omega
  have hbu:b<ux.heap.size:=by omega
  clear hd hdis q12 hcu hfu hC c0 c1 c2 f1 f2 cx hl hb
  go_simp
  go_wp2_with fail
  refine A0l ?_
  iterate 10
   refine D_ _ ?_
  intro yq zq uy hC hd (hdis:Hid _)
  simp at hd
  have q9:=hd.2.2.2.2.2.2.2.2.2
  have e9:yq 9=.bool true:=by rw[q9.1.1]
  obtain ⟨hcu,hfu⟩:=C_ hC
  have hsy:=hC.size
  have m0:uy.cell? ⟨g,0,none⟩=some (.slice (some ⟨b,off,none⟩) n c):=by go_simp
  have m1:uy.cell? ⟨g,1,none⟩=some (.int .i64 i):=by go_simp
  have m2:uy.cell? ⟨g,2,none⟩=some (.int .i64 h2):=by go_simp
  have mx:uy.cell? ⟨b,off+i,none⟩=some (.int .u8 x):=by go_simp
  have y1:uy.frozen? ⟨g,1,none⟩=false:=by go_simp
  have y2:uy.frozen? ⟨g,2,none⟩=false:=by go_simp
  have G2:=A_ (G1.o.trans (A1u hC (some g)))
  have hly:g<uy.heap.size:=by omega
  have hby:b<uy.heap.size:=by omega
  clear hd hdis q9 hcu hfu hC k0 k1 k2 kx z1 z2 hlu hbu G1
  go_simp
  go_wp2_with fail
  refine A0l ?_
  iterate 15
   refine D_ _ ?_
  intro yq zq uz hC hd (hdis:Hid _)
  simp at hd
  have q14:=hd.2.2.2.2.2.2.2.2.2.2.2.2.2.2
  obtain ⟨x2,e14,hb2⟩:∃ x2,yq 14=.int .i64 x2∧(0≤x2∧x2<256):=⟨_,q14.1.1,C5x _⟩
  obtain ⟨hcu,hfu⟩:=C_ hC
  have hsz:=hC.size
  have k0:uz.cell? ⟨g,0,none⟩=some (.slice (some ⟨b,off,none⟩) n c):=by go_simp
  have k1:uz.cell? ⟨g,1,none⟩=some (.int .i64 i):=by go_simp
  have k2:uz.cell? ⟨g,2,none⟩=some (.int .i64 h2):=by go_simp
  have z1:uz.frozen? ⟨g,1,none⟩=false:=by go_simp
  have z2:uz.frozen? ⟨g,2,none⟩=false:=by go_simp
  have G3:=A_ (G2.o.trans (A1u hC (some g)))
  have hlz:g<uz.heap.size:=by omega
  clear hd hdis q14 hcu hfu hC m0 m1 m2 mx y1 y2 hly hby G2
  go_simp
  go_wp2
  go_ret
  refine ⟨x2,rfl,hb2,⟨i+1,h2,by omega,by simpa using hlz,by go_simp,by first | (go_simp;done) | (go_simp;go_num),by go_simp,by go_simp,by go_simp⟩,G3.o.trans (B5u uz g 1 _)⟩
 have hii:¬ ((i:Int)<n):=by omega
 go_enter Tryz.func104,Tryz.ntmps104
 go_wp2_with fail
 refine A0l ?_
 iterate 13
  refine D_ _ ?_
 intro yq zq ux hC hd (hdis:Hid _)
 simp at hd
 have q12:=hd.2.2.2.2.2.2.2.2.2.2.2.2
 obtain ⟨x1,e12,hb1⟩:∃ x1,yq 12=.int .i64 x1∧(0≤x1∧x1<256):=⟨_,q12.1.1,C5x _⟩
 obtain ⟨hcu,hfu⟩:=C_ hC
 have hsu:=hC.size
 simp at hsu
 have k0:ux.cell? ⟨g,0,none⟩=some (.slice A n c):=by go_simp
 have k1:ux.cell? ⟨g,1,none⟩=some (.int .i64 i):=by go_simp
 obtain ⟨h2,k2⟩:∃ h2,ux.cell? ⟨g,2,none⟩=some (.int .i64 h2):=⟨_,by go_simp;first | done | rfl⟩
 have z1:ux.frozen? ⟨g,1,none⟩=false:=by go_simp
 have z2:ux.frozen? ⟨g,2,none⟩=false:=by go_simp
 have G1:=A_ (show w.grownBy ux (some g) from (B5u w g 2 _).trans (A1u hC _))
 have hlu:g<ux.heap.size:=by omega
 clear hd hdis q12 hcu hfu hC c0 c1 c2 f1 f2 hl
 go_simp
 go_wp2_with fail
 refine A0l ?_
 iterate 10
  refine D_ _ ?_
 intro yq zq uy hC hd (hdis:Hid _)
 simp at hd
 have q9:=hd.2.2.2.2.2.2.2.2.2
 have e9:yq 9=.bool false:=by rw[q9.1.1];simp;omega
 obtain ⟨hcu,hfu⟩:=C_ hC
 have hsy:=hC.size
 have m0:uy.cell? ⟨g,0,none⟩=some (.slice A n c):=by go_simp
 have m1:uy.cell? ⟨g,1,none⟩=some (.int .i64 i):=by go_simp
 have m2:uy.cell? ⟨g,2,none⟩=some (.int .i64 h2):=by go_simp
 have y1:uy.frozen? ⟨g,1,none⟩=false:=by go_simp
 have y2:uy.frozen? ⟨g,2,none⟩=false:=by go_simp
 have G2:=A_ (G1.o.trans (A1u hC (some g)))
 have hly:g<uy.heap.size:=by omega
 clear hd hdis q9 hcu hfu hC k0 k1 k2 z1 z2 hlu G1
 go_simp
 go_wp2
 go_ret
 exact ⟨x1,rfl,hb1,⟨i,h2,hi,hly,m0,m1,m2,y1,y2⟩,G2.o⟩
end Go.Proofs.YtbhemnidcleaiaaGreat.X

namespace Go.XB
open Go.RowKit
section
variable {α:Type} [Dat α] {w w':World} {cells:List Value} {xs:List α} {fss:List (List Nat)}
end
end Go.XB
namespace Go.Proofs.YtbhemnidcleaiaaGreat.X
open Go.RowKit Go.XB
def RR (bad:Nat→Prop) (w:World) (g n cap:Nat) (xs:List TRat):Prop :=
 ∃ cells fss,w.ownsRow 0 35 3 (.slice (some ⟨g,0,none⟩) n cap) n cells∧Filled w cells xs fss∧xs.length=n∧(∀ b∈fss.flatten,¬ bad b)∧bad g
section
variable {bad:Nat→Prop} {w w':World} {g n cap:Nat} {xs:List TRat}
end
structure MSt (w U:World) (o i cap n:Nat) (gs:List (Nat×Nat)) (M:List (List TRat)):Prop where
 bl:Below w.heap.size w U
 gl:gs.length=i
 ml:M.length=i
 nd:(o::gs.map (·.1)).Nodup
 lo:∀ b∈o::gs.map (·.1),w.heap.size≤b
 ou:U.ownsRow w.heap.size 27 1 (.slice (some ⟨o,0,none⟩) i cap) i (gs.map fun g=>.slice (some ⟨g.1,0,none⟩) n g.2)
 ro:∀ (k:Nat) (g:Nat×Nat) (r:List TRat),gs[k]?=some g→M[k]?=some r→RR (fun b=>b<w.heap.size∨b∈o::gs.map (·.1)) U g.1 n g.2 r
section
variable {w U U':World} {o i n cap:Nat} {gs:List (Nat×Nat)} {M:List (List TRat)}
end
def D7s (w:World) (base g n:Nat) (fs:List Int):Prop:=w.ownsRow base 3 1 (.slice (some ⟨g,0,none⟩) n n) n (fs.map (.int .i64))
end Go.Proofs.YtbhemnidcleaiaaGreat.X
