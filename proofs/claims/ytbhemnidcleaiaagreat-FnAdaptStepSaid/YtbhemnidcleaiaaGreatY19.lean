/- A part of the proof. -/
set_option linter.constructorNameAsVariable false
set_option maxHeartbeats 16000000
set_option maxRecDepth 10000
namespace Go.XS
variable {α:Type} {le:α->α->Bool}

structure LinOrd (le:α->α->Bool):Prop where
 trans:∀ a b c,le a b=true->le b c=true->le a c=true
 total:∀ a b,(le a b || le b a)=true
 anti:∀ a b,le a b=true->le b a=true->a=b

def Srt (le:α->α->Bool) (l:List α):Prop:=l.Pairwise (λa b=>le a b=true)

theorem LinOrd.refl (h:LinOrd le) (a:α):le a a=true:=by have:=h.total a a;simpa using this
theorem D1w (h:LinOrd le) {l m:List α} (hp:m.Perm l) (hs:Srt le m):l.mergeSort le=m :=
 List.Perm.eq_of_pairwise (λa b _ _=>h.anti a b) (List.pairwise_mergeSort h.trans h.total l) hs ((List.mergeSort_perm l le).trans hp.symm)
theorem D3w (h:LinOrd le) (l:List α):Srt le (l.mergeSort le):=List.pairwise_mergeSort h.trans h.total l
theorem B9n (h:LinOrd le) {l m:List α} (hp:m.Perm l):m.mergeSort le=l.mergeSort le :=
 D1w h ((List.mergeSort_perm l le).trans hp.symm) (D3w h l)

theorem D1b (h:LinOrd le) {l:List α} (J:Srt le l) {i j:Nat} {x y:α} (D:l[i]?=some x) (b:l[j]?=some y) (K:i<=j):le x y=true:=by
 obtain⟨H,E⟩:=List.getElem?_eq_some_iff.1 D;obtain⟨I,G⟩:=List.getElem?_eq_some_iff.1 b;rcases Nat.lt_or_ge i j with u|u;·have:=List.pairwise_iff_getElem.1 J i j H I u;rwa [E,G]at this
 have:i=j:=by omega
 subst this;rw[D]at b;cases b;exact h.refl x

theorem E4b {l:List α} (h:Srt le l) (i:Nat):Srt le (l.take i):=h.sublist (List.take_sublist i l)
theorem E2u {l:List α} (h:Srt le l) (i:Nat):Srt le (l.drop i):=h.sublist (List.drop_sublist i l)

theorem D1r {l:List α} {i:Nat} {x:α} (h:x∈l.take i):∃ k,k<i/\l[k]?=some x:=by
 obtain⟨k,b⟩:=List.mem_iff_getElem?.1 h;rw[List.getElem?_take]at b;split at b;·exact⟨k,by assumption,b⟩
 cases b
theorem B8x {l:List α} {i:Nat} {x:α} (h:x∈l.drop i):∃ k,i<=k/\l[k]?=some x:=by
 obtain⟨k,b⟩:=List.mem_iff_getElem?.1 h;rw[List.getElem?_drop]at b;exact⟨i+k,by omega,b⟩

theorem D4v (h:LinOrd le) {R:List α} (b:Srt le R) (x:α) {j:Nat} (J:∀ y,0<j->R[j - 1]?=some y->le y x=true) (K:∀ y,R[j]?=some y->le x y=true) (W:j<=R.length) :
  (x::R).mergeSort le=R.take j++x::R.drop j:=by
 apply D1w h;·refine List.Perm.trans List.perm_middle ?_;simp
 refine List.pairwise_append.2 ⟨E4b b j,List.pairwise_cons.2 ⟨λy u=>?_,E2u b j⟩,λy u z D=>?_⟩;·obtain⟨I,H,gb⟩:=B8x u;have T:=(List.getElem?_eq_some_iff.1 gb).1;have G:R[j]?=some (R[j]'(by omega)):=List.getElem?_eq_getElem (by omega);exact h.trans _ _ _ (K _ G) (D1b h b G gb H)
 obtain⟨a,S,ga⟩:=D1r u;have E:R[j - 1]?=some (R[j - 1]'(by omega)):=List.getElem?_eq_getElem (by omega);have O:=h.trans _ _ _ (D1b h b ga E (by omega)) (J _ (by omega) E);rcases List.mem_cons.1 D with rfl|D;·exact O
 obtain⟨I,H,gb⟩:=B8x D;exact D1b h b ga gb (by omega)

theorem E1c (h:LinOrd le) {L:List α} (y:α):(L++[y]).mergeSort le=(y::L).mergeSort le:=B9n h List.perm_append_comm

theorem E3g {P M Q:List α} {x y:α}:((P++x::(M++y::Q)).set P.length y).set (P.length+1+M.length) x=P++y::(M++x::Q):=by
 rw[List.set_append_right _ _ (Nat.le_refl _),Nat.sub_self,List.set_cons_zero,List.set_append_right _ _ (by omega)];rw[show P.length+1+M.length - P.length=M.length+1 by omega,List.set_cons_succ,List.set_append_right _ _ (Nat.le_refl _),Nat.sub_self,List.set_cons_zero]
theorem D1q {P Q:List α} {x:α}:(P++x::Q)[P.length]?=some x:=by simp
theorem E3p {P M Q:List α} {x y:α}:(P++x::(M++y::Q))[P.length+1+M.length]?=some y:=by
 rw[List.getElem?_append_right (by omega),show P.length+1+M.length - P.length=M.length+1 by omega,List.getElem?_cons_succ];simp

def sb (le:α->α->Bool) (B:Nat):Nat->List α->List α
 |0,_=>[]
 |f+1,l=>if l=[]then []else(l.take B).mergeSort le++sb le B f (l.drop B)


def B9a {β:Type} (p:β->β->Bool) (key:Int->β) (i j:Int):Bool:=p (key j) (key i)&&(!p (key i) (key j) || decide (i<=j))

theorem E2m {I:Type} {p:I->I->Bool} {b:Int->I} (H:∀ i j k,p (b i) (b j)=true->p (b j) (b k)=true->p (b i) (b k)=true) (W:∀ i j,(p (b i) (b j) || p (b j) (b i))=true):LinOrd (B9a p b):=by
 constructor
 ·intro a h c u D
  unfold B9a at *;simp only[Bool.and_eq_true,Bool.or_eq_true,Bool.not_eq_true',decide_eq_true_eq]at *;obtain⟨u,E⟩:=u;obtain⟨D,G⟩:=D;refine⟨H _ _ _ D u,?_⟩;cases J:p (b a) (b c)with
  |false=>exact .inl rfl
  |true =>
   have S:p (b a) (b h)=true:=H _ _ _ J D
   have T:p (b h) (b c)=true:=H _ _ _ u J
   rw[S]at E;rw[T]at G
   right
   have K:a<=h:=by simpa using E
   have O:h<=c:=by simpa using G
   omega
 ·intro a h;unfold B9a;have:=W a h;cases u:p (b a) (b h)<;>cases D:p (b h) (b a)<;>simp_all;omega
 intro a h u D;unfold B9a at *;simp only[Bool.and_eq_true,Bool.or_eq_true,Bool.not_eq_true',decide_eq_true_eq]at *;obtain⟨u,E⟩:=u;obtain⟨D,G⟩:=D;rw[D]at E;rw[u]at G;have K:a<=h:=by simpa using E
 have O:h<=a:=by simpa using G
 omega

theorem D6y {u:Type} {p:u->u->Bool} {b:Int->u} (D:∀ i j,(p (b i) (b j) || p (b j) (b i))=true) {x y:Int} (h:p (b y) (b x)=false):B9a p b y x=true:=by
 unfold B9a;have:=D x y;rw[h]at this ⊢;simpa using this
theorem E0t {u:Type} {p:u->u->Bool} {b:Int->u} {x y:Int} (D:x<y) (h:p (b y) (b x)=true):B9a p b x y=true:=by
 unfold B9a;rw[h];simp;right;omega

theorem D5g {n1 u n2 h E D:Int} (G:0<u) (H:0<h) (I:0<D) (a:n1*h<=n2*u) (b:n2*D<=E*h):n1*D<=E*u:=by
 have J:=Int.mul_le_mul_of_nonneg_right a (Int.le_of_lt I);have K:=Int.mul_le_mul_of_nonneg_right b (Int.le_of_lt G);refine Int.le_of_mul_le_mul_right (a:=h) ?_ H;have O:n1*h*D=n1*D*h:=by rw[Int.mul_assoc,Int.mul_comm h,<-Int.mul_assoc]
 have S:n2*u*D=n2*D*u:=by rw[Int.mul_assoc,Int.mul_comm u,<-Int.mul_assoc]
 have T:E*h*u=E*u*h:=by rw[Int.mul_assoc,Int.mul_comm h,<-Int.mul_assoc]
 omega
end Go.XS
