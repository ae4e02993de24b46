/- A part of the proof. -/
import Derived.Test.YtbhemnidcleaiaaGreatY16
import Derived.Test.YtbhemnidcleaiaaGreatY22
set_option linter.constructorNameAsVariable false
set_option maxHeartbeats 16000000
set_option maxRecDepth 10000
namespace Go.Proofs.YtbhemnidcleaiaaGreat.X
open Go.RowKit Go.XB Go.XN Go.XS
@[irreducible] def A7a:Int:=10 ^ 80
theorem D0v:0<=A7a:=dK
def OvL (M:Int) (xs:List TRat):Prop:=∀ i,i<xs.length->∃ u,(0<=u/\u<=A7a)/\Ov M u (xs.getD i A0h)
theorem OvL.mem {M:Int} {xs:List TRat} (h:OvL M xs) {x:TRat} (D:x∈xs):∃ u,(0<=u/\u<=A7a)/\Ov M u x:=by
 obtain⟨i,b,rfl⟩:=List.getElem_of_mem D;have:=h i b;rwa [List.getD_eq_getElem?_getD,List.getElem?_eq_getElem b]at this
theorem OvL.val {M:Int} {xs:List TRat} (h:OvL M xs):∀ x∈xs,RatV x:=λx hx=>by
 obtain⟨u,_,hu⟩:=h.mem hx
 exact ratOkB_iff.1 hu.val
theorem C4w (n:Nat) (h:n<=1000):(n:Int)*A7a<10 ^ 100:=by
 have b:(n:Int)*A7a<=1000*A7a:=Int.mul_le_mul_of_nonneg_right oM D0v;exact Int.lt_of_le_of_lt b dK
theorem B9c {u:Int} (h:0<=u):-(10 ^ 100)<u:=by
 have:(0:Int)<10 ^ 100:=dK;omega
theorem Ov.zero {M u:Int} {r:TRat} (h:Ov M u r):Ov M 0 (U_ 0):=by
 have:=Ov.int (n:=0) dE dE;exact this.cong h.m0 h.m1 dK dK sI
theorem E4k {M:Int}:∀ (xs:List TRat) (s:TRat) (u:Int) (n:Nat),(∀ x∈xs,∃ v,(0<=v/\v<=A7a)/\Ov M v x)->Ov M u s->0<=u->u<=n*A7a->n+xs.length<=1000 ->
  ∃ t,(0<=t/\t<=((n+xs.length:Nat):Int)*A7a)/\Ov M t (xs.foldl A0k s)
 | [],s,u,n,_,hs,h0,h1,_=>⟨u,⟨h0,by simpa using h1⟩,hs⟩
 |x::xs,s,u,n,hx,hs,h0,h1,hn=>by
  obtain⟨v,⟨v0,v1⟩,hv⟩:=hx x sI
  simp only[List.length_cons]at hn
  have e:((n+1:Nat):Int)*A7a=n*A7a+A7a:=by rw[Int.natCast_add,Int.add_mul];simp
  have hr:=C4w (n+1) oM
  obtain⟨t,ht,h⟩:=E4k xs (A0k s x) (u+v) (n+1) (λy hy=>hx y (by simp[hy])) (hs.add hv (B9c oM) oM) oM oM oM
  refine⟨t,⟨ht.1,?_⟩,h⟩
  rw[List.length_cons,show n+(xs.length+1)=n+1+xs.length by omega]
  exact ht.2
theorem D0q {M:Int} {xs:List TRat} {want:TRat} (hx:OvL M xs):∀ (is:List Int) (s:TRat) (u:Int) (n:Nat),(∀ k∈is,0<=k/\k<xs.length)->Ov M u s->0<=u->u<=n*A7a->n+is.length<=1000 ->
  ∃ j,A6d xs want is s=some (is.take j)
 | [],s,u,n,_,_,_,_,_=>⟨0,rfl⟩
 |i::is,s,u,n,hi,hs,h0,h1,hn=>by
  obtain⟨i0,i1⟩:=hi i sI
  obtain⟨v,⟨v0,v1⟩,hv⟩:=hx i.toNat oM
  simp only[List.length_cons]at hn
  have e:((n+1:Nat):Int)*A7a=n*A7a+A7a:=by rw[Int.natCast_add,Int.add_mul];simp
  have hr:=C4w (n+1) oM
  have ha:=hs.add hv (B9c oM) oM
  unfold A6d
  split
  ·exact⟨0,rfl⟩
  rw[if_pos ha.val]
  obtain⟨j,hj⟩:=D0q (want:=want) hx is _ (u+v) (n+1) (λk hk=>hi k (by simp[hk])) ha oM oM oM
  rw[hj]
  exact⟨j+1,rfl⟩
def C6o:List Int->List (List Int)
 | []=>[[]]
 |x::l=>C6o l++(C6o l).map (x::·)
theorem C3c (f:Int->Bool):∀ l:List Int,l.filter f∈C6o l
 | []=>by simp[C6o]
 |x::l=>by
  have ih:=C3c f l
  unfold C6o
  rw[List.filter_cons,List.mem_append]
  split
  ·exact .inr (List.mem_map.2 ⟨_,ih,rfl⟩)
  exact .inl ih
theorem D9d {b:Int} (h:0<=b) (u:b<=5):B3f (mkR b 5)=true/\Ov 5 b (mkR b 5):=by
 refine⟨?_,dE,dK,B9c h,?_,rfl⟩;·obtain rfl|rfl|rfl|rfl|rfl|rfl:b=0\/b=1\/b=2\/b=3\/b=4\/b=5:=oM;all_goals decide
 have:(5:Int)<10 ^ 100:=dK;omega
theorem E3e {M:Int} {xs:List TRat} {b:Int} (h:OvL M xs) (al:M<10 ^ 40) (an:xs.length<=100) (K:0<=b) (O:b<=5) :
  A5d xs (mkR b 5)=true/\J_ (A0d (mkR b 5) (A8v xs))=true/\(A6d xs (A0d (mkR b 5) (A8v xs)) (A1z xs) (U_ 0)).isSome=true/\A5k xs (mkR b 5)∈C6o (A8w xs.length):=by
 obtain⟨ag,ah⟩:=D9d K O;have G:A5d xs (mkR b 5)=true:=by
  unfold A5d;have aa:xs.all J_=true:=List.all_eq_true.2 λx u=>ratOkB_iff.2 (h.val x u)
  have ab:xs.any (λr=>decide (A2v r<0))=false:=by
   rw[List.any_eq_false];intro x E;obtain⟨aw,aq,T⟩:=h.mem E;have D:=T.sign;unfold A9m at D;rw[T.val]at D;simp only[if_true]at D;rw[D];simp only[decide_eq_true_eq];unfold sgn;split;·omega
   split<;>omega
  rw[aa,ab,ag];rfl
 cases H:xs with
 |nil=>exact⟨by rw[<-H];exact G,by
   obtain rfl|rfl|rfl|rfl|rfl|rfl:b=0\/b=1\/b=2\/b=3\/b=4\/b=5:=oM;all_goals decide +kernel,by
   obtain rfl|rfl|rfl|rfl|rfl|rfl:b=0\/b=1\/b=2\/b=3\/b=4\/b=5:=oM;all_goals decide +kernel,by
   obtain rfl|rfl|rfl|rfl|rfl|rfl:b=0\/b=1\/b=2\/b=3\/b=4\/b=5:=oM;all_goals decide +kernel⟩
 |cons x0 l0 =>
  rw[<-H]
  obtain⟨u0,_,W⟩:=h 0 (by rw[H];simp)
  have Y:=W.zero
  obtain⟨t,⟨Z,au⟩,ac⟩:=E4k xs (U_ 0) 0 0 (λx u=>h.mem u) Y dE sI oM
  have ap:=C4w (1000) oM
  have ao:((0+xs.length:Nat):Int)*A7a<=100*A7a:=Int.mul_le_mul_of_nonneg_right oM D0v
  have ai:100*A7a<10 ^ 90:=dK
  have aj:5*(10:Int) ^ 90<10 ^ 100:=dK
  have c3:5*(10:Int) ^ 90<10 ^ 190:=dK
  have ak:5*(10:Int) ^ 40<10 ^ 45:=dK
  have ad:0<=b*t:=Int.mul_nonneg K Z
  have am:b*t<=5*t:=Int.mul_le_mul_of_nonneg_right O Z
  have ar:=W.m0
  have X:J_ (A0d (mkR b 5) (A8v xs))=true:=by
   have:=Ov.mul ah ac (P:=5*M) (t:=b*t) oM (by generalize (10:Int) ^ 40=I at *;generalize (10:Int) ^ 45=J at *;omega) (B9c ad)
    (by generalize (10:Int) ^ 100=I at *;generalize (10:Int) ^ 90=J at *;omega)
    (by have:(0:Int)<10 ^ 190:=dK;omega) (by generalize (10:Int) ^ 190=I at *;generalize (10:Int) ^ 90=J at *;omega) rfl
   exact this.val
  have E:∀ k∈A1z xs,0<=k/\k<xs.length:=λk ae=>B1c ((B3q h.val).mem_iff.1 ae)
  obtain⟨j,S⟩:=D0q (want:=A0d (mkR b 5) (A8v xs)) h (A1z xs) (U_ 0) 0 0 E Y dE sI (by rw[C0d h.val];omega)
  refine⟨G,X,by rw[S];rfl,?_⟩
  unfold A5k
  rw[G,X,S]
  simp only[Bool.and_self,if_true]
  have af:((A1z xs).take j).Nodup:=((B3q h.val).nodup_iff.2 (C7e _)).sublist (List.take_sublist _ _)
  rw[D3v af λx u=>(B3q h.val).mem_iff.1 (List.mem_of_mem_take u)]
  exact C3c _ _
end Go.Proofs.YtbhemnidcleaiaaGreat.X
