/- A part of the proof. -/
import Derived.Test.YtbkilakncnlebaaGreatDoorY19
import Derived.Test.YtbkilakncnlebaaGreatDoorY20
import Derived.BigRegion
import Derived.Deep.CutRange
import Derived.Test.YtbkilakncnlebaaGreatDoorY16
set_option linter.constructorNameAsVariable false
set_option maxHeartbeats 16000000
set_option maxRecDepth 10000
namespace Go.Proofs.YtbkilakncnlebaaGreatDoor.X
open Go.RowKit Go.XB Go.XN Go.XS Proofs.Tryz
attribute [local go_sem] L_ Go.XB.opAt N_ M_ Region.wanted yielded
attribute [local simp] N_ M_ MP.eq MP.agg MP.sl A0r

structure Cmp (w0:World) (g n F:Nat) (pv:Value) (cf:Int->Int->Int) (le:Int->Int->Bool):Prop where
 known:A4f F
 call:∀ w',w0.grownBy w' (some g)->∀ x y:Int,(0<=x/\x<n)->(0<=y/\y<n)->Calls prog F #[.int .i64 x,.int .i64 y,pv] w' (A0b w' (.int .i64 (cf x y)))
 less:∀ x y,x<y->cf y x<0->le y x=true
 more:∀ x y,x<y->¬ (cf y x<0)->le x y=true
 ord:LinOrd le




structure Tells (c:Bool) (p:Prop):Prop where
 yes':c=true->p
 no':p->c=true






def A8w (n:Nat):List Int:=(List.range n).map (λi:Nat=>(i:Int))

@[irreducible] def A7a:Int:=10 ^ 80
theorem D0v:0<=A7a:=dK
def OvL (M:Int) (xs:List TRat):Prop:=∀ i,i<xs.length->∃ u,(0<=u/\u<=A7a)/\Ov M u (xs.getD i A0h)
theorem OvL.mem {M:Int} {xs:List TRat} (h:OvL M xs) {x:TRat} (D:x∈xs):∃ u,(0<=u/\u<=A7a)/\Ov M u x:=by
 obtain⟨i,b,rfl⟩:=List.getElem_of_mem D;have:=h i b;rwa [List.getD_eq_getElem?_getD,List.getElem?_eq_getElem b]at this
theorem OvL.val {M:Int} {xs:List TRat} (h:OvL M xs):∀ x∈xs,RatV x:=λx hx=>by
 obtain⟨u,_,hu⟩:=h.mem hx
 exact ratOkB_iff.1 hu.val
theorem C4w (n:Nat) (h:n<=1000):(n:Int)*A7a<10 ^ 100:=by
 have b:(n:Int)*A7a<=1000*A7a:=Int.mul_le_mul_of_nonneg_right oS D0v;exact Int.lt_of_le_of_lt b dK
theorem B9c {u:Int} (h:0<=u):-(10 ^ 100)<u:=by
 have:(0:Int)<10 ^ 100:=dK;omega
theorem Ov.zero {M u:Int} {r:TRat} (h:Ov M u r):Ov M 0 (U_ 0):=by
 have:=Ov.int (n:=0) dE dE;exact this.cong h.m0 h.m1 dK dK sI
theorem E4k {M:Int}:∀ (xs:List TRat) (s:TRat) (u:Int) (n:Nat),(∀ x∈xs,∃ v,(0<=v/\v<=A7a)/\Ov M v x)->Ov M u s->0<=u->u<=n*A7a->n+xs.length<=1000 ->
  ∃ t,(0<=t/\t<=((n+xs.length:Nat):Int)*A7a)/\Ov M t (xs.foldl A0k s)
 | [],s,u,n,_,hs,h0,h1,_=>⟨u,⟨h0,by simpa using h1⟩,hs⟩
 |x::xs,s,u,n,hx,hs,h0,h1,hn=>by
  obtain⟨v,⟨v0,v1⟩,hv⟩:=hx x sI
  simp only[List.length_cons]at hn
  have e:((n+1:Nat):Int)*A7a=n*A7a+A7a:=by rw[Int.natCast_add,Int.add_mul];simp
  have hr:=C4w (n+1) oS
  obtain⟨t,ht,h⟩:=E4k xs (A0k s x) (u+v) (n+1) (λy hy=>hx y (by simp[hy])) (hs.add hv (B9c oS) oS) oS oS oS
  refine⟨t,⟨ht.1,?_⟩,h⟩
  rw[List.length_cons,show n+(xs.length+1)=n+1+xs.length by omega]
  exact ht.2
def C6o:List Int->List (List Int)
 | []=>[[]]
 |x::l=>C6o l++(C6o l).map (x::·)
end Go.Proofs.YtbkilakncnlebaaGreatDoor.X
