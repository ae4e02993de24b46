/- A part of the proof. -/
import Derived.WalkKit
import Derived.WalkSpells
import Derived.Deep.Draws
import Derived.Test.YtbhemnidcleaiaaGreatRows
import Derived.WalkLawsBesides
import Derived.ProofKit
import Derived.OwnWalk
set_option linter.constructorNameAsVariable false
set_option maxHeartbeats 16000000
set_option maxRecDepth 10000
namespace Go.XB
open Go.RowKit

def I64 (x:Int):Prop:=-9223372036854775808<=x/\x<=9223372036854775807

theorem E1b (a:Addr) (n:Nat):(a.add n).block=a.block:=by unfold Addr.add;split<;>rfl

class Dat (α:Type) where
 sz:Nat
 pos:0<sz
 at_:World->List Value->α->List Nat->Prop
 len:∀ {w cs x bs},at_ w cs x bs->cs.length=sz
 one:∀ {w cs x bs},at_ w cs x bs->∀ u∈cs,u.oneCell'=true
 lt:∀ {w cs x bs},at_ w cs x bs->∀ b∈bs,b<w.1.size
 keep:∀ {w w' cs x bs},at_ w cs x bs->(∀ b∈bs,w'.1[b]?=w.1[b]?)->at_ w' cs x bs

theorem E_ {w:World} {b:Nat} {o:Obj} (h:w.1[b]?=some o):b<w.1.size:=by
 rcases Nat.lt_or_ge b w.1.size with u|u;·exact u
 rw[Array.getElem?_eq_none u]at h;cases h
theorem E6m {w w':World} {b:Nat} (h:b<w.1.size) (e:w'.1[b]?=w.1[b]?):b<w'.1.size:=by
 rw[Array.getElem?_eq_getElem h]at e;exact E_ e

theorem _root_.dE {p:Prop} (h:p:=by decide):p:=h
instance:Dat Int where
 sz:=1
 pos:=dE
 at_:=λ_ cs x bs=>cs=[.int .i64 x]/\bs=[]/\I64 x
 len:=λh=>by rw[h.1];rfl
 one:=λh u hu=>by rw[h.1]at hu;simp at hu;subst hu;rfl
 lt:=λh b hb=>by rw[h.2.1]at hb;simp at hb
 keep:=λh _=>h

instance:Dat Bool where
 sz:=1
 pos:=dE
 at_:=λ_ cs x bs=>cs=[.bool x]/\bs=[]
 len:=λh=>by rw[h.1];rfl
 one:=λh u hu=>by rw[h.1]at hu;simp at hu;subst hu;rfl
 lt:=λh b hb=>by rw[h.2]at hb;simp at hb
 keep:=λh _=>h

instance:Dat ByteArray where
 sz:=1
 pos:=dE
 at_:=λ_ cs x bs=>cs=[.string x]/\bs=[]/\x.size<=maxLen
 len:=λh=>by rw[h.1];rfl
 one:=λh u hu=>by rw[h.1]at hu;simp at hu;subst hu;rfl
 lt:=λh b hb=>by rw[h.2.1]at hb;simp at hb
 keep:=λh _=>h

def Elems {α:Type} [Dat α] (w:World) (b off:Nat) (xs:List α) (bss:List (List Nat)):Prop :=
 bss.length=xs.length/\b<w.1.size/\∀ k x fs,xs[k]?=some x->bss[k]?=some fs ->
  ∃ cs,(∀ j u,cs[j]?=some u->w.cell? ⟨b,off+(k*Dat.sz α+j),none⟩=some u)/\Dat.at_ w cs x fs

def Sl {α:Type} [Dat α] (w:World) (A:Option Addr) (n c:Nat) (xs:List α) (bs:List Nat):Prop :=
 xs.length=n/\n<=c/\c<=maxLen/\(n=0->bs=[]) /\
 (0<n->∃ b off bss,A=some ⟨b,off,none⟩/\bs=b::bss.flatten/\Elems w b off xs bss)

theorem Elems.keep {α:Type} [Dat α] {w w':World} {b D:Nat} {xs:List α} {u:List (List Nat)} (h:Elems w b D xs u)
  (I:∀ g∈b::u.flatten,w'.1[g]?=w.1[g]?):Elems w' b D xs u:=by
 obtain⟨K,O,S⟩:=h;have G:=I b (List.mem_cons_self ..);refine⟨K,E6m O G,λk x E Z H=>?_⟩;obtain⟨J,W,T⟩:=S k x E Z H;refine⟨J,λj aa Y=>?_,Dat.keep T λg X=>I g (List.mem_cons_of_mem _ (List.mem_flatten.2 ⟨E,List.mem_of_getElem? H,X⟩))⟩;rw[World.cell?_of_block (a:=⟨b,D+(k*Dat.sz α+j),none⟩) G];exact W j aa Y

theorem Elems.lt {α:Type} [Dat α] {w:World} {b T:Nat} {xs:List α} {D:List (List Nat)} (h:Elems w b T xs D):∀ g∈b::D.flatten,g<w.1.size:=by
 obtain⟨H,I,J⟩:=h;intro g u;rcases List.mem_cons.1 u with rfl|u;·exact I
 obtain⟨G,O,u⟩:=List.mem_flatten.1 u;obtain⟨k,E⟩:=List.mem_iff_getElem?.1 O;have S:k<xs.length:=by rw[<-H];exact(List.getElem?_eq_some_iff.1 E).1
 obtain⟨W,_,K⟩:=J k _ G (List.getElem?_eq_getElem S) E;exact Dat.lt K g u

theorem Sl.keep {α:Type} [Dat α] {w w':World} {A:Option Addr} {n c:Nat} {xs:List α} {b:List Nat} (h:Sl w A n c xs b)
  (T:∀ g∈b,w'.1[g]?=w.1[g]?):Sl w' A n c xs b:=by
 obtain⟨G,H,I,J,K⟩:=h;refine⟨G,H,I,J,λW=>?_⟩;obtain⟨D,X,E,O,u,S⟩:=K W;exact⟨D,X,E,O,u,S.keep (by rw[<-u];exact T)⟩

theorem Sl.lt {α:Type} [Dat α] {w:World} {A:Option Addr} {n c:Nat} {xs:List α} {u:List Nat} (h:Sl w A n c xs u):∀ g∈u,g<w.1.size:=by
 obtain⟨K,O,S,D,E⟩:=h;rcases Nat.eq_zero_or_pos n with b|b;·rw[D b];simp
 obtain⟨I,W,J,T,G,H⟩:=E b;rw[G];exact H.lt

theorem Sl.below {α:Type} [Dat α] {w w':World} {A:Option Addr} {n c:Nat} {xs:List α} {bs:List Nat} (h:Sl w A n c xs bs) (hb:Below w.1.size w w'):Sl w' A n c xs bs :=
 h.keep λg hg=>hb.block g (h.lt g hg)

theorem Sl.belowB {α:Type} [Dat α] {w w':World} {B:Nat} {A:Option Addr} {n c:Nat} {xs:List α} {bs:List Nat} (h:Sl w A n c xs bs) (hb:Below B w w') (hB:∀ g∈bs,g<B):Sl w' A n c xs bs :=
 h.keep λg hg=>hb.block g (hB g hg)

theorem Sl.nil {α:Type} [Dat α] (w:World):Sl (α:=α) w none 0 0 [] []:=⟨rfl,Nat.le_refl _,Nat.zero_le _,λ_=>rfl,λh=>absurd h dE⟩

instance {α:Type} [Dat α]:Dat (List α) where
 sz:=1
 pos:=dE
 at_:=λw cs xs bs=>∃ A n c,cs=[.slice A n c]/\Sl w A n c xs bs
 len:=λ⟨_,_,_,h,_⟩=>by rw[h];rfl
 one:=λ⟨_,_,_,h,_⟩ u hu=>by rw[h]at hu;simp at hu;subst hu;rfl
 lt:=λ⟨_,_,_,_,h⟩=>h.lt
 keep:=λ⟨A,n,c,h,hs⟩ hk=>⟨A,n,c,h,hs.keep hk⟩

instance {α β:Type} [Dat α] [Dat β]:Dat (α×β) where
 sz:=Dat.sz α+Dat.sz β
 pos:=Nat.add_pos_left Dat.pos _
 at_:=λw cs x bs=>∃ c1 c2 b1 b2,cs=c1++c2/\bs=b1++b2/\Dat.at_ w c1 x.1 b1/\Dat.at_ w c2 x.2 b2
 len:=λ⟨_,_,_,_,h,_,h1,h2⟩=>by rw[h,List.length_append,Dat.len h1,Dat.len h2]
 one:=λ⟨_,_,_,_,h,_,h1,h2⟩ u hu=>by
  rw[h]at hu
  rcases List.mem_append.1 hu with hu|hu
  ·exact Dat.one h1 u hu
  exact Dat.one h2 u hu
 lt:=λ⟨_,_,_,_,_,h,h1,h2⟩ b hb=>by
  rw[h]at hb
  rcases List.mem_append.1 hb with hb|hb
  ·exact Dat.lt h1 b hb
  exact Dat.lt h2 b hb
 keep:=λ⟨c1,c2,b1,b2,h,hb,h1,h2⟩ hk=>⟨c1,c2,b1,b2,h,hb,Dat.keep h1 λb hb'=>hk b (by rw[hb];exact List.mem_append_left _ hb'),Dat.keep h2 λb hb'=>hk b (by rw[hb];exact List.mem_append_right _ hb')⟩

abbrev Dat.via {α β:Type} [Dat β] (f:α->β):Dat α where
 sz:=Dat.sz β
 pos:=Dat.pos
 at_:=λw cs x bs=>Dat.at_ w cs (f x) bs
 len:=λh=>Dat.len (α:=β) h
 one:=λh=>Dat.one (α:=β) h
 lt:=λh=>Dat.lt (α:=β) h
 keep:=λh hk=>Dat.keep (α:=β) h hk

def Agg {α:Type} [Dat α] (w:World) (v:Value) (x:α) (bs:List Nat):Prop:=∃ cs,v=.agg cs.toArray/\Dat.at_ w cs x bs

theorem Agg.keep {α:Type} [Dat α] {w w':World} {v:Value} {x:α} {b:List Nat} (h:Agg w v x b) (G:∀ g∈b,w'.1[g]?=w.1[g]?):Agg w' v x b:=by
 obtain⟨u,D,E⟩:=h;exact⟨u,D,Dat.keep E G⟩
theorem Agg.lt {α:Type} [Dat α] {w:World} {v:Value} {x:α} {b:List Nat} (h:Agg w v x b):∀ g∈b,g<w.1.size:=by
 obtain⟨D,E,u⟩:=h;exact Dat.lt u
theorem Agg.below {α:Type} [Dat α] {w w':World} {v:Value} {x:α} {bs:List Nat} (h:Agg w v x bs) (hb:Below w.1.size w w'):Agg w' v x bs :=
 h.keep λg hg=>hb.block g (h.lt g hg)

def Own (w0 w:World) (bs:List Nat):Prop:=bs.Nodup/\∀ b∈bs,w0.1.size<=b/\∃ cs t,w.1[b]?=some (.cells cs t (0,0))

theorem Own.nil (w0 w:World):Own w0 w []:=⟨List.nodup_nil,λ_ h=>by simp at h⟩
theorem Own.below {w0 w w':World} {bs:List Nat} (h:Own w0 w bs) (hb:Below w.1.size w w'):Own w0 w' bs :=
 ⟨h.1,λb hm=>⟨(h.2 b hm).1,by obtain⟨cs,t,e⟩:=(h.2 b hm).2;exact⟨cs,t,(hb.block b (E_ e)).trans e⟩⟩⟩
theorem Own.older {w0 w1 w:World} {bs:List Nat} (h:Own w1 w bs) (hs:w0.1.size<=w1.1.size):Own w0 w bs :=
 ⟨h.1,λb hm=>⟨Nat.le_trans hs (h.2 b hm).1,(h.2 b hm).2⟩⟩
theorem Own.lt {w0 w:World} {bs:List Nat} (h:Own w0 w bs):∀ b∈bs,b<w.1.size:=λb hm=>by
 obtain⟨cs,t,e⟩:=(h.2 b hm).2;exact E_ e
theorem Own.append {w0 w:World} {b1 b2:List Nat} (h1:Own w0 w b1) (h2:Own w0 w b2) (hd:∀ b∈b1,b∉b2):Own w0 w (b1++b2) :=
 ⟨List.nodup_append.2 ⟨h1.1,h2.1,λa ha b hb e=>hd a ha (e ▸ hb)⟩,λb hm=>by
  rcases List.mem_append.1 hm with hm|hm
  ·exact h1.2 b hm
  exact h2.2 b hm⟩

theorem A9o {N:Nat} {b1 b2:List Nat} (h1:∀ b∈b1,b<N) (h2:∀ b∈b2,N<=b):∀ b∈b1,b∉b2:=λb hb hb'=>by
 have:=h1 b hb;have:=h2 b hb';omega

def A0b (w:World) (v:Value) (e:Ending) (w':World):Prop:=e=.returned v/\Below w.1.size w w'

def A0c {α:Type} [Dat α] (w:World) (x:α) (e:Ending) (w':World):Prop :=
 ∃ v bs,e=.returned v/\Agg w' v x bs/\Own w w' bs/\Below w.1.size w w'

def A0w {α:Type} [Dat α] (w:World) (xs:List α) (e:Ending) (w':World):Prop :=
 ∃ A n c bs,e=.returned (.slice A n c)/\Sl w' A n c xs bs/\Own w w' bs/\Below w.1.size w w'

end Go.XB

namespace Go.XB
open Go.RowKit

theorem _root_.oM {p:Prop} (h:p:=by omega):p:=h
theorem Sl.getAt {α:Type} [Dat α] {w:World} {A:Option Addr} {n c:Nat} {xs:List α} {D:List Nat} (h:Sl w A n c xs D) {k:Nat} (ac:k<n) :
  ∃ b off x cs fs,A=some ⟨b,off,none⟩/\b<w.1.size/\xs[k]?=some x/\(∀ j u,cs[j]?=some u->w.cell? ⟨b,off+(k*Dat.sz α+j),none⟩=some u)/\Dat.at_ w cs x fs/\∀ g∈fs,g∈D:=by
 obtain⟨Y,Z,aa,ab,I⟩:=h;obtain⟨b,off,E,J,S,ad,O,W⟩:=I oM;have H:xs[k]?=some (xs[k]'oM):=List.getElem?_eq_getElem oM;have G:E[k]?=some (E[k]'oM):=List.getElem?_eq_getElem oM;obtain⟨cs,T,K⟩:=W k _ _ H G;exact⟨b,off,_,cs,_,J,O,H,T,K,λg X=>by rw[S];exact List.mem_cons_of_mem _ (List.mem_flatten.2 ⟨_,List.mem_of_getElem? G,X⟩)⟩

end Go.XB

namespace Go.XB
open Go.RowKit

structure TBigInt where
 neg:Bool
 mag:List Int
 deriving DecidableEq
instance:Dat TBigInt:=Dat.via λx=>(x.neg,x.mag)
theorem TBigInt.open_ {w:World} {cs:List Value} {x:TBigInt} {b:List Nat} (h:Dat.at_ w cs x b):∃ (A1:Option Addr) (n1 c1:Nat) (s1:List Nat),cs=[.bool x.neg,.slice A1 n1 c1]/\b=s1/\Sl w A1 n1 c1 x.mag s1:=by
 obtain⟨p1,q1,u1,v1,rfl,rfl,u,D⟩:=h;obtain⟨rfl,rfl⟩:=u;obtain⟨A1,n1,c1,rfl,E⟩:=D;exact⟨_,_,_,_,rfl,by first|rfl|(simp;done)|simp[List.append_assoc],E⟩
theorem TBigInt.shut {w:World} {x:TBigInt} {h:Option Addr} {n1 u:Nat} {D:List Nat} (E:Sl w h n1 u x.mag D):Dat.at_ w [.bool x.neg,.slice h n1 u] x (D):=by
 have b:Dat.at_ w _ x _:=⟨_,_,_,_,rfl,rfl,⟨rfl,rfl⟩,⟨_,_,_,rfl,E⟩⟩
 first|exact b|(simpa using b)|simpa[List.append_assoc]using b
theorem TBigInt.agg {w:World} {v:Value} {x:TBigInt} {b:List Nat} (h:Agg w v x b):∃ (A1:Option Addr) (n1 c1:Nat) (s1:List Nat),v=.agg #[.bool x.neg,.slice A1 n1 c1]/\b=s1/\Sl w A1 n1 c1 x.mag s1:=by
 obtain⟨D,rfl,h⟩:=h;obtain⟨A1,n1,c1,s1,rfl,rfl,u⟩:=TBigInt.open_ h;exact⟨_,_,_,_,rfl,rfl,u⟩
theorem TBigInt.mkAgg {w:World} {x:TBigInt} {A1:Option Addr} {n1 c1:Nat} {s1:List Nat} (w1:Sl w A1 n1 c1 x.mag s1):Agg w (.agg #[.bool x.neg,.slice A1 n1 c1]) x (s1) :=
 ⟨_,rfl,TBigInt.shut w1⟩
structure TRat where
 num:TBigInt
 den:List Int
 deriving DecidableEq
instance:Dat TRat:=Dat.via λx=>(x.num,x.den)
theorem TRat.open_ {w:World} {cs:List Value} {x:TRat} {b:List Nat} (h:Dat.at_ w cs x b):∃ (A1:Option Addr) (n1 c1:Nat) (s1:List Nat) (A2:Option Addr) (n2 c2:Nat) (s2:List Nat),cs=[.bool x.1.1,.slice A1 n1 c1,.slice A2 n2 c2]/\b=s1++(s2)/\Sl w A1 n1 c1 x.1.2 s1/\Sl w A2 n2 c2 x.2 s2:=by
 obtain⟨p1,q1,u1,v1,rfl,rfl,u,E⟩:=h;obtain⟨p2,q2,u2,v2,rfl,rfl,D,G⟩:=u;obtain⟨rfl,rfl⟩:=D;obtain⟨A1,n1,c1,rfl,H⟩:=G;obtain⟨A2,n2,c2,rfl,I⟩:=E;exact⟨_,_,_,_,_,_,_,_,rfl,by first|rfl|(simp;done)|simp[List.append_assoc],H,I⟩
theorem TRat.shut {w:World} {x:TRat} {h:Option Addr} {n1 D:Nat} {G:List Nat} {u:Option Addr} {n2 E:Nat} {H:List Nat} (I:Sl w h n1 D x.1.2 G) (w2:Sl w u n2 E x.2 H):Dat.at_ w [.bool x.1.1,.slice h n1 D,.slice u n2 E] x (G++(H)):=by
 have b:Dat.at_ w _ x _:=⟨_,_,_,_,rfl,rfl,⟨_,_,_,_,rfl,rfl,⟨rfl,rfl⟩,⟨_,_,_,rfl,I⟩⟩,⟨_,_,_,rfl,w2⟩⟩
 first|exact b|(simpa using b)|simpa[List.append_assoc]using b
theorem TRat.agg {w:World} {v:Value} {x:TRat} {b:List Nat} (h:Agg w v x b):∃ (A1:Option Addr) (n1 c1:Nat) (s1:List Nat) (A2:Option Addr) (n2 c2:Nat) (s2:List Nat),v=.agg #[.bool x.1.1,.slice A1 n1 c1,.slice A2 n2 c2]/\b=s1++(s2)/\Sl w A1 n1 c1 x.1.2 s1/\Sl w A2 n2 c2 x.2 s2:=by
 obtain⟨E,rfl,h⟩:=h;obtain⟨A1,n1,c1,s1,A2,n2,c2,s2,rfl,rfl,u,D⟩:=TRat.open_ h;exact⟨_,_,_,_,_,_,_,_,rfl,rfl,u,D⟩
theorem TRat.mkAgg {w:World} {x:TRat} {A1:Option Addr} {n1 c1:Nat} {s1:List Nat} {A2:Option Addr} {n2 c2:Nat} {s2:List Nat} (w1:Sl w A1 n1 c1 x.1.2 s1) (w2:Sl w A2 n2 c2 x.2 s2):Agg w (.agg #[.bool x.1.1,.slice A1 n1 c1,.slice A2 n2 c2]) x (s1++(s2)) :=
 ⟨_,rfl,TRat.shut w1 w2⟩
theorem TRat.elemA {w:World} {A:Option Addr} {n c:Nat} {xs:List TRat} {E:List Nat} (h:Sl w A n c xs E) {k:Nat} (I:k<n) :
  ∃ (b off:Nat) (x:TRat) (A1:Option Addr) (n1 c1:Nat) (s1:List Nat) (A2:Option Addr) (n2 c2:Nat) (s2:List Nat),A=some ⟨b,off,none⟩/\b<w.1.size/\xs[k]?=some x/\w.cell? ⟨b,off+k*3,none⟩=some (.bool x.1.1)/\w.cell? ⟨b,off+k*3+1,none⟩=some (.slice A1 n1 c1)/\w.cell? ⟨b,off+k*3+2,none⟩=some (.slice A2 n2 c2)/\Agg w (.agg #[.bool x.1.1,.slice A1 n1 c1,.slice A2 n2 c2]) x (s1++(s2)):=by
 obtain⟨b,off,x,K,O,G,H,J,u,D,S⟩:=Sl.getAt h I;obtain⟨A1,n1,c1,s1,A2,n2,c2,s2,rfl,rfl,T,W⟩:=TRat.open_ D;exact⟨b,off,x,_,_,_,_,_,_,_,_,G,H,J,u 0 _ rfl,u 1 _ rfl,u 2 _ rfl,_,rfl,D⟩

structure TPoint where
 x:TRat
 y:TRat
 deriving DecidableEq
instance:Dat TPoint:=Dat.via λx=>(x.x,x.y)
theorem TPoint.open_ {w:World} {cs:List Value} {x:TPoint} {b:List Nat} (h:Dat.at_ w cs x b):∃ (A1:Option Addr) (n1 c1:Nat) (s1:List Nat) (A2:Option Addr) (n2 c2:Nat) (s2:List Nat) (A4:Option Addr) (n4 c4:Nat) (s4:List Nat) (A5:Option Addr) (n5 c5:Nat) (s5:List Nat),cs=[.bool x.x.1.1,.slice A1 n1 c1,.slice A2 n2 c2,.bool x.y.1.1,.slice A4 n4 c4,.slice A5 n5 c5]/\b=s1++(s2++(s4++(s5)))/\Sl w A1 n1 c1 x.x.1.2 s1/\Sl w A2 n2 c2 x.x.2 s2/\Sl w A4 n4 c4 x.y.1.2 s4/\Sl w A5 n5 c5 x.y.2 s5:=by
 obtain⟨p1,q1,u1,v1,rfl,rfl,u,I⟩:=h;obtain⟨p2,q2,u2,v2,rfl,rfl,D,J⟩:=u;obtain⟨Z,ac,af,ai,rfl,rfl,E,K⟩:=D;obtain⟨rfl,rfl⟩:=E;obtain⟨A1,n1,c1,rfl,T⟩:=K;obtain⟨A2,n2,c2,rfl,W⟩:=J;obtain⟨aa,ad,ag,aj,rfl,rfl,G,O⟩:=I;obtain⟨ab,ae,ah,ak,rfl,rfl,H,S⟩:=G;obtain⟨rfl,rfl⟩:=H;obtain⟨A4,n4,c4,rfl,X⟩:=S;obtain⟨A5,n5,c5,rfl,Y⟩:=O;exact⟨_,_,_,_,_,_,_,_,_,_,_,_,_,_,_,_,rfl,by first|rfl|(simp;done)|simp[List.append_assoc],T,W,X,Y⟩
theorem TPoint.shut {w:World} {x:TPoint} {h:Option Addr} {n1 G:Nat} {S:List Nat} {u:Option Addr} {n2 H:Nat} {T:List Nat} {D:Option Addr} {K I:Nat} {W:List Nat} {E:Option Addr} {O J:Nat} {X:List Nat} (Y:Sl w h n1 G x.x.1.2 S) (w2:Sl w u n2 H x.x.2 T) (Z:Sl w D K I x.y.1.2 W) (aa:Sl w E O J x.y.2 X):Dat.at_ w [.bool x.x.1.1,.slice h n1 G,.slice u n2 H,.bool x.y.1.1,.slice D K I,.slice E O J] x (S++(T++(W++(X)))):=by
 have b:Dat.at_ w _ x _:=⟨_,_,_,_,rfl,rfl,⟨_,_,_,_,rfl,rfl,⟨_,_,_,_,rfl,rfl,⟨rfl,rfl⟩,⟨_,_,_,rfl,Y⟩⟩,⟨_,_,_,rfl,w2⟩⟩,⟨_,_,_,_,rfl,rfl,⟨_,_,_,_,rfl,rfl,⟨rfl,rfl⟩,⟨_,_,_,rfl,Z⟩⟩,⟨_,_,_,rfl,aa⟩⟩⟩
 first|exact b|(simpa using b)|simpa[List.append_assoc]using b
theorem TPoint.agg {w:World} {v:Value} {x:TPoint} {b:List Nat} (h:Agg w v x b):∃ (A1:Option Addr) (n1 c1:Nat) (s1:List Nat) (A2:Option Addr) (n2 c2:Nat) (s2:List Nat) (A4:Option Addr) (n4 c4:Nat) (s4:List Nat) (A5:Option Addr) (n5 c5:Nat) (s5:List Nat),v=.agg #[.bool x.x.1.1,.slice A1 n1 c1,.slice A2 n2 c2,.bool x.y.1.1,.slice A4 n4 c4,.slice A5 n5 c5]/\b=s1++(s2++(s4++(s5)))/\Sl w A1 n1 c1 x.x.1.2 s1/\Sl w A2 n2 c2 x.x.2 s2/\Sl w A4 n4 c4 x.y.1.2 s4/\Sl w A5 n5 c5 x.y.2 s5:=by
 obtain⟨H,rfl,h⟩:=h;obtain⟨A1,n1,c1,s1,A2,n2,c2,s2,A4,n4,c4,s4,A5,n5,c5,s5,rfl,rfl,u,D,E,G⟩:=TPoint.open_ h;exact⟨_,_,_,_,_,_,_,_,_,_,_,_,_,_,_,_,rfl,rfl,u,D,E,G⟩
theorem TPoint.mkAgg {w:World} {x:TPoint} {A1:Option Addr} {n1 c1:Nat} {s1:List Nat} {A2:Option Addr} {n2 c2:Nat} {s2:List Nat} {A4:Option Addr} {n4 c4:Nat} {s4:List Nat} {A5:Option Addr} {n5 c5:Nat} {s5:List Nat} (w1:Sl w A1 n1 c1 x.x.1.2 s1) (w2:Sl w A2 n2 c2 x.x.2 s2) (w4:Sl w A4 n4 c4 x.y.1.2 s4) (w5:Sl w A5 n5 c5 x.y.2 s5):Agg w (.agg #[.bool x.x.1.1,.slice A1 n1 c1,.slice A2 n2 c2,.bool x.y.1.1,.slice A4 n4 c4,.slice A5 n5 c5]) x (s1++(s2++(s4++(s5)))) :=
 ⟨_,rfl,TPoint.shut w1 w2 w4 w5⟩
theorem TPoint.elemA {w:World} {A:Option Addr} {n c:Nat} {xs:List TPoint} {E:List Nat} (h:Sl w A n c xs E) {k:Nat} (I:k<n) :
  ∃ (b off:Nat) (x:TPoint) (A1:Option Addr) (n1 c1:Nat) (s1:List Nat) (A2:Option Addr) (n2 c2:Nat) (s2:List Nat) (A4:Option Addr) (n4 c4:Nat) (s4:List Nat) (A5:Option Addr) (n5 c5:Nat) (s5:List Nat),A=some ⟨b,off,none⟩/\b<w.1.size/\xs[k]?=some x/\w.cell? ⟨b,off+k*6,none⟩=some (.bool x.x.1.1)/\w.cell? ⟨b,off+k*6+1,none⟩=some (.slice A1 n1 c1)/\w.cell? ⟨b,off+k*6+2,none⟩=some (.slice A2 n2 c2)/\w.cell? ⟨b,off+k*6+3,none⟩=some (.bool x.y.1.1)/\w.cell? ⟨b,off+k*6+4,none⟩=some (.slice A4 n4 c4)/\w.cell? ⟨b,off+k*6+5,none⟩=some (.slice A5 n5 c5)/\Agg w (.agg #[.bool x.x.1.1,.slice A1 n1 c1,.slice A2 n2 c2,.bool x.y.1.1,.slice A4 n4 c4,.slice A5 n5 c5]) x (s1++(s2++(s4++(s5)))):=by
 obtain⟨b,off,x,K,O,G,H,J,u,D,S⟩:=Sl.getAt h I;obtain⟨A1,n1,c1,s1,A2,n2,c2,s2,A4,n4,c4,s4,A5,n5,c5,s5,rfl,rfl,T,W,X,Y⟩:=TPoint.open_ D;exact⟨b,off,x,_,_,_,_,_,_,_,_,_,_,_,_,_,_,_,_,G,H,J,u 0 _ rfl,u 1 _ rfl,u 2 _ rfl,u 3 _ rfl,u 4 _ rfl,u 5 _ rfl,_,rfl,D⟩

structure TTri where
 a:Int
 b:Int
 c:Int
 region:Int
 level:Int
 deriving DecidableEq
instance:Dat TTri:=Dat.via λx=>(x.a,x.b,x.c,x.region,x.level)
theorem TTri.open_ {w:World} {cs:List Value} {x:TTri} {b:List Nat} (h:Dat.at_ w cs x b):cs=[.int .i64 x.a,.int .i64 x.b,.int .i64 x.c,.int .i64 x.4,.int .i64 x.5]/\b=[]/\I64 x.a/\I64 x.b/\I64 x.c/\I64 x.4/\I64 x.5:=by
 obtain⟨p1,q1,u1,v1,rfl,rfl,u,H⟩:=h;obtain⟨rfl,rfl,w0⟩:=u;obtain⟨p2,q2,u2,v2,rfl,rfl,D,I⟩:=H;obtain⟨rfl,rfl,O⟩:=D;obtain⟨W,Y,aa,ac,rfl,rfl,E,J⟩:=I;obtain⟨rfl,rfl,S⟩:=E;obtain⟨X,Z,ab,ad,rfl,rfl,G,K⟩:=J;obtain⟨rfl,rfl,w3⟩:=G;obtain⟨rfl,rfl,T⟩:=K;exact⟨rfl,by first|rfl|(simp;done)|simp[List.append_assoc],w0,O,S,w3,T⟩
theorem TTri.shut {w:World} {x:TTri} (w0:I64 x.a) (h:I64 x.b) (w2:I64 x.c) (w3:I64 x.4) (u:I64 x.5):Dat.at_ w [.int .i64 x.a,.int .i64 x.b,.int .i64 x.c,.int .i64 x.4,.int .i64 x.5] x ([]):=by
 have b:Dat.at_ w _ x _:=⟨_,_,_,_,rfl,rfl,⟨rfl,rfl,w0⟩,⟨_,_,_,_,rfl,rfl,⟨rfl,rfl,h⟩,⟨_,_,_,_,rfl,rfl,⟨rfl,rfl,w2⟩,⟨_,_,_,_,rfl,rfl,⟨rfl,rfl,w3⟩,⟨rfl,rfl,u⟩⟩⟩⟩⟩
 first|exact b|(simpa using b)|simpa[List.append_assoc]using b
theorem TTri.agg {w:World} {v:Value} {x:TTri} {b:List Nat} (h:Agg w v x b):v=.agg #[.int .i64 x.a,.int .i64 x.b,.int .i64 x.c,.int .i64 x.4,.int .i64 x.5]/\b=[]/\I64 x.a/\I64 x.b/\I64 x.c/\I64 x.4/\I64 x.5:=by
 obtain⟨G,rfl,h⟩:=h;obtain⟨rfl,rfl,w0,u,D,w3,E⟩:=TTri.open_ h;exact⟨rfl,rfl,w0,u,D,w3,E⟩
theorem TTri.mkAgg {w:World} {x:TTri} (w0:I64 x.a) (w1:I64 x.b) (w2:I64 x.c) (w3:I64 x.4) (w4:I64 x.5):Agg w (.agg #[.int .i64 x.a,.int .i64 x.b,.int .i64 x.c,.int .i64 x.4,.int .i64 x.5]) x ([]) :=
 ⟨_,rfl,TTri.shut w0 w1 w2 w3 w4⟩
theorem TTri.elemA {w:World} {A:Option Addr} {n c:Nat} {xs:List TTri} {E:List Nat} (h:Sl w A n c xs E) {k:Nat} (I:k<n) :
  ∃ (b off:Nat) (x:TTri),A=some ⟨b,off,none⟩/\b<w.1.size/\xs[k]?=some x/\w.cell? ⟨b,off+k*5,none⟩=some (.int .i64 x.a)/\w.cell? ⟨b,off+k*5+1,none⟩=some (.int .i64 x.b)/\w.cell? ⟨b,off+k*5+2,none⟩=some (.int .i64 x.c)/\w.cell? ⟨b,off+k*5+3,none⟩=some (.int .i64 x.4)/\w.cell? ⟨b,off+k*5+4,none⟩=some (.int .i64 x.5)/\Agg w (.agg #[.int .i64 x.a,.int .i64 x.b,.int .i64 x.c,.int .i64 x.4,.int .i64 x.5]) x ([]):=by
 obtain⟨b,off,x,K,O,G,H,J,u,D,S⟩:=Sl.getAt h I;obtain⟨rfl,rfl,w0,T,W,w3,X⟩:=TTri.open_ D;exact⟨b,off,x,G,H,J,u 0 _ rfl,u 1 _ rfl,u 2 _ rfl,u 3 _ rfl,u 4 _ rfl,_,rfl,D⟩

structure TEdge where
 a:Int
 b:Int
 left:Int
 right:Int
 deriving DecidableEq
instance:Dat TEdge:=Dat.via λx=>(x.a,x.b,x.left,x.right)
theorem TEdge.open_ {w:World} {cs:List Value} {x:TEdge} {b:List Nat} (h:Dat.at_ w cs x b):cs=[.int .i64 x.a,.int .i64 x.b,.int .i64 x.left,.int .i64 x.right]/\b=[]/\I64 x.a/\I64 x.b/\I64 x.left/\I64 x.right:=by
 obtain⟨p1,q1,u1,v1,rfl,rfl,u,G⟩:=h;obtain⟨rfl,rfl,w0⟩:=u;obtain⟨p2,q2,u2,v2,rfl,rfl,D,H⟩:=G;obtain⟨rfl,rfl,J⟩:=D;obtain⟨O,S,T,W,rfl,rfl,E,I⟩:=H;obtain⟨rfl,rfl,K⟩:=E;obtain⟨rfl,rfl,w3⟩:=I;exact⟨rfl,by first|rfl|(simp;done)|simp[List.append_assoc],w0,J,K,w3⟩
theorem TEdge.shut {w:World} {x:TEdge} (w0:I64 x.a) (h:I64 x.b) (w2:I64 x.left) (w3:I64 x.right):Dat.at_ w [.int .i64 x.a,.int .i64 x.b,.int .i64 x.left,.int .i64 x.right] x ([]):=by
 have b:Dat.at_ w _ x _:=⟨_,_,_,_,rfl,rfl,⟨rfl,rfl,w0⟩,⟨_,_,_,_,rfl,rfl,⟨rfl,rfl,h⟩,⟨_,_,_,_,rfl,rfl,⟨rfl,rfl,w2⟩,⟨rfl,rfl,w3⟩⟩⟩⟩
 first|exact b|(simpa using b)|simpa[List.append_assoc]using b
theorem TEdge.agg {w:World} {v:Value} {x:TEdge} {b:List Nat} (h:Agg w v x b):v=.agg #[.int .i64 x.a,.int .i64 x.b,.int .i64 x.left,.int .i64 x.right]/\b=[]/\I64 x.a/\I64 x.b/\I64 x.left/\I64 x.right:=by
 obtain⟨E,rfl,h⟩:=h;obtain⟨rfl,rfl,w0,u,D,w3⟩:=TEdge.open_ h;exact⟨rfl,rfl,w0,u,D,w3⟩
theorem TEdge.mkAgg {w:World} {x:TEdge} (w0:I64 x.a) (w1:I64 x.b) (w2:I64 x.left) (w3:I64 x.right):Agg w (.agg #[.int .i64 x.a,.int .i64 x.b,.int .i64 x.left,.int .i64 x.right]) x ([]) :=
 ⟨_,rfl,TEdge.shut w0 w1 w2 w3⟩
theorem TEdge.elemA {w:World} {A:Option Addr} {n c:Nat} {xs:List TEdge} {E:List Nat} (h:Sl w A n c xs E) {k:Nat} (I:k<n) :
  ∃ (b off:Nat) (x:TEdge),A=some ⟨b,off,none⟩/\b<w.1.size/\xs[k]?=some x/\w.cell? ⟨b,off+k*4,none⟩=some (.int .i64 x.a)/\w.cell? ⟨b,off+k*4+1,none⟩=some (.int .i64 x.b)/\w.cell? ⟨b,off+k*4+2,none⟩=some (.int .i64 x.left)/\w.cell? ⟨b,off+k*4+3,none⟩=some (.int .i64 x.right)/\Agg w (.agg #[.int .i64 x.a,.int .i64 x.b,.int .i64 x.left,.int .i64 x.right]) x ([]):=by
 obtain⟨b,off,x,K,O,G,H,J,u,D,S⟩:=Sl.getAt h I;obtain⟨rfl,rfl,w0,T,W,w3⟩:=TEdge.open_ D;exact⟨b,off,x,G,H,J,u 0 _ rfl,u 1 _ rfl,u 2 _ rfl,u 3 _ rfl,_,rfl,D⟩

structure TMesh where
 points:List TPoint
 triangles:List TTri
 deriving DecidableEq
instance:Dat TMesh:=Dat.via λx=>(x.points,x.triangles)
theorem TMesh.open_ {w:World} {cs:List Value} {x:TMesh} {b:List Nat} (h:Dat.at_ w cs x b):∃ (A0:Option Addr) (n0 c0:Nat) (s0:List Nat) (A1:Option Addr) (n1 c1:Nat) (s1:List Nat),cs=[.slice A0 n0 c0,.slice A1 n1 c1]/\b=s0++(s1)/\Sl w A0 n0 c0 x.1 s0/\Sl w A1 n1 c1 x.triangles s1:=by
 obtain⟨p1,q1,u1,v1,rfl,rfl,u,D⟩:=h;obtain⟨A0,n0,c0,rfl,w0⟩:=u;obtain⟨A1,n1,c1,rfl,E⟩:=D;exact⟨_,_,_,_,_,_,_,_,rfl,by first|rfl|(simp;done)|simp[List.append_assoc],w0,E⟩
theorem TMesh.shut {w:World} {x:TMesh} {h:Option Addr} {G D:Nat} {H:List Nat} {u:Option Addr} {n1 E:Nat} {I:List Nat} (w0:Sl w h G D x.1 H) (J:Sl w u n1 E x.triangles I):Dat.at_ w [.slice h G D,.slice u n1 E] x (H++(I)):=by
 have b:Dat.at_ w _ x _:=⟨_,_,_,_,rfl,rfl,⟨_,_,_,rfl,w0⟩,⟨_,_,_,rfl,J⟩⟩
 first|exact b|(simpa using b)|simpa[List.append_assoc]using b
theorem TMesh.agg {w:World} {v:Value} {x:TMesh} {b:List Nat} (h:Agg w v x b):∃ (A0:Option Addr) (n0 c0:Nat) (s0:List Nat) (A1:Option Addr) (n1 c1:Nat) (s1:List Nat),v=.agg #[.slice A0 n0 c0,.slice A1 n1 c1]/\b=s0++(s1)/\Sl w A0 n0 c0 x.1 s0/\Sl w A1 n1 c1 x.triangles s1:=by
 obtain⟨D,rfl,h⟩:=h;obtain⟨A0,n0,c0,s0,A1,n1,c1,s1,rfl,rfl,w0,u⟩:=TMesh.open_ h;exact⟨_,_,_,_,_,_,_,_,rfl,rfl,w0,u⟩
theorem TMesh.mkAgg {w:World} {x:TMesh} {A0:Option Addr} {n0 c0:Nat} {s0:List Nat} {A1:Option Addr} {n1 c1:Nat} {s1:List Nat} (w0:Sl w A0 n0 c0 x.1 s0) (w1:Sl w A1 n1 c1 x.triangles s1):Agg w (.agg #[.slice A0 n0 c0,.slice A1 n1 c1]) x (s0++(s1)) :=
 ⟨_,rfl,TMesh.shut w0 w1⟩
structure TProblem where
 mesh:TMesh
 diffusion:List TRat
 source:List TRat
 deriving DecidableEq
instance:Dat TProblem:=Dat.via λx=>(x.mesh,x.diffusion,x.source)
theorem TProblem.open_ {w:World} {cs:List Value} {x:TProblem} {b:List Nat} (h:Dat.at_ w cs x b):∃ (A0:Option Addr) (n0 c0:Nat) (s0:List Nat) (A1:Option Addr) (n1 c1:Nat) (s1:List Nat) (A2:Option Addr) (n2 c2:Nat) (s2:List Nat) (A3:Option Addr) (n3 c3:Nat) (s3:List Nat),cs=[.slice A0 n0 c0,.slice A1 n1 c1,.slice A2 n2 c2,.slice A3 n3 c3]/\b=s0++(s1++(s2++(s3)))/\Sl w A0 n0 c0 x.1.1 s0/\Sl w A1 n1 c1 x.1.triangles s1/\Sl w A2 n2 c2 x.2 s2/\Sl w A3 n3 c3 x.3 s3:=by
 obtain⟨p1,q1,u1,v1,rfl,rfl,u,G⟩:=h;obtain⟨p2,q2,u2,v2,rfl,rfl,D,H⟩:=u;obtain⟨A0,n0,c0,rfl,w0⟩:=D;obtain⟨A1,n1,c1,rfl,J⟩:=H;obtain⟨O,S,T,W,rfl,rfl,E,I⟩:=G;obtain⟨A2,n2,c2,rfl,K⟩:=E;obtain⟨A3,n3,c3,rfl,w3⟩:=I;exact⟨_,_,_,_,_,_,_,_,_,_,_,_,_,_,_,_,rfl,by first|rfl|(simp;done)|simp[List.append_assoc],w0,J,K,w3⟩
theorem TProblem.shut {w:World} {x:TProblem} {h:Option Addr} {J G:Nat} {O:List Nat} {u:Option Addr} {n1 H:Nat} {S:List Nat} {D:Option Addr} {n2 I:Nat} {T:List Nat} {E:Option Addr} {K c3:Nat} {W:List Nat} (w0:Sl w h J G x.1.1 O) (X:Sl w u n1 H x.1.triangles S) (w2:Sl w D n2 I x.2 T) (w3:Sl w E K c3 x.3 W):Dat.at_ w [.slice h J G,.slice u n1 H,.slice D n2 I,.slice E K c3] x (O++(S++(T++(W)))):=by
 have b:Dat.at_ w _ x _:=⟨_,_,_,_,rfl,rfl,⟨_,_,_,_,rfl,rfl,⟨_,_,_,rfl,w0⟩,⟨_,_,_,rfl,X⟩⟩,⟨_,_,_,_,rfl,rfl,⟨_,_,_,rfl,w2⟩,⟨_,_,_,rfl,w3⟩⟩⟩
 first|exact b|(simpa using b)|simpa[List.append_assoc]using b
theorem TProblem.agg {w:World} {v:Value} {x:TProblem} {b:List Nat} (h:Agg w v x b):∃ (A0:Option Addr) (n0 c0:Nat) (s0:List Nat) (A1:Option Addr) (n1 c1:Nat) (s1:List Nat) (A2:Option Addr) (n2 c2:Nat) (s2:List Nat) (A3:Option Addr) (n3 c3:Nat) (s3:List Nat),v=.agg #[.slice A0 n0 c0,.slice A1 n1 c1,.slice A2 n2 c2,.slice A3 n3 c3]/\b=s0++(s1++(s2++(s3)))/\Sl w A0 n0 c0 x.1.1 s0/\Sl w A1 n1 c1 x.1.triangles s1/\Sl w A2 n2 c2 x.2 s2/\Sl w A3 n3 c3 x.3 s3:=by
 obtain⟨E,rfl,h⟩:=h;obtain⟨A0,n0,c0,s0,A1,n1,c1,s1,A2,n2,c2,s2,A3,n3,c3,s3,rfl,rfl,w0,u,D,w3⟩:=TProblem.open_ h;exact⟨_,_,_,_,_,_,_,_,_,_,_,_,_,_,_,_,rfl,rfl,w0,u,D,w3⟩
theorem TProblem.mkAgg {w:World} {x:TProblem} {A0:Option Addr} {n0 c0:Nat} {s0:List Nat} {A1:Option Addr} {n1 c1:Nat} {s1:List Nat} {A2:Option Addr} {n2 c2:Nat} {s2:List Nat} {A3:Option Addr} {n3 c3:Nat} {s3:List Nat} (w0:Sl w A0 n0 c0 x.1.1 s0) (w1:Sl w A1 n1 c1 x.1.triangles s1) (w2:Sl w A2 n2 c2 x.2 s2) (w3:Sl w A3 n3 c3 x.3 s3):Agg w (.agg #[.slice A0 n0 c0,.slice A1 n1 c1,.slice A2 n2 c2,.slice A3 n3 c3]) x (s0++(s1++(s2++(s3)))) :=
 ⟨_,rfl,TProblem.shut w0 w1 w2 w3⟩
structure TRow where
 cols:List Int
 vals:List TRat
 deriving DecidableEq
instance:Dat TRow:=Dat.via λx=>(x.cols,x.vals)
theorem TRow.open_ {w:World} {cs:List Value} {x:TRow} {b:List Nat} (h:Dat.at_ w cs x b):∃ (A0:Option Addr) (n0 c0:Nat) (s0:List Nat) (A1:Option Addr) (n1 c1:Nat) (s1:List Nat),cs=[.slice A0 n0 c0,.slice A1 n1 c1]/\b=s0++(s1)/\Sl w A0 n0 c0 x.cols s0/\Sl w A1 n1 c1 x.vals s1:=by
 obtain⟨p1,q1,u1,v1,rfl,rfl,u,D⟩:=h;obtain⟨A0,n0,c0,rfl,w0⟩:=u;obtain⟨A1,n1,c1,rfl,E⟩:=D;exact⟨_,_,_,_,_,_,_,_,rfl,by first|rfl|(simp;done)|simp[List.append_assoc],w0,E⟩
theorem TRow.shut {w:World} {x:TRow} {h:Option Addr} {G D:Nat} {H:List Nat} {u:Option Addr} {n1 E:Nat} {I:List Nat} (w0:Sl w h G D x.cols H) (J:Sl w u n1 E x.vals I):Dat.at_ w [.slice h G D,.slice u n1 E] x (H++(I)):=by
 have b:Dat.at_ w _ x _:=⟨_,_,_,_,rfl,rfl,⟨_,_,_,rfl,w0⟩,⟨_,_,_,rfl,J⟩⟩
 first|exact b|(simpa using b)|simpa[List.append_assoc]using b
theorem TRow.elem {w:World} {A:Option Addr} {n c:Nat} {xs:List TRow} {u:List Nat} (h:Sl w A n c xs u) {k:Nat} (J:k<n) :
  ∃ (b off:Nat) (x:TRow) (A0:Option Addr) (n0 c0:Nat) (s0:List Nat) (A1:Option Addr) (n1 c1:Nat) (s1:List Nat),A=some ⟨b,off,none⟩/\b<w.1.size/\xs[k]?=some x/\w.cell? ⟨b,off+k*2,none⟩=some (.slice A0 n0 c0)/\w.cell? ⟨b,off+k*2+1,none⟩=some (.slice A1 n1 c1)/\Sl w A0 n0 c0 x.cols s0/\Sl w A1 n1 c1 x.vals s1/\∀ g∈(s0++(s1)),g∈u:=by
 obtain⟨b,off,x,S,T,E,H,K,D,G,I⟩:=Sl.getAt h J;obtain⟨A0,n0,c0,s0,A1,n1,c1,s1,rfl,rfl,w0,O⟩:=TRow.open_ G;exact⟨b,off,x,_,_,_,_,_,_,_,_,E,H,K,D 0 _ rfl,D 1 _ rfl,w0,O,I⟩
structure TMatrix where
 rows:List TRow
 deriving DecidableEq
instance:Dat TMatrix:=Dat.via λx=>x.rows
theorem TMatrix.open_ {w:World} {cs:List Value} {x:TMatrix} {b:List Nat} (h:Dat.at_ w cs x b):∃ (A0:Option Addr) (n0 c0:Nat) (s0:List Nat),cs=[.slice A0 n0 c0]/\b=s0/\Sl w A0 n0 c0 x.rows s0:=by
 obtain⟨A0,n0,c0,rfl,w0⟩:=h;exact⟨_,_,_,_,rfl,by first|rfl|(simp;done)|simp[List.append_assoc],w0⟩
theorem TMatrix.shut {w:World} {x:TMatrix} {h:Option Addr} {D u:Nat} {E:List Nat} (w0:Sl w h D u x.rows E):Dat.at_ w [.slice h D u] x (E):=by
 have b:Dat.at_ w _ x _:=⟨_,_,_,rfl,w0⟩
 first|exact b|(simpa using b)|simpa[List.append_assoc]using b
theorem TMatrix.agg {w:World} {v:Value} {x:TMatrix} {b:List Nat} (h:Agg w v x b):∃ (A0:Option Addr) (n0 c0:Nat) (s0:List Nat),v=.agg #[.slice A0 n0 c0]/\b=s0/\Sl w A0 n0 c0 x.rows s0:=by
 obtain⟨u,rfl,h⟩:=h;obtain⟨A0,n0,c0,s0,rfl,rfl,w0⟩:=TMatrix.open_ h;exact⟨_,_,_,_,rfl,rfl,w0⟩
theorem TMatrix.mkAgg {w:World} {x:TMatrix} {A0:Option Addr} {n0 c0:Nat} {s0:List Nat} (w0:Sl w A0 n0 c0 x.rows s0):Agg w (.agg #[.slice A0 n0 c0]) x (s0) :=
 ⟨_,rfl,TMatrix.shut w0⟩

structure TFactor where
 lower:List (List TRat)
 pivots:List TRat
 deriving DecidableEq
instance:Dat TFactor:=Dat.via λx=>(x.lower,x.pivots)
theorem TFactor.open_ {w:World} {cs:List Value} {x:TFactor} {b:List Nat} (h:Dat.at_ w cs x b):∃ (A0:Option Addr) (n0 c0:Nat) (s0:List Nat) (A1:Option Addr) (n1 c1:Nat) (s1:List Nat),cs=[.slice A0 n0 c0,.slice A1 n1 c1]/\b=s0++(s1)/\Sl w A0 n0 c0 x.lower s0/\Sl w A1 n1 c1 x.pivots s1:=by
 obtain⟨p1,q1,u1,v1,rfl,rfl,u,D⟩:=h;obtain⟨A0,n0,c0,rfl,w0⟩:=u;obtain⟨A1,n1,c1,rfl,E⟩:=D;exact⟨_,_,_,_,_,_,_,_,rfl,by first|rfl|(simp;done)|simp[List.append_assoc],w0,E⟩
theorem TFactor.shut {w:World} {x:TFactor} {h:Option Addr} {G D:Nat} {H:List Nat} {u:Option Addr} {n1 E:Nat} {I:List Nat} (w0:Sl w h G D x.lower H) (J:Sl w u n1 E x.pivots I):Dat.at_ w [.slice h G D,.slice u n1 E] x (H++(I)):=by
 have b:Dat.at_ w _ x _:=⟨_,_,_,_,rfl,rfl,⟨_,_,_,rfl,w0⟩,⟨_,_,_,rfl,J⟩⟩
 first|exact b|(simpa using b)|simpa[List.append_assoc]using b
theorem TFactor.agg {w:World} {v:Value} {x:TFactor} {b:List Nat} (h:Agg w v x b):∃ (A0:Option Addr) (n0 c0:Nat) (s0:List Nat) (A1:Option Addr) (n1 c1:Nat) (s1:List Nat),v=.agg #[.slice A0 n0 c0,.slice A1 n1 c1]/\b=s0++(s1)/\Sl w A0 n0 c0 x.lower s0/\Sl w A1 n1 c1 x.pivots s1:=by
 obtain⟨D,rfl,h⟩:=h;obtain⟨A0,n0,c0,s0,A1,n1,c1,s1,rfl,rfl,w0,u⟩:=TFactor.open_ h;exact⟨_,_,_,_,_,_,_,_,rfl,rfl,w0,u⟩
theorem TFactor.mkAgg {w:World} {x:TFactor} {A0:Option Addr} {n0 c0:Nat} {s0:List Nat} {A1:Option Addr} {n1 c1:Nat} {s1:List Nat} (w0:Sl w A0 n0 c0 x.lower s0) (w1:Sl w A1 n1 c1 x.pivots s1):Agg w (.agg #[.slice A0 n0 c0,.slice A1 n1 c1]) x (s0++(s1)) :=
 ⟨_,rfl,TFactor.shut w0 w1⟩
structure TIterate where
 x:List TRat
 r:List TRat
 p:List TRat
 deriving DecidableEq
instance:Dat TIterate:=Dat.via λx=>(x.x,x.r,x.p)
structure TFan where
 triangles:List Int
 spokes:List Int
 closed:Bool
 deriving DecidableEq
instance:Dat TFan:=Dat.via λx=>(x.triangles,x.spokes,x.closed)
theorem TFan.open_ {w:World} {cs:List Value} {x:TFan} {b:List Nat} (h:Dat.at_ w cs x b):∃ (A0:Option Addr) (n0 c0:Nat) (s0:List Nat) (A1:Option Addr) (n1 c1:Nat) (s1:List Nat),cs=[.slice A0 n0 c0,.slice A1 n1 c1,.bool x.closed]/\b=s0++(s1)/\Sl w A0 n0 c0 x.triangles s0/\Sl w A1 n1 c1 x.spokes s1:=by
 obtain⟨p1,q1,u1,v1,rfl,rfl,u,E⟩:=h;obtain⟨A0,n0,c0,rfl,w0⟩:=u;obtain⟨p2,q2,u2,v2,rfl,rfl,D,G⟩:=E;obtain⟨A1,n1,c1,rfl,H⟩:=D;obtain⟨rfl,rfl⟩:=G;exact⟨_,_,_,_,_,_,_,_,rfl,by first|rfl|(simp;done)|simp[List.append_assoc],w0,H⟩
theorem TFan.shut {w:World} {x:TFan} {h:Option Addr} {G D:Nat} {H:List Nat} {u:Option Addr} {n1 E:Nat} {I:List Nat} (w0:Sl w h G D x.triangles H) (J:Sl w u n1 E x.spokes I):Dat.at_ w [.slice h G D,.slice u n1 E,.bool x.closed] x (H++(I)):=by
 have b:Dat.at_ w _ x _:=⟨_,_,_,_,rfl,rfl,⟨_,_,_,rfl,w0⟩,⟨_,_,_,_,rfl,rfl,⟨_,_,_,rfl,J⟩,⟨rfl,rfl⟩⟩⟩
 first|exact b|(simpa using b)|simpa[List.append_assoc]using b
theorem TFan.agg {w:World} {v:Value} {x:TFan} {b:List Nat} (h:Agg w v x b):∃ (A0:Option Addr) (n0 c0:Nat) (s0:List Nat) (A1:Option Addr) (n1 c1:Nat) (s1:List Nat),v=.agg #[.slice A0 n0 c0,.slice A1 n1 c1,.bool x.closed]/\b=s0++(s1)/\Sl w A0 n0 c0 x.triangles s0/\Sl w A1 n1 c1 x.spokes s1:=by
 obtain⟨D,rfl,h⟩:=h;obtain⟨A0,n0,c0,s0,A1,n1,c1,s1,rfl,rfl,w0,u⟩:=TFan.open_ h;exact⟨_,_,_,_,_,_,_,_,rfl,rfl,w0,u⟩
theorem TFan.mkAgg {w:World} {x:TFan} {A0:Option Addr} {n0 c0:Nat} {s0:List Nat} {A1:Option Addr} {n1 c1:Nat} {s1:List Nat} (w0:Sl w A0 n0 c0 x.triangles s0) (w1:Sl w A1 n1 c1 x.spokes s1):Agg w (.agg #[.slice A0 n0 c0,.slice A1 n1 c1,.bool x.closed]) x (s0++(s1)) :=
 ⟨_,rfl,TFan.shut w0 w1⟩
structure TGoal where
 value:TRat
 square:TRat
 deriving DecidableEq
instance:Dat TGoal:=Dat.via λx=>(x.value,x.square)
structure TReport where
 triangles:Int
 energy:TRat
 bound:TRat
 deriving DecidableEq
instance:Dat TReport:=Dat.via λx=>(x.triangles,x.energy,x.bound)
structure TState where
 problem:TProblem
 part:TRat
 reports:List TReport
 deriving DecidableEq
instance:Dat TState:=Dat.via λx=>(x.problem,x.part,x.reports)
structure TConsole where
 text:ByteArray
 state:TState
 deriving DecidableEq
instance:Dat TConsole:=Dat.via λx=>(x.text,x.state)
end Go.XB

namespace Go.XB
open Go.RowKit

theorem Sl.getInt {w:World} {A:Option Addr} {n c:Nat} {xs:List Int} {E:List Nat} (h:Sl w A n c xs E) {k:Nat} (ac:k<n) :
  ∃ b off x,A=some ⟨b,off,none⟩/\b<w.1.size/\xs[k]?=some x/\I64 x/\w.cell? ⟨b,off+k,none⟩=some (.int .i64 x):=by
 obtain⟨X,Y,Z,aa,G⟩:=h;obtain⟨b,off,u,H,ab,ad,I,O⟩:=G oM;have D:xs[k]?=some (xs[k]'oM):=List.getElem?_eq_getElem oM;have S:u[k]?=some (u[k]'oM):=List.getElem?_eq_getElem oM;obtain⟨W,J,K,_,T⟩:=O k _ _ D S;refine⟨b,off,_,H,I,D,T,?_⟩;have:=J 0 (.int .i64 (xs[k]'oM)) (by rw[K];rfl);simpa[Dat.sz]using this

theorem B0r {α:Type} {xs ys:List α} {k:Nat} {x y:α} (b:xs[k]?=some x) (u:ys[k]?=some y) (h:xs.take k=ys.take k) (e:x=y):xs.take (k+1)=ys.take (k+1):=by
 rw[List.take_add_one,List.take_add_one,b,u,h,e]
theorem D9g {α:Type} {xs ys:List α} {k:Nat} {x y:α} (h:xs[k]?=some x) (b:ys[k]?=some y) (e:x≠y):xs≠ys:=by
 rintro rfl;rw[h]at b;exact e (Option.some.inj b)
theorem B2g {α:Type} {xs ys:List α} {n k:Nat} (b:xs.length=n) (u:ys.length=n) (D:n<=k) (h:xs.take k=ys.take k):xs=ys:=by
 rwa [List.take_of_length_le oM,List.take_of_length_le oM]at h
theorem A_ {p:Prop} (h:p):Hid p:=h
theorem _root_.Go.RowKit.Hid.o {p:Prop} (h:Hid p):p:=h
theorem Q_ {a b:Bool} (h:a=b):Ending.returned (.bool a)=.returned (.bool b):=by rw[h]
theorem A1x {k:IntKind} {a b:Int} (h:a=b):Ending.returned (.int k a)=.returned (.int k b):=by rw[h]
theorem below_drewN (w:World) (m:Nat):Below w.1.size w (w.drewN m):=⟨rfl,rfl,rfl,Nat.le_refl _,λ_ _=>rfl⟩

theorem F_ {W w1:World} (hb:Below W.1.size W w1):(∀ b o,b<W.1.size->w1.cell? ⟨b,o,none⟩=W.cell? ⟨b,o,none⟩)/\(∀ b o,b<W.1.size->w1.frozen? ⟨b,o,none⟩=W.frozen? ⟨b,o,none⟩) :=
 ⟨λb o h=>hb.cell (p:=⟨b,o,none⟩) h,λb o h=>hb.frozen (p:=⟨b,o,none⟩) h⟩

abbrev _root_.Go.RowKit.Bw (w W:World):=Below w.1.size w W
theorem Below.next {w W W':World} (h:Below w.1.size w W) (h':Below W.1.size W W'):Below w.1.size w W':=h.trans (h'.mono h.size)
theorem Below.box {w:World} (o:Obj):Below w.1.size w (w.alloc o):=(Below.refl _ _).alloc (Nat.le_refl _) _
theorem Below.set {w W:World} (h:Below w.1.size w W) {p:Addr} (hp:w.1.size<=p.block) (u:Value):Below w.1.size w (W.setCell p u):=h.setCell hp u
theorem Below.box_ {w W:World} (h:Below w.1.size w W) (o:Obj):Below w.1.size w (W.alloc o):=h.alloc h.size o

structure Above (lo:Nat) (w w':World):Prop where
 size:w.1.size<=w'.1.size
 block:∀ g,lo<=g->g<w.1.size->w'.1[g]?=w.1[g]?
theorem Above.refl (lo:Nat) (w:World):Above lo w w:=⟨Nat.le_refl _,λ_ _ _=>rfl⟩
theorem Above.trans {lo:Nat} {a b c:World} (h:Above lo a b) (k:Above lo b c):Above lo a c :=
 ⟨Nat.le_trans h.size k.size,λg h1 h2=>(k.block g h1 (Nat.lt_of_lt_of_le h2 h.size)).trans (h.block g h1 h2)⟩
theorem Above.below {lo:Nat} {w W W':World} (h:Above lo w W) (hb:Below W.1.size W W'):Above lo w W' :=
 h.trans ⟨hb.size,λg _ h2=>hb.block g h2⟩
theorem Above.set {lo:Nat} {w W:World} (h:Above lo w W) {p:Addr} (hp:p.block<lo) (u:Value):Above lo w (W.setCell p u) :=
 h.trans ⟨by simp[World.setCell],λg h1 _=>Below.heap_setCell W p u g oM⟩
theorem _root_.sI {p:Prop} (h:p:=by simp):p:=h
theorem Above.box {lo:Nat} {w W:World} (h:Above lo w W) (o:Obj):Above lo w (W.alloc o) :=
 h.trans ⟨sI,λg _ h2=>Below.heap_alloc W o g h2⟩
theorem Below.go {n:Nat} {w W:World} (h:Below n w W:=by with_reducible repeat first|exact Below.refl _ _|(refine Below.set ?_ ?_ _;rotate_left;(simp<;>omega))|refine Below.box_ ?_ _|refine Below.next ?_ (by assumption)):Below n w W:=h
theorem Above.go {n:Nat} {w W:World} (h:Above n w W:=by with_reducible repeat first|exact Above.refl _ _|(refine Above.set ?_ ?_ _;rotate_left;(simp<;>omega))|refine Above.box ?_ _|refine Above.below ?_ (by assumption)):Above n w W:=h
theorem ltg {n a:Nat} {W U:World} (h:Below n W U) (ha:a<W.1.size:=by(try simp)<;>omega):a<U.1.size:=Nat.lt_of_lt_of_le ha h.size
theorem Own.above {w0 w w':World} {lo:Nat} {bs:List Nat} (h:Own w0 w bs) (ha:Above lo w w') (hl:lo<=w0.1.size):Own w0 w' bs :=
 ⟨h.1,λb hm=>⟨(h.2 b hm).1,by obtain⟨cs,t,e⟩:=(h.2 b hm).2;exact⟨cs,t,(ha.block b (Nat.le_trans hl (h.2 b hm).1) (E_ e)).trans e⟩⟩⟩
theorem Sl.above {α:Type} [Dat α] {w0 w w':World} {lo:Nat} {A:Option Addr} {n c:Nat} {xs:List α} {bs:List Nat} (h:Sl w A n c xs bs) (ho:Own w0 w bs) (ha:Above lo w w') (hl:lo<=w0.1.size):Sl w' A n c xs bs :=
 h.keep λg hg=>ha.block g (Nat.le_trans hl (ho.2 g hg).1) (h.lt g hg)
theorem take_step {α:Type} {xs:List α} {k:Nat} {x:α} (h:xs[k]?=some x):xs.take (k+1)=xs.take k++[x]:=by
 rw[List.take_add_one,h];rfl

theorem B3m (k:Nat):Value.int .i64 ((k:Int)+1)=.int .i64 ((k+1:Nat):Int):=rfl
theorem V_ {k n:Nat} (h:k<n):n - (intOf (Value.int .i64 ((k:Int)+1))).toNat<n - (intOf (Value.int .i64 (k:Int))).toNat:=by
 simp[intOf];omega

end Go.XB

namespace Go.XB
open Go.RowKit

def Filled {α:Type} [Dat α] (w:World) (cells:List Value) (xs:List α) (fss:List (List Nat)):Prop :=
 fss.length=xs.length/\xs.length*Dat.sz α<=cells.length/\∀ k x fs,xs[k]?=some x->fss[k]?=some fs->Dat.at_ w ((cells.drop (k*Dat.sz α)).take (Dat.sz α)) x fs

section
variable {α:Type} [Dat α] {w w':World} {cells:List Value} {xs:List α} {fss:List (List Nat)}

theorem Filled.nil (w:World) (cells:List Value):Filled (α:=α) w cells [] []:=⟨rfl,sI,λk x fs h=>by simp at h⟩

theorem Filled.lt (h:Filled w cells xs fss):∀ g∈fss.flatten,g<w.1.size:=by
 intro g b;obtain⟨D,E,b⟩:=List.mem_flatten.1 b;obtain⟨k,u⟩:=List.mem_iff_getElem?.1 E;have G:k<xs.length:=by rw[<-h.1];exact(List.getElem?_eq_some_iff.1 u).1
 exact Dat.lt (h.2.2 k _ D (List.getElem?_eq_getElem G) u) g b

theorem Filled.keep (h:Filled w cells xs fss) (hk:∀ g∈fss.flatten,w'.1[g]?=w.1[g]?):Filled w' cells xs fss :=
 ⟨h.1,h.2.1,λk x fs hx hf=>Dat.keep (h.2.2 k x fs hx hf) λg hg=>hk g (List.mem_flatten.2 ⟨fs,List.mem_of_getElem? hf,hg⟩)⟩

theorem Filled.below (h:Filled w cells xs fss) (hb:Below w.1.size w w'):Filled w' cells xs fss:=h.keep λg hg=>hb.block g (h.lt g hg)

def B3r (cells:List Value) (i:Nat):List Value->List Value
 | []=>cells
 |c::cs=>B3r (cells.set i c) (i+1) cs

theorem B5p:∀ (cs cells:List Value) (i:Nat),(B3r cells i cs).length=cells.length
 | [],_,_=>rfl
 |c::cs,cells,i=>by rw[B3r,B5p cs];simp

theorem _root_.sO {p:Prop} (h:p:=by simp;omega):p:=h
theorem getElem?_setFrom:∀ (cs cells:List Value) (i j:Nat),i+cs.length<=cells.length->(B3r cells i cs)[j]?=if i<=j/\j<i+cs.length then cs[j - i]? else cells[j]?
 | [],cells,i,j,_=>by simp[B3r];intro h1 h2;omega
 |c::cs,cells,i,j,h=>by
  simp only[List.length_cons]at h ⊢
  rw[B3r,getElem?_setFrom cs (cells.set i c) (i+1) j sO]
  by_cases h1:i+1<=j/\j<i+1+cs.length
  ·rw[if_pos h1,if_pos oM]
   rw[show j - i=(j - (i+1))+1 by omega]
   simp
  rw[if_neg h1]
  by_cases h2:j=i
  ·subst h2
   rw[if_pos oM]
   simp[show j<cells.length by omega]
  rw[if_neg oM,List.getElem?_set_ne oM]

theorem B0l {l:List Value} {i m:Nat} {cs:List Value} (h:∀ j,j<m->l[i+j]?=cs[j]?) (u:cs.length=m):(l.drop i).take m=cs:=by
 apply List.ext_getElem?;intro j;by_cases b:j<m;·rw[List.getElem?_take,if_pos b,List.getElem?_drop,h j b]
 rw[List.getElem?_eq_none sO,List.getElem?_eq_none oM]

theorem Filled.push (h:Filled w cells xs fss) (I:cells.length=xs.length*Dat.sz α) {x:α} {D:List Nat} {cs:List Value} (G:Dat.at_ w cs x D) :
  Filled w (cells++cs) (xs++[x]) (fss++[D]):=by
 obtain⟨E,T,J⟩:=h;have K:=Dat.len G;have S:(xs.length+1)*Dat.sz α=xs.length*Dat.sz α+Dat.sz α:=by rw[Nat.add_mul,Nat.one_mul]
 have X:0<Dat.sz α:=Dat.pos;refine⟨by simp[E],by simp[S,I,K],λk y gs u b=>?_⟩;by_cases H:k<xs.length
 ·rw[List.getElem?_append_left H]at u
  rw[List.getElem?_append_left oM]at b;have W:k*Dat.sz α+Dat.sz α<=xs.length*Dat.sz α:=by rw[<-Nat.succ_mul];exact Nat.mul_le_mul_right _ H
  have:=J k y gs u b;rw[List.drop_append_of_le_length oM,List.take_append_of_le_length sO];exact this
 have O:k=xs.length:=by have:=(List.getElem?_eq_some_iff.1 u).1;simp at this;omega
 subst O;simp at u;rw[<-E]at b;simp at b;subst u;subst b;rw[<-I,List.drop_append_of_le_length (Nat.le_refl _),List.drop_length,List.nil_append,List.take_of_length_le oM];exact G

theorem Filled.sl {base n:Nat} {e:TypeId} {v:Value} (h:Filled w cells xs fss) (I:w.ownsRow base e (Dat.sz α) v n cells) (u:xs.length=n) :
  ∃ A c bs,v=.slice A n c/\Sl w A n c xs bs/\((n=0/\bs=[])\/∃ g,v.ownBlock=some g/\bs=g::fss.flatten/\base<=g/\∃ cs t,w.1[g]?=some (.cells cs t (0,0))):=by
 rcases I.2 with⟨rfl,rfl⟩|⟨g,cap,Z,rfl,S,G,H,E,aa,ac⟩;·have Y:xs=[]:=List.eq_nil_of_length_eq_zero u;subst Y;exact⟨none,0,[],rfl,Sl.nil w,.inl ⟨rfl,rfl⟩⟩
 rcases Nat.eq_zero_or_pos n with D|D;·subst D;exact⟨_,_,[],rfl,⟨u,H,E,λ_=>rfl,λh=>absurd h oM⟩,.inl ⟨rfl,rfl⟩⟩
 refine⟨_,_,g::fss.flatten,rfl,⟨u,H,E,λh=>absurd h oM,λ_=>⟨g,0,fss,rfl,rfl,h.1,E_ G,λk x K J T=>?_⟩⟩,.inr ⟨g,rfl,rfl,S,_,_,G⟩⟩;have O:=h.2.2 k x K J T;refine⟨_,λj ad b=>?_,O⟩;rw[List.getElem?_take]at b;split at b
 ·rename_i ab
  rw[List.getElem?_drop]at b;rw[Nat.zero_add];have W:k<n:=by rw[<-u];exact(List.getElem?_eq_some_iff.1 J).1
  have X:k*Dat.sz α+j<n*Dat.sz α:=by have:(k+1)*Dat.sz α<=n*Dat.sz α:=Nat.mul_le_mul_right _ W;rw[Nat.add_mul,Nat.one_mul]at this;omega
  rw[World.ownsRow.cellAt I _ X];exact b
 cases b

theorem B7v {w0:World} {b:List Nat} {n:Nat} (h:(n=0/\b=[])\/∃ g,b=g::fss.flatten/\w0.1.size<=g/\(∃ cs t,w.1[g]?=some (.cells cs t (0,0)))/\g∉fss.flatten) (D:Own w0 w fss.flatten):Own w0 w b:=by
 rcases h with⟨_,rfl⟩|⟨g,rfl,H,G,I⟩;·exact Own.nil _ _
 exact⟨List.nodup_cons.2 ⟨I,D.1⟩,λE u=>by
  rcases List.mem_cons.1 u with rfl|u;·exact⟨H,G⟩
  exact D.2 E u⟩
end

theorem Filled.ints {w:World} {cells:List Value} {xs:List Int} (h:cells.take xs.length=xs.map (.int .i64)) (hi:∀ x∈xs,I64 x) (J:xs.length<=cells.length):Filled w cells xs (List.replicate xs.length []):=by
 refine⟨sI,by simpa[Dat.sz]using J,λk x G b u=>?_⟩;have E:=(List.getElem?_eq_some_iff.1 b).1;have I:G=[]:=by rw[List.getElem?_replicate,if_pos E]at u;exact(Option.some.inj u).symm
 refine⟨?_,I,hi x (List.mem_of_getElem? b)⟩;have H:cells[k]?=some (.int .i64 x):=by have:=congrArg (λl=>l[k]?) h;simp only[List.getElem?_take,E,if_true,List.getElem?_map,b,Option.map_some]at this;exact this
 exact B0l (λj D=>by
  have:j=0:=by simp[Dat.sz]at D;exact D
  subst this;simpa[Dat.sz]using H) rfl

theorem B0k (n:Nat):(List.replicate n ([]:List Nat)).flatten=[]:=by
 induction n with
 |zero=>rfl
 |succ n ih=>rw[List.replicate_succ,List.flatten_cons,ih];rfl

end Go.XB

namespace Go.XB
def E7c {α:Type} (f:α->Nat) (l:List α):Nat:=l.length+(l.map f).sum
def TBigInt.cnt (x:TBigInt):Nat:=x.mag.length
def TRat.cnt (x:TRat):Nat:=x.1.cnt+x.2.length
def TPoint.cnt (x:TPoint):Nat:=x.x.cnt+x.y.cnt
def TMesh.cnt (x:TMesh):Nat:=E7c TPoint.cnt x.1+x.triangles.length
def TProblem.cnt (x:TProblem):Nat:=x.1.cnt+E7c TRat.cnt x.2+E7c TRat.cnt x.3
def TGoal.cnt (x:TGoal):Nat:=x.value.cnt+x.square.cnt
def TReport.cnt (x:TReport):Nat:=x.energy.cnt+x.bound.cnt
def TState.cnt (x:TState):Nat:=x.problem.cnt+x.part.cnt+E7c TReport.cnt x.reports
end Go.XB
namespace Go.Proofs.YtbhemnidcleaiaaGreat.X
open Go.RowKit Go.XB

end Go.Proofs.YtbhemnidcleaiaaGreat.X

namespace Go.XB
open Go.RowKit

def setCells (w:World) (g i:Nat):List Value->World
 | []=>w
 |c::cs=>setCells (w.setCell ⟨g,i,none⟩ c) g (i+1) cs

theorem I_ {w w':World} {base:Nat} {e:TypeId} {size:Nat} {v:Value} {n:Nat} {xs:List Value} (h:w.ownsRow base e size v n xs) (hb:Below w.1.size w w'):w'.ownsRow base e size v n xs :=
 h.kept (row:=none) ⟨hb.os,hb.tape,hb.output,hb.size,λk hk _=>hb.block k hk⟩ (by cases hv:v.ownBlock<;>simp)

theorem A0m (g:Nat):∀ (cs:List Value) (w:World) (i k:Nat),k≠g->(setCells w g i cs).1[k]?=w.1[k]?
 | [],_,_,_,_=>rfl
 |c::cs,w,i,k,h=>(A0m g cs _ (i+1) k h).trans (Below.heap_setCell w ⟨g,i,none⟩ c k h)

theorem A7d (g:Nat):∀ (cs:List Value) (w:World) (i:Nat),(setCells w g i cs).1.size=w.1.size
 | [],_,_=>rfl
 |c::cs,w,i=>by rw[setCells,A7d g cs];simp[World.setCell]

end Go.XB

namespace Go.XB
open Go.RowKit

structure TAround where
 m:TMesh
 edges:List TEdge
 v:Int
 list:List Int
 deriving DecidableEq
instance:Dat TAround:=Dat.via λx=>(x.m,x.edges,x.v,x.list)
theorem TAround.open_ {w:World} {cs:List Value} {x:TAround} {b:List Nat} (h:Dat.at_ w cs x b):∃ (A0:Option Addr) (n0 c0:Nat) (s0:List Nat) (A1:Option Addr) (n1 c1:Nat) (s1:List Nat) (A2:Option Addr) (n2 c2:Nat) (s2:List Nat) (A4:Option Addr) (n4 c4:Nat) (s4:List Nat),cs=[.slice A0 n0 c0,.slice A1 n1 c1,.slice A2 n2 c2,.int .i64 x.v,.slice A4 n4 c4]/\b=s0++(s1++(s2++(s4)))/\Sl w A0 n0 c0 x.m.1 s0/\Sl w A1 n1 c1 x.m.triangles s1/\Sl w A2 n2 c2 x.edges s2/\I64 x.v/\Sl w A4 n4 c4 x.list s4:=by
 obtain⟨p1,q1,u1,v1,rfl,rfl,u,H⟩:=h;obtain⟨p2,q2,u2,v2,rfl,rfl,D,I⟩:=u;obtain⟨A0,n0,c0,rfl,w0⟩:=D;obtain⟨A1,n1,c1,rfl,O⟩:=I;obtain⟨W,Y,aa,ac,rfl,rfl,E,J⟩:=H;obtain⟨A2,n2,c2,rfl,S⟩:=E;obtain⟨X,Z,ab,ad,rfl,rfl,G,K⟩:=J;obtain⟨rfl,rfl,w3⟩:=G;obtain⟨A4,n4,c4,rfl,T⟩:=K;exact⟨_,_,_,_,_,_,_,_,_,_,_,_,_,_,_,_,rfl,by first|rfl|(simp;done)|simp[List.append_assoc],w0,O,S,w3,T⟩
theorem TAround.shut {w:World} {x:TAround} {h:Option Addr} {K G:Nat} {S:List Nat} {u:Option Addr} {n1 H:Nat} {T:List Nat} {D:Option Addr} {n2 I:Nat} {W:List Nat} {E:Option Addr} {O J:Nat} {X:List Nat} (w0:Sl w h K G x.m.1 S) (Y:Sl w u n1 H x.m.triangles T) (w2:Sl w D n2 I x.edges W) (w3:I64 x.v) (Z:Sl w E O J x.list X):Dat.at_ w [.slice h K G,.slice u n1 H,.slice D n2 I,.int .i64 x.v,.slice E O J] x (S++(T++(W++(X)))):=by
 have b:Dat.at_ w _ x _:=⟨_,_,_,_,rfl,rfl,⟨_,_,_,_,rfl,rfl,⟨_,_,_,rfl,w0⟩,⟨_,_,_,rfl,Y⟩⟩,⟨_,_,_,_,rfl,rfl,⟨_,_,_,rfl,w2⟩,⟨_,_,_,_,rfl,rfl,⟨rfl,rfl,w3⟩,⟨_,_,_,rfl,Z⟩⟩⟩⟩
 first|exact b|(simpa using b)|simpa[List.append_assoc]using b
theorem TAround.agg {w:World} {v:Value} {x:TAround} {b:List Nat} (h:Agg w v x b):∃ (A0:Option Addr) (n0 c0:Nat) (s0:List Nat) (A1:Option Addr) (n1 c1:Nat) (s1:List Nat) (A2:Option Addr) (n2 c2:Nat) (s2:List Nat) (A4:Option Addr) (n4 c4:Nat) (s4:List Nat),v=.agg #[.slice A0 n0 c0,.slice A1 n1 c1,.slice A2 n2 c2,.int .i64 x.v,.slice A4 n4 c4]/\b=s0++(s1++(s2++(s4)))/\Sl w A0 n0 c0 x.m.1 s0/\Sl w A1 n1 c1 x.m.triangles s1/\Sl w A2 n2 c2 x.edges s2/\I64 x.v/\Sl w A4 n4 c4 x.list s4:=by
 obtain⟨G,rfl,h⟩:=h;obtain⟨A0,n0,c0,s0,A1,n1,c1,s1,A2,n2,c2,s2,A4,n4,c4,s4,rfl,rfl,w0,u,D,w3,E⟩:=TAround.open_ h;exact⟨_,_,_,_,_,_,_,_,_,_,_,_,_,_,_,_,rfl,rfl,w0,u,D,w3,E⟩
theorem TAround.mkAgg {w:World} {x:TAround} {A0:Option Addr} {n0 c0:Nat} {s0:List Nat} {A1:Option Addr} {n1 c1:Nat} {s1:List Nat} {A2:Option Addr} {n2 c2:Nat} {s2:List Nat} {A4:Option Addr} {n4 c4:Nat} {s4:List Nat} (w0:Sl w A0 n0 c0 x.m.1 s0) (w1:Sl w A1 n1 c1 x.m.triangles s1) (w2:Sl w A2 n2 c2 x.edges s2) (w3:I64 x.v) (w4:Sl w A4 n4 c4 x.list s4):Agg w (.agg #[.slice A0 n0 c0,.slice A1 n1 c1,.slice A2 n2 c2,.int .i64 x.v,.slice A4 n4 c4]) x (s0++(s1++(s2++(s4)))) :=
 ⟨_,rfl,TAround.shut w0 w1 w2 w3 w4⟩
structure TSolved where
 u:List TRat
 indicators:List TRat
 bound:TRat
 deriving DecidableEq
instance:Dat TSolved:=Dat.via λx=>(x.u,x.indicators,x.bound)
structure TPiece where
 list:List TPoint
 b:TPoint
 c:TPoint
 area:TRat
 k:TRat
 grad:TPoint
 own:TPoint
 f:TRat
 deriving DecidableEq
instance:Dat TPiece:=Dat.via λx=>(x.list,x.b,x.c,x.area,x.k,x.grad,x.own,x.f)
theorem TPiece.agg {w:World} {v:Value} {x:TPiece} {b:List Nat} (h:Agg w v x b):∃ (A0:Option Addr) (nA0 cA0:Nat) (sA:List Nat) (B1:Option Addr) (nB1 cB1:Nat) (B2:Option Addr) (nB2 cB2:Nat) (B4:Option Addr) (nB4 cB4:Nat) (B5:Option Addr) (nB5 cB5:Nat) (sB:List Nat) (C1:Option Addr) (nC1 cC1:Nat) (C2:Option Addr) (nC2 cC2:Nat) (C4:Option Addr) (nC4 cC4:Nat) (C5:Option Addr) (nC5 cC5:Nat) (sC:List Nat) (D1:Option Addr) (nD1 cD1:Nat) (D2:Option Addr) (nD2 cD2:Nat) (sD:List Nat) (E1:Option Addr) (nE1 cE1:Nat) (E2:Option Addr) (nE2 cE2:Nat) (sE:List Nat) (F1:Option Addr) (nF1 cF1:Nat) (F2:Option Addr) (nF2 cF2:Nat) (F4:Option Addr) (nF4 cF4:Nat) (F5:Option Addr) (nF5 cF5:Nat) (sF:List Nat) (G1:Option Addr) (nG1 cG1:Nat) (G2:Option Addr) (nG2 cG2:Nat) (G4:Option Addr) (nG4 cG4:Nat) (G5:Option Addr) (nG5 cG5:Nat) (sG:List Nat) (H1:Option Addr) (nH1 cH1:Nat) (H2:Option Addr) (nH2 cH2:Nat) (sH:List Nat),v=.agg #[.slice A0 nA0 cA0,.bool x.b.x.1.1,.slice B1 nB1 cB1,.slice B2 nB2 cB2,.bool x.b.y.1.1,.slice B4 nB4 cB4,.slice B5 nB5 cB5,.bool x.c.x.1.1,.slice C1 nC1 cC1,.slice C2 nC2 cC2,.bool x.c.y.1.1,.slice C4 nC4 cC4,.slice C5 nC5 cC5,.bool x.area.1.1,.slice D1 nD1 cD1,.slice D2 nD2 cD2,.bool x.k.1.1,.slice E1 nE1 cE1,.slice E2 nE2 cE2,.bool x.grad.x.1.1,.slice F1 nF1 cF1,.slice F2 nF2 cF2,.bool x.grad.y.1.1,.slice F4 nF4 cF4,.slice F5 nF5 cF5,.bool x.own.x.1.1,.slice G1 nG1 cG1,.slice G2 nG2 cG2,.bool x.own.y.1.1,.slice G4 nG4 cG4,.slice G5 nG5 cG5,.bool x.f.1.1,.slice H1 nH1 cH1,.slice H2 nH2 cH2]/\b=sA++(sB++(sC++(sD++(sE++(sF++(sG++(sH)))))))/\Sl w A0 nA0 cA0 x.list sA/\Agg w (.agg #[.bool x.b.x.1.1,.slice B1 nB1 cB1,.slice B2 nB2 cB2,.bool x.b.y.1.1,.slice B4 nB4 cB4,.slice B5 nB5 cB5]) x.b sB/\Agg w (.agg #[.bool x.c.x.1.1,.slice C1 nC1 cC1,.slice C2 nC2 cC2,.bool x.c.y.1.1,.slice C4 nC4 cC4,.slice C5 nC5 cC5]) x.c sC/\Agg w (.agg #[.bool x.area.1.1,.slice D1 nD1 cD1,.slice D2 nD2 cD2]) x.area sD/\Agg w (.agg #[.bool x.k.1.1,.slice E1 nE1 cE1,.slice E2 nE2 cE2]) x.k sE/\Agg w (.agg #[.bool x.grad.x.1.1,.slice F1 nF1 cF1,.slice F2 nF2 cF2,.bool x.grad.y.1.1,.slice F4 nF4 cF4,.slice F5 nF5 cF5]) x.grad sF/\Agg w (.agg #[.bool x.own.x.1.1,.slice G1 nG1 cG1,.slice G2 nG2 cG2,.bool x.own.y.1.1,.slice G4 nG4 cG4,.slice G5 nG5 cG5]) x.own sG/\Agg w (.agg #[.bool x.f.1.1,.slice H1 nH1 cH1,.slice H2 nH2 cH2]) x.f sH:=by
 obtain⟨Z,rfl,h⟩:=h;obtain⟨aa,af,sA,ak,rfl,rfl,K,O⟩:=h;obtain⟨A0,nA0,cA0,rfl,w0⟩:=K;obtain⟨p1,q1,sB,v1,rfl,rfl,u,S⟩:=O;obtain⟨B1,nB1,cB1,_,B2,nB2,cB2,_,B4,nB4,cB4,_,B5,nB5,cB5,_,rfl,_⟩:=TPoint.open_ u;obtain⟨p2,q2,sC,v2,rfl,rfl,D,T⟩:=S;obtain⟨C1,nC1,cC1,_,C2,nC2,cC2,_,C4,nC4,cC4,_,C5,nC5,cC5,_,rfl,_⟩:=TPoint.open_ D;obtain⟨ab,ag,sD,al,rfl,rfl,E,W⟩:=T;obtain⟨D1,nD1,cD1,_,D2,nD2,cD2,_,rfl,_⟩:=TRat.open_ E;obtain⟨ac,ah,sE,am,rfl,rfl,G,X⟩:=W;obtain⟨E1,nE1,cE1,_,E2,nE2,cE2,_,rfl,_⟩:=TRat.open_ G;obtain⟨ad,ai,sF,an,rfl,rfl,H,Y⟩:=X;obtain⟨F1,nF1,cF1,_,F2,nF2,cF2,_,F4,nF4,cF4,_,F5,nF5,cF5,_,rfl,_⟩:=TPoint.open_ H;obtain⟨ae,aj,sG,ao,rfl,rfl,I,J⟩:=Y;obtain⟨G1,nG1,cG1,_,G2,nG2,cG2,_,G4,nG4,cG4,_,G5,nG5,cG5,_,rfl,_⟩:=TPoint.open_ I;obtain⟨H1,nH1,cH1,_,H2,nH2,cH2,_,rfl,_⟩:=TRat.open_ J;exact⟨_,_,_,_,_,_,_,_,_,_,_,_,_,_,_,_,_,_,_,_,_,_,_,_,_,_,_,_,_,_,_,_,_,_,_,_,_,_,_,_,_,_,_,_,_,_,_,_,_,_,_,_,_,_,_,_,_,_,_,_,_,_,_,_,_,_,_,_,_,_,_,_,_,_,_,_,_,rfl,rfl,w0,⟨_,rfl,u⟩,⟨_,rfl,D⟩,⟨_,rfl,E⟩,⟨_,rfl,G⟩,⟨_,rfl,H⟩,⟨_,rfl,I⟩,⟨_,rfl,J⟩⟩
theorem TPiece.shut {w:World} {x:TPiece} {G:Option Addr} {aL al:Nat} {a9:List Nat} {H:Option Addr} {aM am:Nat} {I:Option Addr} {aN an:Nat} {J:Option Addr} {aO ao:Nat} {K:Option Addr} {aP ap:Nat} {ba:List Nat} {O:Option Addr} {aQ aq:Nat} {S:Option Addr} {aR ar:Nat} {T:Option Addr} {aS au:Nat} {W:Option Addr} {aT aw:Nat} {bc:List Nat} {X:Option Addr} {aU ax:Nat} {Y:Option Addr} {aV ay:Nat} {bd:List Nat} {Z:Option Addr} {aW az:Nat} {aa:Option Addr} {aX aA:Nat} {be:List Nat} {ab:Option Addr} {aY aB:Nat} {ac:Option Addr} {aZ aC:Nat} {ad:Option Addr} {a1 aD:Nat} {ae:Option Addr} {a2 aE:Nat} {sF:List Nat} {af:Option Addr} {a3 aF:Nat} {ag:Option Addr} {a4 aG:Nat} {ah:Option Addr} {a5 aH:Nat} {ai:Option Addr} {a6 aI:Nat} {bf:List Nat} {aj:Option Addr} {a7 aJ:Nat} {ak:Option Addr} {a8 aK:Nat} {bg:List Nat} (w0:Sl w G aL al x.list a9) (bo:Agg w (.agg #[.bool x.b.x.1.1,.slice H aM am,.slice I aN an,.bool x.b.y.1.1,.slice J aO ao,.slice K aP ap]) x.b ba) (w2:Agg w (.agg #[.bool x.c.x.1.1,.slice O aQ aq,.slice S aR ar,.bool x.c.y.1.1,.slice T aS au,.slice W aT aw]) x.c bc) (w3:Agg w (.agg #[.bool x.area.1.1,.slice X aU ax,.slice Y aV ay]) x.area bd) (bp:Agg w (.agg #[.bool x.k.1.1,.slice Z aW az,.slice aa aX aA]) x.k be) (bq:Agg w (.agg #[.bool x.grad.x.1.1,.slice ab aY aB,.slice ac aZ aC,.bool x.grad.y.1.1,.slice ad a1 aD,.slice ae a2 aE]) x.grad sF) (br:Agg w (.agg #[.bool x.own.x.1.1,.slice af a3 aF,.slice ag a4 aG,.bool x.own.y.1.1,.slice ah a5 aH,.slice ai a6 aI]) x.own bf) (bs:Agg w (.agg #[.bool x.f.1.1,.slice aj a7 aJ,.slice ak a8 aK]) x.f bg):Dat.at_ w [.slice G aL al,.bool x.b.x.1.1,.slice H aM am,.slice I aN an,.bool x.b.y.1.1,.slice J aO ao,.slice K aP ap,.bool x.c.x.1.1,.slice O aQ aq,.slice S aR ar,.bool x.c.y.1.1,.slice T aS au,.slice W aT aw,.bool x.area.1.1,.slice X aU ax,.slice Y aV ay,.bool x.k.1.1,.slice Z aW az,.slice aa aX aA,.bool x.grad.x.1.1,.slice ab aY aB,.slice ac aZ aC,.bool x.grad.y.1.1,.slice ad a1 aD,.slice ae a2 aE,.bool x.own.x.1.1,.slice af a3 aF,.slice ag a4 aG,.bool x.own.y.1.1,.slice ah a5 aH,.slice ai a6 aI,.bool x.f.1.1,.slice aj a7 aJ,.slice ak a8 aK] x (a9++(ba++(bc++(bd++(be++(sF++(bf++(bg)))))))):=by
 obtain⟨bt,q1,bh⟩:=bo;injection q1 with q1;have q1:=congrArg Array.toList q1;simp only at q1;subst q1;obtain⟨bu,q2,bi⟩:=w2;injection q2 with q2;have q2:=congrArg Array.toList q2;simp only at q2;subst q2;obtain⟨bv,b,bj⟩:=w3;injection b with b;have b:=congrArg Array.toList b;simp only at b;subst b;obtain⟨bz,h,bk⟩:=bp;injection h with h;have h:=congrArg Array.toList h;simp only at h;subst h;obtain⟨bA,u,bl⟩:=bq;injection u with u;have u:=congrArg Array.toList u;simp only at u;subst u;obtain⟨bB,D,bm⟩:=br;injection D with D;have D:=congrArg Array.toList D;simp only at D;subst D;obtain⟨bD,E,bn⟩:=bs;injection E with E;have E:=congrArg Array.toList E;simp only at E;subst E;exact⟨[_],_,_,_,rfl,rfl,⟨_,_,_,rfl,w0⟩,⟨_,_,_,_,rfl,rfl,bh,⟨_,_,_,_,rfl,rfl,bi,⟨_,_,_,_,rfl,rfl,bj,⟨_,_,_,_,rfl,rfl,bk,⟨_,_,_,_,rfl,rfl,bl,⟨_,_,_,_,rfl,rfl,bm,bn⟩⟩⟩⟩⟩⟩⟩
end Go.XB
