/- A part of the proof. -/
import Derived.WalkKit
import Derived.WalkSpells
import Derived.Deep.Draws
import Derived.Test.YtjcanieccnljfaaGreatRows
import Derived.WalkLawsBesides
import Derived.ProofKit
import Derived.OwnWalk
set_option linter.constructorNameAsVariable false
set_option maxHeartbeats 16000000
set_option maxRecDepth 10000
open Array renaming toList→PD
open Go renaming Addr→AJ,Value→AU,World→AD
open Go.IntKind renaming i64→K
open Go.RowKit renaming Below→FC
open Go.Value renaming agg→BJ,bool→J,int→RH,slice→S
open List renaming append_assoc→GG,getElem?_append_left→LD,getElem?_drop→OJ,getElem?_eq_getElem→DU,getElem?_eq_none→ML,getElem?_eq_some_iff→DM,getElem?_take→JM,mem_append→DV,mem_cons→JH,mem_cons_of_mem→KQ,mem_flatten→LG,mem_iff_getElem?→KE,mem_of_getElem?→DH,replicate→DK,take_add_one→QN,take_of_length_le→DT
open Nat renaming add_mul→MW,eq_zero_or_pos→IG,le_refl→CE,le_trans→CJ,mul_le_mul_right→MN,one_mul→KL
open Option renaming none→I,some→QZ
namespace Go.XB
open Go.RowKit

def I64 (x:Int):Prop:=-9223372036854775808<=x/\x<=9223372036854775807

theorem E1b (a:AJ) (n:Nat):(a.add n).block=a.block:=by unfold AJ.add;split<;>rfl

class Dat (α:Type) where
 sz:Nat
 pos:0<sz
 at_:AD->List AU->α->List Nat->Prop
 len:∀ {w cs x bs},at_ w cs x bs->cs.length=sz
 one:∀ {w cs x bs},at_ w cs x bs->∀ u∈cs,u.oneCell'=true
 lt:∀ {w cs x bs},at_ w cs x bs->∀ b∈bs,b<w.1.size
 keep:∀ {w w' cs x bs},at_ w cs x bs->(∀ b∈bs,w'.1[b]?=w.1[b]?)->at_ w' cs x bs

theorem E_ {w:AD} {b:Nat} {o:Obj} (h:w.1[b]?=QZ o):b<w.1.size:=by
 rcases Nat.lt_or_ge b w.1.size with u|u;·exact u
 rw[Array.getElem?_eq_none u]at h;cases h
theorem E6m {w w':AD} {b:Nat} (h:b<w.1.size) (e:w'.1[b]?=w.1[b]?):b<w'.1.size:=by
 rw[Array.getElem?_eq_getElem h]at e;exact E_ e

theorem _root_.dE {p:Prop} (h:p:=by decide):p:=h
instance:Dat Int where
 sz:=1
 pos:=dE
 at_:=λ_ cs x bs=>cs=[RH K x]/\bs=[]/\I64 x
 len:=λh=>by rw[h.1];rfl
 one:=λh u hu=>by rw[h.1]at hu;simp at hu;subst hu;rfl
 lt:=λh b hb=>by rw[h.2.1]at hb;simp at hb
 keep:=λh _=>h

instance:Dat Bool where
 sz:=1
 pos:=dE
 at_:=λ_ cs x bs=>cs=[J x]/\bs=[]
 len:=λh=>by rw[h.1];rfl
 one:=λh u hu=>by rw[h.1]at hu;simp at hu;subst hu;rfl
 lt:=λh b hb=>by rw[h.2]at hb;simp at hb
 keep:=λh _=>h

instance:Dat ByteArray where
 sz:=1
 pos:=dE
 at_:=λ_ cs x bs=>cs=[.string x]/\bs=[]/\x.size<=maxLen
 len:=λh=>by rw[h.1];rfl
 one:=λh u hu=>by rw[h.1]at hu;simp at hu;subst hu;rfl
 lt:=λh b hb=>by rw[h.2.1]at hb;simp at hb
 keep:=λh _=>h

def Elems {α:Type} [Dat α] (w:AD) (b off:Nat) (xs:List α) (bss:List (List Nat)):Prop :=
 bss.length=xs.length/\b<w.1.size/\∀ k x fs,xs[k]?=QZ x->bss[k]?=QZ fs ->
  ∃ cs,(∀ j u,cs[j]?=QZ u->w.cell? ⟨b,off+(k*Dat.sz α+j),I⟩=QZ u)/\Dat.at_ w cs x fs

def Sl {α:Type} [Dat α] (w:AD) (A:Option AJ) (n c:Nat) (xs:List α) (bs:List Nat):Prop :=
 xs.length=n/\n<=c/\c<=maxLen/\(n=0->bs=[]) /\
 (0<n->∃ b off bss,A=QZ ⟨b,off,I⟩/\bs=b::bss.flatten/\Elems w b off xs bss)

theorem Elems.keep {α:Type} [Dat α] {w w':AD} {b D:Nat} {xs:List α} {u:List (List Nat)} (h:Elems w b D xs u)
  (O:∀ g∈b::u.flatten,w'.1[g]?=w.1[g]?):Elems w' b D xs u:=by
 obtain⟨W,X,Y⟩:=h;have G:=O b (List.mem_cons_self ..);refine⟨W,E6m X G,λk x E ad H=>?_⟩;obtain⟨T,aa,Z⟩:=Y k x E ad H;refine⟨T,λj ae ac=>?_,Dat.keep Z λg ab=>O g (KQ _ (LG.2 ⟨E,DH H,ab⟩))⟩;rw[World.cell?_of_block (a:=⟨b,D+(k*Dat.sz α+j),I⟩) G];exact aa j ae ac

theorem Elems.lt {α:Type} [Dat α] {w:AD} {b Z:Nat} {xs:List α} {D:List (List Nat)} (h:Elems w b Z xs D):∀ g∈b::D.flatten,g<w.1.size:=by
 obtain⟨H,O,T⟩:=h;intro g u;rcases JH.1 u with rfl|u;·exact O
 obtain⟨G,X,u⟩:=LG.1 u;obtain⟨k,E⟩:=KE.1 X;have Y:k<xs.length:=by rw[<-H];exact(DM.1 E).1
 obtain⟨aa,_,W⟩:=T k _ G (DU Y) E;exact Dat.lt W g u

theorem Sl.keep {α:Type} [Dat α] {w w':AD} {A:Option AJ} {n c:Nat} {xs:List α} {bs:List Nat} (h:Sl w A n c xs bs)
  (Y:∀ g∈bs,w'.1[g]?=w.1[g]?):Sl w' A n c xs bs:=by
 obtain⟨E,G,H,O,T⟩:=h;refine⟨E,G,H,O,λZ=>?_⟩;obtain⟨u,aa,D,W,b,X⟩:=T Z;exact⟨u,aa,D,W,b,X.keep (by rw[<-b];exact Y)⟩

theorem Sl.lt {α:Type} [Dat α] {w:AD} {A:Option AJ} {n c:Nat} {xs:List α} {bs:List Nat} (h:Sl w A n c xs bs):∀ g∈bs,g<w.1.size:=by
 obtain⟨T,W,X,u,D⟩:=h;rcases IG n with b|b;·rw[u b];simp
 obtain⟨H,Z,O,Y,E,G⟩:=D b;rw[E];exact G.lt

theorem Sl.below {α:Type} [Dat α] {w w':AD} {A:Option AJ} {n c:Nat} {xs:List α} {bs:List Nat} (h:Sl w A n c xs bs) (hb:FC w.1.size w w'):Sl w' A n c xs bs :=
 h.keep λg hg=>hb.block g (h.lt g hg)

theorem Sl.belowB {α:Type} [Dat α] {w w':AD} {B:Nat} {A:Option AJ} {n c:Nat} {xs:List α} {bs:List Nat} (h:Sl w A n c xs bs) (hb:FC B w w') (hB:∀ g∈bs,g<B):Sl w' A n c xs bs :=
 h.keep λg hg=>hb.block g (hB g hg)

theorem Sl.nil {α:Type} [Dat α] (w:AD):Sl (α:=α) w I 0 0 [] []:=⟨rfl,CE _,Nat.zero_le _,λ_=>rfl,λh=>absurd h dE⟩

instance {α:Type} [Dat α]:Dat (List α) where
 sz:=1
 pos:=dE
 at_:=λw cs xs bs=>∃ A n c,cs=[S A n c]/\Sl w A n c xs bs
 len:=λ⟨_,_,_,h,_⟩=>by rw[h];rfl
 one:=λ⟨_,_,_,h,_⟩ u hu=>by rw[h]at hu;simp at hu;subst hu;rfl
 lt:=λ⟨_,_,_,_,h⟩=>h.lt
 keep:=λ⟨A,n,c,h,hs⟩ hk=>⟨A,n,c,h,hs.keep hk⟩

instance {α β:Type} [Dat α] [Dat β]:Dat (α×β) where
 sz:=Dat.sz α+Dat.sz β
 pos:=Nat.add_pos_left Dat.pos _
 at_:=λw cs x bs=>∃ c1 c2 b1 b2,cs=c1++c2/\bs=b1++b2/\Dat.at_ w c1 x.1 b1/\Dat.at_ w c2 x.2 b2
 len:=λ⟨_,_,_,_,h,_,h1,h2⟩=>by rw[h,List.length_append,Dat.len h1,Dat.len h2]
 one:=λ⟨_,_,_,_,h,_,h1,h2⟩ u hu=>by
  rw[h]at hu
  rcases DV.1 hu with hu|hu
  ·exact Dat.one h1 u hu
  exact Dat.one h2 u hu
 lt:=λ⟨_,_,_,_,_,h,h1,h2⟩ b hb=>by
  rw[h]at hb
  rcases DV.1 hb with hb|hb
  ·exact Dat.lt h1 b hb
  exact Dat.lt h2 b hb
 keep:=λ⟨c1,c2,b1,b2,h,hb,h1,h2⟩ hk=>⟨c1,c2,b1,b2,h,hb,Dat.keep h1 λb hb'=>hk b (by rw[hb];exact List.mem_append_left _ hb'),Dat.keep h2 λb hb'=>hk b (by rw[hb];exact List.mem_append_right _ hb')⟩

abbrev Dat.via {α β:Type} [Dat β] (f:α->β):Dat α where
 sz:=Dat.sz β
 pos:=Dat.pos
 at_:=λw cs x bs=>Dat.at_ w cs (f x) bs
 len:=λh=>Dat.len (α:=β) h
 one:=λh=>Dat.one (α:=β) h
 lt:=λh=>Dat.lt (α:=β) h
 keep:=λh hk=>Dat.keep (α:=β) h hk

def Agg {α:Type} [Dat α] (w:AD) (v:AU) (x:α) (bs:List Nat):Prop:=∃ cs,v=BJ cs.toArray/\Dat.at_ w cs x bs

theorem Agg.keep {α:Type} [Dat α] {w w':AD} {v:AU} {x:α} {bs:List Nat} (h:Agg w v x bs) (E:∀ g∈bs,w'.1[g]?=w.1[g]?):Agg w' v x bs:=by
 obtain⟨b,u,D⟩:=h;exact⟨b,u,Dat.keep D E⟩
theorem Agg.lt {α:Type} [Dat α] {w:AD} {v:AU} {x:α} {bs:List Nat} (h:Agg w v x bs):∀ g∈bs,g<w.1.size:=by
 obtain⟨u,D,b⟩:=h;exact Dat.lt b
theorem Agg.below {α:Type} [Dat α] {w w':AD} {v:AU} {x:α} {bs:List Nat} (h:Agg w v x bs) (hb:FC w.1.size w w'):Agg w' v x bs :=
 h.keep λg hg=>hb.block g (h.lt g hg)

def Own (w0 w:AD) (bs:List Nat):Prop:=bs.Nodup/\∀ b∈bs,w0.1.size<=b/\∃ cs t,w.1[b]?=QZ (.cells cs t (0,0))

theorem Own.nil (w0 w:AD):Own w0 w []:=⟨List.nodup_nil,λ_ h=>by simp at h⟩
theorem Own.below {w0 w w':AD} {bs:List Nat} (h:Own w0 w bs) (hb:FC w.1.size w w'):Own w0 w' bs :=
 ⟨h.1,λb hm=>⟨(h.2 b hm).1,by obtain⟨cs,t,e⟩:=(h.2 b hm).2;exact⟨cs,t,(hb.block b (E_ e)).trans e⟩⟩⟩
theorem Own.older {w0 w1 w:AD} {bs:List Nat} (h:Own w1 w bs) (hs:w0.1.size<=w1.1.size):Own w0 w bs :=
 ⟨h.1,λb hm=>⟨CJ hs (h.2 b hm).1,(h.2 b hm).2⟩⟩
theorem Own.lt {w0 w:AD} {bs:List Nat} (h:Own w0 w bs):∀ b∈bs,b<w.1.size:=λb hm=>by
 obtain⟨cs,t,e⟩:=(h.2 b hm).2;exact E_ e
theorem Own.append {w0 w:AD} {b1 b2:List Nat} (h1:Own w0 w b1) (h2:Own w0 w b2) (hd:∀ b∈b1,b∉b2):Own w0 w (b1++b2) :=
 ⟨List.nodup_append.2 ⟨h1.1,h2.1,λa ha b hb e=>hd a ha (e ▸ hb)⟩,λb hm=>by
  rcases DV.1 hm with hm|hm
  ·exact h1.2 b hm
  exact h2.2 b hm⟩

theorem A9o {N:Nat} {b1 b2:List Nat} (h1:∀ b∈b1,b<N) (h2:∀ b∈b2,N<=b):∀ b∈b1,b∉b2:=λb hb hb'=>by
 have:=h1 b hb;have:=h2 b hb';omega

def A0b (w:AD) (v:AU) (e:Ending) (w':AD):Prop:=e=.returned v/\FC w.1.size w w'

def A0c {α:Type} [Dat α] (w:AD) (x:α) (e:Ending) (w':AD):Prop :=
 ∃ v bs,e=.returned v/\Agg w' v x bs/\Own w w' bs/\FC w.1.size w w'

def A0w {α:Type} [Dat α] (w:AD) (xs:List α) (e:Ending) (w':AD):Prop :=
 ∃ A n c bs,e=.returned (S A n c)/\Sl w' A n c xs bs/\Own w w' bs/\FC w.1.size w w'

end Go.XB

namespace Go.XB
open Go.RowKit

theorem _root_.oS {p:Prop} (h:p:=by omega):p:=h
theorem Sl.getAt {α:Type} [Dat α] {w:AD} {A:Option AJ} {n c:Nat} {xs:List α} {bs:List Nat} (h:Sl w A n c xs bs) {k:Nat} (af:k<n) :
  ∃ b off x cs fs,A=QZ ⟨b,off,I⟩/\b<w.1.size/\xs[k]?=QZ x/\(∀ j u,cs[j]?=QZ u->w.cell? ⟨b,off+(k*Dat.sz α+j),I⟩=QZ u)/\Dat.at_ w cs x fs/\∀ g∈fs,g∈bs:=by
 obtain⟨ab,ac,ad,ae,H⟩:=h;obtain⟨b,off,D,O,X,ag,W,Z⟩:=H oS;have G:xs[k]?=QZ (xs[k]'oS):=DU oS;have E:D[k]?=QZ (D[k]'oS):=DU oS;obtain⟨cs,Y,T⟩:=Z k _ _ G E;exact⟨b,off,_,cs,_,O,W,G,Y,T,λg aa=>by rw[X];exact KQ _ (LG.2 ⟨_,DH E,aa⟩)⟩

end Go.XB

namespace Go.XB
open Go.RowKit

structure TBigInt where
 neg:Bool
 mag:List Int
 deriving DecidableEq
instance:Dat TBigInt:=Dat.via λx=>(x.neg,x.mag)
theorem TBigInt.open_ {w:AD} {cs:List AU} {x:TBigInt} {bs:List Nat} (h:Dat.at_ w cs x bs):∃ (A1:Option AJ) (n1 c1:Nat) (s1:List Nat),cs=[J x.neg,S A1 n1 c1]/\bs=s1/\Sl w A1 n1 c1 x.mag s1:=by
 obtain⟨p1,q1,u1,v1,rfl,rfl,b,u⟩:=h;obtain⟨rfl,rfl⟩:=b;obtain⟨A1,n1,c1,rfl,D⟩:=u;exact⟨_,_,_,_,rfl,by first|rfl|(simp;done)|simp[GG],D⟩
theorem TBigInt.shut {w:AD} {x:TBigInt} {h:Option AJ} {n1 u:Nat} {D:List Nat} (E:Sl w h n1 u x.mag D):Dat.at_ w [J x.neg,S h n1 u] x (D):=by
 have b:Dat.at_ w _ x _:=⟨_,_,_,_,rfl,rfl,⟨rfl,rfl⟩,⟨_,_,_,rfl,E⟩⟩
 first|exact b|(simpa using b)|simpa[GG]using b
theorem TBigInt.agg {w:AD} {v:AU} {x:TBigInt} {bs:List Nat} (h:Agg w v x bs):∃ (A1:Option AJ) (n1 c1:Nat) (s1:List Nat),v=BJ #[J x.neg,S A1 n1 c1]/\bs=s1/\Sl w A1 n1 c1 x.mag s1:=by
 obtain⟨u,rfl,h⟩:=h;obtain⟨A1,n1,c1,s1,rfl,rfl,b⟩:=TBigInt.open_ h;exact⟨_,_,_,_,rfl,rfl,b⟩
theorem TBigInt.mkAgg {w:AD} {x:TBigInt} {A1:Option AJ} {n1 c1:Nat} {s1:List Nat} (w1:Sl w A1 n1 c1 x.mag s1):Agg w (BJ #[J x.neg,S A1 n1 c1]) x (s1) :=
 ⟨_,rfl,TBigInt.shut w1⟩
structure TRat where
 num:TBigInt
 den:List Int
 deriving DecidableEq
instance:Dat TRat:=Dat.via λx=>(x.num,x.den)
theorem TRat.open_ {w:AD} {cs:List AU} {x:TRat} {bs:List Nat} (h:Dat.at_ w cs x bs):∃ (A1:Option AJ) (n1 c1:Nat) (s1:List Nat) (A2:Option AJ) (n2 c2:Nat) (s2:List Nat),cs=[J x.1.1,S A1 n1 c1,S A2 n2 c2]/\bs=s1++(s2)/\Sl w A1 n1 c1 x.1.2 s1/\Sl w A2 n2 c2 x.2 s2:=by
 obtain⟨p1,q1,u1,v1,rfl,rfl,b,D⟩:=h;obtain⟨p2,q2,u2,v2,rfl,rfl,u,E⟩:=b;obtain⟨rfl,rfl⟩:=u;obtain⟨A1,n1,c1,rfl,G⟩:=E;obtain⟨A2,n2,c2,rfl,H⟩:=D;exact⟨_,_,_,_,_,_,_,_,rfl,by first|rfl|(simp;done)|simp[GG],G,H⟩
theorem TRat.shut {w:AD} {x:TRat} {h:Option AJ} {n1 D:Nat} {G:List Nat} {u:Option AJ} {n2 E:Nat} {H:List Nat} (O:Sl w h n1 D x.1.2 G) (w2:Sl w u n2 E x.2 H):Dat.at_ w [J x.1.1,S h n1 D,S u n2 E] x (G++(H)):=by
 have b:Dat.at_ w _ x _:=⟨_,_,_,_,rfl,rfl,⟨_,_,_,_,rfl,rfl,⟨rfl,rfl⟩,⟨_,_,_,rfl,O⟩⟩,⟨_,_,_,rfl,w2⟩⟩
 first|exact b|(simpa using b)|simpa[GG]using b
theorem TRat.agg {w:AD} {v:AU} {x:TRat} {bs:List Nat} (h:Agg w v x bs):∃ (A1:Option AJ) (n1 c1:Nat) (s1:List Nat) (A2:Option AJ) (n2 c2:Nat) (s2:List Nat),v=BJ #[J x.1.1,S A1 n1 c1,S A2 n2 c2]/\bs=s1++(s2)/\Sl w A1 n1 c1 x.1.2 s1/\Sl w A2 n2 c2 x.2 s2:=by
 obtain⟨D,rfl,h⟩:=h;obtain⟨A1,n1,c1,s1,A2,n2,c2,s2,rfl,rfl,b,u⟩:=TRat.open_ h;exact⟨_,_,_,_,_,_,_,_,rfl,rfl,b,u⟩
theorem TRat.mkAgg {w:AD} {x:TRat} {A1:Option AJ} {n1 c1:Nat} {s1:List Nat} {A2:Option AJ} {n2 c2:Nat} {s2:List Nat} (w1:Sl w A1 n1 c1 x.1.2 s1) (w2:Sl w A2 n2 c2 x.2 s2):Agg w (BJ #[J x.1.1,S A1 n1 c1,S A2 n2 c2]) x (s1++(s2)) :=
 ⟨_,rfl,TRat.shut w1 w2⟩
theorem TRat.elemA {w:AD} {A:Option AJ} {n c:Nat} {xs:List TRat} {bs:List Nat} (h:Sl w A n c xs bs) {k:Nat} (H:k<n) :
  ∃ (b off:Nat) (x:TRat) (A1:Option AJ) (n1 c1:Nat) (s1:List Nat) (A2:Option AJ) (n2 c2:Nat) (s2:List Nat),A=QZ ⟨b,off,I⟩/\b<w.1.size/\xs[k]?=QZ x/\w.cell? ⟨b,off+k*3,I⟩=QZ (J x.1.1)/\w.cell? ⟨b,off+k*3+1,I⟩=QZ (S A1 n1 c1)/\w.cell? ⟨b,off+k*3+2,I⟩=QZ (S A2 n2 c2)/\Agg w (BJ #[J x.1.1,S A1 n1 c1,S A2 n2 c2]) x (s1++(s2)):=by
 obtain⟨b,off,x,T,W,E,G,O,u,D,X⟩:=Sl.getAt h H;obtain⟨A1,n1,c1,s1,A2,n2,c2,s2,rfl,rfl,Y,Z⟩:=TRat.open_ D;exact⟨b,off,x,_,_,_,_,_,_,_,_,E,G,O,u 0 _ rfl,u 1 _ rfl,u 2 _ rfl,_,rfl,D⟩

structure TPoint where
 x:TRat
 y:TRat
 deriving DecidableEq
instance:Dat TPoint:=Dat.via λx=>(x.x,x.y)
theorem TPoint.open_ {w:AD} {cs:List AU} {x:TPoint} {bs:List Nat} (h:Dat.at_ w cs x bs):∃ (A1:Option AJ) (n1 c1:Nat) (s1:List Nat) (A2:Option AJ) (n2 c2:Nat) (s2:List Nat) (A4:Option AJ) (n4 c4:Nat) (s4:List Nat) (A5:Option AJ) (n5 c5:Nat) (s5:List Nat),cs=[J x.x.1.1,S A1 n1 c1,S A2 n2 c2,J x.y.1.1,S A4 n4 c4,S A5 n5 c5]/\bs=s1++(s2++(s4++(s5)))/\Sl w A1 n1 c1 x.x.1.2 s1/\Sl w A2 n2 c2 x.x.2 s2/\Sl w A4 n4 c4 x.y.1.2 s4/\Sl w A5 n5 c5 x.y.2 s5:=by
 obtain⟨p1,q1,u1,v1,rfl,rfl,b,H⟩:=h;obtain⟨p2,q2,u2,v2,rfl,rfl,u,O⟩:=b;obtain⟨ac,af,ai,al,rfl,rfl,D,T⟩:=u;obtain⟨rfl,rfl⟩:=D;obtain⟨A1,n1,c1,rfl,Y⟩:=T;obtain⟨A2,n2,c2,rfl,Z⟩:=O;obtain⟨ad,ag,aj,am,rfl,rfl,E,W⟩:=H;obtain⟨ae,ah,ak,an,rfl,rfl,G,X⟩:=E;obtain⟨rfl,rfl⟩:=G;obtain⟨A4,n4,c4,rfl,aa⟩:=X;obtain⟨A5,n5,c5,rfl,ab⟩:=W;exact⟨_,_,_,_,_,_,_,_,_,_,_,_,_,_,_,_,rfl,by first|rfl|(simp;done)|simp[GG],Y,Z,aa,ab⟩
theorem TPoint.shut {w:AD} {x:TPoint} {h:Option AJ} {n1 G:Nat} {Y:List Nat} {u:Option AJ} {n2 H:Nat} {Z:List Nat} {D:Option AJ} {W O:Nat} {aa:List Nat} {E:Option AJ} {X T:Nat} {ab:List Nat} (ac:Sl w h n1 G x.x.1.2 Y) (w2:Sl w u n2 H x.x.2 Z) (ad:Sl w D W O x.y.1.2 aa) (ae:Sl w E X T x.y.2 ab):Dat.at_ w [J x.x.1.1,S h n1 G,S u n2 H,J x.y.1.1,S D W O,S E X T] x (Y++(Z++(aa++(ab)))):=by
 have b:Dat.at_ w _ x _:=⟨_,_,_,_,rfl,rfl,⟨_,_,_,_,rfl,rfl,⟨_,_,_,_,rfl,rfl,⟨rfl,rfl⟩,⟨_,_,_,rfl,ac⟩⟩,⟨_,_,_,rfl,w2⟩⟩,⟨_,_,_,_,rfl,rfl,⟨_,_,_,_,rfl,rfl,⟨rfl,rfl⟩,⟨_,_,_,rfl,ad⟩⟩,⟨_,_,_,rfl,ae⟩⟩⟩
 first|exact b|(simpa using b)|simpa[GG]using b
theorem TPoint.agg {w:AD} {v:AU} {x:TPoint} {bs:List Nat} (h:Agg w v x bs):∃ (A1:Option AJ) (n1 c1:Nat) (s1:List Nat) (A2:Option AJ) (n2 c2:Nat) (s2:List Nat) (A4:Option AJ) (n4 c4:Nat) (s4:List Nat) (A5:Option AJ) (n5 c5:Nat) (s5:List Nat),v=BJ #[J x.x.1.1,S A1 n1 c1,S A2 n2 c2,J x.y.1.1,S A4 n4 c4,S A5 n5 c5]/\bs=s1++(s2++(s4++(s5)))/\Sl w A1 n1 c1 x.x.1.2 s1/\Sl w A2 n2 c2 x.x.2 s2/\Sl w A4 n4 c4 x.y.1.2 s4/\Sl w A5 n5 c5 x.y.2 s5:=by
 obtain⟨G,rfl,h⟩:=h;obtain⟨A1,n1,c1,s1,A2,n2,c2,s2,A4,n4,c4,s4,A5,n5,c5,s5,rfl,rfl,b,u,D,E⟩:=TPoint.open_ h;exact⟨_,_,_,_,_,_,_,_,_,_,_,_,_,_,_,_,rfl,rfl,b,u,D,E⟩
theorem TPoint.mkAgg {w:AD} {x:TPoint} {A1:Option AJ} {n1 c1:Nat} {s1:List Nat} {A2:Option AJ} {n2 c2:Nat} {s2:List Nat} {A4:Option AJ} {n4 c4:Nat} {s4:List Nat} {A5:Option AJ} {n5 c5:Nat} {s5:List Nat} (w1:Sl w A1 n1 c1 x.x.1.2 s1) (w2:Sl w A2 n2 c2 x.x.2 s2) (w4:Sl w A4 n4 c4 x.y.1.2 s4) (w5:Sl w A5 n5 c5 x.y.2 s5):Agg w (BJ #[J x.x.1.1,S A1 n1 c1,S A2 n2 c2,J x.y.1.1,S A4 n4 c4,S A5 n5 c5]) x (s1++(s2++(s4++(s5)))) :=
 ⟨_,rfl,TPoint.shut w1 w2 w4 w5⟩
theorem TPoint.elemA {w:AD} {A:Option AJ} {n c:Nat} {xs:List TPoint} {bs:List Nat} (h:Sl w A n c xs bs) {k:Nat} (H:k<n) :
  ∃ (b off:Nat) (x:TPoint) (A1:Option AJ) (n1 c1:Nat) (s1:List Nat) (A2:Option AJ) (n2 c2:Nat) (s2:List Nat) (A4:Option AJ) (n4 c4:Nat) (s4:List Nat) (A5:Option AJ) (n5 c5:Nat) (s5:List Nat),A=QZ ⟨b,off,I⟩/\b<w.1.size/\xs[k]?=QZ x/\w.cell? ⟨b,off+k*6,I⟩=QZ (J x.x.1.1)/\w.cell? ⟨b,off+k*6+1,I⟩=QZ (S A1 n1 c1)/\w.cell? ⟨b,off+k*6+2,I⟩=QZ (S A2 n2 c2)/\w.cell? ⟨b,off+k*6+3,I⟩=QZ (J x.y.1.1)/\w.cell? ⟨b,off+k*6+4,I⟩=QZ (S A4 n4 c4)/\w.cell? ⟨b,off+k*6+5,I⟩=QZ (S A5 n5 c5)/\Agg w (BJ #[J x.x.1.1,S A1 n1 c1,S A2 n2 c2,J x.y.1.1,S A4 n4 c4,S A5 n5 c5]) x (s1++(s2++(s4++(s5)))):=by
 obtain⟨b,off,x,T,W,E,G,O,u,D,X⟩:=Sl.getAt h H;obtain⟨A1,n1,c1,s1,A2,n2,c2,s2,A4,n4,c4,s4,A5,n5,c5,s5,rfl,rfl,Y,Z,aa,ab⟩:=TPoint.open_ D;exact⟨b,off,x,_,_,_,_,_,_,_,_,_,_,_,_,_,_,_,_,E,G,O,u 0 _ rfl,u 1 _ rfl,u 2 _ rfl,u 3 _ rfl,u 4 _ rfl,u 5 _ rfl,_,rfl,D⟩

structure TTri where
 a:Int
 b:Int
 c:Int
 region:Int
 level:Int
 deriving DecidableEq
instance:Dat TTri:=Dat.via λx=>(x.a,x.b,x.c,x.region,x.level)
theorem TTri.open_ {w:AD} {cs:List AU} {x:TTri} {bs:List Nat} (h:Dat.at_ w cs x bs):cs=[RH K x.a,RH K x.b,RH K x.c,RH K x.4,RH K x.5]/\bs=[]/\I64 x.a/\I64 x.b/\I64 x.c/\I64 x.4/\I64 x.5:=by
 obtain⟨p1,q1,u1,v1,rfl,rfl,b,G⟩:=h;obtain⟨rfl,rfl,w0⟩:=b;obtain⟨p2,q2,u2,v2,rfl,rfl,u,H⟩:=G;obtain⟨rfl,rfl,W⟩:=u;obtain⟨Z,ab,ad,af,rfl,rfl,D,O⟩:=H;obtain⟨rfl,rfl,X⟩:=D;obtain⟨aa,ac,ae,ag,rfl,rfl,E,T⟩:=O;obtain⟨rfl,rfl,w3⟩:=E;obtain⟨rfl,rfl,Y⟩:=T;exact⟨rfl,by first|rfl|(simp;done)|simp[GG],w0,W,X,w3,Y⟩
theorem TTri.shut {w:AD} {x:TTri} (w0:I64 x.a) (h:I64 x.b) (w2:I64 x.c) (w3:I64 x.4) (u:I64 x.5):Dat.at_ w [RH K x.a,RH K x.b,RH K x.c,RH K x.4,RH K x.5] x ([]):=by
 have b:Dat.at_ w _ x _:=⟨_,_,_,_,rfl,rfl,⟨rfl,rfl,w0⟩,⟨_,_,_,_,rfl,rfl,⟨rfl,rfl,h⟩,⟨_,_,_,_,rfl,rfl,⟨rfl,rfl,w2⟩,⟨_,_,_,_,rfl,rfl,⟨rfl,rfl,w3⟩,⟨rfl,rfl,u⟩⟩⟩⟩⟩
 first|exact b|(simpa using b)|simpa[GG]using b
theorem TTri.agg {w:AD} {v:AU} {x:TTri} {bs:List Nat} (h:Agg w v x bs):v=BJ #[RH K x.a,RH K x.b,RH K x.c,RH K x.4,RH K x.5]/\bs=[]/\I64 x.a/\I64 x.b/\I64 x.c/\I64 x.4/\I64 x.5:=by
 obtain⟨E,rfl,h⟩:=h;obtain⟨rfl,rfl,w0,b,u,w3,D⟩:=TTri.open_ h;exact⟨rfl,rfl,w0,b,u,w3,D⟩
theorem TTri.mkAgg {w:AD} {x:TTri} (w0:I64 x.a) (w1:I64 x.b) (w2:I64 x.c) (w3:I64 x.4) (w4:I64 x.5):Agg w (BJ #[RH K x.a,RH K x.b,RH K x.c,RH K x.4,RH K x.5]) x ([]) :=
 ⟨_,rfl,TTri.shut w0 w1 w2 w3 w4⟩
theorem TTri.elemA {w:AD} {A:Option AJ} {n c:Nat} {xs:List TTri} {bs:List Nat} (h:Sl w A n c xs bs) {k:Nat} (H:k<n) :
  ∃ (b off:Nat) (x:TTri),A=QZ ⟨b,off,I⟩/\b<w.1.size/\xs[k]?=QZ x/\w.cell? ⟨b,off+k*5,I⟩=QZ (RH K x.a)/\w.cell? ⟨b,off+k*5+1,I⟩=QZ (RH K x.b)/\w.cell? ⟨b,off+k*5+2,I⟩=QZ (RH K x.c)/\w.cell? ⟨b,off+k*5+3,I⟩=QZ (RH K x.4)/\w.cell? ⟨b,off+k*5+4,I⟩=QZ (RH K x.5)/\Agg w (BJ #[RH K x.a,RH K x.b,RH K x.c,RH K x.4,RH K x.5]) x ([]):=by
 obtain⟨b,off,x,T,W,E,G,O,u,D,X⟩:=Sl.getAt h H;obtain⟨rfl,rfl,w0,Y,Z,w3,aa⟩:=TTri.open_ D;exact⟨b,off,x,E,G,O,u 0 _ rfl,u 1 _ rfl,u 2 _ rfl,u 3 _ rfl,u 4 _ rfl,_,rfl,D⟩

structure TEdge where
 a:Int
 b:Int
 left:Int
 right:Int
 deriving DecidableEq
instance:Dat TEdge:=Dat.via λx=>(x.a,x.b,x.left,x.right)
theorem TEdge.open_ {w:AD} {cs:List AU} {x:TEdge} {bs:List Nat} (h:Dat.at_ w cs x bs):cs=[RH K x.a,RH K x.b,RH K x.left,RH K x.right]/\bs=[]/\I64 x.a/\I64 x.b/\I64 x.left/\I64 x.right:=by
 obtain⟨p1,q1,u1,v1,rfl,rfl,b,E⟩:=h;obtain⟨rfl,rfl,w0⟩:=b;obtain⟨p2,q2,u2,v2,rfl,rfl,u,G⟩:=E;obtain⟨rfl,rfl,O⟩:=u;obtain⟨W,X,Y,Z,rfl,rfl,D,H⟩:=G;obtain⟨rfl,rfl,T⟩:=D;obtain⟨rfl,rfl,w3⟩:=H;exact⟨rfl,by first|rfl|(simp;done)|simp[GG],w0,O,T,w3⟩
theorem TEdge.shut {w:AD} {x:TEdge} (w0:I64 x.a) (h:I64 x.b) (w2:I64 x.left) (w3:I64 x.right):Dat.at_ w [RH K x.a,RH K x.b,RH K x.left,RH K x.right] x ([]):=by
 have b:Dat.at_ w _ x _:=⟨_,_,_,_,rfl,rfl,⟨rfl,rfl,w0⟩,⟨_,_,_,_,rfl,rfl,⟨rfl,rfl,h⟩,⟨_,_,_,_,rfl,rfl,⟨rfl,rfl,w2⟩,⟨rfl,rfl,w3⟩⟩⟩⟩
 first|exact b|(simpa using b)|simpa[GG]using b
theorem TEdge.agg {w:AD} {v:AU} {x:TEdge} {bs:List Nat} (h:Agg w v x bs):v=BJ #[RH K x.a,RH K x.b,RH K x.left,RH K x.right]/\bs=[]/\I64 x.a/\I64 x.b/\I64 x.left/\I64 x.right:=by
 obtain⟨D,rfl,h⟩:=h;obtain⟨rfl,rfl,w0,b,u,w3⟩:=TEdge.open_ h;exact⟨rfl,rfl,w0,b,u,w3⟩
theorem TEdge.mkAgg {w:AD} {x:TEdge} (w0:I64 x.a) (w1:I64 x.b) (w2:I64 x.left) (w3:I64 x.right):Agg w (BJ #[RH K x.a,RH K x.b,RH K x.left,RH K x.right]) x ([]) :=
 ⟨_,rfl,TEdge.shut w0 w1 w2 w3⟩
theorem TEdge.elemA {w:AD} {A:Option AJ} {n c:Nat} {xs:List TEdge} {bs:List Nat} (h:Sl w A n c xs bs) {k:Nat} (H:k<n) :
  ∃ (b off:Nat) (x:TEdge),A=QZ ⟨b,off,I⟩/\b<w.1.size/\xs[k]?=QZ x/\w.cell? ⟨b,off+k*4,I⟩=QZ (RH K x.a)/\w.cell? ⟨b,off+k*4+1,I⟩=QZ (RH K x.b)/\w.cell? ⟨b,off+k*4+2,I⟩=QZ (RH K x.left)/\w.cell? ⟨b,off+k*4+3,I⟩=QZ (RH K x.right)/\Agg w (BJ #[RH K x.a,RH K x.b,RH K x.left,RH K x.right]) x ([]):=by
 obtain⟨b,off,x,T,W,E,G,O,u,D,X⟩:=Sl.getAt h H;obtain⟨rfl,rfl,w0,Y,Z,w3⟩:=TEdge.open_ D;exact⟨b,off,x,E,G,O,u 0 _ rfl,u 1 _ rfl,u 2 _ rfl,u 3 _ rfl,_,rfl,D⟩

structure TMesh where
 points:List TPoint
 triangles:List TTri
 deriving DecidableEq
instance:Dat TMesh:=Dat.via λx=>(x.points,x.triangles)
theorem TMesh.open_ {w:AD} {cs:List AU} {x:TMesh} {bs:List Nat} (h:Dat.at_ w cs x bs):∃ (A0:Option AJ) (n0 c0:Nat) (s0:List Nat) (A1:Option AJ) (n1 c1:Nat) (s1:List Nat),cs=[S A0 n0 c0,S A1 n1 c1]/\bs=s0++(s1)/\Sl w A0 n0 c0 x.1 s0/\Sl w A1 n1 c1 x.triangles s1:=by
 obtain⟨p1,q1,u1,v1,rfl,rfl,b,u⟩:=h;obtain⟨A0,n0,c0,rfl,w0⟩:=b;obtain⟨A1,n1,c1,rfl,D⟩:=u;exact⟨_,_,_,_,_,_,_,_,rfl,by first|rfl|(simp;done)|simp[GG],w0,D⟩
theorem TMesh.shut {w:AD} {x:TMesh} {h:Option AJ} {G D:Nat} {H:List Nat} {u:Option AJ} {n1 E:Nat} {O:List Nat} (w0:Sl w h G D x.1 H) (T:Sl w u n1 E x.triangles O):Dat.at_ w [S h G D,S u n1 E] x (H++(O)):=by
 have b:Dat.at_ w _ x _:=⟨_,_,_,_,rfl,rfl,⟨_,_,_,rfl,w0⟩,⟨_,_,_,rfl,T⟩⟩
 first|exact b|(simpa using b)|simpa[GG]using b
theorem TMesh.agg {w:AD} {v:AU} {x:TMesh} {bs:List Nat} (h:Agg w v x bs):∃ (A0:Option AJ) (n0 c0:Nat) (s0:List Nat) (A1:Option AJ) (n1 c1:Nat) (s1:List Nat),v=BJ #[S A0 n0 c0,S A1 n1 c1]/\bs=s0++(s1)/\Sl w A0 n0 c0 x.1 s0/\Sl w A1 n1 c1 x.triangles s1:=by
 obtain⟨u,rfl,h⟩:=h;obtain⟨A0,n0,c0,s0,A1,n1,c1,s1,rfl,rfl,w0,b⟩:=TMesh.open_ h;exact⟨_,_,_,_,_,_,_,_,rfl,rfl,w0,b⟩
theorem TMesh.mkAgg {w:AD} {x:TMesh} {A0:Option AJ} {n0 c0:Nat} {s0:List Nat} {A1:Option AJ} {n1 c1:Nat} {s1:List Nat} (w0:Sl w A0 n0 c0 x.1 s0) (w1:Sl w A1 n1 c1 x.triangles s1):Agg w (BJ #[S A0 n0 c0,S A1 n1 c1]) x (s0++(s1)) :=
 ⟨_,rfl,TMesh.shut w0 w1⟩
structure TProblem where
 mesh:TMesh
 diffusion:List TRat
 source:List TRat
 deriving DecidableEq
instance:Dat TProblem:=Dat.via λx=>(x.mesh,x.diffusion,x.source)
theorem TProblem.open_ {w:AD} {cs:List AU} {x:TProblem} {bs:List Nat} (h:Dat.at_ w cs x bs):∃ (A0:Option AJ) (n0 c0:Nat) (s0:List Nat) (A1:Option AJ) (n1 c1:Nat) (s1:List Nat) (A2:Option AJ) (n2 c2:Nat) (s2:List Nat) (A3:Option AJ) (n3 c3:Nat) (s3:List Nat),cs=[S A0 n0 c0,S A1 n1 c1,S A2 n2 c2,S A3 n3 c3]/\bs=s0++(s1++(s2++(s3)))/\Sl w A0 n0 c0 x.1.1 s0/\Sl w A1 n1 c1 x.1.triangles s1/\Sl w A2 n2 c2 x.2 s2/\Sl w A3 n3 c3 x.3 s3:=by
 obtain⟨p1,q1,u1,v1,rfl,rfl,b,E⟩:=h;obtain⟨p2,q2,u2,v2,rfl,rfl,u,G⟩:=b;obtain⟨A0,n0,c0,rfl,w0⟩:=u;obtain⟨A1,n1,c1,rfl,O⟩:=G;obtain⟨W,X,Y,Z,rfl,rfl,D,H⟩:=E;obtain⟨A2,n2,c2,rfl,T⟩:=D;obtain⟨A3,n3,c3,rfl,w3⟩:=H;exact⟨_,_,_,_,_,_,_,_,_,_,_,_,_,_,_,_,rfl,by first|rfl|(simp;done)|simp[GG],w0,O,T,w3⟩
theorem TProblem.shut {w:AD} {x:TProblem} {h:Option AJ} {T G:Nat} {X:List Nat} {u:Option AJ} {n1 H:Nat} {Y:List Nat} {D:Option AJ} {n2 O:Nat} {Z:List Nat} {E:Option AJ} {W c3:Nat} {aa:List Nat} (w0:Sl w h T G x.1.1 X) (ab:Sl w u n1 H x.1.triangles Y) (w2:Sl w D n2 O x.2 Z) (w3:Sl w E W c3 x.3 aa):Dat.at_ w [S h T G,S u n1 H,S D n2 O,S E W c3] x (X++(Y++(Z++(aa)))):=by
 have b:Dat.at_ w _ x _:=⟨_,_,_,_,rfl,rfl,⟨_,_,_,_,rfl,rfl,⟨_,_,_,rfl,w0⟩,⟨_,_,_,rfl,ab⟩⟩,⟨_,_,_,_,rfl,rfl,⟨_,_,_,rfl,w2⟩,⟨_,_,_,rfl,w3⟩⟩⟩
 first|exact b|(simpa using b)|simpa[GG]using b
theorem TProblem.agg {w:AD} {v:AU} {x:TProblem} {bs:List Nat} (h:Agg w v x bs):∃ (A0:Option AJ) (n0 c0:Nat) (s0:List Nat) (A1:Option AJ) (n1 c1:Nat) (s1:List Nat) (A2:Option AJ) (n2 c2:Nat) (s2:List Nat) (A3:Option AJ) (n3 c3:Nat) (s3:List Nat),v=BJ #[S A0 n0 c0,S A1 n1 c1,S A2 n2 c2,S A3 n3 c3]/\bs=s0++(s1++(s2++(s3)))/\Sl w A0 n0 c0 x.1.1 s0/\Sl w A1 n1 c1 x.1.triangles s1/\Sl w A2 n2 c2 x.2 s2/\Sl w A3 n3 c3 x.3 s3:=by
 obtain⟨D,rfl,h⟩:=h;obtain⟨A0,n0,c0,s0,A1,n1,c1,s1,A2,n2,c2,s2,A3,n3,c3,s3,rfl,rfl,w0,b,u,w3⟩:=TProblem.open_ h;exact⟨_,_,_,_,_,_,_,_,_,_,_,_,_,_,_,_,rfl,rfl,w0,b,u,w3⟩
theorem TProblem.mkAgg {w:AD} {x:TProblem} {A0:Option AJ} {n0 c0:Nat} {s0:List Nat} {A1:Option AJ} {n1 c1:Nat} {s1:List Nat} {A2:Option AJ} {n2 c2:Nat} {s2:List Nat} {A3:Option AJ} {n3 c3:Nat} {s3:List Nat} (w0:Sl w A0 n0 c0 x.1.1 s0) (w1:Sl w A1 n1 c1 x.1.triangles s1) (w2:Sl w A2 n2 c2 x.2 s2) (w3:Sl w A3 n3 c3 x.3 s3):Agg w (BJ #[S A0 n0 c0,S A1 n1 c1,S A2 n2 c2,S A3 n3 c3]) x (s0++(s1++(s2++(s3)))) :=
 ⟨_,rfl,TProblem.shut w0 w1 w2 w3⟩
structure TRow where
 cols:List Int
 vals:List TRat
 deriving DecidableEq
instance:Dat TRow:=Dat.via λx=>(x.cols,x.vals)
theorem TRow.open_ {w:AD} {cs:List AU} {x:TRow} {bs:List Nat} (h:Dat.at_ w cs x bs):∃ (A0:Option AJ) (n0 c0:Nat) (s0:List Nat) (A1:Option AJ) (n1 c1:Nat) (s1:List Nat),cs=[S A0 n0 c0,S A1 n1 c1]/\bs=s0++(s1)/\Sl w A0 n0 c0 x.cols s0/\Sl w A1 n1 c1 x.vals s1:=by
 obtain⟨p1,q1,u1,v1,rfl,rfl,b,u⟩:=h;obtain⟨A0,n0,c0,rfl,w0⟩:=b;obtain⟨A1,n1,c1,rfl,D⟩:=u;exact⟨_,_,_,_,_,_,_,_,rfl,by first|rfl|(simp;done)|simp[GG],w0,D⟩
theorem TRow.shut {w:AD} {x:TRow} {h:Option AJ} {G D:Nat} {H:List Nat} {u:Option AJ} {n1 E:Nat} {O:List Nat} (w0:Sl w h G D x.cols H) (T:Sl w u n1 E x.vals O):Dat.at_ w [S h G D,S u n1 E] x (H++(O)):=by
 have b:Dat.at_ w _ x _:=⟨_,_,_,_,rfl,rfl,⟨_,_,_,rfl,w0⟩,⟨_,_,_,rfl,T⟩⟩
 first|exact b|(simpa using b)|simpa[GG]using b
theorem TRow.elem {w:AD} {A:Option AJ} {n c:Nat} {xs:List TRow} {bs:List Nat} (h:Sl w A n c xs bs) {k:Nat} (O:k<n) :
  ∃ (b off:Nat) (x:TRow) (A0:Option AJ) (n0 c0:Nat) (s0:List Nat) (A1:Option AJ) (n1 c1:Nat) (s1:List Nat),A=QZ ⟨b,off,I⟩/\b<w.1.size/\xs[k]?=QZ x/\w.cell? ⟨b,off+k*2,I⟩=QZ (S A0 n0 c0)/\w.cell? ⟨b,off+k*2+1,I⟩=QZ (S A1 n1 c1)/\Sl w A0 n0 c0 x.cols s0/\Sl w A1 n1 c1 x.vals s1/\∀ g∈(s0++(s1)),g∈bs:=by
 obtain⟨b,off,x,X,Y,D,G,T,u,E,H⟩:=Sl.getAt h O;obtain⟨A0,n0,c0,s0,A1,n1,c1,s1,rfl,rfl,w0,W⟩:=TRow.open_ E;exact⟨b,off,x,_,_,_,_,_,_,_,_,D,G,T,u 0 _ rfl,u 1 _ rfl,w0,W,H⟩
structure TMatrix where
 rows:List TRow
 deriving DecidableEq
instance:Dat TMatrix:=Dat.via λx=>x.rows
theorem TMatrix.open_ {w:AD} {cs:List AU} {x:TMatrix} {bs:List Nat} (h:Dat.at_ w cs x bs):∃ (A0:Option AJ) (n0 c0:Nat) (s0:List Nat),cs=[S A0 n0 c0]/\bs=s0/\Sl w A0 n0 c0 x.rows s0:=by
 obtain⟨A0,n0,c0,rfl,w0⟩:=h;exact⟨_,_,_,_,rfl,by first|rfl|(simp;done)|simp[GG],w0⟩
theorem TMatrix.shut {w:AD} {x:TMatrix} {h:Option AJ} {D u:Nat} {E:List Nat} (w0:Sl w h D u x.rows E):Dat.at_ w [S h D u] x (E):=by
 have b:Dat.at_ w _ x _:=⟨_,_,_,rfl,w0⟩
 first|exact b|(simpa using b)|simpa[GG]using b
theorem TMatrix.agg {w:AD} {v:AU} {x:TMatrix} {bs:List Nat} (h:Agg w v x bs):∃ (A0:Option AJ) (n0 c0:Nat) (s0:List Nat),v=BJ #[S A0 n0 c0]/\bs=s0/\Sl w A0 n0 c0 x.rows s0:=by
 obtain⟨b,rfl,h⟩:=h;obtain⟨A0,n0,c0,s0,rfl,rfl,w0⟩:=TMatrix.open_ h;exact⟨_,_,_,_,rfl,rfl,w0⟩
theorem TMatrix.mkAgg {w:AD} {x:TMatrix} {A0:Option AJ} {n0 c0:Nat} {s0:List Nat} (w0:Sl w A0 n0 c0 x.rows s0):Agg w (BJ #[S A0 n0 c0]) x (s0) :=
 ⟨_,rfl,TMatrix.shut w0⟩

structure TFactor where
 lower:List (List TRat)
 pivots:List TRat
 deriving DecidableEq
instance:Dat TFactor:=Dat.via λx=>(x.lower,x.pivots)
theorem TFactor.open_ {w:AD} {cs:List AU} {x:TFactor} {bs:List Nat} (h:Dat.at_ w cs x bs):∃ (A0:Option AJ) (n0 c0:Nat) (s0:List Nat) (A1:Option AJ) (n1 c1:Nat) (s1:List Nat),cs=[S A0 n0 c0,S A1 n1 c1]/\bs=s0++(s1)/\Sl w A0 n0 c0 x.lower s0/\Sl w A1 n1 c1 x.pivots s1:=by
 obtain⟨p1,q1,u1,v1,rfl,rfl,b,u⟩:=h;obtain⟨A0,n0,c0,rfl,w0⟩:=b;obtain⟨A1,n1,c1,rfl,D⟩:=u;exact⟨_,_,_,_,_,_,_,_,rfl,by first|rfl|(simp;done)|simp[GG],w0,D⟩
theorem TFactor.shut {w:AD} {x:TFactor} {h:Option AJ} {G D:Nat} {H:List Nat} {u:Option AJ} {n1 E:Nat} {O:List Nat} (w0:Sl w h G D x.lower H) (T:Sl w u n1 E x.pivots O):Dat.at_ w [S h G D,S u n1 E] x (H++(O)):=by
 have b:Dat.at_ w _ x _:=⟨_,_,_,_,rfl,rfl,⟨_,_,_,rfl,w0⟩,⟨_,_,_,rfl,T⟩⟩
 first|exact b|(simpa using b)|simpa[GG]using b
theorem TFactor.agg {w:AD} {v:AU} {x:TFactor} {bs:List Nat} (h:Agg w v x bs):∃ (A0:Option AJ) (n0 c0:Nat) (s0:List Nat) (A1:Option AJ) (n1 c1:Nat) (s1:List Nat),v=BJ #[S A0 n0 c0,S A1 n1 c1]/\bs=s0++(s1)/\Sl w A0 n0 c0 x.lower s0/\Sl w A1 n1 c1 x.pivots s1:=by
 obtain⟨u,rfl,h⟩:=h;obtain⟨A0,n0,c0,s0,A1,n1,c1,s1,rfl,rfl,w0,b⟩:=TFactor.open_ h;exact⟨_,_,_,_,_,_,_,_,rfl,rfl,w0,b⟩
theorem TFactor.mkAgg {w:AD} {x:TFactor} {A0:Option AJ} {n0 c0:Nat} {s0:List Nat} {A1:Option AJ} {n1 c1:Nat} {s1:List Nat} (w0:Sl w A0 n0 c0 x.lower s0) (w1:Sl w A1 n1 c1 x.pivots s1):Agg w (BJ #[S A0 n0 c0,S A1 n1 c1]) x (s0++(s1)) :=
 ⟨_,rfl,TFactor.shut w0 w1⟩
structure TIterate where
 x:List TRat
 r:List TRat
 p:List TRat
 deriving DecidableEq
instance:Dat TIterate:=Dat.via λx=>(x.x,x.r,x.p)
structure TFan where
 triangles:List Int
 spokes:List Int
 closed:Bool
 deriving DecidableEq
instance:Dat TFan:=Dat.via λx=>(x.triangles,x.spokes,x.closed)
theorem TFan.open_ {w:AD} {cs:List AU} {x:TFan} {bs:List Nat} (h:Dat.at_ w cs x bs):∃ (A0:Option AJ) (n0 c0:Nat) (s0:List Nat) (A1:Option AJ) (n1 c1:Nat) (s1:List Nat),cs=[S A0 n0 c0,S A1 n1 c1,J x.closed]/\bs=s0++(s1)/\Sl w A0 n0 c0 x.triangles s0/\Sl w A1 n1 c1 x.spokes s1:=by
 obtain⟨p1,q1,u1,v1,rfl,rfl,b,D⟩:=h;obtain⟨A0,n0,c0,rfl,w0⟩:=b;obtain⟨p2,q2,u2,v2,rfl,rfl,u,E⟩:=D;obtain⟨A1,n1,c1,rfl,G⟩:=u;obtain⟨rfl,rfl⟩:=E;exact⟨_,_,_,_,_,_,_,_,rfl,by first|rfl|(simp;done)|simp[GG],w0,G⟩
theorem TFan.shut {w:AD} {x:TFan} {h:Option AJ} {G D:Nat} {H:List Nat} {u:Option AJ} {n1 E:Nat} {O:List Nat} (w0:Sl w h G D x.triangles H) (T:Sl w u n1 E x.spokes O):Dat.at_ w [S h G D,S u n1 E,J x.closed] x (H++(O)):=by
 have b:Dat.at_ w _ x _:=⟨_,_,_,_,rfl,rfl,⟨_,_,_,rfl,w0⟩,⟨_,_,_,_,rfl,rfl,⟨_,_,_,rfl,T⟩,⟨rfl,rfl⟩⟩⟩
 first|exact b|(simpa using b)|simpa[GG]using b
theorem TFan.agg {w:AD} {v:AU} {x:TFan} {bs:List Nat} (h:Agg w v x bs):∃ (A0:Option AJ) (n0 c0:Nat) (s0:List Nat) (A1:Option AJ) (n1 c1:Nat) (s1:List Nat),v=BJ #[S A0 n0 c0,S A1 n1 c1,J x.closed]/\bs=s0++(s1)/\Sl w A0 n0 c0 x.triangles s0/\Sl w A1 n1 c1 x.spokes s1:=by
 obtain⟨u,rfl,h⟩:=h;obtain⟨A0,n0,c0,s0,A1,n1,c1,s1,rfl,rfl,w0,b⟩:=TFan.open_ h;exact⟨_,_,_,_,_,_,_,_,rfl,rfl,w0,b⟩
theorem TFan.mkAgg {w:AD} {x:TFan} {A0:Option AJ} {n0 c0:Nat} {s0:List Nat} {A1:Option AJ} {n1 c1:Nat} {s1:List Nat} (w0:Sl w A0 n0 c0 x.triangles s0) (w1:Sl w A1 n1 c1 x.spokes s1):Agg w (BJ #[S A0 n0 c0,S A1 n1 c1,J x.closed]) x (s0++(s1)) :=
 ⟨_,rfl,TFan.shut w0 w1⟩
structure TGoal where
 value:TRat
 square:TRat
 deriving DecidableEq
instance:Dat TGoal:=Dat.via λx=>(x.value,x.square)
structure TReport where
 triangles:Int
 energy:TRat
 bound:TRat
 deriving DecidableEq
instance:Dat TReport:=Dat.via λx=>(x.triangles,x.energy,x.bound)
structure TState where
 problem:TProblem
 part:TRat
 reports:List TReport
 deriving DecidableEq
instance:Dat TState:=Dat.via λx=>(x.problem,x.part,x.reports)
structure TConsole where
 text:ByteArray
 state:TState
 deriving DecidableEq
instance:Dat TConsole:=Dat.via λx=>(x.text,x.state)
end Go.XB

namespace Go.XB
open Go.RowKit

theorem Sl.getInt {w:AD} {A:Option AJ} {n c:Nat} {xs:List Int} {bs:List Nat} (h:Sl w A n c xs bs) {k:Nat} (af:k<n) :
  ∃ b off x,A=QZ ⟨b,off,I⟩/\b<w.1.size/\xs[k]?=QZ x/\I64 x/\w.cell? ⟨b,off+k,I⟩=QZ (RH K x):=by
 obtain⟨aa,ab,ac,ad,E⟩:=h;obtain⟨b,off,u,G,ae,ag,H,W⟩:=E oS;have D:xs[k]?=QZ (xs[k]'oS):=DU oS;have X:u[k]?=QZ (u[k]'oS):=DU oS;obtain⟨Z,O,T,_,Y⟩:=W k _ _ D X;refine⟨b,off,_,G,H,D,Y,?_⟩;have:=O 0 (RH K (xs[k]'oS)) (by rw[T];rfl);simpa[Dat.sz]using this

theorem B0r {α:Type} {xs ys:List α} {k:Nat} {x y:α} (b:xs[k]?=QZ x) (u:ys[k]?=QZ y) (h:xs.take k=ys.take k) (e:x=y):xs.take (k+1)=ys.take (k+1):=by
 rw[QN,QN,b,u,h,e]
theorem D9g {α:Type} {xs ys:List α} {k:Nat} {x y:α} (h:xs[k]?=QZ x) (b:ys[k]?=QZ y) (e:x≠y):xs≠ys:=by
 rintro rfl;rw[h]at b;exact e (Option.some.inj b)
theorem B2g {α:Type} {xs ys:List α} {n k:Nat} (b:xs.length=n) (u:ys.length=n) (D:n<=k) (h:xs.take k=ys.take k):xs=ys:=by
 rwa [DT oS,DT oS]at h
theorem A_ {p:Prop} (h:p):Hid p:=h
theorem _root_.Go.RowKit.Hid.o {p:Prop} (h:Hid p):p:=h
theorem Q_ {a b:Bool} (h:a=b):Ending.returned (J a)=.returned (J b):=by rw[h]
theorem A1x {k:IntKind} {a b:Int} (h:a=b):Ending.returned (RH k a)=.returned (RH k b):=by rw[h]
theorem below_drewN (w:AD) (m:Nat):FC w.1.size w (w.drewN m):=⟨rfl,rfl,rfl,CE _,λ_ _=>rfl⟩

theorem F_ {W w1:AD} (hb:FC W.1.size W w1):(∀ b o,b<W.1.size->w1.cell? ⟨b,o,I⟩=W.cell? ⟨b,o,I⟩)/\(∀ b o,b<W.1.size->w1.frozen? ⟨b,o,I⟩=W.frozen? ⟨b,o,I⟩) :=
 ⟨λb o h=>hb.cell (p:=⟨b,o,I⟩) h,λb o h=>hb.frozen (p:=⟨b,o,I⟩) h⟩

abbrev _root_.Go.RowKit.Bw (w W:AD):=FC w.1.size w W
theorem Below.next {w W W':AD} (h:FC w.1.size w W) (h':FC W.1.size W W'):FC w.1.size w W':=h.trans (h'.mono h.size)
theorem Below.box {w:AD} (o:Obj):FC w.1.size w (w.alloc o):=(Below.refl _ _).alloc (CE _) _
theorem Below.set {w W:AD} (h:FC w.1.size w W) {p:AJ} (hp:w.1.size<=p.block) (u:AU):FC w.1.size w (W.setCell p u):=h.setCell hp u
theorem Below.box_ {w W:AD} (h:FC w.1.size w W) (o:Obj):FC w.1.size w (W.alloc o):=h.alloc h.size o

structure Above (lo:Nat) (w w':AD):Prop where
 size:w.1.size<=w'.1.size
 block:∀ g,lo<=g->g<w.1.size->w'.1[g]?=w.1[g]?
theorem Above.refl (lo:Nat) (w:AD):Above lo w w:=⟨CE _,λ_ _ _=>rfl⟩
theorem Above.trans {lo:Nat} {a b c:AD} (h:Above lo a b) (k:Above lo b c):Above lo a c :=
 ⟨CJ h.size k.size,λg h1 h2=>(k.block g h1 (Nat.lt_of_lt_of_le h2 h.size)).trans (h.block g h1 h2)⟩
theorem Above.below {lo:Nat} {w W W':AD} (h:Above lo w W) (hb:FC W.1.size W W'):Above lo w W' :=
 h.trans ⟨hb.size,λg _ h2=>hb.block g h2⟩
theorem Above.set {lo:Nat} {w W:AD} (h:Above lo w W) {p:AJ} (hp:p.block<lo) (u:AU):Above lo w (W.setCell p u) :=
 h.trans ⟨by simp[World.setCell],λg h1 _=>Below.heap_setCell W p u g oS⟩
theorem _root_.sI {p:Prop} (h:p:=by simp):p:=h
theorem Above.box {lo:Nat} {w W:AD} (h:Above lo w W) (o:Obj):Above lo w (W.alloc o) :=
 h.trans ⟨sI,λg _ h2=>Below.heap_alloc W o g h2⟩
theorem Below.go {n:Nat} {w W:World} (h:Below n w W:=by with_reducible repeat first|exact Below.refl _ _|(refine Below.set ?_ ?_ _;rotate_left;(simp<;>omega))|refine Below.box_ ?_ _|refine Below.next ?_ (by assumption)):Below n w W:=h
theorem Above.go {n:Nat} {w W:World} (h:Above n w W:=by with_reducible repeat first|exact Above.refl _ _|(refine Above.set ?_ ?_ _;rotate_left;(simp<;>omega))|refine Above.box ?_ _|refine Above.below ?_ (by assumption)):Above n w W:=h
theorem ltg {n a:Nat} {W U:World} (h:Below n W U) (ha:a<W.1.size:=by(try simp)<;>omega):a<U.1.size:=Nat.lt_of_lt_of_le ha h.size
theorem Own.above {w0 w w':AD} {lo:Nat} {bs:List Nat} (h:Own w0 w bs) (ha:Above lo w w') (hl:lo<=w0.1.size):Own w0 w' bs :=
 ⟨h.1,λb hm=>⟨(h.2 b hm).1,by obtain⟨cs,t,e⟩:=(h.2 b hm).2;exact⟨cs,t,(ha.block b (CJ hl (h.2 b hm).1) (E_ e)).trans e⟩⟩⟩
theorem Sl.above {α:Type} [Dat α] {w0 w w':AD} {lo:Nat} {A:Option AJ} {n c:Nat} {xs:List α} {bs:List Nat} (h:Sl w A n c xs bs) (ho:Own w0 w bs) (ha:Above lo w w') (hl:lo<=w0.1.size):Sl w' A n c xs bs :=
 h.keep λg hg=>ha.block g (CJ hl (ho.2 g hg).1) (h.lt g hg)
theorem take_step {α:Type} {xs:List α} {k:Nat} {x:α} (h:xs[k]?=QZ x):xs.take (k+1)=xs.take k++[x]:=by
 rw[QN,h];rfl

theorem B3m (k:Nat):RH K ((k:Int)+1)=RH K ((k+1:Nat):Int):=rfl
theorem V_ {k n:Nat} (h:k<n):n - (intOf (RH K ((k:Int)+1))).toNat<n - (intOf (RH K (k:Int))).toNat:=by
 simp[intOf];omega

end Go.XB

namespace Go.XB
open Go.RowKit

def Filled {α:Type} [Dat α] (w:AD) (cells:List AU) (xs:List α) (fss:List (List Nat)):Prop :=
 fss.length=xs.length/\xs.length*Dat.sz α<=cells.length/\∀ k x fs,xs[k]?=QZ x->fss[k]?=QZ fs->Dat.at_ w ((cells.drop (k*Dat.sz α)).take (Dat.sz α)) x fs

section
variable {α:Type} [Dat α] {w w':AD} {cells:List AU} {xs:List α} {fss:List (List Nat)}

theorem Filled.nil (w:AD) (cells:List AU):Filled (α:=α) w cells [] []:=⟨rfl,sI,λk x fs h=>by simp at h⟩

theorem Filled.lt (h:Filled w cells xs fss):∀ g∈fss.flatten,g<w.1.size:=by
 intro g b;obtain⟨D,E,b⟩:=LG.1 b;obtain⟨k,u⟩:=KE.1 E;have G:k<xs.length:=by rw[<-h.1];exact(DM.1 u).1
 exact Dat.lt (h.2.2 k _ D (DU G) u) g b

theorem Filled.keep (h:Filled w cells xs fss) (hk:∀ g∈fss.flatten,w'.1[g]?=w.1[g]?):Filled w' cells xs fss :=
 ⟨h.1,h.2.1,λk x fs hx hf=>Dat.keep (h.2.2 k x fs hx hf) λg hg=>hk g (LG.2 ⟨fs,DH hf,hg⟩)⟩

theorem Filled.below (h:Filled w cells xs fss) (hb:FC w.1.size w w'):Filled w' cells xs fss:=h.keep λg hg=>hb.block g (h.lt g hg)

def B3r (cells:List AU) (i:Nat):List AU->List AU
 | []=>cells
 |c::cs=>B3r (cells.set i c) (i+1) cs

theorem B5p:∀ (cs cells:List AU) (i:Nat),(B3r cells i cs).length=cells.length
 | [],_,_=>rfl
 |c::cs,cells,i=>by rw[B3r,B5p cs];simp

theorem _root_.oR {p:Prop} (h:p:=by simp;omega):p:=h
theorem getElem?_setFrom:∀ (cs cells:List AU) (i j:Nat),i+cs.length<=cells.length->(B3r cells i cs)[j]?=if i<=j/\j<i+cs.length then cs[j - i]? else cells[j]?
 | [],cells,i,j,_=>by simp[B3r];intro h1 h2;omega
 |c::cs,cells,i,j,h=>by
  simp only[List.length_cons]at h ⊢
  rw[B3r,getElem?_setFrom cs (cells.set i c) (i+1) j oR]
  by_cases h1:i+1<=j/\j<i+1+cs.length
  ·rw[if_pos h1,if_pos oS]
   rw[show j - i=(j - (i+1))+1 by omega]
   simp
  rw[if_neg h1]
  by_cases h2:j=i
  ·subst h2
   rw[if_pos oS]
   simp[show j<cells.length by omega]
  rw[if_neg oS,List.getElem?_set_ne oS]

theorem B0l {l:List AU} {i m:Nat} {cs:List AU} (h:∀ j,j<m->l[i+j]?=cs[j]?) (u:cs.length=m):(l.drop i).take m=cs:=by
 apply List.ext_getElem?;intro j;by_cases b:j<m;·rw[JM,if_pos b,OJ,h j b]
 rw[ML oR,ML oS]

theorem Filled.push (h:Filled w cells xs fss) (O:cells.length=xs.length*Dat.sz α) {x:α} {D:List Nat} {cs:List AU} (G:Dat.at_ w cs x D) :
  Filled w (cells++cs) (xs++[x]) (fss++[D]):=by
 obtain⟨E,Z,T⟩:=h;have W:=Dat.len G;have Y:(xs.length+1)*Dat.sz α=xs.length*Dat.sz α+Dat.sz α:=by rw[MW,KL]
 have ab:0<Dat.sz α:=Dat.pos;refine⟨by simp[E],by simp[Y,O,W],λk y gs u b=>?_⟩;by_cases H:k<xs.length
 ·rw[LD H]at u
  rw[LD oS]at b;have aa:k*Dat.sz α+Dat.sz α<=xs.length*Dat.sz α:=by rw[<-Nat.succ_mul];exact MN _ H
  have:=T k y gs u b;rw[List.drop_append_of_le_length oS,List.take_append_of_le_length oR];exact this
 have X:k=xs.length:=by have:=(DM.1 u).1;simp at this;omega
 subst X;simp at u;rw[<-E]at b;simp at b;subst u;subst b;rw[<-O,List.drop_append_of_le_length (CE _),List.drop_length,List.nil_append,DT oS];exact G

theorem Filled.sl {base n:Nat} {e:TypeId} {v:AU} (h:Filled w cells xs fss) (O:w.ownsRow base e (Dat.sz α) v n cells) (u:xs.length=n) :
  ∃ A c bs,v=S A n c/\Sl w A n c xs bs/\((n=0/\bs=[])\/∃ g,v.ownBlock=QZ g/\bs=g::fss.flatten/\base<=g/\∃ cs t,w.1[g]?=QZ (.cells cs t (0,0))):=by
 rcases O.2 with⟨rfl,rfl⟩|⟨g,cap,ad,rfl,Y,G,H,E,ae,ag⟩;·have ac:xs=[]:=List.eq_nil_of_length_eq_zero u;subst ac;exact⟨I,0,[],rfl,Sl.nil w,.inl ⟨rfl,rfl⟩⟩
 rcases IG n with D|D;·subst D;exact⟨_,_,[],rfl,⟨u,H,E,λ_=>rfl,λh=>absurd h oS⟩,.inl ⟨rfl,rfl⟩⟩
 refine⟨_,_,g::fss.flatten,rfl,⟨u,H,E,λh=>absurd h oS,λ_=>⟨g,0,fss,rfl,rfl,h.1,E_ G,λk x W T Z=>?_⟩⟩,.inr ⟨g,rfl,rfl,Y,_,_,G⟩⟩;have X:=h.2.2 k x W T Z;refine⟨_,λj ah b=>?_,X⟩;rw[JM]at b;split at b
 ·rename_i af
  rw[OJ]at b;rw[Nat.zero_add];have aa:k<n:=by rw[<-u];exact(DM.1 T).1
  have ab:k*Dat.sz α+j<n*Dat.sz α:=by have:(k+1)*Dat.sz α<=n*Dat.sz α:=MN _ aa;rw[MW,KL]at this;omega
  rw[World.ownsRow.cellAt O _ ab];exact b
 cases b

theorem B7v {w0:AD} {bs:List Nat} {n:Nat} (h:(n=0/\bs=[])\/∃ g,bs=g::fss.flatten/\w0.1.size<=g/\(∃ cs t,w.1[g]?=QZ (.cells cs t (0,0)))/\g∉fss.flatten) (u:Own w0 w fss.flatten):Own w0 w bs:=by
 rcases h with⟨_,rfl⟩|⟨g,rfl,G,E,H⟩;·exact Own.nil _ _
 exact⟨List.nodup_cons.2 ⟨H,u.1⟩,λD b=>by
  rcases JH.1 b with rfl|b;·exact⟨G,E⟩
  exact u.2 D b⟩
end

theorem Filled.ints {w:AD} {cells:List AU} {xs:List Int} (h:cells.take xs.length=xs.map (RH K)) (hi:∀ x∈xs,I64 x) (T:xs.length<=cells.length):Filled w cells xs (DK xs.length []):=by
 refine⟨sI,by simpa[Dat.sz]using T,λk x G b u=>?_⟩;have E:=(DM.1 b).1;have O:G=[]:=by rw[List.getElem?_replicate,if_pos E]at u;exact(Option.some.inj u).symm
 refine⟨?_,O,hi x (DH b)⟩;have H:cells[k]?=QZ (RH K x):=by have:=congrArg (λl=>l[k]?) h;simp only[JM,E,if_true,List.getElem?_map,b,Option.map_some]at this;exact this
 exact B0l (λj D=>by
  have:j=0:=by simp[Dat.sz]at D;exact D
  subst this;simpa[Dat.sz]using H) rfl

theorem B0k (n:Nat):(DK n ([]:List Nat)).flatten=[]:=by
 induction n with
 |zero=>rfl
 |succ n ih=>rw[List.replicate_succ,List.flatten_cons,ih];rfl

end Go.XB

namespace Go.XB
def E7c {α:Type} (f:α->Nat) (l:List α):Nat:=l.length+(l.map f).sum
def TBigInt.cnt (x:TBigInt):Nat:=x.mag.length
def TRat.cnt (x:TRat):Nat:=x.1.cnt+x.2.length
def TPoint.cnt (x:TPoint):Nat:=x.x.cnt+x.y.cnt
def TMesh.cnt (x:TMesh):Nat:=E7c TPoint.cnt x.1+x.triangles.length
def TProblem.cnt (x:TProblem):Nat:=x.1.cnt+E7c TRat.cnt x.2+E7c TRat.cnt x.3
def TGoal.cnt (x:TGoal):Nat:=x.value.cnt+x.square.cnt
def TReport.cnt (x:TReport):Nat:=x.energy.cnt+x.bound.cnt
def TState.cnt (x:TState):Nat:=x.problem.cnt+x.part.cnt+E7c TReport.cnt x.reports
end Go.XB
namespace Go.Proofs.YtjcanieccnljfaaGreat.X
open Go.RowKit Go.XB

end Go.Proofs.YtjcanieccnljfaaGreat.X

namespace Go.XB
open Go.RowKit

def B9t (w:AD) (g i:Nat):List AU->AD
 | []=>w
 |c::cs=>B9t (w.setCell ⟨g,i,I⟩ c) g (i+1) cs

theorem I_ {w w':AD} {base:Nat} {e:TypeId} {size:Nat} {v:AU} {n:Nat} {xs:List AU} (h:w.ownsRow base e size v n xs) (hb:FC w.1.size w w'):w'.ownsRow base e size v n xs :=
 h.kept (row:=I) ⟨hb.os,hb.tape,hb.output,hb.size,λk hk _=>hb.block k hk⟩ (by cases hv:v.ownBlock<;>simp)

theorem A0m (g:Nat):∀ (cs:List AU) (w:AD) (i k:Nat),k≠g->(B9t w g i cs).1[k]?=w.1[k]?
 | [],_,_,_,_=>rfl
 |c::cs,w,i,k,h=>(A0m g cs _ (i+1) k h).trans (Below.heap_setCell w ⟨g,i,I⟩ c k h)

theorem A7d (g:Nat):∀ (cs:List AU) (w:AD) (i:Nat),(B9t w g i cs).1.size=w.1.size
 | [],_,_=>rfl
 |c::cs,w,i=>by rw[B9t,A7d g cs];simp[World.setCell]

end Go.XB

namespace Go.XB
open Go.RowKit

structure TAround where
 m:TMesh
 edges:List TEdge
 v:Int
 list:List Int
 deriving DecidableEq
instance:Dat TAround:=Dat.via λx=>(x.m,x.edges,x.v,x.list)
theorem TAround.open_ {w:AD} {cs:List AU} {x:TAround} {bs:List Nat} (h:Dat.at_ w cs x bs):∃ (A0:Option AJ) (n0 c0:Nat) (s0:List Nat) (A1:Option AJ) (n1 c1:Nat) (s1:List Nat) (A2:Option AJ) (n2 c2:Nat) (s2:List Nat) (A4:Option AJ) (n4 c4:Nat) (s4:List Nat),cs=[S A0 n0 c0,S A1 n1 c1,S A2 n2 c2,RH K x.v,S A4 n4 c4]/\bs=s0++(s1++(s2++(s4)))/\Sl w A0 n0 c0 x.m.1 s0/\Sl w A1 n1 c1 x.m.triangles s1/\Sl w A2 n2 c2 x.edges s2/\I64 x.v/\Sl w A4 n4 c4 x.list s4:=by
 obtain⟨p1,q1,u1,v1,rfl,rfl,b,G⟩:=h;obtain⟨p2,q2,u2,v2,rfl,rfl,u,H⟩:=b;obtain⟨A0,n0,c0,rfl,w0⟩:=u;obtain⟨A1,n1,c1,rfl,W⟩:=H;obtain⟨Z,ab,ad,af,rfl,rfl,D,O⟩:=G;obtain⟨A2,n2,c2,rfl,X⟩:=D;obtain⟨aa,ac,ae,ag,rfl,rfl,E,T⟩:=O;obtain⟨rfl,rfl,w3⟩:=E;obtain⟨A4,n4,c4,rfl,Y⟩:=T;exact⟨_,_,_,_,_,_,_,_,_,_,_,_,_,_,_,_,rfl,by first|rfl|(simp;done)|simp[GG],w0,W,X,w3,Y⟩
theorem TAround.shut {w:AD} {x:TAround} {h:Option AJ} {W G:Nat} {Y:List Nat} {u:Option AJ} {n1 H:Nat} {Z:List Nat} {D:Option AJ} {n2 O:Nat} {aa:List Nat} {E:Option AJ} {X T:Nat} {ab:List Nat} (w0:Sl w h W G x.m.1 Y) (ac:Sl w u n1 H x.m.triangles Z) (w2:Sl w D n2 O x.edges aa) (w3:I64 x.v) (ad:Sl w E X T x.list ab):Dat.at_ w [S h W G,S u n1 H,S D n2 O,RH K x.v,S E X T] x (Y++(Z++(aa++(ab)))):=by
 have b:Dat.at_ w _ x _:=⟨_,_,_,_,rfl,rfl,⟨_,_,_,_,rfl,rfl,⟨_,_,_,rfl,w0⟩,⟨_,_,_,rfl,ac⟩⟩,⟨_,_,_,_,rfl,rfl,⟨_,_,_,rfl,w2⟩,⟨_,_,_,_,rfl,rfl,⟨rfl,rfl,w3⟩,⟨_,_,_,rfl,ad⟩⟩⟩⟩
 first|exact b|(simpa using b)|simpa[GG]using b
theorem TAround.agg {w:AD} {v:AU} {x:TAround} {bs:List Nat} (h:Agg w v x bs):∃ (A0:Option AJ) (n0 c0:Nat) (s0:List Nat) (A1:Option AJ) (n1 c1:Nat) (s1:List Nat) (A2:Option AJ) (n2 c2:Nat) (s2:List Nat) (A4:Option AJ) (n4 c4:Nat) (s4:List Nat),v=BJ #[S A0 n0 c0,S A1 n1 c1,S A2 n2 c2,RH K x.v,S A4 n4 c4]/\bs=s0++(s1++(s2++(s4)))/\Sl w A0 n0 c0 x.m.1 s0/\Sl w A1 n1 c1 x.m.triangles s1/\Sl w A2 n2 c2 x.edges s2/\I64 x.v/\Sl w A4 n4 c4 x.list s4:=by
 obtain⟨E,rfl,h⟩:=h;obtain⟨A0,n0,c0,s0,A1,n1,c1,s1,A2,n2,c2,s2,A4,n4,c4,s4,rfl,rfl,w0,b,u,w3,D⟩:=TAround.open_ h;exact⟨_,_,_,_,_,_,_,_,_,_,_,_,_,_,_,_,rfl,rfl,w0,b,u,w3,D⟩
theorem TAround.mkAgg {w:AD} {x:TAround} {A0:Option AJ} {n0 c0:Nat} {s0:List Nat} {A1:Option AJ} {n1 c1:Nat} {s1:List Nat} {A2:Option AJ} {n2 c2:Nat} {s2:List Nat} {A4:Option AJ} {n4 c4:Nat} {s4:List Nat} (w0:Sl w A0 n0 c0 x.m.1 s0) (w1:Sl w A1 n1 c1 x.m.triangles s1) (w2:Sl w A2 n2 c2 x.edges s2) (w3:I64 x.v) (w4:Sl w A4 n4 c4 x.list s4):Agg w (BJ #[S A0 n0 c0,S A1 n1 c1,S A2 n2 c2,RH K x.v,S A4 n4 c4]) x (s0++(s1++(s2++(s4)))) :=
 ⟨_,rfl,TAround.shut w0 w1 w2 w3 w4⟩
structure TSolved where
 u:List TRat
 indicators:List TRat
 bound:TRat
 deriving DecidableEq
instance:Dat TSolved:=Dat.via λx=>(x.u,x.indicators,x.bound)
structure TPiece where
 list:List TPoint
 b:TPoint
 c:TPoint
 area:TRat
 k:TRat
 grad:TPoint
 own:TPoint
 f:TRat
 deriving DecidableEq
instance:Dat TPiece:=Dat.via λx=>(x.list,x.b,x.c,x.area,x.k,x.grad,x.own,x.f)
theorem TPiece.agg {w:AD} {v:AU} {x:TPiece} {bs:List Nat} (h:Agg w v x bs):∃ (A0:Option AJ) (nA0 cA0:Nat) (sA:List Nat) (B1:Option AJ) (nB1 cB1:Nat) (B2:Option AJ) (nB2 cB2:Nat) (B4:Option AJ) (nB4 cB4:Nat) (B5:Option AJ) (nB5 cB5:Nat) (sB:List Nat) (C1:Option AJ) (nC1 cC1:Nat) (C2:Option AJ) (nC2 cC2:Nat) (C4:Option AJ) (nC4 cC4:Nat) (C5:Option AJ) (nC5 cC5:Nat) (sC:List Nat) (D1:Option AJ) (nD1 cD1:Nat) (D2:Option AJ) (nD2 cD2:Nat) (sD:List Nat) (E1:Option AJ) (nE1 cE1:Nat) (E2:Option AJ) (nE2 cE2:Nat) (sE:List Nat) (F1:Option AJ) (nF1 cF1:Nat) (F2:Option AJ) (nF2 cF2:Nat) (F4:Option AJ) (nF4 cF4:Nat) (F5:Option AJ) (nF5 cF5:Nat) (sF:List Nat) (G1:Option AJ) (nG1 cG1:Nat) (G2:Option AJ) (nG2 cG2:Nat) (G4:Option AJ) (nG4 cG4:Nat) (G5:Option AJ) (nG5 cG5:Nat) (sG:List Nat) (H1:Option AJ) (nH1 cH1:Nat) (H2:Option AJ) (nH2 cH2:Nat) (sH:List Nat),v=BJ #[S A0 nA0 cA0,J x.b.x.1.1,S B1 nB1 cB1,S B2 nB2 cB2,J x.b.y.1.1,S B4 nB4 cB4,S B5 nB5 cB5,J x.c.x.1.1,S C1 nC1 cC1,S C2 nC2 cC2,J x.c.y.1.1,S C4 nC4 cC4,S C5 nC5 cC5,J x.area.1.1,S D1 nD1 cD1,S D2 nD2 cD2,J x.k.1.1,S E1 nE1 cE1,S E2 nE2 cE2,J x.grad.x.1.1,S F1 nF1 cF1,S F2 nF2 cF2,J x.grad.y.1.1,S F4 nF4 cF4,S F5 nF5 cF5,J x.own.x.1.1,S G1 nG1 cG1,S G2 nG2 cG2,J x.own.y.1.1,S G4 nG4 cG4,S G5 nG5 cG5,J x.f.1.1,S H1 nH1 cH1,S H2 nH2 cH2]/\bs=sA++(sB++(sC++(sD++(sE++(sF++(sG++(sH)))))))/\Sl w A0 nA0 cA0 x.list sA/\Agg w (BJ #[J x.b.x.1.1,S B1 nB1 cB1,S B2 nB2 cB2,J x.b.y.1.1,S B4 nB4 cB4,S B5 nB5 cB5]) x.b sB/\Agg w (BJ #[J x.c.x.1.1,S C1 nC1 cC1,S C2 nC2 cC2,J x.c.y.1.1,S C4 nC4 cC4,S C5 nC5 cC5]) x.c sC/\Agg w (BJ #[J x.area.1.1,S D1 nD1 cD1,S D2 nD2 cD2]) x.area sD/\Agg w (BJ #[J x.k.1.1,S E1 nE1 cE1,S E2 nE2 cE2]) x.k sE/\Agg w (BJ #[J x.grad.x.1.1,S F1 nF1 cF1,S F2 nF2 cF2,J x.grad.y.1.1,S F4 nF4 cF4,S F5 nF5 cF5]) x.grad sF/\Agg w (BJ #[J x.own.x.1.1,S G1 nG1 cG1,S G2 nG2 cG2,J x.own.y.1.1,S G4 nG4 cG4,S G5 nG5 cG5]) x.own sG/\Agg w (BJ #[J x.f.1.1,S H1 nH1 cH1,S H2 nH2 cH2]) x.f sH:=by
 obtain⟨ac,rfl,h⟩:=h;obtain⟨ad,ai,sA,an,rfl,rfl,T,W⟩:=h;obtain⟨A0,nA0,cA0,rfl,w0⟩:=T;obtain⟨p1,q1,sB,v1,rfl,rfl,b,X⟩:=W;obtain⟨B1,nB1,cB1,_,B2,nB2,cB2,_,B4,nB4,cB4,_,B5,nB5,cB5,_,rfl,_⟩:=TPoint.open_ b;obtain⟨p2,q2,sC,v2,rfl,rfl,u,Y⟩:=X;obtain⟨C1,nC1,cC1,_,C2,nC2,cC2,_,C4,nC4,cC4,_,C5,nC5,cC5,_,rfl,_⟩:=TPoint.open_ u;obtain⟨ae,aj,sD,ao,rfl,rfl,D,Z⟩:=Y;obtain⟨D1,nD1,cD1,_,D2,nD2,cD2,_,rfl,_⟩:=TRat.open_ D;obtain⟨af,ak,sE,ap,rfl,rfl,E,aa⟩:=Z;obtain⟨E1,nE1,cE1,_,E2,nE2,cE2,_,rfl,_⟩:=TRat.open_ E;obtain⟨ag,al,sF,aq,rfl,rfl,G,ab⟩:=aa;obtain⟨F1,nF1,cF1,_,F2,nF2,cF2,_,F4,nF4,cF4,_,F5,nF5,cF5,_,rfl,_⟩:=TPoint.open_ G;obtain⟨ah,am,sG,ar,rfl,rfl,H,O⟩:=ab;obtain⟨G1,nG1,cG1,_,G2,nG2,cG2,_,G4,nG4,cG4,_,G5,nG5,cG5,_,rfl,_⟩:=TPoint.open_ H;obtain⟨H1,nH1,cH1,_,H2,nH2,cH2,_,rfl,_⟩:=TRat.open_ O;exact⟨_,_,_,_,_,_,_,_,_,_,_,_,_,_,_,_,_,_,_,_,_,_,_,_,_,_,_,_,_,_,_,_,_,_,_,_,_,_,_,_,_,_,_,_,_,_,_,_,_,_,_,_,_,_,_,_,_,_,_,_,_,_,_,_,_,_,_,_,_,_,_,_,_,_,_,_,_,rfl,rfl,w0,⟨_,rfl,b⟩,⟨_,rfl,u⟩,⟨_,rfl,D⟩,⟨_,rfl,E⟩,⟨_,rfl,G⟩,⟨_,rfl,H⟩,⟨_,rfl,O⟩⟩
theorem TPiece.shut {w:AD} {x:TPiece} {G:Option AJ} {aP ap:Nat} {be:List Nat} {H:Option AJ} {aQ aq:Nat} {O:Option AJ} {aR ar:Nat} {T:Option AJ} {aS au:Nat} {W:Option AJ} {aT aw:Nat} {bf:List Nat} {X:Option AJ} {aU ax:Nat} {Y:Option AJ} {aV ay:Nat} {Z:Option AJ} {aW az:Nat} {aa:Option AJ} {aX aA:Nat} {bg:List Nat} {ab:Option AJ} {aY aB:Nat} {ac:Option AJ} {aZ aC:Nat} {bh:List Nat} {ad:Option AJ} {a1 aD:Nat} {ae:Option AJ} {a2 aE:Nat} {bi:List Nat} {af:Option AJ} {a3 aF:Nat} {ag:Option AJ} {a4 aG:Nat} {ah:Option AJ} {a5 aH:Nat} {ai:Option AJ} {a6 aI:Nat} {sF:List Nat} {aj:Option AJ} {a7 aJ:Nat} {ak:Option AJ} {a8 aK:Nat} {al:Option AJ} {a9 aL:Nat} {am:Option AJ} {ba aM:Nat} {bj:List Nat} {an:Option AJ} {bc aN:Nat} {ao:Option AJ} {bd aO:Nat} {bk:List Nat} (w0:Sl w G aP ap x.list be) (bt:Agg w (BJ #[J x.b.x.1.1,S H aQ aq,S O aR ar,J x.b.y.1.1,S T aS au,S W aT aw]) x.b bf) (w2:Agg w (BJ #[J x.c.x.1.1,S X aU ax,S Y aV ay,J x.c.y.1.1,S Z aW az,S aa aX aA]) x.c bg) (w3:Agg w (BJ #[J x.area.1.1,S ab aY aB,S ac aZ aC]) x.area bh) (bu:Agg w (BJ #[J x.k.1.1,S ad a1 aD,S ae a2 aE]) x.k bi) (bv:Agg w (BJ #[J x.grad.x.1.1,S af a3 aF,S ag a4 aG,J x.grad.y.1.1,S ah a5 aH,S ai a6 aI]) x.grad sF) (bz:Agg w (BJ #[J x.own.x.1.1,S aj a7 aJ,S ak a8 aK,J x.own.y.1.1,S al a9 aL,S am ba aM]) x.own bj) (bA:Agg w (BJ #[J x.f.1.1,S an bc aN,S ao bd aO]) x.f bk):Dat.at_ w [S G aP ap,J x.b.x.1.1,S H aQ aq,S O aR ar,J x.b.y.1.1,S T aS au,S W aT aw,J x.c.x.1.1,S X aU ax,S Y aV ay,J x.c.y.1.1,S Z aW az,S aa aX aA,J x.area.1.1,S ab aY aB,S ac aZ aC,J x.k.1.1,S ad a1 aD,S ae a2 aE,J x.grad.x.1.1,S af a3 aF,S ag a4 aG,J x.grad.y.1.1,S ah a5 aH,S ai a6 aI,J x.own.x.1.1,S aj a7 aJ,S ak a8 aK,J x.own.y.1.1,S al a9 aL,S am ba aM,J x.f.1.1,S an bc aN,S ao bd aO] x (be++(bf++(bg++(bh++(bi++(sF++(bj++(bk)))))))):=by
 obtain⟨bB,q1,bl⟩:=bt;injection q1 with q1;have q1:=congrArg PD q1;simp only at q1;subst q1;obtain⟨bD,q2,bm⟩:=w2;injection q2 with q2;have q2:=congrArg PD q2;simp only at q2;subst q2;obtain⟨bE,b,bn⟩:=w3;injection b with b;have b:=congrArg PD b;simp only at b;subst b;obtain⟨bF,h,bo⟩:=bu;injection h with h;have h:=congrArg PD h;simp only at h;subst h;obtain⟨bG,u,bp⟩:=bv;injection u with u;have u:=congrArg PD u;simp only at u;subst u;obtain⟨bH,D,bq⟩:=bz;injection D with D;have D:=congrArg PD D;simp only at D;subst D;obtain⟨bI,E,br⟩:=bA;injection E with E;have E:=congrArg PD E;simp only at E;subst E;exact⟨[_],_,_,_,rfl,rfl,⟨_,_,_,rfl,w0⟩,⟨_,_,_,_,rfl,rfl,bl,⟨_,_,_,_,rfl,rfl,bm,⟨_,_,_,_,rfl,rfl,bn,⟨_,_,_,_,rfl,rfl,bo,⟨_,_,_,_,rfl,rfl,bp,⟨_,_,_,_,rfl,rfl,bq,br⟩⟩⟩⟩⟩⟩⟩
end Go.XB

namespace Go.XN
def A7a:List Int->List Int->Int
 |a::l,x::xs=>a*x+A7a l xs
 |_,_=>0
abbrev QF:=List (Int×List Int)
def A5k:QF->List Int->Int
 |(a,b)::q,x::xs=>a*(x*x)+(x*A7a b xs+A5k q xs)
 |_,_=>0
def E0y (k:Int):List Int->List Int
 | []=>[]
 |a::l=>(k*a)::E0y k l
def C8v:List Int->List Int->List Int
 | [],m=>m
 |l,[]=>l
 |a::l,b::m=>(a+b)::C8v l m
def E6r (k:Int):QF->QF
 | []=>[]
 |(a,b)::q=>(k*a,E0y k b)::E6r k q
def C4x:QF->QF->QF
 | [],m=>m
 |l,[]=>l
 |(a,b)::l,(c,d)::m=>(a+c,C8v b d)::C4x l m
def qsq (w:Int):List Int->QF
 | []=>[]
 |a::l=>(w*(a*a),E0y (2*(w*a)) l)::qsq w l
def psd:Nat->QF->Bool
 |0,q=>q.isEmpty
 |_+1,[]=>true
 |n+1,(a,b)::q=>bif decide (0<a)then psd n (C4x (E6r (4*a) q) (qsq (-1) b))else decide (a=0)&&(b.all (λc=>decide (c=0))&&psd n q)
theorem D3o (k:Int):∀ (l x:List Int),A7a (E0y k l) x=k*A7a l x
 | [],x=>by simp[E0y,A7a]
 |a::l,[]=>by simp[E0y,A7a]
 |a::l,y::x=>by rw[E0y,A7a,A7a,D3o k l x];grind
theorem D7p:∀ (l m x:List Int),A7a (C8v l m) x=A7a l x+A7a m x
 | [],m,x=>by simp[C8v,A7a]
 |a::l,[],x=>by simp[C8v,A7a]
 |a::l,b::m,[]=>by simp[C8v,A7a]
 |a::l,b::m,y::x=>by rw[C8v,A7a,A7a,A7a,D7p l m x];grind
theorem F3a (k:Int):∀ (q:QF) (x:List Int),A5k (E6r k q) x=k*A5k q x
 | [],x=>by simp[E6r,A5k]
 |(a,b)::q,[]=>by simp[E6r,A5k]
 |(a,b)::q,y::x=>by rw[E6r,A5k,A5k,F3a k q x,D3o];grind
theorem E3n:∀ (q r:QF) (x:List Int),A5k (C4x q r) x=A5k q x+A5k r x
 | [],r,x=>by simp[C4x,A5k]
 |(a,b)::q,[],x=>by simp[C4x,A5k]
 |(a,b)::q,(c,d)::r,[]=>by simp[C4x,A5k]
 |(a,b)::q,(c,d)::r,y::x=>by rw[C4x,A5k,A5k,A5k,E3n q r x,D7p];grind
theorem F3l (w:Int):∀ (l x:List Int),A5k (qsq w l) x=w*(A7a l x*A7a l x)
 | [],x=>by simp[qsq,A5k,A7a]
 |a::l,[]=>by simp[qsq,A5k,A7a]
 |a::l,y::x=>by rw[qsq,A5k,F3l w l x,D3o,A7a];grind
theorem D6o:∀ (b x:List Int),b.all (λc=>decide (c=0))=true->A7a b x=0
 | [],_,_=>by simp[A7a]
 |_::_,[],_=>by simp[A7a]
 |a::b,y::x,h=>by
  simp only[List.all_cons,Bool.and_eq_true,decide_eq_true_eq]at h
  rw[A7a,D6o b x h.2,h.1];simp
theorem E9o (x:Int):0<=x*x:=by
 rcases Int.le_total 0 x with h|h;·exact Int.mul_nonneg h h
 exact Int.mul_nonneg_of_nonpos_of_nonpos h h
theorem C1c:∀ (n:Nat) (q:QF) (x:List Int),psd n q=true->0<=A5k q x
 |0,q,x,h=>by cases q with
  |nil=>simp[A5k]
  |cons _ _=>cases h
 |n+1,[],x,_=>by simp[A5k]
 |n+1,(a,b)::q,[],_=>by simp[A5k]
 |n+1,(a,b)::q,y::x,h=>by
  unfold psd at h
  cases ha:decide (0<a)with
  |true =>
   rw[ha]at h
   have ih:=C1c n _ x h
   rw[E3n,F3a,F3l]at ih
   have ha':=of_decide_eq_true ha
   have s:=E9o (2*a*y+A7a b x)
   rw[A5k]
   generalize A7a b x=B at *
   generalize A5k q x=Q at *
   have e:(2*a*y+B)*(2*a*y+B)+(4*a*Q + -1*(B*B))=4*a*(a*(y*y)+(y*B+Q)):=by grind
   have e2:0<=4*a*(a*(y*y)+(y*B+Q)):=by rw[<-e];exact Int.add_nonneg s ih
   exact Int.nonneg_of_mul_nonneg_right e2 oS
  |false =>
   rw[ha]at h
   simp only[cond_false,Bool.and_eq_true,decide_eq_true_eq]at h
   rw[A5k,D6o b x h.2.1,h.1]
   have:=C1c n q x h.2.2
   simpa using this
abbrev SQ:=List (Int×List Int)
def A0o:SQ->List Int->Int
 | [],_=>0
 |(w,l)::q,x=>w*(A7a l x*A7a l x)+A0o q x
def C1k:SQ->QF
 | []=>[]
 |(w,l)::q=>C4x (qsq w l) (C1k q)
theorem E5g:∀ (q:SQ) (x:List Int),A5k (C1k q) x=A0o q x
 | [],x=>by simp[C1k,A5k,A0o]
 |(w,l)::q,x=>by rw[C1k,E3n,F3l,E5g q x,A0o]
def D1v (k:Int) (q:SQ):SQ:=q.map λp=>(k*p.1,p.2)
theorem D3l (k:Int):∀ (q:SQ) (x:List Int),A0o (D1v k q) x=k*A0o q x
 | [],x=>by simp[D1v,A0o]
 |(w,l)::q,x=>by
  have:=D3l k q x
  rw[D1v]at this ⊢
  rw[List.map_cons,A0o,A0o,this];grind
theorem C3c:∀ (q r:SQ) (x:List Int),A0o (q++r) x=A0o q x+A0o r x
 | [],r,x=>by simp[A0o]
 |(w,l)::q,r,x=>by rw[List.cons_append,A0o,A0o,C3c q r x];grind
theorem F3g {n:Nat} {q:SQ} (h:psd n (C1k q)=true) (x:List Int):0<=A0o q x:=by
 rw[<-E5g];exact C1c n _ x h
end Go.XN
