/- A part of the proof. -/
import Derived.WalkKit
import Derived.WalkSpells
import Derived.Deep.Draws
import Derived.Test.YtbhemnidcleaiaaGreatRows
import Derived.WalkLawsBesides
import Derived.ProofKit
import Derived.OwnWalk
set_option linter.constructorNameAsVariable false
set_option maxHeartbeats 16000000
set_option maxRecDepth 10000
namespace Go.XB
open Go.RowKit

def I64 (x:Int):Prop:=-9223372036854775808≤x∧x≤9223372036854775807

theorem B5m (a:Addr) (n:Nat):(a.add n).block=a.block:=by unfold Addr.add;split<;>rfl

class Dat (α:Type) where
 sz:Nat
 pos:0<sz
 at_:World→List Value→α→List Nat→Prop
 len:∀ {w cs x bs},at_ w cs x bs→cs.length=sz
 one:∀ {w cs x bs},at_ w cs x bs→∀ u∈cs,u.oneCell'=true
 lt:∀ {w cs x bs},at_ w cs x bs→∀ b∈bs,b<w.heap.size
 keep:∀ {w w' cs x bs},at_ w cs x bs→(∀ b∈bs,w'.heap[b]?=w.heap[b]?)→at_ w' cs x bs

theorem E_ {w:World} {b:Nat} {o:Obj} (h:w.heap[b]?=some o):b<w.heap.size:=by
 rcases Nat.lt_or_ge b w.heap.size with h1 | h1
 ·exact h1
 rw[Array.getElem?_eq_none h1] at h;cases h
theorem D2h {w w':World} {b:Nat} (h:b<w.heap.size) (e:w'.heap[b]?=w.heap[b]?):b<w'.heap.size:=by
 rw[Array.getElem?_eq_getElem h] at e
 exact E_ e

instance:Dat Int where
 sz:=1
 pos:=by decide
 at_:=fun _ cs x bs=>cs=[.int .i64 x]∧bs=[]∧I64 x
 len:=fun h=>by rw[h.1];rfl
 one:=fun h u hu=>by rw[h.1] at hu;simp at hu;subst hu;rfl
 lt:=fun h b hb=>by rw[h.2.1] at hb;simp at hb
 keep:=fun h _=>h

instance:Dat Bool where
 sz:=1
 pos:=by decide
 at_:=fun _ cs x bs=>cs=[.bool x]∧bs=[]
 len:=fun h=>by rw[h.1];rfl
 one:=fun h u hu=>by rw[h.1] at hu;simp at hu;subst hu;rfl
 lt:=fun h b hb=>by rw[h.2] at hb;simp at hb
 keep:=fun h _=>h

instance:Dat ByteArray where
 sz:=1
 pos:=by decide
 at_:=fun _ cs x bs=>cs=[.string x]∧bs=[]∧x.size≤maxLen
 len:=fun h=>by rw[h.1];rfl
 one:=fun h u hu=>by rw[h.1] at hu;simp at hu;subst hu;rfl
 lt:=fun h b hb=>by rw[h.2.1] at hb;simp at hb
 keep:=fun h _=>h

def Elems {α:Type} [Dat α] (w:World) (b off:Nat) (xs:List α) (bss:List (List Nat)):Prop :=
 bss.length=xs.length∧b<w.heap.size∧∀ k x fs,xs[k]?=some x→bss[k]?=some fs →
  ∃ cs,(∀ j u,cs[j]?=some u→w.cell? ⟨b,off+(k*Dat.sz α+j),none⟩=some u)∧Dat.at_ w cs x fs

def Sl {α:Type} [Dat α] (w:World) (A:Option Addr) (n c:Nat) (xs:List α) (bs:List Nat):Prop :=
 xs.length=n∧n≤c∧c≤maxLen∧(n=0→bs=[]) ∧
 (0<n→∃ b off bss,A=some ⟨b,off,none⟩∧bs=b::bss.flatten∧Elems w b off xs bss)

theorem Elems.keep {α:Type} [Dat α] {w w':World} {b off:Nat} {xs:List α} {bss:List (List Nat)} (h:Elems w b off xs bss)
  (hk:∀ g∈b::bss.flatten,w'.heap[g]?=w.heap[g]?):Elems w' b off xs bss:=by
 obtain ⟨h1,h2,h3⟩:=h
 have hb:=hk b (List.mem_cons_self ..)
 refine ⟨h1,D2h h2 hb,fun k x fs hx hf=>?_⟩
 obtain ⟨cs,hc,ha⟩:=h3 k x fs hx hf
 refine ⟨cs,fun j u hu=>?_,Dat.keep ha fun g hg=>hk g (List.mem_cons_of_mem _ (List.mem_flatten.2 ⟨fs,List.mem_of_getElem? hf,hg⟩))⟩
 rw[World.cell?_of_block (a:=⟨b,off+(k*Dat.sz α+j),none⟩) hb]
 exact hc j u hu

theorem Elems.lt {α:Type} [Dat α] {w:World} {b off:Nat} {xs:List α} {bss:List (List Nat)} (h:Elems w b off xs bss):∀ g∈b::bss.flatten,g<w.heap.size:=by
 obtain ⟨h1,h2,h3⟩:=h
 intro g hg
 rcases List.mem_cons.1 hg with rfl | hg
 ·exact h2
 obtain ⟨fs,hfs,hg⟩:=List.mem_flatten.1 hg
 obtain ⟨k,hk⟩:=List.mem_iff_getElem?.1 hfs
 have hkl:k<xs.length:=by rw[← h1];exact (List.getElem?_eq_some_iff.1 hk).1
 obtain ⟨cs,_,ha⟩:=h3 k _ fs (List.getElem?_eq_getElem hkl) hk
 exact Dat.lt ha g hg

theorem Sl.keep {α:Type} [Dat α] {w w':World} {A:Option Addr} {n c:Nat} {xs:List α} {bs:List Nat} (h:Sl w A n c xs bs)
  (hk:∀ g∈bs,w'.heap[g]?=w.heap[g]?):Sl w' A n c xs bs:=by
 obtain ⟨h1,h2,h3,h4,h5⟩:=h
 refine ⟨h1,h2,h3,h4,fun hn=>?_⟩
 obtain ⟨b,off,bss,hA,hbs,he⟩:=h5 hn
 exact ⟨b,off,bss,hA,hbs,he.keep (by rw[← hbs];exact hk)⟩

theorem Sl.lt {α:Type} [Dat α] {w:World} {A:Option Addr} {n c:Nat} {xs:List α} {bs:List Nat} (h:Sl w A n c xs bs):∀ g∈bs,g<w.heap.size:=by
 obtain ⟨h1,h2,h3,h4,h5⟩:=h
 rcases Nat.eq_zero_or_pos n with h0 | h0
 ·rw[h4 h0];simp
 obtain ⟨b,off,bss,hA,hbs,he⟩:=h5 h0
 rw[hbs];exact he.lt

theorem Sl.below {α:Type} [Dat α] {w w':World} {A:Option Addr} {n c:Nat} {xs:List α} {bs:List Nat} (h:Sl w A n c xs bs) (hb:Below w.heap.size w w'):Sl w' A n c xs bs :=
 h.keep fun g hg=>hb.block g (h.lt g hg)

theorem Sl.belowB {α:Type} [Dat α] {w w':World} {B:Nat} {A:Option Addr} {n c:Nat} {xs:List α} {bs:List Nat} (h:Sl w A n c xs bs) (hb:Below B w w') (hB:∀ g∈bs,g<B):Sl w' A n c xs bs :=
 h.keep fun g hg=>hb.block g (hB g hg)

theorem Sl.nil {α:Type} [Dat α] (w:World):Sl (α:=α) w none 0 0 [] []:=⟨rfl,Nat.le_refl _,Nat.zero_le _,fun _=>rfl,fun h=>absurd h (by decide)⟩

instance {α:Type} [Dat α]:Dat (List α) where
 sz:=1
 pos:=by decide
 at_:=fun w cs xs bs=>∃ A n c,cs=[.slice A n c]∧Sl w A n c xs bs
 len:=fun ⟨_,_,_,h,_⟩=>by rw[h];rfl
 one:=fun ⟨_,_,_,h,_⟩ u hu=>by rw[h] at hu;simp at hu;subst hu;rfl
 lt:=fun ⟨_,_,_,_,h⟩=>h.lt
 keep:=fun ⟨A,n,c,h,hs⟩ hk=>⟨A,n,c,h,hs.keep hk⟩

instance {α β:Type} [Dat α] [Dat β]:Dat (α×β) where
 sz:=Dat.sz α+Dat.sz β
 pos:=Nat.add_pos_left Dat.pos _
 at_:=fun w cs x bs=>∃ c1 c2 b1 b2,cs=c1++c2∧bs=b1++b2∧Dat.at_ w c1 x.1 b1∧Dat.at_ w c2 x.2 b2
 len:=fun ⟨_,_,_,_,h,_,h1,h2⟩=>by rw[h,List.length_append,Dat.len h1,Dat.len h2]
 one:=fun ⟨_,_,_,_,h,_,h1,h2⟩ u hu=>by
  rw[h] at hu
  rcases List.mem_append.1 hu with hu | hu
  ·exact Dat.one h1 u hu
  exact Dat.one h2 u hu
 lt:=fun ⟨_,_,_,_,_,h,h1,h2⟩ b hb=>by
  rw[h] at hb
  rcases List.mem_append.1 hb with hb | hb
  ·exact Dat.lt h1 b hb
  exact Dat.lt h2 b hb
 keep:=fun ⟨c1,c2,b1,b2,h,hb,h1,h2⟩ hk=>⟨c1,c2,b1,b2,h,hb,Dat.keep h1 fun b hb'=>hk b (by rw[hb];exact List.mem_append_left _ hb'),Dat.keep h2 fun b hb'=>hk b (by rw[hb];exact List.mem_append_right _ hb')⟩

abbrev Dat.via {α β:Type} [Dat β] (f:α→β):Dat α where
 sz:=Dat.sz β
 pos:=Dat.pos
 at_:=fun w cs x bs=>Dat.at_ w cs (f x) bs
 len:=fun h=>Dat.len (α:=β) h
 one:=fun h=>Dat.one (α:=β) h
 lt:=fun h=>Dat.lt (α:=β) h
 keep:=fun h hk=>Dat.keep (α:=β) h hk

def Agg {α:Type} [Dat α] (w:World) (v:Value) (x:α) (bs:List Nat):Prop:=∃ cs,v=.agg cs.toArray∧Dat.at_ w cs x bs

theorem Agg.keep {α:Type} [Dat α] {w w':World} {v:Value} {x:α} {bs:List Nat} (h:Agg w v x bs) (hk:∀ g∈bs,w'.heap[g]?=w.heap[g]?):Agg w' v x bs:=by
 obtain ⟨cs,h1,h2⟩:=h;exact ⟨cs,h1,Dat.keep h2 hk⟩
theorem Agg.lt {α:Type} [Dat α] {w:World} {v:Value} {x:α} {bs:List Nat} (h:Agg w v x bs):∀ g∈bs,g<w.heap.size:=by
 obtain ⟨cs,h1,h2⟩:=h;exact Dat.lt h2
theorem Agg.below {α:Type} [Dat α] {w w':World} {v:Value} {x:α} {bs:List Nat} (h:Agg w v x bs) (hb:Below w.heap.size w w'):Agg w' v x bs :=
 h.keep fun g hg=>hb.block g (h.lt g hg)

def Own (w0 w:World) (bs:List Nat):Prop:=bs.Nodup∧∀ b∈bs,w0.heap.size≤b∧∃ cs t,w.heap[b]?=some (.cells cs t (0,0))

theorem Own.nil (w0 w:World):Own w0 w []:=⟨List.nodup_nil,fun _ h=>by simp at h⟩
theorem Own.below {w0 w w':World} {bs:List Nat} (h:Own w0 w bs) (hb:Below w.heap.size w w'):Own w0 w' bs :=
 ⟨h.1,fun b hm=>⟨(h.2 b hm).1,by obtain ⟨cs,t,e⟩:=(h.2 b hm).2;exact ⟨cs,t,(hb.block b (E_ e)).trans e⟩⟩⟩
theorem Own.older {w0 w1 w:World} {bs:List Nat} (h:Own w1 w bs) (hs:w0.heap.size≤w1.heap.size):Own w0 w bs :=
 ⟨h.1,fun b hm=>⟨Nat.le_trans hs (h.2 b hm).1,(h.2 b hm).2⟩⟩
theorem Own.lt {w0 w:World} {bs:List Nat} (h:Own w0 w bs):∀ b∈bs,b<w.heap.size:=fun b hm=>by
 obtain ⟨cs,t,e⟩:=(h.2 b hm).2;exact E_ e
theorem Own.append {w0 w:World} {b1 b2:List Nat} (h1:Own w0 w b1) (h2:Own w0 w b2) (hd:∀ b∈b1,b∉b2):Own w0 w (b1++b2) :=
 ⟨List.nodup_append.2 ⟨h1.1,h2.1,fun a ha b hb e=>hd a ha (e ▸ hb)⟩,fun b hm=>by
  rcases List.mem_append.1 hm with hm | hm
  ·exact h1.2 b hm
  exact h2.2 b hm⟩

theorem A6d {N:Nat} {b1 b2:List Nat} (h1:∀ b∈b1,b<N) (h2:∀ b∈b2,N≤b):∀ b∈b1,b∉b2:=fun b hb hb'=>by
 have:=h1 b hb;have:=h2 b hb';omega

def A0j (w:World) (v:Value) (e:Ending) (w':World):Prop:=e=.returned v∧Below w.heap.size w w'

def X_ {α:Type} [Dat α] (w:World) (x:α) (e:Ending) (w':World):Prop :=
 ∃ v bs,e=.returned v∧Agg w' v x bs∧Own w w' bs∧Below w.heap.size w w'

def A2t {α:Type} [Dat α] (w:World) (xs:List α) (e:Ending) (w':World):Prop :=
 ∃ A n c bs,e=.returned (.slice A n c)∧Sl w' A n c xs bs∧Own w w' bs∧Below w.heap.size w w'

end Go.XB

namespace Go.XB
open Go.RowKit

theorem Sl.getAt {α:Type} [Dat α] {w:World} {A:Option Addr} {n c:Nat} {xs:List α} {bs:List Nat} (h:Sl w A n c xs bs) {k:Nat} (hk:k<n) :
  ∃ b off x cs fs,A=some ⟨b,off,none⟩∧b<w.heap.size∧xs[k]?=some x∧(∀ j u,cs[j]?=some u→w.cell? ⟨b,off+(k*Dat.sz α+j),none⟩=some u)∧Dat.at_ w cs x fs∧∀ g∈fs,g∈bs:=by
 obtain ⟨h1,h2,h3,h4,h5⟩:=h
 obtain ⟨b,off,bss,hA,hbs,hl,hb,he⟩:=h5 (by omega)
 have hx:xs[k]?=some (xs[k]'(by omega)):=List.getElem?_eq_getElem (by omega)
 have hf:bss[k]?=some (bss[k]'(by omega)):=List.getElem?_eq_getElem (by omega)
 obtain ⟨cs,hc,ha⟩:=he k _ _ hx hf
 exact ⟨b,off,_,cs,_,hA,hb,hx,hc,ha,fun g hg=>by rw[hbs];exact List.mem_cons_of_mem _ (List.mem_flatten.2 ⟨_,List.mem_of_getElem? hf,hg⟩)⟩

end Go.XB

namespace Go.XB
open Go.RowKit

structure TBigInt where
 neg:Bool
 mag:List Int
 deriving DecidableEq
instance:Dat TBigInt:=Dat.via fun x=>(x.neg,x.mag)
theorem TBigInt.open_ {w:World} {cs:List Value} {x:TBigInt} {bs:List Nat} (h:Dat.at_ w cs x bs):∃ (A1:Option Addr) (n1 c1:Nat) (s1:List Nat),cs=[.bool x.neg,.slice A1 n1 c1]∧bs=s1∧Sl w A1 n1 c1 x.mag s1:=by
 obtain ⟨p1,q1,u1,v1,rfl,rfl,e1,g1⟩:=h
 obtain ⟨rfl,rfl⟩:=e1
 obtain ⟨A1,n1,c1,rfl,w1⟩:=g1
 exact ⟨_,_,_,_,rfl,by first | rfl | (simp;done) | simp[List.append_assoc],w1⟩
theorem TBigInt.shut {w:World} {x:TBigInt} {A1:Option Addr} {n1 c1:Nat} {s1:List Nat} (w1:Sl w A1 n1 c1 x.mag s1):Dat.at_ w [.bool x.neg,.slice A1 n1 c1] x (s1):=by
 have h:Dat.at_ w _ x _:=⟨_,_,_,_,rfl,rfl,⟨rfl,rfl⟩,⟨_,_,_,rfl,w1⟩⟩
 first | exact h | (simpa using h) | simpa [List.append_assoc] using h
theorem TBigInt.agg {w:World} {v:Value} {x:TBigInt} {bs:List Nat} (h:Agg w v x bs):∃ (A1:Option Addr) (n1 c1:Nat) (s1:List Nat),v=.agg #[.bool x.neg,.slice A1 n1 c1]∧bs=s1∧Sl w A1 n1 c1 x.mag s1:=by
 obtain ⟨cs,rfl,h⟩:=h
 obtain ⟨A1,n1,c1,s1,rfl,rfl,w1⟩:=TBigInt.open_ h
 exact ⟨_,_,_,_,rfl,rfl,w1⟩
theorem TBigInt.mkAgg {w:World} {x:TBigInt} {A1:Option Addr} {n1 c1:Nat} {s1:List Nat} (w1:Sl w A1 n1 c1 x.mag s1):Agg w (.agg #[.bool x.neg,.slice A1 n1 c1]) x (s1) :=
 ⟨_,rfl,TBigInt.shut w1⟩
structure TRat where
 num:TBigInt
 den:List Int
 deriving DecidableEq
instance:Dat TRat:=Dat.via fun x=>(x.num,x.den)
theorem TRat.open_ {w:World} {cs:List Value} {x:TRat} {bs:List Nat} (h:Dat.at_ w cs x bs):∃ (A1:Option Addr) (n1 c1:Nat) (s1:List Nat) (A2:Option Addr) (n2 c2:Nat) (s2:List Nat),cs=[.bool x.num.neg,.slice A1 n1 c1,.slice A2 n2 c2]∧bs=s1++(s2)∧Sl w A1 n1 c1 x.num.mag s1∧Sl w A2 n2 c2 x.den s2:=by
 obtain ⟨p1,q1,u1,v1,rfl,rfl,e1,g1⟩:=h
 obtain ⟨p2,q2,u2,v2,rfl,rfl,e2,g2⟩:=e1
 obtain ⟨rfl,rfl⟩:=e2
 obtain ⟨A1,n1,c1,rfl,w1⟩:=g2
 obtain ⟨A2,n2,c2,rfl,w2⟩:=g1
 exact ⟨_,_,_,_,_,_,_,_,rfl,by first | rfl | (simp;done) | simp[List.append_assoc],w1,w2⟩
theorem TRat.shut {w:World} {x:TRat} {A1:Option Addr} {n1 c1:Nat} {s1:List Nat} {A2:Option Addr} {n2 c2:Nat} {s2:List Nat} (w1:Sl w A1 n1 c1 x.num.mag s1) (w2:Sl w A2 n2 c2 x.den s2):Dat.at_ w [.bool x.num.neg,.slice A1 n1 c1,.slice A2 n2 c2] x (s1++(s2)):=by
 have h:Dat.at_ w _ x _:=⟨_,_,_,_,rfl,rfl,⟨_,_,_,_,rfl,rfl,⟨rfl,rfl⟩,⟨_,_,_,rfl,w1⟩⟩,⟨_,_,_,rfl,w2⟩⟩
 first | exact h | (simpa using h) | simpa [List.append_assoc] using h
theorem TRat.agg {w:World} {v:Value} {x:TRat} {bs:List Nat} (h:Agg w v x bs):∃ (A1:Option Addr) (n1 c1:Nat) (s1:List Nat) (A2:Option Addr) (n2 c2:Nat) (s2:List Nat),v=.agg #[.bool x.num.neg,.slice A1 n1 c1,.slice A2 n2 c2]∧bs=s1++(s2)∧Sl w A1 n1 c1 x.num.mag s1∧Sl w A2 n2 c2 x.den s2:=by
 obtain ⟨cs,rfl,h⟩:=h
 obtain ⟨A1,n1,c1,s1,A2,n2,c2,s2,rfl,rfl,w1,w2⟩:=TRat.open_ h
 exact ⟨_,_,_,_,_,_,_,_,rfl,rfl,w1,w2⟩
theorem TRat.mkAgg {w:World} {x:TRat} {A1:Option Addr} {n1 c1:Nat} {s1:List Nat} {A2:Option Addr} {n2 c2:Nat} {s2:List Nat} (w1:Sl w A1 n1 c1 x.num.mag s1) (w2:Sl w A2 n2 c2 x.den s2):Agg w (.agg #[.bool x.num.neg,.slice A1 n1 c1,.slice A2 n2 c2]) x (s1++(s2)) :=
 ⟨_,rfl,TRat.shut w1 w2⟩
theorem TRat.elemA {w:World} {A:Option Addr} {n c:Nat} {xs:List TRat} {bs:List Nat} (h:Sl w A n c xs bs) {k:Nat} (hk:k<n) :
  ∃ (b off:Nat) (x:TRat) (A1:Option Addr) (n1 c1:Nat) (s1:List Nat) (A2:Option Addr) (n2 c2:Nat) (s2:List Nat),A=some ⟨b,off,none⟩∧b<w.heap.size∧xs[k]?=some x∧w.cell? ⟨b,off+k*3,none⟩=some (.bool x.num.neg)∧w.cell? ⟨b,off+k*3+1,none⟩=some (.slice A1 n1 c1)∧w.cell? ⟨b,off+k*3+2,none⟩=some (.slice A2 n2 c2)∧Agg w (.agg #[.bool x.num.neg,.slice A1 n1 c1,.slice A2 n2 c2]) x (s1++(s2)):=by
 obtain ⟨b,off,x,cs,fs,hA,hb,hx,hc,ha,hg⟩:=Sl.getAt h hk
 obtain ⟨A1,n1,c1,s1,A2,n2,c2,s2,rfl,rfl,w1,w2⟩:=TRat.open_ ha
 exact ⟨b,off,x,_,_,_,_,_,_,_,_,hA,hb,hx,hc 0 _ rfl,hc 1 _ rfl,hc 2 _ rfl,_,rfl,ha⟩

structure TPoint where
 x:TRat
 y:TRat
 deriving DecidableEq
instance:Dat TPoint:=Dat.via fun x=>(x.x,x.y)
theorem TPoint.open_ {w:World} {cs:List Value} {x:TPoint} {bs:List Nat} (h:Dat.at_ w cs x bs):∃ (A1:Option Addr) (n1 c1:Nat) (s1:List Nat) (A2:Option Addr) (n2 c2:Nat) (s2:List Nat) (A4:Option Addr) (n4 c4:Nat) (s4:List Nat) (A5:Option Addr) (n5 c5:Nat) (s5:List Nat),cs=[.bool x.x.num.neg,.slice A1 n1 c1,.slice A2 n2 c2,.bool x.y.num.neg,.slice A4 n4 c4,.slice A5 n5 c5]∧bs=s1++(s2++(s4++(s5)))∧Sl w A1 n1 c1 x.x.num.mag s1∧Sl w A2 n2 c2 x.x.den s2∧Sl w A4 n4 c4 x.y.num.mag s4∧Sl w A5 n5 c5 x.y.den s5:=by
 obtain ⟨p1,q1,u1,v1,rfl,rfl,e1,g1⟩:=h
 obtain ⟨p2,q2,u2,v2,rfl,rfl,e2,g2⟩:=e1
 obtain ⟨p3,q3,u3,v3,rfl,rfl,e3,g3⟩:=e2
 obtain ⟨rfl,rfl⟩:=e3
 obtain ⟨A1,n1,c1,rfl,w1⟩:=g3
 obtain ⟨A2,n2,c2,rfl,w2⟩:=g2
 obtain ⟨p4,q4,u4,v4,rfl,rfl,e4,g4⟩:=g1
 obtain ⟨p5,q5,u5,v5,rfl,rfl,e5,g5⟩:=e4
 obtain ⟨rfl,rfl⟩:=e5
 obtain ⟨A4,n4,c4,rfl,w4⟩:=g5
 obtain ⟨A5,n5,c5,rfl,w5⟩:=g4
 exact ⟨_,_,_,_,_,_,_,_,_,_,_,_,_,_,_,_,rfl,by first | rfl | (simp;done) | simp[List.append_assoc],w1,w2,w4,w5⟩
theorem TPoint.shut {w:World} {x:TPoint} {A1:Option Addr} {n1 c1:Nat} {s1:List Nat} {A2:Option Addr} {n2 c2:Nat} {s2:List Nat} {A4:Option Addr} {n4 c4:Nat} {s4:List Nat} {A5:Option Addr} {n5 c5:Nat} {s5:List Nat} (w1:Sl w A1 n1 c1 x.x.num.mag s1) (w2:Sl w A2 n2 c2 x.x.den s2) (w4:Sl w A4 n4 c4 x.y.num.mag s4) (w5:Sl w A5 n5 c5 x.y.den s5):Dat.at_ w [.bool x.x.num.neg,.slice A1 n1 c1,.slice A2 n2 c2,.bool x.y.num.neg,.slice A4 n4 c4,.slice A5 n5 c5] x (s1++(s2++(s4++(s5)))):=by
 have h:Dat.at_ w _ x _:=⟨_,_,_,_,rfl,rfl,⟨_,_,_,_,rfl,rfl,⟨_,_,_,_,rfl,rfl,⟨rfl,rfl⟩,⟨_,_,_,rfl,w1⟩⟩,⟨_,_,_,rfl,w2⟩⟩,⟨_,_,_,_,rfl,rfl,⟨_,_,_,_,rfl,rfl,⟨rfl,rfl⟩,⟨_,_,_,rfl,w4⟩⟩,⟨_,_,_,rfl,w5⟩⟩⟩
 first | exact h | (simpa using h) | simpa [List.append_assoc] using h
theorem TPoint.agg {w:World} {v:Value} {x:TPoint} {bs:List Nat} (h:Agg w v x bs):∃ (A1:Option Addr) (n1 c1:Nat) (s1:List Nat) (A2:Option Addr) (n2 c2:Nat) (s2:List Nat) (A4:Option Addr) (n4 c4:Nat) (s4:List Nat) (A5:Option Addr) (n5 c5:Nat) (s5:List Nat),v=.agg #[.bool x.x.num.neg,.slice A1 n1 c1,.slice A2 n2 c2,.bool x.y.num.neg,.slice A4 n4 c4,.slice A5 n5 c5]∧bs=s1++(s2++(s4++(s5)))∧Sl w A1 n1 c1 x.x.num.mag s1∧Sl w A2 n2 c2 x.x.den s2∧Sl w A4 n4 c4 x.y.num.mag s4∧Sl w A5 n5 c5 x.y.den s5:=by
 obtain ⟨cs,rfl,h⟩:=h
 obtain ⟨A1,n1,c1,s1,A2,n2,c2,s2,A4,n4,c4,s4,A5,n5,c5,s5,rfl,rfl,w1,w2,w4,w5⟩:=TPoint.open_ h
 exact ⟨_,_,_,_,_,_,_,_,_,_,_,_,_,_,_,_,rfl,rfl,w1,w2,w4,w5⟩
theorem TPoint.mkAgg {w:World} {x:TPoint} {A1:Option Addr} {n1 c1:Nat} {s1:List Nat} {A2:Option Addr} {n2 c2:Nat} {s2:List Nat} {A4:Option Addr} {n4 c4:Nat} {s4:List Nat} {A5:Option Addr} {n5 c5:Nat} {s5:List Nat} (w1:Sl w A1 n1 c1 x.x.num.mag s1) (w2:Sl w A2 n2 c2 x.x.den s2) (w4:Sl w A4 n4 c4 x.y.num.mag s4) (w5:Sl w A5 n5 c5 x.y.den s5):Agg w (.agg #[.bool x.x.num.neg,.slice A1 n1 c1,.slice A2 n2 c2,.bool x.y.num.neg,.slice A4 n4 c4,.slice A5 n5 c5]) x (s1++(s2++(s4++(s5)))) :=
 ⟨_,rfl,TPoint.shut w1 w2 w4 w5⟩
theorem TPoint.elem {w:World} {A:Option Addr} {n c:Nat} {xs:List TPoint} {bs:List Nat} (h:Sl w A n c xs bs) {k:Nat} (hk:k<n) :
  ∃ (b off:Nat) (x:TPoint) (A1:Option Addr) (n1 c1:Nat) (s1:List Nat) (A2:Option Addr) (n2 c2:Nat) (s2:List Nat) (A4:Option Addr) (n4 c4:Nat) (s4:List Nat) (A5:Option Addr) (n5 c5:Nat) (s5:List Nat),A=some ⟨b,off,none⟩∧b<w.heap.size∧xs[k]?=some x∧w.cell? ⟨b,off+k*6,none⟩=some (.bool x.x.num.neg)∧w.cell? ⟨b,off+k*6+1,none⟩=some (.slice A1 n1 c1)∧w.cell? ⟨b,off+k*6+2,none⟩=some (.slice A2 n2 c2)∧w.cell? ⟨b,off+k*6+3,none⟩=some (.bool x.y.num.neg)∧w.cell? ⟨b,off+k*6+4,none⟩=some (.slice A4 n4 c4)∧w.cell? ⟨b,off+k*6+5,none⟩=some (.slice A5 n5 c5)∧Sl w A1 n1 c1 x.x.num.mag s1∧Sl w A2 n2 c2 x.x.den s2∧Sl w A4 n4 c4 x.y.num.mag s4∧Sl w A5 n5 c5 x.y.den s5∧∀ g∈(s1++(s2++(s4++(s5)))),g∈bs:=by
 obtain ⟨b,off,x,cs,fs,hA,hb,hx,hc,ha,hg⟩:=Sl.getAt h hk
 obtain ⟨A1,n1,c1,s1,A2,n2,c2,s2,A4,n4,c4,s4,A5,n5,c5,s5,rfl,rfl,w1,w2,w4,w5⟩:=TPoint.open_ ha
 exact ⟨b,off,x,_,_,_,_,_,_,_,_,_,_,_,_,_,_,_,_,hA,hb,hx,hc 0 _ rfl,hc 1 _ rfl,hc 2 _ rfl,hc 3 _ rfl,hc 4 _ rfl,hc 5 _ rfl,w1,w2,w4,w5,hg⟩
theorem TPoint.elemA {w:World} {A:Option Addr} {n c:Nat} {xs:List TPoint} {bs:List Nat} (h:Sl w A n c xs bs) {k:Nat} (hk:k<n) :
  ∃ (b off:Nat) (x:TPoint) (A1:Option Addr) (n1 c1:Nat) (s1:List Nat) (A2:Option Addr) (n2 c2:Nat) (s2:List Nat) (A4:Option Addr) (n4 c4:Nat) (s4:List Nat) (A5:Option Addr) (n5 c5:Nat) (s5:List Nat),A=some ⟨b,off,none⟩∧b<w.heap.size∧xs[k]?=some x∧w.cell? ⟨b,off+k*6,none⟩=some (.bool x.x.num.neg)∧w.cell? ⟨b,off+k*6+1,none⟩=some (.slice A1 n1 c1)∧w.cell? ⟨b,off+k*6+2,none⟩=some (.slice A2 n2 c2)∧w.cell? ⟨b,off+k*6+3,none⟩=some (.bool x.y.num.neg)∧w.cell? ⟨b,off+k*6+4,none⟩=some (.slice A4 n4 c4)∧w.cell? ⟨b,off+k*6+5,none⟩=some (.slice A5 n5 c5)∧Agg w (.agg #[.bool x.x.num.neg,.slice A1 n1 c1,.slice A2 n2 c2,.bool x.y.num.neg,.slice A4 n4 c4,.slice A5 n5 c5]) x (s1++(s2++(s4++(s5)))):=by
 obtain ⟨b,off,x,cs,fs,hA,hb,hx,hc,ha,hg⟩:=Sl.getAt h hk
 obtain ⟨A1,n1,c1,s1,A2,n2,c2,s2,A4,n4,c4,s4,A5,n5,c5,s5,rfl,rfl,w1,w2,w4,w5⟩:=TPoint.open_ ha
 exact ⟨b,off,x,_,_,_,_,_,_,_,_,_,_,_,_,_,_,_,_,hA,hb,hx,hc 0 _ rfl,hc 1 _ rfl,hc 2 _ rfl,hc 3 _ rfl,hc 4 _ rfl,hc 5 _ rfl,_,rfl,ha⟩

structure TTri where
 a:Int
 b:Int
 c:Int
 region:Int
 level:Int
 deriving DecidableEq
instance:Dat TTri:=Dat.via fun x=>(x.a,x.b,x.c,x.region,x.level)
theorem TTri.open_ {w:World} {cs:List Value} {x:TTri} {bs:List Nat} (h:Dat.at_ w cs x bs):cs=[.int .i64 x.a,.int .i64 x.b,.int .i64 x.c,.int .i64 x.region,.int .i64 x.level]∧bs=[]∧I64 x.a∧I64 x.b∧I64 x.c∧I64 x.region∧I64 x.level:=by
 obtain ⟨p1,q1,u1,v1,rfl,rfl,e1,g1⟩:=h
 obtain ⟨rfl,rfl,w0⟩:=e1
 obtain ⟨p2,q2,u2,v2,rfl,rfl,e2,g2⟩:=g1
 obtain ⟨rfl,rfl,w1⟩:=e2
 obtain ⟨p3,q3,u3,v3,rfl,rfl,e3,g3⟩:=g2
 obtain ⟨rfl,rfl,w2⟩:=e3
 obtain ⟨p4,q4,u4,v4,rfl,rfl,e4,g4⟩:=g3
 obtain ⟨rfl,rfl,w3⟩:=e4
 obtain ⟨rfl,rfl,w4⟩:=g4
 exact ⟨rfl,by first | rfl | (simp;done) | simp[List.append_assoc],w0,w1,w2,w3,w4⟩
theorem TTri.shut {w:World} {x:TTri} (w0:I64 x.a) (w1:I64 x.b) (w2:I64 x.c) (w3:I64 x.region) (w4:I64 x.level):Dat.at_ w [.int .i64 x.a,.int .i64 x.b,.int .i64 x.c,.int .i64 x.region,.int .i64 x.level] x ([]):=by
 have h:Dat.at_ w _ x _:=⟨_,_,_,_,rfl,rfl,⟨rfl,rfl,w0⟩,⟨_,_,_,_,rfl,rfl,⟨rfl,rfl,w1⟩,⟨_,_,_,_,rfl,rfl,⟨rfl,rfl,w2⟩,⟨_,_,_,_,rfl,rfl,⟨rfl,rfl,w3⟩,⟨rfl,rfl,w4⟩⟩⟩⟩⟩
 first | exact h | (simpa using h) | simpa [List.append_assoc] using h
theorem TTri.agg {w:World} {v:Value} {x:TTri} {bs:List Nat} (h:Agg w v x bs):v=.agg #[.int .i64 x.a,.int .i64 x.b,.int .i64 x.c,.int .i64 x.region,.int .i64 x.level]∧bs=[]∧I64 x.a∧I64 x.b∧I64 x.c∧I64 x.region∧I64 x.level:=by
 obtain ⟨cs,rfl,h⟩:=h
 obtain ⟨rfl,rfl,w0,w1,w2,w3,w4⟩:=TTri.open_ h
 exact ⟨rfl,rfl,w0,w1,w2,w3,w4⟩
theorem TTri.mkAgg {w:World} {x:TTri} (w0:I64 x.a) (w1:I64 x.b) (w2:I64 x.c) (w3:I64 x.region) (w4:I64 x.level):Agg w (.agg #[.int .i64 x.a,.int .i64 x.b,.int .i64 x.c,.int .i64 x.region,.int .i64 x.level]) x ([]) :=
 ⟨_,rfl,TTri.shut w0 w1 w2 w3 w4⟩
theorem TTri.elemA {w:World} {A:Option Addr} {n c:Nat} {xs:List TTri} {bs:List Nat} (h:Sl w A n c xs bs) {k:Nat} (hk:k<n) :
  ∃ (b off:Nat) (x:TTri),A=some ⟨b,off,none⟩∧b<w.heap.size∧xs[k]?=some x∧w.cell? ⟨b,off+k*5,none⟩=some (.int .i64 x.a)∧w.cell? ⟨b,off+k*5+1,none⟩=some (.int .i64 x.b)∧w.cell? ⟨b,off+k*5+2,none⟩=some (.int .i64 x.c)∧w.cell? ⟨b,off+k*5+3,none⟩=some (.int .i64 x.region)∧w.cell? ⟨b,off+k*5+4,none⟩=some (.int .i64 x.level)∧Agg w (.agg #[.int .i64 x.a,.int .i64 x.b,.int .i64 x.c,.int .i64 x.region,.int .i64 x.level]) x ([]):=by
 obtain ⟨b,off,x,cs,fs,hA,hb,hx,hc,ha,hg⟩:=Sl.getAt h hk
 obtain ⟨rfl,rfl,w0,w1,w2,w3,w4⟩:=TTri.open_ ha
 exact ⟨b,off,x,hA,hb,hx,hc 0 _ rfl,hc 1 _ rfl,hc 2 _ rfl,hc 3 _ rfl,hc 4 _ rfl,_,rfl,ha⟩

structure TEdge where
 a:Int
 b:Int
 left:Int
 right:Int
 deriving DecidableEq
instance:Dat TEdge:=Dat.via fun x=>(x.a,x.b,x.left,x.right)
theorem TEdge.open_ {w:World} {cs:List Value} {x:TEdge} {bs:List Nat} (h:Dat.at_ w cs x bs):cs=[.int .i64 x.a,.int .i64 x.b,.int .i64 x.left,.int .i64 x.right]∧bs=[]∧I64 x.a∧I64 x.b∧I64 x.left∧I64 x.right:=by
 obtain ⟨p1,q1,u1,v1,rfl,rfl,e1,g1⟩:=h
 obtain ⟨rfl,rfl,w0⟩:=e1
 obtain ⟨p2,q2,u2,v2,rfl,rfl,e2,g2⟩:=g1
 obtain ⟨rfl,rfl,w1⟩:=e2
 obtain ⟨p3,q3,u3,v3,rfl,rfl,e3,g3⟩:=g2
 obtain ⟨rfl,rfl,w2⟩:=e3
 obtain ⟨rfl,rfl,w3⟩:=g3
 exact ⟨rfl,by first | rfl | (simp;done) | simp[List.append_assoc],w0,w1,w2,w3⟩
theorem TEdge.shut {w:World} {x:TEdge} (w0:I64 x.a) (w1:I64 x.b) (w2:I64 x.left) (w3:I64 x.right):Dat.at_ w [.int .i64 x.a,.int .i64 x.b,.int .i64 x.left,.int .i64 x.right] x ([]):=by
 have h:Dat.at_ w _ x _:=⟨_,_,_,_,rfl,rfl,⟨rfl,rfl,w0⟩,⟨_,_,_,_,rfl,rfl,⟨rfl,rfl,w1⟩,⟨_,_,_,_,rfl,rfl,⟨rfl,rfl,w2⟩,⟨rfl,rfl,w3⟩⟩⟩⟩
 first | exact h | (simpa using h) | simpa [List.append_assoc] using h
theorem TEdge.agg {w:World} {v:Value} {x:TEdge} {bs:List Nat} (h:Agg w v x bs):v=.agg #[.int .i64 x.a,.int .i64 x.b,.int .i64 x.left,.int .i64 x.right]∧bs=[]∧I64 x.a∧I64 x.b∧I64 x.left∧I64 x.right:=by
 obtain ⟨cs,rfl,h⟩:=h
 obtain ⟨rfl,rfl,w0,w1,w2,w3⟩:=TEdge.open_ h
 exact ⟨rfl,rfl,w0,w1,w2,w3⟩
theorem TEdge.mkAgg {w:World} {x:TEdge} (w0:I64 x.a) (w1:I64 x.b) (w2:I64 x.left) (w3:I64 x.right):Agg w (.agg #[.int .i64 x.a,.int .i64 x.b,.int .i64 x.left,.int .i64 x.right]) x ([]) :=
 ⟨_,rfl,TEdge.shut w0 w1 w2 w3⟩
theorem TEdge.elemA {w:World} {A:Option Addr} {n c:Nat} {xs:List TEdge} {bs:List Nat} (h:Sl w A n c xs bs) {k:Nat} (hk:k<n) :
  ∃ (b off:Nat) (x:TEdge),A=some ⟨b,off,none⟩∧b<w.heap.size∧xs[k]?=some x∧w.cell? ⟨b,off+k*4,none⟩=some (.int .i64 x.a)∧w.cell? ⟨b,off+k*4+1,none⟩=some (.int .i64 x.b)∧w.cell? ⟨b,off+k*4+2,none⟩=some (.int .i64 x.left)∧w.cell? ⟨b,off+k*4+3,none⟩=some (.int .i64 x.right)∧Agg w (.agg #[.int .i64 x.a,.int .i64 x.b,.int .i64 x.left,.int .i64 x.right]) x ([]):=by
 obtain ⟨b,off,x,cs,fs,hA,hb,hx,hc,ha,hg⟩:=Sl.getAt h hk
 obtain ⟨rfl,rfl,w0,w1,w2,w3⟩:=TEdge.open_ ha
 exact ⟨b,off,x,hA,hb,hx,hc 0 _ rfl,hc 1 _ rfl,hc 2 _ rfl,hc 3 _ rfl,_,rfl,ha⟩

structure TMesh where
 points:List TPoint
 triangles:List TTri
 deriving DecidableEq
instance:Dat TMesh:=Dat.via fun x=>(x.points,x.triangles)
theorem TMesh.open_ {w:World} {cs:List Value} {x:TMesh} {bs:List Nat} (h:Dat.at_ w cs x bs):∃ (A0:Option Addr) (n0 c0:Nat) (s0:List Nat) (A1:Option Addr) (n1 c1:Nat) (s1:List Nat),cs=[.slice A0 n0 c0,.slice A1 n1 c1]∧bs=s0++(s1)∧Sl w A0 n0 c0 x.points s0∧Sl w A1 n1 c1 x.triangles s1:=by
 obtain ⟨p1,q1,u1,v1,rfl,rfl,e1,g1⟩:=h
 obtain ⟨A0,n0,c0,rfl,w0⟩:=e1
 obtain ⟨A1,n1,c1,rfl,w1⟩:=g1
 exact ⟨_,_,_,_,_,_,_,_,rfl,by first | rfl | (simp;done) | simp[List.append_assoc],w0,w1⟩
theorem TMesh.shut {w:World} {x:TMesh} {A0:Option Addr} {n0 c0:Nat} {s0:List Nat} {A1:Option Addr} {n1 c1:Nat} {s1:List Nat} (w0:Sl w A0 n0 c0 x.points s0) (w1:Sl w A1 n1 c1 x.triangles s1):Dat.at_ w [.slice A0 n0 c0,.slice A1 n1 c1] x (s0++(s1)):=by
 have h:Dat.at_ w _ x _:=⟨_,_,_,_,rfl,rfl,⟨_,_,_,rfl,w0⟩,⟨_,_,_,rfl,w1⟩⟩
 first | exact h | (simpa using h) | simpa [List.append_assoc] using h
theorem TMesh.agg {w:World} {v:Value} {x:TMesh} {bs:List Nat} (h:Agg w v x bs):∃ (A0:Option Addr) (n0 c0:Nat) (s0:List Nat) (A1:Option Addr) (n1 c1:Nat) (s1:List Nat),v=.agg #[.slice A0 n0 c0,.slice A1 n1 c1]∧bs=s0++(s1)∧Sl w A0 n0 c0 x.points s0∧Sl w A1 n1 c1 x.triangles s1:=by
 obtain ⟨cs,rfl,h⟩:=h
 obtain ⟨A0,n0,c0,s0,A1,n1,c1,s1,rfl,rfl,w0,w1⟩:=TMesh.open_ h
 exact ⟨_,_,_,_,_,_,_,_,rfl,rfl,w0,w1⟩
theorem TMesh.mkAgg {w:World} {x:TMesh} {A0:Option Addr} {n0 c0:Nat} {s0:List Nat} {A1:Option Addr} {n1 c1:Nat} {s1:List Nat} (w0:Sl w A0 n0 c0 x.points s0) (w1:Sl w A1 n1 c1 x.triangles s1):Agg w (.agg #[.slice A0 n0 c0,.slice A1 n1 c1]) x (s0++(s1)) :=
 ⟨_,rfl,TMesh.shut w0 w1⟩
structure TProblem where
 mesh:TMesh
 diffusion:List TRat
 source:List TRat
 deriving DecidableEq
instance:Dat TProblem:=Dat.via fun x=>(x.mesh,x.diffusion,x.source)
theorem TProblem.open_ {w:World} {cs:List Value} {x:TProblem} {bs:List Nat} (h:Dat.at_ w cs x bs):∃ (A0:Option Addr) (n0 c0:Nat) (s0:List Nat) (A1:Option Addr) (n1 c1:Nat) (s1:List Nat) (A2:Option Addr) (n2 c2:Nat) (s2:List Nat) (A3:Option Addr) (n3 c3:Nat) (s3:List Nat),cs=[.slice A0 n0 c0,.slice A1 n1 c1,.slice A2 n2 c2,.slice A3 n3 c3]∧bs=s0++(s1++(s2++(s3)))∧Sl w A0 n0 c0 x.mesh.points s0∧Sl w A1 n1 c1 x.mesh.triangles s1∧Sl w A2 n2 c2 x.diffusion s2∧Sl w A3 n3 c3 x.source s3:=by
 obtain ⟨p1,q1,u1,v1,rfl,rfl,e1,g1⟩:=h
 obtain ⟨p2,q2,u2,v2,rfl,rfl,e2,g2⟩:=e1
 obtain ⟨A0,n0,c0,rfl,w0⟩:=e2
 obtain ⟨A1,n1,c1,rfl,w1⟩:=g2
 obtain ⟨p3,q3,u3,v3,rfl,rfl,e3,g3⟩:=g1
 obtain ⟨A2,n2,c2,rfl,w2⟩:=e3
 obtain ⟨A3,n3,c3,rfl,w3⟩:=g3
 exact ⟨_,_,_,_,_,_,_,_,_,_,_,_,_,_,_,_,rfl,by first | rfl | (simp;done) | simp[List.append_assoc],w0,w1,w2,w3⟩
theorem TProblem.shut {w:World} {x:TProblem} {A0:Option Addr} {n0 c0:Nat} {s0:List Nat} {A1:Option Addr} {n1 c1:Nat} {s1:List Nat} {A2:Option Addr} {n2 c2:Nat} {s2:List Nat} {A3:Option Addr} {n3 c3:Nat} {s3:List Nat} (w0:Sl w A0 n0 c0 x.mesh.points s0) (w1:Sl w A1 n1 c1 x.mesh.triangles s1) (w2:Sl w A2 n2 c2 x.diffusion s2) (w3:Sl w A3 n3 c3 x.source s3):Dat.at_ w [.slice A0 n0 c0,.slice A1 n1 c1,.slice A2 n2 c2,.slice A3 n3 c3] x (s0++(s1++(s2++(s3)))):=by
 have h:Dat.at_ w _ x _:=⟨_,_,_,_,rfl,rfl,⟨_,_,_,_,rfl,rfl,⟨_,_,_,rfl,w0⟩,⟨_,_,_,rfl,w1⟩⟩,⟨_,_,_,_,rfl,rfl,⟨_,_,_,rfl,w2⟩,⟨_,_,_,rfl,w3⟩⟩⟩
 first | exact h | (simpa using h) | simpa [List.append_assoc] using h
theorem TProblem.agg {w:World} {v:Value} {x:TProblem} {bs:List Nat} (h:Agg w v x bs):∃ (A0:Option Addr) (n0 c0:Nat) (s0:List Nat) (A1:Option Addr) (n1 c1:Nat) (s1:List Nat) (A2:Option Addr) (n2 c2:Nat) (s2:List Nat) (A3:Option Addr) (n3 c3:Nat) (s3:List Nat),v=.agg #[.slice A0 n0 c0,.slice A1 n1 c1,.slice A2 n2 c2,.slice A3 n3 c3]∧bs=s0++(s1++(s2++(s3)))∧Sl w A0 n0 c0 x.mesh.points s0∧Sl w A1 n1 c1 x.mesh.triangles s1∧Sl w A2 n2 c2 x.diffusion s2∧Sl w A3 n3 c3 x.source s3:=by
 obtain ⟨cs,rfl,h⟩:=h
 obtain ⟨A0,n0,c0,s0,A1,n1,c1,s1,A2,n2,c2,s2,A3,n3,c3,s3,rfl,rfl,w0,w1,w2,w3⟩:=TProblem.open_ h
 exact ⟨_,_,_,_,_,_,_,_,_,_,_,_,_,_,_,_,rfl,rfl,w0,w1,w2,w3⟩
theorem TProblem.mkAgg {w:World} {x:TProblem} {A0:Option Addr} {n0 c0:Nat} {s0:List Nat} {A1:Option Addr} {n1 c1:Nat} {s1:List Nat} {A2:Option Addr} {n2 c2:Nat} {s2:List Nat} {A3:Option Addr} {n3 c3:Nat} {s3:List Nat} (w0:Sl w A0 n0 c0 x.mesh.points s0) (w1:Sl w A1 n1 c1 x.mesh.triangles s1) (w2:Sl w A2 n2 c2 x.diffusion s2) (w3:Sl w A3 n3 c3 x.source s3):Agg w (.agg #[.slice A0 n0 c0,.slice A1 n1 c1,.slice A2 n2 c2,.slice A3 n3 c3]) x (s0++(s1++(s2++(s3)))) :=
 ⟨_,rfl,TProblem.shut w0 w1 w2 w3⟩
structure TRow where
 cols:List Int
 vals:List TRat
 deriving DecidableEq
instance:Dat TRow:=Dat.via fun x=>(x.cols,x.vals)
structure TMatrix where
 rows:List TRow
 deriving DecidableEq
instance:Dat TMatrix:=Dat.via fun x=>x.rows
structure TFactor where
 lower:List (List TRat)
 pivots:List TRat
 deriving DecidableEq
instance:Dat TFactor:=Dat.via fun x=>(x.lower,x.pivots)
structure TIterate where
 x:List TRat
 r:List TRat
 p:List TRat
 deriving DecidableEq
instance:Dat TIterate:=Dat.via fun x=>(x.x,x.r,x.p)
structure TFan where
 triangles:List Int
 spokes:List Int
 closed:Bool
 deriving DecidableEq
instance:Dat TFan:=Dat.via fun x=>(x.triangles,x.spokes,x.closed)
structure TGoal where
 value:TRat
 square:TRat
 deriving DecidableEq
instance:Dat TGoal:=Dat.via fun x=>(x.value,x.square)
structure TReport where
 triangles:Int
 energy:TRat
 bound:TRat
 deriving DecidableEq
instance:Dat TReport:=Dat.via fun x=>(x.triangles,x.energy,x.bound)
structure TState where
 problem:TProblem
 part:TRat
 reports:List TReport
 deriving DecidableEq
instance:Dat TState:=Dat.via fun x=>(x.problem,x.part,x.reports)
structure TConsole where
 text:ByteArray
 state:TState
 deriving DecidableEq
instance:Dat TConsole:=Dat.via fun x=>(x.text,x.state)
end Go.XB

namespace Go.XB
open Go.RowKit

theorem Sl.getInt {w:World} {A:Option Addr} {n c:Nat} {xs:List Int} {bs:List Nat} (h:Sl w A n c xs bs) {k:Nat} (hk:k<n) :
  ∃ b off x,A=some ⟨b,off,none⟩∧b<w.heap.size∧xs[k]?=some x∧I64 x∧w.cell? ⟨b,off+k,none⟩=some (.int .i64 x):=by
 obtain ⟨h1,h2,h3,h4,h5⟩:=h
 obtain ⟨b,off,bss,hA,hbs,hl,hb,he⟩:=h5 (by omega)
 have hx:xs[k]?=some (xs[k]'(by omega)):=List.getElem?_eq_getElem (by omega)
 have hf:bss[k]?=some (bss[k]'(by omega)):=List.getElem?_eq_getElem (by omega)
 obtain ⟨cs,hc,hcs,_,hi⟩:=he k _ _ hx hf
 refine ⟨b,off,_,hA,hb,hx,hi,?_⟩
 have:=hc 0 (.int .i64 (xs[k]'(by omega))) (by rw[hcs];rfl)
 simpa [Dat.sz] using this

theorem B4q {α:Type} {xs ys:List α} {k:Nat} {x y:α} (hx:xs[k]?=some x) (hy:ys[k]?=some y) (h:xs.take k=ys.take k) (e:x=y):xs.take (k+1)=ys.take (k+1):=by
 rw[List.take_add_one,List.take_add_one,hx,hy,h,e]
theorem D3w {α:Type} {xs ys:List α} {k:Nat} {x y:α} (hx:xs[k]?=some x) (hy:ys[k]?=some y) (e:x≠y):xs≠ys:=by
 rintro rfl;rw[hx] at hy;exact e (Option.some.inj hy)
theorem B6n {α:Type} {xs ys:List α} {n k:Nat} (h1:xs.length=n) (h2:ys.length=n) (hk:n≤k) (h:xs.take k=ys.take k):xs=ys:=by
 rwa [List.take_of_length_le (by omega),List.take_of_length_le (by omega)] at h
theorem A_ {p:Prop} (h:p):Hid p:=h
theorem _root_.Go.RowKit.Hid.o {p:Prop} (h:Hid p):p:=h
theorem R_ {a b:Bool} (h:a=b):Ending.returned (.bool a)=.returned (.bool b):=by rw[h]
theorem A1d {k:IntKind} {a b:Int} (h:a=b):Ending.returned (.int k a)=.returned (.int k b):=by rw[h]
theorem C_ {W w1:World} (hb:Below W.heap.size W w1):(∀ b o,b<W.heap.size→w1.cell? ⟨b,o,none⟩=W.cell? ⟨b,o,none⟩)∧(∀ b o,b<W.heap.size→w1.frozen? ⟨b,o,none⟩=W.frozen? ⟨b,o,none⟩) :=
 ⟨fun b o h=>hb.cell (p:=⟨b,o,none⟩) h,fun b o h=>hb.frozen (p:=⟨b,o,none⟩) h⟩

def D6y (left:Int) (n:Nat):Int:=if left - n<0 then -1 else left - n
theorem Below.next {w W W':World} (h:Below w.heap.size w W) (h':Below W.heap.size W W'):Below w.heap.size w W':=h.trans (h'.mono h.size)
theorem Below.box {w:World} (o:Obj):Below w.heap.size w (w.alloc o):=(Below.refl _ _).alloc (Nat.le_refl _) _
theorem Below.set {w W:World} (h:Below w.heap.size w W) {p:Addr} (hp:w.heap.size≤p.block) (u:Value):Below w.heap.size w (W.setCell p u):=h.setCell hp u
theorem Below.box_ {w W:World} (h:Below w.heap.size w W) (o:Obj):Below w.heap.size w (W.alloc o):=h.alloc h.size o

structure Above (lo:Nat) (w w':World):Prop where
 size:w.heap.size≤w'.heap.size
 block:∀ g,lo≤g→g<w.heap.size→w'.heap[g]?=w.heap[g]?
theorem Above.refl (lo:Nat) (w:World):Above lo w w:=⟨Nat.le_refl _,fun _ _ _=>rfl⟩
theorem Above.trans {lo:Nat} {a b c:World} (h:Above lo a b) (k:Above lo b c):Above lo a c :=
 ⟨Nat.le_trans h.size k.size,fun g h1 h2=>(k.block g h1 (Nat.lt_of_lt_of_le h2 h.size)).trans (h.block g h1 h2)⟩
theorem Above.below {lo:Nat} {w W W':World} (h:Above lo w W) (hb:Below W.heap.size W W'):Above lo w W' :=
 h.trans ⟨hb.size,fun g _ h2=>hb.block g h2⟩
theorem Above.set {lo:Nat} {w W:World} (h:Above lo w W) {p:Addr} (hp:p.block<lo) (u:Value):Above lo w (W.setCell p u) :=
 h.trans ⟨by simp[World.setCell],fun g h1 _=>Below.heap_setCell W p u g (by omega)⟩
theorem Above.box {lo:Nat} {w W:World} (h:Above lo w W) (o:Obj):Above lo w (W.alloc o) :=
 h.trans ⟨by simp,fun g _ h2=>Below.heap_alloc W o g h2⟩
theorem Below.go {n:Nat} {w W:World} (h:Below n w W:=by with_reducible repeat first | exact Below.refl _ _ | (refine Below.set ?_ ?_ _;rotate_left;(simp<;>omega)) | refine Below.box_ ?_ _ | refine Below.next ?_ (by assumption)):Below n w W:=h
theorem Above.go {n:Nat} {w W:World} (h:Above n w W:=by with_reducible repeat first | exact Above.refl _ _ | (refine Above.set ?_ ?_ _;rotate_left;(simp<;>omega)) | refine Above.box ?_ _ | refine Above.below ?_ (by assumption)):Above n w W:=h
theorem N_ {n a:Nat} {W U:World} (h:Below n W U) (ha:a<W.heap.size:=by (try simp)<;>omega):a<U.heap.size:=Nat.lt_of_lt_of_le ha h.size
theorem Own.above {w0 w w':World} {lo:Nat} {bs:List Nat} (h:Own w0 w bs) (ha:Above lo w w') (hl:lo≤w0.heap.size):Own w0 w' bs :=
 ⟨h.1,fun b hm=>⟨(h.2 b hm).1,by obtain ⟨cs,t,e⟩:=(h.2 b hm).2;exact ⟨cs,t,(ha.block b (Nat.le_trans hl (h.2 b hm).1) (E_ e)).trans e⟩⟩⟩
theorem Sl.above {α:Type} [Dat α] {w0 w w':World} {lo:Nat} {A:Option Addr} {n c:Nat} {xs:List α} {bs:List Nat} (h:Sl w A n c xs bs) (ho:Own w0 w bs) (ha:Above lo w w') (hl:lo≤w0.heap.size):Sl w' A n c xs bs :=
 h.keep fun g hg=>ha.block g (Nat.le_trans hl (ho.2 g hg).1) (h.lt g hg)
theorem take_step {α:Type} {xs:List α} {k:Nat} {x:α} (h:xs[k]?=some x):xs.take (k+1)=xs.take k++[x]:=by
 rw[List.take_add_one,h];rfl

theorem A0a {k n:Nat} (h:k<n):n - (intOf (Value.int .i64 ((k:Int)+1))).toNat<n - (intOf (Value.int .i64 (k:Int))).toNat:=by
 simp[intOf];omega

end Go.XB

namespace Go.XB
open Go.RowKit

def Filled {α:Type} [Dat α] (w:World) (cells:List Value) (xs:List α) (fss:List (List Nat)):Prop :=
 fss.length=xs.length∧xs.length*Dat.sz α≤cells.length∧∀ k x fs,xs[k]?=some x→fss[k]?=some fs→Dat.at_ w ((cells.drop (k*Dat.sz α)).take (Dat.sz α)) x fs

section
variable {α:Type} [Dat α] {w w':World} {cells:List Value} {xs:List α} {fss:List (List Nat)}

theorem Filled.nil (w:World) (cells:List Value):Filled (α:=α) w cells [] []:=⟨rfl,by simp,fun k x fs h=>by simp at h⟩

theorem Filled.lt (h:Filled w cells xs fss):∀ g∈fss.flatten,g<w.heap.size:=by
 intro g hg
 obtain ⟨fs,hfs,hg⟩:=List.mem_flatten.1 hg
 obtain ⟨k,hk⟩:=List.mem_iff_getElem?.1 hfs
 have hkl:k<xs.length:=by rw[← h.1];exact (List.getElem?_eq_some_iff.1 hk).1
 exact Dat.lt (h.2.2 k _ fs (List.getElem?_eq_getElem hkl) hk) g hg

theorem Filled.keep (h:Filled w cells xs fss) (hk:∀ g∈fss.flatten,w'.heap[g]?=w.heap[g]?):Filled w' cells xs fss :=
 ⟨h.1,h.2.1,fun k x fs hx hf=>Dat.keep (h.2.2 k x fs hx hf) fun g hg=>hk g (List.mem_flatten.2 ⟨fs,List.mem_of_getElem? hf,hg⟩)⟩

theorem Filled.below (h:Filled w cells xs fss) (hb:Below w.heap.size w w'):Filled w' cells xs fss:=h.keep fun g hg=>hb.block g (h.lt g hg)

def D2m (cells:List Value) (i:Nat):List Value→List Value
 | []=>cells
 | c::cs=>D2m (cells.set i c) (i+1) cs

theorem C2o {l:List Value} {i m:Nat} {cs:List Value} (h:∀ j,j<m→l[i+j]?=cs[j]?) (hc:cs.length=m):(l.drop i).take m=cs:=by
 apply List.ext_getElem?
 intro j
 by_cases hj:j<m
 ·rw[List.getElem?_take,if_pos hj,List.getElem?_drop,h j hj]
 rw[List.getElem?_eq_none (by simp;omega),List.getElem?_eq_none (by omega)]

theorem Filled.push (h:Filled w cells xs fss) (hl:cells.length=xs.length*Dat.sz α) {x:α} {fs:List Nat} {cs:List Value} (ha:Dat.at_ w cs x fs) :
  Filled w (cells++cs) (xs++[x]) (fss++[fs]):=by
 obtain ⟨h1,h2,h3⟩:=h
 have hcl:=Dat.len ha
 have hmul:(xs.length+1)*Dat.sz α=xs.length*Dat.sz α+Dat.sz α:=by rw[Nat.add_mul,Nat.one_mul]
 have hpos:0<Dat.sz α:=Dat.pos
 refine ⟨by simp[h1],by simp[hmul,hl,hcl],fun k y gs hy hg=>?_⟩
 by_cases hk:k<xs.length
 ·rw[List.getElem?_append_left hk] at hy
  rw[List.getElem?_append_left (by omega)] at hg
  have hkm:k*Dat.sz α+Dat.sz α≤xs.length*Dat.sz α:=by
   rw[← Nat.succ_mul];exact Nat.mul_le_mul_right _ hk
  have:=h3 k y gs hy hg
  rw[List.drop_append_of_le_length (by omega),List.take_append_of_le_length (by simp;omega)]
  exact this
 have hke:k=xs.length:=by
  have:=(List.getElem?_eq_some_iff.1 hy).1
  simp at this;omega
 subst hke
 simp at hy
 rw[← h1] at hg
 simp at hg
 subst hy;subst hg
 rw[← hl,List.drop_append_of_le_length (Nat.le_refl _),List.drop_length,List.nil_append,List.take_of_length_le (by omega)]
 exact ha

theorem Filled.sl {base n:Nat} {e:TypeId} {v:Value} (h:Filled w cells xs fss) (ho:w.ownsRow base e (Dat.sz α) v n cells) (hx:xs.length=n) :
  ∃ A c bs,v=.slice A n c∧Sl w A n c xs bs∧((n=0∧bs=[])∨∃ g,v.ownBlock=some g∧bs=g::fss.flatten∧base≤g∧∃ cs t,w.heap[g]?=some (.cells cs t (0,0))):=by
 rcases ho.2 with ⟨rfl,rfl⟩ | ⟨g,cap,cur,rfl,hb,hg,hnc,hcm,hcs,htake⟩
 ·have hxs:xs=[]:=List.eq_nil_of_length_eq_zero hx
  subst hxs
  exact ⟨none,0,[],rfl,Sl.nil w,.inl ⟨rfl,rfl⟩⟩
 rcases Nat.eq_zero_or_pos n with h0 | h0
 ·subst h0
  exact ⟨_,_,[],rfl,⟨hx,hnc,hcm,fun _=>rfl,fun h=>absurd h (by omega)⟩,.inl ⟨rfl,rfl⟩⟩
 refine ⟨_,_,g::fss.flatten,rfl,⟨hx,hnc,hcm,fun h=>absurd h (by omega),fun _=>⟨g,0,fss,rfl,rfl,h.1,E_ hg,fun k x fs hxk hfk=>?_⟩⟩,.inr ⟨g,rfl,rfl,hb,_,_,hg⟩⟩
 have ha:=h.2.2 k x fs hxk hfk
 refine ⟨_,fun j u hu=>?_,ha⟩
 rw[List.getElem?_take] at hu
 split at hu
 ·rename_i hj
  rw[List.getElem?_drop] at hu
  rw[Nat.zero_add]
  have hkl:k<n:=by rw[← hx];exact (List.getElem?_eq_some_iff.1 hxk).1
  have hlt:k*Dat.sz α+j<n*Dat.sz α:=by
   have:(k+1)*Dat.sz α≤n*Dat.sz α:=Nat.mul_le_mul_right _ hkl
   rw[Nat.add_mul,Nat.one_mul] at this
   omega
  rw[World.ownsRow.cellAt ho _ hlt]
  exact hu
 cases hu

theorem B8s {w0:World} {bs:List Nat} {n:Nat} (h:(n=0∧bs=[])∨∃ g,bs=g::fss.flatten∧w0.heap.size≤g∧(∃ cs t,w.heap[g]?=some (.cells cs t (0,0)))∧g∉fss.flatten) (hf:Own w0 w fss.flatten):Own w0 w bs:=by
 rcases h with ⟨_,rfl⟩ | ⟨g,rfl,hg,hc,hn⟩
 ·exact Own.nil _ _
 exact ⟨List.nodup_cons.2 ⟨hn,hf.1⟩,fun b hb=>by
  rcases List.mem_cons.1 hb with rfl | hb
  ·exact ⟨hg,hc⟩
  exact hf.2 b hb⟩
end

theorem Filled.ints {w:World} {cells:List Value} {xs:List Int} (h:cells.take xs.length=xs.map (.int .i64)) (hi:∀ x∈xs,I64 x) (hl:xs.length≤cells.length):Filled w cells xs (List.replicate xs.length []):=by
 refine ⟨by simp,by simpa [Dat.sz] using hl,fun k x fs hx hf=>?_⟩
 have hk:=(List.getElem?_eq_some_iff.1 hx).1
 have hfs:fs=[]:=by
  rw[List.getElem?_replicate,if_pos hk] at hf;exact (Option.some.inj hf).symm
 refine ⟨?_,hfs,hi x (List.mem_of_getElem? hx)⟩
 have h1:cells[k]?=some (.int .i64 x):=by
  have:=congrArg (fun l=>l[k]?) h
  simp only [List.getElem?_take,hk,if_true,List.getElem?_map,hx,Option.map_some] at this
  exact this
 exact C2o (fun j hj=>by
  have:j=0:=by simp[Dat.sz] at hj;exact hj
  subst this
  simpa [Dat.sz] using h1) rfl

theorem B0n (n:Nat):(List.replicate n ([]:List Nat)).flatten=[]:=by
 induction n with
 | zero=>rfl
 | succ n ih=>rw[List.replicate_succ,List.flatten_cons,ih];rfl

end Go.XB

namespace Go.XB
def D2v {α:Type} (f:α→Nat) (l:List α):Nat:=l.length+(l.map f).sum
def TBigInt.cnt (x:TBigInt):Nat:=x.mag.length
def TRat.cnt (x:TRat):Nat:=x.num.cnt+x.den.length
def TPoint.cnt (x:TPoint):Nat:=x.x.cnt+x.y.cnt
def TMesh.cnt (x:TMesh):Nat:=D2v TPoint.cnt x.points+x.triangles.length
def TProblem.cnt (x:TProblem):Nat:=x.mesh.cnt+D2v TRat.cnt x.diffusion+D2v TRat.cnt x.source
def TGoal.cnt (x:TGoal):Nat:=x.value.cnt+x.square.cnt
def TReport.cnt (x:TReport):Nat:=x.energy.cnt+x.bound.cnt
def TState.cnt (x:TState):Nat:=x.problem.cnt+x.part.cnt+D2v TReport.cnt x.reports
end Go.XB
namespace Go.Proofs.YtbhemnidcleaiaaGreat.X
open Go.RowKit Go.XB
end Go.Proofs.YtbhemnidcleaiaaGreat.X

namespace Go.XB
open Go.RowKit

def A8s (w:World) (g i:Nat):List Value→World
 | []=>w
 | c::cs=>A8s (w.setCell ⟨g,i,none⟩ c) g (i+1) cs

theorem J_ {w w':World} {base:Nat} {e:TypeId} {size:Nat} {v:Value} {n:Nat} {xs:List Value} (h:w.ownsRow base e size v n xs) (hb:Below w.heap.size w w'):w'.ownsRow base e size v n xs :=
 h.kept (row:=none) ⟨hb.os,hb.tape,hb.output,hb.size,fun k hk _=>hb.block k hk⟩ (by cases hv:v.ownBlock<;>simp)

theorem A0b (g:Nat):∀ (cs:List Value) (w:World) (i k:Nat),k≠g→(A8s w g i cs).heap[k]?=w.heap[k]?
 | [],_,_,_,_=>rfl
 | c::cs,w,i,k,h=>(A0b g cs _ (i+1) k h).trans (Below.heap_setCell w ⟨g,i,none⟩ c k h)

theorem B1r {B g:Nat} {w0:World}:∀ {w:World} (_:Below B w0 w) (_:B≤g) (cs:List Value) (i:Nat),Below B w0 (A8s w g i cs)
 | _,h,_,[],_=>h
 | _,h,hB,c::cs,i=>B1r (h.setCell (p:=⟨g,i,none⟩) hB c) hB cs (i+1)

end Go.XB
