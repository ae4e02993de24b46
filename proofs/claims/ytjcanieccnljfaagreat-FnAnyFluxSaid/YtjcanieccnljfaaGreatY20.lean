/- A part of the proof. -/
import Derived.Test.YtjcanieccnljfaaGreatY15
import Derived.LoopN
set_option linter.constructorNameAsVariable false
set_option maxHeartbeats 16000000
set_option maxRecDepth 10000
open Array renaming getElem?_eq_getElem→PF
open Go renaming Oper→CZ,TypeId→CV,Value→AU,World→AD,wpList→GH
open Go.Value renaming bool→J,ownBlock→JD,slice→S
open List renaming eq_nil_of_length_eq_zero→IV,mem_append→DV,mem_append_left→MS,mem_append_right→MR,mem_cons→JH
open Nat renaming le_refl→CE,zero_le→EO
open Option renaming none→I,some→B
namespace Go
open Go.RowKit Go.XB
def B7r (w:AD):List Obj->AD
 | []=>w
 |o::os=>B7r (w.alloc o) os
theorem B3z:∀ (os:List Obj) (w:AD),Bw w (B7r w os)
 | [],_=>Below.refl _ _
 |o::os,w=>Below.next (Below.box o) (B3z os (w.alloc o))
theorem A1y:∀ (os:List Obj) (w:AD) (k:Nat) (o:Obj),os[k]?=B o->(B7r w os).1[w.1.size+k]?=B o
 | [],w,k,o,h=>by simp at h
 |p::os,w,0,o,h=>by
  simp at h;subst h
  rw[B7r,Nat.add_zero,(B3z os (w.alloc p)).block w.1.size sI]
  exact heap_alloc_new w p
 |p::os,w,k+1,o,h=>by
  have:=A1y os (w.alloc p) k o (by simpa using h)
  rw[World.size_alloc]at this
  rw[B7r,show w.1.size+(k+1)=w.1.size+1+k by omega]
  exact this
theorem A8l {P:Program} {w:AD} {O:Array CZ} {rest:List CZ} {o:CZ} {a:Act} {Q:Exit->Act->AD->Prop} (Y:o.guard=I) (s x:Operand) (t:CV)
  (ad:o.op=.call { callee:=.builtin .append,args:=#[s,x],argTypes:=#[t,t] })
  (e:CV) (i:TypeInfo) (z:AU) (size E:Nat) (ah:P.underlying t=B (.slice e)) (hi:P.info? e=B i) (aj:i.zero=B z)
  (af:i.size=size) (X:i.bytes=E) (ak:z.cells.size=size) (ag:0<size) (ae:a.eval s=S I 0 0)
  (D:Addr) (c:Nat) (b:List AU) (ai:a.eval x=S (B D) 1 c) (an:b.length=size) (ab:∀ j u,b[j]?=B u->w.cell? (D.add j)=B u) (T:∀ u∈b,u.oneCell'=true)
  (am:E<=140737488355328)
  (h:∀ g' cap' w',w'.ownsRow w.1.size e size (S (B ⟨g',0,I⟩) 1 cap') 1 b->Bw w w'->w.1.size<=g'->GH P O Q rest (a.put o.dst (S (B ⟨g',0,I⟩) 1 cap')) w'):GH P O Q (o::rest) a w:=by
 refine wpList_append_own w Y s x t ad w.1.size e i z size E ah hi aj af X ak ag (S I 0 0) 0 [] ae (World.ownsRow_nil w _ e size) D 1 c b ai oS ab T (by unfold maxLen;omega) oS (CE _) ?_;intro ap w' G Z ac;rw[List.nil_append,Nat.zero_add]at G;rcases G.2 with⟨H,_⟩|⟨g,cap,al,H,W,ao⟩
 ·exact absurd (ac.1 H).2 dE
 subst H;exact h g cap w' G ((Below.refl w.1.size w).grown Z (CE _) (by intro k aa;cases aa)) W
end Go
namespace Go.Proofs.YtjcanieccnljfaaGreat.X
open Go.RowKit Go.XB Go.XN
theorem A0u {w:AD} {b j:Nat} {cs:Array AU} {t:CV} {v:AU} (h:w.1[b]?=B (.cells cs t)):(w.setCell ⟨b,j,I⟩ v).1[b]?=B (.cells (cs.setIfInBounds j v) t):=by
 have u:=lt_of_block h;have D:w.1[b]=.cells cs t (0,0):=by simpa[PF u]using h
 show(w.1.modify b _)[b]?=_;rw[PF (by simpa using u),Array.getElem_modify_self,D];rfl
end Go.Proofs.YtjcanieccnljfaaGreat.X
namespace Go.XB
open Go.RowKit Go.Proofs.YtjcanieccnljfaaGreat.X
theorem D0c {w:AD} {base:Nat} {e:CV} {size:Nat} {v:AU} {n:Nat} {xs:List AU} (h:w.ownsRow base e size v n xs):w.ownsRow 0 e size v n xs :=
 ⟨h.1,h.2.imp id λ⟨g,cap,cur,hv,_,h2⟩=>⟨g,cap,cur,hv,EO _,h2⟩⟩
section
variable {α:Type} [Dat α]
def GrowB (e:CV) (wr:AD) (v:AU) (i:Nat) (ps:List α) (bs:List Nat):Prop :=
 ∃ cells fss,wr.ownsRow 0 e (Dat.sz α) v i cells/\Filled wr cells ps fss/\ps.length=i/\(∀ g,v.ownBlock=B g->g∉fss.flatten)/\bs=v.ownBlock.toList++fss.flatten
variable {e:CV} {wr wa:AD} {v:AU} {i:Nat} {ps:List α} {bs:List Nat}
theorem GrowB.nil (e:CV) (wr:AD):GrowB (α:=α) e wr (S I 0 0) 0 [] [] :=
 ⟨[],[],World.ownsRow_nil _ _ _ _,Filled.nil _ _,rfl,λg h=>by(cases h),rfl⟩
theorem GrowB.made (e:CV) (w:AD):GrowB (α:=α) e (w.alloc (.cells #[] e)) (S (B ⟨w.1.size,0,I⟩) 0 0) 0 [] [w.1.size] :=
 ⟨[],[],World.ownsRow_made w #[] 0 (EO _) (EO _) sI,Filled.nil _ _,rfl,λg _=>sI,rfl⟩
theorem GrowB.lt (h:GrowB e wr v i ps bs):∀ b∈bs,b<wr.1.size:=λb hb=>by
 obtain⟨cells,fss,h1,h2,h3,h4,rfl⟩:=h
 rcases DV.1 hb with hb|hb
 ·exact(World.ownsRow.lt h1 b (by simpa using hb)).2
 exact h2.lt b hb
theorem GrowB.below (h:GrowB e wr v i ps bs) (b:Bw wr wa):GrowB e wa v i ps bs:=by
 obtain⟨cells,fss,u,D,E,G,H⟩:=h;exact⟨cells,fss,I_ u b,D.below b,E,G,H⟩
theorem GrowB.kept (h:GrowB e wr v i ps bs) {r:Option Nat} (E:wr.grownBy wa r) (G:∀ g,r=B g->g∉bs):GrowB e wa v i ps bs:=by
 obtain⟨cells,fss,H,u,O,T,rfl⟩:=h;refine⟨cells,fss,H.kept E ?_,u.keep (λb D=>E.block b (u.lt b D) (λe=>G b e.symm (MR _ D))),O,T,rfl⟩;cases W:v.ownBlock with
 |none=>exact .inl rfl
 |some g=>exact .inr λe=>G g e.symm (MS _ (by rw[W];simp))
theorem GrowB.sl (h:GrowB e wr v i ps bs):∃ A c bs',v=S A i c/\Sl wr A i c ps bs'/\∀ b∈bs',b∈bs:=by
 obtain⟨cells,fss,E,G,H,X,rfl⟩:=h;obtain⟨A,c,bs',W,T,O⟩:=G.sl E H;refine⟨A,c,bs',W,T,λb u=>?_⟩;rcases O with⟨_,rfl⟩|⟨g,D,rfl,_,_⟩;·cases u
 rcases JH.1 u with rfl|u;·exact MS _ (by rw[D];simp)
 exact MR _ u
theorem GrowB.own (h:GrowB e wr v i ps bs):∀ g,v.ownBlock=B g->g∈bs:=λg hg=>by
 obtain⟨cells,fss,h1,h2,h3,h4,rfl⟩:=h
 exact MS _ (by rw[hg];simp)
end
end Go.XB
namespace Go
open Go.RowKit Go.XB Go.Proofs.YtjcanieccnljfaaGreat.X
theorem A9t {P:Program} {α:Type} [Dat α] {wr wa:AD} {v:AU} {k:Nat} {ps:List α} {bs:List Nat} {ay:Array CZ} {rest:List CZ} {o:CZ} {a:Act} {Q:Exit->Act->AD->Prop} {s x:Operand} {t e:CV} {z:AU} {Y:Nat} {X:Addr} {cs:List AU} {pt:α} {zb:List Nat}
  (al:o.guard=I) (ao:o.op=.call { callee:=.builtin .append,args:=#[s,x],argTypes:=#[t,t] }) (ar:P.underlying t=B (.slice e)) (az:(P.info? e).map (λi=>(i.zero,i.size,i.bytes))=B (B z,Dat.sz α,Y)) (aB:GrowB e wr v k ps bs) (ae:Bw wr wa)
  (an:∀ j u,cs[j]?=B u->wa.cell? (X.add j)=B u) (G:Dat.at_ wa cs pt zb) (ap:∀ b∈zb,b∉bs) (W:k+1<=maxLen/\(k+1)*Y<=140737488355328)
  (h:∀ g' cap' w8 bs',Hid (GrowB e w8 (S (B ⟨g',0,I⟩) (k+1) cap') (k+1) (ps++[pt]) bs')->Hid (wa.grownBy w8 v.ownBlock)->Hid (∀ b∈bs',b∈bs\/b∈zb\/wa.1.size<=b)->GH P ay Q rest (a.put o.dst (S (B ⟨g',0,I⟩) (k+1) cap')) w8)
  (aq:a.eval s=v:=by go_simp;done) (au:a.eval x=S (B X) 1 1:=by go_simp;done)
  (ax:z.cells.size=Dat.sz α:=by rfl):GH P ay Q (o::rest) a wa:=by
 obtain⟨i,am,aw,q1,q2⟩:=info_parts az;obtain⟨cells,fss,ab,ac,ad,ak,rfl⟩:=aB;have aa:∀ b∈zb,b<wa.1.size:=Dat.lt G;have aE:=ae.size;have af:=ac.lt;rcases ab.2 with⟨rfl,rfl⟩|⟨gB,cap,aC,rfl,D,T,_⟩
 ·obtain rfl:ps=[]:=IV ad
  obtain rfl:fss=[]:=IV ac.1;refine A8l al s x t ao e i z (Dat.sz α) Y ar am aw q1 q2 ax Dat.pos aq X 1 cs au (Dat.len G) an (Dat.one G) (by have:=W.2;omega) ?_;intro g' cap' w8 aj O aA;refine h g' cap' w8 (g'::zb) ⟨[]++cs,[]++[zb],D0c aj,Filled.push (Filled.nil _ _) sI (Dat.keep G λb D=>O.block b (aa b D)),rfl,?_,by simp[JD]⟩ ⟨O.os,O.tape,O.output,O.size,λk W _=>O.block k W⟩ (λb D=>?_);·intro g T E;injection T with T;simp at T E;have:=aa _ E;omega
  rcases JH.1 D with rfl|D;·exact .inr (.inr aA)
  exact .inr (.inl D)
 have ag:gB∈(S (B ⟨gB,0,I⟩) k cap).ownBlock.toList++fss.flatten:=MS _ (by simp[JD]);refine A1m al s x t ao 0 e i z (Dat.sz α) Y ar am aw q1 q2 ax Dat.pos gB k cap cells aq (I_ ab ae) X 1 1 cs au (by rw[Nat.one_mul];exact Dat.len G) an (Dat.one G) W.1 W.2 (EO _) ?_;intro g' cap' w8 aj ah ai;have aD:=E_ T;have k1:∀ b∈fss.flatten,w8.1[b]?=wr.1[b]?:=λb H=>(ah.block b (by have:=af b H;omega) (by intro e;injection e with e;exact ak gB rfl (e ▸ H))).trans (ae.block b (af b H));have k2:∀ b∈zb,w8.1[b]?=wa.1[b]?:=λb H=>ah.block b (aa b H) (by intro e;injection e with e;exact ap b H (e ▸ ag));refine h g' cap' w8 (g'::(fss++[zb]).flatten) ⟨cells++cs,fss++[zb],aj,Filled.push (ac.keep k1) (by rw[ab.1,ad]) (Dat.keep G k2),by simp[ad],?_,by simp[JD]⟩ ah (λb D=>?_)
 ·intro g Z E
  injection Z with Z;simp at Z;subst Z;rw[List.flatten_append,DV]at E;rcases E with E|E
  ·rcases ai with rfl|rfl
   ·exact ak _ rfl E
   have:=af _ E;omega
  simp at E;rcases ai with rfl|rfl
  ·exact ap _ E ag
  have:=aa _ E;omega
 rcases JH.1 D with rfl|D
 ·rcases ai with rfl|rfl
  ·exact .inl ag
  exact .inr (.inr (CE _))
 rw[List.flatten_append,DV]at D;rcases D with D|D
 ·exact .inl (MR _ D)
 simp at D;exact .inr (.inl D)
theorem Code.setAt {P:Program} {c:Code} {Q:Exit->Act->World->Prop} {a:Act} {y:World} {g i:Nat} {t:TypeId} {v0:Value} {arr arr':Array Value} (K:y.1[g]?=some (.cells arr t)) (h:∀ W,Hid (Sets y W g arr' t)->c.wp P Q a W) (e:arr.setIfInBounds i v0=arr':=by rfl):c.wp P Q a (y.setCell ⟨g,i,none⟩ v0):=h _ ⟨A5y (B3a y _),e ▸ B9q K⟩
end Go

namespace Go.XB
open Go.RowKit
def MP.aggV {α:Type} [Dat α] (x:α):MP:=⟨λv bs w=>Agg w v x bs,λ_ _ _ _ hb h=>h.below hb⟩
def MP.tupS (xs:List TRat):MP:=⟨λv bs w=>bs=[]/\∃ A n c s,v=.tuple #[S A n c,J true]/\Sl w A n c xs s,λ_ _ _ _ hb h=>by
 obtain⟨e0,A,n,c,s,e,h⟩:=h;exact⟨e0,A,n,c,s,e,h.below hb⟩⟩
def MP.tupB (y:AU):MP:=⟨λv bs _=>bs=[]/\v=y/\∃ A n c,v=.tuple #[S A n c,J true],λ_ _ _ _ _ h=>h⟩
def MP.tupC (y:AU):MP:=⟨λv bs _=>bs=[]/\(∃ A n c,v=S A n c)/\y=.tuple #[v,J true],λ_ _ _ _ _ h=>h⟩
end Go.XB
