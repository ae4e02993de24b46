/- A part of the proof. -/
import Derived.WalkKit
import Derived.Deep.QuietTactic
import Derived.Test.YtbhemnidcleaiaaGreatY1
import Derived.ArgAppend
import Derived.Laws.OwnMore
set_option linter.constructorNameAsVariable false
set_option maxHeartbeats 16000000
set_option maxRecDepth 10000
namespace Go.XB
open Go.RowKit

def A8q (P:Program) (R:Value→World→Prop):Result Next→Prop
 | .ok (.value v) w'=>R v w'
 | .ok .skip w'=>R undef w'
 | .ok (.enter f args) w'=>Calls P f args w' fun e w''=>∃ v,e=.returned v∧R v w''
 | _=>False

def B0l (P:Program) (o:Oper) (a:Act) (w:World) (R:Value→World→Prop):Prop:=A8q P R ((execOp a.eval o).run P w)

structure MP where
 p:Value→List Nat→World→Prop
 mono:∀ v bs w w',Below w.heap.size w w'→p v bs w→p v bs w'

def MP.eq (x:Value):MP:=⟨fun v bs _=>v=x∧bs=[],fun _ _ _ _ _ h=>h⟩
def MP.grd (b:Bool) (q:MP):MP:=⟨fun v bs w=>(b=true→q.p v bs w)∧(b=false→v=undef∧bs=[]),fun v bs w w' hb h=>⟨fun e=>q.mono v bs w w' hb (h.1 e),h.2⟩⟩

abbrev DP:=(Nat→Value)→MP
def Cong (m:DP) (ks:List Nat):Prop:=∀ y y',(∀ k∈ks,y k=y' k)→m y=m y'
theorem Cong.const (m:MP) (ks:List Nat):Cong (fun _=>m) ks:=fun _ _ _=>rfl

def M_:List Edge→List Nat
 | []=>[]
 | ⟨_,.textOnly _⟩::es=>M_ es
 | ⟨_,.gcOnly _⟩::es=>M_ es
 | ⟨on,.data⟩::es=>on::M_ es
 | ⟨on,.chain⟩::es=>on::M_ es
 | ⟨on,.guard⟩::es=>on::M_ es
 | ⟨on,.phase⟩::es=>on::M_ es
def P_ (o:Oper):List Nat:=M_ o.after.toList
theorem A8j (k:Nat):∀ (es:List Edge),k∈M_ es↔∃ e∈es,Region.binds .any e=true∧e.on=k
 | []=>by simp[M_]
 | ⟨on,g⟩::es=>by
  have ih:=A8j k es
  cases g<;>simp only [M_,List.mem_cons,ih,exists_eq_or_imp,Region.binds,true_and]<;>simp[@eq_comm _ k]
def opAt (l:List Oper) (k:Nat):Option Tmp:=(l[k]?).bind (·.dst)
def O_ (l:List Oper) (y:Nat→Value) (a:Act) (ks:List Nat):Act:=ks.foldl (fun a k=>a.put (opAt l k) (y k)) a

def part (P:Program) (l:List Oper) (R:Nat→DP) (C:World→Prop) (a0:Act) (i:Nat) (o:Oper):Prop :=
 ∀ (y:Nat→Value) (z:Nat→List Nat) (w:World),C w→(∀ k∈P_ o,(R k y).p (y k) (z k) w) →
  if Region.wanted o (yielded l.toArray (O_ l y a0 (P_ o)).tmps) then
   B0l P o (O_ l y a0 (P_ o)) w fun v w'=>Below w.heap.size w w'∧∃ bs,(R i y).p v bs w'∧∀ b∈bs,w.heap.size≤b∧b<w'.heap.size
  else (R i y).p undef [] w

def B4n (l:List Oper) (o:Oper):List Tmp:=o.looksAt l.toArray

def B1f (l:List Oper) (N:Nat):Bool :=
 Region.noSelect l.toArray &&
 (l.zipIdx.all fun (o,i)=>(match o.dst with | some d=>decide (d<N)&&l.zipIdx.all (fun (o',j)=>i==j || o'.dst != some d) | none=>true) &&
  (B4n l o).all fun t=>l.zipIdx.all fun (o',k)=>o'.dst != some t || (P_ o).contains k || (P_ o').contains i)

section
variable {P:Program} {l:List Oper} {R:Nat→DP} {C:World→Prop} {a0:Act} {base:Nat}

theorem B2j (a:Act) (d:Option Tmp) (v:Value) (t:Tmp):(a.put d v).eval (.tmp t)=if d=some t∧t<a.tmps.size then v else a.eval (.tmp t):=by
 cases d with
 | none=>simp[Act.put]
 | some d =>
  by_cases h:d=t
  ·subst h
   by_cases hs:d<a.tmps.size
   ·simp[Act.put,Act.eval,hs]
   simp[Act.put,Act.eval,hs,Array.getD_eq_getD_getElem?]
  have:(some d=some t)=False:=by simp[h]
  simp[Act.put,Act.eval,this,Array.getElem?_setIfInBounds_ne h]

theorem B9p (a:Act) (d:Option Tmp) (v:Value):(a.put d v).tmps.size=a.tmps.size:=by
 cases d<;>simp[Act.put]

theorem B9u (a:Act) (d:Option Tmp) (v:Value):(a.put d v).defers=a.defers:=by
 cases d<;>rfl

theorem B2p (y:Nat→Value):∀ (ks:List Nat) (a:Act),(O_ l y a ks).tmps.size=a.tmps.size
 | [],_=>rfl
 | k::ks,a=>by
  show (O_ l y (a.put (opAt l k) (y k)) ks).tmps.size=_
  rw[B2p y ks,B9p]

theorem A9l (y:Nat→Value):∀ (ks:List Nat) (a:Act),(O_ l y a ks).defers=a.defers
 | [],_=>rfl
 | k::ks,a=>by
  show (O_ l y (a.put (opAt l k) (y k)) ks).defers=_
  rw[A9l y ks,B9u]

theorem A4m (y:Nat→Value) (t:Tmp):∀ (ks:List Nat) (a:Act),(∀ k∈ks,opAt l k≠some t)→(O_ l y a ks).eval (.tmp t)=a.eval (.tmp t)
 | [],_,_=>rfl
 | k::ks,a,h=>by
  show (O_ l y (a.put (opAt l k) (y k)) ks).eval (.tmp t)=_
  rw[A4m y t ks _ (fun j hj=>h j (List.mem_cons_of_mem _ hj)),B2j,if_neg (fun e=>h k (List.mem_cons_self ..) e.1)]

theorem A8u (y:Nat→Value) (t:Tmp) (k:Nat) (hk:opAt l k=some t) (hu:∀ j,opAt l j=some t→j=k):∀ (ks:List Nat) (a:Act),k∈ks→t<a.tmps.size→(O_ l y a ks).eval (.tmp t)=y k
 | [],_,h,_=>by simp at h
 | j::ks,a,h,hs=>by
  show (O_ l y (a.put (opAt l j) (y j)) ks).eval (.tmp t)=_
  by_cases hkk:k∈ks
  ·exact A8u y t k hk hu ks _ hkk (by rw[B9p];exact hs)
  have hj:k=j:=by
   rcases List.mem_cons.1 h with h | h
   ·exact h
   exact absurd h hkk
  subst hj
  rw[A4m y t ks _ (fun i hi e=>hkk (hu i e ▸ hi)),B2j,if_pos ⟨hk,hs⟩]

structure St (l:List Oper) (R:Nat→DP) (C:World→Prop) (a0:Act) (base:Nat) (listed:Array Bool) (a:Act) (w:World) (y:Nat→Value) (z:Nat→List Nat):Prop where
 c:C w
 hb:base≤w.heap.size
 size:a.tmps.size=a0.tmps.size
 defers:a.defers=a0.defers
 facts:∀ i,listed.getD i false=true→(R i y).p (y i) (z i) w∧∀ b∈z i,base≤b∧b<w.heap.size
 disj:∀ i j,i≠j→listed.getD i false=true→listed.getD j false=true→∀ b∈z i,b∉z j
 closed:∀ k o,l[k]?=some o→listed.getD k false=true→∀ e∈P_ o,listed.getD e false=true
 evalL:∀ t k,opAt l k=some t→listed.getD k false=true→a.eval (.tmp t)=y k
 evalN:∀ t,(∀ k,opAt l k=some t→listed.getD k false=false)→a.eval (.tmp t)=a0.eval (.tmp t)

theorem B3j {N:Nat} (h:B1f l N=true) :
  Region.noSelect l.toArray=true∧(∀ (k:Nat) t,opAt l k=some t→t<N)∧(∀ (j k:Nat) t,opAt l j=some t→opAt l k=some t→j=k) ∧
  (∀ (i:Nat) o,l[i]?=some o→∀ t∈B4n l o,∀ (k:Nat) o',l[k]?=some o'→o'.dst=some t→k∈P_ o∨i∈P_ o'):=by
 simp only [B1f,Bool.and_eq_true,List.all_eq_true] at h
 obtain ⟨h1,h2⟩:=h
 have mem:∀ (i:Nat) o,l[i]?=some o→(o,i)∈l.zipIdx:=fun i o ho=>by
  rw[List.mem_iff_getElem?]
  exact ⟨i,by simp[List.getElem?_zipIdx,ho]⟩
 have ex:∀ (k:Nat) t,opAt l k=some t→∃ o,l[k]?=some o∧o.dst=some t:=fun k t hk=>by
  unfold opAt at hk
  cases ho:l[k]? with
  | none=>simp[ho] at hk
  | some o=>exact ⟨o,rfl,by simpa [ho] using hk⟩
 refine ⟨h1,fun k t hk=>?_,fun j k t hj hk=>?_,fun i o ho t ht k o' ho' hd=>?_⟩
 ·obtain ⟨o,ho,hd⟩:=ex k t hk
  have:=(h2 _ (mem k o ho)).1
  simp only [hd,Bool.and_eq_true,decide_eq_true_eq] at this
  exact this.1
 ·obtain ⟨o,ho,hd⟩:=ex j t hj
  obtain ⟨o',ho',hd'⟩:=ex k t hk
  have:=(h2 _ (mem j o ho)).1
  simp only [hd,Bool.and_eq_true,decide_eq_true_eq,List.all_eq_true] at this
  have h3:=this.2 _ (mem k o' ho')
  simpa [hd'] using h3
 have h3:=(h2 _ (mem i o ho)).2 t ht _ (mem k o' ho')
 simp[hd] at h3
 exact h3

theorem A7y {o:Oper} {a a':Act} (hs:∀ cs b,o.op≠.select cs b) (h:∀ t∈B4n l o,a.eval (.tmp t)=a'.eval (.tmp t)):execOp a.eval o=execOp a'.eval o:=by
 refine execOp_congr o hs fun x hx=>?_
 cases x with
 | tmp t=>exact h t (by simp only [B4n,Oper.looksAt,List.mem_append,List.mem_filterMap];exact .inl ⟨.tmp t,by simpa using hx,rfl⟩)
 | _=>rfl

theorem B9y {tmps:Array Value} {j d:Nat} (hj:(l.toArray[j]?).bind (·.dst)=some d) :
  yielded l.toArray tmps j=match (Act.mk tmps []).eval (.tmp d) with | .bool b=>some b | _=>none:=by
 unfold yielded
 rw[hj]
 simp only [Option.bind_some,Act.eval,Array.getD_eq_getD_getElem?]
 cases tmps[d]? with
 | none=>rfl
 | some v=>cases v<;>rfl

theorem A7w {o:Oper} {a a':Act} (h:∀ t∈B4n l o,a.eval (.tmp t)=a'.eval (.tmp t)):Region.wanted o (yielded l.toArray a.tmps)=Region.wanted o (yielded l.toArray a'.tmps):=by
 unfold Region.wanted
 cases hg:o.guard with
 | none=>rfl
 | some g =>
  obtain ⟨j,want⟩:=g
  have e:yielded l.toArray a.tmps j=yielded l.toArray a'.tmps j:=by
   cases hj:(l.toArray[j]?).bind (·.dst) with
   | none=>unfold yielded;rw[hj];rfl
   | some d =>
    rw[B9y hj,B9y hj,show (Act.mk a.tmps []).eval (.tmp d)=(Act.mk a'.tmps []).eval (.tmp d) from h d (by simp only [B4n,Oper.looksAt,List.mem_append,hg];exact .inr (by rw[hj];simp))]
  show (yielded l.toArray a.tmps j==some want)=(yielded l.toArray a'.tmps j==some want)
  rw[e]

theorem B3k:∀ (L:List Bool) (i:Nat),L[i]?=some false→((L.set i true).filter (fun b=>!b)).length+1=(L.filter (fun b=>!b)).length:=by
 intro L
 induction L with
 | nil=>intro i h;simp at h
 | cons b L ihL =>
  intro i h
  cases i with
  | zero=>simp at h;subst h;simp
  | succ i=>simp at h;have:=ihL i h;cases b<;>simp_all

theorem C4w {N:Nat} (hN:a0.tmps.size=N) (hs2:∀ (k:Nat) t,opAt l k=some t→t<N) (hs3:∀ (j k:Nat) t,opAt l j=some t→opAt l k=some t→j=k) {listed:Array Bool} {a:Act} {w w':World} {y:Nat→Value} {z:Nat→List Nat} {i:Nat} {o:Oper} {v:Value} {bs:List Nat}
  (st:St l R C a0 base listed a w y z) (hol:l[i]?=some o) (hlt:i<listed.size) (hun:listed.getD i false=false) (hsz:listed.size=l.length) (hRc:∀ j o',l[j]?=some o'→(j=i∨listed.getD j false=true)→Cong (R j) (P_ o')) (hdep:∀ e∈P_ o,listed.getD e false=true) (hC':C w') (hbw:Below w.heap.size w w') (hRv:(R i y).p v bs w') (hbs:∀ b∈bs,w.heap.size≤b∧b<w'.heap.size) :
  St l R C a0 base (listed.setIfInBounds i true) (a.put o.dst v) w' (fun j=>if j=i then v else y j) (fun j=>if j=i then bs else z j):=by
 have hset:∀ j,(listed.setIfInBounds i true).getD j false=if j=i then true else listed.getD j false:=by
  intro j
  by_cases hj:j=i
  ·subst hj;simp[hlt]
  simp[Array.getD_eq_getD_getElem?,Array.getElem?_setIfInBounds_ne (Ne.symm hj),hj]
 refine ⟨hC',Nat.le_trans st.hb hbw.size,by rw[B9p,st.size],by rw[B9u,st.defers],?_,?_,?_,?_,?_⟩
 ·intro j hj
  rw[hset] at hj
  by_cases hji:j=i
  ·subst hji
   have e:R j (fun j'=>if j'=j then v else y j')=R j y:=hRc j o hol (.inl rfl) _ _ fun k hk=>by
    have:k≠j:=fun e=>by have:=hdep k hk;rw[e,hun] at this;cases this
    simp[this]
   simp only [if_true,e];exact ⟨hRv,fun b hb=>⟨Nat.le_trans st.hb (hbs b hb).1,(hbs b hb).2⟩⟩
  simp only [hji,if_false] at hj ⊢
  have hjl:j<l.length:=by
   rw[← hsz]
   rcases Nat.lt_or_ge j listed.size with h | h
   ·exact h
   simp[Array.getD_eq_getD_getElem?,Array.getElem?_eq_none h] at hj
  have hoj:l[j]?=some l[j]:=List.getElem?_eq_getElem hjl
  have e:R j (fun j'=>if j'=i then v else y j')=R j y:=hRc j _ hoj (.inr hj) _ _ fun k hk=>by
   have:k≠i:=fun e=>by have:=st.closed j _ hoj hj k hk;rw[e,hun] at this;cases this
   simp[this]
  rw[e]
  exact ⟨(R j y).mono _ _ _ _ hbw (st.facts j hj).1,fun b hb=>⟨((st.facts j hj).2 b hb).1,Nat.lt_of_lt_of_le ((st.facts j hj).2 b hb).2 hbw.size⟩⟩
 ·intro j k hjk hj hk b hb hb'
  rw[hset] at hj hk
  by_cases hji:j=i
  ·subst hji
   have hkj:¬ k=j:=fun e=>hjk e.symm
   simp only [if_true,hkj,if_false] at hb hb' hk
   have h1:=(hbs b hb).1
   have h2:=((st.facts k hk).2 b hb').2
   omega
  by_cases hki:k=i
  ·subst hki
   simp only [if_true,hji,if_false] at hb hb' hj
   have h1:=(hbs b hb').1
   have h2:=((st.facts j hj).2 b hb).2
   omega
  simp only [hji,hki,if_false] at hb hb' hj hk
  exact st.disj j k hjk hj hk b hb hb'
 ·intro k o' ho' hk e he
  rw[hset] at hk ⊢
  by_cases hei:e=i
  ·simp[hei]
  simp only [hei,if_false]
  by_cases hki:k=i
  ·subst hki
   rw[hol] at ho';cases ho'
   exact hdep e he
  simp only [hki,if_false] at hk
  exact st.closed k o' ho' hk e he
 ·intro t k hk hkl
  rw[hset] at hkl
  by_cases hki:k=i
  ·subst hki
   have hd:o.dst=some t:=by simpa [opAt,hol] using hk
   rw[B2j,if_pos ⟨hd,by rw[st.size,hN];exact hs2 k t hk⟩]
   simp
  simp only [hki,if_false] at hkl ⊢
  rw[B2j,if_neg,st.evalL t k hk hkl]
  rintro ⟨hd,_⟩
  exact hki (hs3 k i t hk (by simpa [opAt,hol] using hd))
 intro t ht
 have hit:opAt l i≠some t:=fun e=>by have:=ht i e;rw[hset] at this;simp at this
 rw[B2j,if_neg (fun e=>hit (by simpa [opAt,hol] using e.1))]
 refine st.evalN t fun k hk=>?_
 have:=ht k hk
 rw[hset] at this
 by_cases hki:k=i
 ·simp[hki] at this
 simpa [hki] using this

theorem C4q {Q:Exit→Act→World→Prop} {N:Nat} (hCup:∀ w w',C w→base≤w.heap.size→Below w.heap.size w w'→C w') (hN:a0.tmps.size=N) (hB:B1f l N=true)
  (hpart:∀ i o,l[i]?=some o→part P l R C a0 i o) (hRc:∀ i o,l[i]?=some o→Cong (R i) (P_ o))
  (hQ:∀ (y:Nat→Value) (z:Nat→List Nat) (w:World),C w→(∀ i,i<l.length→(R i y).p (y i) (z i) w∧∀ b∈z i,base≤b∧b<w.heap.size)→(∀ i j,i≠j→i<l.length→j<l.length→∀ b∈z i,b∉z j) →
   Q .normal (O_ l y a0 (List.range l.length)) w) (hcheck:∀ (listed:Array Bool),listed.size=l.length→Region.ready .any l.toArray listed=[]→∀ i,i<l.length→listed.getD i false=true) :
  ∀ (fuel:Nat) (listed:Array Bool) (a:Act) (w:World) (y:Nat→Value) (z:Nat→List Nat),listed.size=l.length→(listed.toList.filter (fun b=>!b)).length≤fuel→St l R C a0 base listed a w y z→wpAny P .any l.toArray Q fuel listed a w:=by
 obtain ⟨hs1,hs2,hs3,hs4⟩:=B3j hB
 have hend:∀ (listed:Array Bool) (a:Act) (w:World) (y:Nat→Value) (z:Nat→List Nat),listed.size=l.length→St l R C a0 base listed a w y z→Region.ready .any l.toArray listed=[]→Q .normal a w:=by
  intro listed a w y z hsz st h0
  have hall:=hcheck listed hsz h0
  have ha:a=O_ l y a0 (List.range l.length):=by
   have e1:a.tmps=(O_ l y a0 (List.range l.length)).tmps:=by
    apply Array.ext
    ·rw[st.size,B2p]
    intro t h1 h2
    have key:a.eval (.tmp t)=(O_ l y a0 (List.range l.length)).eval (.tmp t):=by
     by_cases hk:∃ k,opAt l k=some t
     ·obtain ⟨k,hk⟩:=hk
      have hkl:k<l.length:=by
       unfold opAt at hk
       rcases Nat.lt_or_ge k l.length with h | h
       ·exact h
       simp[List.getElem?_eq_none h] at hk
      rw[st.evalL t k hk (hall k hkl),A8u y t k hk (fun j hj=>hs3 j k t hj hk) _ _ (List.mem_range.2 hkl) (by rw[← st.size];exact h1)]
     rw[st.evalN t (fun k hk'=>absurd ⟨k,hk'⟩ hk),A4m y t _ _ (fun k _ hk'=>hk ⟨k,hk'⟩)]
    simpa [Act.eval,h1,h2] using key
   have e2:a.defers=(O_ l y a0 (List.range l.length)).defers:=by rw[st.defers,A9l]
   cases a
   simp only at e1 e2
   rw[e1,e2]
  rw[ha]
  exact hQ y z w st.c (fun i hi=>st.facts i (hall i hi)) (fun i j hij hi hj=>st.disj i j hij (hall i hi) (hall j hj))
 intro fuel
 induction fuel with
 | zero =>
  intro listed a w y z hsz hf st
  have hno:Region.ready .any l.toArray listed=[]:=by
   cases hr:Region.ready .any l.toArray listed with
   | nil=>rfl
   | cons i is =>
    have hi:i∈Region.ready .any l.toArray listed:=by rw[hr];exact List.mem_cons_self ..
    obtain ⟨hun,_⟩:=mem_ready.1 hi
    exfalso
    have hlt:i<listed.size:=by
     rcases Nat.lt_or_ge i listed.size with h | h
     ·exact h
     simp[Array.getElem?_eq_none h,Array.getD_eq_getD_getElem?] at hun
    have hmem:false∈listed.toList.filter (fun b=>!b):=by
     rw[List.mem_filter]
     refine ⟨?_,rfl⟩
     have:listed[i]=false:=by simpa [Array.getD_eq_getD_getElem?,hlt] using hun
     rw[← this]
     exact Array.getElem_mem_toList hlt
    have:=List.length_pos_of_mem hmem
    omega
  exact ⟨hno,hend listed a w y z hsz st hno⟩
 | succ fuel ih =>
  intro listed a w y z hsz hf st
  refine ⟨fun h0=>hend listed a w y z hsz st h0,fun i hi=>?_⟩
  obtain ⟨hun,o,ho,hall⟩:=mem_ready.1 hi
  have hol:l[i]?=some o:=by simpa using ho
  have hil:i<l.length:=by
   rcases Nat.lt_or_ge i l.length with h | h
   ·exact h
   simp[List.getElem?_eq_none h] at hol
  have hlt:i<listed.size:=by omega
  have hunF:listed.getD i false=false:=by
   have:listed[i]=false:=by simpa [Array.getD_eq_getD_getElem?,hlt] using hun
   simpa [Array.getD_eq_getD_getElem?,hlt] using this
  have hdep:∀ e∈P_ o,listed.getD e false=true:=by
   intro e he
   obtain ⟨ed,hed,hbd,rfl⟩:=(A8j e _).1 he
   simpa using hall ed (by simpa using hed) hbd
  have hsel:∀ cs b,o.op≠.select cs b:=fun cs b=>Region.noSelect_spec hs1 i o cs b ho
  have hlook:∀ t∈B4n l o,a.eval (.tmp t)=(O_ l y a0 (P_ o)).eval (.tmp t):=by
   intro t ht
   by_cases hk:∃ k,opAt l k=some t
   ·obtain ⟨k,hk⟩:=hk
    obtain ⟨o',ho',hd'⟩:∃ o',l[k]?=some o'∧o'.dst=some t:=by
     unfold opAt at hk
     cases h:l[k]? with
     | none=>simp[h] at hk
     | some o'=>exact ⟨o',rfl,by simpa [h] using hk⟩
    by_cases hkd:k∈P_ o
    ·rw[st.evalL t k hk (hdep k hkd),A8u y t k hk (fun j hj=>hs3 j k t hj hk) _ _ hkd (by rw[hN];exact hs2 k t hk)]
    have hik:i∈P_ o':=(hs4 i o hol t ht k o' ho' hd').resolve_left hkd
    have hkun:listed.getD k false=false:=by
     cases hkk:listed.getD k false with
     | false=>rfl
     | true=>have:=st.closed k o' ho' hkk i hik;rw[hunF] at this;cases this
    rw[st.evalN t (fun k' hk'=>by rw[hs3 k' k t hk' hk];exact hkun),A4m y t _ _ (fun k' hk'd hk'=>hkd (hs3 k' k t hk' hk ▸ hk'd))]
   rw[st.evalN t (fun k hk'=>absurd ⟨k,hk'⟩ hk),A4m y t _ _ (fun k _ hk'=>hk ⟨k,hk'⟩)]
  have hp:=hpart i o hol y z w st.c (fun k hk=>(st.facts k (hdep k hk)).1)
  rw[← A7w hlook] at hp
  have onward:∀ (v:Value) (bs:List Nat) (w':World),C w'→Below w.heap.size w w'→(R i y).p v bs w'→(∀ b∈bs,w.heap.size≤b∧b<w'.heap.size)→wpAny P .any l.toArray Q fuel (listed.setIfInBounds i true) (a.put o.dst v) w':=by
   intro v bs w' hC' hbw hRv hbs
   refine ih (listed.setIfInBounds i true) (a.put o.dst v) w' (fun j=>if j=i then v else y j) (fun j=>if j=i then bs else z j) (by simpa using hsz) ?_ (C4w hN hs2 hs3 st hol hlt hunF hsz (fun j o' hj _=>hRc j o' hj) hdep hC' hbw hRv hbs)
   have h1:=B3k listed.toList i (by
    have:listed[i]=false:=by simpa [Array.getD_eq_getD_getElem?,hlt] using hun
    simp[hlt,this])
   have h2:(listed.setIfInBounds i true).toList=listed.toList.set i true:=by simp
   rw[h2];omega
  unfold wpOp
  simp only [ho]
  split
  ·rename_i hw
   rw[if_pos hw] at hp
   refine .inl ?_
   unfold B0l at hp
   unfold Oper.wp
   rw[← A7y hsel hlook] at hp
   generalize (execOp a.eval o).run P w=r at hp
   cases r with
   | ok n w' =>
    cases n<;>simp only [A8q] at hp<;>simp only [Oper.upon]
    case value u =>
     obtain ⟨h2,bs,h3,h4⟩:=hp
     exact onward _ bs _ (hCup _ _ st.c st.hb h2) h2 h3 h4
    case skip =>
     obtain ⟨h2,bs,h3,h4⟩:=hp
     exact onward _ bs _ (hCup _ _ st.c st.hb h2) h2 h3 h4
    case enter f args =>
     refine hp.mono fun e w'' he=>?_
     obtain ⟨v,rfl,h2,bs,h3,h4⟩:=he
     exact onward _ bs _ (hCup _ _ st.c st.hb h2) h2 h3 h4
   | halt x w'=>simp only [A8q] at hp
  rename_i hw
  rw[if_neg hw] at hp
  exact onward undef [] w st.c (Below.refl _ _) hp (fun b hb=>by simp at hb)

def C6u (l:List Oper):List Nat→List Nat→List Nat
 | [],R=>R
 | i::is,R=>C6u l is (if R.contains i then (match l[i]? with | some o=>P_ o | none=>[])++R else R)

theorem B0q {listed:Array Bool} {n:Nat} (hcl:∀ k o,l[k]?=some o→k≠n→listed.getD k false=true→∀ e∈P_ o,listed.getD e false=true)
  (hn:∀ o,l[n]?=some o→∀ e∈P_ o,listed.getD e false=true):∀ (is R:List Nat),(∀ k∈R,k=n∨listed.getD k false=true)→∀ k∈C6u l is R,k=n∨listed.getD k false=true
 | [],_,h,k,hk=>h k hk
 | i::is,R,h,k,hk=>by
  refine B0q hcl hn is _ ?_ k hk
  intro j hj
  split at hj
  ·rename_i hc
   rcases List.mem_append.1 hj with hj | hj
   ·cases ho:l[i]? with
    | none=>rw[ho] at hj;simp at hj
    | some o =>
     rw[ho] at hj
     by_cases hin:i=n
     ·subst hin;exact .inr (hn o ho j hj)
     rcases h i (by simpa using hc) with e | e
     ·exact absurd e hin
     exact .inr (hcl i o ho hin e j hj)
   exact h j hj
  exact h j hj

def C3k (l:List Oper):Bool :=
 let n:=l.length - 1
 let R:=C6u l (List.range l.length).reverse [n]
 decide (0<l.length)&&(List.range n).all fun k=>R.contains k

theorem C5r {Q:Exit→Act→World→Prop} {N:Nat} (hCup:∀ w w',C w→base≤w.heap.size→Below w.heap.size w w'→C w') (hN:a0.tmps.size=N) (hB:B1f l N=true) (hT:C3k l=true)
  {last:Oper} (hlast:l[l.length - 1]?=some last)
  (hpart:∀ i o,i<l.length - 1→l[i]?=some o→part P l R C a0 i o) (hRc:∀ i o,i<l.length - 1→l[i]?=some o→Cong (R i) (P_ o))
  (hQ:∀ (y:Nat→Value) (z:Nat→List Nat) (w:World),C w→(∀ i,i<l.length - 1→(R i y).p (y i) (z i) w∧∀ b∈z i,base≤b∧b<w.heap.size)→(∀ i j,i≠j→i<l.length - 1→j<l.length - 1→∀ b∈z i,b∉z j) →
   wpList P l.toArray Q [last] (O_ l y a0 (List.range (l.length - 1))) w)
  (hcheck:∀ (listed:Array Bool),listed.size=l.length→Region.ready .any l.toArray listed=[]→∀ i,i<l.length→listed.getD i false=true) :
  ∀ (fuel:Nat) (listed:Array Bool) (a:Act) (w:World) (y:Nat→Value) (z:Nat→List Nat),listed.size=l.length→(listed.toList.filter (fun b=>!b)).length≤fuel→listed.getD (l.length - 1) false=false →
   St l R C a0 base listed a w y z→wpAny P .any l.toArray Q fuel listed a w:=by
 obtain ⟨hs1,hs2,hs3,hs4⟩:=B3j hB
 simp only [C3k,Bool.and_eq_true,decide_eq_true_eq,List.all_eq_true] at hT
 obtain ⟨hpos,hT⟩:=hT
 intro fuel
 induction fuel with
 | zero =>
  intro listed a w y z hsz hf hun st
  exfalso
  have hlt:l.length - 1<listed.size:=by omega
  have hmem:false∈listed.toList.filter (fun b=>!b):=by
   rw[List.mem_filter]
   refine ⟨?_,rfl⟩
   have:listed[l.length - 1]=false:=by simpa [Array.getD_eq_getD_getElem?,hlt] using hun
   rw[← this]
   exact Array.getElem_mem_toList hlt
  have:=List.length_pos_of_mem hmem
  omega
 | succ fuel ih =>
  intro listed a w y z hsz hf hun st
  refine ⟨fun h0=>(by have:=hcheck listed hsz h0 (l.length - 1) (by omega);rw[hun] at this;cases this),fun i hi=>?_⟩
  obtain ⟨hunT,o,ho,hall⟩:=mem_ready.1 hi
  have hol:l[i]?=some o:=by simpa using ho
  have hil:i<l.length:=by
   rcases Nat.lt_or_ge i l.length with h | h
   ·exact h
   simp[List.getElem?_eq_none h] at hol
  have hlt:i<listed.size:=by omega
  have hunF:listed.getD i false=false:=by
   have:listed[i]=false:=by simpa [Array.getD_eq_getD_getElem?,hlt] using hunT
   simpa [Array.getD_eq_getD_getElem?,hlt] using this
  have hdep:∀ e∈P_ o,listed.getD e false=true:=by
   intro e he
   obtain ⟨ed,hed,hbd,rfl⟩:=(A8j e _).1 he
   simpa using hall ed (by simpa using hed) hbd
  have hsel:∀ cs b,o.op≠.select cs b:=fun cs b=>Region.noSelect_spec hs1 i o cs b ho
  by_cases hin:i=l.length - 1
  ·-- the last one: all the others have come up
   subst hin
   have hfront:∀ k,k<l.length - 1→listed.getD k false=true:=fun k hk=>by
    have hr:=B0q (l:=l) (listed:=listed) (n:=l.length - 1) (fun k o hko _ hk=>st.closed k o hko hk) (fun o' ho' e he=>by
     rw[hol] at ho';cases ho';exact hdep e he) (List.range l.length).reverse [l.length - 1] (fun k hk=>by simp at hk;exact .inl hk) k
     (by have:=hT k (List.mem_range.2 hk);simpa using this)
    rcases hr with e | e
    ·omega
    exact e
   have hlo:o=last:=by rw[hol] at hlast;exact Option.some.inj hlast
   subst hlo
   have ha:a=O_ l y a0 (List.range (l.length - 1)):=by
    have e1:a.tmps=(O_ l y a0 (List.range (l.length - 1))).tmps:=by
     apply Array.ext
     ·rw[st.size,B2p]
     intro t h1 h2
     have key:a.eval (.tmp t)=(O_ l y a0 (List.range (l.length - 1))).eval (.tmp t):=by
      by_cases hk:∃ k,k<l.length - 1∧opAt l k=some t
      ·obtain ⟨k,hkl,hk⟩:=hk
       rw[st.evalL t k hk (hfront k hkl),A8u y t k hk (fun j hj=>hs3 j k t hj hk) _ _ (List.mem_range.2 hkl) (by rw[← st.size];exact h1)]
      rw[st.evalN t (fun k hk'=>?_),A4m y t _ _ (fun k hkm hk'=>hk ⟨k,List.mem_range.1 hkm,hk'⟩)]
      by_cases hkl:k<l.length - 1
      ·exact absurd ⟨k,hkl,hk'⟩ hk
      by_cases hke:k=l.length - 1
      ·rw[hke];exact hun
      have:l.length≤k:=by omega
      simp[opAt,List.getElem?_eq_none this] at hk'
     simpa [Act.eval,h1,h2] using key
    have e2:a.defers=(O_ l y a0 (List.range (l.length - 1))).defers:=by rw[st.defers,A9l]
    cases a
    simp only at e1 e2
    rw[e1,e2]
   have h:=hQ y z w st.c (fun i hi=>st.facts i (hfront i hi)) (fun i j hij hi hj=>st.disj i j hij (hfront i hi) (hfront j hj))
   rw[← ha] at h
   have hnone:∀ (a':Act) (w':World),Q .normal a' w'→wpAny P .any l.toArray Q fuel (listed.setIfInBounds (l.length - 1) true) a' w':=by
    intro a' w' hq
    have hr0:Region.ready .any l.toArray (listed.setIfInBounds (l.length - 1) true)=[]:=by
     cases hr:Region.ready .any l.toArray (listed.setIfInBounds (l.length - 1) true) with
     | nil=>rfl
     | cons j js =>
      exfalso
      have hj:j∈Region.ready .any l.toArray (listed.setIfInBounds (l.length - 1) true):=by rw[hr];exact List.mem_cons_self ..
      obtain ⟨hju,oj,hoj,_⟩:=mem_ready.1 hj
      have hjl:j<l.length:=by
       rcases Nat.lt_or_ge j l.length with h | h
       ·exact h
       simp[List.getElem?_eq_none h] at hoj
      have hjs:j<(listed.setIfInBounds (l.length - 1) true).size:=by simp;omega
      by_cases hje:j=l.length - 1
      ·subst hje
       simp[hlt] at hju
      have h1:=hfront j (by omega)
      have hjls:j<listed.size:=by omega
      rw[Array.getD_eq_getD_getElem?,Array.getElem?_setIfInBounds_ne (by omega)] at hju
      simp[hjls] at hju h1
      rw[h1] at hju;cases hju
    cases fuel with
    | zero=>exact ⟨hr0,hq⟩
    | succ f=>exact ⟨fun _=>hq,fun j hj=>by rw[hr0] at hj;simp at hj⟩
   refine wpOp_mono hnone ?_
   unfold wpOp
   simp only [ho]
   unfold wpList at h
   split
   ·rename_i hw;rw[if_pos hw] at h;exact h
   rename_i hw;rw[if_neg hw] at h;exact h
  have hlook:∀ t∈B4n l o,a.eval (.tmp t)=(O_ l y a0 (P_ o)).eval (.tmp t):=by
   intro t ht
   by_cases hk:∃ k,opAt l k=some t
   ·obtain ⟨k,hk⟩:=hk
    obtain ⟨o',ho',hd'⟩:∃ o',l[k]?=some o'∧o'.dst=some t:=by
     unfold opAt at hk
     cases h:l[k]? with
     | none=>simp[h] at hk
     | some o'=>exact ⟨o',rfl,by simpa [h] using hk⟩
    by_cases hkd:k∈P_ o
    ·rw[st.evalL t k hk (hdep k hkd),A8u y t k hk (fun j hj=>hs3 j k t hj hk) _ _ hkd (by rw[hN];exact hs2 k t hk)]
    have hik:i∈P_ o':=(hs4 i o hol t ht k o' ho' hd').resolve_left hkd
    have hkun:listed.getD k false=false:=by
     cases hkk:listed.getD k false with
     | false=>rfl
     | true=>have:=st.closed k o' ho' hkk i hik;rw[hunF] at this;cases this
    rw[st.evalN t (fun k' hk'=>by rw[hs3 k' k t hk' hk];exact hkun),A4m y t _ _ (fun k' hk'd hk'=>hkd (hs3 k' k t hk' hk ▸ hk'd))]
   rw[st.evalN t (fun k hk'=>absurd ⟨k,hk'⟩ hk),A4m y t _ _ (fun k _ hk'=>hk ⟨k,hk'⟩)]
  have hp:=hpart i o (by omega) hol y z w st.c (fun k hk=>(st.facts k (hdep k hk)).1)
  rw[← A7w hlook] at hp
  have onward:∀ (v:Value) (bs:List Nat) (w':World),Below w.heap.size w w'→(R i y).p v bs w'→(∀ b∈bs,w.heap.size≤b∧b<w'.heap.size)→wpAny P .any l.toArray Q fuel (listed.setIfInBounds i true) (a.put o.dst v) w':=by
   intro v bs w' hbw hRv hbs
   have hn1:(listed.setIfInBounds i true).getD (l.length - 1) false=false:=by
    rw[Array.getD_eq_getD_getElem?,Array.getElem?_setIfInBounds_ne hin,← Array.getD_eq_getD_getElem?];exact hun
   refine ih (listed.setIfInBounds i true) (a.put o.dst v) w' (fun j=>if j=i then v else y j) (fun j=>if j=i then bs else z j) (by simpa using hsz) ?_ hn1 (C4w hN hs2 hs3 st hol hlt hunF hsz (fun j o' hj hor=>hRc j o' (by
    have hjl:=(List.getElem?_eq_some_iff.1 hj).1
    have:j≠l.length - 1:=fun e=>by
     rcases hor with h | h
     ·exact hin (h ▸ e)
     rw[e,hun] at h;cases h
    omega) hj) hdep (hCup _ _ st.c st.hb hbw) hbw hRv hbs)
   have:=B3k listed.toList i (by
    have:listed[i]=false:=by simpa [Array.getD_eq_getD_getElem?,hlt] using hunT
    simp[hlt,this])
   have h2:(listed.setIfInBounds i true).toList=listed.toList.set i true:=by simp
   rw[h2];omega
  unfold wpOp
  simp only [ho]
  split
  ·rename_i hw
   rw[if_pos hw] at hp
   refine .inl ?_
   unfold B0l at hp
   unfold Oper.wp
   rw[← A7y hsel hlook] at hp
   generalize (execOp a.eval o).run P w=r at hp
   cases r with
   | ok n w' =>
    cases n<;>simp only [A8q] at hp<;>simp only [Oper.upon]
    case value u =>
     obtain ⟨h2,bs,h3,h4⟩:=hp
     exact onward _ bs _ h2 h3 h4
    case skip =>
     obtain ⟨h2,bs,h3,h4⟩:=hp
     exact onward _ bs _ h2 h3 h4
    case enter f args =>
     refine hp.mono fun e w'' he=>?_
     obtain ⟨v,rfl,h2,bs,h3,h4⟩:=he
     exact onward _ bs _ h2 h3 h4
   | halt x w'=>simp only [A8q] at hp
  rename_i hw
  rw[if_neg hw] at hp
  exact onward undef [] w (Below.refl _ _) hp (fun b hb=>by simp at hb)

def C3o (P:Program) (l:List Oper) (R:Nat→DP) (C:World→Prop) (a0:Act):Nat→List Oper→Prop
 | _,[]=>True
 | i,o::os=>(Cong (R i) (P_ o)∧part P l R C a0 i o)∧C3o P l R C a0 (i+1) os

theorem A6c:∀ (os:List Oper) (k:Nat),C3o P l R C a0 k os→∀ i o,os[i]?=some o→Cong (R (k+i)) (P_ o)∧part P l R C a0 (k+i) o
 | [],_,_,i,o,h=>by simp at h
 | x::os,k,hp,0,o,h=>by simp at h;subst h;exact hp.1
 | x::os,k,hp,i+1,o,h=>by
  have:=A6c os (k+1) hp.2 i o (by simpa using h)
  rw[show k+(i+1)=k+1+i by omega];exact this

def B0b (l:List Oper):Bool:=l.zipIdx.all fun (o,i)=>(P_ o).all fun e=>decide (e<i)

theorem B5p (hB:B0b l=true) (listed:Array Bool) (hsz:listed.size=l.length) (h0:Region.ready .any l.toArray listed=[]):∀ i,i<l.length→listed.getD i false=true:=by
 intro i
 induction i using Nat.strongRecOn with
 | _ i ih =>
  intro hi
  cases hc:listed.getD i false with
  | true=>rfl
  | false =>
   exfalso
   have hol:l[i]?=some l[i]:=List.getElem?_eq_getElem hi
   have hd:∀ e∈P_ l[i],e<i:=by
    intro e he
    simp only [B0b,List.all_eq_true] at hB
    have:=hB (l[i],i) (by rw[List.mem_iff_getElem?];exact ⟨i,by simp[List.getElem?_zipIdx,hol]⟩) e he
    simpa using this
   have:i∈Region.ready .any l.toArray listed:=mem_ready.2 ⟨by
    have hlt:i<listed.size:=by omega
    simpa [Array.getD_eq_getD_getElem?,hlt] using hc,l[i],by simp,fun e he hb=>by
    have hm:e.on∈P_ l[i]:=(A8j _ _).2 ⟨e,by simpa using he,hb,rfl⟩
    have:=ih e.on (hd _ hm) (by have:=hd _ hm;omega)
    simpa using this⟩
   rw[h0] at this
   cases this

theorem B8l {id:Nat} {Q:Exit→Act→World→Prop} {w:World} (Rs:List DP) (hm:P.follows .mixedOrders=true) (hB:B1f l a0.tmps.size=true) (hK:B0b l=true)
  (hparts:C3o P l (fun i=>Rs.getD i (fun _=>MP.eq undef)) (fun w'=>Below w.heap.size w w') a0 0 l)
  (hQ:∀ (y:Nat→Value) (z:Nat→List Nat) (w':World),Below w.heap.size w w'→(∀ i,i<l.length→(Rs.getD i (fun _=>MP.eq undef) y).p (y i) (z i) w'∧∀ b∈z i,w.heap.size≤b∧b<w'.heap.size) →
   (∀ i j,i≠j→i<l.length→j<l.length→∀ b∈z i,b∉z j)→Q .normal (O_ l y a0 (List.range l.length)) w'):(Code.region id l.toArray true).wp P Q a0 w:=by
 refine wp_region_any hm ?_
 refine C4q (R:=fun i=>Rs.getD i (fun _=>MP.eq undef)) (C:=fun w'=>Below w.heap.size w w') (a0:=a0) (base:=w.heap.size) (N:=a0.tmps.size) (fun w1 w2 h1 h2 h3=>h1.trans (h3.mono h2)) rfl hB (fun i o ho=>by have:=(A6c l 0 hparts i o ho).2;rwa [Nat.zero_add] at this) (fun i o ho=>by have:=(A6c l 0 hparts i o ho).1;rwa [Nat.zero_add] at this) hQ (fun listed hsz h0=>B5p hK listed hsz h0) _ _ a0 _ (fun _=>undef) (fun _=>[]) (by simp) ?_ ?_
 ·simp
 have hf:∀ i,(Array.replicate l.toArray.size false).getD i false=false:=by
  intro i
  rw[Array.getD_eq_getD_getElem?,Array.getElem?_replicate]
  split<;>rfl
 refine ⟨⟨rfl,rfl,rfl,Nat.le_refl _,fun _ _=>rfl⟩,Nat.le_refl _,rfl,rfl,?_,?_,?_,?_,?_⟩
 ·intro i hi;rw[hf] at hi;cases hi
 ·intro i j _ hi;rw[hf] at hi;cases hi
 ·intro k o _ hk;rw[hf] at hk;cases hk
 ·intro t k _ hk;rw[hf] at hk;cases hk
 intro t _;rfl
def D4q (P:Program) (l:List Oper) (acc:List DP) (m:DP) (w0:World) (a0:Act) (o:Oper):Prop :=
 ∀ (y:Nat→Value) (z:Nat→List Nat) (w:World),Below w0.heap.size w0 w→(∀ k∈P_ o,(acc.getD k (fun _=>MP.eq undef) y).p (y k) (z k) w) →
  if Region.wanted o (yielded l.toArray (O_ l y a0 (P_ o)).tmps) then
   B0l P o (O_ l y a0 (P_ o)) w fun v w'=>Below w.heap.size w w'∧∃ bs,(m y).p v bs w'∧∀ b∈bs,w.heap.size≤b∧b<w'.heap.size
  else (m y).p undef [] w

def A3y (P:Program) (l:List Oper) (w0:World) (a0:Act) (F:List DP→Prop):List Oper→List DP→Prop
 | [],acc=>F acc
 | o::os,acc=>∃ m:DP,Cong m (P_ o)∧D4q P l acc m w0 a0 o∧A3y P l w0 a0 F os (acc++[m])

theorem B2i {w0:World} {F:List DP→Prop} (hK:B0b l=true):∀ (os:List Oper) (acc:List DP),(∀ j,j<os.length→os[j]?=l[acc.length+j]?)→A3y P l w0 a0 F os acc →
  ∃ Rs:List DP,F Rs∧(∀ k,k<acc.length→Rs.getD k (fun _=>MP.eq undef)=acc.getD k (fun _=>MP.eq undef))∧C3o P l (fun i=>Rs.getD i (fun _=>MP.eq undef)) (fun w'=>Below w0.heap.size w0 w') a0 acc.length os
 | [],acc,_,h=>⟨acc,h,fun _ _=>rfl,trivial⟩
 | o::os,acc,hl,h=>by
  obtain ⟨m,hcg,hp,hw⟩:=h
  obtain ⟨Rs,hF,hag,hps⟩:=B2i hK os (acc++[m]) (fun j hj=>by have:=hl (j+1) (by simp;omega);simpa [Nat.add_assoc,Nat.add_comm 1 j] using this) hw
  have hlow:∀ k,k<acc.length→Rs.getD k (fun _=>MP.eq undef)=acc.getD k (fun _=>MP.eq undef):=fun k hk=>by
   rw[hag k (by simp;omega)]
   simp[List.getD_eq_getElem?_getD,List.getElem?_append_left hk]
  have hself:Rs.getD acc.length (fun _=>MP.eq undef)=m:=by rw[hag _ (by simp)];simp[List.getD_eq_getElem?_getD]
  refine ⟨Rs,hF,hlow,⟨by simpa only [hself] using hcg,?_⟩,by simpa using hps⟩
  intro y z w hC hd
  have hol:l[acc.length]?=some o:=by simpa using (hl 0 (by simp)).symm
  have:=hp y z w hC (fun k hk=>by
   have hlt:k<acc.length:=by
    simp only [B0b,List.all_eq_true] at hK
    have:=hK (o,acc.length) (by rw[List.mem_iff_getElem?];exact ⟨acc.length,by simp[List.getElem?_zipIdx,hol]⟩) k hk
    simpa using this
   have h1:=hd k hk
   simp only [hlow k hlt] at h1
   exact h1)
  simp only [hself]
  exact this

theorem B6k {w0:World} {F:List DP→Prop} (hK:B0b l=true):∀ (os:List Oper) (acc:List DP),(∀ j,os[j]?=l[acc.length+j]?)→A3y P l w0 a0 F os acc →
  ∃ Rs:List DP,F Rs∧(∀ k,k<acc.length→Rs.getD k (fun _=>MP.eq undef)=acc.getD k (fun _=>MP.eq undef))∧C3o P l (fun i=>Rs.getD i (fun _=>MP.eq undef)) (fun w'=>Below w0.heap.size w0 w') a0 acc.length os
 | [],acc,_,h=>⟨acc,h,fun _ _=>rfl,trivial⟩
 | o::os,acc,hl,h=>by
  obtain ⟨m,hcg,hp,hw⟩:=h
  obtain ⟨Rs,hF,hag,hps⟩:=B6k hK os (acc++[m]) (fun j=>by have:=hl (j+1);simpa [Nat.add_assoc,Nat.add_comm 1 j] using this) hw
  have hlow:∀ k,k<acc.length→Rs.getD k (fun _=>MP.eq undef)=acc.getD k (fun _=>MP.eq undef):=fun k hk=>by
   rw[hag k (by simp;omega)]
   simp[List.getD_eq_getElem?_getD,List.getElem?_append_left hk]
  have hself:Rs.getD acc.length (fun _=>MP.eq undef)=m:=by rw[hag _ (by simp)];simp[List.getD_eq_getElem?_getD]
  refine ⟨Rs,hF,hlow,⟨by simpa only [hself] using hcg,?_⟩,by simpa using hps⟩
  intro y z w hC hd
  have hol:l[acc.length]?=some o:=by simpa using (hl 0).symm
  have:=hp y z w hC (fun k hk=>by
   have hlt:k<acc.length:=by
    simp only [B0b,List.all_eq_true] at hK
    have:=hK (o,acc.length) (by rw[List.mem_iff_getElem?];exact ⟨acc.length,by simp[List.getElem?_zipIdx,hol]⟩) k hk
    simpa using this
   have h1:=hd k hk
   simp only [hlow k hlt] at h1
   exact h1)
  simp only [hself]
  exact this

def A0e (w w':World) (y:Nat→Value) (z:Nat→List Nat):Nat→List DP→Prop
 | _,[]=>True
 | i,m::ms=>((m y).p (y i) (z i) w'∧∀ b∈z i,w.heap.size≤b∧b<w'.heap.size)∧A0e w w' y z (i+1) ms

theorem B4r {w w':World} {y:Nat→Value} {z:Nat→List Nat}:∀ (ms:List DP) (i:Nat),(∀ k m,ms[k]?=some m→(m y).p (y (i+k)) (z (i+k)) w'∧∀ b∈z (i+k),w.heap.size≤b∧b<w'.heap.size)→A0e w w' y z i ms
 | [],_,_=>trivial
 | m::ms,i,h=>⟨by have:=h 0 m rfl;exact this,B4r ms (i+1) fun k m' hk=>by have:=h (k+1) m' (by simpa using hk);rw[show i+1+k=i+(k+1) by omega];exact this⟩

def C7y (z:Nat→List Nat) (n:Nat):Prop:=∀ i j,i≠j→i<n→j<n→∀ b∈z i,b∉z j

theorem B9k {id:Nat} {Q:Exit→Act→World→Prop} {w:World} (hm:P.follows .mixedOrders=true) (hB:B1f l a0.tmps.size=true) (hK:B0b l=true)
  (h:A3y P l w a0 (fun Rs=>∀ (y:Nat→Value) (z:Nat→List Nat) (w':World),Below w.heap.size w w'→A0e w w' y z 0 (Rs.take l.length) →
   C7y z l.length→Q .normal (O_ l y a0 (List.range l.length)) w') l []):(Code.region id l.toArray true).wp P Q a0 w:=by
 obtain ⟨Rs,hF,_,hps⟩:=B6k hK l [] (by simp) h
 refine B8l Rs hm hB hK hps fun y z w' h1 h2 h3=>hF y z w' h1 (B4r _ 0 fun k m hk=>?_) h3
 rw[Nat.zero_add]
 rw[List.getElem?_take] at hk
 split at hk
 ·rename_i hlt
  have:=h2 k hlt
  simpa [List.getD_eq_getElem?_getD,hk] using this
 cases hk

theorem B7x {id:Nat} {Q:Exit→Act→World→Prop} {w:World} (front:List Oper) (last:Oper) (hl:l=front++[last]) (hm:P.follows .mixedOrders=true) (hB:B1f l a0.tmps.size=true) (hK:B0b l=true) (hT:C3k l=true)
  (h:A3y P l w a0 (fun Rs=>∀ (y:Nat→Value) (z:Nat→List Nat) (w':World),Below w.heap.size w w'→A0e w w' y z 0 (Rs.take front.length) →
   C7y z front.length→wpList P l.toArray Q [last] (O_ l y a0 (List.range front.length)) w') front []):(Code.region id l.toArray true).wp P Q a0 w:=by
 have hlen:l.length - 1=front.length:=by rw[hl];simp
 have hfr:∀ j,j<front.length→front[j]?=l[j]?:=fun j hj=>by rw[hl,List.getElem?_append_left hj]
 obtain ⟨Rs,hF,_,hps⟩:=B2i hK front [] (fun j hj=>by simpa using hfr j hj) h
 refine wp_region_any hm ?_
 refine C5r (R:=fun i=>Rs.getD i (fun _=>MP.eq undef)) (C:=fun w'=>Below w.heap.size w w') (a0:=a0) (base:=w.heap.size) (N:=a0.tmps.size) (last:=last) (fun w1 w2 h1 h2 h3=>h1.trans (h3.mono h2)) rfl hB hT (by rw[hlen,hl];simp)
  (fun i o hi ho=>?_) ?_ ?_ (fun listed hsz h0=>B5p hK listed hsz h0) _ _ a0 _ (fun _=>undef) (fun _=>[]) (by simp) ?_ ?_ ?_
 ·have hi':i<front.length:=by omega
  have:=(A6c front 0 hps i o (by rw[hfr i hi'];exact ho)).2
  rwa [Nat.zero_add] at this
 ·intro i o hi ho
  have hi':i<front.length:=by omega
  have:=(A6c front 0 hps i o (by rw[hfr i hi'];exact ho)).1
  rwa [Nat.zero_add] at this
 ·intro y z w' h1 h2 h3
  rw[hlen] at h2 h3 ⊢
  refine hF y z w' h1 (B4r _ 0 fun k m hk=>?_) h3
  rw[Nat.zero_add]
  rw[List.getElem?_take] at hk
  split at hk
  ·rename_i hlt
   have:=h2 k hlt
   simpa [List.getD_eq_getElem?_getD,hk] using this
  cases hk
 ·simp
 ·rw[Array.getD_eq_getD_getElem?,Array.getElem?_replicate];split<;>rfl
 have hf:∀ i,(Array.replicate l.toArray.size false).getD i false=false:=by
  intro i
  rw[Array.getD_eq_getD_getElem?,Array.getElem?_replicate]
  split<;>rfl
 refine ⟨⟨rfl,rfl,rfl,Nat.le_refl _,fun _ _=>rfl⟩,Nat.le_refl _,rfl,rfl,?_,?_,?_,?_,?_⟩
 ·intro i hi;rw[hf] at hi;cases hi
 ·intro i j _ hi;rw[hf] at hi;cases hi
 ·intro k o _ hk;rw[hf] at hk;cases hk
 ·intro t k _ hk;rw[hf] at hk;cases hk
 intro t _;rfl

theorem A3r {w0:World} {F:List DP→Prop} {o:Oper} {os:List Oper} {acc:List DP} (v:Value)
  (h:∀ (y:Nat→Value) (z:Nat→List Nat) (w:World),Below w0.heap.size w0 w→(∀ k∈P_ o,(acc.getD k (fun _=>MP.eq undef) y).p (y k) (z k) w) →
   Region.wanted o (yielded l.toArray (O_ l y a0 (P_ o)).tmps)=true∧(execOp (O_ l y a0 (P_ o)).eval o).run P w=.ok (.value v) w)
  (hr:A3y P l w0 a0 F os (acc++[fun _=>MP.eq v])):A3y P l w0 a0 F (o::os) acc:=by
 refine ⟨_,Cong.const _ _,fun y z w hC hd=>?_,hr⟩
 obtain ⟨h1,h2⟩:=h y z w hC hd
 rw[if_pos h1]
 unfold B0l
 rw[h2]
 exact ⟨Below.refl _ _,[],⟨rfl,rfl⟩,fun b hb=>by simp at hb⟩

theorem A2g {w0:World} {F:List DP→Prop} {o:Oper} {os:List Oper} {acc:List DP}
  (h:∀ (y:Nat→Value) (z:Nat→List Nat) (w:World),Below w0.heap.size w0 w→(∀ k∈P_ o,(acc.getD k (fun _=>MP.eq undef) y).p (y k) (z k) w) →
   Region.wanted o (yielded l.toArray (O_ l y a0 (P_ o)).tmps)=false)
  (hr:A3y P l w0 a0 F os (acc++[fun _=>MP.eq undef])):A3y P l w0 a0 F (o::os) acc:=by
 refine ⟨_,Cong.const _ _,fun y z w hC hd=>?_,hr⟩
 rw[if_neg (by rw[h y z w hC hd];simp)]
 exact ⟨rfl,rfl⟩

theorem F_ {w0:World} {F:List DP→Prop} {o:Oper} {os:List Oper} {acc:List DP} (m:MP)
  (h:∀ (y:Nat→Value) (z:Nat→List Nat) (w:World),Below w0.heap.size w0 w→(∀ k∈P_ o,(acc.getD k (fun _=>MP.eq undef) y).p (y k) (z k) w) →
   Region.wanted o (yielded l.toArray (O_ l y a0 (P_ o)).tmps)=true∧∃ f args,(execOp (O_ l y a0 (P_ o)).eval o).run P w=.ok (.enter f args) w ∧
    Calls P f args w fun e w'=>∃ v,e=.returned v∧Below w.heap.size w w'∧∃ bs,m.p v bs w'∧∀ b∈bs,w.heap.size≤b∧b<w'.heap.size)
  (hr:A3y P l w0 a0 F os (acc++[fun _=>m])):A3y P l w0 a0 F (o::os) acc:=by
 refine ⟨fun _=>m,Cong.const _ _,fun y z w hC hd=>?_,hr⟩
 obtain ⟨h1,f,args,h2,h3⟩:=h y z w hC hd
 rw[if_pos h1]
 unfold B0l
 rw[h2]
 exact h3

theorem D_ {w0:World} {F:List DP→Prop} {o:Oper} {os:List Oper} {acc:List DP} (v:Value) (hr:A3y P l w0 a0 F os (acc++[fun _=>MP.eq v]))
  (h:∀ (y:Nat→Value) (z:Nat→List Nat) (w:World),Below w0.heap.size w0 w→(∀ k∈P_ o,(acc.getD k (fun _=>MP.eq undef) y).p (y k) (z k) w) →
   Region.wanted o (yielded l.toArray (O_ l y a0 (P_ o)).tmps)=true∧(execOp (O_ l y a0 (P_ o)).eval o).run P w=.ok (.value v) w:=by
    intro yq zq wq hC hd
    obtain ⟨hcq,hfq⟩:=C_ hC
    simp at hd
    refine ⟨by go_simp;done,?_⟩
    go_simp
    first | (go_ints;exact rfl) | (go_ints;rw[if_pos (by omega)];try exact rfl) | exact rfl | (rw[if_pos (by omega)];try exact rfl)):A3y P l w0 a0 F (o::os) acc:=A3r v h hr
theorem H_ {A:Prop} {α β:Type} {f:α} {a:β} {B C:α→β→Prop} (c:C f a) (h:A:=by go_simp;done) (b:B f a:=by go_simp;exact ⟨rfl,rfl⟩):A∧∃ f a,B f a∧C f a:=⟨h,f,a,b,c⟩
theorem A0l {id:Nat} {Q:Exit→Act→World→Prop} {w:World} 
  (h:A3y P l w a0 (fun Rs=>∀ (y:Nat→Value) (z:Nat→List Nat) (w':World),Below w.heap.size w w'→A0e w w' y z 0 (Rs.take l.length) →
   C7y z l.length→Q .normal (O_ l y a0 (List.range l.length)) w') l []) (hm:P.follows .mixedOrders=true:=by kernel_rfl) (hB:B1f l a0.tmps.size=true:=by kernel_rfl) (hK:B0b l=true:=by kernel_rfl):(Code.region id l.toArray true).wp P Q a0 w:=B9k hm hB hK h
theorem A6z {w0:World} {F:List DP→Prop} {o:Oper} {os:List Oper} {acc:List DP} (v:(Nat→Value)→Value) (hcg:Cong (fun y=>MP.eq (v y)) (P_ o))
  (h:∀ (y:Nat→Value) (z:Nat→List Nat) (w:World),Below w0.heap.size w0 w→(∀ k∈P_ o,(acc.getD k (fun _=>MP.eq undef) y).p (y k) (z k) w) →
   Region.wanted o (yielded l.toArray (O_ l y a0 (P_ o)).tmps)=true∧(execOp (O_ l y a0 (P_ o)).eval o).run P w=.ok (.value (v y)) w)
  (hr:A3y P l w0 a0 F os (acc++[fun y=>MP.eq (v y)])):A3y P l w0 a0 F (o::os) acc:=by
 refine ⟨_,hcg,fun y z w hC hd=>?_,hr⟩
 obtain ⟨h1,h2⟩:=h y z w hC hd
 rw[if_pos h1]
 unfold B0l
 rw[h2]
 exact ⟨Below.refl _ _,[],⟨rfl,rfl⟩,fun b hb=>by simp at hb⟩

theorem A2a {w0:World} {F:List DP→Prop} {o:Oper} {os:List Oper} {acc:List DP} (m:DP) (hcg:Cong m (P_ o))
  (h:∀ (y:Nat→Value) (z:Nat→List Nat) (w:World),Below w0.heap.size w0 w→(∀ k∈P_ o,(acc.getD k (fun _=>MP.eq undef) y).p (y k) (z k) w) →
   Region.wanted o (yielded l.toArray (O_ l y a0 (P_ o)).tmps)=true∧∃ f args,(execOp (O_ l y a0 (P_ o)).eval o).run P w=.ok (.enter f args) w ∧
    Calls P f args w fun e w'=>∃ v,e=.returned v∧Below w.heap.size w w'∧∃ bs,(m y).p v bs w'∧∀ b∈bs,w.heap.size≤b∧b<w'.heap.size)
  (hr:A3y P l w0 a0 F os (acc++[m])):A3y P l w0 a0 F (o::os) acc:=by
 refine ⟨m,hcg,fun y z w hC hd=>?_,hr⟩
 obtain ⟨h1,f,args,h2,h3⟩:=h y z w hC hd
 rw[if_pos h1]
 unfold B0l
 rw[h2]
 exact h3
end
end Go.XB

namespace Go.XB
open Go.RowKit

def Free (w:World) (bs:List Nat):Prop:=bs.Nodup∧∀ b∈bs,∃ cs t,w.heap[b]?=some (.cells cs t (0,0))
theorem Free.below {w w':World} {bs:List Nat} (h:Free w bs) (hb:Below w.heap.size w w'):Free w' bs :=
 ⟨h.1,fun b hm=>by obtain ⟨cs,t,e⟩:=h.2 b hm;exact ⟨cs,t,(hb.block b (E_ e)).trans e⟩⟩
theorem Own.free {w0 w:World} {bs:List Nat} (h:Own w0 w bs):Free w bs:=⟨h.1,fun b hm=>(h.2 b hm).2⟩
theorem Own.range {w0 w:World} {bs:List Nat} (h:Own w0 w bs):∀ b∈bs,w0.heap.size≤b∧b<w.heap.size:=fun b hm=>⟨(h.2 b hm).1,h.lt b hm⟩
theorem Free.own {w0 w:World} {bs:List Nat} (h:Free w bs) (hr:∀ b∈bs,w0.heap.size≤b):Own w0 w bs:=⟨h.1,fun b hm=>⟨hr b hm,h.2 b hm⟩⟩

def MP.agg {α:Type} [Dat α] (x:α):MP:=⟨fun v bs w=>Agg w v x bs∧Free w bs,fun _ _ _ _ hb h=>⟨h.1.below hb,h.2.below hb⟩⟩
def MP.sl {α:Type} [Dat α] (xs:List α):MP:=⟨fun v bs w=>(∃ A n c,v=.slice A n c∧Sl w A n c xs bs)∧Free w bs,fun _ _ _ _ hb h=>⟨(by obtain ⟨A,n,c,e,hs⟩:=h.1;exact ⟨A,n,c,e,hs.below hb⟩),h.2.below hb⟩⟩

theorem A0t {P:Program} {f:FuncId} {args:Array Value} {w:World} {v:Value} (h:Calls P f args w (A0j w v)) :
  Calls P f args w fun e w'=>∃ u,e=.returned u∧Below w.heap.size w w'∧∃ bs,(MP.eq v).p u bs w'∧∀ b∈bs,w.heap.size≤b∧b<w'.heap.size :=
 h.mono fun _ _ ⟨he,hb⟩=>⟨v,he,hb,[],⟨rfl,rfl⟩,fun b hb=>by simp at hb⟩
theorem K_ {α:Type} [Dat α] {P:Program} {f:FuncId} {args:Array Value} {w:World} {x:α} (h:Calls P f args w (X_ w x)) :
  Calls P f args w fun e w'=>∃ u,e=.returned u∧Below w.heap.size w w'∧∃ bs,(MP.agg x).p u bs w'∧∀ b∈bs,w.heap.size≤b∧b<w'.heap.size :=
 h.mono fun _ _ ⟨v,bs,he,ha,ho,hb⟩=>⟨v,he,hb,bs,⟨ha,ho.free⟩,ho.range⟩
theorem A0q {α:Type} [Dat α] {P:Program} {f:FuncId} {args:Array Value} {w:World} {xs:List α} (h:Calls P f args w (A2t w xs)) :
  Calls P f args w fun e w'=>∃ u,e=.returned u∧Below w.heap.size w w'∧∃ bs,(MP.sl xs).p u bs w'∧∀ b∈bs,w.heap.size≤b∧b<w'.heap.size :=
 h.mono fun _ _ ⟨A,n,c,bs,he,ha,ho,hb⟩=>⟨_,he,hb,bs,⟨⟨A,n,c,rfl,ha⟩,ho.free⟩,ho.range⟩
end Go.XB

namespace Go.XB
open Go.RowKit

def MP.box (cs:Array Value) (t:TypeId):MP:=⟨fun v bs w=>∃ g,v=.pointer (some ⟨g,0,none⟩)∧bs=[g]∧w.heap[g]?=some (.cells cs t),fun v bs w w' hb h=>by
 obtain ⟨g,e,hz,hg⟩:=h;exact ⟨g,e,hz,(hb.block g (E_ hg)).trans hg⟩⟩

section
variable {P:Program} {l:List Oper} {a0:Act}
theorem A1z {w0:World} {F:List DP→Prop} {o:Oper} {os:List Oper} {acc:List DP} (cs:Array Value) (t:TypeId)
  (h:∀ (y:Nat→Value) (z:Nat→List Nat) (w:World),Below w0.heap.size w0 w→(∀ k∈P_ o,(acc.getD k (fun _=>MP.eq undef) y).p (y k) (z k) w) →
   Region.wanted o (yielded l.toArray (O_ l y a0 (P_ o)).tmps)=true∧(execOp (O_ l y a0 (P_ o)).eval o).run P w=.ok (.value (.pointer (some ⟨w.heap.size,0,none⟩))) (w.alloc (.cells cs t)))
  (hr:A3y P l w0 a0 F os (acc++[fun _=>MP.box cs t])):A3y P l w0 a0 F (o::os) acc:=by
 refine ⟨fun _=>MP.box cs t,Cong.const _ _,fun y z w hC hd=>?_,hr⟩
 obtain ⟨h1,h2⟩:=h y z w hC hd
 rw[if_pos h1]
 unfold B0l
 rw[h2]
 refine ⟨(Below.refl _ _).alloc (Nat.le_refl _) _,[w.heap.size],⟨w.heap.size,rfl,rfl,by show (w.heap.push _)[w.heap.size]?=_;simp⟩,fun b hb=>?_⟩
 simp at hb;subst hb;simp
end

theorem B_ {w:World} {g j:Nat} {cs:Array Value} {t:TypeId} {v:Value} (h:w.heap[g]?=some (.cells cs t)) (hj:cs[j]?=some v):w.cell? ⟨g,j,none⟩=some v∧w.frozen? ⟨g,j,none⟩=false:=by
 unfold World.cell? World.frozen?
 rw[h]
 simp[hj]
theorem A7v {W:World} {g:Nat} {r s:TRat} {b1 b2:List Nat} {u0 u1 u2 u3 u4 u5:Value} (h1:Agg W (.agg #[u0,u1,u2]) r b1) (h2:Agg W (.agg #[u3,u4,u5]) s b2) (hg:g<W.heap.size)
  (c0:W.cell? ⟨g,0,none⟩=some u0) (c1:W.cell? ⟨g,1,none⟩=some u1) (c2:W.cell? ⟨g,2,none⟩=some u2) (c3:W.cell? ⟨g,3,none⟩=some u3) (c4:W.cell? ⟨g,4,none⟩=some u4) (c5:W.cell? ⟨g,5,none⟩=some u5) :
  Sl W (some ⟨g,0,none⟩) 2 2 [r,s] (g::(b1++b2)):=by
 obtain ⟨l1,e1,a1⟩:=h1
 obtain ⟨l2,e2,a2⟩:=h2
 have k1:l1=[u0,u1,u2]:=by have:=congrArg (fun v=>match v with | .agg c=>c.toList | _=>[]) e1;simpa using this.symm
 have k2:l2=[u3,u4,u5]:=by have:=congrArg (fun v=>match v with | .agg c=>c.toList | _=>[]) e2;simpa using this.symm
 subst k1;subst k2
 refine ⟨rfl,Nat.le_refl _,by decide,fun h=>absurd h (by decide),fun _=>⟨g,0,[b1,b2],rfl,by simp,rfl,hg,fun k x fs hx hf=>?_⟩⟩
 match k,hx,hf with
 | 0,hx,hf =>
  simp at hx hf;subst hx;subst hf
  refine ⟨_,fun j u hu=>?_,a1⟩
  match j,hu with
  | 0,hu=>simp at hu;subst hu;exact c0
  | 1,hu=>simp at hu;subst hu;exact c1
  | 2,hu=>simp at hu;subst hu;exact c2
 | 1,hx,hf =>
  simp at hx hf;subst hx;subst hf
  refine ⟨_,fun j u hu=>?_,a2⟩
  match j,hu with
  | 0,hu=>simp at hu;subst hu;exact c3
  | 1,hu=>simp at hu;subst hu;exact c4
  | 2,hu=>simp at hu;subst hu;exact c5
end Go.XB

namespace Go.XB
open Go.RowKit

theorem A0p {n:Nat} {w:World} (h:n≤w.heap.size) (o:Obj):n≤(w.alloc o).heap.size:=by
 have:(w.alloc o).heap.size=w.heap.size+1:=by simp
 omega

theorem A1a {w:World} {b size:Nat} {e:TypeId} {v:Value} {xs:List Int} {x:Int} (h:w.ownsRow b e size v (xs.length+1) (xs.map (.int .i64)++[.int .i64 x])) :
  w.ownsRow b e size v (xs++[x]).length ((xs++[x]).map (.int .i64)):=by simpa using h

theorem B0d {w:World} {b size n:Nat} {e:TypeId} {v:Value} {xs:List Value} (h:w.ownsRow b e size v n xs):∀ k,v.ownBlock=some k→b≤k:=by
 intro k hk
 rcases h.2 with ⟨rfl,_⟩ | ⟨g,cap,cur,rfl,hb,_⟩
 ·cases hk
 simp[Value.ownBlock] at hk;omega

theorem A1s {w wr w3:World} {size n:Nat} {e:TypeId} {v:Value} {xs:List Value} {o:Obj} (hb:Below w.heap.size w wr) (h:wr.ownsRow w.heap.size e size v n xs) (hg:(wr.alloc o).grownBy w3 v.ownBlock) :
  Below w.heap.size w w3:=(hb.alloc hb.size o).grown hg (A0p hb.size o) (B0d h)

theorem A2w {w w':World} {e:TypeId} {v:Value} {xs:List Int} {n:Nat} (h:w'.ownsRow w.heap.size e 1 v n (xs.map (.int .i64))) (hn:xs.length=n) (hi:∀ x∈xs,I64 x) (hb:Below w.heap.size w w') :
  A2t w xs (.returned v) w':=by
 have hf:Filled (α:=Int) w' (xs.map (.int .i64)) xs (List.replicate xs.length []):=Filled.ints (by rw[List.take_of_length_le (by simp)]) hi (by simp)
 obtain ⟨A,c,bs,rfl,hs,hc⟩:=Filled.sl (base:=w.heap.size) (n:=n) (v:=v) hf h hn
 refine ⟨A,n,c,bs,rfl,hs,B8s (n:=n) (fss:=List.replicate xs.length []) ?_ ?_,hb⟩
 ·rcases hc with hc | ⟨g,_,hbs,hg,hcs⟩
  ·exact .inl hc
  exact .inr ⟨g,hbs,hg,hcs,by rw[B0n];simp⟩
 rw[B0n];exact Own.nil _ _
theorem Sl.cellsInt {w:World} {a:Addr} {n c:Nat} {xs:List Int} {bs:List Nat} (h:Sl w (some a) n c xs bs):∀ j u,(xs.map (.int .i64))[j]?=some u→w.cell? (a.add j)=some u:=by
 intro j u hu
 have hj:j<xs.length:=by have:=(List.getElem?_eq_some_iff.1 hu).1;simpa using this
 obtain ⟨b,off,x,e,hb,hx,hi,hc⟩:=Sl.getInt h (show j<n by rw[← h.1];exact hj)
 obtain rfl:=Option.some.inj e
 rw[List.getElem?_map,hx] at hu
 obtain rfl:=Option.some.inj hu
 have e:(⟨b,off,none⟩:Addr).add j=⟨b,off+j,none⟩:=by unfold Addr.add;split<;>simp_all
 rw[e];exact hc
theorem Sl.i64 {w:World} {A:Option Addr} {n c:Nat} {xs:List Int} {bs:List Nat} (h:Sl w A n c xs bs):∀ x∈xs,I64 x:=by
 intro x hx
 obtain ⟨k,hk⟩:=List.mem_iff_getElem?.1 hx
 obtain ⟨_,_,y,_,_,hy,hi,_⟩:=Sl.getInt h (show k<n by rw[← h.1];exact (List.getElem?_eq_some_iff.1 hk).1)
 rw[hk] at hy;obtain rfl:=Option.some.inj hy;exact hi
theorem C3a (xs:List Int):∀ u∈xs.map (Value.int .i64),u.oneCell'=true:=by
 intro u hu;obtain ⟨x,_,rfl⟩:=List.mem_map.1 hu;rfl
def A6t (w:World) (t:TypeId) (xs:List Int) (e:Ending) (w':World):Prop :=
 ∃ v,e=.returned v∧w'.ownsRow w.heap.size t 1 v xs.length (xs.map (.int .i64))∧Below w.heap.size w w'
end Go.XB

namespace Go.XB
open Go.RowKit

theorem B9t {P:Program} {l:List Oper} {a0:Act} {id:Nat} {Q:Exit→Act→World→Prop} {w:World} (hne:l≠[]) (hm:P.follows .mixedOrders=true) (hB:B1f l a0.tmps.size=true) (hK:B0b l=true) (hT:C3k l=true)
  (h:A3y P l w a0 (fun Rs=>∀ (y:Nat→Value) (z:Nat→List Nat) (w':World),Below w.heap.size w w'→A0e w w' y z 0 (Rs.take l.dropLast.length) →
   C7y z l.dropLast.length→wpList P l.toArray Q [l.getLast hne] (O_ l y a0 (List.range l.dropLast.length)) w') l.dropLast []):(Code.region id l.toArray true).wp P Q a0 w :=
 B7x l.dropLast (l.getLast hne) (List.dropLast_concat_getLast hne).symm hm hB hK hT h

theorem Z_ {P:Program} {l:List Oper} {a0:Act} {id:Nat} {Q:Exit→Act→World→Prop} {w:World} (hne:l≠[])
  (h:A3y P l w a0 (fun Rs=>∀ (y:Nat→Value) (z:Nat→List Nat) (w':World),Below w.heap.size w w'→A0e w w' y z 0 (Rs.take l.dropLast.length) →
   C7y z l.dropLast.length→wpList P l.toArray Q [l.getLast hne] (O_ l y a0 (List.range l.dropLast.length)) w') l.dropLast [])
  (hm:P.follows .mixedOrders=true:=by kernel_rfl) (hB:B1f l a0.tmps.size=true:=by kernel_rfl) (hK:B0b l=true:=by kernel_rfl) (hT:C3k l=true:=by kernel_rfl):(Code.region id l.toArray true).wp P Q a0 w:=B9t hne hm hB hK hT h
theorem row_set {w:World} {b g n cap:Nat} {e:TypeId} {zs:List Int} (h:w.ownsRow b e 1 (.slice (some ⟨g,0,none⟩) n cap) n (zs.map (.int .i64))) (j:Nat) (u:Int) :
  (w.setCell ⟨g,j,none⟩ (.int .i64 u)).ownsRow b e 1 (.slice (some ⟨g,0,none⟩) n cap) n ((zs.set j u).map (.int .i64)):=by
 rw[List.map_set];exact (World.ownsRow.stored h j _).1
theorem A1k {w:World} {b g n cap:Nat} {e:TypeId} {zs:List Int} (h:w.ownsRow b e 1 (.slice (some ⟨g,0,none⟩) n cap) n (zs.map (.int .i64))) {j:Nat} {x:Int} (hx:zs[j]?=some x) :
  g<w.heap.size∧w.cell? ⟨g,j,none⟩=some (.int .i64 x)∧w.frozen? ⟨g,j,none⟩=false:=by
 have hj:=(List.getElem?_eq_some_iff.1 hx).1
 have hn:zs.length=n*1:=by have:=h.1;simpa using this
 exact ⟨(World.ownsRow.lt h _ rfl).2,by rw[World.ownsRow.cellAt h j (by omega),List.getElem?_map,hx];rfl,World.ownsRow.frozenAt h j⟩
theorem A2v {w:World} {b g n cap:Nat} {e:TypeId} {zs:List Int} (h:w.ownsRow b e 1 (.slice (some ⟨g,0,none⟩) n cap) n (zs.map (.int .i64))):zs.length=n:=by have:=h.1;simpa using this
theorem B0i {w:World} {b n:Nat} {e:TypeId} {v:Value} {zs:List Value} (h:w.ownsRow b e 1 v n zs):(v=.slice none 0 0∧n=0)∨∃ g cap,v=.slice (some ⟨g,0,none⟩) n cap∧b≤g∧g<w.heap.size∧n≤cap∧cap≤maxLen:=by
 rcases h.2 with ⟨rfl,rfl⟩ | ⟨g,cap,cur,rfl,hb,hg,hnc,hcm,_⟩
 ·exact .inl ⟨rfl,rfl⟩
 exact .inr ⟨g,cap,rfl,hb,E_ hg,hnc,hcm⟩

theorem B8c {w:World} {b n c:Nat} {A:Option Addr} {e:TypeId} {zs:List Int} (h:w.ownsRow b e 1 (.slice A n c) n (zs.map (.int .i64))) {k:Nat} (hk:k≤n):w.ownsRow b e 1 (.slice A k c) k ((zs.take k).map (.int .i64)):=by
 have hz:zs.length=n:=by have:=h.1;simpa using this
 refine ⟨by simp;omega,?_⟩
 rcases h.2 with ⟨hv,h0⟩ | ⟨g,cap,cur,hv,hb,hg,hnc,hcm,hcs,ht⟩
 ·have:k=0:=by omega
  subst this;subst h0
  exact .inl ⟨hv,rfl⟩
 simp only [Value.slice.injEq,true_and] at hv
 obtain ⟨rfl,rfl⟩:=hv
 refine .inr ⟨g,c,cur,rfl,hb,hg,by omega,hcm,hcs,?_⟩
 rw[List.map_take,← ht,List.take_take,Nat.mul_one,Nat.mul_one,Nat.min_eq_left hk]
theorem A5a {w:World} {b n c:Nat} {A:Option Addr} {e:TypeId} {zs:List Int} (h:w.ownsRow b e 1 (.slice A n c) n (zs.map (.int .i64))) (hi:∀ x∈zs,I64 x):∃ bs,Sl w A n c zs bs:=by
 have hz:zs.length=n:=by have:=h.1;simpa using this
 have hf:Filled (α:=Int) w (zs.map (.int .i64)) zs (List.replicate zs.length []):=Filled.ints (by rw[List.take_of_length_le (by simp)]) hi (by simp)
 obtain ⟨A',c',bs,e',hs,_⟩:=Filled.sl (base:=b) (n:=n) hf h hz
 cases e'
 exact ⟨bs,hs⟩
theorem B7h {w:World} {b n:Nat} {e:TypeId} {v:Value} {zs:List Value} (h:w.ownsRow b e 1 v n zs):∃ A c,v=.slice A n c:=by
 rcases B0i h with ⟨rfl,rfl⟩ | ⟨g,cap,rfl,_⟩
 ·exact ⟨none,0,rfl⟩
 exact ⟨_,cap,rfl⟩
theorem D4g {w:World} {b n c:Nat} {A:Option Addr} {e:TypeId} {zs:List Value} (h:w.ownsRow b e 1 (.slice A n c) n zs) (hn:0<n):∃ g,A=some ⟨g,0,none⟩∧b≤g∧g<w.heap.size∧n≤c∧c≤maxLen:=by
 rcases B0i h with ⟨_,h0⟩ | ⟨g,cap,e',h1,h2,h3,h4⟩
 ·omega
 simp only [Value.slice.injEq,true_and] at e'
 obtain ⟨rfl,rfl⟩:=e'
 exact ⟨g,rfl,h1,h2,h3,h4⟩

theorem B7e {out xs:List Int} {k:Nat} (hl:out.length=k) (hk:k<xs.length) (u:Int):(out++xs.drop k).set k u=(out++[u])++xs.drop (k+1):=by
 rw[List.set_append_right _ _ (by omega),hl,Nat.sub_self,List.drop_eq_getElem_cons hk,List.set_cons_zero,List.append_assoc]
 rfl
theorem D2b {out xs:List Int} {k:Nat} {x:Int} (hl:out.length=k) (hx:xs[k]?=some x):(out++xs.drop k)[k]?=some x:=by
 rw[List.getElem?_append_right (by omega),hl,Nat.sub_self,List.getElem?_drop];simpa using hx

end Go.XB

namespace Go.XB
open Go.RowKit
section
variable {P:Program} {l:List Oper} {R:Nat→DP} {C:World→Prop} {a0:Act} {base:Nat}

def C1u (l:List Oper) (m:Nat):Bool :=
 let R:=C6u l (List.range l.length).reverse [m]
 decide (m<l.length)&&(List.range m).all fun k=>R.contains k
def C2q (l:List Oper) (m:Nat):Bool:=(List.range l.length).all fun k=>decide (k≤m) || (match l[k]? with | some o=>(P_ o).contains (k - 1) | none=>true)
theorem B8m {m:Nat} (h:C2q l m=true) {k:Nat} {o:Oper} (ho:l[k]?=some o) (hk:m<k):k - 1∈P_ o:=by
 unfold C2q at h
 rw[List.all_eq_true] at h
 have:=h k (List.mem_range.2 (List.getElem?_eq_some_iff.1 ho).1)
 rw[ho] at this
 simp only [Bool.or_eq_true,decide_eq_true_eq,List.contains_iff_mem] at this
 rcases this with h1 | h1
 ·omega
 exact h1

theorem C5j {Q:Exit→Act→World→Prop} {m:Nat} (hL:C2q l m=true) (hcheck:∀ (listed:Array Bool),listed.size=l.length→Region.ready .any l.toArray listed=[]→∀ i,i<l.length→listed.getD i false=true) :
  ∀ (fuel j:Nat) (listed:Array Bool) (a:Act) (w:World),m≤j→j≤l.length→listed.size=l.length→l.length - j≤fuel→(∀ k,k<l.length→listed.getD k false=decide (k<j)) →
   wpList P l.toArray Q (l.drop j) a w→wpAny P .any l.toArray Q fuel listed a w:=by
 intro fuel
 induction fuel with
 | zero =>
  intro j listed a w hmj hjl hsz hf hls h
  have hj:j=l.length:=by omega
  subst hj
  have hr0:Region.ready .any l.toArray listed=[]:=by
   cases hr:Region.ready .any l.toArray listed with
   | nil=>rfl
   | cons i is =>
    exfalso
    have hi:i∈Region.ready .any l.toArray listed:=by rw[hr];exact List.mem_cons_self ..
    obtain ⟨hun,o,ho,_⟩:=mem_ready.1 hi
    have hil:i<l.length:=by
     rcases Nat.lt_or_ge i l.length with h | h
     ·exact h
     simp[List.getElem?_eq_none h] at ho
    have h1:=hls i hil
    have hlt:i<listed.size:=by omega
    simp only [hil,decide_true] at h1
    rw[Array.getD_eq_getD_getElem?] at h1 hun
    simp[hlt] at h1 hun
    rw[h1] at hun;cases hun
  rw[List.drop_length] at h
  exact ⟨hr0,h⟩
 | succ fuel ih =>
  intro j listed a w hmj hjl hsz hf hls h
  refine ⟨fun h0=>?_,fun i hi=>?_⟩
  ·have hj:j=l.length:=by
    rcases Nat.lt_or_ge j l.length with h1 | h1
    ·have h2:=hcheck listed hsz h0 j h1
     rw[hls j h1] at h2;simp at h2
    omega
   subst hj
   rw[List.drop_length] at h
   exact h
  ·obtain ⟨hunT,o,ho,hall⟩:=mem_ready.1 hi
   have hol:l[i]?=some o:=by simpa using ho
   have hil:i<l.length:=(List.getElem?_eq_some_iff.1 hol).1
   have hlt:i<listed.size:=by omega
   have hunF:listed.getD i false=false:=by
    have:listed[i]=false:=by simpa [Array.getD_eq_getD_getElem?,hlt] using hunT
    simpa [Array.getD_eq_getD_getElem?,hlt] using this
   have hge:j≤i:=by
    have:=hls i hil
    rw[hunF] at this
    have:=of_decide_eq_false this.symm
    omega
   have hije:i=j:=by
    rcases Nat.lt_or_ge j i with h1 | h1
    ·exfalso
     have h2:=B8m hL hol (by omega)
     obtain ⟨ed,hed,hbd,he⟩:=(A8j (i - 1) _).1 h2
     have h3:listed.getD (i - 1) false=true:=by
      rw[← he];simpa using hall ed (by simpa using hed) hbd
     rw[hls (i - 1) (by omega)] at h3
     have:=of_decide_eq_true h3
     omega
    omega
   subst hije
   have hd:l.drop i=o::l.drop (i+1):=by
    rw[List.drop_eq_getElem_cons hil]
    congr 1
    exact (List.getElem?_eq_some_iff.1 hol).2
   rw[hd] at h
   have hnext:∀ (a':Act) (w':World),wpList P l.toArray Q (l.drop (i+1)) a' w'→wpAny P .any l.toArray Q fuel (listed.setIfInBounds i true) a' w':=by
    intro a' w' hq
    refine ih (i+1) _ a' w' (by omega) (by omega) (by simpa using hsz) (by omega) (fun k hk=>?_) hq
    by_cases hke:k=i
    ·subst hke
     rw[Array.getD_eq_getD_getElem?];simp[hlt]
    rw[Array.getD_eq_getD_getElem?,Array.getElem?_setIfInBounds_ne (by omega),← Array.getD_eq_getD_getElem?,hls k hk]
    congr 1
    exact propext ⟨fun h=>by omega,fun h=>by omega⟩
   refine wpOp_mono hnext ?_
   unfold wpOp
   simp only [ho]
   unfold wpList at h
   split
   ·rename_i hw;rw[if_pos hw] at h;exact h
   rename_i hw;rw[if_neg hw] at h;exact h

theorem C3u {Q:Exit→Act→World→Prop} {N m:Nat} (hCup:∀ w w',C w→base≤w.heap.size→Below w.heap.size w w'→C w') (hN:a0.tmps.size=N) (hB:B1f l N=true) (hT:C1u l m=true) (hL:C2q l m=true)
  (hpart:∀ i o,i<m→l[i]?=some o→part P l R C a0 i o) (hRc:∀ i o,i<m→l[i]?=some o→Cong (R i) (P_ o))
  (hQ:∀ (y:Nat→Value) (z:Nat→List Nat) (w:World),C w→(∀ i,i<m→(R i y).p (y i) (z i) w∧∀ b∈z i,base≤b∧b<w.heap.size)→(∀ i j,i≠j→i<m→j<m→∀ b∈z i,b∉z j) →
   wpList P l.toArray Q (l.drop m) (O_ l y a0 (List.range m)) w)
  (hcheck:∀ (listed:Array Bool),listed.size=l.length→Region.ready .any l.toArray listed=[]→∀ i,i<l.length→listed.getD i false=true) :
  ∀ (fuel:Nat) (listed:Array Bool) (a:Act) (w:World) (y:Nat→Value) (z:Nat→List Nat),listed.size=l.length→(listed.toList.filter (fun b=>!b)).length≤fuel→(∀ k,m≤k→k<l.length→listed.getD k false=false) →
   St l R C a0 base listed a w y z→wpAny P .any l.toArray Q fuel listed a w:=by
 obtain ⟨hs1,hs2,hs3,hs4⟩:=B3j hB
 simp only [C1u,Bool.and_eq_true,decide_eq_true_eq,List.all_eq_true] at hT
 obtain ⟨hpos,hT⟩:=hT
 intro fuel
 induction fuel with
 | zero =>
  intro listed a w y z hsz hf hun st
  exfalso
  have hlt:m<listed.size:=by omega
  have hmem:false∈listed.toList.filter (fun b=>!b):=by
   rw[List.mem_filter]
   refine ⟨?_,rfl⟩
   have:listed[m]=false:=by simpa [Array.getD_eq_getD_getElem?,hlt] using hun m (Nat.le_refl _) hpos
   rw[← this]
   exact Array.getElem_mem_toList hlt
  have:=List.length_pos_of_mem hmem
  omega
 | succ fuel ih =>
  intro listed a w y z hsz hf hun st
  by_cases hfront:∀ k,k<m→listed.getD k false=true
  ·have ha:a=O_ l y a0 (List.range m):=by
    have e1:a.tmps=(O_ l y a0 (List.range m)).tmps:=by
     apply Array.ext
     ·rw[st.size,B2p]
     intro t h1 h2
     have key:a.eval (.tmp t)=(O_ l y a0 (List.range m)).eval (.tmp t):=by
      by_cases hk:∃ k,k<m∧opAt l k=some t
      ·obtain ⟨k,hkl,hk⟩:=hk
       rw[st.evalL t k hk (hfront k hkl),A8u y t k hk (fun j hj=>hs3 j k t hj hk) _ _ (List.mem_range.2 hkl) (by rw[← st.size];exact h1)]
      rw[st.evalN t (fun k hk'=>?_),A4m y t _ _ (fun k hkm hk'=>hk ⟨k,List.mem_range.1 hkm,hk'⟩)]
      by_cases hkl:k<m
      ·exact absurd ⟨k,hkl,hk'⟩ hk
      by_cases hke:k<l.length
      ·exact hun k (by omega) hke
      have:l.length≤k:=by omega
      simp[opAt,List.getElem?_eq_none this] at hk'
     simpa [Act.eval,h1,h2] using key
    have e2:a.defers=(O_ l y a0 (List.range m)).defers:=by rw[st.defers,A9l]
    cases a
    simp only at e1 e2
    rw[e1,e2]
   have h:=hQ y z w st.c (fun i hi=>st.facts i (hfront i hi)) (fun i j hij hi hj=>st.disj i j hij (hfront i hi) (hfront j hj))
   rw[← ha] at h
   refine C5j hL hcheck (fuel+1) m listed a w (Nat.le_refl _) (by omega) hsz ?_ (fun k hk=>?_) h
   ·-- as many are open as the line holds
    have hcount:∀ (L:List Bool) (p:Nat),(∀ k b,L[k]?=some b→p≤k→b=false)→L.length - p≤(L.filter (fun b=>!b)).length:=by
     intro L
     induction L with
     | nil=>intro p _;simp
     | cons b L ihL =>
      intro p hp
      cases p with
      | zero =>
       have hb:b=false:=hp 0 b rfl (Nat.zero_le _)
       have:=ihL 0 (fun k c hc _=>hp (k+1) c (by simpa using hc) (Nat.zero_le _))
       subst hb
       simp;omega
      | succ p =>
       have:=ihL p (fun k c hc hk=>hp (k+1) c (by simpa using hc) (by omega))
       have h2:(L.filter (fun b=>!b)).length≤((b::L).filter (fun b=>!b)).length:=by
        cases b<;>simp
       simp only [List.length_cons];omega
    have:=hcount listed.toList m (fun k b hb hk=>by
     have hkl:k<listed.size:=by have:=(List.getElem?_eq_some_iff.1 hb).1;simpa using this
     have h1:=hun k hk (by omega)
     have h2:listed[k]=b:=by simpa [hkl] using hb
     rw[← h2]
     simpa [Array.getD_eq_getD_getElem?,hkl] using h1)
    simp only [Array.length_toList] at this
    omega
   by_cases hkm:k<m
   ·rw[hfront k hkm];simp[hkm]
   rw[hun k (by omega) hk];simp[hkm]
  ·refine ⟨fun h0=>(by have:=hcheck listed hsz h0 m hpos;rw[hun m (Nat.le_refl _) hpos] at this;cases this),fun i hi=>?_⟩
   obtain ⟨hunT,o,ho,hall⟩:=mem_ready.1 hi
   have hol:l[i]?=some o:=by simpa using ho
   have hil:i<l.length:=by
    rcases Nat.lt_or_ge i l.length with h | h
    ·exact h
    simp[List.getElem?_eq_none h] at hol
   have hlt:i<listed.size:=by omega
   have hunF:listed.getD i false=false:=by
    have:listed[i]=false:=by simpa [Array.getD_eq_getD_getElem?,hlt] using hunT
    simpa [Array.getD_eq_getD_getElem?,hlt] using this
   have hdep:∀ e∈P_ o,listed.getD e false=true:=by
    intro e he
    obtain ⟨ed,hed,hbd,rfl⟩:=(A8j e _).1 he
    simpa using hall ed (by simpa using hed) hbd
   have hsel:∀ cs b,o.op≠.select cs b:=fun cs b=>Region.noSelect_spec hs1 i o cs b ho
   have him:i<m:=by
    rcases Nat.lt_trichotomy i m with h | h | h
    ·exact h
    ·exfalso
     subst h
     apply hfront
     intro k hk
     have hr:=B0q (l:=l) (listed:=listed) (n:=i) (fun k o hko _ hk=>st.closed k o hko hk) (fun o' ho' e he=>by
      rw[hol] at ho';cases ho';exact hdep e he) (List.range l.length).reverse [i] (fun k hk=>by simp at hk;exact .inl hk) k
      (by have:=hT k (List.mem_range.2 hk);simpa using this)
     rcases hr with e | e
     ·omega
     exact e
    exfalso
    have h1:=hdep _ (B8m hL hol h)
    rw[hun (i - 1) (by omega) (by omega)] at h1
    cases h1
   have hlook:∀ t∈B4n l o,a.eval (.tmp t)=(O_ l y a0 (P_ o)).eval (.tmp t):=by
    intro t ht
    by_cases hk:∃ k,opAt l k=some t
    ·obtain ⟨k,hk⟩:=hk
     obtain ⟨o',ho',hd'⟩:∃ o',l[k]?=some o'∧o'.dst=some t:=by
      unfold opAt at hk
      cases h:l[k]? with
      | none=>simp[h] at hk
      | some o'=>exact ⟨o',rfl,by simpa [h] using hk⟩
     by_cases hkd:k∈P_ o
     ·rw[st.evalL t k hk (hdep k hkd),A8u y t k hk (fun j hj=>hs3 j k t hj hk) _ _ hkd (by rw[hN];exact hs2 k t hk)]
     have hik:i∈P_ o':=(hs4 i o hol t ht k o' ho' hd').resolve_left hkd
     have hkun:listed.getD k false=false:=by
      cases hkk:listed.getD k false with
      | false=>rfl
      | true=>have:=st.closed k o' ho' hkk i hik;rw[hunF] at this;cases this
     rw[st.evalN t (fun k' hk'=>by rw[hs3 k' k t hk' hk];exact hkun),A4m y t _ _ (fun k' hk'd hk'=>hkd (hs3 k' k t hk' hk ▸ hk'd))]
    rw[st.evalN t (fun k hk'=>absurd ⟨k,hk'⟩ hk),A4m y t _ _ (fun k _ hk'=>hk ⟨k,hk'⟩)]
   have hp:=hpart i o him hol y z w st.c (fun k hk=>(st.facts k (hdep k hk)).1)
   rw[← A7w hlook] at hp
   have onward:∀ (v:Value) (bs:List Nat) (w':World),Below w.heap.size w w'→(R i y).p v bs w'→(∀ b∈bs,w.heap.size≤b∧b<w'.heap.size)→wpAny P .any l.toArray Q fuel (listed.setIfInBounds i true) (a.put o.dst v) w':=by
    intro v bs w' hbw hRv hbs
    have hn1:∀ k,m≤k→k<l.length→(listed.setIfInBounds i true).getD k false=false:=fun k h1 h2=>by
     rw[Array.getD_eq_getD_getElem?,Array.getElem?_setIfInBounds_ne (by omega),← Array.getD_eq_getD_getElem?];exact hun k h1 h2
    refine ih (listed.setIfInBounds i true) (a.put o.dst v) w' (fun j=>if j=i then v else y j) (fun j=>if j=i then bs else z j) (by simpa using hsz) ?_ hn1 (C4w hN hs2 hs3 st hol hlt hunF hsz (fun j o' hj hor=>hRc j o' (by
     have hjl:=(List.getElem?_eq_some_iff.1 hj).1
     rcases Nat.lt_or_ge j m with h1 | h1
     ·exact h1
     exfalso
     rcases hor with h | h
     ·omega
     rw[hun j h1 hjl] at h;cases h) hj) hdep (hCup _ _ st.c st.hb hbw) hbw hRv hbs)
    have:=B3k listed.toList i (by
     have:listed[i]=false:=by simpa [Array.getD_eq_getD_getElem?,hlt] using hunT
     simp[hlt,this])
    have h2:(listed.setIfInBounds i true).toList=listed.toList.set i true:=by simp
    rw[h2];omega
   unfold wpOp
   simp only [ho]
   split
   ·rename_i hw
    rw[if_pos hw] at hp
    refine .inl ?_
    unfold B0l at hp
    unfold Oper.wp
    rw[← A7y hsel hlook] at hp
    generalize (execOp a.eval o).run P w=r at hp
    cases r with
    | ok n w' =>
     cases n<;>simp only [A8q] at hp<;>simp only [Oper.upon]
     case value u =>
      obtain ⟨h2,bs,h3,h4⟩:=hp
      exact onward _ bs _ h2 h3 h4
     case skip =>
      obtain ⟨h2,bs,h3,h4⟩:=hp
      exact onward _ bs _ h2 h3 h4
     case enter f args =>
      refine hp.mono fun e w'' he=>?_
      obtain ⟨v,rfl,h2,bs,h3,h4⟩:=he
      exact onward _ bs _ h2 h3 h4
    | halt x w'=>simp only [A8q] at hp
   rename_i hw
   rw[if_neg hw] at hp
   exact onward undef [] w (Below.refl _ _) hp (fun b hb=>by simp at hb)

theorem A0m {id:Nat} {Q:Exit→Act→World→Prop} {w:World} (m:Nat) (hm:P.follows .mixedOrders=true) (hB:B1f l a0.tmps.size=true) (hK:B0b l=true) (hT:C1u l m=true) (hL:C2q l m=true)
  (h:A3y P l w a0 (fun Rs=>∀ (y:Nat→Value) (z:Nat→List Nat) (w':World),Below w.heap.size w w'→A0e w w' y z 0 (Rs.take m) →
   C7y z m→wpList P l.toArray Q (l.drop m) (O_ l y a0 (List.range m)) w') (l.take m) []):(Code.region id l.toArray true).wp P Q a0 w:=by
 have hml:m<l.length:=by
  simp only [C1u,Bool.and_eq_true,decide_eq_true_eq] at hT;exact hT.1
 have hlen:(l.take m).length=m:=by simp;omega
 have hfr:∀ j,j<(l.take m).length→(l.take m)[j]?=l[j]?:=fun j hj=>by rw[List.getElem?_take,if_pos (by omega)]
 obtain ⟨Rs,hF,_,hps⟩:=B2i hK (l.take m) [] (fun j hj=>by simpa using hfr j hj) h
 refine wp_region_any hm ?_
 refine C3u (m:=m) (R:=fun i=>Rs.getD i (fun _=>MP.eq undef)) (C:=fun w'=>Below w.heap.size w w') (a0:=a0) (base:=w.heap.size) (N:=a0.tmps.size) (fun w1 w2 h1 h2 h3=>h1.trans (h3.mono h2)) rfl hB hT hL
  (fun i o hi ho=>?_) ?_ ?_ (fun listed hsz h0=>B5p hK listed hsz h0) _ _ a0 _ (fun _=>undef) (fun _=>[]) (by simp) ?_ ?_ ?_
 ·have hi':i<(l.take m).length:=by omega
  have:=(A6c (l.take m) 0 hps i o (by rw[hfr i hi'];exact ho)).2
  rwa [Nat.zero_add] at this
 ·intro i o hi ho
  have hi':i<(l.take m).length:=by omega
  have:=(A6c (l.take m) 0 hps i o (by rw[hfr i hi'];exact ho)).1
  rwa [Nat.zero_add] at this
 ·intro y z w' h1 h2 h3
  refine hF y z w' h1 (B4r _ 0 fun k m' hk=>?_) h3
  rw[Nat.zero_add]
  rw[List.getElem?_take] at hk
  split at hk
  ·rename_i hlt
   have:=h2 k hlt
   simpa [List.getD_eq_getElem?_getD,hk] using this
  cases hk
 ·simp
 ·intro k _ _
  rw[Array.getD_eq_getD_getElem?,Array.getElem?_replicate];split<;>rfl
 have hf:∀ i,(Array.replicate l.toArray.size false).getD i false=false:=by
  intro i
  rw[Array.getD_eq_getD_getElem?,Array.getElem?_replicate]
  split<;>rfl
 refine ⟨⟨rfl,rfl,rfl,Nat.le_refl _,fun _ _=>rfl⟩,Nat.le_refl _,rfl,rfl,?_,?_,?_,?_,?_⟩
 ·intro i hi;rw[hf] at hi;cases hi
 ·intro i j _ hi;rw[hf] at hi;cases hi
 ·intro k o _ hk;rw[hf] at hk;cases hk
 ·intro t k _ hk;rw[hf] at hk;cases hk
 intro t _;rfl
end
end Go.XB

namespace Go.XB
open Go.RowKit

def B5v (w:World) (q r:List Int) (e:Ending) (w':World):Prop :=
 ∃ A1 n1 c1 b1 A2 n2 c2 b2,e=.returned (.tuple #[.slice A1 n1 c1,.slice A2 n2 c2])∧Sl w' A1 n1 c1 q b1∧Sl w' A2 n2 c2 r b2∧Own w w' (b1++b2)∧Below w.heap.size w w'

theorem C2i {w:World} {b n:Nat} {v:Value} {e:TypeId} {zs:List Int} (h:w.ownsRow b e 1 v n (zs.map (.int .i64))) (hi:∀ x∈zs,I64 x) :
  ∃ A c bs,v=.slice A n c∧Sl w A n c zs bs∧(bs=[]∨∃ g,bs=[g]∧v.ownBlock=some g∧b≤g∧∃ cs t,w.heap[g]?=some (.cells cs t (0,0))):=by
 have hz:zs.length=n:=by have:=h.1;simpa using this
 have hf:Filled (α:=Int) w (zs.map (.int .i64)) zs (List.replicate zs.length []):=Filled.ints (by rw[List.take_of_length_le (by simp)]) hi (by simp)
 obtain ⟨A',c',bs,e',hs,hc⟩:=Filled.sl (base:=b) (n:=n) hf h hz
 refine ⟨A',c',bs,e',hs,?_⟩
 rcases hc with ⟨_,hb⟩ | ⟨g,hg,hb,hge,hcs⟩
 ·exact .inl hb
 exact .inr ⟨g,by rw[hb,B0n],hg,hge,hcs⟩

theorem A8x {w w':World} {q r:List Int} {v1 v2:Value} {t1 t2:TypeId} {n1 n2 b1 b2:Nat} (h1:w'.ownsRow b1 t1 1 v1 n1 (q.map (.int .i64))) (h2:w'.ownsRow b2 t2 1 v2 n2 (r.map (.int .i64)))
  (hq:∀ x∈q,I64 x) (hr:∀ x∈r,I64 x) (hb1:w.heap.size≤b1) (hb2:w.heap.size≤b2) (hne:∀ g1 g2,v1.ownBlock=some g1→v2.ownBlock=some g2→g1≠g2) (hb:Below w.heap.size w w') :
  B5v w q r (.returned (.tuple #[v1,v2])) w':=by
 obtain ⟨A1,c1,s1,rfl,hs1,o1⟩:=C2i h1 hq
 obtain ⟨A2,c2,s2,rfl,hs2,o2⟩:=C2i h2 hr
 refine ⟨A1,n1,c1,s1,A2,n2,c2,s2,rfl,hs1,hs2,?_,hb⟩
 rcases o1 with rfl | ⟨g1,rfl,e1,h1,k1⟩
 ·rcases o2 with rfl | ⟨g2,rfl,e2,h2,k2⟩
  ·exact Own.nil _ _
  exact ⟨by simp,fun b hm=>by simp at hm;subst hm;exact ⟨by omega,k2⟩⟩
 rcases o2 with rfl | ⟨g2,rfl,e2,h2,k2⟩
 ·exact ⟨by simp,fun b hm=>by simp at hm;subst hm;exact ⟨by omega,k1⟩⟩
 have:=hne g1 g2 e1 e2
 refine ⟨by simp[this],fun b hm=>?_⟩
 simp at hm
 rcases hm with rfl | rfl
 ·exact ⟨by omega,k1⟩
 exact ⟨by omega,k2⟩
theorem B4d {w1 w':World} {v1 v2:Value} {b n1 n2:Nat} {t1 t2:TypeId} {q r:List Value} (h1:w1.ownsRow b t1 1 v1 n1 q) (h2:w'.ownsRow w1.heap.size t2 1 v2 n2 r):∀ g1 g2,v1.ownBlock=some g1→v2.ownBlock=some g2→g1≠g2:=by
 intro g1 g2 e1 e2
 have:=(World.ownsRow.lt h1 _ e1).2
 have:=B0d h2 _ e2
 omega
end Go.XB

namespace Go.XB
open Go.RowKit

theorem B2o {P:Program} {w:World} (t ty e:TypeId) (i:TypeInfo) (ht:P.underlying t=some (.slice e)) (hi:P.info? e=some i) (hz:i.zero=some (.int .i64 0)) (hsize:i.size=1) (hby:i.bytes=8)
  (g:Nat) (A:Option Addr) (n c:Nat) (xs:List Int) (bs:List Nat) (hsl:Sl w A n c xs bs) (hn:n≤1048576) :
  ∃ A' c' bs' w',(Builtin.append_ #[t,t] ty #[.slice (some ⟨g,0,none⟩) 0 0,.slice A n c]).run P w=.ok (.slice A' n c') w'∧Sl w' A' n c' xs bs'∧Own w w' bs'∧Below w.heap.size w w':=by
 rcases Nat.eq_zero_or_pos n with h0 | h0
 ·subst h0
  obtain rfl:xs=[]:=List.eq_nil_of_length_eq_zero hsl.1
  refine ⟨some ⟨g,0,none⟩,0,[],w,?_,⟨rfl,Nat.le_refl _,Nat.zero_le _,fun _=>rfl,fun h=>absurd h (by decide)⟩,Own.nil _ _,Below.refl _ _⟩
  cases A with
  | none=>simp[Builtin.append_,run_underlying ht,sizeOf,typeInfo,hi,Builtin.lenOf,Builtin.firstCells,storeCells]
  | some a =>
   have:=run_append_room_cells (P:=P) w t ty e i ht hi g 0 0 0 a 0 c [] (by simp) (fun j u h=>by simp at h) (fun u h=>by simp at h) (Nat.le_refl _) (fun j h=>by simp at h) (fun j h=>by simp at h)
   exact this
 obtain ⟨b,off,bss,rfl,_⟩:=hsl.2.2.2.2 h0
 have hz':(Value.int .i64 0).cells.size=1:=rfl
 obtain ⟨v',w',hrun,r1,r2⟩:=run_append_arg_grows (P:=P) w t ty e i (.int .i64 0) 1 8 ht hi hz hsize hby hz' (by decide) ⟨g,0,none⟩ 0 0 [] rfl (fun j u h=>by simp at h) ⟨b,off,none⟩ n c (xs.map (.int .i64)) (by rw[List.length_map,hsl.1,Nat.mul_one]) (Sl.cellsInt hsl) (by omega) (by unfold maxLen;omega) (by omega)
 rw[Nat.zero_add,List.nil_append] at r1
 have hb:Below w.heap.size w w':=(Below.refl _ w).grown r2 (Nat.le_refl _) (by intro k hk;cases hk)
 obtain ⟨A',n',c',bs',e',hs',ho',_⟩:=A2w r1 hsl.1 (Sl.i64 hsl) hb
 have e2:v'=.slice A' n' c':=by injection e'
 subst e2
 have hn':n'=n:=by rw[← hs'.1,hsl.1]
 subst hn'
 exact ⟨A',c',bs',w',hrun,hs',ho',hb⟩

theorem A5n {P:Program} {w:World} {ops:Array Oper} {rest:List Oper} {o:Oper} {a:Act} {Q:Exit→Act→World→Prop} (hgd:o.guard=none) (s x:Operand) (t:TypeId)
  (ho:o.op=.call { callee:=.builtin .append,args:=#[s,x],argTypes:=#[t,t] }) (e:TypeId) (i:TypeInfo) (ht:P.underlying t=some (.slice e)) (hi:P.info? e=some i) (hz:i.zero=some (.int .i64 0)) (hsize:i.size=1) (hby:i.bytes=8)
  (g:Nat) (hs:a.eval s=.slice (some ⟨g,0,none⟩) 0 0) (A:Option Addr) (n c:Nat) (xs:List Int) (bs:List Nat) (hx:a.eval x=.slice A n c) (hsl:Sl w A n c xs bs) (hn:n≤1048576)
  (h:∀ A' c' bs' w',Sl w' A' n c' xs bs'→Own w w' bs'→Below w.heap.size w w'→wpList P ops Q rest (a.put o.dst (.slice A' n c')) w'):wpList P ops Q (o::rest) a w:=by
 obtain ⟨A',c',bs',w',hrun,h1,h2,h3⟩:=B2o (P:=P) (w:=w) t o.type e i ht hi hz hsize hby g A n c xs bs hsl hn
 refine wpList_plain hgd fun K hK=>?_
 unfold Oper.wp
 simp[execOp,ho,resolve,invoke,builtin,hs,hx,hrun,Result.andThen]
 exact hK _ _ (h A' c' bs' w' h1 h2 h3)

section
variable {P:Program} {l:List Oper} {a0:Act}
theorem A8i {w0:World} {F:List DP→Prop} {o:Oper} {os:List Oper} {acc:List DP} (m:MP)
  (h:∀ (y:Nat→Value) (z:Nat→List Nat) (w:World),Below w0.heap.size w0 w→(∀ k∈P_ o,(acc.getD k (fun _=>MP.eq undef) y).p (y k) (z k) w) →
   Region.wanted o (yielded l.toArray (O_ l y a0 (P_ o)).tmps)=true∧∃ v w',(execOp (O_ l y a0 (P_ o)).eval o).run P w=.ok (.value v) w'∧Below w.heap.size w w'∧∃ bs,m.p v bs w'∧∀ b∈bs,w.heap.size≤b∧b<w'.heap.size)
  (hr:A3y P l w0 a0 F os (acc++[fun _=>m])):A3y P l w0 a0 F (o::os) acc:=by
 refine ⟨fun _=>m,Cong.const _ _,fun y z w hC hd=>?_,hr⟩
 obtain ⟨h1,v,w',h2,h3,h4⟩:=h y z w hC hd
 rw[if_pos h1]
 unfold B0l
 rw[h2]
 exact ⟨h3,h4⟩
end
end Go.XB
