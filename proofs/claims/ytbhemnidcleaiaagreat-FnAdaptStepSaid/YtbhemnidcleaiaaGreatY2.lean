/- A part of the proof. -/
import Derived.Deep.QuietTactic
import Derived.Test.YtbhemnidcleaiaaGreatY1
import Derived.ArgAppend
import Derived.Laws.OwnMore
set_option linter.constructorNameAsVariable false
set_option maxHeartbeats 16000000
set_option maxRecDepth 10000
namespace Go.XB
open Go.RowKit

def A8s (P:Program) (R:Value->World->Prop):Result Next->Prop
 | .ok (.value v) w'=>R v w'
 | .ok .skip w'=>R undef w'
 | .ok (.enter f args) w'=>Calls P f args w' λe w''=>∃ v,e=.returned v/\R v w''
 |_=>False

def B2b (P:Program) (o:Oper) (a:Act) (w:World) (R:Value->World->Prop):Prop:=A8s P R ((execOp a.eval o).run P w)

structure MP where
 p:Value->List Nat->World->Prop
 mono:∀ v bs w w',Bw w w'->p v bs w->p v bs w'

def MP.eq (x:Value):MP:=⟨λv bs _=>v=x/\bs=[],λ_ _ _ _ _ h=>h⟩
def MP.grd (b:Bool) (q:MP):MP:=⟨λv bs w=>(b=true->q.p v bs w)/\(b=false->v=undef/\bs=[]),λv bs w w' hb h=>⟨λe=>q.mono v bs w w' hb (h.1 e),h.2⟩⟩

abbrev DP:=(Nat->Value)->MP
def Cong (m:DP) (ks:List Nat):Prop:=∀ y y',(∀ k∈ks,y k=y' k)->m y=m y'
theorem Cong.const (m:MP) (ks:List Nat):Cong (λ_=>m) ks:=λ_ _ _=>rfl

def M_:List Edge->List Nat
 | []=>[]
 |⟨_,.textOnly _⟩::es=>M_ es
 |⟨_,.gcOnly _⟩::es=>M_ es
 |⟨on,.data⟩::es=>on::M_ es
 |⟨on,.chain⟩::es=>on::M_ es
 |⟨on,.guard⟩::es=>on::M_ es
 |⟨on,.phase⟩::es=>on::M_ es
def N_ (o:Oper):List Nat:=M_ o.after.toList
theorem A6p (k:Nat):∀ (es:List Edge),k∈M_ es↔∃ e∈es,Region.binds .any e=true/\e.on=k
 | []=>by simp[M_]
 |⟨on,g⟩::es=>by
  have ih:=A6p k es
  cases g<;>simp only[M_,List.mem_cons,ih,exists_eq_or_imp,Region.binds,true_and]<;>simp[@eq_comm _ k]
def opAt (l:List Oper) (k:Nat):Option Tmp:=(l[k]?).bind (·.dst)
def L_ (l:List Oper) (y:Nat->Value) (a:Act) (ks:List Nat):Act:=ks.foldl (λa k=>a.put (opAt l k) (y k)) a

def part (P:Program) (l:List Oper) (R:Nat->DP) (C:World->Prop) (a0:Act) (i:Nat) (o:Oper):Prop :=
 ∀ (y:Nat->Value) (z:Nat->List Nat) (w:World),C w->(∀ k∈N_ o,(R k y).p (y k) (z k) w) ->
  if Region.wanted o (yielded l.toArray (L_ l y a0 (N_ o)).tmps)then
   B2b P o (L_ l y a0 (N_ o)) w λv w'=>Bw w w'/\∃ bs,(R i y).p v bs w'/\∀ b∈bs,w.1.size<=b/\b<w'.1.size
  else(R i y).p undef [] w

def B2w (l:List Oper) (o:Oper):List Tmp:=o.looksAt l.toArray

def B1r (l:List Oper) (N:Nat):Bool :=
 Region.noSelect l.toArray &&
 (l.zipIdx.all fun(o,i)=>(match o.dst with|some d=>decide (d<N)&&l.zipIdx.all (fun(o',j)=>i==j || o'.dst != some d)|none=>true) &&
  (B2w l o).all λt=>l.zipIdx.all fun(o',k)=>o'.dst != some t || (N_ o).contains k || (N_ o').contains i)

section
variable {P:Program} {l:List Oper} {R:Nat->DP} {C:World->Prop} {a0:Act} {base:Nat}

theorem B1q (a:Act) (d:Option Tmp) (v:Value) (t:Tmp):(a.put d v).eval (.tmp t)=if d=some t/\t<a.tmps.size then v else a.eval (.tmp t):=by
 cases d with
 |none=>simp[Act.put]
 |some d =>
  by_cases b:d=t
  ·subst b
   by_cases h:d<a.tmps.size
   ·simp[Act.put,Act.eval,h]
   simp[Act.put,Act.eval,h,Array.getD_eq_getD_getElem?]
  have:(some d=some t)=False:=by simp[b]
  simp[Act.put,Act.eval,this,Array.getElem?_setIfInBounds_ne b]

theorem C4y (a:Act) (d:Option Tmp) (v:Value):(a.put d v).tmps.size=a.tmps.size:=by
 cases d<;>simp[Act.put]

theorem C4h (a:Act) (d:Option Tmp) (v:Value):(a.put d v).defers=a.defers:=by
 cases d<;>rfl

theorem B3b (y:Nat->Value):∀ (ks:List Nat) (a:Act),(L_ l y a ks).tmps.size=a.tmps.size
 | [],_=>rfl
 |k::ks,a=>by
  show(L_ l y (a.put (opAt l k) (y k)) ks).tmps.size=_
  rw[B3b y ks,C4y]

theorem A9q (y:Nat->Value):∀ (ks:List Nat) (a:Act),(L_ l y a ks).defers=a.defers
 | [],_=>rfl
 |k::ks,a=>by
  show(L_ l y (a.put (opAt l k) (y k)) ks).defers=_
  rw[A9q y ks,C4h]

theorem A2k (y:Nat->Value) (t:Tmp):∀ (ks:List Nat) (a:Act),(∀ k∈ks,opAt l k≠some t)->(L_ l y a ks).eval (.tmp t)=a.eval (.tmp t)
 | [],_,_=>rfl
 |k::ks,a,h=>by
  show(L_ l y (a.put (opAt l k) (y k)) ks).eval (.tmp t)=_
  rw[A2k y t ks _ (λj hj=>h j (List.mem_cons_of_mem _ hj)),B1q,if_neg (λe=>h k (List.mem_cons_self ..) e.1)]

theorem A5l (y:Nat->Value) (t:Tmp) (k:Nat) (b:opAt l k=some t) (u:∀ j,opAt l j=some t->j=k):∀ (ks:List Nat) (a:Act),k∈ks->t<a.tmps.size->(L_ l y a ks).eval (.tmp t)=y k
 | [],_,h,_=>by simp at h
 |j::ks,a,h,hs=>by
  show(L_ l y (a.put (opAt l j) (y j)) ks).eval (.tmp t)=_
  by_cases hkk:k∈ks
  ·exact A5l y t k b u ks _ hkk (by rw[C4y];exact hs)
  have hj:k=j:=by
   rcases List.mem_cons.1 h with h|h
   ·exact h
   exact absurd h hkk
  subst hj
  rw[A2k y t ks _ (λi D e=>hkk (u i e ▸ D)),B1q,if_pos ⟨b,hs⟩]

structure St (l:List Oper) (R:Nat->DP) (C:World->Prop) (a0:Act) (base:Nat) (listed:Array Bool) (a:Act) (w:World) (y:Nat->Value) (z:Nat->List Nat):Prop where
 c:C w
 hb:base<=w.1.size
 size:a.tmps.size=a0.tmps.size
 defers:a.defers=a0.defers
 facts:∀ i,listed.getD i false=true->(R i y).p (y i) (z i) w/\∀ b∈z i,base<=b/\b<w.1.size
 disj:∀ i j,i≠j->listed.getD i false=true->listed.getD j false=true->∀ b∈z i,b∉z j
 closed:∀ k o,l[k]?=some o->listed.getD k false=true->∀ e∈N_ o,listed.getD e false=true
 evalL:∀ t k,opAt l k=some t->listed.getD k false=true->a.eval (.tmp t)=y k
 evalN:∀ t,(∀ k,opAt l k=some t->listed.getD k false=false)->a.eval (.tmp t)=a0.eval (.tmp t)

theorem B4d {N:Nat} (h:B1r l N=true) :
  Region.noSelect l.toArray=true/\(∀ (k:Nat) t,opAt l k=some t->t<N)/\(∀ (j k:Nat) t,opAt l j=some t->opAt l k=some t->j=k) /\
  (∀ (i:Nat) o,l[i]?=some o->∀ t∈B2w l o,∀ (k:Nat) o',l[k]?=some o'->o'.dst=some t->k∈N_ o\/i∈N_ o'):=by
 simp only[B1r,Bool.and_eq_true,List.all_eq_true]at h;obtain⟨J,H⟩:=h;have mem:∀ (i:Nat) o,l[i]?=some o->(o,i)∈l.zipIdx:=λi o b=>by rw[List.mem_iff_getElem?];exact⟨i,by simp[List.getElem?_zipIdx,b]⟩
 have G:∀ (k:Nat) t,opAt l k=some t->∃ o,l[k]?=some o/\o.dst=some t:=λk t u=>by
  unfold opAt at u;cases b:l[k]? with
  |none=>simp[b]at u
  |some o=>exact⟨o,rfl,by simpa[b]using u⟩
 refine⟨J,λk t u=>?_,λj k t O u=>?_,λi o b t S k o' I D=>?_⟩;·obtain⟨o,b,D⟩:=G k t u;have:=(H _ (mem k o b)).1;simp only[D,Bool.and_eq_true,decide_eq_true_eq]at this;exact this.1
 ·obtain⟨o,b,D⟩:=G j t O;obtain⟨o',I,K⟩:=G k t u;have:=(H _ (mem j o b)).1;simp only[D,Bool.and_eq_true,decide_eq_true_eq,List.all_eq_true]at this;have E:=this.2 _ (mem k o' I);simpa[K]using E
 have E:=(H _ (mem i o b)).2 t S _ (mem k o' I);simp[D]at E;exact E

theorem A4e {o:Oper} {a a':Act} (u:∀ cs b,o.op≠.select cs b) (h:∀ t∈B2w l o,a.eval (.tmp t)=a'.eval (.tmp t)):execOp a.eval o=execOp a'.eval o:=by
 refine execOp_congr o u λx D=>?_;cases x with
 |tmp t=>exact h t (by simp only[B2w,Oper.looksAt,List.mem_append,List.mem_filterMap];exact .inl ⟨.tmp t,by simpa using D,rfl⟩)
 |_=>rfl

theorem C4l {tmps:Array Value} {j d:Nat} (h:(l.toArray[j]?).bind (·.dst)=some d) :
  yielded l.toArray tmps j=match (Act.mk tmps []).eval (.tmp d)with | .bool b=>some b|_=>none:=by
 unfold yielded;rw[h];simp only[Option.bind_some,Act.eval,Array.getD_eq_getD_getElem?];cases tmps[d]? with
 |none=>rfl
 |some v=>cases v<;>rfl

theorem A7k {o:Oper} {a a':Act} (h:∀ t∈B2w l o,a.eval (.tmp t)=a'.eval (.tmp t)):Region.wanted o (yielded l.toArray a.tmps)=Region.wanted o (yielded l.toArray a'.tmps):=by
 unfold Region.wanted;cases D:o.guard with
 |none=>rfl
 |some g =>
  obtain⟨j,u⟩:=g
  have e:yielded l.toArray a.tmps j=yielded l.toArray a'.tmps j:=by
   cases b:(l.toArray[j]?).bind (·.dst)with
   |none=>unfold yielded;rw[b];rfl
   |some d =>
    rw[C4l b,C4l b,show(Act.mk a.tmps []).eval (.tmp d)=(Act.mk a'.tmps []).eval (.tmp d)from h d (by simp only[B2w,Oper.looksAt,List.mem_append,D];exact .inr (by rw[b];simp))]
  show(yielded l.toArray a.tmps j==some u)=(yielded l.toArray a'.tmps j==some u)
  rw[e]

theorem A8y:∀ (L:List Bool) (i:Nat),L[i]?=some false->((L.set i true).filter (λb=>!b)).length+1=(L.filter (λb=>!b)).length:=by
 intro L;induction L with
 |nil=>intro i h;simp at h
 |cons b L ihL =>
  intro i h
  cases i with
  |zero=>simp at h;subst h;simp
  |succ i=>simp at h;have:=ihL i h;cases b<;>simp_all

theorem C6g {N:Nat} (am:a0.tmps.size=N) (au:∀ (k:Nat) t,opAt l k=some t->t<N) (aw:∀ (j k:Nat) t,opAt l j=some t->opAt l k=some t->j=k) {listed:Array Bool} {a:Act} {w w':World} {y:Nat->Value} {z:Nat->List Nat} {i:Nat} {o:Oper} {v:Value} {T:List Nat}
  (D:St l R C a0 base listed a w y z) (K:l[i]?=some o) (ar:i<listed.size) (ai:listed.getD i false=false) (ax:listed.size=l.length) (ab:∀ j o',l[j]?=some o'->(j=i\/listed.getD j false=true)->Cong (R j) (N_ o')) (ac:∀ e∈N_ o,listed.getD e false=true) (al:C w') (X:Bw w w') (an:(R i y).p v T w') (S:∀ b∈T,w.1.size<=b/\b<w'.1.size) :
  St l R C a0 base (listed.setIfInBounds i true) (a.put o.dst v) w' (λj=>if j=i then v else y j) (λj=>if j=i then T else z j):=by
 have J:∀ j,(listed.setIfInBounds i true).getD j false=if j=i then true else listed.getD j false:=by
  intro j;by_cases u:j=i;·subst u;simp[ar]
  simp[Array.getD_eq_getD_getElem?,Array.getElem?_setIfInBounds_ne (Ne.symm u),u]
 refine⟨al,Nat.le_trans D.hb X.size,by rw[C4y,D.size],by rw[C4h,D.defers],?_,?_,?_,?_,?_⟩
 ·intro j u
  rw[J]at u;by_cases I:j=i
  ·subst I
   have e:R j (λO=>if O=j then v else y O)=R j y:=ab j o K (.inl rfl) _ _ λk h=>by
    have:k≠j:=λe=>by have:=ac k h;rw[e,ai]at this;cases this
    simp[this]
   simp only[if_true,e];exact⟨an,λb E=>⟨Nat.le_trans D.hb (S b E).1,(S b E).2⟩⟩
  simp only[I,if_false]at u ⊢;have ap:j<l.length:=by
   rw[<-ax];rcases Nat.lt_or_ge j listed.size with W|W
   ·exact W
   simp[Array.getD_eq_getD_getElem?,Array.getElem?_eq_none W]at u
  have ag:l[j]?=some l[j]:=List.getElem?_eq_getElem ap
  have e:R j (λO=>if O=i then v else y O)=R j y:=ab j _ ag (.inr u) _ _ λk h=>by
   have:k≠i:=λe=>by have:=D.closed j _ ag u k h;rw[e,ai]at this;cases this
   simp[this]
  rw[e];exact⟨(R j y).mono _ _ _ _ X (D.facts j u).1,λb E=>⟨((D.facts j u).2 b E).1,Nat.lt_of_lt_of_le ((D.facts j u).2 b E).2 X.size⟩⟩
 ·intro j k af u h b E H
  rw[J]at u h;by_cases I:j=i;·subst I;have aq:¬ k=j:=λe=>af e.symm;simp only[if_true,aq,if_false]at E H h;have aj:=(S b E).1;have ak:=((D.facts k h).2 b H).2;omega
  by_cases G:k=i;·subst G;simp only[if_true,I,if_false]at E H u;have aj:=(S b H).1;have ak:=((D.facts j u).2 b E).2;omega
  simp only[I,G,if_false]at E H u h;exact D.disj j k af u h b E H
 ·intro k o' aa h e ad
  rw[J]at h ⊢;by_cases ae:e=i;·simp[ae]
  simp only[ae,if_false];by_cases G:k=i;·subst G;rw[K]at aa;cases aa;exact ac e ad
  simp only[G,if_false]at h;exact D.closed k o' aa h e ad
 ·intro t k h Z
  rw[J]at Z;by_cases G:k=i
  ·subst G
   have Y:o.dst=some t:=by simpa[opAt,K]using h
   rw[B1q,if_pos ⟨Y,by rw[D.size,am];exact au k t h⟩];simp
  simp only[G,if_false]at Z ⊢;rw[B1q,if_neg,D.evalL t k h Z];rintro⟨Y,_⟩;exact G (aw k i t h (by simpa[opAt,K]using Y))
 intro t ah;have ao:opAt l i≠some t:=λe=>by have:=ah i e;rw[J]at this;simp at this
 rw[B1q,if_neg (λe=>ao (by simpa[opAt,K]using e.1))];refine D.evalN t λk h=>?_;have:=ah k h;rw[J]at this;by_cases G:k=i;·simp[G]at this
 simpa[G]using this

def D4m (l:List Oper):List Nat->List Nat->List Nat
 | [],R=>R
 |i::is,R=>D4m l is (if R.contains i then(match l[i]? with|some o=>N_ o|none=>[])++R else R)

theorem B0p {listed:Array Bool} {n:Nat} (hcl:∀ k o,l[k]?=some o->k≠n->listed.getD k false=true->∀ e∈N_ o,listed.getD e false=true)
  (hn:∀ o,l[n]?=some o->∀ e∈N_ o,listed.getD e false=true):∀ (is R:List Nat),(∀ k∈R,k=n\/listed.getD k false=true)->∀ k∈D4m l is R,k=n\/listed.getD k false=true
 | [],_,h,k,hk=>h k hk
 |i::is,R,h,k,hk=>by
  refine B0p hcl hn is _ ?_ k hk
  intro j hj
  split at hj
  ·rename_i hc
   rcases List.mem_append.1 hj with hj|hj
   ·cases ho:l[i]? with
    |none=>rw[ho]at hj;simp at hj
    |some o =>
     rw[ho]at hj
     by_cases hin:i=n
     ·subst hin;exact .inr (hn o ho j hj)
     rcases h i (by simpa using hc)with e|e
     ·exact absurd e hin
     exact .inr (hcl i o ho hin e j hj)
   exact h j hj
  exact h j hj

def D5y (P:Program) (l:List Oper) (R:Nat->DP) (C:World->Prop) (a0:Act):Nat->List Oper->Prop
 |_,[]=>True
 |i,o::os=>(Cong (R i) (N_ o)/\part P l R C a0 i o)/\D5y P l R C a0 (i+1) os

theorem A5f:∀ (os:List Oper) (k:Nat),D5y P l R C a0 k os->∀ i o,os[i]?=some o->Cong (R (k+i)) (N_ o)/\part P l R C a0 (k+i) o
 | [],_,_,i,o,h=>by simp at h
 |x::os,k,hp,0,o,h=>by simp at h;subst h;exact hp.1
 |x::os,k,hp,i+1,o,h=>by
  have:=A5f os (k+1) hp.2 i o (by simpa using h)
  rw[show k+(i+1)=k+1+i by omega];exact this

def B0h (l:List Oper):Bool:=l.zipIdx.all fun(o,i)=>(N_ o).all λe=>decide (e<i)

theorem B6j (h:B0h l=true) (listed:Array Bool) (O:listed.size=l.length) (E:Region.ready .any l.toArray listed=[]):∀ i,i<l.length->listed.getD i false=true:=by
 intro i;induction i using Nat.strongRecOn with
 |_ i ih =>
  intro I
  cases H:listed.getD i false with
  |true=>rfl
  |false =>
   exfalso
   have K:l[i]?=some l[i]:=List.getElem?_eq_getElem I
   have u:∀ e∈N_ l[i],e<i:=by intro e b;simp only[B0h,List.all_eq_true]at h;have:=h (l[i],i) (by rw[List.mem_iff_getElem?];exact⟨i,by simp[List.getElem?_zipIdx,K]⟩) e b;simpa using this
   have:i∈Region.ready .any l.toArray listed:=mem_ready.2 ⟨by
    have J:i<listed.size:=oM;simpa[Array.getD_eq_getD_getElem?,J]using H,l[i],sI,λe b G=>by
    have D:e.on∈N_ l[i]:=(A6p _ _).2 ⟨e,by simpa using b,G,rfl⟩;have:=ih e.on (u _ D) (by have:=u _ D;omega);simpa using this⟩
   rw[E]at this
   cases this

def E8u (P:Program) (l:List Oper) (acc:List DP) (m:DP) (w0:World) (a0:Act) (o:Oper):Prop :=
 ∀ (y:Nat->Value) (z:Nat->List Nat) (w:World),Bw w0 w->(∀ k∈N_ o,(acc.getD k (λ_=>MP.eq undef) y).p (y k) (z k) w) ->
  if Region.wanted o (yielded l.toArray (L_ l y a0 (N_ o)).tmps)then
   B2b P o (L_ l y a0 (N_ o)) w λv w'=>Bw w w'/\∃ bs,(m y).p v bs w'/\∀ b∈bs,w.1.size<=b/\b<w'.1.size
  else(m y).p undef [] w

def A4c (P:Program) (l:List Oper) (w0:World) (a0:Act) (F:List DP->Prop):List Oper->List DP->Prop
 | [],acc=>F acc
 |o::os,acc=>∃ m:DP,Cong m (N_ o)/\E8u P l acc m w0 a0 o/\A4c P l w0 a0 F os (acc++[m])

theorem B2h {w0:World} {F:List DP->Prop} (b:B0h l=true):∀ (os:List Oper) (acc:List DP),(∀ j,j<os.length->os[j]?=l[acc.length+j]?)->A4c P l w0 a0 F os acc ->
  ∃ Rs:List DP,F Rs/\(∀ k,k<acc.length->Rs.getD k (λ_=>MP.eq undef)=acc.getD k (λ_=>MP.eq undef))/\D5y P l (λi=>Rs.getD i (λ_=>MP.eq undef)) (λw'=>Bw w0 w') a0 acc.length os
 | [],acc,_,h=>⟨acc,h,λ_ _=>rfl,trivial⟩
 |o::os,acc,hl,h=>by
  obtain⟨m,hcg,hp,hw⟩:=h
  obtain⟨Rs,hF,hag,hps⟩:=B2h b os (acc++[m]) (λj hj=>by have:=hl (j+1) sO;simpa[Nat.add_assoc,Nat.add_comm 1 j]using this) hw
  have hlow:∀ k,k<acc.length->Rs.getD k (λ_=>MP.eq undef)=acc.getD k (λ_=>MP.eq undef):=λk hk=>by
   rw[hag k sO]
   simp[List.getD_eq_getElem?_getD,List.getElem?_append_left hk]
  have hself:Rs.getD acc.length (λ_=>MP.eq undef)=m:=by rw[hag _ sI];simp[List.getD_eq_getElem?_getD]
  refine⟨Rs,hF,hlow,⟨by simpa only [hself]using hcg,?_⟩,by simpa using hps⟩
  intro y z w hC hd
  have hol:l[acc.length]?=some o:=by simpa using(hl 0 sI).symm
  have:=hp y z w hC (λk hk=>by
   have hlt:k<acc.length:=by
    simp only[B0h,List.all_eq_true]at b
    have:=b (o,acc.length) (by rw[List.mem_iff_getElem?];exact⟨acc.length,by simp[List.getElem?_zipIdx,hol]⟩) k hk
    simpa using this
   have u:=hd k hk
   simp only[hlow k hlt]at u
   exact u)
  simp only[hself]
  exact this

def A0r (w w':World) (y:Nat->Value) (z:Nat->List Nat):Nat->List DP->Prop
 |_,[]=>True
 |i,m::ms=>((m y).p (y i) (z i) w'/\∀ b∈z i,w.1.size<=b/\b<w'.1.size)/\A0r w w' y z (i+1) ms

theorem B6a {w w':World} {y:Nat->Value} {z:Nat->List Nat}:∀ (ms:List DP) (i:Nat),(∀ k m,ms[k]?=some m->(m y).p (y (i+k)) (z (i+k)) w'/\∀ b∈z (i+k),w.1.size<=b/\b<w'.1.size)->A0r w w' y z i ms
 | [],_,_=>trivial
 |m::ms,i,h=>⟨by have:=h 0 m rfl;exact this,B6a ms (i+1) λk m' hk=>by have:=h (k+1) m' (by simpa using hk);rw[show i+1+k=i+(k+1) by omega];exact this⟩

def D8m (z:Nat->List Nat) (n:Nat):Prop:=∀ i j,i≠j->i<n->j<n->∀ b∈z i,b∉z j

def C7f (l:List Oper) (m:Nat):Bool:=(List.range l.length).all λk=>decide (k<=m) || (match l[k]? with|some o=>(N_ o).contains (k - 1)|none=>true)
theorem B1j {m:Nat} (h:C7f l m=true) {k:Nat} {o:Oper} (u:l[k]?=some o) (D:m<k):k - 1∈N_ o:=by
 unfold C7f at h;rw[List.all_eq_true]at h;have:=h k (List.mem_range.2 (List.getElem?_eq_some_iff.1 u).1);rw[u]at this;simp only[Bool.or_eq_true,decide_eq_true_eq,List.contains_iff_mem]at this;rcases this with b|b
 ·omega
 exact b
theorem C4e {Q:Exit->Act->World->Prop} {m:Nat} (Z:C7f l m=true) (ac:∀ (listed:Array Bool),listed.size=l.length->Region.ready .any l.toArray listed=[]->∀ i,i<l.length->listed.getD i false=true) :
  ∀ (fuel j:Nat) (listed:Array Bool) (a:Act) (w:World),m<=j->j<=l.length->listed.size=l.length->l.length - j<=fuel->(∀ k,k<l.length->listed.getD k false=decide (k<j)) ->
   wpList P l.toArray Q (l.drop j) a w->wpAny P .any l.toArray Q fuel listed a w:=by
 intro fuel;induction fuel with
 |zero =>
  intro j listed a w al ai T ag u b
  have O:j=l.length:=oM
  subst O
  have ap:Region.ready .any l.toArray listed=[]:=by
   cases ao:Region.ready .any l.toArray listed with
   |nil=>rfl
   |cons i is =>
    exfalso
    have K:i∈Region.ready .any l.toArray listed:=by rw[ao];exact List.mem_cons_self ..
    obtain⟨J,o,I,_⟩:=mem_ready.1 K
    have D:i<l.length:=by
     rcases Nat.lt_or_ge i l.length with b|b;·exact b
     simp[List.getElem?_eq_none b]at I
    have h:=u i D
    have E:i<listed.size:=oM
    simp only[D,decide_true]at h
    rw[Array.getD_eq_getD_getElem?]at h J
    simp[E]at h J
    rw[h]at J;cases J
  rw[List.drop_length]at b
  exact⟨ap,b⟩
 |succ fuel ih =>
  intro j listed a w al ai T ag u b
  refine⟨λY=>?_,λi K=>?_⟩
  ·have O:j=l.length:=by
    rcases Nat.lt_or_ge j l.length with h|h
    ·have H:=ac listed T Y j h;rw[u j h]at H;simp at H
    omega
   subst O
   rw[List.drop_length]at b
   exact b
  ·obtain⟨ar,o,I,aa⟩:=mem_ready.1 K
   have S:l[i]?=some o:=by simpa using I
   have D:i<l.length:=(List.getElem?_eq_some_iff.1 S).1
   have E:i<listed.size:=oM
   have aq:listed.getD i false=false:=by
    have:listed[i]=false:=by simpa[Array.getD_eq_getD_getElem?,E]using ar
    simpa[Array.getD_eq_getD_getElem?,E]using this
   have au:j<=i:=by have:=u i D;rw[aq]at this;have:=of_decide_eq_false this.symm;omega
   have ah:i=j:=by
    rcases Nat.lt_or_ge j i with h|h
    ·exfalso
     have H:=B1j Z S oM;obtain⟨X,af,ab,ae⟩:=(A6p (i - 1) _).1 H;have W:listed.getD (i - 1) false=true:=by rw[<-ae];simpa using aa X (by simpa using af) ab
     rw[u (i - 1) oM]at W;have:=of_decide_eq_true W;omega
    omega
   subst ah
   have ad:l.drop i=o::l.drop (i+1):=by rw[List.drop_eq_getElem_cons D];congr 1;exact(List.getElem?_eq_some_iff.1 S).2
   rw[ad]at b
   have am:∀ (G:Act) (w':World),wpList P l.toArray Q (l.drop (i+1)) G w'->wpAny P .any l.toArray Q fuel (listed.setIfInBounds i true) G w':=by
    intro G w' an;refine ih (i+1) _ G w' oM oM (by simpa using T) oM (λk aj=>?_) an;by_cases ak:k=i;·subst ak;rw[Array.getD_eq_getD_getElem?];simp[E]
    rw[Array.getD_eq_getD_getElem?,Array.getElem?_setIfInBounds_ne oM,<-Array.getD_eq_getD_getElem?,u k aj];congr 1;exact propext ⟨λb=>oM,λb=>oM⟩
   refine wpOp_mono am ?_
   unfold wpOp
   simp only[I]
   unfold wpList at b
   split
   ·rename_i hw;rw[if_pos hw]at b;exact b
   rename_i hw;rw[if_neg hw]at b;exact b
section
variable {Q:Exit->Act->World->Prop} {listed:Array Bool} {a:Act} {w:World} {y:Nat->Value} {z:Nat->List Nat} {N m i:Nat} {o:Oper}
theorem C4i (S:listed.size=l.length) (hi:i∈Region.ready .any l.toArray listed):∃ o,l[i]?=some o/\i<l.length/\listed.getD i false=false/\listed.toList[i]?=some false/\∀ e∈N_ o,listed.getD e false=true:=by
 obtain⟨O,o,K,E⟩:=mem_ready.1 hi;have u:l[i]?=some o:=by simpa using K
 have J:=(List.getElem?_eq_some_iff.1 u).1;have b:i<listed.size:=oM;have h:listed[i]=false:=by simpa[Array.getD_eq_getD_getElem?,b]using O
 refine⟨o,u,J,by simpa[Array.getD_eq_getD_getElem?,b]using h,by simp[b,h],λe H=>?_⟩;obtain⟨D,I,G,rfl⟩:=(A6p e _).1 H;simpa using E D (by simpa using I) G
theorem C1v {p:Nat} (I:listed.size=l.length) (h:∀ k,p<=k->k<l.length->listed.getD k false=false):l.length - p<=(listed.toList.filter (λb=>!b)).length:=by
 have D:(listed.toList.drop p).filter (λb=>!b)=listed.toList.drop p:=by rw[List.filter_eq_self];intro b E;obtain⟨j,G,rfl⟩:=List.mem_iff_getElem.1 E;simp only[List.length_drop,Array.length_toList]at G;have:=h (p+j) oM oM;have H:p+j<listed.size:=oM;simpa[Array.getD_eq_getD_getElem?,H]using this
 have u:=((List.drop_sublist p listed.toList).filter (λb=>!b)).length_le;rw[D]at u;simpa[I]using u
theorem C7h (h:i<listed.size) (k:Nat):(listed.setIfInBounds i true).getD k false=if k=i then true else listed.getD k false:=by
 by_cases b:k=i;·subst b;simp[h]
 simp[Array.getD_eq_getD_getElem?,Array.getElem?_setIfInBounds_ne (Ne.symm b),b]
theorem F2l (O:a0.tmps.size=N) (K:B1r l N=true) (E:St l R C a0 base listed a w y z) (aa:l[i]?=some o) (ae:listed.getD i false=false) (T:∀ e∈N_ o,listed.getD e false=true) :
  ∀ t∈B2w l o,a.eval (.tmp t)=(L_ l y a0 (N_ o)).eval (.tmp t):=by
 obtain⟨_,ab,G,ac⟩:=B4d K;intro t ad;by_cases b:∃ k,opAt l k=some t
 ·obtain⟨k,b⟩:=b
  obtain⟨u,I,S⟩:∃ u,l[k]?=some u/\u.dst=some t:=by simpa[opAt,Option.bind_eq_some_iff]using b
  by_cases D:k∈N_ o;·rw[E.evalL t k b (T k D),A5l y t k b (λj X=>G j k t X b) _ _ D (by rw[O];exact ab k t b)]
  have W:i∈N_ u:=(ac i o aa t ad k u I S).resolve_left D;have Z:listed.getD k false=false:=by
   cases J:listed.getD k false with
   |false=>rfl
   |true=>have:=E.closed k u I J i W;rw[ae]at this;cases this
  rw[E.evalN t (λH h=>by rw[G H k t h b];exact Z),A2k y t _ _ (λH Y h=>D (G H k t h b ▸ Y))]
 rw[E.evalN t (λk h=>absurd ⟨k,h⟩ b),A2k y t _ _ (λk _ h=>b ⟨k,h⟩)]
theorem D8o (X:a0.tmps.size=N) (S:B1r l N=true) (K:St l R C a0 base listed a w y z) (H:l[i]?=some o) (ac:listed.getD i false=false) (T:∀ e∈N_ o,listed.getD e false=true) (aa:part P l R C a0 i o) {O:Act->World->Prop}
  (J:∀ (v:Value) (bs:List Nat) (w':World),Bw w w'->(R i y).p v bs w'->(∀ b∈bs,w.1.size<=b/\b<w'.1.size)->O (a.put o.dst v) w'):wpOp P l.toArray Q i O a w:=by
 have W:=F2l X S K H ac T;have ab:∀ u b,o.op≠.select u b:=λu b=>Region.noSelect_spec (B4d S).1 i o u b (by simpa using H);have h:=aa y z w K.c (λk Z=>(K.facts k (T k Z)).1);rw[<-A7k W]at h;unfold wpOp;simp only[List.getElem?_toArray,H];split
 ·rename_i I
  rw[if_pos I]at h;refine .inl ?_;unfold B2b at h;unfold Oper.wp;rw[<-A4e ab W]at h;generalize (execOp a.eval o).run P w=r at h;cases r with
  |ok n w' =>
   cases n<;>simp only[A8s]at h<;>simp only[Oper.upon]
   case enter f args=>exact h.mono λe w'' ⟨v,he,D,bs,E,G⟩=>by subst he;exact J _ bs _ D E G
   all_goals (obtain⟨D,bs,E,G⟩:=h;exact J _ bs _ D E G)
  |halt x w'=>simp only[A8s]at h
 rename_i I;rw[if_neg I]at h;exact J undef [] w (Below.refl _ _) h (λb Y=>by simp at Y)
theorem D7k:St l R (λw'=>Bw w w') a0 w.1.size (Array.replicate l.toArray.size false) a0 { w with drawn:=w.drawn+1 } (λ_=>undef) (λ_=>[]):=by
 have u:∀ i,(Array.replicate l.toArray.size false).getD i false=false:=λi=>by rw[Array.getD_eq_getD_getElem?,Array.getElem?_replicate];split<;>rfl
 refine⟨⟨rfl,rfl,rfl,Nat.le_refl _,λ_ _=>rfl⟩,Nat.le_refl _,rfl,rfl,?_,?_,?_,?_,λ_ _=>rfl⟩;·intro i b;rw[u]at b;cases b
 ·intro i j _ b;rw[u]at b;cases b
 ·intro k o _ h;rw[u]at h;cases h
 intro t k _ h;rw[u]at h;cases h
theorem D9r (J:B1r l N=true) (h:St l R C a0 base listed a w y z)
  (K:∀ k,k<m->listed.getD k false=true) (X:∀ k,m<=k->k<l.length->listed.getD k false=false):a=L_ l y a0 (List.range m):=by
 obtain⟨_,_,W,_⟩:=B4d J;have E:a.tmps=(L_ l y a0 (List.range m)).tmps:=by
  apply Array.ext;·rw[h.size,B3b]
  intro t H I;have Y:a.eval (.tmp t)=(L_ l y a0 (List.range m)).eval (.tmp t):=by
   by_cases b:∃ k,k<m/\opAt l k=some t;·obtain⟨k,D,b⟩:=b;rw[h.evalL t k b (K k D),A5l y t k b (λj O=>W j k t O b) _ _ (List.mem_range.2 D) (by rw[<-h.size];exact H)]
   rw[h.evalN t (λk u=>?_),A2k y t _ _ (λk T u=>b ⟨k,List.mem_range.1 T,u⟩)];by_cases D:k<m;·exact absurd ⟨k,D,u⟩ b
   by_cases S:k<l.length;·exact X k oM S
   simp[opAt,List.getElem?_eq_none (by omega:l.length<=k)]at u
  simpa[Act.eval,H,I]using Y
 have G:a.defers=(L_ l y a0 (List.range m)).defers:=by rw[h.defers,A9q]
 cases a;simp only at E G;rw[E,G]
def D2r (l:List Oper) (m:Nat):Bool :=
 let R:=D4m l (List.range l.length).reverse [m]
 decide (m<=l.length)&&(decide (m=l.length) || (List.range m).all λk=>R.contains k)
theorem F2m (an:∀ w w',C w->base<=w.1.size->Bw w w'->C w') (ae:a0.tmps.size=N) (W:B1r l N=true) (X:D2r l m=true) (aa:C7f l m=true)
  (aA:∀ i o,i<m->l[i]?=some o->part P l R C a0 i o) (ao:∀ i o,i<m->l[i]?=some o->Cong (R i) (N_ o))
  (af:∀ (y:Nat->Value) (z:Nat->List Nat) (w:World),C w->(∀ i,i<m->(R i y).p (y i) (z i) w/\∀ b∈z i,base<=b/\b<w.1.size)->(∀ i j,i≠j->i<m->j<m->∀ b∈z i,b∉z j) ->
   wpList P l.toArray Q (l.drop m) (L_ l y a0 (List.range m)) w)
  (ab:∀ (listed:Array Bool),listed.size=l.length->Region.ready .any l.toArray listed=[]->∀ i,i<l.length->listed.getD i false=true) :
  ∀ (fuel:Nat) (listed:Array Bool) (a:Act) (w:World) (y:Nat->Value) (z:Nat->List Nat),listed.size=l.length->(listed.toList.filter (λb=>!b)).length<=fuel->(∀ k,m<=k->k<l.length->listed.getD k false=false) ->
   St l R C a0 base listed a w y z->wpAny P .any l.toArray Q fuel listed a w:=by
 obtain⟨aH,aC,aD,aI⟩:=B4d W;simp only[D2r,Bool.and_eq_true,decide_eq_true_eq,Bool.or_eq_true,List.all_eq_true]at X;obtain⟨ai,X⟩:=X;intro fuel;induction fuel with
 |zero =>
  intro listed a w y z H ah E h
  have K:∀ k,k<l.length->listed.getD k false=true:=λk D=>by have S:k<listed.size:=oM;have Z:listed.toList.filter (λb=>!b)=[]:=List.length_eq_zero_iff.1 oM;have:=List.filter_eq_nil_iff.1 Z listed[k] (Array.getElem_mem_toList S);simpa[Array.getD_eq_getD_getElem?,S]using this
  have aG:m=l.length:=by
   rcases Nat.lt_or_ge m l.length with u|u;·have:=K m u;rw[E m (Nat.le_refl _) u]at this;cases this
   omega
  refine C4e aa ab 0 m listed a w (Nat.le_refl _) ai H oM (λk D=>by rw[K k D];simp;omega) ?_
  rw[D9r W h (λk D=>K k oM) E]
  exact af y z w h.c (λi J=>h.facts i (K i oM)) (λi j ac J O=>h.disj i j ac (K i oM) (K j oM))
 |succ fuel ih =>
  intro listed a w y z H ah E h
  by_cases I:∀ k,k<m->listed.getD k false=true
  ·refine C4e aa ab (fuel+1) m listed a w (Nat.le_refl _) ai H (Nat.le_trans (C1v H E) ah) (λk D=>?_) ?_
   ·by_cases ad:k<m
    ·rw[I k ad];simp[ad]
    rw[E k oM D];simp[ad]
   rw[D9r W h I E]
   exact af y z w h.c (λi J=>h.facts i (I i J)) (λi j ac J O=>h.disj i j ac (I i J) (I j O))
  refine⟨λZ=>absurd (λk D=>ab listed H Z k oM) I,λi J=>?_⟩
  obtain⟨o,T,aF,ak,ay,Y⟩:=C4i H J
  have S:i<listed.size:=oM
  have au:i<m:=by
   rcases Nat.lt_trichotomy i m with u|u|u;·exact u
   ·subst u
    refine absurd (λk D=>?_) I
    have aB:=B0p (l:=l) (listed:=listed) (n:=i) (λk o ax _ D=>h.closed k o ax D) (λal aj e ar=>by
     rw[T]at aj;cases aj;exact Y e ar) (List.range l.length).reverse [i] (λk D=>by simp at D;exact .inl D) k
     (by have:=(X.resolve_left oM) k (List.mem_range.2 D);simpa using this)
    exact aB.resolve_left oM
   have G:=Y _ (B1j aa T u);rw[E (i - 1) oM oM]at G;cases G
  refine D8o ae W h T ak Y (aA i o au T) λv aE w' ag ap aq=>?_
  refine ih _ _ w' _ _ (by simpa using H) ?_ (λk G am=>by rw[C7h S,if_neg oM];exact E k G am) (C6g ae aC aD h T S ak H (λj al O az=>ao j al (by
   have aw:=(List.getElem?_eq_some_iff.1 O).1;rcases Nat.lt_or_ge j m with G|G
   ·exact G
   rcases az with u|u;·omega
   rw[E j G aw]at u;cases u) O) Y (an _ _ h.c h.hb ag) ag ap aq)
  have:=A8y listed.toList i ay
  rw[show(listed.setIfInBounds i true).toList=listed.toList.set i true by simp];omega
theorem W_ {ac:Nat} (m:Nat) (aa:P.follows .mixedOrders=true) (T:B1r l a0.tmps.size=true) (J:B0h l=true) (E:D2r l m=true) (X:C7f l m=true)
  (h:A4c P l w a0 (λRs=>∀ (y:Nat->Value) (z:Nat->List Nat) (w':World),Bw w w'->A0r w w' y z 0 (Rs.take m) ->
   D8m z m->wpList P l.toArray Q (l.drop m) (L_ l y a0 (List.range m)) w') (l.take m) []):(Code.region ac l.toArray true).wp P Q a0 w:=by
 have ae:m<=l.length:=by simp only[D2r,Bool.and_eq_true,decide_eq_true_eq]at E;exact E.1
 have ad:(l.take m).length=m:=sO;have G:∀ j,j<(l.take m).length->(l.take m)[j]?=l[j]?:=λj K=>by rw[List.getElem?_take,if_pos oM]
 obtain⟨Rs,W,_,O⟩:=B2h J (l.take m) [] (λj K=>by simpa using G j K) h;refine wp_region_any aa ?_
 refine F2m (m:=m) (R:=λi=>Rs.getD i (λ_=>MP.eq undef)) (C:=λw'=>Bw w w') (a0:=a0) (base:=w.1.size) (λag ah b u D=>b.trans (D.mono u)) rfl T E X
  (λi o Y I=>by have:=(A5f (l.take m) 0 O i o (by rw[G i oM];exact I)).2;rwa [Nat.zero_add]at this)
  (λi o Y I=>by have:=(A5f (l.take m) 0 O i o (by rw[G i oM];exact I)).1;rwa [Nat.zero_add]at this)
  (λy z w' b u D=>W y z w' b (B6a _ 0 λk af H=>?_) D) (λlisted ab S=>B6j J listed ab S) _ _ a0 _ _ _ sI sI (λk _ _=>?_) D7k
 ·rw[Nat.zero_add,List.getElem?_take]at *
  split at H;·rename_i Z;have:=u k Z;simpa[List.getD_eq_getElem?_getD,H]using this
  cases H
 rw[Array.getD_eq_getD_getElem?,Array.getElem?_replicate];split<;>rfl
theorem D5d {m:Nat} (h:l.length<=m+1):C7f l m=true:=by
 unfold C7f;rw[List.all_eq_true];intro k b;have:=List.mem_range.1 b;simp;omega
theorem C4t {id:Nat} (hm:P.follows .mixedOrders=true) (hB:B1r l a0.tmps.size=true) (hK:B0h l=true)
  (h:A4c P l w a0 (λRs=>∀ (y:Nat->Value) (z:Nat->List Nat) (w':World),Bw w w'->A0r w w' y z 0 (Rs.take l.length) ->
   D8m z l.length->Q .normal (L_ l y a0 (List.range l.length)) w') l []):(Code.region id l.toArray true).wp P Q a0 w :=
 W_ l.length hm hB hK (by simp[D2r]) (D5d oM) (by simpa[wpList]using h)
def D3k (l:List Oper):Bool:=decide (0<l.length)&&D2r l (l.length - 1)
theorem C7p {H:Nat} (b:l≠[]) (G:P.follows .mixedOrders=true) (D:B1r l a0.tmps.size=true) (E:B0h l=true) (u:D3k l=true)
  (h:A4c P l w a0 (λRs=>∀ (y:Nat->Value) (z:Nat->List Nat) (w':World),Bw w w'->A0r w w' y z 0 (Rs.take l.dropLast.length) ->
   D8m z l.dropLast.length->wpList P l.toArray Q [l.getLast b] (L_ l y a0 (List.range l.dropLast.length)) w') l.dropLast []):(Code.region H l.toArray true).wp P Q a0 w:=by
 simp only[D3k,Bool.and_eq_true]at u;refine W_ (l.length - 1) G D E u.2 (D5d oM) ?_;have I:=List.length_pos_iff.2 b;have e:l.drop (l.length - 1)=[l.getLast b]:=by rw[List.drop_eq_getElem_cons oM,List.getLast_eq_getElem,List.drop_eq_nil_of_le oM]
 rw[e,<-List.dropLast_eq_take];simpa using h
theorem X_ {P:Program} {l:List Oper} {a0:Act} {id:Nat} {Q:Exit->Act->World->Prop} {w:World} (hne:l≠[])
  (h:A4c P l w a0 (λRs=>∀ (y:Nat->Value) (z:Nat->List Nat) (w':World),Bw w w'->A0r w w' y z 0 (Rs.take l.dropLast.length) ->
   D8m z l.dropLast.length->wpList P l.toArray Q [l.getLast hne] (L_ l y a0 (List.range l.dropLast.length)) w') l.dropLast [])
  (hm:P.follows .mixedOrders=true:=by kernel_rfl) (hB:B1r l a0.tmps.size=true:=by kernel_rfl) (hK:B0h l=true:=by kernel_rfl) (hT:D3k l=true:=by kernel_rfl):(Code.region id l.toArray true).wp P Q a0 w:=C7p hne hm hB hK hT h
end

theorem A2b {w0:World} {F:List DP->Prop} {o:Oper} {u:List Oper} {b:List DP} (v:Value)
  (h:∀ (y:Nat->Value) (z:Nat->List Nat) (w:World),Bw w0 w->(∀ k∈N_ o,(b.getD k (λ_=>MP.eq undef) y).p (y k) (z k) w) ->
   Region.wanted o (yielded l.toArray (L_ l y a0 (N_ o)).tmps)=true/\(execOp (L_ l y a0 (N_ o)).eval o).run P w=.ok (.value v) w)
  (J:A4c P l w0 a0 F u (b++[λ_=>MP.eq v])):A4c P l w0 a0 F (o::u) b:=by
 refine⟨_,Cong.const _ _,λy z w G I=>?_,J⟩;obtain⟨D,E⟩:=h y z w G I;rw[if_pos D];unfold B2b;rw[E];exact⟨Below.refl _ _,[],⟨rfl,rfl⟩,λK H=>by simp at H⟩

theorem A4m {w0:World} {F:List DP->Prop} {o:Oper} {u:List Oper} {b:List DP}
  (h:∀ (y:Nat->Value) (z:Nat->List Nat) (w:World),Bw w0 w->(∀ k∈N_ o,(b.getD k (λ_=>MP.eq undef) y).p (y k) (z k) w) ->
   Region.wanted o (yielded l.toArray (L_ l y a0 (N_ o)).tmps)=false)
  (G:A4c P l w0 a0 F u (b++[λ_=>MP.eq undef])):A4c P l w0 a0 F (o::u) b:=by
 refine⟨_,Cong.const _ _,λy z w D E=>?_,G⟩;rw[if_neg (by rw[h y z w D E];simp)];exact⟨rfl,rfl⟩

theorem D_ {w0:World} {F:List DP->Prop} {o:Oper} {D:List Oper} {u:List DP} (m:MP)
  (h:∀ (y:Nat->Value) (z:Nat->List Nat) (w:World),Bw w0 w->(∀ k∈N_ o,(u.getD k (λ_=>MP.eq undef) y).p (y k) (z k) w) ->
   Region.wanted o (yielded l.toArray (L_ l y a0 (N_ o)).tmps)=true/\∃ f args,(execOp (L_ l y a0 (N_ o)).eval o).run P w=.ok (.enter f args) w /\
    Calls P f args w λe w'=>∃ v,e=.returned v/\Bw w w'/\∃ bs,m.p v bs w'/\∀ b∈bs,w.1.size<=b/\b<w'.1.size)
  (K:A4c P l w0 a0 F D (u++[λ_=>m])):A4c P l w0 a0 F (o::D) u:=by
 refine⟨λ_=>m,Cong.const _ _,λy z w I J=>?_,K⟩;obtain⟨E,f,args,G,H⟩:=h y z w I J;rw[if_pos E];unfold B2b;rw[G];exact H

theorem _root_.gD {p:Prop} (h:p:=by go_simp;done):p:=h
theorem C_ {w0:World} {F:List DP->Prop} {o:Oper} {u:List Oper} {b:List DP} (v:Value) (G:A4c P l w0 a0 F u (b++[λ_=>MP.eq v]))
  (h:∀ (y:Nat->Value) (z:Nat->List Nat) (w:World),Bw w0 w->(∀ k∈N_ o,(b.getD k (λ_=>MP.eq undef) y).p (y k) (z k) w) ->
   Region.wanted o (yielded l.toArray (L_ l y a0 (N_ o)).tmps)=true/\(execOp (L_ l y a0 (N_ o)).eval o).run P w=.ok (.value v) w:=by
    intro K O J D E;obtain⟨H,I⟩:=F_ D;simp at E;refine⟨gD,?_⟩;go_simp;first|(go_ints;exact rfl)|(go_ints;rw[if_pos oM];try exact rfl)|exact rfl|(rw[if_pos oM];try exact rfl)):A4c P l w0 a0 F (o::u) b:=A2b v h G
theorem G_ {A:Prop} {α β:Type} {f:α} {a:β} {B C:α->β->Prop} (c:C f a) (h:A:=by go_simp;done) (b:B f a:=by go_simp;exact⟨rfl,rfl⟩):A/\∃ f a,B f a/\C f a:=⟨h,f,a,b,c⟩
theorem A0g {id:Nat} {Q:Exit->Act->World->Prop} {w:World} 
  (h:A4c P l w a0 (λRs=>∀ (y:Nat->Value) (z:Nat->List Nat) (w':World),Bw w w'->A0r w w' y z 0 (Rs.take l.length) ->
   D8m z l.length->Q .normal (L_ l y a0 (List.range l.length)) w') l []) (hm:P.follows .mixedOrders=true:=by kernel_rfl) (hB:B1r l a0.tmps.size=true:=by kernel_rfl) (hK:B0h l=true:=by kernel_rfl):(Code.region id l.toArray true).wp P Q a0 w:=C4t hm hB hK h
theorem A9h {w0:World} {F:List DP->Prop} {o:Oper} {u:List Oper} {b:List DP} (v:(Nat->Value)->Value) (I:Cong (λy=>MP.eq (v y)) (N_ o))
  (h:∀ (y:Nat->Value) (z:Nat->List Nat) (w:World),Bw w0 w->(∀ k∈N_ o,(b.getD k (λ_=>MP.eq undef) y).p (y k) (z k) w) ->
   Region.wanted o (yielded l.toArray (L_ l y a0 (N_ o)).tmps)=true/\(execOp (L_ l y a0 (N_ o)).eval o).run P w=.ok (.value (v y)) w)
  (K:A4c P l w0 a0 F u (b++[λy=>MP.eq (v y)])):A4c P l w0 a0 F (o::u) b:=by
 refine⟨_,I,λy z w G J=>?_,K⟩;obtain⟨D,E⟩:=h y z w G J;rw[if_pos D];unfold B2b;rw[E];exact⟨Below.refl _ _,[],⟨rfl,rfl⟩,λO H=>by simp at H⟩

theorem A3q {w0:World} {F:List DP->Prop} {o:Oper} {D:List Oper} {u:List DP} (m:DP) (J:Cong m (N_ o))
  (h:∀ (y:Nat->Value) (z:Nat->List Nat) (w:World),Bw w0 w->(∀ k∈N_ o,(u.getD k (λ_=>MP.eq undef) y).p (y k) (z k) w) ->
   Region.wanted o (yielded l.toArray (L_ l y a0 (N_ o)).tmps)=true/\∃ f args,(execOp (L_ l y a0 (N_ o)).eval o).run P w=.ok (.enter f args) w /\
    Calls P f args w λe w'=>∃ v,e=.returned v/\Bw w w'/\∃ bs,(m y).p v bs w'/\∀ b∈bs,w.1.size<=b/\b<w'.1.size)
  (O:A4c P l w0 a0 F D (u++[m])):A4c P l w0 a0 F (o::D) u:=by
 refine⟨m,J,λy z w I K=>?_,O⟩;obtain⟨E,f,args,G,H⟩:=h y z w I K;rw[if_pos E];unfold B2b;rw[G];exact H
end
end Go.XB

namespace Go.XB
open Go.RowKit

def Free (w:World) (bs:List Nat):Prop:=bs.Nodup/\∀ b∈bs,∃ cs t,w.1[b]?=some (.cells cs t (0,0))
theorem Free.below {w w':World} {bs:List Nat} (h:Free w bs) (hb:Bw w w'):Free w' bs :=
 ⟨h.1,λb hm=>by obtain⟨cs,t,e⟩:=h.2 b hm;exact⟨cs,t,(hb.block b (E_ e)).trans e⟩⟩
theorem Own.free {w0 w:World} {bs:List Nat} (h:Own w0 w bs):Free w bs:=⟨h.1,λb hm=>(h.2 b hm).2⟩
theorem Own.range {w0 w:World} {bs:List Nat} (h:Own w0 w bs):∀ b∈bs,w0.1.size<=b/\b<w.1.size:=λb hm=>⟨(h.2 b hm).1,h.lt b hm⟩
theorem Free.own {w0 w:World} {bs:List Nat} (h:Free w bs) (hr:∀ b∈bs,w0.1.size<=b):Own w0 w bs:=⟨h.1,λb hm=>⟨hr b hm,h.2 b hm⟩⟩

def MP.agg {α:Type} [Dat α] (x:α):MP:=⟨λv bs w=>Agg w v x bs/\Free w bs,λ_ _ _ _ hb h=>⟨h.1.below hb,h.2.below hb⟩⟩
def MP.sl {α:Type} [Dat α] (xs:List α):MP:=⟨λv bs w=>(∃ A n c,v=.slice A n c/\Sl w A n c xs bs)/\Free w bs,λ_ _ _ _ hb h=>⟨(by obtain⟨A,n,c,e,hs⟩:=h.1;exact⟨A,n,c,e,hs.below hb⟩),h.2.below hb⟩⟩

theorem A0i {P:Program} {f:FuncId} {args:Array Value} {w:World} {v:Value} (h:Calls P f args w (A0b w v)) :
  Calls P f args w λe w'=>∃ u,e=.returned u/\Bw w w'/\∃ bs,(MP.eq v).p u bs w'/\∀ b∈bs,w.1.size<=b/\b<w'.1.size :=
 h.mono λ_ _ ⟨he,hb⟩=>⟨v,he,hb,[],⟨rfl,rfl⟩,λb hb=>by simp at hb⟩
theorem H_ {α:Type} [Dat α] {P:Program} {f:FuncId} {args:Array Value} {w:World} {x:α} (h:Calls P f args w (A0c w x)) :
  Calls P f args w λe w'=>∃ u,e=.returned u/\Bw w w'/\∃ bs,(MP.agg x).p u bs w'/\∀ b∈bs,w.1.size<=b/\b<w'.1.size :=
 h.mono λ_ _ ⟨v,bs,he,ha,ho,hb⟩=>⟨v,he,hb,bs,⟨ha,ho.free⟩,ho.range⟩
theorem A1c {α:Type} [Dat α] {P:Program} {f:FuncId} {args:Array Value} {w:World} {xs:List α} (h:Calls P f args w (A0w w xs)) :
  Calls P f args w λe w'=>∃ u,e=.returned u/\Bw w w'/\∃ bs,(MP.sl xs).p u bs w'/\∀ b∈bs,w.1.size<=b/\b<w'.1.size :=
 h.mono λ_ _ ⟨A,n,c,bs,he,ha,ho,hb⟩=>⟨_,he,hb,bs,⟨⟨A,n,c,rfl,ha⟩,ho.free⟩,ho.range⟩
end Go.XB

namespace Go.XB
open Go.RowKit

def MP.box (cs:Array Value) (t:TypeId):MP:=⟨λv bs w=>∃ g,v=.pointer (some ⟨g,0,none⟩)/\bs=[g]/\w.1[g]?=some (.cells cs t),λv bs w w' hb h=>by
 obtain⟨g,e,hz,hg⟩:=h;exact⟨g,e,hz,(hb.block g (E_ hg)).trans hg⟩⟩

section
variable {P:Program} {l:List Oper} {a0:Act}
theorem A1p {w0:World} {F:List DP->Prop} {o:Oper} {D:List Oper} {b:List DP} (cs:Array Value) (t:TypeId)
  (h:∀ (y:Nat->Value) (z:Nat->List Nat) (w:World),Bw w0 w->(∀ k∈N_ o,(b.getD k (λ_=>MP.eq undef) y).p (y k) (z k) w) ->
   Region.wanted o (yielded l.toArray (L_ l y a0 (N_ o)).tmps)=true/\(execOp (L_ l y a0 (N_ o)).eval o).run P w=.ok (.value (.pointer (some ⟨w.1.size,0,none⟩))) (w.alloc (.cells cs t)))
  (J:A4c P l w0 a0 F D (b++[λ_=>MP.box cs t])):A4c P l w0 a0 F (o::D) b:=by
 refine⟨λ_=>MP.box cs t,Cong.const _ _,λy z w H I=>?_,J⟩;obtain⟨E,G⟩:=h y z w H I;rw[if_pos E];unfold B2b;rw[G];refine⟨(Below.refl _ _).alloc (Nat.le_refl _) _,[w.1.size],⟨w.1.size,rfl,rfl,by show(w.1.push _)[w.1.size]?=_;simp⟩,λK u=>?_⟩;simp at u;subst u;simp
end

theorem B_ {w:World} {g j:Nat} {cs:Array Value} {t:TypeId} {v:Value} (h:w.1[g]?=some (.cells cs t)) (b:cs[j]?=some v):w.cell? ⟨g,j,none⟩=some v/\w.frozen? ⟨g,j,none⟩=false:=by
 unfold World.cell? World.frozen?;rw[h];simp[b]
theorem B5x {h:World} {g:Nat} {r s:TRat} {b1 b2:List Nat} {u0 u1 u2 E u4 G:Value} (Z:Agg h (.agg #[u0,u1,u2]) r b1) (aa:Agg h (.agg #[E,u4,G]) s b2) (ab:g<h.1.size)
  (J:h.cell? ⟨g,0,none⟩=some u0) (K:h.cell? ⟨g,1,none⟩=some u1) (O:h.cell? ⟨g,2,none⟩=some u2) (c3:h.cell? ⟨g,3,none⟩=some E) (S:h.cell? ⟨g,4,none⟩=some u4) (T:h.cell? ⟨g,5,none⟩=some G) :
  Sl h (some ⟨g,0,none⟩) 2 2 [r,s] (g::(b1++b2)):=by
 obtain⟨l1,W,H⟩:=Z;obtain⟨l2,X,I⟩:=aa;have k1:l1=[u0,u1,u2]:=by have:=congrArg (λv=>match v with | .agg c=>c.toList|_=>[]) W;simpa using this.symm
 have k2:l2=[E,u4,G]:=by have:=congrArg (λv=>match v with | .agg c=>c.toList|_=>[]) X;simpa using this.symm
 subst k1;subst k2;refine⟨rfl,Nat.le_refl _,dE,λY=>absurd Y dE,λ_=>⟨g,0,[b1,b2],rfl,sI,rfl,ab,λk x ad D u=>?_⟩⟩;match k,D,u with
 |0,D,u =>
  simp at D u;subst D;subst u
  refine⟨_,λj ac b=>?_,H⟩
  match j,b with
  |0,b=>simp at b;subst b;exact J
  |1,b=>simp at b;subst b;exact K
  |2,b=>simp at b;subst b;exact O
 |1,D,u =>
  simp at D u;subst D;subst u
  refine⟨_,λj ac b=>?_,I⟩
  match j,b with
  |0,b=>simp at b;subst b;exact c3
  |1,b=>simp at b;subst b;exact S
  |2,b=>simp at b;subst b;exact T
end Go.XB

namespace Go.XB
open Go.RowKit

theorem A1a {n:Nat} {w:World} (h:n<=w.1.size) (o:Obj):n<=(w.alloc o).1.size:=by
 have:(w.alloc o).1.size=w.1.size+1:=sI;omega

theorem A1t {w:World} {b size:Nat} {e:TypeId} {v:Value} {xs:List Int} {x:Int} (h:w.ownsRow b e size v (xs.length+1) (xs.map (.int .i64)++[.int .i64 x])) :
  w.ownsRow b e size v (xs++[x]).length ((xs++[x]).map (.int .i64)):=by simpa using h

theorem B0b {w:World} {b size n:Nat} {e:TypeId} {v:Value} {xs:List Value} (h:w.ownsRow b e size v n xs):∀ k,v.ownBlock=some k->b<=k:=by
 intro k u;rcases h.2 with⟨rfl,_⟩|⟨g,cap,D,rfl,E,_⟩
 ·cases u
 simp[Value.ownBlock]at u;omega

theorem A2o {w wr w3:World} {size n:Nat} {e:TypeId} {v:Value} {xs:List Value} {o:Obj} (hb:Bw w wr) (h:wr.ownsRow w.1.size e size v n xs) (hg:(wr.alloc o).grownBy w3 v.ownBlock) :
  Bw w w3:=(hb.alloc hb.size o).grown hg (A1a hb.size o) (B0b h)

theorem A2r {w w':World} {e:TypeId} {v:Value} {xs:List Int} {n:Nat} (h:w'.ownsRow w.1.size e 1 v n (xs.map (.int .i64))) (J:xs.length=n) (hi:∀ x∈xs,I64 x) (D:Bw w w') :
  A0w w xs (.returned v) w':=by
 have H:Filled (α:=Int) w' (xs.map (.int .i64)) xs (List.replicate xs.length []):=Filled.ints (by rw[List.take_of_length_le sI]) hi sI;obtain⟨A,c,u,rfl,K,b⟩:=Filled.sl (base:=w.1.size) (n:=n) (v:=v) H h J;refine⟨A,n,c,u,rfl,K,B7v (n:=n) (fss:=List.replicate xs.length []) ?_ ?_,D⟩
 ·rcases b with b|⟨g,_,E,I,G⟩
  ·exact .inl b
  exact .inr ⟨g,E,I,G,by rw[B0k];simp⟩
 rw[B0k];exact Own.nil _ _
theorem Sl.cellsInt {w:World} {a:Addr} {n c:Nat} {xs:List Int} {G:List Nat} (h:Sl w (some a) n c xs G):∀ j u,(xs.map (.int .i64))[j]?=some u->w.cell? (a.add j)=some u:=by
 intro j u b;have I:j<xs.length:=by have:=(List.getElem?_eq_some_iff.1 b).1;simpa using this
 obtain⟨D,E,x,e,K,J,O,H⟩:=Sl.getInt h (by rw[<-h.1];exact I:j<n);obtain rfl:=Option.some.inj e;rw[List.getElem?_map,J]at b;obtain rfl:=Option.some.inj b;have e:(⟨D,E,none⟩:Addr).add j=⟨D,E+j,none⟩:=by unfold Addr.add;split<;>simp_all
 rw[e];exact H
theorem Sl.i64 {w:World} {A:Option Addr} {n c:Nat} {xs:List Int} {D:List Nat} (h:Sl w A n c xs D):∀ x∈xs,I64 x:=by
 intro x G;obtain⟨k,b⟩:=List.mem_iff_getElem?.1 G;obtain⟨_,_,y,_,_,u,E,_⟩:=Sl.getInt h (by rw[<-h.1];exact(List.getElem?_eq_some_iff.1 b).1:k<n);rw[b]at u;obtain rfl:=Option.some.inj u;exact E
theorem D4k (xs:List Int):∀ u∈xs.map (Value.int .i64),u.oneCell'=true:=by
 intro u b;obtain⟨x,_,rfl⟩:=List.mem_map.1 b;rfl
def B3k (w:World) (t:TypeId) (xs:List Int) (e:Ending) (w':World):Prop :=
 ∃ v,e=.returned v/\w'.ownsRow w.1.size t 1 v xs.length (xs.map (.int .i64))/\Bw w w'
end Go.XB

namespace Go.XB
open Go.RowKit

theorem A3a {w:World} {b g n cap:Nat} {e:TypeId} {zs:List Int} (h:w.ownsRow b e 1 (.slice (some ⟨g,0,none⟩) n cap) n (zs.map (.int .i64))) (j:Nat) (u:Int) :
  (w.setCell ⟨g,j,none⟩ (.int .i64 u)).ownsRow b e 1 (.slice (some ⟨g,0,none⟩) n cap) n ((zs.set j u).map (.int .i64)):=by
 rw[List.map_set];exact(World.ownsRow.stored h j _).1
theorem A0t {w:World} {b g n cap:Nat} {e:TypeId} {zs:List Int} (h:w.ownsRow b e 1 (.slice (some ⟨g,0,none⟩) n cap) n (zs.map (.int .i64))) {j:Nat} {x:Int} (u:zs[j]?=some x) :
  g<w.1.size/\w.cell? ⟨g,j,none⟩=some (.int .i64 x)/\w.frozen? ⟨g,j,none⟩=false:=by
 have D:=(List.getElem?_eq_some_iff.1 u).1;have E:zs.length=n*1:=by have:=h.1;simpa using this
 exact⟨(World.ownsRow.lt h _ rfl).2,by rw[World.ownsRow.cellAt h j oM,List.getElem?_map,u];rfl,World.ownsRow.frozenAt h j⟩
theorem A2n {w:World} {b g n cap:Nat} {e:TypeId} {zs:List Int} (h:w.ownsRow b e 1 (.slice (some ⟨g,0,none⟩) n cap) n (zs.map (.int .i64))):zs.length=n:=by have:=h.1;simpa using this
theorem A6k {w:World} {b n:Nat} {e:TypeId} {v:Value} {zs:List Value} (h:w.ownsRow b e 1 v n zs):(v=.slice none 0 0/\n=0)\/∃ g cap,v=.slice (some ⟨g,0,none⟩) n cap/\b<=g/\g<w.1.size/\n<=cap/\cap<=maxLen:=by
 rcases h.2 with⟨rfl,rfl⟩|⟨g,cap,H,rfl,u,E,G,D,_⟩;·exact .inl ⟨rfl,rfl⟩
 exact .inr ⟨g,cap,rfl,u,E_ E,G,D⟩

theorem C6w {w:World} {b n c:Nat} {A:Option Addr} {e:TypeId} {zs:List Int} (h:w.ownsRow b e 1 (.slice A n c) n (zs.map (.int .i64))) {k:Nat} (K:k<=n):w.ownsRow b e 1 (.slice A k c) k ((zs.take k).map (.int .i64)):=by
 have T:zs.length=n:=by have:=h.1;simpa using this
 refine⟨sO,?_⟩;rcases h.2 with⟨u,E⟩|⟨g,cap,D,u,G,J,S,H,I,O⟩
 ·have:k=0:=oM;subst this;subst E;exact .inl ⟨u,rfl⟩
 simp only[Value.slice.injEq,true_and]at u;obtain⟨rfl,rfl⟩:=u;refine .inr ⟨g,c,D,rfl,G,J,oM,H,I,?_⟩;rw[List.map_take,<-O,List.take_take,Nat.mul_one,Nat.mul_one,Nat.min_eq_left K]
theorem A7v {w:World} {b n c:Nat} {A:Option Addr} {e:TypeId} {zs:List Int} (h:w.ownsRow b e 1 (.slice A n c) n (zs.map (.int .i64))) (hi:∀ x∈zs,I64 x):∃ bs,Sl w A n c zs bs:=by
 have G:zs.length=n:=by have:=h.1;simpa using this
 have D:Filled (α:=Int) w (zs.map (.int .i64)) zs (List.replicate zs.length []):=Filled.ints (by rw[List.take_of_length_le sI]) hi sI;obtain⟨H,c',bs,u,E,_⟩:=Filled.sl (base:=b) (n:=n) D h G;cases u;exact⟨bs,E⟩
theorem C4a {w:World} {b n:Nat} {e:TypeId} {v:Value} {zs:List Value} (h:w.ownsRow b e 1 v n zs):∃ A c,v=.slice A n c:=by
 rcases A6k h with⟨rfl,rfl⟩|⟨g,cap,rfl,_⟩;·exact⟨none,0,rfl⟩
 exact⟨_,cap,rfl⟩
theorem E9b {w:World} {b n c:Nat} {A:Option Addr} {e:TypeId} {zs:List Value} (h:w.ownsRow b e 1 (.slice A n c) n zs) (J:0<n):∃ g,A=some ⟨g,0,none⟩/\b<=g/\g<w.1.size/\n<=c/\c<=maxLen:=by
 rcases A6k h with⟨_,I⟩|⟨g,cap,u,D,E,G,H⟩;·omega
 simp only[Value.slice.injEq,true_and]at u;obtain⟨rfl,rfl⟩:=u;exact⟨g,rfl,D,E,G,H⟩

theorem C4b {b xs:List Int} {k:Nat} (D:b.length=k) (h:k<xs.length) (u:Int):(b++xs.drop k).set k u=(b++[u])++xs.drop (k+1):=by
 rw[List.set_append_right _ _ oM,D,Nat.sub_self,List.drop_eq_getElem_cons h,List.set_cons_zero,List.append_assoc];rfl
theorem D1q {b xs:List Int} {k:Nat} {x:Int} (h:b.length=k) (u:xs[k]?=some x):(b++xs.drop k)[k]?=some x:=by
 rw[List.getElem?_append_right oM,h,Nat.sub_self,List.getElem?_drop];simpa using u

end Go.XB


namespace Go.XB
open Go.RowKit

def C0i (w:World) (q r:List Int) (e:Ending) (w':World):Prop :=
 ∃ A1 n1 c1 b1 A2 n2 c2 b2,e=.returned (.tuple #[.slice A1 n1 c1,.slice A2 n2 c2])/\Sl w' A1 n1 c1 q b1/\Sl w' A2 n2 c2 r b2/\Own w w' (b1++b2)/\Bw w w'

theorem D2g {w:World} {b n:Nat} {v:Value} {e:TypeId} {zs:List Int} (h:w.ownsRow b e 1 v n (zs.map (.int .i64))) (hi:∀ x∈zs,I64 x) :
  ∃ A c bs,v=.slice A n c/\Sl w A n c zs bs/\(bs=[]\/∃ g,bs=[g]/\v.ownBlock=some g/\b<=g/\∃ cs t,w.1[g]?=some (.cells cs t (0,0))):=by
 have S:zs.length=n:=by have:=h.1;simpa using this
 have I:Filled (α:=Int) w (zs.map (.int .i64)) zs (List.replicate zs.length []):=Filled.ints (by rw[List.take_of_length_le sI]) hi sI;obtain⟨D,c',bs,E,O,G⟩:=Filled.sl (base:=b) (n:=n) I h S;refine⟨D,c',bs,E,O,?_⟩;rcases G with⟨_,u⟩|⟨g,J,u,K,H⟩
 ·exact .inl u
 exact .inr ⟨g,by rw[u,B0k],J,K,H⟩

theorem B1d {w w':World} {q r:List Int} {v1 v2:Value} {ab ac:TypeId} {n1 n2 b1 b2:Nat} (E:w'.ownsRow b1 ab 1 v1 n1 (q.map (.int .i64))) (h:w'.ownsRow b2 ac 1 v2 n2 (r.map (.int .i64)))
  (T:∀ x∈q,I64 x) (W:∀ x∈r,I64 x) (ad:w.1.size<=b1) (ae:w.1.size<=b2) (S:∀ g1 g2,v1.ownBlock=some g1->v2.ownBlock=some g2->g1≠g2) (O:Bw w w') :
  C0i w q r (.returned (.tuple #[v1,v2])) w':=by
 obtain⟨G,I,Z,rfl,X,o1⟩:=D2g E T;obtain⟨H,J,aa,rfl,Y,o2⟩:=D2g h W;refine⟨G,n1,I,Z,H,n2,J,aa,rfl,X,Y,?_,O⟩;rcases o1 with rfl|⟨g1,rfl,K,E,k1⟩
 ·rcases o2 with rfl|⟨g2,rfl,D,h,k2⟩
  ·exact Own.nil _ _
  exact⟨sI,λu b=>by simp at b;subst b;exact⟨oM,k2⟩⟩
 rcases o2 with rfl|⟨g2,rfl,D,h,k2⟩;·exact⟨sI,λu b=>by simp at b;subst b;exact⟨oM,k1⟩⟩
 have:=S g1 g2 K D;refine⟨by simp[this],λu b=>?_⟩;simp at b;rcases b with rfl|rfl
 ·exact⟨oM,k1⟩
 exact⟨oM,k2⟩
theorem B8h {h w':World} {v1 v2:Value} {b n1 n2:Nat} {H I:TypeId} {q r:List Value} (E:h.ownsRow b H 1 v1 n1 q) (G:w'.ownsRow h.1.size I 1 v2 n2 r):∀ g1 g2,v1.ownBlock=some g1->v2.ownBlock=some g2->g1≠g2:=by
 intro g1 g2 u D;have:=(World.ownsRow.lt E _ u).2;have:=B0b G _ D;omega
end Go.XB

namespace Go.XB
open Go.RowKit

theorem _root_.mL {p:Prop} (h:p:=by unfold maxLen;omega):p:=h
theorem E0l {P:Program} {w:World} (t ty e:TypeId) (i:TypeInfo) (D:P.underlying t=some (.slice e)) (hi:P.info? e=some i) (ac:i.zero=some (.int .i64 0)) (ab:i.size=1) (W:i.bytes=8)
  (g:Nat) (A:Option Addr) (n c:Nat) (xs:List Int) (O:List Nat) (h:Sl w A n c xs O) (ai:n<=1048576) :
  ∃ A' c' bs' w',(Builtin.append_ #[t,t] ty #[.slice (some ⟨g,0,none⟩) 0 0,.slice A n c]).run P w=.ok (.slice A' n c') w'/\Sl w' A' n c' xs bs'/\Own w w' bs'/\Bw w w':=by
 rcases Nat.eq_zero_or_pos n with u|u
 ·subst u
  obtain rfl:xs=[]:=List.eq_nil_of_length_eq_zero h.1;refine⟨some ⟨g,0,none⟩,0,[],w,?_,⟨rfl,Nat.le_refl _,Nat.zero_le _,λ_=>rfl,λb=>absurd b dE⟩,Own.nil _ _,Below.refl _ _⟩;cases A with
  |none=>simp[Builtin.append_,run_underlying D,sizeOf,typeInfo,hi,Builtin.lenOf,Builtin.firstCells,storeCells]
  |some a =>
   have:=run_append_room_cells (P:=P) w t ty e i D hi g 0 0 0 a 0 c [] sI (λj J b=>by simp at b) (λJ b=>by simp at b) (Nat.le_refl _) (λj b=>by simp at b) (λj b=>by simp at b)
   exact this
 obtain⟨K,ae,ah,rfl,_⟩:=h.2.2.2.2 u;have ad:(Value.int .i64 0).cells.size=1:=rfl;obtain⟨ag,w',aa,I,af⟩:=run_append_arg_grows (P:=P) w t ty e i (.int .i64 0) 1 8 D hi ac ab W ad dE ⟨g,0,none⟩ 0 0 [] rfl (λj J b=>by simp at b) ⟨K,ae,none⟩ n c (xs.map (.int .i64)) (by rw[List.length_map,h.1,Nat.mul_one]) (Sl.cellsInt h) oM mL oM;rw[Nat.zero_add,List.nil_append]at I;have E:Bw w w':=(Below.refl _ w).grown af (Nat.le_refl _) (by intro k X;cases X);obtain⟨A',H,c',bs',S,G,Z,_⟩:=A2r I h.1 (Sl.i64 h) E;have T:ag=.slice A' H c':=by injection S
 subst T;have Y:H=n:=by rw[<-G.1,h.1]
 subst Y;exact⟨A',c',bs',w',aa,G,Z,E⟩

theorem A6r {P:Program} {w:World} {u:Array Oper} {rest:List Oper} {o:Oper} {a:Act} {Q:Exit->Act->World->Prop} (J:o.guard=none) (s x:Operand) (t:TypeId)
  (O:o.op=.call { callee:=.builtin .append,args:=#[s,x],argTypes:=#[t,t] }) (e:TypeId) (i:TypeInfo) (Y:P.underlying t=some (.slice e)) (hi:P.info? e=some i) (aa:i.zero=some (.int .i64 0)) (W:i.size=1) (I:i.bytes=8)
  (g:Nat) (T:a.eval s=.slice (some ⟨g,0,none⟩) 0 0) (A:Option Addr) (n c:Nat) (xs:List Int) (b:List Nat) (Z:a.eval x=.slice A n c) (X:Sl w A n c xs b) (K:n<=1048576)
  (h:∀ A' c' bs' w',Sl w' A' n c' xs bs'->Own w w' bs'->Bw w w'->wpList P u Q rest (a.put o.dst (.slice A' n c')) w'):wpList P u Q (o::rest) a w:=by
 obtain⟨A',c',bs',w',S,D,E,G⟩:=E0l (P:=P) (w:=w) t o.type e i Y hi aa W I g A n c xs b X K;refine wpList_plain J λab H=>?_;unfold Oper.wp;simp[execOp,O,resolve,invoke,builtin,T,Z,S,Result.andThen];exact H _ _ (h A' c' bs' w' D E G)

section
variable {P:Program} {l:List Oper} {a0:Act}
end
end Go.XB

namespace Go.XB
open Go.RowKit Go.Proofs.YtbhemnidcleaiaaGreat.X
theorem bx {w:World} {g:Nat} {b:Array Value} {t:TypeId} (h:w.1[g]?=some (.cells b t)):(∀ j,w.cell? ⟨g,j,none⟩=b[j]?)/\(∀ j,w.frozen? ⟨g,j,none⟩=false)/\g<w.1.size:=by
 refine⟨λj=>?_,λj=>by simp[World.frozen?,h],E_ h⟩;cases u:b[j]? with
 |some v=>exact(B_ h u).1
 |none=>simp[World.cell?,h,u]
theorem A0z {w w':World} {b:Nat} {o:Obj} (h:w.1[b]?=some o) (hb:Bw w w'):w'.1[b]?=some o:=(hb.block b (E_ h)).trans h
theorem B9q {w:World} {b j:Nat} {cs:Array Value} {t:TypeId} {v:Value} (h:w.1[b]?=some (.cells cs t)):(w.setCell ⟨b,j,none⟩ v).1[b]?=some (.cells (cs.setIfInBounds j v) t):=by
 have u:=E_ h;have D:w.1[b]=.cells cs t (0,0):=by simpa[Array.getElem?_eq_getElem u]using h
 show(w.1.modify b _)[b]?=_;rw[Array.getElem?_modify,if_pos rfl,Array.getElem?_eq_getElem u,D];rfl
theorem A5y {X w:World} {g i:Nat} {v0:Value} (h:X.grownBy w (some g)):X.grownBy (w.setCell ⟨g,i,none⟩ v0) (some g) :=
 ⟨h.os,h.tape,h.output,by simpa using h.size,λk hk hne=>(Below.heap_setCell _ _ _ k (by intro e;exact hne (by rw[e]))).trans (h.block k hk hne)⟩
theorem B3a (w:World) (r:Option Nat):w.grownBy w r:=⟨rfl,rfl,rfl,Nat.le_refl _,λ_ _ _=>rfl⟩
structure New1 (y W:World) (o:Obj):Prop where
 b:Bw y W
 k:W.1[y.1.size]?=some o
theorem New1.mk' (y:World) (o:Obj):New1 y (y.alloc o) o:=⟨Below.box _,heap_alloc_new y _⟩
structure New2 (y W:World) (o q:Obj):Prop where
 b:Bw y W
 k:W.1[y.1.size]?=some o
 l:W.1[y.1.size+1]?=some q
theorem New2.mk' (y:World) (o q:Obj):New2 y ((y.alloc o).alloc q) o q:=⟨(Below.box _).alloc sI _,A0z (heap_alloc_new y _) (Below.box _),by have:=heap_alloc_new (y.alloc o) q;rwa [World.size_alloc]at this⟩
structure New3 (y W:World) (o q m:Obj):Prop where
 b:Bw y W
 k:W.1[y.1.size]?=some o
 l:W.1[y.1.size+1]?=some q
 m:W.1[y.1.size+1+1]?=some m
theorem New3.mk' (y:World) (o q m:Obj):New3 y (((y.alloc o).alloc q).alloc m) o q m :=
 have h:=New2.mk' y o q
 ⟨h.b.alloc sO _,A0z h.k (Below.box _),A0z h.l (Below.box _),by have:=heap_alloc_new ((y.alloc o).alloc q) m;rwa [World.size_alloc,World.size_alloc]at this⟩
structure New4 (y W:World) (o q m n:Obj):Prop where
 b:Bw y W
 k:W.1[y.1.size]?=some o
 l:W.1[y.1.size+1]?=some q
 m:W.1[y.1.size+1+1]?=some m
 n:W.1[y.1.size+1+1+1]?=some n
theorem New4.mk' (y:World) (o q m n:Obj):New4 y ((((y.alloc o).alloc q).alloc m).alloc n) o q m n :=
 have h:=New3.mk' y o q m
 ⟨h.b.alloc sO _,A0z h.k (Below.box _),A0z h.l (Below.box _),A0z h.m (Below.box _),by have:=heap_alloc_new (((y.alloc o).alloc q).alloc m) n;rwa [World.size_alloc,World.size_alloc,World.size_alloc]at this⟩
structure New5 (y W:World) (o q m n p:Obj):Prop where
 b:Bw y W
 k0:W.1[y.1.size]?=some o
 k1:W.1[y.1.size+1]?=some q
 k2:W.1[y.1.size+2]?=some m
 k3:W.1[y.1.size+3]?=some n
 k4:W.1[y.1.size+4]?=some p
 z:W.1.size=y.1.size+5
theorem New5.mk' (y:World) (o q m n p:Obj):New5 y (((((y.alloc o).alloc q).alloc m).alloc n).alloc p) o q m n p :=
 have h:=New4.mk' y o q m n
 have z:((((y.alloc o).alloc q).alloc m).alloc n).1.size=y.1.size+4:=sI
 ⟨h.b.alloc (by rw[z];omega) _,A0z h.k (Below.box _),A0z h.l (Below.box _),A0z h.m (Below.box _),A0z h.n (Below.box _),by have:=heap_alloc_new ((((y.alloc o).alloc q).alloc m).alloc n) p;rwa [z]at this,sI⟩
theorem bxL {w:World} {g:Nat} {L:List Value} {t:TypeId} (h:w.1[g]?=some (.cells L.toArray t)):(∀ j,w.cell? ⟨g,j,none⟩=L[j]?)/\g<w.1.size:=⟨λj=>by rw[(bx h).1 j];simp,E_ h⟩
theorem sl2 {W:World} {g:Nat} {r s:TRat} {b1 b2:List Nat} {u0 u1 u2 u3 u4 u5:Value} {t:TypeId} (K:W.1[g]?=some (.cells #[u0,u1,u2,u3,u4,u5] t)) (h1:Agg W (.agg #[u0,u1,u2]) r b1) (h2:Agg W (.agg #[u3,u4,u5]) s b2):Sl W (some ⟨g,0,none⟩) 2 2 [r,s] (g::(b1++b2)) :=
 B5x h1 h2 (E_ K) ((bx K).1 0) ((bx K).1 1) ((bx K).1 2) ((bx K).1 3) ((bx K).1 4) ((bx K).1 5)
structure Sets (y W:World) (g:Nat) (arr:Array Value) (t:TypeId):Prop where
 gr:y.grownBy W (some g)
 k:W.1[g]?=some (.cells arr t)
theorem Sets.low {L g:Nat} {w y W:World} {arr:Array Value} {t:TypeId} (h:Sets y W g arr t) (hb:Below L w y) (hl:L<=y.1.size) (hg:L<=g):Below L w W:=hb.grown h.gr hl (λx hx=>by injection hx with hx;omega)
theorem E1s {w w1 w2:World} {r:Option Nat} (h:w.grownBy w1 r) (hb:Bw w1 w2):w.grownBy w2 r :=
 ⟨hb.os.trans h.os,hb.tape.trans h.tape,hb.output.trans h.output,Nat.le_trans h.size hb.size,λk hk hne=>(hb.block k (Nat.lt_of_lt_of_le hk h.size)).trans (h.block k hk hne)⟩
theorem gtr {w w1 w2:World} {r:Option Nat} (h:w.grownBy w1 r) (h2:w1.grownBy w2 r):w.grownBy w2 r :=
 ⟨h2.os.trans h.os,h2.tape.trans h.tape,h2.output.trans h.output,Nat.le_trans h.size h2.size,λk hk hne=>(h2.block k (Nat.lt_of_lt_of_le hk h.size) hne).trans (h.block k hk hne)⟩
theorem B8b {w w':World} {b g:Nat} {o:Obj} (h:w.1[b]?=some o) (hg:w.grownBy w' (some g)) (hn:b≠g):w'.1[b]?=some o:=(hg.block b (E_ h) (λe=>hn (by injection e))).trans h
theorem Sl.keepG {α:Type} [Dat α] {w w':World} {A:Option Addr} {n c g:Nat} {xs:List α} {bs:List Nat} (h:Sl w A n c xs bs) (hg:w.grownBy w' (some g)) (hn:g∉bs):Sl w' A n c xs bs :=
 h.keep λb hb=>hg.block b (h.lt b hb) (λe=>hn (by injection e with e;exact e ▸ hb))
theorem Agg.keepG {α:Type} [Dat α] {w w':World} {v:Value} {g:Nat} {x:α} {bs:List Nat} (h:Agg w v x bs) (hg:w.grownBy w' (some g)) (hn:g∉bs):Agg w' v x bs :=
 h.keep λb hb=>hg.block b (h.lt b hb) (λe=>hn (by injection e with e;exact e ▸ hb))
theorem Free.keepG {w w':World} {g:Nat} {bs:List Nat} (h:Free w bs) (hg:w.grownBy w' (some g)) (hn:g∉bs):Free w' bs :=
 ⟨h.1,λb hb=>by obtain⟨cs,t,e⟩:=h.2 b hb;exact⟨cs,t,B8b e hg (λe'=>hn (e' ▸ hb))⟩⟩
theorem Free.join {w:World} {a b:List Nat} (h1:Free w a) (h2:Free w b) (hd:∀ x∈a,x∉b):Free w (a++b) :=
 ⟨List.nodup_append.2 ⟨h1.1,h2.1,λx hx _ hy e=>hd x hx (e ▸ hy)⟩,λx hx=>(List.mem_append.1 hx).elim (h1.2 x) (h2.2 x)⟩
theorem B8v {α:Type} [Dat α] {w u G:World} {g:Nat} {v:Value} {x:α} {D:List Nat} (O:Agg u v x D) (S:Free u D) (J:∀ b∈D,w.1.size<=b/\b≠g) (E:Bw w u) (T:w.1.size<=g) (h:u.grownBy G (some g)):A0c w x (.returned v) G:=by
 have I:g∉D:=λh=>(J g h).2 rfl;have H:=S.keepG h I;exact⟨v,D,rfl,O.keepG h I,⟨H.1,λb E=>⟨(J b E).1,H.2 b E⟩⟩,E.grown h E.size (λx K=>by injection K with K;omega)⟩
def RatBox (w:World) (g:Nat) (x:TRat) (zs:List Nat):Prop:=∃ A1 n1 c1 A2 n2 c2,w.1[g]?=some (.cells #[.bool x.1.1,.slice A1 n1 c1,.slice A2 n2 c2] 35)/\Agg w (.agg #[.bool x.1.1,.slice A1 n1 c1,.slice A2 n2 c2]) x zs/\g∉zs
theorem RatBox.new {y W:World} {x:TRat} {zs:List Nat} {A1 A2:Option Addr} {n1 c1 n2 c2:Nat} (ha:Agg y (.agg #[.bool x.1.1,.slice A1 n1 c1,.slice A2 n2 c2]) x zs) (h:New1 y W (.cells #[.bool x.1.1,.slice A1 n1 c1,.slice A2 n2 c2] 35)):RatBox W y.1.size x zs :=
 ⟨_,_,_,_,_,_,h.k,ha.below h.b,λhm=>by have:=ha.lt _ hm;omega⟩
theorem RatBox.set {y W:World} {g:Nat} {x:TRat} {zs:List Nat} {A1 A2:Option Addr} {n1 c1 n2 c2:Nat} (ha:Agg y (.agg #[.bool x.1.1,.slice A1 n1 c1,.slice A2 n2 c2]) x zs) (h:Sets y W g #[.bool x.1.1,.slice A1 n1 c1,.slice A2 n2 c2] 35) (hn:g∉zs):RatBox W g x zs :=
 ⟨_,_,_,_,_,_,h.k,ha.keepG h.gr hn,hn⟩
theorem RatBox.below {w w':World} {g:Nat} {x:TRat} {zs:List Nat} (h:RatBox w g x zs) (b:Bw w w'):RatBox w' g x zs:=by
 obtain⟨u,n1,E,D,n2,G,k,a,n⟩:=h;exact⟨u,n1,E,D,n2,G,A0z k b,a.below b,n⟩
end Go.XB
namespace Go
open Go.RowKit Go.XB
variable {P:Program} {c:Code} {Q:Exit->Act->World->Prop} {a:Act} {y:World} {o q m n p:Obj} {f:FuncId} {av:Array Value} {R:Ending->World->Prop} {g:Nat} {t:TypeId}
theorem Code.new (h:∀ W,Hid (New1 y W o)->c.wp P Q a W):c.wp P Q a (y.alloc o):=h _ (New1.mk' y o)
theorem Code.new2 (h:∀ W,Hid (New2 y W o q)->c.wp P Q a W):c.wp P Q a ((y.alloc o).alloc q):=h _ (New2.mk' y o q)
theorem Code.newd2 (h:∀ W,Hid (New2 y W o q)->c.wp P Q a W):c.wp P Q a ((y.alloc o).alloc q).drew:=h _ ⟨Below.drew (New2.mk' y o q).b,(New2.mk' y o q).k,(New2.mk' y o q).l⟩
theorem Calls.new (h:∀ W,Hid (New1 y W o)->Calls P f av W R):Calls P f av (y.alloc o) R:=h _ (New1.mk' y o)
theorem Calls.new2 (h:∀ W,Hid (New2 y W o q)->Calls P f av W R):Calls P f av ((y.alloc o).alloc q) R:=h _ (New2.mk' y o q)
theorem Code.new3 (h:∀ W,Hid (New3 y W o q m)->c.wp P Q a W):c.wp P Q a (((y.alloc o).alloc q).alloc m):=h _ (New3.mk' y o q m)
theorem Code.new5 (h:∀ W,Hid (New5 y W o q m n p)->c.wp P Q a W):c.wp P Q a (((((y.alloc o).alloc q).alloc m).alloc n).alloc p):=h _ (New5.mk' y o q m n p)
theorem Calls.new4 (h:∀ W,Hid (New4 y W o q m n)->Calls P f av W R):Calls P f av ((((y.alloc o).alloc q).alloc m).alloc n) R:=h _ (New4.mk' y o q m n)
theorem Code.set2 {v0 v1 u0 u1:Value} (K:y.1[g]?=some (.cells #[u0,u1] t)) (h:∀ W,Hid (Sets y W g #[v0,v1] t)->c.wp P Q a W):c.wp P Q a ((y.setCell ⟨g,0,none⟩ v0).setCell ⟨g,1,none⟩ v1):=h _ ⟨A5y (A5y (B3a y _)),B9q (B9q K)⟩
theorem Code.set3 {v0 v1 v2 u0 u1 u2:Value} (K:y.1[g]?=some (.cells #[u0,u1,u2] t)) (h:∀ W,Hid (Sets y W g #[v0,v1,v2] t)->c.wp P Q a W):c.wp P Q a (((y.setCell ⟨g,0,none⟩ v0).setCell ⟨g,1,none⟩ v1).setCell ⟨g,2,none⟩ v2):=h _ ⟨A5y (A5y (A5y (B3a y _))),B9q (B9q (B9q K))⟩
theorem Code.set6 {v0 v1 v2 v3 v4 v5 u0 u1 u2 u3 u4 u5:Value} (K:y.1[g]?=some (.cells #[u0,u1,u2,u3,u4,u5] t)) (h:∀ W,Hid (Sets y W g #[v0,v1,v2,v3,v4,v5] t)->c.wp P Q a W) :
  c.wp P Q a ((((((y.setCell ⟨g,0,none⟩ v0).setCell ⟨g,1,none⟩ v1).setCell ⟨g,2,none⟩ v2).setCell ⟨g,3,none⟩ v3).setCell ⟨g,4,none⟩ v4).setCell ⟨g,5,none⟩ v5):=h _ ⟨A5y (A5y (A5y (A5y (A5y (A5y (B3a y _)))))),B9q (B9q (B9q (B9q (B9q (B9q K)))))⟩
end Go

namespace Go.XN

def val:List Int->Int
 | []=>0
 |x::xs=>x+1000000000*val xs

def pw (n:Nat):Int:=1000000000 ^ n
theorem B0q:pw 0=1:=by simp[pw]
theorem A1l (n:Nat):pw (n+1)=1000000000*pw n:=by unfold pw;rw[Int.pow_succ,Int.mul_comm]
theorem A5r (n:Nat):0<pw n:=by
 induction n with
 |zero=>rw[B0q];omega
 |succ n ih=>rw[A1l];omega
theorem B0f (m n:Nat):pw (m+n)=pw m*pw n:=by unfold pw;exact Int.pow_add ..
theorem A6t {m n:Nat} (h:m<=n):pw m<=pw n:=by
 induction n with
 | zero => have : m = 0 := by omega
           subst this;exact Int.le_refl _
 |succ n ih =>
  rcases Nat.lt_or_ge n m with b|b
  ·have:m=n+1:=oM
   subst this;exact Int.le_refl _
  have u:=ih b;have D:=A5r n;rw[A1l];omega

def Lims (l:List Int):Prop:=∀ x∈l,0<=x/\x<1000000000
theorem Lims.nil:Lims []:=λ_ h=>by simp at h
theorem Lims.cons {x:Int} {l:List Int} (h0:0<=x) (h1:x<1000000000) (h:Lims l):Lims (x::l):=λy hy=>by
 rcases List.mem_cons.1 hy with rfl|hy
 ·exact⟨h0,h1⟩
 exact h y hy
theorem Lims.tail {x:Int} {l:List Int} (h:Lims (x::l)):Lims l:=λy hy=>h y (List.mem_cons_of_mem _ hy)
theorem Lims.head {x:Int} {l:List Int} (h:Lims (x::l)):0<=x/\x<1000000000:=h x (List.mem_cons_self ..)
theorem Lims.append {a b:List Int} (ha:Lims a) (hb:Lims b):Lims (a++b):=λy hy=>by
 rcases List.mem_append.1 hy with hy|hy
 ·exact ha y hy
 exact hb y hy
theorem Lims.left {a b:List Int} (h:Lims (a++b)):Lims a:=λy hy=>h y (List.mem_append_left _ hy)
theorem Lims.take {l:List Int} (h:Lims l) (k:Nat):Lims (l.take k):=λy hy=>h y (List.mem_of_mem_take hy)
theorem Lims.drop {l:List Int} (h:Lims l) (k:Nat):Lims (l.drop k):=λy hy=>h y (List.mem_of_mem_drop hy)
theorem Lims.get {l:List Int} (h:Lims l) {k:Nat} {x:Int} (hx:l[k]?=some x):0<=x/\x<1000000000:=h x (List.mem_of_getElem? hx)
theorem Lims.one {x:Int} (h0:0<=x) (h1:x<1000000000):Lims [x]:=Lims.cons h0 h1 Lims.nil

theorem B7q (a b:List Int):val (a++b)=val a+pw a.length*val b:=by
 induction a with
 |nil=>simp[val,B0q]
 |cons x a ih=>rw[List.cons_append,val,ih,val,List.length_cons,A1l];grind
theorem A4s (a:List Int) (x:Int):val (a++[x])=val a+pw a.length*x:=by rw[B7q];simp[val]
theorem S_ {l:List Int} (h:Lims l):0<=val l:=by
 induction l with
 |nil=>simp[val]
 |cons x l ih=>have:=ih h.tail;have:=h.head;rw[val];omega
theorem A4j {l:List Int} (h:Lims l):val l<pw l.length:=by
 induction l with
 |nil=>simp[val,B0q]
 |cons x l ih=>have:=ih h.tail;have:=h.head;rw[val,List.length_cons,A1l];omega
theorem A9k (n:Nat):val (List.replicate n 0)=0:=by
 induction n with
 |zero=>rfl
 |succ n ih=>rw[List.replicate_succ,val,ih];rfl
theorem Y_ {l:List Int} {k:Nat} {x:Int} (h:l[k]?=some x):val (l.take (k+1))=val (l.take k)+pw k*x:=by
 have b:=(List.getElem?_eq_some_iff.1 h).1;rw[Go.XB.take_step h,A4s,List.length_take,Nat.min_eq_left oM]
theorem A4n {l:List Int} {k:Nat} {x:Int} (h:l[k]?=some x):val (l.drop k)=x+1000000000*val (l.drop (k+1)):=by
 obtain⟨b,rfl⟩:=List.getElem?_eq_some_iff.1 h;rw[List.drop_eq_getElem_cons b,val]
theorem B0x (l:List Int) (k:Nat) (b:k<=l.length):val l=val (l.take k)+pw k*val (l.drop k):=by
 have:=B7q (l.take k) (l.drop k);rwa [List.take_append_drop,List.length_take,Nat.min_eq_left b]at this

def Can (l:List Int):Prop:=Lims l/\l.getLast?≠some 0
theorem Can.nil:Can []:=⟨Lims.nil,sI⟩

def C5x:Nat->Nat->List Int
 |0,_=>[]
 |f+1,n=>if n=0 then []else((n % 1000000000:Nat):Int)::C5x f (n / 1000000000)
def dig (n:Nat):List Int:=C5x n n

theorem C9w:∀ (f g n:Nat),n<=f->n<=g->C5x f n=C5x g n
 |0,0,_,_,_=>rfl
 | 0, g + 1, n, h, _ => by have : n = 0 := by omega
                           subst this; simp[C5x]
 | f + 1, 0, n, _, h => by have : n = 0 := by omega
                           subst this; simp[C5x]
 |f+1,g+1,n,hf,hg=>by
  unfold C5x
  split
  ·rfl
  rw[C9w f g (n / 1000000000) oM oM]

theorem E3d:dig 0=[]:=rfl
theorem B9g {n:Nat} (h:n≠0):dig n=((n % 1000000000:Nat):Int)::dig (n / 1000000000):=by
 unfold dig;cases n with
 |zero=>exact absurd rfl h
 |succ n =>
  conv=>lhs;unfold C5x
  rw[if_neg oM]
  rw[C9w n ((n+1) / 1000000000) _ oM oM]

theorem B5o (n:Nat):Lims (dig n)/\val (dig n)=n/\((dig n).getLast?≠some 0)/\(dig n=[]↔n=0):=by
 induction n using Nat.strongRecOn with
 |_ n ih =>
  by_cases b:n=0
  ·subst b;rw[E3d];exact⟨Lims.nil,rfl,sI,sI⟩
  ·rw[B9g b]
   obtain⟨E,G,H,h⟩:=ih (n / 1000000000) oM
   refine⟨Lims.cons oM oM E,by rw[val,G];omega,?_,by simp[b]⟩
   by_cases u:n / 1000000000=0
   ·rw[h.2 u]
    simp;omega
   ·cases D:dig (n / 1000000000)with
    |nil=>exact absurd (h.1 D) u
    |cons y ys=>rw[List.getLast?_cons_cons,<-D];exact H

theorem A0j (n:Nat):Can (dig n):=⟨(B5o n).1,(B5o n).2.2.1⟩
theorem A1j (n:Nat):val (dig n)=n:=(B5o n).2.1
theorem B1x {n:Nat}:dig n=[]↔n=0:=(B5o n).2.2.2

theorem Can.tail {x:Int} {l:List Int} (h:Can (x::l)):Can l:=by
 refine⟨h.1.tail,?_⟩;cases l with
 |nil=>simp
 |cons y l=>have:=h.2;rwa [List.getLast?_cons_cons]at this

theorem Can.eq_dig {l:List Int} (h:Can l):l=dig (val l).toNat:=by
 induction l with
 |nil=>rfl
 |cons x l ih =>
  have b:=ih h.tail
  have J:=h.1.head
  have I:=S_ h.1.tail
  have G:val (x::l)≠0:=by
   rw[val];intro e;have E:x=0:=oM;have D:val l=0:=oM;rw[D]at b;have u:l=[]:=by rw[b];rfl
   subst u;subst E;exact h.2 sI
  have H:0<=val (x::l):=S_ h.1
  rw[B9g oM]
  congr 1
  ·rw[val];omega
  conv=>lhs;rw[b]
  congr 1
  rw[val];omega

theorem Can.of_val {l:List Int} (h:Can l) {n:Nat} (b:val l=n):l=dig n:=by
 rw[h.eq_dig,b];simp
theorem Can.val_inj {a b:List Int} (u:Can a) (D:Can b) (h:val a=val b):a=b:=by
 rw[u.eq_dig,D.eq_dig,h]

theorem Can.len_le {l:List Int} (h:Can l) (b:l≠[]):pw (l.length - 1)<=val l:=by
 have u:l=l.take (l.length - 1)++[l.getLast b]:=by rw[<-List.dropLast_eq_take,List.dropLast_concat_getLast]
 have H:=h.1 (l.getLast b) (List.getLast_mem b);have I:l.getLast b≠0:=λe=>h.2 (by rw[List.getLast?_eq_some_getLast b,e]);have D:(l.take (l.length - 1)).length=l.length - 1:=by rw[List.length_take];omega
 have J:val l=val (l.take (l.length - 1))+pw (l.length - 1)*l.getLast b:=by
  conv=>lhs;rw[u]
  rw[A4s,D]
 have G:=S_ (h.1.take (l.length - 1));have E:=A5r (l.length - 1);have:pw (l.length - 1)*1<=pw (l.length - 1)*l.getLast b:=Int.mul_le_mul_of_nonneg_left oM (Int.le_of_lt E);omega
theorem Can.lt_of_len {a b:List Int} (u:Lims a) (D:Can b) (h:a.length<b.length):val a<val b:=by
 have E:=A4j u;have G:=D.len_le (by intro e;rw[e]at h;simp at h);have H:=A6t (by omega:a.length<=b.length - 1);omega
theorem Can.pos {l:List Int} (h:Can l) (b:l≠[]):0<val l:=by
 have:=h.len_le b;have:=A5r (l.length - 1);omega
def trim (l:List Int):List Int:=(l.reverse.dropWhile (·==0)).reverse
theorem B1k (l:List Int):trim (l++[0])=trim l:=by unfold trim;simp
theorem C0p {l:List Int} {x:Int} (h:x≠0):trim (l++[x])=l++[x]:=by unfold trim;simp[h]
theorem C1d (l:List Int):(∃ n,l=trim l++List.replicate n 0)/\(trim l).getLast?≠some 0:=by
 induction h:l.length generalizing l with
 |zero =>
  have:l=[]:=List.eq_nil_of_length_eq_zero h
  subst this
  exact⟨⟨0,rfl⟩,by simp[trim]⟩
 |succ n ih =>
  have u:l≠[]:=by intro e;subst e;simp at h
  have b:l=l.dropLast++[l.getLast u]:=(List.dropLast_concat_getLast u).symm
  by_cases D:l.getLast u=0
  ·rw[D]at b
   obtain⟨⟨m,G⟩,E⟩:=ih l.dropLast (by rw[List.length_dropLast];omega)
   have e : trim l = trim l.dropLast := by conv => lhs; rw[b]
                                           exact B1k _
   refine⟨⟨m+1,?_⟩,by rw[e];exact E⟩
   rw[e,List.replicate_succ',<-List.append_assoc,<-G]
   exact b
  have e : trim l = l := by conv => lhs; rw[b]
                            rw[C0p D]; exact b.symm
  refine⟨⟨0,by simp[e]⟩,?_⟩
  rw[e,List.getLast?_eq_some_getLast u]
  simpa using D
theorem C5t (l:List Int):val (trim l)=val l:=by
 obtain⟨⟨n,h⟩,_⟩:=C1d l;conv=>rhs;rw[h]
 rw[B7q,A9k];simp
theorem Can.trim {l:List Int} (h:Lims l):Can (trim l):=by
 obtain⟨⟨n,e⟩,b⟩:=C1d l;exact⟨by rw[e]at h;exact h.left,b⟩
theorem A8i {l:List Int} (h:Lims l) {n:Nat} (hn:val l=n):trim l=dig n:=(Can.trim h).of_val (by rw[C5t,hn])
theorem Can.trim_eq {l:List Int} (h:Can l):XN.trim l=l:=(Can.trim h.1).val_inj h (C5t l)
theorem B3n (l:List Int):trim l=l.take (trim l).length:=by
 obtain⟨⟨n,e⟩,_⟩:=C1d l;conv=>rhs;arg 2;rw[e]
 simp

theorem B8r {a b:List Int} (h:Lims a) (u:Lims b) {k:Nat} {x y:Int} (E:a[k]?=some x) (G:b[k]?=some y) (O:a.drop (k+1)=b.drop (k+1)) (Z:a.length=b.length) :
  (x<y->val a<val b)/\(y<x->val b<val a):=by
 have X:=(List.getElem?_eq_some_iff.1 E).1;have Y:=(List.getElem?_eq_some_iff.1 G).1;have H:=B0x a k oM;have I:=B0x b k oM;rw[A4n E]at H;rw[A4n G,<-O]at I;have J:=A4j (h.take k);have T:=S_ (h.take k);have K:=A4j (u.take k);have W:=S_ (u.take k);rw[List.length_take,Nat.min_eq_left oM]at J K;have D:=A5r k;constructor;·intro S;have:pw k*(x+1)<=pw k*y:=Int.mul_le_mul_of_nonneg_left oM (Int.le_of_lt D);grind
 intro S;have:pw k*(y+1)<=pw k*x:=Int.mul_le_mul_of_nonneg_left oM (Int.le_of_lt D);grind
theorem A4r {n k:Nat} (h:(n:Int)<pw k):(dig n).length<=k:=by
 rcases Nat.lt_or_ge k (dig n).length with b|b
 ·have D:dig n≠[]:=by intro e;rw[e]at b;simp at b
  have u:=(A0j n).len_le D;rw[A1j]at u;have:=A6t (by omega:k<=(dig n).length - 1);omega
 exact b
theorem pw_vals:pw 1=1000000000/\pw 2=1000000000000000000/\pw 3=1000000000000000000000000000:=by
 refine⟨?_,?_,?_⟩<;>(unfold pw;rfl)
def sgn (n:Int):Int:=if n<0 then -1 else if 0<n then 1 else 0

end Go.XN

namespace Go.XN

theorem B6f {b:List Int} {k:Nat} (h:b.length=k) (s:Int):val (b++[s % 1000000000])+pw (k+1)*(s / 1000000000)=val b+pw k*s:=by
 rw[A4s,h,A1l];have:s=1000000000*(s / 1000000000)+s % 1000000000:=oM;generalize s / 1000000000=q at *;generalize s % 1000000000=r at *;subst this;grind

theorem Can.of_len {l:List Int} (h:Lims l) (I:l≠[]->pw (l.length - 1)<=val l):Can l:=by
 refine⟨h,λe=>?_⟩;have b:l≠[]:=by intro E;subst E;simp at e
 have u:=I b;have D:l=l.take (l.length - 1)++[0]:=by
  conv=>lhs;rw[<-List.dropLast_concat_getLast b]
  rw[List.dropLast_eq_take];rw[List.getLast?_eq_some_getLast b]at e;rw[Option.some.inj e]
 have G:=A4j (h.take (l.length - 1));rw[List.length_take]at G;rw[D,A4s]at u;have J:=A6t (by omega:min (l.length - 1) l.length<=l.length - 1);have H:(List.take (l.length - 1) l++[(0:Int)]).length - 1=l.length - 1:=by rw[<-D]
 rw[H]at u;omega

theorem Lims.snoc {l:List Int} {x:Int} (h:Lims l) (h0:0<=x) (h1:x<1000000000):Lims (l++[x]):=h.append (Lims.one h0 h1)
theorem Can.snoc {l:List Int} {x:Int} (h:Lims l) (h0:0<x) (h1:x<1000000000):Can (l++[x]):=⟨h.snoc oM h1,sO⟩

theorem D9p {xs b:List Int} {c V:Int} (G:Can xs) (E:Lims b) (u:b.length=xs.length) (h:val b+pw xs.length*c=val xs+V) (O:0<=V) (K:0<=c) (H:c<1000000000) :
  (if 0<c then b++[c]else b)=dig (val xs+V).toNat:=by
 have S:=S_ G.1;split;·rename_i D;refine(Can.snoc E D H).of_val ?_;rw[A4s,u,h];omega
 rename_i D;have:c=0:=oM;subst this;rw[Int.mul_zero,Int.add_zero]at h;refine(Can.of_len E λI=>?_).of_val (by rw[h];omega);have J:xs≠[]:=by intro e;apply I;apply List.eq_nil_of_length_eq_zero;rw[u,e];rfl
 have:=G.len_le J;rw[u,h];omega
end Go.XN

namespace Go.XN
open Go.XB

theorem B3w {l:List Int} {j:Nat} {x:Int} (h:l[j]?=some x) (u:Int):val (l.set j u)=val l+pw j*(u - x):=by
 induction l generalizing j with
 |nil=>simp at h
 |cons a l ih =>
  cases j with
  |zero =>
   simp at h
   subst h
   rw[List.set_cons_zero,val,val,B0q];omega
  |succ j =>
   rw[List.set_cons_succ,val,val,ih (by simpa using h),A1l]
   grind
theorem Lims.set {l:List Int} (h:Lims l) (j:Nat) {u:Int} (h0:0<=u) (h1:u<1000000000):Lims (l.set j u):=λy hy=>by
 rcases List.mem_or_eq_of_mem_set hy with hy|rfl
 ·exact h y hy
 exact⟨h0,h1⟩
theorem Lims.zeros (n:Nat):Lims (List.replicate n 0):=λy hy=>by rw[List.eq_of_mem_replicate hy];omega
theorem Lims.num {l:List Int} (h:Lims l) {j:Nat} (hj:j<l.length):∃ x,l[j]?=some x/\0<=x/\x<1000000000 :=
 ⟨_,List.getElem?_eq_getElem hj,h _ (List.getElem_mem hj)⟩
theorem C0c {x y:Int} (h:0<=x) (D:x<1000000000) (b:0<=y) (E:y<1000000000):0<=x*y/\x*y<=999999998000000001:=by
 refine⟨Int.mul_nonneg h b,?_⟩;have u:x*y<=999999999*y:=Int.mul_le_mul_of_nonneg_right oM b;omega

theorem B3g {l:List Int} {j:Nat} {x:Int} (h:l[j]?=some x) {t:Int} {V c:Int} (b:val l+pw j*c=V):val (l.set j (t % 1000000000))+pw (j+1)*(t / 1000000000)=V+pw j*(t - x - c):=by
 rw[B3w h,A1l];have:t=1000000000*(t / 1000000000)+t % 1000000000:=oM;generalize t / 1000000000=q at *;generalize t % 1000000000=r at *;subst this;grind
end Go.XN
namespace Go.XB
theorem A8c (n:Nat):(madeCells (Value.int .i64 0).cells (n*1)).toList=(List.replicate n (0:Int)).map (.int .i64):=by
 rw[List.map_replicate];refine List.eq_replicate_iff.2 ⟨by simp[size_madeCells],λh b=>?_⟩;simp only[madeCells,Array.toList_map,List.mem_map]at b;obtain⟨a,_,rfl⟩:=b;have:(Value.int .i64 0).cells=#[.int .i64 0]:=rfl;rw[this];simp[Nat.mod_one]
end Go.XB

namespace Go.XN
open Go.XB

theorem D9u {r x d:Int} (hd:0<d) (hr0:0<=r) (hr:r<d) (hx0:0<=x) (hx:x<1000000000) :
  0<=(r*1000000000+x) / d/\(r*1000000000+x) / d<1000000000/\0<=(r*1000000000+x) % d/\(r*1000000000+x) % d<d :=
 ⟨Int.ediv_nonneg oM oM,Int.ediv_lt_of_lt_mul hd oM,Int.emod_nonneg _ oM,Int.emod_lt_of_pos _ hd⟩

theorem C5v {l:List Int} {j:Nat} (b:j<l.length) (u:Int):(l.set j u).drop j=u::l.drop (j+1):=by
 rw[List.drop_eq_getElem_cons (by simpa using b),List.drop_set_of_lt oM];simp
theorem D4g {l xs:List Int} {j:Nat} {x r d:Int} (b:j<l.length) (u:xs[j]?=some x) (h:val (l.drop (j+1))*d+r=val (xs.drop (j+1))) :
  val ((l.set j ((r*1000000000+x) / d)).drop j)*d+(r*1000000000+x) % d=val (xs.drop j):=by
 rw[C5v b,val,A4n u,<-h];have:=Int.mul_ediv_add_emod (r*1000000000+x) d;generalize (r*1000000000+x) / d=q at *;generalize (r*1000000000+x) % d=s at *;grind
theorem D2a {a q r d:Int} (D:0<d) (h:q*d+r=a) (b:0<=r) (u:r<d):a / d=q/\a % d=r:=by
 refine(Int.ediv_emod_unique D).2 ⟨?_,b,u⟩;rw[Int.mul_comm];omega
end Go.XN

namespace Go.XN
open Go.XB

section
variable {U V P F top u0 v1 v2 q rest m1 m2 l1 l2:Int}

theorem E0k (b:0<P) (K:0<F) (O:U=l1+P*(1000000000*F)*top) (S:l1<P*(1000000000*F)) (h:V=m1+1000000000*F*v1) (D:0<=m1) (_hv1:0<v1)
  (W:0<=q) (T:top<(q+1)*v1):U<(q+1)*(V*P):=by
 have J:0<P*(1000000000*F):=Int.mul_pos b oM;generalize u:P*(1000000000*F)=C at *;have E:C*(top+1)<=C*((q+1)*v1):=Int.mul_le_mul_of_nonneg_left oM oM;have G:0<=(q+1)*(m1*P):=Int.mul_nonneg oM (Int.mul_nonneg D oM);have H:(q+1)*(V*P)=(q+1)*(m1*P)+C*((q+1)*v1):=by rw[h,<-u];grind
 have I:C*(top+1)=C*top+C:=by grind
 omega

theorem E4m (h:0<P) (b:0<F) (S:U=l2+P*F*(u0+1000000000*top)) (T:l2<P*F) (u:V=m2+F*(v2+1000000000*v1)) (E:0<=m2)
  (G:0<=q) (W:rest=top - q*v1) (X:rest*1000000000+u0<q*v2):U<q*(V*P):=by
 have O:0<P*F:=Int.mul_pos h b;generalize D:P*F=C at *;have H:C*(u0+1000000000*top+1)<=C*(q*v2+1000000000*(q*v1)):=Int.mul_le_mul_of_nonneg_left oM oM;have I:0<=q*(m2*P):=Int.mul_nonneg G (Int.mul_nonneg E oM);have J:q*(V*P)=q*(m2*P)+C*(q*v2+1000000000*(q*v1)):=by rw[u,<-D];grind
 have K:C*(u0+1000000000*top+1)=C*(u0+1000000000*top)+C:=by grind
 omega

theorem E3m (h:0<P) (K:0<F) (aa:U=l1+P*(1000000000*F)*top) (ad:0<=l1) (ab:U=l2+P*F*(u0+1000000000*top)) (ae:0<=l2)
  (u:V=m1+1000000000*F*v1) (af:0<=m1) (ag:m1<1000000000*F) (O:V=m2+F*(v2+1000000000*v1)) (ah:m2<F) (S:0<v1)
  (D:0<=q) (ai:q<1000000000) (aj:rest=top - q*v1) (b:1000000000<=rest\/q*v2<=rest*1000000000+u0):(q - 1)*(V*P)<=U:=by
 have ac:0<=V*P:=Int.mul_nonneg (by rw[u];have:=Int.mul_nonneg (by omega:(0:Int)<=1000000000*F) (Int.le_of_lt S);omega) oM;rcases b with b|b
 ·have J:0<P*(1000000000*F):=Int.mul_pos h oM
  have E:q*(m1*P)<=q*(1000000000*F*P):=Int.mul_le_mul_of_nonneg_left (Int.mul_le_mul_of_nonneg_right oM oM) D;have G:P*(1000000000*F)*(q+q*v1)<=P*(1000000000*F)*top:=Int.mul_le_mul_of_nonneg_left oM oM;have H:q*(V*P)=q*(m1*P)+P*(1000000000*F)*(q*v1):=by rw[u];grind
  have T:P*(1000000000*F)*(q+q*v1)=q*(1000000000*F*P)+P*(1000000000*F)*(q*v1):=by grind
  have I:(q - 1)*(V*P)=q*(V*P) - V*P:=by grind
  omega
 have J:0<P*F:=Int.mul_pos h K;have E:q*(m2*P)<=q*(F*P):=Int.mul_le_mul_of_nonneg_left (Int.mul_le_mul_of_nonneg_right oM oM) D;have G:P*F*(q*v2+1000000000*(q*v1))<=P*F*(u0+1000000000*top):=Int.mul_le_mul_of_nonneg_left oM oM;have H:q*(V*P)=q*(m2*P)+P*F*(q*v2+1000000000*(q*v1)):=by rw[O];grind
 have W:q*(F*P)<=1000000000*(F*P):=Int.mul_le_mul_of_nonneg_right oM (by rw[Int.mul_comm];omega);have X:1000000000*F*1<=1000000000*F*v1:=Int.mul_le_mul_of_nonneg_left oM oM;have Y:1000000000*F*P<=V*P:=Int.mul_le_mul_of_nonneg_right oM oM;have Z:1000000000*(F*P)=1000000000*F*P:=by grind
 have I:(q - 1)*(V*P)=q*(V*P) - V*P:=by grind
 omega
end
end Go.XN

namespace Go.XN
open Go.XB

theorem B0e {l:List Int} (h:Lims l) {i:Nat} (hi:i<=l.length) (H:val l<pw i):val (l.drop i)=0:=by
 have u:=B0x l i hi;have D:=S_ (h.drop i);have E:=S_ (h.take i);have G:=A5r i;rcases Int.lt_or_le 0 (val (l.drop i))with b|b
 ·have:pw i*1<=pw i*val (l.drop i):=Int.mul_le_mul_of_nonneg_left oM oM;omega
 omega
theorem E9e {l:List Int} (h:Lims l) {i:Nat} {x y:Int} (E:l[i]?=some x) (u:l[i+1]?=some y) (D:val l<pw (i+2)):val l=val (l.take i)+pw i*(x+1000000000*y):=by
 have G:=(List.getElem?_eq_some_iff.1 u).1;have b:=B0x l (i+2) oM;rw[B0e h oM D,Y_ u,Y_ E,A1l]at b;rw[b];grind
theorem F2d {l:List Int} (h:Lims l) {i:Nat} {z x y:Int} (E:l[i]?=some z) (u:l[i+1]?=some x) (D:l[i+2]?=some y) (b:val l<pw (i+3)):val l=val (l.take i)+pw i*(z+1000000000*(x+1000000000*y)):=by
 rw[E9e h u D b,Y_ E,A1l];grind
theorem B3y {l:List Int} (h:Lims l) (i:Nat) (hi:i<=l.length):0<=val (l.take i)/\val (l.take i)<pw i:=by
 refine⟨S_ (h.take i),?_⟩;have:=A4j (h.take i);rwa [List.length_take,Nat.min_eq_left hi]at this
theorem C6i {l b:List Int} (h:Lims l) (u:Lims b) {i:Nat} (hi:i<=l.length) (H:b.length=l.length) (G:∀ k,i<=k->b[k]?=l[k]?) (E:val l<pw i):val b<pw i:=by
 have e:b.drop i=l.drop i:=by apply List.ext_getElem?;intro k;rw[List.getElem?_drop,List.getElem?_drop,G _ oM]
 have D:=B0x b i oM;rw[e,B0e h hi E]at D;have:=(B3y u i oM).2;omega
theorem E0q {X b r:Int} {hi:Nat} (E:0<=r/\r<=1) (h:b=X+pw hi - pw hi*r) (u:0<=X) (D:b<pw hi):b=X:=by
 rcases(by omega:r=0\/r=1)with rfl|rfl;·omega
 omega
theorem E2w {ys:List Int} (h:Can ys) {m:Nat} {t:Int} (G:ys.length=m+1) (D:ys[m]?=some t) :
  0<1000000000 / (t+1)/\1000000000 / (t+1)<1000000000/\val ys*(1000000000 / (t+1))<pw (m+1)/\0<t/\t<1000000000:=by
 have K:=h.1.get D;have J:0<t:=by
  have Z:ys≠[]:=by intro e;subst e;simp at G
  have u:=h.2;rw[List.getLast?_eq_getElem?,G,Nat.add_sub_cancel,D]at u;have:t≠0:=λe=>u (by rw[e]);omega
 have O:1<=1000000000 / (t+1):=Int.le_ediv_of_mul_le oM oM;have u:0<1000000000 / (t+1):=oM;have H:1000000000 / (t+1)*(t+1)<=1000000000:=Int.ediv_mul_le _ oM;have I:1000000000 / (t+1)<1000000000:=Int.ediv_lt_of_lt_mul oM oM;refine⟨u,I,?_,J,K.2⟩;generalize 1000000000 / (t+1)=b at *;have E:=Y_ D;rw[List.take_of_length_le oM]at E;have S:=(B3y h.1 m oM).2;have T:val ys*b<pw m*(t+1)*b:=Int.mul_lt_mul_of_pos_right (by rw[E];grind) u;have W:pw m*(b*(t+1))<=pw m*1000000000:=Int.mul_le_mul_of_nonneg_left H (Int.le_of_lt (A5r m));rw[A1l];have X:pw m*(t+1)*b=pw m*(b*(t+1)):=by grind
 have Y:pw m*1000000000=1000000000*pw m:=by grind
 omega
end Go.XN

namespace Go.XN
open Go.XB

structure Dig3 (zs vs:List Int) (j p:Nat) (u0 top v1 v2:Int):Prop where
 lz:Lims zs
 lv:Lims vs
 z:∃ u1 u2,zs[j+p]?=some u0/\zs[j+p+1]?=some u1/\zs[j+p+2]?=some u2/\u2*1000000000+u1=top
 w2:vs[p]?=some v2
 w1:vs[p+1]?=some v1
 vl:vs.length=p+2
 v1p:0<v1
 up:val zs<val vs*pw (j+1)

section
variable {zs vs:List Int} {j p:Nat} {u0 top v1 v2:Int}

theorem Dig3.lt (h:Dig3 zs vs j p u0 top v1 v2):val zs<pw (j+p+3):=by
 have D:=h.up;have b:val vs<pw (p+2):=by have:=A4j h.lv;rwa [h.vl]at this
 have u:val vs*pw (j+1)<pw (p+2)*pw (j+1):=Int.mul_lt_mul_of_pos_right b (A5r _);rw[<-B0f,show p+2+(j+1)=j+p+3 by omega]at u;omega
theorem Dig3.zl (h:Dig3 zs vs j p u0 top v1 v2):j+p+2<zs.length:=by
 obtain⟨u1,u2,_,_,b,_⟩:=h.z;exact(List.getElem?_eq_some_iff.1 b).1
theorem Dig3.eu1 (h:Dig3 zs vs j p u0 top v1 v2):val zs=val (zs.take (j+p+1))+pw j*(1000000000*pw p)*top/\0<=val (zs.take (j+p+1))/\val (zs.take (j+p+1))<pw j*(1000000000*pw p):=by
 obtain⟨u1,u2,E,u,D,e⟩:=h.z;have G:=h.zl;have b:=B3y h.lz (j+p+1) oM;rw[A1l,B0f]at b;refine⟨?_,b.1,by have:=b.2;grind⟩;rw[<-e,E9e h.lz u D h.lt,A1l,B0f];grind
theorem Dig3.eu2 (h:Dig3 zs vs j p u0 top v1 v2):val zs=val (zs.take (j+p))+pw j*pw p*(u0+1000000000*top)/\0<=val (zs.take (j+p))/\val (zs.take (j+p))<pw j*pw p:=by
 obtain⟨u1,u2,u,D,E,e⟩:=h.z;have G:=h.zl;have b:=B3y h.lz (j+p) oM;rw[B0f]at b;refine⟨?_,b.1,b.2⟩;rw[<-e,F2d h.lz u D E h.lt,B0f];grind
theorem Dig3.ev1 (h:Dig3 zs vs j p u0 top v1 v2):val vs=val (vs.take (p+1))+1000000000*pw p*v1/\0<=val (vs.take (p+1))/\val (vs.take (p+1))<1000000000*pw p:=by
 have b:=Y_ h.w1;rw[List.take_of_length_le (Nat.le_of_eq h.vl),A1l]at b;have u:=B3y h.lv (p+1) (by rw[h.vl];omega);rw[A1l]at u;exact⟨b,u⟩
theorem Dig3.ev2 (h:Dig3 zs vs j p u0 top v1 v2):val vs=val (vs.take p)+pw p*(v2+1000000000*v1)/\0<=val (vs.take p)/\val (vs.take p)<pw p:=by
 refine⟨?_,B3y h.lv p (by rw[h.vl];omega)⟩;rw[h.ev1.1,Y_ h.w2];grind
theorem Dig3.top_lim (h:Dig3 zs vs j p u0 top v1 v2):0<=top/\top<=999999999999999999:=by
 obtain⟨u1,u2,D,b,u,e⟩:=h.z;have:=h.lz.get b;have:=h.lz.get u;omega
theorem Dig3.start (h:Dig3 zs vs j p u0 top v1 v2) {q:Int} (b:(q=top / v1/\top / v1<999999999)\/(q=999999999/\999999999<=top / v1)) :
  (0<=q/\q<=999999999)/\(0<=q*v1/\q*v1<=top)/\val zs<(q+1)*(val vs*pw j):=by
 have D:=h.v1p;have E:=Int.ediv_mul_le top (by omega:v1≠0);have u:=Int.ediv_nonneg h.top_lim.1 (by omega:0<=v1);rcases b with⟨rfl,b⟩|⟨rfl,b⟩
 ·refine⟨⟨u,oM⟩,⟨Int.mul_nonneg u oM,E⟩,?_⟩;exact E0k (A5r j) (A5r p) h.eu1.1 h.eu1.2.2 h.ev1.1 h.ev1.2.1 D u (Int.lt_ediv_add_one_mul_self top D)
 have G:999999999*v1<=top / v1*v1:=Int.mul_le_mul_of_nonneg_right b oM;refine⟨oM,⟨oM,oM⟩,?_⟩;have:=h.up;rw[A1l]at this;grind
theorem Dig3.step (h:Dig3 zs vs j p u0 top v1 v2) {q rest:Int} (u:0<=q) (b:rest=top - q*v1) (D:rest*1000000000+u0<q*v2):rest+v1=top - (q - 1)*v1/\val zs<(q - 1+1)*(val vs*pw j):=by
 refine⟨by rw[b];grind,?_⟩;rw[show q - 1+1=q by omega];exact E4m (A5r j) (A5r p) h.eu2.1 h.eu2.2.2 h.ev2.1 h.ev2.2.1 u b D
theorem Dig3.last (h:Dig3 zs vs j p u0 top v1 v2) {q rest:Int} (hq0:0<=q) (hq1:q<=999999999) (hr:rest=top - q*v1) (ht:1000000000<=rest\/q*v2<=rest*1000000000+u0):(q - 1)*(val vs*pw j)<=val zs :=
 E3m (A5r j) (A5r p) h.eu1.1 h.eu1.2.1 h.eu2.1 h.eu2.2.1 h.ev1.1 h.ev1.2.1 h.ev1.2.2 h.ev2.1 h.ev2.2.2 h.v1p hq0 oM hr ht
theorem Dig3.done0 (_h:Dig3 zs vs j p u0 top v1 v2) {q:Int} {b:List Int} (D:val zs<(q+1)*(val vs*pw j)) (h:Lims b) (u:val b=val zs - pw j*(q*val vs)+pw (j+(p+2)+1)*0):val b=val zs - val vs*(pw j*q)/\0<=val b/\val b<val vs*pw j:=by
 have:=S_ h;refine⟨by rw[u];grind,this,?_⟩;have e:val b=val zs - pw j*(q*val vs):=oM;rw[e];have:(q+1)*(val vs*pw j)=pw j*(q*val vs)+val vs*pw j:=by grind
 omega
theorem Dig3.done1 (h:Dig3 zs vs j p u0 top v1 v2) {q D:Int} {u b:List Int} (aa:(q - 1)*(val vs*pw j)<=val zs) (G:Lims u) (W:val u=val zs - pw j*(q*val vs)+pw (j+(p+2)+1)*1) (K:u.length=zs.length) (S:∀ k,j+(p+2)+1<=k->u[k]?=zs[k]?)
  (H:Lims b) (J:0<=D/\D<=1) (X:val b=val u+pw j*val vs - pw (j+(p+2)+1)*D) (O:b.length=u.length) (T:∀ k,j+(p+2)+1<=k->b[k]?=u[k]?) :
  val b=val zs - val vs*(pw j*(q - 1))/\0<=val b/\val b<val vs*pw j:=by
 have ab:=h.zl;have E:=h.lt;rw[show j+p+3=j+(p+2)+1 by omega]at E;have b1:=C6i h.lz G (i:=j+(p+2)+1) oM K S E;have b2:=C6i G H (i:=j+(p+2)+1) oM O T b1;have n2:=S_ H;have Z:(q - 1)*(val vs*pw j)=pw j*(q*val vs) - val vs*pw j:=by grind
 have I:pw j*val vs=val vs*pw j:=Int.mul_comm _ _;have Y:val b=val zs - pw j*(q*val vs)+val vs*pw j:=E0q (hi:=j+(p+2)+1) J (by rw[X,W,I,Int.mul_one];omega) oM b2;refine⟨by rw[Y];grind,n2,?_⟩;omega
theorem E0h {b:List Int} {X V q z u:Int} {j:Nat} (E:j<b.length) (h:z=X - V*(pw (j+1)*val (b.drop (j+1)))) (D:u=z - V*(pw j*q)):u=X - V*(pw j*val ((b.set j q).drop j)):=by
 rw[D,h,C5v E,val,A1l];grind
end
theorem E6v {ys vs:List Int} {p:Nat} {f v1:Int} (D:Can ys) (b:ys.length=p+2) (E:Lims vs) (I:vs.length=p+2) (T:val vs=val ys*f) (S:0<f) (u:vs[p+1]?=some v1):0<v1:=by
 have G:=D.len_le (by intro e;rw[e]at b;simp at b);rw[b,show p+2 - 1=p+1 from rfl]at G;have J:val ys*1<=val ys*f:=Int.mul_le_mul_of_nonneg_left oM (S_ D.1);have H:=Y_ u;rw[List.take_of_length_le (Nat.le_of_eq I)]at H;have K:=(B3y E (p+1) oM).2;have O:=(E.get u).1;rcases Int.lt_or_le 0 v1 with h|h
 ·exact h
 have:v1=0:=oM;subst this;omega
end Go.XN

namespace Go.XN
open Go.XB

def A3m (a:List Int):Bool:=decide (a.length<=60)&&(a.all (λx=>decide (0<=x/\x<1000000000))&&decide (a.getLast?≠some 0))
theorem natOkB_iff {a:List Int}:A3m a=true↔a.length<=60/\Can a:=by
 unfold A3m Can Lims;simp[List.all_eq_true]
def A2j (x:TBigInt):Bool:=A3m x.mag&&(!x.neg || !x.mag.isEmpty)
def A0q (x:TBigInt):Int:=if x.neg then -val x.mag else val x.mag
def A0f (n:Int):TBigInt:=⟨decide (n<0),dig n.natAbs⟩

theorem Can.dig_natAbs {l:List Int} (h:Can l):dig (val l).natAbs=l:=by
 have e:(val l).natAbs=(val l).toNat:=by have:=S_ h.1;omega
 rw[e];exact h.eq_dig.symm
theorem D5q {x:TBigInt}:(A0q x).natAbs=(val x.mag).natAbs:=by unfold A0q;split<;>simp
theorem C5a {neg:Bool} {mag:List Int} {v:Int} (b:Can mag) (h:v=if neg then -val mag else val mag):(⟨neg&&!mag.isEmpty,mag⟩:TBigInt)=A0f v:=by
 have u:=S_ b.1;unfold A0f;have e:dig v.natAbs=mag:=by
  rw[h];cases neg;·exact b.dig_natAbs
  simpa using b.dig_natAbs
 rw[e];congr 1;cases mag with
 |nil=>subst h;cases neg<;>simp[val]
 |cons a l =>
  have D:=b.pos sI
  cases neg
  ·subst h;simp;omega
  subst h;simp;omega
theorem A5m (n:Int):A0q (A0f n)=n:=by
 unfold A0q A0f;simp only[decide_eq_true_eq,A1j];split<;>omega
theorem A7g (n:Int):Can (A0f n).mag:=A0j _
theorem bigOkB_iff {x:TBigInt}:A2j x=true↔(x.mag.length<=60/\Can x.mag)/\(x.neg=true->x.mag≠[]):=by
 unfold A2j;rw[Bool.and_eq_true,natOkB_iff];cases x.neg<;>simp
theorem D6d {x:TBigInt} (h:A2j x=true):A0f (A0q x)=x:=by
 obtain⟨⟨_,b⟩,u⟩:=bigOkB_iff.1 h;have:=C5a (neg:=x.neg) b (v:=A0q x) rfl;rw[<-this];cases x with
 |mk neg mag =>
  simp only at u ⊢
  congr 1
  cases neg<;>simp_all

theorem len_le_iff {n k:Nat}:(dig n).length<=k↔(n:Int)<pw k:=by
 refine⟨λb=>?_,A4r⟩;have h:=A4j (B5o n).1;rw[A1j]at h;have:=A6t b;omega

def J_ (r:TRat):Bool:=A2j r.1&&(A3m r.2&&(!r.den.isEmpty&&(decide (r.1.2.length<=24)&&(decide (r.2.length<=24)&&decide (Int.gcd (val r.1.2) (val r.2)=1)))))
def A0h:TRat:=⟨⟨false,[]⟩,[]⟩
theorem D2b:J_ A0h=false:=dE
structure RatV (r:TRat):Prop where
 num:A2j r.1=true
 den:Can r.2
 den0:0<val r.2
 num24:r.1.2.length<=24
 den24:r.2.length<=24
 one:Int.gcd (val r.1.2) (val r.2)=1
theorem ratOkB_iff {r:TRat}:J_ r=true↔RatV r:=by
 unfold J_;simp only[Bool.and_eq_true,decide_eq_true_eq,natOkB_iff,Bool.not_eq_true',List.isEmpty_eq_false_iff];constructor;·rintro⟨u,⟨_,b⟩,h,D,E,G⟩;exact⟨u,b,b.pos h,D,E,G⟩
 rintro⟨u,b,h,D,E,G⟩;exact⟨u,⟨oM,b⟩,by intro e;rw[e]at h;simp[val]at h,D,E,G⟩
theorem RatV.mag {r:TRat} (h:RatV r):Can r.1.2:=(bigOkB_iff.1 h.1).1.2

def mkR (n d:Int):TRat :=
 if (dig (n / Int.gcd n d).natAbs).length<=24/\(dig (d / Int.gcd n d).natAbs).length<=24 then⟨A0f (n / Int.gcd n d),dig (d / Int.gcd n d).natAbs⟩else A0h
def R_ (r:TRat):Int:=A0q r.1
def T_ (r:TRat):Int:=val r.2

def A0k (r s:TRat):TRat:=if J_ r&&J_ s then mkR (R_ r*T_ s+R_ s*T_ r) (T_ r*T_ s)else A0h
def A3t (r s:TRat):TRat:=if J_ r&&J_ s then mkR (R_ r*T_ s - R_ s*T_ r) (T_ r*T_ s)else A0h
def A0d (r s:TRat):TRat:=if J_ r&&J_ s then mkR (R_ r*R_ s) (T_ r*T_ s)else A0h
def C3m (r:TRat):TRat:=if J_ r then⟨A0f (-R_ r),r.2⟩else A0h
def A6u (r s:TRat):Int:=sgn (R_ r*T_ s - R_ s*T_ r)
def A2v (r:TRat):Int:=sgn (R_ r)
def A9m (r:TRat):Int:=if J_ r then A2v r else 0
def U_ (n:Int):TRat:=⟨A0f n,[1]⟩
end Go.XN
