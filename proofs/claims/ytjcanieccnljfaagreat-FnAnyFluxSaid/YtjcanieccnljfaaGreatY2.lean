/- A part of the proof. -/
import Derived.Deep.QuietTactic
import Derived.Test.YtjcanieccnljfaaGreatY1
import Derived.ArgAppend
import Derived.Laws.OwnMore
set_option linter.constructorNameAsVariable false
set_option maxHeartbeats 16000000
set_option maxRecDepth 10000
open Array renaming getD_eq_getD_getElem?→JL,getElem?_eq_getElem→PF,getElem?_setIfInBounds_ne→QP
open Bool renaming and_eq_true→DJ,false→AH,true→AF
open Decidable renaming decide→BQ
open Go renaming Act→DC,Addr→AJ,Builtin→MH,Calls→BL,Oper→CZ,Program→FQ,TypeId→CV,Value→AU,World→AD,execOp→IY,heap_alloc_new→DB,undef→FX,wpList→GH,yielded→IU
open Go.IntKind renaming i64→RD
open Go.Obj renaming cells→BG
open Go.Region renaming ready→OF,wanted→JB
open Go.RowKit.Below renaming refl→DI
open Go.Value renaming agg→BJ,bool→J,int→RH,slice→S
open Go.World renaming size_alloc→FU
open Go.World.ownsRow renaming cellAt→PU,lt→FG,stored→MM
open Go.XB.Below renaming box→BP
open Int renaming ediv_nonneg→MV,gcd→CQ,le_of_lt→JJ,le_refl→II,lt_or_le→FH,mul_comm→MF,mul_le_mul_of_nonneg_left→JT,mul_le_mul_of_nonneg_right→LZ,mul_nonneg→IQ,mul_pos→GW
open List renaming all_eq_true→CU,append_assoc→GG,dropLast_concat_getLast→QW,drop_eq_getElem_cons→MA,eq_nil_of_length_eq_zero→IV,getD_eq_getElem?_getD→EH,getElem?_drop→OJ,getElem?_eq_getElem→DU,getElem?_eq_none→ML,getElem?_eq_some_iff→DM,getElem?_map→IR,getElem?_take→JM,getElem?_zipIdx→QS,getLast?_eq_some_getLast→QV,length_take→JO,mem_append→DV,mem_cons→JH,mem_cons_of_mem→KQ,mem_cons_self→PS,mem_iff_getElem?→KE,mem_map→JX,mem_range→JW,range→GE,replicate→DK,take_of_length_le→DT
open Nat renaming le_of_eq→IW,le_refl→CE,le_trans→CJ,lt_of_lt_of_le→JC,lt_or_ge→CG,min_eq_left→OI,zero_add→LJ
open Option renaming none→I,some→QZ
open Option.some renaming inj→IJ
namespace Go.XB
open Go.RowKit

def A8s (P:FQ) (R:AU->AD->Prop):Result Next->Prop
 | .ok (.value v) w'=>R v w'
 | .ok .skip w'=>R FX w'
 | .ok (.enter f args) w'=>BL P f args w' λe w''=>∃ v,e=.returned v/\R v w''
 |_=>False

def B2b (P:FQ) (o:CZ) (a:DC) (w:AD) (R:AU->AD->Prop):Prop:=A8s P R ((IY a.eval o).run P w)

structure MP where
 p:AU->List Nat->AD->Prop
 mono:∀ v bs w w',Bw w w'->p v bs w->p v bs w'

def MP.eq (x:AU):MP:=⟨λv bs _=>v=x/\bs=[],λ_ _ _ _ _ h=>h⟩
def MP.grd (b:Bool) (q:MP):MP:=⟨λv bs w=>(b=AF->q.p v bs w)/\(b=AH->v=FX/\bs=[]),λv bs w w' hb h=>⟨λe=>q.mono v bs w w' hb (h.1 e),h.2⟩⟩

abbrev DP:=(Nat->AU)->MP
def Cong (m:DP) (ks:List Nat):Prop:=∀ y y',(∀ k∈ks,y k=y' k)->m y=m y'
theorem Cong.const (m:MP) (ks:List Nat):Cong (λ_=>m) ks:=λ_ _ _=>rfl

def M_:List Edge->List Nat
 | []=>[]
 |⟨_,.textOnly _⟩::es=>M_ es
 |⟨_,.gcOnly _⟩::es=>M_ es
 |⟨on,.data⟩::es=>on::M_ es
 |⟨on,.chain⟩::es=>on::M_ es
 |⟨on,.guard⟩::es=>on::M_ es
 |⟨on,.phase⟩::es=>on::M_ es
def N_ (o:CZ):List Nat:=M_ o.after.toList
theorem A6p (k:Nat):∀ (es:List Edge),k∈M_ es↔∃ e∈es,Region.binds .any e=AF/\e.on=k
 | []=>by simp[M_]
 |⟨on,g⟩::es=>by
  have ih:=A6p k es
  cases g<;>simp only[M_,JH,ih,exists_eq_or_imp,Region.binds,true_and]<;>simp[@eq_comm _ k]
def opAt (l:List CZ) (k:Nat):Option Tmp:=(l[k]?).bind (·.dst)
def L_ (l:List CZ) (y:Nat->AU) (a:DC) (ks:List Nat):DC:=ks.foldl (λa k=>a.put (opAt l k) (y k)) a

def part (P:FQ) (l:List CZ) (R:Nat->DP) (C:AD->Prop) (a0:DC) (i:Nat) (o:CZ):Prop :=
 ∀ (y:Nat->AU) (z:Nat->List Nat) (w:AD),C w->(∀ k∈N_ o,(R k y).p (y k) (z k) w) ->
  if JB o (IU l.toArray (L_ l y a0 (N_ o)).tmps)then
   B2b P o (L_ l y a0 (N_ o)) w λv w'=>Bw w w'/\∃ bs,(R i y).p v bs w'/\∀ b∈bs,w.1.size<=b/\b<w'.1.size
  else(R i y).p FX [] w

def B2w (l:List CZ) (o:CZ):List Tmp:=o.looksAt l.toArray

def B1r (l:List CZ) (N:Nat):Bool :=
 Region.noSelect l.toArray &&
 (l.zipIdx.all fun(o,i)=>(match o.dst with|some d=>BQ (d<N)&&l.zipIdx.all (fun(o',j)=>i==j || o'.dst != QZ d)|none=>AF) &&
  (B2w l o).all λt=>l.zipIdx.all fun(o',k)=>o'.dst != QZ t || (N_ o).contains k || (N_ o').contains i)

section
variable {P:FQ} {l:List CZ} {R:Nat->DP} {C:AD->Prop} {a0:DC} {base:Nat}

theorem B1q (a:DC) (d:Option Tmp) (v:AU) (t:Tmp):(a.put d v).eval (.tmp t)=if d=QZ t/\t<a.tmps.size then v else a.eval (.tmp t):=by
 cases d with
 |none=>simp[DC.put]
 |some d =>
  by_cases b:d=t
  ·subst b
   by_cases h:d<a.tmps.size
   ·simp[DC.put,DC.eval,h]
   simp[DC.put,DC.eval,h,JL]
  have:(QZ d=QZ t)=False:=by simp[b]
  simp[DC.put,DC.eval,this,QP b]

theorem C4y (a:DC) (d:Option Tmp) (v:AU):(a.put d v).tmps.size=a.tmps.size:=by
 cases d<;>simp[DC.put]

theorem C4h (a:DC) (d:Option Tmp) (v:AU):(a.put d v).defers=a.defers:=by
 cases d<;>rfl

theorem B3b (y:Nat->AU):∀ (ks:List Nat) (a:DC),(L_ l y a ks).tmps.size=a.tmps.size
 | [],_=>rfl
 |k::ks,a=>by
  show(L_ l y (a.put (opAt l k) (y k)) ks).tmps.size=_
  rw[B3b y ks,C4y]

theorem A9q (y:Nat->AU):∀ (ks:List Nat) (a:DC),(L_ l y a ks).defers=a.defers
 | [],_=>rfl
 |k::ks,a=>by
  show(L_ l y (a.put (opAt l k) (y k)) ks).defers=_
  rw[A9q y ks,C4h]

theorem A2k (y:Nat->AU) (t:Tmp):∀ (ks:List Nat) (a:DC),(∀ k∈ks,opAt l k≠QZ t)->(L_ l y a ks).eval (.tmp t)=a.eval (.tmp t)
 | [],_,_=>rfl
 |k::ks,a,h=>by
  show(L_ l y (a.put (opAt l k) (y k)) ks).eval (.tmp t)=_
  rw[A2k y t ks _ (λj hj=>h j (KQ _ hj)),B1q,if_neg (λe=>h k (PS ..) e.1)]

theorem A5l (y:Nat->AU) (t:Tmp) (k:Nat) (b:opAt l k=QZ t) (u:∀ j,opAt l j=QZ t->j=k):∀ (ks:List Nat) (a:DC),k∈ks->t<a.tmps.size->(L_ l y a ks).eval (.tmp t)=y k
 | [],_,h,_=>by simp at h
 |j::ks,a,h,hs=>by
  show(L_ l y (a.put (opAt l j) (y j)) ks).eval (.tmp t)=_
  by_cases hkk:k∈ks
  ·exact A5l y t k b u ks _ hkk (by rw[C4y];exact hs)
  have hj:k=j:=by
   rcases JH.1 h with h|h
   ·exact h
   exact absurd h hkk
  subst hj
  rw[A2k y t ks _ (λi D e=>hkk (u i e ▸ D)),B1q,if_pos ⟨b,hs⟩]

structure St (l:List CZ) (R:Nat->DP) (C:AD->Prop) (a0:DC) (base:Nat) (listed:Array Bool) (a:DC) (w:AD) (y:Nat->AU) (z:Nat->List Nat):Prop where
 c:C w
 hb:base<=w.1.size
 size:a.tmps.size=a0.tmps.size
 defers:a.defers=a0.defers
 facts:∀ i,listed.getD i AH=AF->(R i y).p (y i) (z i) w/\∀ b∈z i,base<=b/\b<w.1.size
 disj:∀ i j,i≠j->listed.getD i AH=AF->listed.getD j AH=AF->∀ b∈z i,b∉z j
 closed:∀ k o,l[k]?=QZ o->listed.getD k AH=AF->∀ e∈N_ o,listed.getD e AH=AF
 evalL:∀ t k,opAt l k=QZ t->listed.getD k AH=AF->a.eval (.tmp t)=y k
 evalN:∀ t,(∀ k,opAt l k=QZ t->listed.getD k AH=AH)->a.eval (.tmp t)=a0.eval (.tmp t)

theorem B4d {N:Nat} (h:B1r l N=AF) :
  Region.noSelect l.toArray=AF/\(∀ (k:Nat) t,opAt l k=QZ t->t<N)/\(∀ (j k:Nat) t,opAt l j=QZ t->opAt l k=QZ t->j=k) /\
  (∀ (i:Nat) o,l[i]?=QZ o->∀ t∈B2w l o,∀ (k:Nat) o',l[k]?=QZ o'->o'.dst=QZ t->k∈N_ o\/i∈N_ o'):=by
 simp only[B1r,DJ,CU]at h;obtain⟨W,O⟩:=h;have E:∀ (i:Nat) o,l[i]?=QZ o->(o,i)∈l.zipIdx:=λi o b=>by rw[KE];exact⟨i,by simp[QS,b]⟩
 have H:∀ (k:Nat) t,opAt l k=QZ t->∃ o,l[k]?=QZ o/\o.dst=QZ t:=λk t u=>by
  unfold opAt at u;cases b:l[k]? with
  |none=>simp[b]at u
  |some o=>exact⟨o,rfl,by simpa[b]using u⟩
 refine⟨W,λk t u=>?_,λj k t Y u=>?_,λi o b t Z k o' T D=>?_⟩;·obtain⟨o,b,D⟩:=H k t u;have:=(O _ (E k o b)).1;simp only[D,DJ,decide_eq_true_eq]at this;exact this.1
 ·obtain⟨o,b,D⟩:=H j t Y;obtain⟨o',T,X⟩:=H k t u;have:=(O _ (E j o b)).1;simp only[D,DJ,decide_eq_true_eq,CU]at this;have G:=this.2 _ (E k o' T);simpa[X]using G
 have G:=(O _ (E i o b)).2 t Z _ (E k o' T);simp[D]at G;exact G

theorem A4e {o:CZ} {a a':DC} (u:∀ cs b,o.op≠.select cs b) (h:∀ t∈B2w l o,a.eval (.tmp t)=a'.eval (.tmp t)):IY a.eval o=IY a'.eval o:=by
 refine execOp_congr o u λx D=>?_;cases x with
 |tmp t=>exact h t (by simp only[B2w,CZ.looksAt,DV,List.mem_filterMap];exact .inl ⟨.tmp t,by simpa using D,rfl⟩)
 |_=>rfl

theorem C4l {tmps:Array AU} {j d:Nat} (h:(l.toArray[j]?).bind (·.dst)=QZ d) :
  IU l.toArray tmps j=match (DC.mk tmps []).eval (.tmp d)with | .bool b=>QZ b|_=>I:=by
 unfold IU;rw[h];simp only[Option.bind_some,DC.eval,JL];cases tmps[d]? with
 |none=>rfl
 |some v=>cases v<;>rfl

theorem A7k {o:CZ} {a a':DC} (h:∀ t∈B2w l o,a.eval (.tmp t)=a'.eval (.tmp t)):JB o (IU l.toArray a.tmps)=JB o (IU l.toArray a'.tmps):=by
 unfold JB;cases D:o.guard with
 |none=>rfl
 |some g =>
  obtain⟨j,u⟩:=g
  have e:IU l.toArray a.tmps j=IU l.toArray a'.tmps j:=by
   cases b:(l.toArray[j]?).bind (·.dst)with
   |none=>unfold IU;rw[b];rfl
   |some d =>
    rw[C4l b,C4l b,show(DC.mk a.tmps []).eval (.tmp d)=(DC.mk a'.tmps []).eval (.tmp d)from h d (by simp only[B2w,CZ.looksAt,DV,D];exact .inr (by rw[b];simp))]
  show(IU l.toArray a.tmps j==QZ u)=(IU l.toArray a'.tmps j==QZ u)
  rw[e]

theorem A8y:∀ (L:List Bool) (i:Nat),L[i]?=QZ AH->((L.set i AF).filter (λb=>!b)).length+1=(L.filter (λb=>!b)).length:=by
 intro L;induction L with
 |nil=>intro i h;simp at h
 |cons b L ihL =>
  intro i h
  cases i with
  |zero=>simp at h;subst h;simp
  |succ i=>simp at h;have:=ihL i h;cases b<;>simp_all

theorem C6g {N:Nat} (ap:a0.tmps.size=N) (ay:∀ (k:Nat) t,opAt l k=QZ t->t<N) (az:∀ (j k:Nat) t,opAt l j=QZ t->opAt l k=QZ t->j=k) {listed:Array Bool} {a:DC} {w w':AD} {y:Nat->AU} {z:Nat->List Nat} {i:Nat} {o:CZ} {v:AU} {bs:List Nat}
  (D:St l R C a0 base listed a w y z) (W:l[i]?=QZ o) (ax:i<listed.size) (al:listed.getD i AH=AH) (aA:listed.size=l.length) (ae:∀ j o',l[j]?=QZ o'->(j=i\/listed.getD j AH=AF)->Cong (R j) (N_ o')) (af:∀ e∈N_ o,listed.getD e AH=AF) (ao:C w') (aa:Bw w w') (aq:(R i y).p v bs w') (Y:∀ b∈bs,w.1.size<=b/\b<w'.1.size) :
  St l R C a0 base (listed.setIfInBounds i AF) (a.put o.dst v) w' (λj=>if j=i then v else y j) (λj=>if j=i then bs else z j):=by
 have T:∀ j,(listed.setIfInBounds i AF).getD j AH=if j=i then AF else listed.getD j AH:=by
  intro j;by_cases u:j=i;·subst u;simp[ax]
  simp[JL,QP (Ne.symm u),u]
 refine⟨ao,CJ D.hb aa.size,by rw[C4y,D.size],by rw[C4h,D.defers],?_,?_,?_,?_,?_⟩
 ·intro j u
  rw[T]at u;by_cases O:j=i
  ·subst O
   have e:R j (λX=>if X=j then v else y X)=R j y:=ae j o W (.inl rfl) _ _ λk h=>by
    have:k≠j:=λe=>by have:=af k h;rw[e,al]at this;cases this
    simp[this]
   simp only[if_true,e];exact⟨aq,λb E=>⟨CJ D.hb (Y b E).1,(Y b E).2⟩⟩
  simp only[O,if_false]at u ⊢;have au:j<l.length:=by
   rw[<-aA];rcases CG j listed.size with Z|Z
   ·exact Z
   simp[JL,Array.getElem?_eq_none Z]at u
  have aj:l[j]?=QZ l[j]:=DU au
  have e:R j (λX=>if X=i then v else y X)=R j y:=ae j _ aj (.inr u) _ _ λk h=>by
   have:k≠i:=λe=>by have:=D.closed j _ aj u k h;rw[e,al]at this;cases this
   simp[this]
  rw[e];exact⟨(R j y).mono _ _ _ _ aa (D.facts j u).1,λb E=>⟨((D.facts j u).2 b E).1,JC ((D.facts j u).2 b E).2 aa.size⟩⟩
 ·intro j k ai u h b E H
  rw[T]at u h;by_cases O:j=i;·subst O;have aw:¬ k=j:=λe=>ai e.symm;simp only[if_true,aw,if_false]at E H h;have am:=(Y b E).1;have an:=((D.facts k h).2 b H).2;omega
  by_cases G:k=i;·subst G;simp only[if_true,O,if_false]at E H u;have am:=(Y b H).1;have an:=((D.facts j u).2 b E).2;omega
  simp only[O,G,if_false]at E H u h;exact D.disj j k ai u h b E H
 ·intro k o' ad h e ag
  rw[T]at h ⊢;by_cases ah:e=i;·simp[ah]
  simp only[ah,if_false];by_cases G:k=i;·subst G;rw[W]at ad;cases ad;exact af e ag
  simp only[G,if_false]at h;exact D.closed k o' ad h e ag
 ·intro t k h ac
  rw[T]at ac;by_cases G:k=i
  ·subst G
   have ab:o.dst=QZ t:=by simpa[opAt,W]using h
   rw[B1q,if_pos ⟨ab,by rw[D.size,ap];exact ay k t h⟩];simp
  simp only[G,if_false]at ac ⊢;rw[B1q,if_neg,D.evalL t k h ac];rintro⟨ab,_⟩;exact G (az k i t h (by simpa[opAt,W]using ab))
 intro t ak;have ar:opAt l i≠QZ t:=λe=>by have:=ak i e;rw[T]at this;simp at this
 rw[B1q,if_neg (λe=>ar (by simpa[opAt,W]using e.1))];refine D.evalN t λk h=>?_;have:=ak k h;rw[T]at this;by_cases G:k=i;·simp[G]at this
 simpa[G]using this

def D4m (l:List CZ):List Nat->List Nat->List Nat
 | [],R=>R
 |i::is,R=>D4m l is (if R.contains i then(match l[i]? with|some o=>N_ o|none=>[])++R else R)

theorem B0p {listed:Array Bool} {n:Nat} (hcl:∀ k o,l[k]?=QZ o->k≠n->listed.getD k AH=AF->∀ e∈N_ o,listed.getD e AH=AF)
  (hn:∀ o,l[n]?=QZ o->∀ e∈N_ o,listed.getD e AH=AF):∀ (is R:List Nat),(∀ k∈R,k=n\/listed.getD k AH=AF)->∀ k∈D4m l is R,k=n\/listed.getD k AH=AF
 | [],_,h,k,hk=>h k hk
 |i::is,R,h,k,hk=>by
  refine B0p hcl hn is _ ?_ k hk
  intro j hj
  split at hj
  ·rename_i hc
   rcases DV.1 hj with hj|hj
   ·cases ho:l[i]? with
    |none=>rw[ho]at hj;simp at hj
    |some o =>
     rw[ho]at hj
     by_cases hin:i=n
     ·subst hin;exact .inr (hn o ho j hj)
     rcases h i (by simpa using hc)with e|e
     ·exact absurd e hin
     exact .inr (hcl i o ho hin e j hj)
   exact h j hj
  exact h j hj

def D5y (P:FQ) (l:List CZ) (R:Nat->DP) (C:AD->Prop) (a0:DC):Nat->List CZ->Prop
 |_,[]=>True
 |i,o::os=>(Cong (R i) (N_ o)/\part P l R C a0 i o)/\D5y P l R C a0 (i+1) os

theorem A5f:∀ (os:List CZ) (k:Nat),D5y P l R C a0 k os->∀ i o,os[i]?=QZ o->Cong (R (k+i)) (N_ o)/\part P l R C a0 (k+i) o
 | [],_,_,i,o,h=>by simp at h
 |x::os,k,hp,0,o,h=>by simp at h;subst h;exact hp.1
 |x::os,k,hp,i+1,o,h=>by
  have:=A5f os (k+1) hp.2 i o (by simpa using h)
  rw[show k+(i+1)=k+1+i by omega];exact this

def B0h (l:List CZ):Bool:=l.zipIdx.all fun(o,i)=>(N_ o).all λe=>BQ (e<i)

theorem B6j (h:B0h l=AF) (listed:Array Bool) (X:listed.size=l.length) (E:OF .any l.toArray listed=[]):∀ i,i<l.length->listed.getD i AH=AF:=by
 intro i;induction i using Nat.strongRecOn with
 |_ i ih =>
  intro O
  cases H:listed.getD i AH with
  |true=>rfl
  |false =>
   exfalso
   have W:l[i]?=QZ l[i]:=DU O
   have u:∀ e∈N_ l[i],e<i:=by intro e b;simp only[B0h,CU]at h;have:=h (l[i],i) (by rw[KE];exact⟨i,by simp[QS,W]⟩) e b;simpa using this
   have:i∈OF .any l.toArray listed:=mem_ready.2 ⟨by
    have T:i<listed.size:=oS;simpa[JL,T]using H,l[i],sI,λe b G=>by
    have D:e.on∈N_ l[i]:=(A6p _ _).2 ⟨e,by simpa using b,G,rfl⟩;have:=ih e.on (u _ D) (by have:=u _ D;omega);simpa using this⟩
   rw[E]at this
   cases this

def E8u (P:FQ) (l:List CZ) (acc:List DP) (m:DP) (w0:AD) (a0:DC) (o:CZ):Prop :=
 ∀ (y:Nat->AU) (z:Nat->List Nat) (w:AD),Bw w0 w->(∀ k∈N_ o,(acc.getD k (λ_=>MP.eq FX) y).p (y k) (z k) w) ->
  if JB o (IU l.toArray (L_ l y a0 (N_ o)).tmps)then
   B2b P o (L_ l y a0 (N_ o)) w λv w'=>Bw w w'/\∃ bs,(m y).p v bs w'/\∀ b∈bs,w.1.size<=b/\b<w'.1.size
  else(m y).p FX [] w

def A4c (P:FQ) (l:List CZ) (w0:AD) (a0:DC) (F:List DP->Prop):List CZ->List DP->Prop
 | [],acc=>F acc
 |o::os,acc=>∃ m:DP,Cong m (N_ o)/\E8u P l acc m w0 a0 o/\A4c P l w0 a0 F os (acc++[m])

theorem B2h {w0:AD} {F:List DP->Prop} (b:B0h l=AF):∀ (os:List CZ) (acc:List DP),(∀ j,j<os.length->os[j]?=l[acc.length+j]?)->A4c P l w0 a0 F os acc ->
  ∃ Rs:List DP,F Rs/\(∀ k,k<acc.length->Rs.getD k (λ_=>MP.eq FX)=acc.getD k (λ_=>MP.eq FX))/\D5y P l (λi=>Rs.getD i (λ_=>MP.eq FX)) (λw'=>Bw w0 w') a0 acc.length os
 | [],acc,_,h=>⟨acc,h,λ_ _=>rfl,trivial⟩
 |o::os,acc,hl,h=>by
  obtain⟨m,hcg,hp,hw⟩:=h
  obtain⟨Rs,hF,hag,hps⟩:=B2h b os (acc++[m]) (λj hj=>by have:=hl (j+1) oR;simpa[Nat.add_assoc,Nat.add_comm 1 j]using this) hw
  have hlow:∀ k,k<acc.length->Rs.getD k (λ_=>MP.eq FX)=acc.getD k (λ_=>MP.eq FX):=λk hk=>by
   rw[hag k oR]
   simp[EH,List.getElem?_append_left hk]
  have hself:Rs.getD acc.length (λ_=>MP.eq FX)=m:=by rw[hag _ sI];simp[EH]
  refine⟨Rs,hF,hlow,⟨by simpa only [hself]using hcg,?_⟩,by simpa using hps⟩
  intro y z w hC hd
  have hol:l[acc.length]?=QZ o:=by simpa using(hl 0 sI).symm
  have:=hp y z w hC (λk hk=>by
   have hlt:k<acc.length:=by
    simp only[B0h,CU]at b
    have:=b (o,acc.length) (by rw[KE];exact⟨acc.length,by simp[QS,hol]⟩) k hk
    simpa using this
   have u:=hd k hk
   simp only[hlow k hlt]at u
   exact u)
  simp only[hself]
  exact this

def A0r (w w':AD) (y:Nat->AU) (z:Nat->List Nat):Nat->List DP->Prop
 |_,[]=>True
 |i,m::ms=>((m y).p (y i) (z i) w'/\∀ b∈z i,w.1.size<=b/\b<w'.1.size)/\A0r w w' y z (i+1) ms

theorem B6a {w w':AD} {y:Nat->AU} {z:Nat->List Nat}:∀ (ms:List DP) (i:Nat),(∀ k m,ms[k]?=QZ m->(m y).p (y (i+k)) (z (i+k)) w'/\∀ b∈z (i+k),w.1.size<=b/\b<w'.1.size)->A0r w w' y z i ms
 | [],_,_=>trivial
 |m::ms,i,h=>⟨by have:=h 0 m rfl;exact this,B6a ms (i+1) λk m' hk=>by have:=h (k+1) m' (by simpa using hk);rw[show i+1+k=i+(k+1) by omega];exact this⟩

def D8m (z:Nat->List Nat) (n:Nat):Prop:=∀ i j,i≠j->i<n->j<n->∀ b∈z i,b∉z j

def C7f (l:List CZ) (m:Nat):Bool:=(GE l.length).all λk=>BQ (k<=m) || (match l[k]? with|some o=>(N_ o).contains (k - 1)|none=>AF)
theorem B1j {m:Nat} (h:C7f l m=AF) {k:Nat} {o:CZ} (u:l[k]?=QZ o) (D:m<k):k - 1∈N_ o:=by
 unfold C7f at h;rw[CU]at h;have:=h k (JW.2 (DM.1 u).1);rw[u]at this;simp only[Bool.or_eq_true,decide_eq_true_eq,List.contains_iff_mem]at this;rcases this with b|b
 ·omega
 exact b
theorem C4e {Q:Exit->DC->AD->Prop} {m:Nat} (ad:C7f l m=AF) (ag:∀ (listed:Array Bool),listed.size=l.length->OF .any l.toArray listed=[]->∀ i,i<l.length->listed.getD i AH=AF) :
  ∀ (fuel j:Nat) (listed:Array Bool) (a:DC) (w:AD),m<=j->j<=l.length->listed.size=l.length->l.length - j<=fuel->(∀ k,k<l.length->listed.getD k AH=BQ (k<j)) ->
   GH P l.toArray Q (l.drop j) a w->wpAny P .any l.toArray Q fuel listed a w:=by
 intro fuel;induction fuel with
 |zero =>
  intro j listed a w ap am Z ak u b
  have X:j=l.length:=oS
  subst X
  have aw:OF .any l.toArray listed=[]:=by
   cases au:OF .any l.toArray listed with
   |nil=>rfl
   |cons i is =>
    exfalso
    have W:i∈OF .any l.toArray listed:=by rw[au];exact PS ..
    obtain⟨T,o,O,_⟩:=mem_ready.1 W
    have D:i<l.length:=by
     rcases CG i l.length with b|b;·exact b
     simp[ML b]at O
    have h:=u i D
    have E:i<listed.size:=oS
    simp only[D,decide_true]at h
    rw[JL]at h T
    simp[E]at h T
    rw[h]at T;cases T
  rw[List.drop_length]at b
  exact⟨aw,b⟩
 |succ fuel ih =>
  intro j listed a w ap am Z ak u b
  refine⟨λac=>?_,λi W=>?_⟩
  ·have X:j=l.length:=by
    rcases CG j l.length with h|h
    ·have H:=ag listed Z ac j h;rw[u j h]at H;simp at H
    omega
   subst X
   rw[List.drop_length]at b
   exact b
  ·obtain⟨ay,o,O,ae⟩:=mem_ready.1 W
   have Y:l[i]?=QZ o:=by simpa using O
   have D:i<l.length:=(DM.1 Y).1
   have E:i<listed.size:=oS
   have ax:listed.getD i AH=AH:=by
    have:listed[i]=AH:=by simpa[JL,E]using ay
    simpa[JL,E]using this
   have az:j<=i:=by have:=u i D;rw[ax]at this;have:=of_decide_eq_false this.symm;omega
   have al:i=j:=by
    rcases CG j i with h|h
    ·exfalso
     have H:=B1j ad Y oS;obtain⟨ab,aj,af,ai⟩:=(A6p (i - 1) _).1 H;have aa:listed.getD (i - 1) AH=AF:=by rw[<-ai];simpa using ae ab (by simpa using aj) af
     rw[u (i - 1) oS]at aa;have:=of_decide_eq_true aa;omega
    omega
   subst al
   have ah:l.drop i=o::l.drop (i+1):=by rw[MA D];congr 1;exact(DM.1 Y).2
   rw[ah]at b
   have aq:∀ (G:DC) (w':AD),GH P l.toArray Q (l.drop (i+1)) G w'->wpAny P .any l.toArray Q fuel (listed.setIfInBounds i AF) G w':=by
    intro G w' ar;refine ih (i+1) _ G w' oS oS (by simpa using Z) oS (λk an=>?_) ar;by_cases ao:k=i;·subst ao;rw[JL];simp[E]
    rw[JL,QP oS,<-JL,u k an];congr 1;exact propext ⟨λb=>oS,λb=>oS⟩
   refine wpOp_mono aq ?_
   unfold wpOp
   simp only[O]
   unfold GH at b
   split
   ·rename_i hw;rw[if_pos hw]at b;exact b
   rename_i hw;rw[if_neg hw]at b;exact b
section
variable {Q:Exit->DC->AD->Prop} {listed:Array Bool} {a:DC} {w:AD} {y:Nat->AU} {z:Nat->List Nat} {N m i:Nat} {o:CZ}
theorem C4i (Y:listed.size=l.length) (hi:i∈OF .any l.toArray listed):∃ o,l[i]?=QZ o/\i<l.length/\listed.getD i AH=AH/\listed.toList[i]?=QZ AH/\∀ e∈N_ o,listed.getD e AH=AF:=by
 obtain⟨X,o,W,E⟩:=mem_ready.1 hi;have u:l[i]?=QZ o:=by simpa using W
 have T:=(DM.1 u).1;have b:i<listed.size:=oS;have h:listed[i]=AH:=by simpa[JL,b]using X
 refine⟨o,u,T,by simpa[JL,b]using h,by simp[b,h],λe H=>?_⟩;obtain⟨D,O,G,rfl⟩:=(A6p e _).1 H;simpa using E D (by simpa using O) G
theorem C1v {p:Nat} (O:listed.size=l.length) (h:∀ k,p<=k->k<l.length->listed.getD k AH=AH):l.length - p<=(listed.toList.filter (λb=>!b)).length:=by
 have D:(listed.toList.drop p).filter (λb=>!b)=listed.toList.drop p:=by rw[List.filter_eq_self];intro b E;obtain⟨j,G,rfl⟩:=List.mem_iff_getElem.1 E;simp only[List.length_drop,Array.length_toList]at G;have:=h (p+j) oS oS;have H:p+j<listed.size:=oS;simpa[JL,H]using this
 have u:=((List.drop_sublist p listed.toList).filter (λb=>!b)).length_le;rw[D]at u;simpa[O]using u
theorem C7h (h:i<listed.size) (k:Nat):(listed.setIfInBounds i AF).getD k AH=if k=i then AF else listed.getD k AH:=by
 by_cases b:k=i;·subst b;simp[h]
 simp[JL,QP (Ne.symm b),b]
theorem F2l (X:a0.tmps.size=N) (W:B1r l N=AF) (E:St l R C a0 base listed a w y z) (ae:l[i]?=QZ o) (ai:listed.getD i AH=AH) (Z:∀ e∈N_ o,listed.getD e AH=AF) :
  ∀ t∈B2w l o,a.eval (.tmp t)=(L_ l y a0 (N_ o)).eval (.tmp t):=by
 obtain⟨_,af,G,ag⟩:=B4d W;intro t ah;by_cases b:∃ k,opAt l k=QZ t
 ·obtain⟨k,b⟩:=b
  obtain⟨u,O,Y⟩:∃ u,l[k]?=QZ u/\u.dst=QZ t:=by simpa[opAt,Option.bind_eq_some_iff]using b
  by_cases D:k∈N_ o;·rw[E.evalL t k b (Z k D),A5l y t k b (λj ab=>G j k t ab b) _ _ D (by rw[X];exact af k t b)]
  have aa:i∈N_ u:=(ag i o ae t ah k u O Y).resolve_left D;have ad:listed.getD k AH=AH:=by
   cases T:listed.getD k AH with
   |false=>rfl
   |true=>have:=E.closed k u O T i aa;rw[ai]at this;cases this
  rw[E.evalN t (λH h=>by rw[G H k t h b];exact ad),A2k y t _ _ (λH ac h=>D (G H k t h b ▸ ac))]
 rw[E.evalN t (λk h=>absurd ⟨k,h⟩ b),A2k y t _ _ (λk _ h=>b ⟨k,h⟩)]
theorem D8o (aa:a0.tmps.size=N) (X:B1r l N=AF) (W:St l R C a0 base listed a w y z) (H:l[i]?=QZ o) (af:listed.getD i AH=AH) (Y:∀ e∈N_ o,listed.getD e AH=AF) (ad:part P l R C a0 i o) {K:DC->AD->Prop}
  (T:∀ (v:AU) (bs:List Nat) (w':AD),Bw w w'->(R i y).p v bs w'->(∀ b∈bs,w.1.size<=b/\b<w'.1.size)->K (a.put o.dst v) w'):wpOp P l.toArray Q i K a w:=by
 have Z:=F2l aa X W H af Y;have ae:∀ u b,o.op≠.select u b:=λu b=>Region.noSelect_spec (B4d X).1 i o u b (by simpa using H);have h:=ad y z w W.c (λk ac=>(W.facts k (Y k ac)).1);rw[<-A7k Z]at h;unfold wpOp;simp only[List.getElem?_toArray,H];split
 ·rename_i O
  rw[if_pos O]at h;refine .inl ?_;unfold B2b at h;unfold CZ.wp;rw[<-A4e ae Z]at h;generalize (IY a.eval o).run P w=r at h;cases r with
  |ok n w' =>
   cases n<;>simp only[A8s]at h<;>simp only[CZ.upon]
   case enter f args=>exact h.mono λe w'' ⟨v,he,D,bs,E,G⟩=>by subst he;exact T _ bs _ D E G
   all_goals (obtain⟨D,bs,E,G⟩:=h;exact T _ bs _ D E G)
  |halt x w'=>simp only[A8s]at h
 rename_i O;rw[if_neg O]at h;exact T FX [] w (DI _ _) h (λb ab=>by simp at ab)
theorem D7k:St l R (λw'=>Bw w w') a0 w.1.size (Array.replicate l.toArray.size AH) a0 { w with drawn:=w.drawn+1 } (λ_=>FX) (λ_=>[]):=by
 have u:∀ i,(Array.replicate l.toArray.size AH).getD i AH=AH:=λi=>by rw[JL,Array.getElem?_replicate];split<;>rfl
 refine⟨⟨rfl,rfl,rfl,CE _,λ_ _=>rfl⟩,CE _,rfl,rfl,?_,?_,?_,?_,λ_ _=>rfl⟩;·intro i b;rw[u]at b;cases b
 ·intro i j _ b;rw[u]at b;cases b
 ·intro k o _ h;rw[u]at h;cases h
 intro t k _ h;rw[u]at h;cases h
theorem D9r (T:B1r l N=AF) (h:St l R C a0 base listed a w y z)
  (W:∀ k,k<m->listed.getD k AH=AF) (ab:∀ k,m<=k->k<l.length->listed.getD k AH=AH):a=L_ l y a0 (GE m):=by
 obtain⟨_,_,aa,_⟩:=B4d T;have E:a.tmps=(L_ l y a0 (GE m)).tmps:=by
  apply Array.ext;·rw[h.size,B3b]
  intro t H O;have ac:a.eval (.tmp t)=(L_ l y a0 (GE m)).eval (.tmp t):=by
   by_cases b:∃ k,k<m/\opAt l k=QZ t;·obtain⟨k,D,b⟩:=b;rw[h.evalL t k b (W k D),A5l y t k b (λj X=>aa j k t X b) _ _ (JW.2 D) (by rw[<-h.size];exact H)]
   rw[h.evalN t (λk u=>?_),A2k y t _ _ (λk Z u=>b ⟨k,JW.1 Z,u⟩)];by_cases D:k<m;·exact absurd ⟨k,D,u⟩ b
   by_cases Y:k<l.length;·exact ab k oS Y
   simp[opAt,ML (by omega:l.length<=k)]at u
  simpa[DC.eval,H,O]using ac
 have G:a.defers=(L_ l y a0 (GE m)).defers:=by rw[h.defers,A9q]
 cases a;simp only at E G;rw[E,G]
def D2r (l:List CZ) (m:Nat):Bool :=
 let R:=D4m l (GE l.length).reverse [m]
 BQ (m<=l.length)&&(BQ (m=l.length) || (GE m).all λk=>R.contains k)
theorem F2m (ar:∀ w w',C w->base<=w.1.size->Bw w w'->C w') (ai:a0.tmps.size=N) (aa:B1r l N=AF) (ab:D2r l m=AF) (ae:C7f l m=AF)
  (aE:∀ i o,i<m->l[i]?=QZ o->part P l R C a0 i o) (au:∀ i o,i<m->l[i]?=QZ o->Cong (R i) (N_ o))
  (aj:∀ (y:Nat->AU) (z:Nat->List Nat) (w:AD),C w->(∀ i,i<m->(R i y).p (y i) (z i) w/\∀ b∈z i,base<=b/\b<w.1.size)->(∀ i j,i≠j->i<m->j<m->∀ b∈z i,b∉z j) ->
   GH P l.toArray Q (l.drop m) (L_ l y a0 (GE m)) w)
  (af:∀ (listed:Array Bool),listed.size=l.length->OF .any l.toArray listed=[]->∀ i,i<l.length->listed.getD i AH=AF) :
  ∀ (fuel:Nat) (listed:Array Bool) (a:DC) (w:AD) (y:Nat->AU) (z:Nat->List Nat),listed.size=l.length->(listed.toList.filter (λb=>!b)).length<=fuel->(∀ k,m<=k->k<l.length->listed.getD k AH=AH) ->
   St l R C a0 base listed a w y z->wpAny P .any l.toArray Q fuel listed a w:=by
 obtain⟨aK,aG,aH,aL⟩:=B4d aa;simp only[D2r,DJ,decide_eq_true_eq,Bool.or_eq_true,CU]at ab;obtain⟨am,ab⟩:=ab;intro fuel;induction fuel with
 |zero =>
  intro listed a w y z H al E h
  have W:∀ k,k<l.length->listed.getD k AH=AF:=λk D=>by have Y:k<listed.size:=oS;have ad:listed.toList.filter (λb=>!b)=[]:=List.length_eq_zero_iff.1 oS;have:=List.filter_eq_nil_iff.1 ad listed[k] (Array.getElem_mem_toList Y);simpa[JL,Y]using this
  have aJ:m=l.length:=by
   rcases CG m l.length with u|u;·have:=W m u;rw[E m (CE _) u]at this;cases this
   omega
  refine C4e ae af 0 m listed a w (CE _) am H oS (λk D=>by rw[W k D];simp;omega) ?_
  rw[D9r aa h (λk D=>W k oS) E]
  exact aj y z w h.c (λi T=>h.facts i (W i oS)) (λi j ag T X=>h.disj i j ag (W i oS) (W j oS))
 |succ fuel ih =>
  intro listed a w y z H al E h
  by_cases O:∀ k,k<m->listed.getD k AH=AF
  ·refine C4e ae af (fuel+1) m listed a w (CE _) am H (CJ (C1v H E) al) (λk D=>?_) ?_
   ·by_cases ah:k<m
    ·rw[O k ah];simp[ah]
    rw[E k oS D];simp[ah]
   rw[D9r aa h O E]
   exact aj y z w h.c (λi T=>h.facts i (O i T)) (λi j ag T X=>h.disj i j ag (O i T) (O j X))
  refine⟨λad=>absurd (λk D=>af listed H ad k oS) O,λi T=>?_⟩
  obtain⟨o,Z,aI,ao,aC,ac⟩:=C4i H T
  have Y:i<listed.size:=oS
  have az:i<m:=by
   rcases Nat.lt_trichotomy i m with u|u|u;·exact u
   ·subst u
    refine absurd (λk D=>?_) O
    have aF:=B0p (l:=l) (listed:=listed) (n:=i) (λk o aB _ D=>h.closed k o aB D) (λap an e ay=>by
     rw[Z]at an;cases an;exact ac e ay) (GE l.length).reverse [i] (λk D=>by simp at D;exact .inl D) k
     (by have:=(ab.resolve_left oS) k (JW.2 D);simpa using this)
    exact aF.resolve_left oS
   have G:=ac _ (B1j ae Z u);rw[E (i - 1) oS oS]at G;cases G
  refine D8o ai aa h Z ao ac (aE i o az Z) λv bs w' ak aw ax=>?_
  refine ih _ _ w' _ _ (by simpa using H) ?_ (λk G aq=>by rw[C7h Y,if_neg oS];exact E k G aq) (C6g ai aG aH h Z Y ao H (λj ap X aD=>au j ap (by
   have aA:=(DM.1 X).1;rcases CG j m with G|G
   ·exact G
   rcases aD with u|u;·omega
   rw[E j G aA]at u;cases u) X) ac (ar _ _ h.c h.hb ak) ak aw ax)
  have:=A8y listed.toList i aC
  rw[show(listed.setIfInBounds i AF).toList=listed.toList.set i AF by simp];omega
theorem W_ {ag:Nat} (m:Nat) (ae:P.follows .mixedOrders=AF) (Z:B1r l a0.tmps.size=AF) (T:B0h l=AF) (E:D2r l m=AF) (ab:C7f l m=AF)
  (h:A4c P l w a0 (λRs=>∀ (y:Nat->AU) (z:Nat->List Nat) (w':AD),Bw w w'->A0r w w' y z 0 (Rs.take m) ->
   D8m z m->GH P l.toArray Q (l.drop m) (L_ l y a0 (GE m)) w') (l.take m) []):(Code.region ag l.toArray AF).wp P Q a0 w:=by
 have ai:m<=l.length:=by simp only[D2r,DJ,decide_eq_true_eq]at E;exact E.1
 have ah:(l.take m).length=m:=oR;have G:∀ j,j<(l.take m).length->(l.take m)[j]?=l[j]?:=λj W=>by rw[JM,if_pos oS]
 obtain⟨Rs,aa,_,X⟩:=B2h T (l.take m) [] (λj W=>by simpa using G j W) h;refine wp_region_any ae ?_
 refine F2m (m:=m) (R:=λi=>Rs.getD i (λ_=>MP.eq FX)) (C:=λw'=>Bw w w') (a0:=a0) (base:=w.1.size) (λak al b u D=>b.trans (D.mono u)) rfl Z E ab
  (λi o ac O=>by have:=(A5f (l.take m) 0 X i o (by rw[G i oS];exact O)).2;rwa [LJ]at this)
  (λi o ac O=>by have:=(A5f (l.take m) 0 X i o (by rw[G i oS];exact O)).1;rwa [LJ]at this)
  (λy z w' b u D=>aa y z w' b (B6a _ 0 λk aj H=>?_) D) (λlisted af Y=>B6j T listed af Y) _ _ a0 _ _ _ sI sI (λk _ _=>?_) D7k
 ·rw[LJ,JM]at *
  split at H;·rename_i ad;have:=u k ad;simpa[EH,H]using this
  cases H
 rw[JL,Array.getElem?_replicate];split<;>rfl
theorem D5d {m:Nat} (h:l.length<=m+1):C7f l m=AF:=by
 unfold C7f;rw[CU];intro k b;have:=JW.1 b;simp;omega
theorem C4t {id:Nat} (hm:P.follows .mixedOrders=AF) (hB:B1r l a0.tmps.size=AF) (hK:B0h l=AF)
  (h:A4c P l w a0 (λRs=>∀ (y:Nat->AU) (z:Nat->List Nat) (w':AD),Bw w w'->A0r w w' y z 0 (Rs.take l.length) ->
   D8m z l.length->Q .normal (L_ l y a0 (GE l.length)) w') l []):(Code.region id l.toArray AF).wp P Q a0 w :=
 W_ l.length hm hB hK (by simp[D2r]) (D5d oS) (by simpa[GH]using h)
def D3k (l:List CZ):Bool:=BQ (0<l.length)&&D2r l (l.length - 1)
theorem C7p {H:Nat} (b:l≠[]) (G:P.follows .mixedOrders=AF) (D:B1r l a0.tmps.size=AF) (E:B0h l=AF) (u:D3k l=AF)
  (h:A4c P l w a0 (λRs=>∀ (y:Nat->AU) (z:Nat->List Nat) (w':AD),Bw w w'->A0r w w' y z 0 (Rs.take l.dropLast.length) ->
   D8m z l.dropLast.length->GH P l.toArray Q [l.getLast b] (L_ l y a0 (GE l.dropLast.length)) w') l.dropLast []):(Code.region H l.toArray AF).wp P Q a0 w:=by
 simp only[D3k,DJ]at u;refine W_ (l.length - 1) G D E u.2 (D5d oS) ?_;have O:=List.length_pos_iff.2 b;have e:l.drop (l.length - 1)=[l.getLast b]:=by rw[MA oS,List.getLast_eq_getElem,List.drop_eq_nil_of_le oS]
 rw[e,<-List.dropLast_eq_take];simpa using h
theorem X_ {P:FQ} {l:List CZ} {a0:DC} {id:Nat} {Q:Exit->DC->AD->Prop} {w:AD} (hne:l≠[])
  (h:A4c P l w a0 (λRs=>∀ (y:Nat->AU) (z:Nat->List Nat) (w':AD),Bw w w'->A0r w w' y z 0 (Rs.take l.dropLast.length) ->
   D8m z l.dropLast.length->GH P l.toArray Q [l.getLast hne] (L_ l y a0 (GE l.dropLast.length)) w') l.dropLast [])
  (hm:P.follows .mixedOrders=AF:=by kernel_rfl) (hB:B1r l a0.tmps.size=AF:=by kernel_rfl) (hK:B0h l=AF:=by kernel_rfl) (hT:D3k l=AF:=by kernel_rfl):(Code.region id l.toArray AF).wp P Q a0 w:=C7p hne hm hB hK hT h
end

theorem A2b {w0:AD} {F:List DP->Prop} {o:CZ} {u:List CZ} {b:List DP} (v:AU)
  (h:∀ (y:Nat->AU) (z:Nat->List Nat) (w:AD),Bw w0 w->(∀ k∈N_ o,(b.getD k (λ_=>MP.eq FX) y).p (y k) (z k) w) ->
   JB o (IU l.toArray (L_ l y a0 (N_ o)).tmps)=AF/\(IY (L_ l y a0 (N_ o)).eval o).run P w=.ok (.value v) w)
  (T:A4c P l w0 a0 F u (b++[λ_=>MP.eq v])):A4c P l w0 a0 F (o::u) b:=by
 refine⟨_,Cong.const _ _,λy z w G O=>?_,T⟩;obtain⟨D,E⟩:=h y z w G O;rw[if_pos D];unfold B2b;rw[E];exact⟨DI _ _,[],⟨rfl,rfl⟩,λW H=>by simp at H⟩

theorem A4m {w0:AD} {F:List DP->Prop} {o:CZ} {u:List CZ} {b:List DP}
  (h:∀ (y:Nat->AU) (z:Nat->List Nat) (w:AD),Bw w0 w->(∀ k∈N_ o,(b.getD k (λ_=>MP.eq FX) y).p (y k) (z k) w) ->
   JB o (IU l.toArray (L_ l y a0 (N_ o)).tmps)=AH)
  (G:A4c P l w0 a0 F u (b++[λ_=>MP.eq FX])):A4c P l w0 a0 F (o::u) b:=by
 refine⟨_,Cong.const _ _,λy z w D E=>?_,G⟩;rw[if_neg (by rw[h y z w D E];simp)];exact⟨rfl,rfl⟩

theorem D_ {w0:AD} {F:List DP->Prop} {o:CZ} {D:List CZ} {u:List DP} (m:MP)
  (h:∀ (y:Nat->AU) (z:Nat->List Nat) (w:AD),Bw w0 w->(∀ k∈N_ o,(u.getD k (λ_=>MP.eq FX) y).p (y k) (z k) w) ->
   JB o (IU l.toArray (L_ l y a0 (N_ o)).tmps)=AF/\∃ f args,(IY (L_ l y a0 (N_ o)).eval o).run P w=.ok (.enter f args) w /\
    BL P f args w λe w'=>∃ v,e=.returned v/\Bw w w'/\∃ bs,m.p v bs w'/\∀ b∈bs,w.1.size<=b/\b<w'.1.size)
  (W:A4c P l w0 a0 F D (u++[λ_=>m])):A4c P l w0 a0 F (o::D) u:=by
 refine⟨λ_=>m,Cong.const _ _,λy z w O T=>?_,W⟩;obtain⟨E,f,args,G,H⟩:=h y z w O T;rw[if_pos E];unfold B2b;rw[G];exact H

theorem _root_.gD {p:Prop} (h:p:=by go_simp;done):p:=h
theorem C_ {w0:AD} {F:List DP->Prop} {o:CZ} {u:List CZ} {b:List DP} (v:AU) (G:A4c P l w0 a0 F u (b++[λ_=>MP.eq v]))
  (h:∀ (y:Nat->AU) (z:Nat->List Nat) (w:AD),Bw w0 w->(∀ k∈N_ o,(b.getD k (λ_=>MP.eq FX) y).p (y k) (z k) w) ->
   JB o (IU l.toArray (L_ l y a0 (N_ o)).tmps)=AF/\(IY (L_ l y a0 (N_ o)).eval o).run P w=.ok (.value v) w:=by
    intro W X T D E;obtain⟨H,O⟩:=F_ D;simp at E;refine⟨gD,?_⟩;go_simp;first|(go_ints;exact rfl)|(go_ints;rw[if_pos oS];try exact rfl)|exact rfl|(rw[if_pos oS];try exact rfl)):A4c P l w0 a0 F (o::u) b:=A2b v h G
theorem G_ {A:Prop} {α β:Type} {f:α} {a:β} {B C:α->β->Prop} (c:C f a) (h:A:=by go_simp;done) (b:B f a:=by go_simp;exact⟨rfl,rfl⟩):A/\∃ f a,B f a/\C f a:=⟨h,f,a,b,c⟩
theorem A0g {id:Nat} {Q:Exit->DC->AD->Prop} {w:AD} 
  (h:A4c P l w a0 (λRs=>∀ (y:Nat->AU) (z:Nat->List Nat) (w':AD),Bw w w'->A0r w w' y z 0 (Rs.take l.length) ->
   D8m z l.length->Q .normal (L_ l y a0 (GE l.length)) w') l []) (hm:P.follows .mixedOrders=AF:=by kernel_rfl) (hB:B1r l a0.tmps.size=AF:=by kernel_rfl) (hK:B0h l=AF:=by kernel_rfl):(Code.region id l.toArray AF).wp P Q a0 w:=C4t hm hB hK h
theorem A9h {w0:AD} {F:List DP->Prop} {o:CZ} {u:List CZ} {b:List DP} (v:(Nat->AU)->AU) (O:Cong (λy=>MP.eq (v y)) (N_ o))
  (h:∀ (y:Nat->AU) (z:Nat->List Nat) (w:AD),Bw w0 w->(∀ k∈N_ o,(b.getD k (λ_=>MP.eq FX) y).p (y k) (z k) w) ->
   JB o (IU l.toArray (L_ l y a0 (N_ o)).tmps)=AF/\(IY (L_ l y a0 (N_ o)).eval o).run P w=.ok (.value (v y)) w)
  (W:A4c P l w0 a0 F u (b++[λy=>MP.eq (v y)])):A4c P l w0 a0 F (o::u) b:=by
 refine⟨_,O,λy z w G T=>?_,W⟩;obtain⟨D,E⟩:=h y z w G T;rw[if_pos D];unfold B2b;rw[E];exact⟨DI _ _,[],⟨rfl,rfl⟩,λX H=>by simp at H⟩

theorem A3q {w0:AD} {F:List DP->Prop} {o:CZ} {D:List CZ} {u:List DP} (m:DP) (T:Cong m (N_ o))
  (h:∀ (y:Nat->AU) (z:Nat->List Nat) (w:AD),Bw w0 w->(∀ k∈N_ o,(u.getD k (λ_=>MP.eq FX) y).p (y k) (z k) w) ->
   JB o (IU l.toArray (L_ l y a0 (N_ o)).tmps)=AF/\∃ f args,(IY (L_ l y a0 (N_ o)).eval o).run P w=.ok (.enter f args) w /\
    BL P f args w λe w'=>∃ v,e=.returned v/\Bw w w'/\∃ bs,(m y).p v bs w'/\∀ b∈bs,w.1.size<=b/\b<w'.1.size)
  (X:A4c P l w0 a0 F D (u++[m])):A4c P l w0 a0 F (o::D) u:=by
 refine⟨m,T,λy z w O W=>?_,X⟩;obtain⟨E,f,args,G,H⟩:=h y z w O W;rw[if_pos E];unfold B2b;rw[G];exact H
end
end Go.XB

namespace Go.XB
open Go.RowKit

def Free (w:AD) (bs:List Nat):Prop:=bs.Nodup/\∀ b∈bs,∃ cs t,w.1[b]?=QZ (BG cs t (0,0))
theorem Free.below {w w':AD} {bs:List Nat} (h:Free w bs) (hb:Bw w w'):Free w' bs :=
 ⟨h.1,λb hm=>by obtain⟨cs,t,e⟩:=h.2 b hm;exact⟨cs,t,(hb.block b (E_ e)).trans e⟩⟩
theorem Own.free {w0 w:AD} {bs:List Nat} (h:Own w0 w bs):Free w bs:=⟨h.1,λb hm=>(h.2 b hm).2⟩
theorem Own.range {w0 w:AD} {bs:List Nat} (h:Own w0 w bs):∀ b∈bs,w0.1.size<=b/\b<w.1.size:=λb hm=>⟨(h.2 b hm).1,h.lt b hm⟩
theorem Free.own {w0 w:AD} {bs:List Nat} (h:Free w bs) (hr:∀ b∈bs,w0.1.size<=b):Own w0 w bs:=⟨h.1,λb hm=>⟨hr b hm,h.2 b hm⟩⟩

def MP.agg {α:Type} [Dat α] (x:α):MP:=⟨λv bs w=>Agg w v x bs/\Free w bs,λ_ _ _ _ hb h=>⟨h.1.below hb,h.2.below hb⟩⟩
def MP.sl {α:Type} [Dat α] (xs:List α):MP:=⟨λv bs w=>(∃ A n c,v=S A n c/\Sl w A n c xs bs)/\Free w bs,λ_ _ _ _ hb h=>⟨(by obtain⟨A,n,c,e,hs⟩:=h.1;exact⟨A,n,c,e,hs.below hb⟩),h.2.below hb⟩⟩

theorem A0i {P:FQ} {f:FuncId} {args:Array AU} {w:AD} {v:AU} (h:BL P f args w (A0b w v)) :
  BL P f args w λe w'=>∃ u,e=.returned u/\Bw w w'/\∃ bs,(MP.eq v).p u bs w'/\∀ b∈bs,w.1.size<=b/\b<w'.1.size :=
 h.mono λ_ _ ⟨he,hb⟩=>⟨v,he,hb,[],⟨rfl,rfl⟩,λb hb=>by simp at hb⟩
theorem H_ {α:Type} [Dat α] {P:FQ} {f:FuncId} {args:Array AU} {w:AD} {x:α} (h:BL P f args w (A0c w x)) :
  BL P f args w λe w'=>∃ u,e=.returned u/\Bw w w'/\∃ bs,(MP.agg x).p u bs w'/\∀ b∈bs,w.1.size<=b/\b<w'.1.size :=
 h.mono λ_ _ ⟨v,bs,he,ha,ho,hb⟩=>⟨v,he,hb,bs,⟨ha,ho.free⟩,ho.range⟩
theorem A1c {α:Type} [Dat α] {P:FQ} {f:FuncId} {args:Array AU} {w:AD} {xs:List α} (h:BL P f args w (A0w w xs)) :
  BL P f args w λe w'=>∃ u,e=.returned u/\Bw w w'/\∃ bs,(MP.sl xs).p u bs w'/\∀ b∈bs,w.1.size<=b/\b<w'.1.size :=
 h.mono λ_ _ ⟨A,n,c,bs,he,ha,ho,hb⟩=>⟨_,he,hb,bs,⟨⟨A,n,c,rfl,ha⟩,ho.free⟩,ho.range⟩
end Go.XB

namespace Go.XB
open Go.RowKit

def MP.box (cs:Array AU) (t:CV):MP:=⟨λv bs w=>∃ g,v=.pointer (QZ ⟨g,0,I⟩)/\bs=[g]/\w.1[g]?=QZ (BG cs t),λv bs w w' hb h=>by
 obtain⟨g,e,hz,hg⟩:=h;exact⟨g,e,hz,(hb.block g (E_ hg)).trans hg⟩⟩

section
variable {P:FQ} {l:List CZ} {a0:DC}
theorem A1p {w0:AD} {F:List DP->Prop} {o:CZ} {D:List CZ} {b:List DP} (cs:Array AU) (t:CV)
  (h:∀ (y:Nat->AU) (z:Nat->List Nat) (w:AD),Bw w0 w->(∀ k∈N_ o,(b.getD k (λ_=>MP.eq FX) y).p (y k) (z k) w) ->
   JB o (IU l.toArray (L_ l y a0 (N_ o)).tmps)=AF/\(IY (L_ l y a0 (N_ o)).eval o).run P w=.ok (.value (.pointer (QZ ⟨w.1.size,0,I⟩))) (w.alloc (BG cs t)))
  (T:A4c P l w0 a0 F D (b++[λ_=>MP.box cs t])):A4c P l w0 a0 F (o::D) b:=by
 refine⟨λ_=>MP.box cs t,Cong.const _ _,λy z w H O=>?_,T⟩;obtain⟨E,G⟩:=h y z w H O;rw[if_pos E];unfold B2b;rw[G];refine⟨(DI _ _).alloc (CE _) _,[w.1.size],⟨w.1.size,rfl,rfl,by show(w.1.push _)[w.1.size]?=_;simp⟩,λW u=>?_⟩;simp at u;subst u;simp
end

theorem B_ {w:AD} {g j:Nat} {cs:Array AU} {t:CV} {v:AU} (h:w.1[g]?=QZ (BG cs t)) (b:cs[j]?=QZ v):w.cell? ⟨g,j,I⟩=QZ v/\w.frozen? ⟨g,j,I⟩=AH:=by
 unfold AD.cell? World.frozen?;rw[h];simp[b]
theorem B5x {h:AD} {g:Nat} {r s:TRat} {b1 b2:List Nat} {u0 u1 u2 E u4 G:AU} (ad:Agg h (BJ #[u0,u1,u2]) r b1) (ae:Agg h (BJ #[E,u4,G]) s b2) (af:g<h.1.size)
  (T:h.cell? ⟨g,0,I⟩=QZ u0) (W:h.cell? ⟨g,1,I⟩=QZ u1) (X:h.cell? ⟨g,2,I⟩=QZ u2) (c3:h.cell? ⟨g,3,I⟩=QZ E) (Y:h.cell? ⟨g,4,I⟩=QZ u4) (Z:h.cell? ⟨g,5,I⟩=QZ G) :
  Sl h (QZ ⟨g,0,I⟩) 2 2 [r,s] (g::(b1++b2)):=by
 obtain⟨l1,aa,H⟩:=ad;obtain⟨l2,ab,O⟩:=ae;have k1:l1=[u0,u1,u2]:=by have:=congrArg (λv=>match v with | .agg c=>c.toList|_=>[]) aa;simpa using this.symm
 have k2:l2=[E,u4,G]:=by have:=congrArg (λv=>match v with | .agg c=>c.toList|_=>[]) ab;simpa using this.symm
 subst k1;subst k2;refine⟨rfl,CE _,dE,λac=>absurd ac dE,λ_=>⟨g,0,[b1,b2],rfl,sI,rfl,af,λk x ah D u=>?_⟩⟩;match k,D,u with
 |0,D,u =>
  simp at D u;subst D;subst u
  refine⟨_,λj ag b=>?_,H⟩
  match j,b with
  |0,b=>simp at b;subst b;exact T
  |1,b=>simp at b;subst b;exact W
  |2,b=>simp at b;subst b;exact X
 |1,D,u =>
  simp at D u;subst D;subst u
  refine⟨_,λj ag b=>?_,O⟩
  match j,b with
  |0,b=>simp at b;subst b;exact c3
  |1,b=>simp at b;subst b;exact Y
  |2,b=>simp at b;subst b;exact Z
end Go.XB

namespace Go.XB
open Go.RowKit

theorem A1a {n:Nat} {w:AD} (h:n<=w.1.size) (o:Obj):n<=(w.alloc o).1.size:=by
 have:(w.alloc o).1.size=w.1.size+1:=sI;omega

theorem A1t {w:AD} {b size:Nat} {e:CV} {v:AU} {xs:List Int} {x:Int} (h:w.ownsRow b e size v (xs.length+1) (xs.map (RH RD)++[RH RD x])) :
  w.ownsRow b e size v (xs++[x]).length ((xs++[x]).map (RH RD)):=by simpa using h

theorem B0b {w:AD} {b size n:Nat} {e:CV} {v:AU} {xs:List AU} (h:w.ownsRow b e size v n xs):∀ k,v.ownBlock=QZ k->b<=k:=by
 intro k u;rcases h.2 with⟨rfl,_⟩|⟨g,cap,D,rfl,E,_⟩
 ·cases u
 simp[Value.ownBlock]at u;omega

theorem A2o {w wr w3:AD} {size n:Nat} {e:CV} {v:AU} {xs:List AU} {o:Obj} (hb:Bw w wr) (h:wr.ownsRow w.1.size e size v n xs) (hg:(wr.alloc o).grownBy w3 v.ownBlock) :
  Bw w w3:=(hb.alloc hb.size o).grown hg (A1a hb.size o) (B0b h)

theorem A2r {w w':AD} {e:CV} {v:AU} {xs:List Int} {n:Nat} (h:w'.ownsRow w.1.size e 1 v n (xs.map (RH RD))) (O:xs.length=n) (hi:∀ x∈xs,I64 x) (u:Bw w w') :
  A0w w xs (.returned v) w':=by
 have G:Filled (α:=Int) w' (xs.map (RH RD)) xs (DK xs.length []):=Filled.ints (by rw[DT sI]) hi sI;obtain⟨A,c,bs,rfl,T,b⟩:=Filled.sl (base:=w.1.size) (n:=n) (v:=v) G h O;refine⟨A,n,c,bs,rfl,T,B7v (n:=n) (fss:=DK xs.length []) ?_ ?_,u⟩
 ·rcases b with b|⟨g,_,D,H,E⟩
  ·exact .inl b
  exact .inr ⟨g,D,H,E,by rw[B0k];simp⟩
 rw[B0k];exact Own.nil _ _
theorem Sl.cellsInt {w:AD} {a:AJ} {n c:Nat} {xs:List Int} {bs:List Nat} (h:Sl w (QZ a) n c xs bs):∀ j u,(xs.map (RH RD))[j]?=QZ u->w.cell? (a.add j)=QZ u:=by
 intro j u b;have H:j<xs.length:=by have:=(DM.1 b).1;simpa using this
 obtain⟨D,E,x,e,T,O,W,G⟩:=Sl.getInt h (by rw[<-h.1];exact H:j<n);obtain rfl:=IJ e;rw[IR,O]at b;obtain rfl:=IJ b;have e:(⟨D,E,I⟩:AJ).add j=⟨D,E+j,I⟩:=by unfold AJ.add;split<;>simp_all
 rw[e];exact G
theorem Sl.i64 {w:AD} {A:Option AJ} {n c:Nat} {xs:List Int} {bs:List Nat} (h:Sl w A n c xs bs):∀ x∈xs,I64 x:=by
 intro x E;obtain⟨k,b⟩:=KE.1 E;obtain⟨_,_,y,_,_,u,D,_⟩:=Sl.getInt h (by rw[<-h.1];exact(DM.1 b).1:k<n);rw[b]at u;obtain rfl:=IJ u;exact D
theorem D4k (xs:List Int):∀ u∈xs.map (RH RD),u.oneCell'=AF:=by
 intro u b;obtain⟨x,_,rfl⟩:=JX.1 b;rfl
def B3k (w:AD) (t:CV) (xs:List Int) (e:Ending) (w':AD):Prop :=
 ∃ v,e=.returned v/\w'.ownsRow w.1.size t 1 v xs.length (xs.map (RH RD))/\Bw w w'
end Go.XB

namespace Go.XB
open Go.RowKit

theorem A3a {w:AD} {b g n cap:Nat} {e:CV} {zs:List Int} (h:w.ownsRow b e 1 (S (QZ ⟨g,0,I⟩) n cap) n (zs.map (RH RD))) (j:Nat) (u:Int) :
  (w.setCell ⟨g,j,I⟩ (RH RD u)).ownsRow b e 1 (S (QZ ⟨g,0,I⟩) n cap) n ((zs.set j u).map (RH RD)):=by
 rw[List.map_set];exact(MM h j _).1
theorem A0t {w:AD} {b g n cap:Nat} {e:CV} {zs:List Int} (h:w.ownsRow b e 1 (S (QZ ⟨g,0,I⟩) n cap) n (zs.map (RH RD))) {j:Nat} {x:Int} (u:zs[j]?=QZ x) :
  g<w.1.size/\w.cell? ⟨g,j,I⟩=QZ (RH RD x)/\w.frozen? ⟨g,j,I⟩=AH:=by
 have D:=(DM.1 u).1;have E:zs.length=n*1:=by have:=h.1;simpa using this
 exact⟨(FG h _ rfl).2,by rw[PU h j oS,IR,u];rfl,World.ownsRow.frozenAt h j⟩
theorem A2n {w:AD} {b g n cap:Nat} {e:CV} {zs:List Int} (h:w.ownsRow b e 1 (S (QZ ⟨g,0,I⟩) n cap) n (zs.map (RH RD))):zs.length=n:=by have:=h.1;simpa using this
theorem A6k {w:AD} {b n:Nat} {e:CV} {v:AU} {zs:List AU} (h:w.ownsRow b e 1 v n zs):(v=S I 0 0/\n=0)\/∃ g cap,v=S (QZ ⟨g,0,I⟩) n cap/\b<=g/\g<w.1.size/\n<=cap/\cap<=maxLen:=by
 rcases h.2 with⟨rfl,rfl⟩|⟨g,cap,H,rfl,u,E,G,D,_⟩;·exact .inl ⟨rfl,rfl⟩
 exact .inr ⟨g,cap,rfl,u,E_ E,G,D⟩

theorem C6w {w:AD} {b n c:Nat} {A:Option AJ} {e:CV} {zs:List Int} (h:w.ownsRow b e 1 (S A n c) n (zs.map (RH RD))) {k:Nat} (W:k<=n):w.ownsRow b e 1 (S A k c) k ((zs.take k).map (RH RD)):=by
 have Z:zs.length=n:=by have:=h.1;simpa using this
 refine⟨oR,?_⟩;rcases h.2 with⟨u,E⟩|⟨g,cap,D,u,G,T,Y,H,O,X⟩
 ·have:k=0:=oS;subst this;subst E;exact .inl ⟨u,rfl⟩
 simp only[S.injEq,true_and]at u;obtain⟨rfl,rfl⟩:=u;refine .inr ⟨g,c,D,rfl,G,T,oS,H,O,?_⟩;rw[List.map_take,<-X,List.take_take,Nat.mul_one,Nat.mul_one,OI W]
theorem A7v {w:AD} {b n c:Nat} {A:Option AJ} {e:CV} {zs:List Int} (h:w.ownsRow b e 1 (S A n c) n (zs.map (RH RD))) (hi:∀ x∈zs,I64 x):∃ bs,Sl w A n c zs bs:=by
 have G:zs.length=n:=by have:=h.1;simpa using this
 have D:Filled (α:=Int) w (zs.map (RH RD)) zs (DK zs.length []):=Filled.ints (by rw[DT sI]) hi sI;obtain⟨H,c',bs,u,E,_⟩:=Filled.sl (base:=b) (n:=n) D h G;cases u;exact⟨bs,E⟩
theorem C4a {w:AD} {b n:Nat} {e:CV} {v:AU} {zs:List AU} (h:w.ownsRow b e 1 v n zs):∃ A c,v=S A n c:=by
 rcases A6k h with⟨rfl,rfl⟩|⟨g,cap,rfl,_⟩;·exact⟨I,0,rfl⟩
 exact⟨_,cap,rfl⟩
theorem E9b {w:AD} {b n c:Nat} {A:Option AJ} {e:CV} {zs:List AU} (h:w.ownsRow b e 1 (S A n c) n zs) (T:0<n):∃ g,A=QZ ⟨g,0,I⟩/\b<=g/\g<w.1.size/\n<=c/\c<=maxLen:=by
 rcases A6k h with⟨_,O⟩|⟨g,cap,u,D,E,G,H⟩;·omega
 simp only[S.injEq,true_and]at u;obtain⟨rfl,rfl⟩:=u;exact⟨g,rfl,D,E,G,H⟩

theorem C4b {b xs:List Int} {k:Nat} (D:b.length=k) (h:k<xs.length) (u:Int):(b++xs.drop k).set k u=(b++[u])++xs.drop (k+1):=by
 rw[List.set_append_right _ _ oS,D,Nat.sub_self,MA h,List.set_cons_zero,GG];rfl
theorem D1q {b xs:List Int} {k:Nat} {x:Int} (h:b.length=k) (u:xs[k]?=QZ x):(b++xs.drop k)[k]?=QZ x:=by
 rw[List.getElem?_append_right oS,h,Nat.sub_self,OJ];simpa using u

end Go.XB


namespace Go.XB
open Go.RowKit

def C0i (w:AD) (q r:List Int) (e:Ending) (w':AD):Prop :=
 ∃ A1 n1 c1 b1 A2 n2 c2 b2,e=.returned (.tuple #[S A1 n1 c1,S A2 n2 c2])/\Sl w' A1 n1 c1 q b1/\Sl w' A2 n2 c2 r b2/\Own w w' (b1++b2)/\Bw w w'

theorem D2g {w:AD} {b n:Nat} {v:AU} {e:CV} {zs:List Int} (h:w.ownsRow b e 1 v n (zs.map (RH RD))) (hi:∀ x∈zs,I64 x) :
  ∃ A c bs,v=S A n c/\Sl w A n c zs bs/\(bs=[]\/∃ g,bs=[g]/\v.ownBlock=QZ g/\b<=g/\∃ cs t,w.1[g]?=QZ (BG cs t (0,0))):=by
 have Y:zs.length=n:=by have:=h.1;simpa using this
 have O:Filled (α:=Int) w (zs.map (RH RD)) zs (DK zs.length []):=Filled.ints (by rw[DT sI]) hi sI;obtain⟨D,c',bs,E,X,G⟩:=Filled.sl (base:=b) (n:=n) O h Y;refine⟨D,c',bs,E,X,?_⟩;rcases G with⟨_,u⟩|⟨g,T,u,W,H⟩
 ·exact .inl u
 exact .inr ⟨g,by rw[u,B0k],T,W,H⟩

theorem B1d {w w':AD} {q r:List Int} {v1 v2:AU} {af ag:CV} {n1 n2 b1 b2:Nat} (E:w'.ownsRow b1 af 1 v1 n1 (q.map (RH RD))) (h:w'.ownsRow b2 ag 1 v2 n2 (r.map (RH RD)))
  (Z:∀ x∈q,I64 x) (aa:∀ x∈r,I64 x) (ah:w.1.size<=b1) (ai:w.1.size<=b2) (Y:∀ g1 g2,v1.ownBlock=QZ g1->v2.ownBlock=QZ g2->g1≠g2) (X:Bw w w') :
  C0i w q r (.returned (.tuple #[v1,v2])) w':=by
 obtain⟨G,O,ad,rfl,ab,o1⟩:=D2g E Z;obtain⟨H,T,ae,rfl,ac,o2⟩:=D2g h aa;refine⟨G,n1,O,ad,H,n2,T,ae,rfl,ab,ac,?_,X⟩;rcases o1 with rfl|⟨g1,rfl,W,E,k1⟩
 ·rcases o2 with rfl|⟨g2,rfl,D,h,k2⟩
  ·exact Own.nil _ _
  exact⟨sI,λu b=>by simp at b;subst b;exact⟨oS,k2⟩⟩
 rcases o2 with rfl|⟨g2,rfl,D,h,k2⟩;·exact⟨sI,λu b=>by simp at b;subst b;exact⟨oS,k1⟩⟩
 have:=Y g1 g2 W D;refine⟨by simp[this],λu b=>?_⟩;simp at b;rcases b with rfl|rfl
 ·exact⟨oS,k1⟩
 exact⟨oS,k2⟩
theorem B8h {h w':AD} {v1 v2:AU} {b n1 n2:Nat} {H O:CV} {q r:List AU} (E:h.ownsRow b H 1 v1 n1 q) (G:w'.ownsRow h.1.size O 1 v2 n2 r):∀ g1 g2,v1.ownBlock=QZ g1->v2.ownBlock=QZ g2->g1≠g2:=by
 intro g1 g2 u D;have:=(FG E _ u).2;have:=B0b G _ D;omega
end Go.XB

namespace Go.XB
open Go.RowKit

theorem E0l {P:FQ} {w:AD} (t ty e:CV) (i:TypeInfo) (D:P.underlying t=QZ (.slice e)) (hi:P.info? e=QZ i) (af:i.zero=QZ (.int RD 0)) (ae:i.size=1) (Z:i.bytes=8)
  (g:Nat) (A:Option AJ) (n c:Nat) (xs:List Int) (bs:List Nat) (h:Sl w A n c xs bs) (al:n<=1048576) :
  ∃ A' c' bs' w',(MH.append_ #[t,t] ty #[S (QZ ⟨g,0,I⟩) 0 0,S A n c]).run P w=.ok (S A' n c') w'/\Sl w' A' n c' xs bs'/\Own w w' bs'/\Bw w w':=by
 rcases Nat.eq_zero_or_pos n with u|u
 ·subst u
  obtain rfl:xs=[]:=IV h.1;refine⟨QZ ⟨g,0,I⟩,0,[],w,?_,⟨rfl,CE _,Nat.zero_le _,λ_=>rfl,λb=>absurd b dE⟩,Own.nil _ _,DI _ _⟩;cases A with
  |none=>simp[MH.append_,run_underlying D,sizeOf,typeInfo,hi,MH.lenOf,MH.firstCells,storeCells]
  |some a =>
   have:=run_append_room_cells (P:=P) w t ty e i D hi g 0 0 0 a 0 c [] sI (λj T b=>by simp at b) (λT b=>by simp at b) (CE _) (λj b=>by simp at b) (λj b=>by simp at b)
   exact this
 obtain⟨W,ah,ak,rfl,_⟩:=h.2.2.2.2 u;have ag:(RH RD 0).cells.size=1:=rfl;obtain⟨aj,w',ad,O,ai⟩:=run_append_arg_grows (P:=P) w t ty e i (RH RD 0) 1 8 D hi af ae Z ag dE ⟨g,0,I⟩ 0 0 [] rfl (λj T b=>by simp at b) ⟨W,ah,I⟩ n c (xs.map (RH RD)) (by rw[List.length_map,h.1,Nat.mul_one]) (Sl.cellsInt h) oS (by unfold maxLen;omega) oS;rw[LJ,List.nil_append]at O;have E:Bw w w':=(DI _ w).grown ai (CE _) (by intro k aa;cases aa);obtain⟨A',H,c',bs',X,G,ac,_⟩:=A2r O h.1 (Sl.i64 h) E;have Y:aj=S A' H c':=by injection X
 subst Y;have ab:H=n:=by rw[<-G.1,h.1]
 subst ab;exact⟨A',c',bs',w',ad,G,ac,E⟩

theorem A6r {P:FQ} {w:AD} {b:Array CZ} {rest:List CZ} {o:CZ} {a:DC} {Q:Exit->DC->AD->Prop} (O:o.guard=I) (s x:Operand) (t:CV)
  (W:o.op=.call { callee:=.builtin .append,args:=#[s,x],argTypes:=#[t,t] }) (e:CV) (i:TypeInfo) (ab:P.underlying t=QZ (.slice e)) (hi:P.info? e=QZ i) (ad:i.zero=QZ (.int RD 0)) (Z:i.size=1) (H:i.bytes=8)
  (g:Nat) (Y:a.eval s=S (QZ ⟨g,0,I⟩) 0 0) (A:Option AJ) (n c:Nat) (xs:List Int) (bs:List Nat) (ac:a.eval x=S A n c) (aa:Sl w A n c xs bs) (T:n<=1048576)
  (h:∀ A' c' bs' w',Sl w' A' n c' xs bs'->Own w w' bs'->Bw w w'->GH P b Q rest (a.put o.dst (S A' n c')) w'):GH P b Q (o::rest) a w:=by
 obtain⟨A',c',bs',w',X,u,D,E⟩:=E0l (P:=P) (w:=w) t o.type e i ab hi ad Z H g A n c xs bs aa T;refine wpList_plain O λK G=>?_;unfold CZ.wp;simp[IY,W,resolve,invoke,builtin,Y,ac,X,Result.andThen];exact G _ _ (h A' c' bs' w' u D E)

section
variable {P:FQ} {l:List CZ} {a0:DC}
end
end Go.XB

namespace Go.XN

def val:List Int->Int
 | []=>0
 |x::xs=>x+1000000000*val xs

def pw (n:Nat):Int:=1000000000 ^ n
theorem B0q:pw 0=1:=by simp[pw]
theorem A1l (n:Nat):pw (n+1)=1000000000*pw n:=by unfold pw;rw[Int.pow_succ,MF]
theorem A5r (n:Nat):0<pw n:=by
 induction n with
 |zero=>rw[B0q];omega
 |succ n ih=>rw[A1l];omega
theorem B0f (m n:Nat):pw (m+n)=pw m*pw n:=by unfold pw;exact Int.pow_add ..
theorem A6t {m n:Nat} (h:m<=n):pw m<=pw n:=by
 induction n with
 | zero => have : m = 0 := by omega
           subst this;exact II _
 |succ n ih =>
  rcases CG n m with b|b
  ·have:m=n+1:=oS
   subst this;exact II _
  have u:=ih b;have D:=A5r n;rw[A1l];omega

def Lims (l:List Int):Prop:=∀ x∈l,0<=x/\x<1000000000
theorem Lims.nil:Lims []:=λ_ h=>by simp at h
theorem Lims.cons {x:Int} {l:List Int} (h0:0<=x) (h1:x<1000000000) (h:Lims l):Lims (x::l):=λy hy=>by
 rcases JH.1 hy with rfl|hy
 ·exact⟨h0,h1⟩
 exact h y hy
theorem Lims.tail {x:Int} {l:List Int} (h:Lims (x::l)):Lims l:=λy hy=>h y (KQ _ hy)
theorem Lims.head {x:Int} {l:List Int} (h:Lims (x::l)):0<=x/\x<1000000000:=h x (PS ..)
theorem Lims.append {a b:List Int} (ha:Lims a) (hb:Lims b):Lims (a++b):=λy hy=>by
 rcases DV.1 hy with hy|hy
 ·exact ha y hy
 exact hb y hy
theorem Lims.left {a b:List Int} (h:Lims (a++b)):Lims a:=λy hy=>h y (List.mem_append_left _ hy)
theorem Lims.take {l:List Int} (h:Lims l) (k:Nat):Lims (l.take k):=λy hy=>h y (List.mem_of_mem_take hy)
theorem Lims.drop {l:List Int} (h:Lims l) (k:Nat):Lims (l.drop k):=λy hy=>h y (List.mem_of_mem_drop hy)
theorem Lims.get {l:List Int} (h:Lims l) {k:Nat} {x:Int} (hx:l[k]?=QZ x):0<=x/\x<1000000000:=h x (List.mem_of_getElem? hx)
theorem Lims.one {x:Int} (h0:0<=x) (h1:x<1000000000):Lims [x]:=Lims.cons h0 h1 Lims.nil

theorem B7q (a b:List Int):val (a++b)=val a+pw a.length*val b:=by
 induction a with
 |nil=>simp[val,B0q]
 |cons x a ih=>rw[List.cons_append,val,ih,val,List.length_cons,A1l];grind
theorem A4s (a:List Int) (x:Int):val (a++[x])=val a+pw a.length*x:=by rw[B7q];simp[val]
theorem S_ {l:List Int} (h:Lims l):0<=val l:=by
 induction l with
 |nil=>simp[val]
 |cons x l ih=>have:=ih h.tail;have:=h.head;rw[val];omega
theorem A4j {l:List Int} (h:Lims l):val l<pw l.length:=by
 induction l with
 |nil=>simp[val,B0q]
 |cons x l ih=>have:=ih h.tail;have:=h.head;rw[val,List.length_cons,A1l];omega
theorem A9k (n:Nat):val (DK n 0)=0:=by
 induction n with
 |zero=>rfl
 |succ n ih=>rw[List.replicate_succ,val,ih];rfl
theorem Y_ {l:List Int} {k:Nat} {x:Int} (h:l[k]?=QZ x):val (l.take (k+1))=val (l.take k)+pw k*x:=by
 have b:=(DM.1 h).1;rw[Go.XB.take_step h,A4s,JO,OI oS]
theorem A4n {l:List Int} {k:Nat} {x:Int} (h:l[k]?=QZ x):val (l.drop k)=x+1000000000*val (l.drop (k+1)):=by
 obtain⟨b,rfl⟩:=DM.1 h;rw[MA b,val]
theorem B0x (l:List Int) (k:Nat) (b:k<=l.length):val l=val (l.take k)+pw k*val (l.drop k):=by
 have:=B7q (l.take k) (l.drop k);rwa [List.take_append_drop,JO,OI b]at this

def Can (l:List Int):Prop:=Lims l/\l.getLast?≠QZ 0
theorem Can.nil:Can []:=⟨Lims.nil,sI⟩

def C5x:Nat->Nat->List Int
 |0,_=>[]
 |f+1,n=>if n=0 then []else((n % 1000000000:Nat):Int)::C5x f (n / 1000000000)
def dig (n:Nat):List Int:=C5x n n

theorem C9w:∀ (f g n:Nat),n<=f->n<=g->C5x f n=C5x g n
 |0,0,_,_,_=>rfl
 | 0, g + 1, n, h, _ => by have : n = 0 := by omega
                           subst this; simp[C5x]
 | f + 1, 0, n, _, h => by have : n = 0 := by omega
                           subst this; simp[C5x]
 |f+1,g+1,n,hf,hg=>by
  unfold C5x
  split
  ·rfl
  rw[C9w f g (n / 1000000000) oS oS]

theorem E3d:dig 0=[]:=rfl
theorem B9g {n:Nat} (h:n≠0):dig n=((n % 1000000000:Nat):Int)::dig (n / 1000000000):=by
 unfold dig;cases n with
 |zero=>exact absurd rfl h
 |succ n =>
  conv=>lhs;unfold C5x
  rw[if_neg oS]
  rw[C9w n ((n+1) / 1000000000) _ oS oS]

theorem B5o (n:Nat):Lims (dig n)/\val (dig n)=n/\((dig n).getLast?≠QZ 0)/\(dig n=[]↔n=0):=by
 induction n using Nat.strongRecOn with
 |_ n ih =>
  by_cases b:n=0
  ·subst b;rw[E3d];exact⟨Lims.nil,rfl,sI,sI⟩
  ·rw[B9g b]
   obtain⟨E,G,H,h⟩:=ih (n / 1000000000) oS
   refine⟨Lims.cons oS oS E,by rw[val,G];omega,?_,by simp[b]⟩
   by_cases u:n / 1000000000=0
   ·rw[h.2 u]
    simp;omega
   ·cases D:dig (n / 1000000000)with
    |nil=>exact absurd (h.1 D) u
    |cons y ys=>rw[List.getLast?_cons_cons,<-D];exact H

theorem A0j (n:Nat):Can (dig n):=⟨(B5o n).1,(B5o n).2.2.1⟩
theorem A1j (n:Nat):val (dig n)=n:=(B5o n).2.1
theorem B1x {n:Nat}:dig n=[]↔n=0:=(B5o n).2.2.2

theorem Can.tail {x:Int} {l:List Int} (h:Can (x::l)):Can l:=by
 refine⟨h.1.tail,?_⟩;cases l with
 |nil=>simp
 |cons y l=>have:=h.2;rwa [List.getLast?_cons_cons]at this

theorem Can.eq_dig {l:List Int} (h:Can l):l=dig (val l).toNat:=by
 induction l with
 |nil=>rfl
 |cons x l ih =>
  have b:=ih h.tail
  have T:=h.1.head
  have O:=S_ h.1.tail
  have G:val (x::l)≠0:=by
   rw[val];intro e;have E:x=0:=oS;have D:val l=0:=oS;rw[D]at b;have u:l=[]:=by rw[b];rfl
   subst u;subst E;exact h.2 sI
  have H:0<=val (x::l):=S_ h.1
  rw[B9g oS]
  congr 1
  ·rw[val];omega
  conv=>lhs;rw[b]
  congr 1
  rw[val];omega

theorem Can.of_val {l:List Int} (h:Can l) {n:Nat} (b:val l=n):l=dig n:=by
 rw[h.eq_dig,b];simp
theorem Can.val_inj {a b:List Int} (u:Can a) (D:Can b) (h:val a=val b):a=b:=by
 rw[u.eq_dig,D.eq_dig,h]

theorem Can.len_le {l:List Int} (h:Can l) (b:l≠[]):pw (l.length - 1)<=val l:=by
 have u:l=l.take (l.length - 1)++[l.getLast b]:=by rw[<-List.dropLast_eq_take,QW]
 have H:=h.1 (l.getLast b) (List.getLast_mem b);have O:l.getLast b≠0:=λe=>h.2 (by rw[QV b,e]);have D:(l.take (l.length - 1)).length=l.length - 1:=by rw[JO];omega
 have T:val l=val (l.take (l.length - 1))+pw (l.length - 1)*l.getLast b:=by
  conv=>lhs;rw[u]
  rw[A4s,D]
 have G:=S_ (h.1.take (l.length - 1));have E:=A5r (l.length - 1);have:pw (l.length - 1)*1<=pw (l.length - 1)*l.getLast b:=JT oS (JJ E);omega
theorem Can.lt_of_len {a b:List Int} (u:Lims a) (D:Can b) (h:a.length<b.length):val a<val b:=by
 have E:=A4j u;have G:=D.len_le (by intro e;rw[e]at h;simp at h);have H:=A6t (by omega:a.length<=b.length - 1);omega
theorem Can.pos {l:List Int} (h:Can l) (b:l≠[]):0<val l:=by
 have:=h.len_le b;have:=A5r (l.length - 1);omega
def trim (l:List Int):List Int:=(l.reverse.dropWhile (·==0)).reverse
theorem B1k (l:List Int):trim (l++[0])=trim l:=by unfold trim;simp
theorem C0p {l:List Int} {x:Int} (h:x≠0):trim (l++[x])=l++[x]:=by unfold trim;simp[h]
theorem C1d (l:List Int):(∃ n,l=trim l++DK n 0)/\(trim l).getLast?≠QZ 0:=by
 induction h:l.length generalizing l with
 |zero =>
  have:l=[]:=IV h
  subst this
  exact⟨⟨0,rfl⟩,by simp[trim]⟩
 |succ n ih =>
  have u:l≠[]:=by intro e;subst e;simp at h
  have b:l=l.dropLast++[l.getLast u]:=(QW u).symm
  by_cases D:l.getLast u=0
  ·rw[D]at b
   obtain⟨⟨m,G⟩,E⟩:=ih l.dropLast (by rw[List.length_dropLast];omega)
   have e : trim l = trim l.dropLast := by conv => lhs; rw[b]
                                           exact B1k _
   refine⟨⟨m+1,?_⟩,by rw[e];exact E⟩
   rw[e,List.replicate_succ',<-GG,<-G]
   exact b
  have e : trim l = l := by conv => lhs; rw[b]
                            rw[C0p D]; exact b.symm
  refine⟨⟨0,by simp[e]⟩,?_⟩
  rw[e,QV u]
  simpa using D
theorem C5t (l:List Int):val (trim l)=val l:=by
 obtain⟨⟨n,h⟩,_⟩:=C1d l;conv=>rhs;rw[h]
 rw[B7q,A9k];simp
theorem Can.trim {l:List Int} (h:Lims l):Can (trim l):=by
 obtain⟨⟨n,e⟩,b⟩:=C1d l;exact⟨by rw[e]at h;exact h.left,b⟩
theorem A8i {l:List Int} (h:Lims l) {n:Nat} (hn:val l=n):trim l=dig n:=(Can.trim h).of_val (by rw[C5t,hn])
theorem Can.trim_eq {l:List Int} (h:Can l):XN.trim l=l:=(Can.trim h.1).val_inj h (C5t l)
theorem B3n (l:List Int):trim l=l.take (trim l).length:=by
 obtain⟨⟨n,e⟩,_⟩:=C1d l;conv=>rhs;arg 2;rw[e]
 simp

theorem B8r {a b:List Int} (h:Lims a) (u:Lims b) {k:Nat} {x y:Int} (E:a[k]?=QZ x) (Y:b[k]?=QZ y) (W:a.drop (k+1)=b.drop (k+1)) (ac:a.length=b.length) :
  (x<y->val a<val b)/\(y<x->val b<val a):=by
 have ab:=(DM.1 E).1;have G:=B0x a k oS;have H:=B0x b k oS;rw[A4n E]at G;rw[A4n Y,<-W]at H;have O:=A4j (h.take k);have Z:=S_ (h.take k);have T:=A4j (u.take k);have aa:=S_ (u.take k);rw[JO,OI oS]at O T;have D:=A5r k;constructor;·intro X;have:pw k*(x+1)<=pw k*y:=JT oS (JJ D);grind
 intro X;have:pw k*(y+1)<=pw k*x:=JT oS (JJ D);grind
theorem A4r {n k:Nat} (h:(n:Int)<pw k):(dig n).length<=k:=by
 rcases CG k (dig n).length with b|b
 ·have D:dig n≠[]:=by intro e;rw[e]at b;simp at b
  have u:=(A0j n).len_le D;rw[A1j]at u;have:=A6t (by omega:k<=(dig n).length - 1);omega
 exact b
theorem pw_vals:pw 1=1000000000/\pw 2=1000000000000000000/\pw 3=1000000000000000000000000000:=by
 refine⟨?_,?_,?_⟩<;>(unfold pw;rfl)
def sgn (n:Int):Int:=if n<0 then -1 else if 0<n then 1 else 0

end Go.XN

namespace Go.XN

theorem B6f {b:List Int} {k:Nat} (h:b.length=k) (s:Int):val (b++[s % 1000000000])+pw (k+1)*(s / 1000000000)=val b+pw k*s:=by
 rw[A4s,h,A1l];have:s=1000000000*(s / 1000000000)+s % 1000000000:=oS;generalize s / 1000000000=q at *;generalize s % 1000000000=r at *;subst this;grind

theorem Can.of_len {l:List Int} (h:Lims l) (O:l≠[]->pw (l.length - 1)<=val l):Can l:=by
 refine⟨h,λe=>?_⟩;have b:l≠[]:=by intro E;subst E;simp at e
 have u:=O b;have D:l=l.take (l.length - 1)++[0]:=by
  conv=>lhs;rw[<-QW b]
  rw[List.dropLast_eq_take];rw[QV b]at e;rw[IJ e]
 have G:=A4j (h.take (l.length - 1));rw[JO]at G;rw[D,A4s]at u;have T:=A6t (by omega:min (l.length - 1) l.length<=l.length - 1);have H:(List.take (l.length - 1) l++[(0:Int)]).length - 1=l.length - 1:=by rw[<-D]
 rw[H]at u;omega

theorem Lims.snoc {l:List Int} {x:Int} (h:Lims l) (h0:0<=x) (h1:x<1000000000):Lims (l++[x]):=h.append (Lims.one h0 h1)
theorem Can.snoc {l:List Int} {x:Int} (h:Lims l) (h0:0<x) (h1:x<1000000000):Can (l++[x]):=⟨h.snoc oS h1,oR⟩

theorem D9p {xs b:List Int} {c V:Int} (G:Can xs) (E:Lims b) (u:b.length=xs.length) (h:val b+pw xs.length*c=val xs+V) (X:0<=V) (W:0<=c) (H:c<1000000000) :
  (if 0<c then b++[c]else b)=dig (val xs+V).toNat:=by
 have Y:=S_ G.1;split;·rename_i D;refine(Can.snoc E D H).of_val ?_;rw[A4s,u,h];omega
 rename_i D;have:c=0:=oS;subst this;rw[Int.mul_zero,Int.add_zero]at h;refine(Can.of_len E λO=>?_).of_val (by rw[h];omega);have T:xs≠[]:=by intro e;apply O;apply IV;rw[u,e];rfl
 have:=G.len_le T;rw[u,h];omega
end Go.XN

namespace Go.XN
open Go.XB

theorem B3w {l:List Int} {j:Nat} {x:Int} (h:l[j]?=QZ x) (u:Int):val (l.set j u)=val l+pw j*(u - x):=by
 induction l generalizing j with
 |nil=>simp at h
 |cons a l ih =>
  cases j with
  |zero =>
   simp at h
   subst h
   rw[List.set_cons_zero,val,val,B0q];omega
  |succ j =>
   rw[List.set_cons_succ,val,val,ih (by simpa using h),A1l]
   grind
theorem Lims.set {l:List Int} (h:Lims l) (j:Nat) {u:Int} (h0:0<=u) (h1:u<1000000000):Lims (l.set j u):=λy hy=>by
 rcases List.mem_or_eq_of_mem_set hy with hy|rfl
 ·exact h y hy
 exact⟨h0,h1⟩
theorem Lims.zeros (n:Nat):Lims (DK n 0):=λy hy=>by rw[List.eq_of_mem_replicate hy];omega
theorem Lims.num {l:List Int} (h:Lims l) {j:Nat} (hj:j<l.length):∃ x,l[j]?=QZ x/\0<=x/\x<1000000000 :=
 ⟨_,DU hj,h _ (List.getElem_mem hj)⟩
theorem C0c {x y:Int} (h:0<=x) (D:x<1000000000) (b:0<=y) (E:y<1000000000):0<=x*y/\x*y<=999999998000000001:=by
 refine⟨IQ h b,?_⟩;have u:x*y<=999999999*y:=LZ oS b;omega

theorem B3g {l:List Int} {j:Nat} {x:Int} (h:l[j]?=QZ x) {t:Int} {V c:Int} (b:val l+pw j*c=V):val (l.set j (t % 1000000000))+pw (j+1)*(t / 1000000000)=V+pw j*(t - x - c):=by
 rw[B3w h,A1l];have:t=1000000000*(t / 1000000000)+t % 1000000000:=oS;generalize t / 1000000000=q at *;generalize t % 1000000000=r at *;subst this;grind
end Go.XN
namespace Go.XB
theorem A8c (n:Nat):(madeCells (RH RD 0).cells (n*1)).toList=(DK n (0:Int)).map (RH RD):=by
 rw[List.map_replicate];refine List.eq_replicate_iff.2 ⟨by simp[size_madeCells],λh b=>?_⟩;simp only[madeCells,Array.toList_map,JX]at b;obtain⟨a,_,rfl⟩:=b;have:(RH RD 0).cells=#[RH RD 0]:=rfl;rw[this];simp[Nat.mod_one]
end Go.XB

namespace Go.XN
open Go.XB

theorem D9u {r x d:Int} (hd:0<d) (hr0:0<=r) (hr:r<d) (hx0:0<=x) (hx:x<1000000000) :
  0<=(r*1000000000+x) / d/\(r*1000000000+x) / d<1000000000/\0<=(r*1000000000+x) % d/\(r*1000000000+x) % d<d :=
 ⟨MV oS oS,Int.ediv_lt_of_lt_mul hd oS,Int.emod_nonneg _ oS,Int.emod_lt_of_pos _ hd⟩

theorem C5v {l:List Int} {j:Nat} (b:j<l.length) (u:Int):(l.set j u).drop j=u::l.drop (j+1):=by
 rw[MA (by simpa using b),List.drop_set_of_lt oS];simp
theorem D4g {l xs:List Int} {j:Nat} {x r d:Int} (b:j<l.length) (u:xs[j]?=QZ x) (h:val (l.drop (j+1))*d+r=val (xs.drop (j+1))) :
  val ((l.set j ((r*1000000000+x) / d)).drop j)*d+(r*1000000000+x) % d=val (xs.drop j):=by
 rw[C5v b,val,A4n u,<-h];have:=Int.mul_ediv_add_emod (r*1000000000+x) d;generalize (r*1000000000+x) / d=q at *;generalize (r*1000000000+x) % d=s at *;grind
theorem D2a {a q r d:Int} (D:0<d) (h:q*d+r=a) (b:0<=r) (u:r<d):a / d=q/\a % d=r:=by
 refine(Int.ediv_emod_unique D).2 ⟨?_,b,u⟩;rw[MF];omega
end Go.XN

namespace Go.XN
open Go.XB

section
variable {U V P F top u0 v1 v2 q rest m1 m2 l1 l2:Int}

theorem E0k (b:0<P) (T:0<F) (W:U=l1+P*(1000000000*F)*top) (X:l1<P*(1000000000*F)) (h:V=m1+1000000000*F*v1) (hm1:0<=m1) (_hv1:0<v1)
  (Z:0<=q) (Y:top<(q+1)*v1):U<(q+1)*(V*P):=by
 have O:0<P*(1000000000*F):=GW b oS;generalize u:P*(1000000000*F)=C at *;have D:C*(top+1)<=C*((q+1)*v1):=JT oS oS;have E:0<=(q+1)*(m1*P):=IQ oS (IQ hm1 oS);have G:(q+1)*(V*P)=(q+1)*(m1*P)+C*((q+1)*v1):=by rw[h,<-u];grind
 have H:C*(top+1)=C*top+C:=by grind
 omega

theorem E4m (h:0<P) (b:0<F) (X:U=l2+P*F*(u0+1000000000*top)) (Y:l2<P*F) (u:V=m2+F*(v2+1000000000*v1)) (hm2:0<=m2)
  (E:0<=q) (Z:rest=top - q*v1) (aa:rest*1000000000+u0<q*v2):U<q*(V*P):=by
 have W:0<P*F:=GW h b;generalize D:P*F=C at *;have G:C*(u0+1000000000*top+1)<=C*(q*v2+1000000000*(q*v1)):=JT oS oS;have H:0<=q*(m2*P):=IQ E (IQ hm2 oS);have O:q*(V*P)=q*(m2*P)+C*(q*v2+1000000000*(q*v1)):=by rw[u,<-D];grind
 have T:C*(u0+1000000000*top+1)=C*(u0+1000000000*top)+C:=by grind
 omega

theorem E3m (h:0<P) (W:0<F) (ae:U=l1+P*(1000000000*F)*top) (ah:0<=l1) (af:U=l2+P*F*(u0+1000000000*top)) (ai:0<=l2)
  (u:V=m1+1000000000*F*v1) (hm0:0<=m1) (hm1:m1<1000000000*F) (X:V=m2+F*(v2+1000000000*v1)) (hm2:m2<F) (Y:0<v1)
  (D:0<=q) (aj:q<1000000000) (ak:rest=top - q*v1) (b:1000000000<=rest\/q*v2<=rest*1000000000+u0):(q - 1)*(V*P)<=U:=by
 have ag:0<=V*P:=IQ (by rw[u];have:=IQ (by omega:(0:Int)<=1000000000*F) (JJ Y);omega) oS;rcases b with b|b
 ·have T:0<P*(1000000000*F):=GW h oS
  have E:q*(m1*P)<=q*(1000000000*F*P):=JT (LZ oS oS) D;have G:P*(1000000000*F)*(q+q*v1)<=P*(1000000000*F)*top:=JT oS oS;have H:q*(V*P)=q*(m1*P)+P*(1000000000*F)*(q*v1):=by rw[u];grind
  have Z:P*(1000000000*F)*(q+q*v1)=q*(1000000000*F*P)+P*(1000000000*F)*(q*v1):=by grind
  have O:(q - 1)*(V*P)=q*(V*P) - V*P:=by grind
  omega
 have T:0<P*F:=GW h W;have E:q*(m2*P)<=q*(F*P):=JT (LZ oS oS) D;have G:P*F*(q*v2+1000000000*(q*v1))<=P*F*(u0+1000000000*top):=JT oS oS;have H:q*(V*P)=q*(m2*P)+P*F*(q*v2+1000000000*(q*v1)):=by rw[X];grind
 have aa:q*(F*P)<=1000000000*(F*P):=LZ oS (by rw[MF];omega);have ab:1000000000*F*1<=1000000000*F*v1:=JT oS oS;have ac:1000000000*F*P<=V*P:=LZ oS oS;have ad:1000000000*(F*P)=1000000000*F*P:=by grind
 have O:(q - 1)*(V*P)=q*(V*P) - V*P:=by grind
 omega
end
end Go.XN

namespace Go.XN
open Go.XB

theorem B0e {l:List Int} (h:Lims l) {i:Nat} (hi:i<=l.length) (H:val l<pw i):val (l.drop i)=0:=by
 have u:=B0x l i hi;have D:=S_ (h.drop i);have E:=S_ (h.take i);have G:=A5r i;rcases FH 0 (val (l.drop i))with b|b
 ·have:pw i*1<=pw i*val (l.drop i):=JT oS oS;omega
 omega
theorem E9e {l:List Int} (h:Lims l) {i:Nat} {x y:Int} (E:l[i]?=QZ x) (u:l[i+1]?=QZ y) (D:val l<pw (i+2)):val l=val (l.take i)+pw i*(x+1000000000*y):=by
 have G:=(DM.1 u).1;have b:=B0x l (i+2) oS;rw[B0e h oS D,Y_ u,Y_ E,A1l]at b;rw[b];grind
theorem F2d {l:List Int} (h:Lims l) {i:Nat} {z x y:Int} (E:l[i]?=QZ z) (u:l[i+1]?=QZ x) (D:l[i+2]?=QZ y) (b:val l<pw (i+3)):val l=val (l.take i)+pw i*(z+1000000000*(x+1000000000*y)):=by
 rw[E9e h u D b,Y_ E,A1l];grind
theorem B3y {l:List Int} (h:Lims l) (i:Nat) (hi:i<=l.length):0<=val (l.take i)/\val (l.take i)<pw i:=by
 refine⟨S_ (h.take i),?_⟩;have:=A4j (h.take i);rwa [JO,OI hi]at this
theorem C6i {l b:List Int} (h:Lims l) (u:Lims b) {i:Nat} (hi:i<=l.length) (H:b.length=l.length) (G:∀ k,i<=k->b[k]?=l[k]?) (E:val l<pw i):val b<pw i:=by
 have e:b.drop i=l.drop i:=by apply List.ext_getElem?;intro k;rw[OJ,OJ,G _ oS]
 have D:=B0x b i oS;rw[e,B0e h hi E]at D;have:=(B3y u i oS).2;omega
theorem E0q {X b r:Int} {hi:Nat} (E:0<=r/\r<=1) (h:b=X+pw hi - pw hi*r) (u:0<=X) (D:b<pw hi):b=X:=by
 rcases(by omega:r=0\/r=1)with rfl|rfl;·omega
 omega
theorem E2w {ys:List Int} (h:Can ys) {m:Nat} {t:Int} (G:ys.length=m+1) (D:ys[m]?=QZ t) :
  0<1000000000 / (t+1)/\1000000000 / (t+1)<1000000000/\val ys*(1000000000 / (t+1))<pw (m+1)/\0<t/\t<1000000000:=by
 have W:=h.1.get D;have T:0<t:=by
  have ac:ys≠[]:=by intro e;subst e;simp at G
  have u:=h.2;rw[List.getLast?_eq_getElem?,G,Nat.add_sub_cancel,D]at u;have:t≠0:=λe=>u (by rw[e]);omega
 have X:1<=1000000000 / (t+1):=Int.le_ediv_of_mul_le oS oS;have u:0<1000000000 / (t+1):=oS;have H:1000000000 / (t+1)*(t+1)<=1000000000:=Int.ediv_mul_le _ oS;have O:1000000000 / (t+1)<1000000000:=Int.ediv_lt_of_lt_mul oS oS;refine⟨u,O,?_,T,W.2⟩;generalize 1000000000 / (t+1)=b at *;have E:=Y_ D;rw[DT oS]at E;have Y:=(B3y h.1 m oS).2;have Z:val ys*b<pw m*(t+1)*b:=Int.mul_lt_mul_of_pos_right (by rw[E];grind) u;have aa:pw m*(b*(t+1))<=pw m*1000000000:=JT H (JJ (A5r m));rw[A1l];have ab:pw m*(t+1)*b=pw m*(b*(t+1)):=by grind
 omega
end Go.XN

namespace Go.XN
open Go.XB

structure Dig3 (zs vs:List Int) (j p:Nat) (u0 top v1 v2:Int):Prop where
 lz:Lims zs
 lv:Lims vs
 z:∃ u1 u2,zs[j+p]?=QZ u0/\zs[j+p+1]?=QZ u1/\zs[j+p+2]?=QZ u2/\u2*1000000000+u1=top
 w2:vs[p]?=QZ v2
 w1:vs[p+1]?=QZ v1
 vl:vs.length=p+2
 v1p:0<v1
 up:val zs<val vs*pw (j+1)

section
variable {zs vs:List Int} {j p:Nat} {u0 top v1 v2:Int}

theorem Dig3.lt (h:Dig3 zs vs j p u0 top v1 v2):val zs<pw (j+p+3):=by
 have D:=h.up;have b:val vs<pw (p+2):=by have:=A4j h.lv;rwa [h.vl]at this
 have u:val vs*pw (j+1)<pw (p+2)*pw (j+1):=Int.mul_lt_mul_of_pos_right b (A5r _);rw[<-B0f,show p+2+(j+1)=j+p+3 by omega]at u;omega
theorem Dig3.zl (h:Dig3 zs vs j p u0 top v1 v2):j+p+2<zs.length:=by
 obtain⟨u1,u2,_,_,b,_⟩:=h.z;exact(DM.1 b).1
theorem Dig3.eu1 (h:Dig3 zs vs j p u0 top v1 v2):val zs=val (zs.take (j+p+1))+pw j*(1000000000*pw p)*top/\0<=val (zs.take (j+p+1))/\val (zs.take (j+p+1))<pw j*(1000000000*pw p):=by
 obtain⟨u1,u2,E,u,D,e⟩:=h.z;have G:=h.zl;have b:=B3y h.lz (j+p+1) oS;rw[A1l,B0f]at b;refine⟨?_,b.1,by have:=b.2;grind⟩;rw[<-e,E9e h.lz u D h.lt,A1l,B0f];grind
theorem Dig3.eu2 (h:Dig3 zs vs j p u0 top v1 v2):val zs=val (zs.take (j+p))+pw j*pw p*(u0+1000000000*top)/\0<=val (zs.take (j+p))/\val (zs.take (j+p))<pw j*pw p:=by
 obtain⟨u1,u2,u,D,E,e⟩:=h.z;have G:=h.zl;have b:=B3y h.lz (j+p) oS;rw[B0f]at b;refine⟨?_,b.1,b.2⟩;rw[<-e,F2d h.lz u D E h.lt,B0f];grind
theorem Dig3.ev1 (h:Dig3 zs vs j p u0 top v1 v2):val vs=val (vs.take (p+1))+1000000000*pw p*v1/\0<=val (vs.take (p+1))/\val (vs.take (p+1))<1000000000*pw p:=by
 have b:=Y_ h.w1;rw[DT (IW h.vl),A1l]at b;have u:=B3y h.lv (p+1) (by rw[h.vl];omega);rw[A1l]at u;exact⟨b,u⟩
theorem Dig3.ev2 (h:Dig3 zs vs j p u0 top v1 v2):val vs=val (vs.take p)+pw p*(v2+1000000000*v1)/\0<=val (vs.take p)/\val (vs.take p)<pw p:=by
 refine⟨?_,B3y h.lv p (by rw[h.vl];omega)⟩;rw[h.ev1.1,Y_ h.w2];grind
theorem Dig3.top_lim (h:Dig3 zs vs j p u0 top v1 v2):0<=top/\top<=999999999999999999:=by
 obtain⟨u1,u2,D,b,u,e⟩:=h.z;have:=h.lz.get b;have:=h.lz.get u;omega
theorem Dig3.start (h:Dig3 zs vs j p u0 top v1 v2) {q:Int} (b:(q=top / v1/\top / v1<999999999)\/(q=999999999/\999999999<=top / v1)) :
  (0<=q/\q<=999999999)/\(0<=q*v1/\q*v1<=top)/\val zs<(q+1)*(val vs*pw j):=by
 have D:=h.v1p;have E:=Int.ediv_mul_le top (by omega:v1≠0);have u:=MV h.top_lim.1 (by omega:0<=v1);rcases b with⟨rfl,b⟩|⟨rfl,b⟩
 ·refine⟨⟨u,oS⟩,⟨IQ u oS,E⟩,?_⟩;exact E0k (A5r j) (A5r p) h.eu1.1 h.eu1.2.2 h.ev1.1 h.ev1.2.1 D u (Int.lt_ediv_add_one_mul_self top D)
 have G:999999999*v1<=top / v1*v1:=LZ b oS;refine⟨oS,⟨oS,oS⟩,?_⟩;have:=h.up;rw[A1l]at this;grind
theorem Dig3.step (h:Dig3 zs vs j p u0 top v1 v2) {q rest:Int} (u:0<=q) (b:rest=top - q*v1) (D:rest*1000000000+u0<q*v2):rest+v1=top - (q - 1)*v1/\val zs<(q - 1+1)*(val vs*pw j):=by
 refine⟨by rw[b];grind,?_⟩;rw[show q - 1+1=q by omega];exact E4m (A5r j) (A5r p) h.eu2.1 h.eu2.2.2 h.ev2.1 h.ev2.2.1 u b D
theorem Dig3.last (h:Dig3 zs vs j p u0 top v1 v2) {q rest:Int} (hq0:0<=q) (hq1:q<=999999999) (hr:rest=top - q*v1) (ht:1000000000<=rest\/q*v2<=rest*1000000000+u0):(q - 1)*(val vs*pw j)<=val zs :=
 E3m (A5r j) (A5r p) h.eu1.1 h.eu1.2.1 h.eu2.1 h.eu2.2.1 h.ev1.1 h.ev1.2.1 h.ev1.2.2 h.ev2.1 h.ev2.2.2 h.v1p hq0 oS hr ht
theorem Dig3.done0 (_h:Dig3 zs vs j p u0 top v1 v2) {q:Int} {b:List Int} (D:val zs<(q+1)*(val vs*pw j)) (h:Lims b) (u:val b=val zs - pw j*(q*val vs)+pw (j+(p+2)+1)*0):val b=val zs - val vs*(pw j*q)/\0<=val b/\val b<val vs*pw j:=by
 have:=S_ h;refine⟨by rw[u];grind,this,?_⟩;have e:val b=val zs - pw j*(q*val vs):=oS;rw[e];have:(q+1)*(val vs*pw j)=pw j*(q*val vs)+val vs*pw j:=by grind
 omega
theorem Dig3.done1 (h:Dig3 zs vs j p u0 top v1 v2) {q D:Int} {u b:List Int} (ae:(q - 1)*(val vs*pw j)<=val zs) (G:Lims u) (aa:val u=val zs - pw j*(q*val vs)+pw (j+(p+2)+1)*1) (W:u.length=zs.length) (Y:∀ k,j+(p+2)+1<=k->u[k]?=zs[k]?)
  (H:Lims b) (T:0<=D/\D<=1) (ab:val b=val u+pw j*val vs - pw (j+(p+2)+1)*D) (X:b.length=u.length) (Z:∀ k,j+(p+2)+1<=k->b[k]?=u[k]?) :
  val b=val zs - val vs*(pw j*(q - 1))/\0<=val b/\val b<val vs*pw j:=by
 have af:=h.zl;have E:=h.lt;rw[show j+p+3=j+(p+2)+1 by omega]at E;have b1:=C6i h.lz G (i:=j+(p+2)+1) oS W Y E;have b2:=C6i G H (i:=j+(p+2)+1) oS X Z b1;have n2:=S_ H;have ad:(q - 1)*(val vs*pw j)=pw j*(q*val vs) - val vs*pw j:=by grind
 have O:pw j*val vs=val vs*pw j:=MF _ _;have ac:val b=val zs - pw j*(q*val vs)+val vs*pw j:=E0q (hi:=j+(p+2)+1) T (by rw[ab,aa,O,Int.mul_one];omega) oS b2;refine⟨by rw[ac];grind,n2,?_⟩;omega
theorem E0h {b:List Int} {X V q z u:Int} {j:Nat} (E:j<b.length) (h:z=X - V*(pw (j+1)*val (b.drop (j+1)))) (D:u=z - V*(pw j*q)):u=X - V*(pw j*val ((b.set j q).drop j)):=by
 rw[D,h,C5v E,val,A1l];grind
end
theorem E6v {ys vs:List Int} {p:Nat} {f v1:Int} (D:Can ys) (b:ys.length=p+2) (E:Lims vs) (O:vs.length=p+2) (Z:val vs=val ys*f) (Y:0<f) (u:vs[p+1]?=QZ v1):0<v1:=by
 have G:=D.len_le (by intro e;rw[e]at b;simp at b);rw[b,show p+2 - 1=p+1 from rfl]at G;have T:val ys*1<=val ys*f:=JT oS (S_ D.1);have H:=Y_ u;rw[DT (IW O)]at H;have W:=(B3y E (p+1) oS).2;have X:=(E.get u).1;rcases FH 0 v1 with h|h
 ·exact h
 have:v1=0:=oS;subst this;omega
end Go.XN

namespace Go.XN
open Go.XB

def A3m (a:List Int):Bool:=BQ (a.length<=60)&&(a.all (λx=>BQ (0<=x/\x<1000000000))&&BQ (a.getLast?≠QZ 0))
theorem natOkB_iff {a:List Int}:A3m a=AF↔a.length<=60/\Can a:=by
 unfold A3m Can Lims;simp[CU]
def A2j (x:TBigInt):Bool:=A3m x.mag&&(!x.neg || !x.mag.isEmpty)
def A0q (x:TBigInt):Int:=if x.neg then -val x.mag else val x.mag
def A0f (n:Int):TBigInt:=⟨BQ (n<0),dig n.natAbs⟩

theorem Can.dig_natAbs {l:List Int} (h:Can l):dig (val l).natAbs=l:=by
 have e:(val l).natAbs=(val l).toNat:=by have:=S_ h.1;omega
 rw[e];exact h.eq_dig.symm
theorem D5q {x:TBigInt}:(A0q x).natAbs=(val x.mag).natAbs:=by unfold A0q;split<;>simp
theorem C5a {neg:Bool} {mag:List Int} {v:Int} (b:Can mag) (h:v=if neg then -val mag else val mag):(⟨neg&&!mag.isEmpty,mag⟩:TBigInt)=A0f v:=by
 have u:=S_ b.1;unfold A0f;have e:dig v.natAbs=mag:=by
  rw[h];cases neg;·exact b.dig_natAbs
  simpa using b.dig_natAbs
 rw[e];congr 1;cases mag with
 |nil=>subst h;cases neg<;>simp[val]
 |cons a l =>
  have D:=b.pos sI
  cases neg
  ·subst h;simp;omega
  subst h;simp;omega
theorem A5m (n:Int):A0q (A0f n)=n:=by
 unfold A0q A0f;simp only[decide_eq_true_eq,A1j];split<;>omega
theorem A7g (n:Int):Can (A0f n).mag:=A0j _
theorem bigOkB_iff {x:TBigInt}:A2j x=AF↔(x.mag.length<=60/\Can x.mag)/\(x.neg=AF->x.mag≠[]):=by
 unfold A2j;rw[DJ,natOkB_iff];cases x.neg<;>simp
theorem D6d {x:TBigInt} (h:A2j x=AF):A0f (A0q x)=x:=by
 obtain⟨⟨_,b⟩,u⟩:=bigOkB_iff.1 h;have:=C5a (neg:=x.neg) b (v:=A0q x) rfl;rw[<-this];cases x with
 |mk neg mag =>
  simp only at u ⊢
  congr 1
  cases neg<;>simp_all

theorem len_le_iff {n k:Nat}:(dig n).length<=k↔(n:Int)<pw k:=by
 refine⟨λb=>?_,A4r⟩;have h:=A4j (B5o n).1;rw[A1j]at h;have:=A6t b;omega

def J_ (r:TRat):Bool:=A2j r.1&&(A3m r.2&&(!r.den.isEmpty&&(BQ (r.1.2.length<=24)&&(BQ (r.2.length<=24)&&BQ (CQ (val r.1.2) (val r.2)=1)))))
def A0h:TRat:=⟨⟨AH,[]⟩,[]⟩
theorem D2b:J_ A0h=AH:=dE
structure RatV (r:TRat):Prop where
 num:A2j r.1=AF
 den:Can r.2
 den0:0<val r.2
 num24:r.1.2.length<=24
 den24:r.2.length<=24
 one:CQ (val r.1.2) (val r.2)=1
theorem ratOkB_iff {r:TRat}:J_ r=AF↔RatV r:=by
 unfold J_;simp only[DJ,decide_eq_true_eq,natOkB_iff,Bool.not_eq_true',List.isEmpty_eq_false_iff];constructor;·rintro⟨u,⟨_,b⟩,h,D,E,G⟩;exact⟨u,b,b.pos h,D,E,G⟩
 rintro⟨u,b,h,D,E,G⟩;exact⟨u,⟨oS,b⟩,by intro e;rw[e]at h;simp[val]at h,D,E,G⟩
theorem RatV.mag {r:TRat} (h:RatV r):Can r.1.2:=(bigOkB_iff.1 h.1).1.2

def mkR (n d:Int):TRat :=
 if (dig (n / CQ n d).natAbs).length<=24/\(dig (d / CQ n d).natAbs).length<=24 then⟨A0f (n / CQ n d),dig (d / CQ n d).natAbs⟩else A0h
def R_ (r:TRat):Int:=A0q r.1
def T_ (r:TRat):Int:=val r.2

def A0k (r s:TRat):TRat:=if J_ r&&J_ s then mkR (R_ r*T_ s+R_ s*T_ r) (T_ r*T_ s)else A0h
def A3t (r s:TRat):TRat:=if J_ r&&J_ s then mkR (R_ r*T_ s - R_ s*T_ r) (T_ r*T_ s)else A0h
def A0d (r s:TRat):TRat:=if J_ r&&J_ s then mkR (R_ r*R_ s) (T_ r*T_ s)else A0h
def C3m (r:TRat):TRat:=if J_ r then⟨A0f (-R_ r),r.2⟩else A0h
def A6u (r s:TRat):Int:=sgn (R_ r*T_ s - R_ s*T_ r)
def D2m (r s:TRat):Int:=if J_ r&&J_ s then A6u r s else 0
def A2v (r:TRat):Int:=sgn (R_ r)
def A9m (r:TRat):Int:=if J_ r then A2v r else 0
def U_ (n:Int):TRat:=⟨A0f n,[1]⟩
end Go.XN

namespace Go.XB
open Go.RowKit Go.Proofs.YtjcanieccnljfaaGreat.X
theorem bx {w:AD} {g:Nat} {b:Array AU} {t:CV} (h:w.1[g]?=QZ (BG b t)):(∀ j,w.cell? ⟨g,j,I⟩=b[j]?)/\(∀ j,w.frozen? ⟨g,j,I⟩=AH)/\g<w.1.size:=by
 refine⟨λj=>?_,λj=>by simp[World.frozen?,h],E_ h⟩;cases u:b[j]? with
 |some v=>exact(B_ h u).1
 |none=>simp[AD.cell?,h,u]
theorem A0z {w w':AD} {b:Nat} {o:Obj} (h:w.1[b]?=QZ o) (hb:Bw w w'):w'.1[b]?=QZ o:=(hb.block b (E_ h)).trans h
theorem B9q {w:AD} {b j:Nat} {cs:Array AU} {t:CV} {v:AU} (h:w.1[b]?=QZ (BG cs t)):(w.setCell ⟨b,j,I⟩ v).1[b]?=QZ (BG (cs.setIfInBounds j v) t):=by
 have u:=E_ h;have D:w.1[b]=BG cs t (0,0):=by simpa[PF u]using h
 show(w.1.modify b _)[b]?=_;rw[Array.getElem?_modify,if_pos rfl,PF u,D];rfl
theorem A5y {X w:AD} {g i:Nat} {v0:AU} (h:X.grownBy w (QZ g)):X.grownBy (w.setCell ⟨g,i,I⟩ v0) (QZ g) :=
 ⟨h.os,h.tape,h.output,by simpa using h.size,λk hk hne=>(Below.heap_setCell _ _ _ k (by intro e;exact hne (by rw[e]))).trans (h.block k hk hne)⟩
theorem B3a (w:AD) (r:Option Nat):w.grownBy w r:=⟨rfl,rfl,rfl,CE _,λ_ _ _=>rfl⟩
structure New1 (y W:AD) (o:Obj):Prop where
 b:Bw y W
 k:W.1[y.1.size]?=QZ o
theorem New1.mk' (y:AD) (o:Obj):New1 y (y.alloc o) o:=⟨BP _,DB y _⟩
structure New2 (y W:AD) (o q:Obj):Prop where
 b:Bw y W
 k:W.1[y.1.size]?=QZ o
 l:W.1[y.1.size+1]?=QZ q
theorem New2.mk' (y:AD) (o q:Obj):New2 y ((y.alloc o).alloc q) o q:=⟨(BP _).alloc sI _,A0z (DB y _) (BP _),by have:=DB (y.alloc o) q;rwa [FU]at this⟩
structure New3 (y W:AD) (o q m:Obj):Prop where
 b:Bw y W
 k:W.1[y.1.size]?=QZ o
 l:W.1[y.1.size+1]?=QZ q
 m:W.1[y.1.size+1+1]?=QZ m
theorem New3.mk' (y:AD) (o q m:Obj):New3 y (((y.alloc o).alloc q).alloc m) o q m :=
 have h:=New2.mk' y o q
 ⟨h.b.alloc oR _,A0z h.k (BP _),A0z h.l (BP _),by have:=DB ((y.alloc o).alloc q) m;rwa [FU,FU]at this⟩
structure New4 (y W:AD) (o q m n:Obj):Prop where
 b:Bw y W
 k:W.1[y.1.size]?=QZ o
 l:W.1[y.1.size+1]?=QZ q
 m:W.1[y.1.size+1+1]?=QZ m
 n:W.1[y.1.size+1+1+1]?=QZ n
theorem New4.mk' (y:AD) (o q m n:Obj):New4 y ((((y.alloc o).alloc q).alloc m).alloc n) o q m n :=
 have h:=New3.mk' y o q m
 ⟨h.b.alloc oR _,A0z h.k (BP _),A0z h.l (BP _),A0z h.m (BP _),by have:=DB (((y.alloc o).alloc q).alloc m) n;rwa [FU,FU,FU]at this⟩
structure New5 (y W:AD) (o q m n p:Obj):Prop where
 b:Bw y W
 k0:W.1[y.1.size]?=QZ o
 k1:W.1[y.1.size+1]?=QZ q
 k2:W.1[y.1.size+2]?=QZ m
 k3:W.1[y.1.size+3]?=QZ n
 k4:W.1[y.1.size+4]?=QZ p
 z:W.1.size=y.1.size+5
theorem New5.mk' (y:AD) (o q m n p:Obj):New5 y (((((y.alloc o).alloc q).alloc m).alloc n).alloc p) o q m n p :=
 have h:=New4.mk' y o q m n
 have z:((((y.alloc o).alloc q).alloc m).alloc n).1.size=y.1.size+4:=sI
 ⟨h.b.alloc (by rw[z];omega) _,A0z h.k (BP _),A0z h.l (BP _),A0z h.m (BP _),A0z h.n (BP _),by have:=DB ((((y.alloc o).alloc q).alloc m).alloc n) p;rwa [z]at this,sI⟩
theorem bxL {w:AD} {g:Nat} {L:List AU} {t:CV} (h:w.1[g]?=QZ (BG L.toArray t)):(∀ j,w.cell? ⟨g,j,I⟩=L[j]?)/\g<w.1.size:=⟨λj=>by rw[(bx h).1 j];simp,E_ h⟩
theorem sl2 {W:AD} {g:Nat} {r s:TRat} {b1 b2:List Nat} {u0 u1 u2 u3 u4 u5:AU} {t:CV} (K:W.1[g]?=QZ (BG #[u0,u1,u2,u3,u4,u5] t)) (h1:Agg W (BJ #[u0,u1,u2]) r b1) (h2:Agg W (BJ #[u3,u4,u5]) s b2):Sl W (QZ ⟨g,0,I⟩) 2 2 [r,s] (g::(b1++b2)) :=
 B5x h1 h2 (E_ K) ((bx K).1 0) ((bx K).1 1) ((bx K).1 2) ((bx K).1 3) ((bx K).1 4) ((bx K).1 5)
structure Sets (y W:AD) (g:Nat) (arr:Array AU) (t:CV):Prop where
 gr:y.grownBy W (QZ g)
 k:W.1[g]?=QZ (BG arr t)
theorem Sets.low {L g:Nat} {w y W:AD} {arr:Array AU} {t:CV} (h:Sets y W g arr t) (hb:Below L w y) (hl:L<=y.1.size) (hg:L<=g):Below L w W:=hb.grown h.gr hl (λx hx=>by injection hx with hx;omega)
theorem E1s {w w1 w2:AD} {r:Option Nat} (h:w.grownBy w1 r) (hb:Bw w1 w2):w.grownBy w2 r :=
 ⟨hb.os.trans h.os,hb.tape.trans h.tape,hb.output.trans h.output,CJ h.size hb.size,λk hk hne=>(hb.block k (JC hk h.size)).trans (h.block k hk hne)⟩
theorem gtr {w w1 w2:AD} {r:Option Nat} (h:w.grownBy w1 r) (h2:w1.grownBy w2 r):w.grownBy w2 r :=
 ⟨h2.os.trans h.os,h2.tape.trans h.tape,h2.output.trans h.output,CJ h.size h2.size,λk hk hne=>(h2.block k (JC hk h.size) hne).trans (h.block k hk hne)⟩
theorem B8b {w w':AD} {b g:Nat} {o:Obj} (h:w.1[b]?=QZ o) (hg:w.grownBy w' (QZ g)) (hn:b≠g):w'.1[b]?=QZ o:=(hg.block b (E_ h) (λe=>hn (by injection e))).trans h
theorem Sl.keepG {α:Type} [Dat α] {w w':AD} {A:Option AJ} {n c g:Nat} {xs:List α} {bs:List Nat} (h:Sl w A n c xs bs) (hg:w.grownBy w' (QZ g)) (hn:g∉bs):Sl w' A n c xs bs :=
 h.keep λb hb=>hg.block b (h.lt b hb) (λe=>hn (by injection e with e;exact e ▸ hb))
theorem Agg.keepG {α:Type} [Dat α] {w w':AD} {v:AU} {g:Nat} {x:α} {bs:List Nat} (h:Agg w v x bs) (hg:w.grownBy w' (QZ g)) (hn:g∉bs):Agg w' v x bs :=
 h.keep λb hb=>hg.block b (h.lt b hb) (λe=>hn (by injection e with e;exact e ▸ hb))
theorem Free.keepG {w w':AD} {g:Nat} {bs:List Nat} (h:Free w bs) (hg:w.grownBy w' (QZ g)) (hn:g∉bs):Free w' bs :=
 ⟨h.1,λb hb=>by obtain⟨cs,t,e⟩:=h.2 b hb;exact⟨cs,t,B8b e hg (λe'=>hn (e' ▸ hb))⟩⟩
theorem Free.join {w:AD} {a b:List Nat} (h1:Free w a) (h2:Free w b) (hd:∀ x∈a,x∉b):Free w (a++b) :=
 ⟨List.nodup_append.2 ⟨h1.1,h2.1,λx hx _ hy e=>hd x hx (e ▸ hy)⟩,λx hx=>(DV.1 hx).elim (h1.2 x) (h2.2 x)⟩
theorem B8v {α:Type} [Dat α] {w u E:AD} {g:Nat} {v:AU} {x:α} {bs:List Nat} (W:Agg u v x bs) (X:Free u bs) (O:∀ b∈bs,w.1.size<=b/\b≠g) (D:Bw w u) (Y:w.1.size<=g) (h:u.grownBy E (QZ g)):A0c w x (.returned v) E:=by
 have H:g∉bs:=λh=>(O g h).2 rfl;have G:=X.keepG h H;exact⟨v,bs,rfl,W.keepG h H,⟨G.1,λb D=>⟨(O b D).1,G.2 b D⟩⟩,D.grown h D.size (λx T=>by injection T with T;omega)⟩
def RatBox (w:AD) (g:Nat) (x:TRat) (zs:List Nat):Prop:=∃ A1 n1 c1 A2 n2 c2,w.1[g]?=QZ (BG #[J x.1.1,S A1 n1 c1,S A2 n2 c2] 39)/\Agg w (BJ #[J x.1.1,S A1 n1 c1,S A2 n2 c2]) x zs/\g∉zs
theorem RatBox.new {y W:AD} {x:TRat} {zs:List Nat} {A1 A2:Option AJ} {n1 c1 n2 c2:Nat} (ha:Agg y (BJ #[J x.1.1,S A1 n1 c1,S A2 n2 c2]) x zs) (h:New1 y W (BG #[J x.1.1,S A1 n1 c1,S A2 n2 c2] 39)):RatBox W y.1.size x zs :=
 ⟨_,_,_,_,_,_,h.k,ha.below h.b,λhm=>by have:=ha.lt _ hm;omega⟩
theorem RatBox.set {y W:AD} {g:Nat} {x:TRat} {zs:List Nat} {A1 A2:Option AJ} {n1 c1 n2 c2:Nat} (ha:Agg y (BJ #[J x.1.1,S A1 n1 c1,S A2 n2 c2]) x zs) (h:Sets y W g #[J x.1.1,S A1 n1 c1,S A2 n2 c2] 39) (hn:g∉zs):RatBox W g x zs :=
 ⟨_,_,_,_,_,_,h.k,ha.keepG h.gr hn,hn⟩
theorem RatBox.below {w w':AD} {g:Nat} {x:TRat} {zs:List Nat} (h:RatBox w g x zs) (b:Bw w w'):RatBox w' g x zs:=by
 obtain⟨u,n1,E,D,n2,G,k,a,n⟩:=h;exact⟨u,n1,E,D,n2,G,A0z k b,a.below b,n⟩
end Go.XB
namespace Go
open Go.RowKit Go.XB
variable {P:FQ} {c:Code} {Q:Exit->DC->AD->Prop} {a:DC} {y:AD} {o q m n p:Obj} {f:FuncId} {av:Array AU} {R:Ending->AD->Prop} {g:Nat} {t:CV}
theorem Code.new (h:∀ W,Hid (New1 y W o)->c.wp P Q a W):c.wp P Q a (y.alloc o):=h _ (New1.mk' y o)
theorem Code.new2 (h:∀ W,Hid (New2 y W o q)->c.wp P Q a W):c.wp P Q a ((y.alloc o).alloc q):=h _ (New2.mk' y o q)
theorem Code.newd2 (h:∀ W,Hid (New2 y W o q)->c.wp P Q a W):c.wp P Q a ((y.alloc o).alloc q).drew:=h _ ⟨Below.drew (New2.mk' y o q).b,(New2.mk' y o q).k,(New2.mk' y o q).l⟩
theorem Calls.new (h:∀ W,Hid (New1 y W o)->BL P f av W R):BL P f av (y.alloc o) R:=h _ (New1.mk' y o)
theorem Calls.new2 (h:∀ W,Hid (New2 y W o q)->BL P f av W R):BL P f av ((y.alloc o).alloc q) R:=h _ (New2.mk' y o q)
theorem Code.new3 (h:∀ W,Hid (New3 y W o q m)->c.wp P Q a W):c.wp P Q a (((y.alloc o).alloc q).alloc m):=h _ (New3.mk' y o q m)
theorem Code.new5 (h:∀ W,Hid (New5 y W o q m n p)->c.wp P Q a W):c.wp P Q a (((((y.alloc o).alloc q).alloc m).alloc n).alloc p):=h _ (New5.mk' y o q m n p)
theorem Calls.new3 (h:∀ W,Hid (New3 y W o q m)->BL P f av W R):BL P f av (((y.alloc o).alloc q).alloc m) R:=h _ (New3.mk' y o q m)
theorem Calls.new4 (h:∀ W,Hid (New4 y W o q m n)->BL P f av W R):BL P f av ((((y.alloc o).alloc q).alloc m).alloc n) R:=h _ (New4.mk' y o q m n)
theorem Code.set2 {v0 v1 u0 u1:AU} (K:y.1[g]?=QZ (BG #[u0,u1] t)) (h:∀ W,Hid (Sets y W g #[v0,v1] t)->c.wp P Q a W):c.wp P Q a ((y.setCell ⟨g,0,I⟩ v0).setCell ⟨g,1,I⟩ v1):=h _ ⟨A5y (A5y (B3a y _)),B9q (B9q K)⟩
theorem Code.set3 {v0 v1 v2 u0 u1 u2:AU} (K:y.1[g]?=QZ (BG #[u0,u1,u2] t)) (h:∀ W,Hid (Sets y W g #[v0,v1,v2] t)->c.wp P Q a W):c.wp P Q a (((y.setCell ⟨g,0,I⟩ v0).setCell ⟨g,1,I⟩ v1).setCell ⟨g,2,I⟩ v2):=h _ ⟨A5y (A5y (A5y (B3a y _))),B9q (B9q (B9q K))⟩
theorem Code.set6 {v0 v1 v2 v3 v4 v5 u0 u1 u2 u3 u4 u5:AU} (K:y.1[g]?=QZ (BG #[u0,u1,u2,u3,u4,u5] t)) (h:∀ W,Hid (Sets y W g #[v0,v1,v2,v3,v4,v5] t)->c.wp P Q a W) :
  c.wp P Q a ((((((y.setCell ⟨g,0,I⟩ v0).setCell ⟨g,1,I⟩ v1).setCell ⟨g,2,I⟩ v2).setCell ⟨g,3,I⟩ v3).setCell ⟨g,4,I⟩ v4).setCell ⟨g,5,I⟩ v5):=h _ ⟨A5y (A5y (A5y (A5y (A5y (A5y (B3a y _)))))),B9q (B9q (B9q (B9q (B9q (B9q K)))))⟩
end Go
