/- A part of the proof. -/
import Derived.Test.YtjcanieccnljfaaGreatY17
set_option linter.constructorNameAsVariable false
set_option maxHeartbeats 16000000
set_option maxRecDepth 10000
open Bool renaming and_eq_true→DJ,false→AH,true→AF
open Go renaming Addr→AJ,Calls→BL,Oper→CZ,Program→FQ,TypeId→CV,Value→AU,World→AD,bodyPost_ret→CK,heap_alloc_new→DB,info_parts→FB,maxLen→BS,results→CO,wpList→GH
open Go.Code renaming new→DY
open Go.IntKind renaming i64→K
open Go.Obj renaming cells→BG
open Go.RowKit.Below renaming refl→DI,setCell→QC
open Go.Value renaming agg→BJ,bool→J,int→RH,slice→S
open Go.XB.Below renaming box→BP,next→BH
open Go.XB.Dat renaming sz→DZ
open Go.XB.MP renaming agg→CH
open Go.XB.TPoint renaming agg→EW,open_→QM
open Go.XB.TRat renaming agg→CF
open List renaming dropLast→DN,drop_zero→FF,getD_eq_getElem?_getD→EH,getElem?_eq_getElem→DU,getElem?_eq_some_iff→DM,getLast→DO,length→DQ,mem_append→DV,mem_flatten→LG,mem_of_getElem?→DH,nodup_nil→QE
open Nat renaming le_add_right→NU,le_refl→CE,le_trans→CJ,lt_or_ge→CG,min_eq_left→OI,one_mul→KL,zero_le→EO
open Option renaming none→I,some→B
open Option.some renaming inj→IJ
namespace Go.XB
open Go.RowKit
def MP.slrow (n:Nat) (cs:Array AU) (t:CV):MP:=⟨λv bs w=>∃ g,v=S (B ⟨g,0,I⟩) n n/\bs=[g]/\w.1[g]?=B (BG cs t),λv bs w w' hb h=>by
 obtain⟨g,e,hz,hg⟩:=h;exact⟨g,e,hz,(hb.block g (E_ hg)).trans hg⟩⟩
def D7w {α:Type} [Dat α] (w:AD) (x:α) (b:List Nat) (e:Ending) (w':AD):Prop:=∃ u s,e=.returned u/\Agg w' u x s/\(∀ g∈s,g∈b)/\Bw w w'
def MP.aggB {α:Type} [Dat α] (x:α) (b:List Nat):MP:=⟨λv bs w=>bs=[]/\∃ s,Agg w v x s/\∀ g∈s,g∈b,λ_ _ _ _ hb h=>by
 obtain⟨h0,s,h,hs⟩:=h;exact⟨h0,s,h.below hb,hs⟩⟩
theorem C4k {α:Type} [Dat α] {P:FQ} {f:FuncId} {args:Array AU} {w:AD} {x:α} {b:List Nat} (h:BL P f args w (D7w w x b)) :
  BL P f args w λe w'=>∃ u,e=.returned u/\Bw w w'/\∃ bs,(MP.aggB x b).p u bs w'/\∀ b∈bs,w.1.size<=b/\b<w'.1.size :=
 h.mono λ_ _ ⟨v,s,he,ha,hs,hb⟩=>⟨v,he,hb,[],⟨rfl,s,ha,hs⟩,λb hb=>by simp at hb⟩
end Go.XB
namespace Go.Proofs.YtjcanieccnljfaaGreat.X
open Go.RowKit Go.XB Go.XN
section
theorem TRat.elemB {w:AD} {A:Option AJ} {n c:Nat} {xs:List TRat} {bs:List Nat} (h:Sl w A n c xs bs) {k:Nat} (O:k<n) :
  ∃ (b off:Nat) (x:TRat) (A1:Option AJ) (n1 c1:Nat) (A2:Option AJ) (n2 c2:Nat) (s:List Nat),A=B ⟨b,off,I⟩/\b<w.1.size/\xs[k]?=B x/\w.cell? ⟨b,off+k*3,I⟩=B (J x.1.1)/\w.cell? ⟨b,off+k*3+1,I⟩=B (S A1 n1 c1)/\w.cell? ⟨b,off+k*3+2,I⟩=B (S A2 n2 c2)/\Agg w (BJ #[J x.1.1,S A1 n1 c1,S A2 n2 c2]) x s/\∀ g∈s,g∈bs:=by
 obtain⟨b,off,x,W,X,E,G,T,u,D,H⟩:=Sl.getAt h O;obtain⟨A1,n1,c1,Y,A2,n2,c2,Z,rfl,rfl,aa,ab⟩:=TRat.open_ D;exact⟨b,off,x,_,_,_,_,_,_,_,E,G,T,u 0 _ rfl,u 1 _ rfl,u 2 _ rfl,⟨_,rfl,D⟩,H⟩
theorem TPoint.elemB {w:AD} {A:Option AJ} {n c:Nat} {xs:List TPoint} {bs:List Nat} (h:Sl w A n c xs bs) {k:Nat} (O:k<n) :
  ∃ (b off:Nat) (x:TPoint) (A1:Option AJ) (n1 c1:Nat) (A2:Option AJ) (n2 c2:Nat) (A4:Option AJ) (n4 c4:Nat) (A5:Option AJ) (n5 c5:Nat) (s:List Nat),A=B ⟨b,off,I⟩/\b<w.1.size/\xs[k]?=B x/\w.cell? ⟨b,off+k*6,I⟩=B (J x.x.1.1)/\w.cell? ⟨b,off+k*6+1,I⟩=B (S A1 n1 c1)/\w.cell? ⟨b,off+k*6+2,I⟩=B (S A2 n2 c2)/\w.cell? ⟨b,off+k*6+3,I⟩=B (J x.y.1.1)/\w.cell? ⟨b,off+k*6+4,I⟩=B (S A4 n4 c4)/\w.cell? ⟨b,off+k*6+5,I⟩=B (S A5 n5 c5)/\Agg w (BJ #[J x.x.1.1,S A1 n1 c1,S A2 n2 c2,J x.y.1.1,S A4 n4 c4,S A5 n5 c5]) x s/\∀ g∈s,g∈bs:=by
 obtain⟨b,off,x,W,X,E,G,T,u,D,H⟩:=Sl.getAt h O;obtain⟨A1,n1,c1,Y,A2,n2,c2,Z,A4,n4,c4,aa,A5,n5,c5,ab,rfl,rfl,ac,ad,ae,af⟩:=QM D;exact⟨b,off,x,_,_,_,_,_,_,_,_,_,_,_,_,_,E,G,T,u 0 _ rfl,u 1 _ rfl,u 2 _ rfl,u 3 _ rfl,u 4 _ rfl,u 5 _ rfl,⟨_,rfl,D⟩,H⟩
section
variable {α:Type} [Dat α]
def PendS (w wb:AD) (e:CV) (wr:AD) (gB i cap:Nat) (ps:List α):Prop :=
 ∃ cells fss,wr.ownsRow wb.1.size e (DZ α) (S (B ⟨gB,0,I⟩) i cap) i cells/\Filled wr cells ps fss/\ps.length=i/\gB∉fss.flatten/\w.1.size<=wb.1.size/\Bw w wr/\Bw wb wr
variable {w wb wr wa:AD} {e:CV} {gB i cap:Nat} {ps:List α}
theorem PendS.start (hw:Bw w wb):PendS (α:=α) w wb e (wb.alloc (BG #[] e)) wb.1.size 0 0 [] :=
 ⟨[],[],World.ownsRow_made wb #[] 0 (CE _) (EO _) sI,Filled.nil _ _,rfl,sI,hw.size,BH hw (BP _),BP _⟩
theorem PendS.bw (h:PendS w wb e wr gB i cap ps):Bw w wr:=by obtain⟨_,_,_,_,_,_,_,h,_⟩:=h;exact h
theorem PendS.bb (h:PendS w wb e wr gB i cap ps):Bw wb wr:=by obtain⟨_,_,_,_,_,_,_,_,h⟩:=h;exact h
theorem PendS.lt (h:PendS w wb e wr gB i cap ps):wb.1.size<=gB/\gB<wr.1.size:=by
 obtain⟨cells,fss,b,_⟩:=h;exact World.ownsRow.lt b _ rfl
theorem PendS.sl (h:PendS w wb e wr gB i cap ps):∃ bs,Sl wr (B ⟨gB,0,I⟩) i cap ps bs:=by
 obtain⟨cells,fss,u,D,E,T,W,X,Y⟩:=h;obtain⟨O,c',b,H,G,Z⟩:=D.sl (α:=α) u E;injection H with e1 e2 e3;subst e1;subst e3;exact⟨b,G⟩
end
end
end Go.Proofs.YtjcanieccnljfaaGreat.X
namespace Go
open Go.RowKit Go.XB Go.Proofs.YtjcanieccnljfaaGreat.X
theorem D2w {P:FQ} {α:Type} [Dat α] {w wb wr wa:AD} {gB k cap:Nat} {ps:List α} {am:Array CZ} {rest:List CZ} {o:CZ} {a:Act} {Q:Exit->Act->AD->Prop} (aq:o.guard=I) (s x:Operand) (t:CV)
  (au:o.op=.call { callee:=.builtin .append,args:=#[s,x],argTypes:=#[t,t] })
  (e:CV) (i:TypeInfo) (z:AU) (X:Nat) (aA:P.underlying t=B (.slice e)) (hi:P.info? e=B i) (aC:i.zero=B z)
  (az:i.size=DZ α) (ao:i.bytes=X) (aD:z.cells.size=DZ α) (ax:PendS w wb e wr gB k cap ps) (H:Bw wr wa) (ay:a.eval s=S (B ⟨gB,0,I⟩) k cap)
  (W:AJ) (c:Nat) (cs:List AU) (pt:α) (zb:List Nat) (aB:a.eval x=S (B W) 1 c) (ar:∀ j u,cs[j]?=B u->wa.cell? (W.add j)=B u)
  (T:Dat.at_ wa cs pt zb) (aj:gB∉zb) (an:k+1<=BS) (ap:(k+1)*X<=140737488355328)
  (h:∀ g' cap' w8,PendS w wb e w8 g' (k+1) cap' (ps++[pt])->wa.grownBy w8 (B gB)->(g'=gB\/g'=wa.1.size)->GH P am Q rest (a.put o.dst (S (B ⟨g',0,I⟩) (k+1) cap')) w8):GH P am Q (o::rest) a wa:=by
 obtain⟨cells,fss,Y,ad,ae,af,ag,ah,Z⟩:=ax;have ai:=World.ownsRow.lt Y _ rfl;have aE:=H.size;have ak:wb.1.size<=wa.1.size:=by have:=Z.size;omega
 refine A1m aq s x t au wb.1.size e i z (DZ α) X aA hi aC az ao aD Dat.pos gB k cap cells ay (I_ Y H) W 1 c cs aB (by rw[KL];exact Dat.len T) ar (Dat.one T) an ap ak ?_;intro g' cap' w8 aw O ac;refine h g' cap' w8 ?_ O ac;have aa:∀ b∈fss.flatten,b<wr.1.size:=ad.lt;have k1:∀ b∈fss.flatten,w8.1[b]?=wr.1[b]?:=λb E=>(O.block b (by have:=aa b E;omega) (by intro e;injection e with e;exact af (e ▸ E))).trans (H.block b (aa b E));have al:∀ b∈zb,b<wa.1.size:=Dat.lt T;have k2:∀ b∈zb,w8.1[b]?=wa.1[b]?:=λb E=>O.block b (al b E) (by intro e;injection e with e;exact aj (e ▸ E));refine⟨_,fss++[zb],aw,Filled.push (ad.keep k1) (by rw[Y.1,ae]) (Dat.keep T k2),by simp[ae],?_,ag,?_,(Z.trans (H.mono Z.size)).grown O ak (λk2 ab=>by injection ab with h;subst h;exact ai.1)⟩
 ·rw[List.flatten_append]
  intro D;rcases DV.1 D with D|D
  ·rcases ac with G|G
   ·exact af (G ▸ D)
   have:=aa _ D;omega
  simp at D;rcases ac with G|G
  ·exact aj (G ▸ D)
  have:=al _ D;omega
 exact(BH ah H).grown O (by have:=ah.size;omega) (λk2 ab=>by injection ab with h;subst h;exact CJ ag ai.1)
end Go
namespace Go.Proofs.YtjcanieccnljfaaGreat.X
open Go.RowKit Go.XB Go.XN Proofs.Tryz
attribute [local go_sem] L_ Go.XB.opAt N_ M_ Region.wanted yielded
attribute [local simp] N_ M_ MP.eq MP.agg MP.sl A0r
theorem C3p (v:AU) (p:TProblem) (b:List Nat) (k:Nat) (t:TTri) (w:AD) (H:Agg w v p b) (E:p.1.triangles[k]?=B t) (X:p.2.length=3) (aq:0<=t.4/\t.4<3) :
  BL prog 98 #[v,RH K k] w (D7w w (p.2.getD t.4.toNat A0h) b):=by
 have aF:=A_ H;obtain⟨aA,aZ,aG,a4,aB,n1,aH,a5,aC,n2,aI,a6,aD,a1,c3,a7,rfl,rfl,aw,h,G,ax⟩:=TProblem.agg H;have ao:k<n1:=by rw[<-h.1];exact(DM.1 E).1
 have ap:n1<=BS:=CJ h.2.1 h.2.2.1;unfold BS at ap;obtain rfl:3=n2:=by rw[<-G.1];exact X.symm
 obtain⟨ar,au⟩:=aq;obtain⟨af,a2,x,rfl,aR,O,aJ,aK,aL,ak,aM,_⟩:=TTri.elemA h ao;obtain rfl:x=t:=by rw[E]at O;exact(IJ O).symm
 obtain⟨j,D⟩:∃ j:Nat,x.4=j:=⟨x.4.toNat,oS⟩
 have an:j<3:=oS;have aW:(k:Int)<n1:=oS;obtain⟨ag,a3,y,aa,ay,ah,ab,az,ai,aj,rfl,aS,Z,aN,aO,aP,T,Y⟩:=TRat.elemB G an;have ac:=A_ (by rw[D];exact A0e Z:p.2.getD x.4.toNat A0h=y);have ad:=A_ T;have ae:=A_ Y;have aQ:af<w.1.size+1+1:=oS;have aU:ag<w.1.size+1+1:=oS;rw[D]at ak ar au;clear aw h G ax H E X O Z T Y D;go_enter func98,ntmps98;go_wp2_with fail;refine X_ sI ?_;dsimp only[DN,DO,DQ];iterate 11 refine C_ _ ?_
 intro a8 a9 wa u W (al:Hid _);simp at W;go_simp;have aE:=A_ (show Bw w wa from Below.go);obtain⟨aT,aV⟩:=F_ u;have aX:w.1.size<wa.1.size:=ltg u;have aY:w.1.size+1<wa.1.size:=ltg u;clear W al;go_wp2;refine CK (v:=BJ #[J y.1.1,S aa ay ah,S ab az ai]) (by simp[CO,results98,go_sem, *]) rfl ?_;refine⟨_,aj,rfl,?_,λg am=>by have:=ae g am;simp[this],Below.go⟩;rw[ac.o];exact ad.below Below.go
theorem D3f (v:AU) (p:TProblem) (b:List Nat) (k:Nat) (t:TTri) (w:AD) (H:Agg w v p b) (E:p.1.triangles[k]?=B t) (X:p.3.length=3) (aq:0<=t.4/\t.4<3) :
  BL prog 123 #[v,RH K k] w (D7w w (p.3.getD t.4.toNat A0h) b):=by
 have aG:=A_ H;obtain⟨aB,a1,aH,a4,aC,n1,aI,a5,aD,n2,aJ,a6,aE,ay,c3,a7,rfl,rfl,aw,h,ax,G⟩:=TProblem.agg H;have ao:k<n1:=by rw[<-h.1];exact(DM.1 E).1
 have ap:n1<=BS:=CJ h.2.1 h.2.2.1;unfold BS at ap;obtain rfl:3=ay:=by rw[<-G.1];exact X.symm
 obtain⟨ar,au⟩:=aq;obtain⟨af,a2,x,rfl,aS,O,aK,aL,aM,ak,aN,_⟩:=TTri.elemA h ao;obtain rfl:x=t:=by rw[E]at O;exact(IJ O).symm
 obtain⟨j,D⟩:∃ j:Nat,x.4=j:=⟨x.4.toNat,oS⟩
 have an:j<3:=oS;have aX:(k:Int)<n1:=oS;obtain⟨ag,a3,y,aa,az,ah,ab,aA,ai,aj,rfl,aT,Z,aO,aP,aQ,T,Y⟩:=TRat.elemB G an;have ac:=A_ (by rw[D];exact A0e Z:p.3.getD x.4.toNat A0h=y);have ad:=A_ T;have ae:=A_ Y;have aR:af<w.1.size+1+1:=oS;have aV:ag<w.1.size+1+1:=oS;rw[D]at ak ar au;clear aw h ax G H E X O Z T Y D;go_enter func123,ntmps123;go_wp2_with fail;refine X_ sI ?_;dsimp only[DN,DO,DQ];iterate 11 refine C_ _ ?_
 intro a8 a9 wa u W (al:Hid _);simp at W;go_simp;have aF:=A_ (show Bw w wa from Below.go);obtain⟨aU,aW⟩:=F_ u;have aY:w.1.size<wa.1.size:=ltg u;have aZ:w.1.size+1<wa.1.size:=ltg u;clear W al;go_wp2;refine CK (v:=BJ #[J y.1.1,S aa az ah,S ab aA ai]) (by simp[CO,results123,go_sem, *]) rfl ?_;refine⟨_,aj,rfl,?_,λg am=>by have:=ae g am;simp[this],Below.go⟩;rw[ac.o];exact ad.below Below.go
end Go.Proofs.YtjcanieccnljfaaGreat.X

namespace Go.XB
open Go.RowKit
theorem D5k {G:AD} {g:Nat} {t:CV} {a b c:Int} (O:I64 a) (T:I64 b) (W:I64 c) (h:G.1[g]?=B (BG #[RH K a,RH K b,RH K c] t)):Sl G (B ⟨g,0,I⟩) 3 3 [a,b,c] [g]:=by
 refine⟨rfl,CE _,dE,λh=>absurd h dE,λ_=>⟨g,0,[[],[],[]],rfl,sI,rfl,E_ h,λk x X E D=>?_⟩⟩;match k,E,D with
 |0,E,D =>
  simp at E D;subst E;subst D
  refine⟨[RH K a],λj H u=>?_,rfl,rfl,O⟩
  match j,u with
  |0,u=>simp at u;subst u;exact(B_ h (j:=0) rfl).1
 |1,E,D =>
  simp at E D;subst E;subst D
  refine⟨[RH K b],λj H u=>?_,rfl,rfl,T⟩
  match j,u with
  |0,u=>simp at u;subst u;exact(B_ h (j:=1) rfl).1
 |2,E,D =>
  simp at E D;subst E;subst D
  refine⟨[RH K c],λj H u=>?_,rfl,rfl,W⟩
  match j,u with
  |0,u=>simp at u;subst u;exact(B_ h (j:=2) rfl).1
end Go.XB
namespace Go.Proofs.YtjcanieccnljfaaGreat.X
open Go.RowKit Go.XB Go.XN Proofs.Tryz
attribute [local go_sem] L_ Go.XB.opAt N_ M_ Region.wanted yielded
attribute [local simp] N_ M_ MP.eq MP.agg MP.sl A0r
theorem C2s (A:Option AJ) (n c:Nat) (xs:List Int) (bs:List Nat) (v:Int) (i:Nat) (w:AD) (b:Sl w A n c xs bs) (hi:xs[i]?=B v) (G:∀ (j:Nat) (y:Int),j<i->xs[j]?=B y->y≠v) :
  BL prog 217 #[S A n c,RH K v] w (A0b w (RH K i)):=by
 have Y:=A_ b;have X:=A_ hi;have W:=A_ G;have ac:n<=BS:=CJ b.2.1 b.2.2.1;have ah:i<n:=by rw[<-b.1];exact(DM.1 hi).1
 unfold BS at ac;clear b hi G;go_enter func217,ntmps217;go_wp2_with fail;go_loopg [8] n (λg s8 wr=>∃ k:Nat,k+g=n/\s8=RH K k/\k<=i/\Bw w wr);case atStart=>exact⟨0,oS,rfl,EO _,DI _ _⟩
 case round =>
  obtain⟨k,H,rfl,O,h⟩:=hrel;have u:k<n:=oS;obtain⟨ad,al,x,rfl,af,D,ae,ag⟩:=Sl.getInt (Sl.below Y h) u;have E:=A_ D;have ai:(k:Int)<n:=oS;obtain⟨g,rfl⟩:∃ g,gk=g+1:=⟨gk - 1,oS⟩
  have aa:=A_ (by omega:k+1+g=n);have aj:k+1<=n:=oS;rcases CG k i with T|Z
  ·have ak:(v==x)=AH:=by simp;exact λe=>W k x T E e.symm
   have ab:=A_ (by omega:k+1<=i);clear D H u O T;go_wp2_with fail;go_roundg g;case measure=>omega
   case rel=>exact⟨k+1,aa,gN,ab,h⟩
  obtain rfl:i=k:=oS;obtain rfl:v=x:=by have:=X.o;rw[E.o]at this;exact(IJ this).symm
  clear D H u O Z;go_wp2;go_ret;exact⟨rfl,h⟩
theorem C4r {t:TTri} {p:Int} (h:B6x t p=AF):(∃ i:Nat,i<3/\[t.a,t.b,t.c][i]?=B p/\(∀ (j:Nat) (y:Int),j<i->[t.a,t.b,t.c][j]?=B y->y≠p)/\A3h t p=(C8d t.a t.b t.c ((i+1) % 3),C8d t.a t.b t.c ((i+2) % 3))):=by
 unfold B6x at h;simp only[Bool.or_eq_true,beq_iff_eq]at h;by_cases u:t.a=p;·exact⟨0,oS,by simp[u],λj y E=>absurd E oS,by unfold A3h;rw[if_pos u];rfl⟩
 by_cases D:t.b=p;·refine⟨1,oS,by simp[D],λj y E b=>?_,by unfold A3h;rw[if_neg u,if_pos D];rfl⟩;obtain rfl:j=0:=oS;simp at b;subst b;exact u
 refine⟨2,oS,by rcases h with h|h|h<;>simp_all,λj y E b=>?_,by unfold A3h;rw[if_neg u,if_neg D];rfl⟩;obtain rfl|rfl:j=0\/j=1:=oS
 ·simp at b;subst b;exact u
 simp at b;subst b;exact D
theorem B5z (v:AU) (t:TTri) (b:List Nat) (p:Int) (w:AD) (Y:Agg w v t b) (hh:B6x t p=AF) :
  BL prog 186 #[v,RH K p] w (A0b w (.tuple #[RH K (A3h t p).1,RH K (A3h t p).2,J AF])):=by
 have ao:=A_ Y;obtain⟨i,ax,af,ae,ad⟩:=C4r hh;have ab:=A_ af;have aa:=A_ ae;have H:=A_ ad;obtain⟨rfl,rfl,ag,ah,ai,_,_⟩:=TTri.agg Y;have ap:=A_ ag;have aq:=A_ ah;have ar:=A_ ai;clear Y hh af ae ad ag ah ai;go_enter func186,ntmps186;go_wp2_with fail;refine(A2g _ t _ _ (ao.below Below.go)).mono ?_;rintro _ aj ⟨rfl,aw⟩;have am:=A_ (show Bw w aj from Below.go);clear aw;go_upto_region 2 with fail;refine DY λac T=>?_;have O:=A_ T.k;have an:=A_ (BH am T.b);clear T;have l2:aj.1.size<ac.1.size:=E_ O;go_wp2_with fail;refine(C2s _ 3 3 [t.a,t.b,t.c] _ p i ac (D5k ap aq ar O) ab aa).mono ?_;rintro _ w3 ⟨rfl,X⟩;have au:=A_ (K_ O X);have G:=A_ (BH an X);clear X l2;obtain⟨W,-,Z⟩:=bx au;clear ab aa;obtain rfl|rfl|rfl:i=0\/i=1\/i=2:=oS
 ·go_wp2_with fail
  refine A0g ?_;iterate 13 refine C_ _ ?_
  intro ak al wa u D (E:Hid _);simp at D;have h:=A_ (BH G u);clear E W Z;go_simp;go_wp2_with fail;refine CK (v:=.tuple #[RH K t.b,RH K t.c,J AF]) (by simp[CO,results186,go_sem, *]) rfl ?_;exact⟨by rw[H.o];rfl,h⟩
 ·go_wp2_with fail
  refine A0g ?_;iterate 13 refine C_ _ ?_
  intro ak al wa u D (E:Hid _);simp at D;have h:=A_ (BH G u);clear E W Z;go_simp;go_wp2_with fail;refine CK (v:=.tuple #[RH K t.c,RH K t.a,J AF]) (by simp[CO,results186,go_sem, *]) rfl ?_;exact⟨by rw[H.o];rfl,h⟩
 go_wp2_with fail;refine A0g ?_;iterate 13 refine C_ _ ?_
 intro ak al wa u D (E:Hid _);simp at D;have h:=A_ (BH G u);clear E W Z;go_simp;go_wp2_with fail;refine CK (v:=.tuple #[RH K t.a,RH K t.b,J AF]) (by simp[CO,results186,go_sem, *]) rfl ?_;exact⟨by rw[H.o];rfl,h⟩
theorem C1b (v:AU) (m:TMesh) (b:List Nat) (p:Int) (w:AD) (an:Agg w v m b) (ax:m.triangles.length<=48) :
  BL prog 129 #[v,RH K p] w (A0w w (A2d m.triangles p)):=by
 have aX:=A_ an;obtain⟨aD,aT,aL,a6,aE,n1,aM,a7,rfl,rfl,aR,ac⟩:=TMesh.agg an;have aJ:=A_ ac;have aI:=A_ ac.1;have a2:n1<=48:=by rw[<-ac.1];exact ax
 have a1:(n1:Int)<=48:=oS;obtain⟨ao,aj,ak,al,am⟩:=FB A6b;clear aR ac an ax;go_enter func129,ntmps129;go_upto_region 1 with fail;refine DY λH ah=>?_;have aF:=A_ ah.b;have aq:=A_ (show(H.alloc (BG #[] 3)).1[w.1.size]?=B (BG #[S aD aT aL,S aE n1 aM] 26)from K_ ah.k (BP _));clear ah;have ar:=A_ (Pend.start (α:=Int) (e:=3) aF);obtain⟨aw,-⟩:=B_ aq (j:=1) rfl;simp at aw;have aS:w.1.size<(H.alloc (BG #[] 3)).1.size:=E_ aq;go_wp2_with fail;go_loopg [5,12] n1 (λg s5 s wr=>∃ (i gB cap:Nat),i+g=n1/\s=RH K i/\s5=S (B ⟨gB,0,I⟩) (A2u m.triangles p i).length cap/\Hid (Pend w H 3 wr gB (A2u m.triangles p i).length cap (A2u m.triangles p i)));case atStart=>exact⟨0,H.1.size,0,oS,rfl,rfl,ar.o⟩
 case round =>
  clear ar aw aS;obtain⟨i,gB,cap,ay,rfl,rfl,h⟩:=hrel;have aG:=A_ h.bw;rcases CG i n1 with ab|ab
  ·have aQ:(i:Int)<n1:=oS
   have aZ:(0:Int)<=i:=oS;obtain⟨g,rfl⟩:∃ g,gk=g+1:=⟨gk - 1,oS⟩
   have aa:=A_ (by omega:i+1+g=n1);have a3:=B7u m.triangles p i;have ae:=A_ (by unfold BS;omega:(A2u m.triangles p i).length+1<=BS);have af:=A_ (by omega:((A2u m.triangles p i).length+1)*8<=140737488355328);obtain⟨aY,a5,t,aN,aP,az,aA,aB,aC,aV,aW,aO⟩:=TTri.elemA (aJ.below aG) ab;have au:=A_ (show m.triangles.getD i A4p=t from A0e az);subst aN;clear ay ab az aO;go_upto_region 5 with fail;refine DY λu ai=>?_;have ap:=A_ ai.b;have Z:=A_ ai.k;clear aA aB aC aV aW aP ai;obtain⟨aA,-⟩:=B_ Z (j:=0) rfl;obtain⟨aB,-⟩:=B_ Z (j:=1) rfl;obtain⟨aC,-⟩:=B_ Z (j:=2) rfl;have a4:wr.1.size<u.1.size:=E_ Z;have ag:=A_ (BH ap (BP (BG #[RH K i] 3)));have ad:=A_ (show Dat.at_ (α:=Int) (u.alloc (BG #[RH K i] 3)) [RH K i] (i:Int) []from⟨rfl,rfl,by constructor<;>omega⟩);cases hh:B6x t p
   ·have G:=A_ (by rw[A2u,au.o,hh];rfl:A2u m.triangles p (i+1)=A2u m.triangles p i)
    have q1:(t.a==p)=AH:=by unfold B6x at hh;simp_all
    have q2:(t.b==p)=AH:=by unfold B6x at hh;simp_all
    have aU:(t.c==p)=AH:=by unfold B6x at hh;simp_all
    clear hh;go_wp2_with fail;go_roundg g;case measure=>omega
    case rel=>exact⟨i+1,gB,cap,aa.o,gN,by rw[G.o],by rw[G.o];exact h.below ap⟩
   have G:=A_ (by rw[A2u,au.o,hh];rfl:A2u m.triangles p (i+1)=A2u m.triangles p i++[(i:Int)]);have O:=A_ (by rw[G.o];simp:(A2u m.triangles p (i+1)).length=(A2u m.triangles p i).length+1);cases q1:(t.a==p)
   ·cases q2:(t.b==p)
    ·have aU:(t.c==p)=AF:=by unfold B6x at hh;simp_all
     clear hh;go_wp2_with (at_builtin;refine A1v rfl _ _ 35 rfl 3 ao (RH K 0) 8 underlying35 aj ak al am rfl h ag gD ⟨u.1.size,0,I⟩ 1 [RH K i] (i:Int) [] gD (A0a (DB u _)) ad.o ⟨QE,λb hb=>by simp at hb⟩ (λb hb=>by simp at hb) ae.o af.o ?_;intro g' D Y E W X);have T:=A_ (by rw[O.o,G.o];exact E:Pend w H 3 Y g' (A2u m.triangles p (i+1)).length D (A2u m.triangles p (i+1)));clear E W X h;go_wp2_with fail;go_roundg g;case measure=>omega
     case rel=>exact⟨i+1,g',D,aa.o,gN,by rw[O.o],T⟩
    clear hh;go_wp2_with (at_builtin;refine A1v rfl _ _ 35 rfl 3 ao (RH K 0) 8 underlying35 aj ak al am rfl h ag gD ⟨u.1.size,0,I⟩ 1 [RH K i] (i:Int) [] gD (A0a (DB u _)) ad.o ⟨QE,λb hb=>by simp at hb⟩ (λb hb=>by simp at hb) ae.o af.o ?_;intro g' D Y E W X);have T:=A_ (by rw[O.o,G.o];exact E:Pend w H 3 Y g' (A2u m.triangles p (i+1)).length D (A2u m.triangles p (i+1)));clear E W X h;go_wp2_with fail;go_roundg g;case measure=>omega
    case rel=>exact⟨i+1,g',D,aa.o,gN,by rw[O.o],T⟩
   clear hh;go_wp2_with (at_builtin;refine A1v rfl _ _ 35 rfl 3 ao (RH K 0) 8 underlying35 aj ak al am rfl h ag gD ⟨u.1.size,0,I⟩ 1 [RH K i] (i:Int) [] gD (A0a (DB u _)) ad.o ⟨QE,λb hb=>by simp at hb⟩ (λb hb=>by simp at hb) ae.o af.o ?_;intro g' D Y E W X);have T:=A_ (by rw[O.o,G.o];exact E:Pend w H 3 Y g' (A2u m.triangles p (i+1)).length D (A2u m.triangles p (i+1)));clear E W X h;go_wp2_with fail;go_roundg g;case measure=>omega
   case rel=>exact⟨i+1,g',D,aa.o,gN,by rw[O.o],T⟩
  obtain rfl:n1=i:=oS;have aQ:¬ ((n1:Int)<n1):=oS;have aK:=A_ (by unfold A2d;rw[aI.o]:A2u m.triangles p n1=A2d m.triangles p);clear ay ab;go_wp2;go_ret;have aH:A0w w (A2d m.triangles p) (.returned (S (B ⟨gB,0,I⟩) (A2u m.triangles p n1).length cap)) wr:=by have:=h.done;rw[aK.o]at this ⊢;exact this
  exact aH
theorem C0z (val:AU) (x:TPiece) (b:List Nat) (w:AD) (aJ:Agg w val x b) :
  BL prog 188 #[val] w (A0c w (C1f x)):=by
 obtain⟨a9,b5,bB,cw,ba,b6,bD,bc,b7,bE,bd,b8,bF,be,b9,bG,cx,bf,ca,bH,bg,cb,bI,bh,cc,bJ,bi,cd,bK,cy,bj,ce,bL,bk,cg,bM,cz,bl,ch,bN,bm,ci,bO,cA,bn,cj,bP,bo,ck,bQ,bp,cm,bR,bq,cn,bS,sF,br,co,bT,bt,cp,bU,bu,cq,bV,bv,cs,bW,cB,bz,ct,bX,bA,cu,bY,cD,rfl,rfl,aX,aY,aZ,aC,aD,aE,aF,aG⟩:=TPiece.agg aJ;have ac:=A_ aC;have aK:=A_ aD;have aL:=A_ aE;have aM:=A_ aF;have aN:=A_ aG;clear aJ aX aY aZ aC aD aE aF aG;go_enter func188,ntmps188;go_upto_region 1 with fail;refine Code.new2 λab Z=>?_;have O:=A_ Z.b;have u:=A_ Z.k;have ad:=A_ Z.l;have aU:=A_ (show w.1.size+2<=ab.1.size from E_ ad);clear Z;obtain⟨ae,-⟩:=B_ u (j:=13) rfl;obtain⟨af,-⟩:=B_ u (j:=14) rfl;obtain⟨ag,-⟩:=B_ u (j:=15) rfl;obtain⟨ah,-⟩:=B_ u (j:=16) rfl;obtain⟨ai,-⟩:=B_ u (j:=17) rfl;obtain⟨aj,-⟩:=B_ u (j:=18) rfl;obtain⟨ak,-⟩:=B_ u (j:=19) rfl;obtain⟨al,-⟩:=B_ u (j:=20) rfl;obtain⟨am,-⟩:=B_ u (j:=21) rfl;obtain⟨an,-⟩:=B_ u (j:=22) rfl;obtain⟨ao,-⟩:=B_ u (j:=23) rfl;obtain⟨ap,-⟩:=B_ u (j:=24) rfl;obtain⟨aq,-⟩:=B_ u (j:=25) rfl;obtain⟨ar,-⟩:=B_ u (j:=26) rfl;obtain⟨au,-⟩:=B_ u (j:=27) rfl;obtain⟨aw,-⟩:=B_ u (j:=28) rfl;obtain⟨ax,-⟩:=B_ u (j:=29) rfl;obtain⟨ay,-⟩:=B_ u (j:=30) rfl;obtain⟨az,-⟩:=B_ u (j:=31) rfl;obtain⟨aA,-⟩:=B_ u (j:=32) rfl;obtain⟨aB,-⟩:=B_ u (j:=33) rfl;simp at ae af ag ah ai aj ak al am an ao ap aq ar au aw ax ay az aA aB;have b0:w.1.size<ab.1.size:=E_ u;have b4:w.1.size+2<=ab.1.size:=by have:=aU.o;omega
 refine X_ sI ?_;dsimp only[DN,DO,DQ];iterate 4 refine C_ _ ?_
 refine D_ (CH (A0d x.f x.area)) ?_ ?_;·intro T G E h D;obtain⟨W,X⟩:=F_ h;simp at D;refine G_ ?_;exact H_ (A0n _ _ x.f x.area _ _ E ((aN.below O).below h) ((ac.below O).below h))
 refine D_ (CH (mkR 1 3)) ?_ ?_;·intro T G E h D;obtain⟨W,X⟩:=F_ h;simp at D;refine G_ ?_;exact H_ (A7u 1 3 E oG oG dE)
 refine D_ (CH (A0d (A0d x.f x.area) (mkR 1 3))) ?_ ?_;·intro T G E h D;obtain⟨W,X⟩:=F_ h;simp at D;refine G_ ?_;obtain⟨Y,H⟩:=D;exact H_ (A0n _ _ (A0d x.f x.area) (mkR 1 3) _ _ E Y.1 (by first|exact H.1|exact H.1.1))
 iterate 4 refine C_ _ ?_
 refine D_ (CH (A0d x.k x.area)) ?_ ?_;·intro T G E h D;obtain⟨W,X⟩:=F_ h;simp at D;refine G_ ?_;exact H_ (A0n _ _ x.k x.area _ _ E ((aK.below O).below h) ((ac.below O).below h))
 iterate 4 refine C_ _ ?_
 refine D_ (CH (A1k x.grad x.own)) ?_ ?_;·intro T G E h D;obtain⟨W,X⟩:=F_ h;simp at D;refine G_ ?_;exact H_ (A8z _ _ x.grad x.own _ _ E ((aL.below O).below h) ((aM.below O).below h))
 refine D_ (CH (A0d (A0d x.k x.area) (A1k x.grad x.own))) ?_ ?_;·intro T G E h D;obtain⟨W,X⟩:=F_ h;simp at D;refine G_ ?_;obtain⟨Y,H⟩:=D;exact H_ (A0n _ _ (A0d x.k x.area) (A1k x.grad x.own) _ _ E Y.1 (by first|exact H.1|exact H.1.1))
 refine D_ (CH (C1f x)) ?_ ?_;·intro T G E h D;obtain⟨W,X⟩:=F_ h;simp at D;refine G_ ?_;obtain⟨Y,H⟩:=D;exact H_ (A5b _ _ (A0d (A0d x.f x.area) (mkR 1 3)) (A0d (A0d x.k x.area) (A1k x.grad x.own)) _ _ E Y.1 (by first|exact H.1|exact H.1.1))
 intro T G wa h D (a2:Hid _);simp at D;have a6:=D.2.2.2.2.2.2.2.2.2.2.2.2.2.2.2.2.2.2;obtain⟨⟨aa,aH⟩,aI⟩:=a6;generalize C1f x=a5 at *;obtain⟨aS,a3,aV,cG,aT,a4,aW,cH,a7,a8,_,_⟩:=CF aa;rw[a7]at aa;have aO:=A_ aa;have aP:=A_ aH;have aQ:=A_ (show ∀ b∈G 18,w.1.size+2<=b from λb a1=>by have:=(aI b a1).1;omega);have aR:=A_ (K_ ad h);have bZ:=BH O h;obtain⟨cE,cF,b3⟩:=bx aR;generalize G 18=cv at *;clear D a2 aa aH aI a8 h ae af ag ah ai aj ak al am an ao ap aq ar au aw ax ay az aA aB;go_wp2;refine CK (v:=BJ #[J a5.1.1,S aS a3 aV,S aT a4 aW]) (by simp[CO,results188,go_sem, *]) rfl ?_;refine A1s (lo:=w.1.size+2) aO.o aP.o aQ.o oS ?_ ?_;·exact Above.go
 exact Below.go
theorem A9e {w:AD} {g j:Nat} {L:List AU} {t:CV} {v:AU} (h:w.1[g]?=B (BG L.toArray t)) (hj:L[j]?=B v):w.cell? ⟨g,j,I⟩=B v/\w.frozen? ⟨g,j,I⟩=AH :=
 B_ h (by rw[List.getElem?_toArray];exact hj)
inductive TPieceS (w:AD) (x:TPiece) (val:AU):Prop where
 |mk (L:List AU) (A0:Option AJ) (nA0 cA0:Nat) (sA:List Nat) (B1:Option AJ) (nB1 cB1:Nat) (B2:Option AJ) (nB2 cB2:Nat) (B4:Option AJ) (nB4 cB4:Nat) (B5:Option AJ) (nB5 cB5:Nat) (sB:List Nat) (C1:Option AJ) (nC1 cC1:Nat) (C2:Option AJ) (nC2 cC2:Nat) (C4:Option AJ) (nC4 cC4:Nat) (C5:Option AJ) (nC5 cC5:Nat) (sC:List Nat) (D1:Option AJ) (nD1 cD1:Nat) (D2:Option AJ) (nD2 cD2:Nat) (sD:List Nat) (E1:Option AJ) (nE1 cE1:Nat) (E2:Option AJ) (nE2 cE2:Nat) (sE:List Nat) (F1:Option AJ) (nF1 cF1:Nat) (F2:Option AJ) (nF2 cF2:Nat) (F4:Option AJ) (nF4 cF4:Nat) (F5:Option AJ) (nF5 cF5:Nat) (sF:List Nat) (G1:Option AJ) (nG1 cG1:Nat) (G2:Option AJ) (nG2 cG2:Nat) (G4:Option AJ) (nG4 cG4:Nat) (G5:Option AJ) (nG5 cG5:Nat) (sG:List Nat) (H1:Option AJ) (nH1 cH1:Nat) (H2:Option AJ) (nH2 cH2:Nat) (sH:List Nat) (hv:val=BJ L.toArray) (hL:L=(S A0 nA0 cA0)::(J x.b.x.1.1)::(S B1 nB1 cB1)::(S B2 nB2 cB2)::(J x.b.y.1.1)::(S B4 nB4 cB4)::(S B5 nB5 cB5)::(J x.c.x.1.1)::(S C1 nC1 cC1)::(S C2 nC2 cC2)::(J x.c.y.1.1)::(S C4 nC4 cC4)::(S C5 nC5 cC5)::(J x.area.1.1)::(S D1 nD1 cD1)::(S D2 nD2 cD2)::(J x.k.1.1)::(S E1 nE1 cE1)::(S E2 nE2 cE2)::(J x.grad.x.1.1)::(S F1 nF1 cF1)::(S F2 nF2 cF2)::(J x.grad.y.1.1)::(S F4 nF4 cF4)::(S F5 nF5 cF5)::(J x.own.x.1.1)::(S G1 nG1 cG1)::(S G2 nG2 cG2)::(J x.own.y.1.1)::(S G4 nG4 cG4)::(S G5 nG5 cG5)::(J x.f.1.1)::(S H1 nH1 cH1)::(S H2 nH2 cH2)::[]) (f0:Sl w A0 nA0 cA0 x.list sA) (f1:Agg w (BJ #[J x.b.x.1.1,S B1 nB1 cB1,S B2 nB2 cB2,J x.b.y.1.1,S B4 nB4 cB4,S B5 nB5 cB5]) x.b sB) (f2:Agg w (BJ #[J x.c.x.1.1,S C1 nC1 cC1,S C2 nC2 cC2,J x.c.y.1.1,S C4 nC4 cC4,S C5 nC5 cC5]) x.c sC) (f3:Agg w (BJ #[J x.area.1.1,S D1 nD1 cD1,S D2 nD2 cD2]) x.area sD) (f4:Agg w (BJ #[J x.k.1.1,S E1 nE1 cE1,S E2 nE2 cE2]) x.k sE) (f5:Agg w (BJ #[J x.grad.x.1.1,S F1 nF1 cF1,S F2 nF2 cF2,J x.grad.y.1.1,S F4 nF4 cF4,S F5 nF5 cF5]) x.grad sF) (f6:Agg w (BJ #[J x.own.x.1.1,S G1 nG1 cG1,S G2 nG2 cG2,J x.own.y.1.1,S G4 nG4 cG4,S G5 nG5 cG5]) x.own sG) (f7:Agg w (BJ #[J x.f.1.1,S H1 nH1 cH1,S H2 nH2 cH2]) x.f sH):TPieceS w x val
theorem TPiece.shape {w:AD} {val:AU} {x:TPiece} {bs:List Nat} (ac:Agg w val x bs):TPieceS w x val:=by
 obtain⟨L,rfl,ab⟩:=ac;obtain⟨bp,bv,bE,bK,rfl,rfl,O,T⟩:=ab;obtain⟨ad,a1,aD,rfl,w0⟩:=O;obtain⟨p1,q1,bF,v1,rfl,rfl,b,W⟩:=T;obtain⟨ae,a2,aE,_,af,a3,aF,_,ag,a4,aG,_,ah,a5,aH,_,rfl,_⟩:=QM b;obtain⟨p2,q2,bG,v2,rfl,rfl,h,X⟩:=W;obtain⟨ai,a6,aI,_,aj,a7,aJ,_,ak,a8,aK,_,al,a9,aL,_,rfl,_⟩:=QM h;obtain⟨bq,bz,bH,bL,rfl,rfl,u,Y⟩:=X;obtain⟨am,ba,aM,_,an,bc,aN,_,rfl,_⟩:=TRat.open_ u;obtain⟨br,bA,bI,bM,rfl,rfl,D,Z⟩:=Y;obtain⟨ao,bd,aO,_,ap,be,aP,_,rfl,_⟩:=TRat.open_ D;obtain⟨bt,bB,sF,bN,rfl,rfl,E,aa⟩:=Z;obtain⟨aq,bf,aQ,_,ar,bg,aR,_,au,bh,aS,_,aw,bi,aT,_,rfl,_⟩:=QM E;obtain⟨bu,bD,bJ,bO,rfl,rfl,G,H⟩:=aa;obtain⟨ax,bj,aU,_,ay,bk,aV,_,az,bl,aW,_,aA,bm,aX,_,rfl,_⟩:=QM G;obtain⟨aB,bn,aY,_,aC,bo,aZ,_,rfl,_⟩:=TRat.open_ H;exact .mk _ _ _ _ _ _ _ _ _ _ _ _ _ _ _ _ _ _ _ _ _ _ _ _ _ _ _ _ _ _ _ _ _ _ _ _ _ _ _ _ _ _ _ _ _ _ _ _ _ _ _ _ _ _ _ _ _ _ _ _ _ _ _ _ _ _ _ _ _ _ _ _ _ _ _ _ _ _  rfl rfl w0 (⟨_,rfl,b⟩) (⟨_,rfl,h⟩) (⟨_,rfl,u⟩) (⟨_,rfl,D⟩) (⟨_,rfl,E⟩) (⟨_,rfl,G⟩) (⟨_,rfl,H⟩)
attribute [local simp] MP.box
theorem D8f (val b9 vs:AU) (x:TPiece) (first Z:TRat) (b c4 bs:List Nat) (T b1 W:TPoint) (w:AD) (b3:Agg w val x b) (bl:Agg w b9 first c4) (bn:Agg w vs Z bs) (bm:x.list=[T,b1,W]) (b0:A7m [T,b1,W]=AF) :
  BL prog 189 #[val,b9,vs] w (λe w'=>∃ v1 v2 s1 s2,e=.returned (.tuple #[v1,v2])/\Agg w' v1 (B0i x first Z) s1/\Agg w' v2 (B3c x) s2/\(∀ b∈s1++s2,w.1.size<=b)/\Bw w w'):=by
 obtain⟨L,cb,b4,c5,fg,cc,dM,c6,cd,dN,c7,ce,dO,c8,cg,dQ,c9,fh,ci,dR,da,cj,dS,db,ck,dT,dc,cm,dU,dd,fi,co,dV,de,cp,dW,df,fj,cq,dX,dg,cs,dY,dh,fk,ct,dZ,di,cu,d0,dj,cv,d1,dk,cw,d2,dl,sF,aV,d3,dm,aW,d4,dn,aY,d5,dp,bc,d6,dq,fl,er,e9,ew,es,fa,ex,fm,dF,H,aD,aR,aS,aT,aU,bX,-,-⟩:=TPiece.shape b3;subst dF;have eC:L[0]?=B (S cb b4 c5):=by rw[H];rfl
 have eD:L[1]?=B (J x.b.x.1.1):=by rw[H];rfl
 have eO:L[2]?=B (S cc dM c6):=by rw[H];rfl
 have eZ:L[3]?=B (S cd dN c7):=by rw[H];rfl
 have e1:L[4]?=B (J x.b.y.1.1):=by rw[H];rfl
 have e2:L[5]?=B (S ce dO c8):=by rw[H];rfl
 have e3:L[6]?=B (S cg dQ c9):=by rw[H];rfl
 have e4:L[7]?=B (J x.c.x.1.1):=by rw[H];rfl
 have e5:L[8]?=B (S ci dR da):=by rw[H];rfl
 have e6:L[9]?=B (S cj dS db):=by rw[H];rfl
 have eE:L[10]?=B (J x.c.y.1.1):=by rw[H];rfl
 have eF:L[11]?=B (S ck dT dc):=by rw[H];rfl
 have eG:L[12]?=B (S cm dU dd):=by rw[H];rfl
 have eH:L[13]?=B (J x.area.1.1):=by rw[H];rfl
 have eI:L[14]?=B (S co dV de):=by rw[H];rfl
 have eJ:L[15]?=B (S cp dW df):=by rw[H];rfl
 have eK:L[16]?=B (J x.k.1.1):=by rw[H];rfl
 have eL:L[17]?=B (S cq dX dg):=by rw[H];rfl
 have eM:L[18]?=B (S cs dY dh):=by rw[H];rfl
 have eN:L[19]?=B (J x.grad.x.1.1):=by rw[H];rfl
 have eP:L[20]?=B (S ct dZ di):=by rw[H];rfl
 have eQ:L[21]?=B (S cu d0 dj):=by rw[H];rfl
 have eR:L[22]?=B (J x.grad.y.1.1):=by rw[H];rfl
 have eS:L[23]?=B (S cv d1 dk):=by rw[H];rfl
 have eT:L[24]?=B (S cw d2 dl):=by rw[H];rfl
 have eU:L[25]?=B (J x.own.x.1.1):=by rw[H];rfl
 have eV:L[26]?=B (S aV d3 dm):=by rw[H];rfl
 have eW:L[27]?=B (S aW d4 dn):=by rw[H];rfl
 have eX:L[28]?=B (J x.own.y.1.1):=by rw[H];rfl
 have eY:L[29]?=B (S aY d5 dp):=by rw[H];rfl
 have e0:L[30]?=B (S bc d6 dq):=by rw[H];rfl
 clear H;obtain⟨P1,fb,ey,p1,P2,fc,ez,p2,rfl,rfl,_,_⟩:=CF bl;obtain⟨Q1,fd,eA,q1,Q2,fe,eB,q2,rfl,rfl,_,_⟩:=CF bn;rw[bm]at aD;obtain rfl:3=b4:=aD.1;have cn:=A_ (by unfold E3j;rw[bm];rfl:E3j x=A5x T b1 W);have cB:=A_ b0;have cx:=A_ aD;have aV:=A_ aR;have aW:=A_ aS;have aX:=A_ aT;have aY:=A_ aU;have bc:=A_ bX;have cy:=A_ bl;have cA:=A_ bn;clear b3 bl bn bm b0 aD aR aS aT aU bX;go_enter func189,ntmps189;go_upto_region 1 with fail;refine Code.new5 λcZ N=>?_;have bu:=A_ N.b;have aL:=A_ N.k0;have cD:=A_ N.k1;have cG:=A_ N.k2;have cH:=A_ N.k3;have cI:=A_ N.k4;have aM:=A_ N.z;clear N;obtain⟨ca,ax⟩:=bxL aL;refine X_ sI ?_;dsimp only[DN,DO,DQ];refine D_ (CH (U_ 1)) ?_ ?_;·intro O E D h u;obtain⟨aa,ab⟩:=F_ h;simp at u;refine G_ ?_;exact H_ (A0l 1 D oG)
 refine D_ (CH (U_ 2)) ?_ ?_;·intro O E D h u;obtain⟨aa,ab⟩:=F_ h;simp at u;refine G_ ?_;exact H_ (A0l 2 D oG)
 iterate 2 refine C_ _ ?_
 refine D_ (CH (A0d (U_ 2) x.area)) ?_ ?_;·intro O E D h u;obtain⟨aa,ab⟩:=F_ h;simp at u;refine G_ ?_;obtain⟨t,_⟩:=u;exact H_ (A0n _ _ (U_ 2) x.area _ _ D (by first|exact t.1|exact t.1.1) (aX.o.below (BH bu.o h)))
 refine D_ (CH (byP x)) ?_ ?_;·intro O E D h u;obtain⟨aa,ab⟩:=F_ h;simp at u;refine G_ ?_;obtain⟨aI,ay⟩:=u;exact H_ (A8m _ _ (U_ 1) (A0d (U_ 2) x.area) _ _ D aI.1 (by first|exact ay.1|exact ay.1.1))
 refine A1p #[J AH,S I 0 0,S I 0 0] 39 ?_ ?_;·intro O E D h u;refine⟨gD,?_⟩;go_simp
 intro O E wa h u (ak:Hid _);simp at u;have az:=u.2.2.2.2.2.1;have aF:=u.2.2.2.2.2.2;obtain⟨⟨Y,-⟩,ai⟩:=az;obtain⟨⟨aD,aJ,ag,ae⟩,af⟩:=aF;obtain⟨cN,d9,dt,_,cO,ea,du,_,al,-,_,_⟩:=CF Y;rw[al]at Y;rw[ag]at af;have aA:=(af aD sI).1;have ao:=A_ (show ∀ b∈E 5,b≠aD from λb G e=>by have:=ak 5 6 dE dE dE b G;rw[ag]at this;simp[e]at this);have aj:=A_ Y;have aq:=A_ ae;have am:=A_ h;have ad:=A_ (show ∀ b∈E 5,cZ.1.size<=b from λb G=>(ai b G).1);obtain⟨aG,aH,aE⟩:=bx ae;generalize E 5=r0 at *;clear u ak Y ai af ag ae h ax;go_upto_region 2 with fail;obtain⟨a3,ac,au,ar,an,aw⟩:=D1j (J (byP x).1.1) (S cN d9 dt) (S cO ea du) aq am (by have:=aA;(try simp at this);omega);rw[ac];have a9:=A_ an;have bE:=A_ au;have ah:=A_ (aj.keep λb G=>ar b (ao b G));have ap:=ad;have bH:=a9;clear ac au ar an ao aj aq am ad al aJ aG aH aE;have aC:=A_ aw;clear aw;have c1:=A_ (by have:=aM.o;have:=a9.size;  omega:w.1.size+5<=a3.1.size);have bv:=A_ (BH bu a9);have bz:=ah;have ev:=A_ (show ∀ b∈r0,w.1.size+5<=b from λb G=>by have:=ap b G;have:=aM.o;omega);clear ah ap aC;obtain⟨fo,ax⟩:=bxL (K_ aL bH);go_wp2_with fail;refine(C8w _ _ T b1 W _ a3 (cx.below bv) cB).mono ?_;rintro _ wb ⟨fn,em,rfl,bo,bZ,bY⟩;obtain⟨bK,b5,bT,_,bL,b6,bU,_,bM,b7,bV,_,bN,b8,bW,_,rfl,-,_,_,_,_⟩:=EW bo;have bB:=A_ bo;have a1:=A_ bY;have cK:=A_ (show ∀ b∈em,a3.1.size<=b from λb G=>(bZ.2 b G).1);clear bo bZ bY ax;go_upto_region 3 with fail;obtain⟨a4,ac⟩:∃ X,X=wb.alloc (BG #[J (A5x T b1 W).x.1.1,S bK b5 bT,S bL b6 bU,J (A5x T b1 W).y.1.1,S bM b7 bV,S bN b8 bW] 41):=⟨_,rfl⟩
 have ba:=A_ (by rw[ac];exact BP _:Bw wb a4);obtain⟨aR,a5⟩:∃ g,wb.1.size=g:=⟨_,rfl⟩
 have cJ:=A_ (by rw[ac,<-a5];exact DB wb _:a4.1[aR]?=B (BG #[J (A5x T b1 W).x.1.1,S bK b5 bT,S bL b6 bU,J (A5x T b1 W).y.1.1,S bM b7 bV,S bN b8 bW] 41));have ah:=A_ (bB.below ba);have aA:a3.1.size<=aR:=by rw[<-a5];exact a1.size
 have aB:=A_ (a1.trans (ba.mono a1.size));have a2:=A_ (BH bH aB);rw[<-ac];simp only[a5];clear ac a5 ba bB a1 cK;have bQ:=A_ (by have:=aM.o;have:=aB.size;have:=c1.o;omega:w.1.size+5<=a4.1.size);have aN:=A_ (BH bv aB);have bA:=ah;clear ah;obtain⟨ep,-,bq⟩:=bx (K_ bE aB);obtain⟨fs,-,dJ⟩:=bx (K_ cG a2);obtain⟨ft,-,dL⟩:=bx cJ;obtain⟨en,ax⟩:=bxL (K_ aL a2);obtain⟨fr,-,dG⟩:=bx (K_ cD a2);refine X_ sI ?_;dsimp only[DN,DO,DQ];iterate 5 refine C_ _ ?_
 refine D_ (CH (A4a (A5x T b1 W) x.b)) ?_ ?_;·intro O E D h u;obtain⟨aa,ab⟩:=F_ h;simp at u;refine G_ ?_;exact H_ (A1u _ _ (A5x T b1 W) x.b _ _ D (bA.below h) (aV.below (BH aN h)))
 refine D_ (CH (A0v Z (A4a (A5x T b1 W) x.b))) ?_ ?_;·intro O E D h u;obtain⟨aa,ab⟩:=F_ h;simp at u;refine G_ ?_;obtain⟨_,t⟩:=u;exact H_ (A1n _ _ Z (A4a (A5x T b1 W) x.b) _ _ D (cA.o.below (BH aN.o h)) (by first|exact t.1|exact t.1.1))
 iterate 4 refine C_ _ ?_
 refine D_ (CH (A4a (A5x T b1 W) x.c)) ?_ ?_;·intro O E D h u;obtain⟨aa,ab⟩:=F_ h;simp at u;refine G_ ?_;exact H_ (A1u _ _ (A5x T b1 W) x.c _ _ D (bA.below h) (aW.below (BH aN h)))
 refine D_ (CH (A0v first (A4a (A5x T b1 W) x.c))) ?_ ?_;·intro O E D h u;obtain⟨aa,ab⟩:=F_ h;simp at u;refine G_ ?_;obtain⟨_,t⟩:=u;exact H_ (A1n _ _ first (A4a (A5x T b1 W) x.c) _ _ D (cy.o.below (BH aN.o h)) (by first|exact t.1|exact t.1.1))
 refine D_ (CH (A4a (A0v Z (A4a (A5x T b1 W) x.b)) (A0v first (A4a (A5x T b1 W) x.c)))) ?_ ?_;·intro O E D h u;obtain⟨aa,ab⟩:=F_ h;simp at u;refine G_ ?_;obtain⟨aI,ay⟩:=u;exact H_ (A1u _ _ (A0v Z (A4a (A5x T b1 W) x.b)) (A0v first (A4a (A5x T b1 W) x.c)) _ _ D aI.1 (by first|exact ay.1|exact ay.1.1))
 refine D_ (CH (sP x first Z)) ?_ ?_;·intro O E D h u;obtain⟨aa,ab⟩:=F_ h;simp at u;refine G_ ?_;obtain⟨_,t⟩:=u;rw[show sP x first Z=A0v (byP x) (A4a (A0v Z (A4a (A5x T b1 W) x.b)) (A0v first (A4a (A5x T b1 W) x.c))) by rw[sP,cn.o]];exact H_ (A1n _ _ (byP x) (A4a (A0v Z (A4a (A5x T b1 W) x.b)) (A0v first (A4a (A5x T b1 W) x.c))) _ _ D (bz.o.below (BH aB.o h)) (by first|exact t.1|exact t.1.1))
 refine A1p #[J AH,S I 0 0,S I 0 0,J AH,S I 0 0,S I 0 0] 41 ?_ ?_;·intro O E D h u;refine⟨gD,?_⟩;go_simp
 intro O E wa h u (ak:Hid _);simp at u;have az:=u.2.2.2.2.2.2.2.2.2.2.2.2.2.2.1;have aF:=u.2.2.2.2.2.2.2.2.2.2.2.2.2.2.2;obtain⟨⟨Y,-⟩,ai⟩:=az;obtain⟨⟨aS,aJ,ag,ae⟩,af⟩:=aF;obtain⟨cP,eb,dv,_,cQ,ec,dw,_,cR,ed,dx,_,cU,ee,dy,_,al,-,_,_,_,_⟩:=EW Y;rw[al]at Y;rw[ag]at af;have aA:=(af aS sI).1;have ao:=A_ (show ∀ b∈E 14,b≠aS from λb G e=>by have:=ak 14 15 dE dE dE b G;rw[ag]at this;simp[e]at this);have aj:=A_ Y;have aq:=A_ ae;have am:=A_ h;have ad:=A_ (show ∀ b∈E 14,a4.1.size<=b from λb G=>(ai b G).1);obtain⟨aG,aH,aE⟩:=bx ae;generalize E 14=ej at *;clear u ak Y ai af ag ae h bq dJ dL ax dG;go_upto_region 4 with fail;obtain⟨bO,ac,au,ar,an,aw⟩:=D6m (J (sP x first Z).x.1.1) (S cP eb dv) (S cQ ec dw) (J (sP x first Z).y.1.1) (S cR ed dx) (S cU ee dy) aq.o am.o (by have:=aA;(try simp at this);omega);rw[ac];have aP:=A_ an;have cE:=A_ au;have ah:=A_ (aj.keep λb G=>ar b (ao b G));have ap:=ad;have bI:=A_ (BH a2 aP);clear ac au ar an ao aj aq am ad al aJ aG aH aE;have aC:=A_ aw;clear aw;have bR:=A_ (by have:=aM.o;have:=aP.size;have:=bQ.o;omega:w.1.size+5<=bO.1.size);have a7:=A_ (BH aN aP);have cz:=ah;have eu:=A_ (show ∀ b∈ej,w.1.size+5<=b from λb G=>by have:=ap b G;have:=bQ.o;omega);clear ah ap aC;obtain⟨ep,-,bq⟩:=bx (K_ bE (BH aB aP));obtain⟨en,ax⟩:=bxL (K_ aL bI);refine X_ sI ?_;dsimp only[DN,DO,DQ];iterate 5 refine C_ _ ?_
 refine D_ (CH (A4a x.c x.b)) ?_ ?_;·intro O E D h u;obtain⟨aa,ab⟩:=F_ h;simp at u;refine G_ ?_;exact H_ (A1u _ _ x.c x.b _ _ D (aW.below (BH a7 h)) (aV.below (BH a7 h)))
 refine D_ (CH (dP x)) ?_ ?_;·intro O E D h u;obtain⟨aa,ab⟩:=F_ h;simp at u;refine G_ ?_;obtain⟨_,t⟩:=u;exact H_ (A1n _ _ (byP x) (A4a x.c x.b) _ _ D (bz.o.below (BH (BH aB.o aP.o) h)) (by first|exact t.1|exact t.1.1))
 refine A1p #[J AH,S I 0 0,S I 0 0,J AH,S I 0 0,S I 0 0] 41 ?_ ?_;·intro O E D h u;refine⟨gD,?_⟩;go_simp
 intro O E wa h u (ak:Hid _);simp at u;have az:=u.2.2.2.2.2.2.1;have aF:=u.2.2.2.2.2.2.2;obtain⟨⟨Y,-⟩,ai⟩:=az;obtain⟨⟨aT,aJ,ag,ae⟩,af⟩:=aF;obtain⟨cV,ef,dz,_,cW,eg,dA,_,cX,eh,dB,_,cY,ei,dD,_,al,-,_,_,_,_⟩:=EW Y;rw[al]at Y;rw[ag]at af;have aA:=(af aT sI).1;have ao:=A_ (show ∀ b∈E 6,b≠aT from λb G e=>by have:=ak 6 7 dE dE dE b G;rw[ag]at this;simp[e]at this);have aj:=A_ Y;have aq:=A_ ae;have am:=A_ h;have ad:=A_ (show ∀ b∈E 6,bO.1.size<=b from λb G=>(ai b G).1);obtain⟨aG,aH,aE⟩:=bx ae;generalize E 6=ek at *;clear u ak Y ai af ag ae h bq ax;go_upto_region 5 with fail;obtain⟨bP,ac,au,ar,an,aw⟩:=D6m (J (dP x).x.1.1) (S cV ef dz) (S cW eg dA) (J (dP x).y.1.1) (S cX eh dB) (S cY ei dD) aq am (by have:=aA;(try simp at this);omega);rw[ac];have aQ:=A_ an;have bD:=A_ au;have ah:=A_ (aj.keep λb G=>ar b (ao b G));have ap:=ad;have bJ:=A_ (BH bI aQ);clear ac au ar an ao aj aq am ad al aJ aG aH aE;have aC:=A_ aw;clear aw;have bS:=A_ (by have:=aM.o;have:=aQ.size;have:=bR.o;omega:w.1.size+5<=bP.1.size);have aO:=A_ (BH a7 aQ);have aZ:=ah;have et:=A_ (show ∀ b∈ek,w.1.size+5<=b from λb G=>by have:=ap b G;have:=bR.o;omega);clear ah ap aC;obtain⟨eo,-,bp⟩:=bx bD;obtain⟨fp,-,dH⟩:=bx (K_ cE aQ);obtain⟨ca,ax⟩:=bxL (K_ aL bJ);refine X_ sI ?_;dsimp only[DN,DO,DQ];iterate 4 refine C_ _ ?_
 refine D_ (CH (A1k (dP x) (sP x first Z))) ?_ ?_;·intro O E D h u;obtain⟨aa,ab⟩:=F_ h;simp at u;refine G_ ?_;exact H_ (A8z _ _ (dP x) (sP x first Z) _ _ D (aZ.o.below h) (cz.o.below (BH aQ.o h)))
 refine D_ (CH (A0d x.area (A1k (dP x) (sP x first Z)))) ?_ ?_;·intro O E D h u;obtain⟨aa,ab⟩:=F_ h;simp at u;refine G_ ?_;obtain⟨_,t⟩:=u;exact H_ (A0n _ _ x.area (A1k (dP x) (sP x first Z)) _ _ D (aX.o.below (BH aO.o h)) (by first|exact t.1|exact t.1.1))
 iterate 2 refine C_ _ ?_
 refine D_ (CH (A3u (A0d x.area (A1k (dP x) (sP x first Z))) x.k)) ?_ ?_;·intro O E D h u;obtain⟨aa,ab⟩:=F_ h;simp at u;refine G_ ?_;obtain⟨t,_⟩:=u;exact H_ (A8m _ _ (A0d x.area (A1k (dP x) (sP x first Z))) x.k _ _ D (by first|exact t.1|exact t.1.1) (aY.o.below (BH aO.o h)))
 iterate 5 refine C_ _ ?_
 refine D_ (CH (A1k (dP x) x.grad)) ?_ ?_;·intro O E D h u;obtain⟨aa,ab⟩:=F_ h;simp at u;refine G_ ?_;exact H_ (A8z _ _ (dP x) x.grad _ _ D (aZ.below h) (bc.below (BH aO h)))
 refine D_ (CH (A0d x.area (A1k (dP x) x.grad))) ?_ ?_;·intro O E D h u;obtain⟨aa,ab⟩:=F_ h;simp at u;refine G_ ?_;obtain⟨_,t⟩:=u;exact H_ (A0n _ _ x.area (A1k (dP x) x.grad) _ _ D (aX.o.below (BH aO.o h)) (by first|exact t.1|exact t.1.1))
 refine D_ (CH (mkR 1 3)) ?_ ?_;·intro O E D h u;obtain⟨aa,ab⟩:=F_ h;simp at u;refine G_ ?_;exact H_ (A7u 1 3 D oG oG dE)
 refine D_ (CH (A0d (A0d x.area (A1k (dP x) x.grad)) (mkR 1 3))) ?_ ?_;·intro O E D h u;obtain⟨aa,ab⟩:=F_ h;simp at u;refine G_ ?_;obtain⟨aI,ay⟩:=u;exact H_ (A0n _ _ (A0d x.area (A1k (dP x) x.grad)) (mkR 1 3) _ _ D aI.1 (by first|exact ay.1|exact ay.1.1))
 refine D_ (CH (B0i x first Z)) ?_ ?_;·intro O E D h u;obtain⟨aa,ab⟩:=F_ h;simp at u;refine G_ ?_;obtain⟨aI,ay⟩:=u;exact H_ (A0x _ _ (A3u (A0d x.area (A1k (dP x) (sP x first Z))) x.k) (A0d (A0d x.area (A1k (dP x) x.grad)) (mkR 1 3)) _ _ D aI.1 (by first|exact ay.1|exact ay.1.1))
 refine A1p #[J AH,S I 0 0,S I 0 0] 39 ?_ ?_;·intro O E D h u;refine⟨gD,?_⟩;go_simp
 intro O E wa h u (ak:Hid _);simp at u;have az:=u.2.2.2.2.2.2.2.2.2.2.2.2.2.2.2.2.2.2.1;have aF:=u.2.2.2.2.2.2.2.2.2.2.2.2.2.2.2.2.2.2.2;obtain⟨⟨Y,-⟩,ai⟩:=az;obtain⟨⟨aU,aJ,ag,ae⟩,af⟩:=aF;obtain⟨bg,br,bi,_,bh,bt,bj,_,al,-,_,_⟩:=CF Y;rw[al]at Y;rw[ag]at af;have aA:=(af aU sI).1;have ao:=A_ (show ∀ b∈E 18,b≠aU from λb G e=>by have:=ak 18 19 dE dE dE b G;rw[ag]at this;simp[e]at this);have aj:=A_ Y;have aq:=A_ ae;have am:=A_ h;have ad:=A_ (show ∀ b∈E 18,bP.1.size<=b from λb G=>(ai b G).1);obtain⟨aG,aH,aE⟩:=bx ae;generalize E 18=el at *;clear u ak Y ai af ag ae h bp dH ax;go_upto_region 6 with fail;obtain⟨c0,ac,au,ar,an,aw⟩:=D1j (J (B0i x first Z).1.1) (S bg br bi) (S bh bt bj) aq.o am.o (by have:=aA;(try simp at this);omega);rw[ac];have aK:=A_ an;have cF:=A_ au;have ah:=A_ (aj.keep λb G=>ar b (ao b G));have ap:=ad;have be:=A_ (BH bJ aK);clear ac au ar an ao aj aq am ad al aJ aG aH aE;have aC:=A_ aw;clear aw;have c2:=A_ (by have:=aM.o;have:=aK.size;have:=bS.o;omega:w.1.size+5<=c0.1.size);have a8:=A_ (BH aO aK);have bd:=ah;have bf:=A_ (show ∀ b∈el,w.1.size+5<=b from λb G=>by have:=ap b G;have:=bS.o;omega);clear ah ap aC;obtain⟨fq,-,dI⟩:=bx cF;obtain⟨eo,-,bp⟩:=bx (K_ bD aK);obtain⟨ca,ax⟩:=bxL (K_ aL be);refine W_ 10 kR kR kR kR kR ?_;simp only[List.take_succ_cons,List.take_zero,List.drop_succ_cons,FF];iterate 5 refine C_ _ ?_
 refine D_ (CH (A1k (dP x) (dP x))) ?_ ?_;·intro O E D h u;obtain⟨aa,ab⟩:=F_ h;simp at u;refine G_ ?_;exact H_ (A8z _ _ (dP x) (dP x) _ _ D (aZ.below (BH aK h)) (aZ.below (BH aK h)))
 refine D_ (CH (A0d x.area (A1k (dP x) (dP x)))) ?_ ?_;·intro O E D h u;obtain⟨aa,ab⟩:=F_ h;simp at u;refine G_ ?_;obtain⟨_,t⟩:=u;exact H_ (A0n _ _ x.area (A1k (dP x) (dP x)) _ _ D (aX.o.below (BH a8.o h)) (by first|exact t.1|exact t.1.1))
 iterate 2 refine C_ _ ?_
 refine D_ (CH (B3c x)) ?_ ?_;·intro O E D h u;obtain⟨aa,ab⟩:=F_ h;simp at u;refine G_ ?_;obtain⟨t,_⟩:=u;exact H_ (A8m _ _ (A0d x.area (A1k (dP x) (dP x))) x.k _ _ D (by first|exact t.1|exact t.1.1) (aY.o.below (BH a8.o h)))
 intro O E wa h u (ak:Hid _);simp at u;have a6:=u.1;have az:=u.2.2.2.2.2.2.2.2.2;obtain⟨⟨Y,-⟩,ai⟩:=az;obtain⟨cL,d7,dr,_,cM,d8,ds,_,al,-,_,_⟩:=CF Y;rw[al]at Y;have aj:=A_ Y;have am:=A_ h;have ad:=A_ (show ∀ b∈E 9,w.1.size+5<=b from λb G=>by have:=(ai b G).1;have:=c2.o;omega);have bF:=A_ (K_ (K_ cH be) h);have bG:=A_ (K_ (K_ cI be) h);obtain⟨fu,fw,-⟩:=bx bF;obtain⟨fx,fy,-⟩:=bx bG;have e7:w.1.size+3<wa.1.size:=E_ bF;have e8:w.1.size+4<wa.1.size:=E_ bG;have bd:=A_ (bd.below h);have ch:=A_ (BH a8 h);have fv:O 0=BJ #[J (B0i x first Z).1.1,S bg br bi,S bh bt bj]:=by first|exact a6.1.1|exact a6.1|exact a6
 clear a6;generalize E 9=ff at *;clear u ak Y ai h dI bp ax;go_wp2;refine CK (v:=.tuple #[BJ #[J (B0i x first Z).1.1,S bg br bi,S bh bt bj],BJ #[J (B3c x).1.1,S cL d7 dr,S cM d8 ds]]) (by simp[CO,results189,go_sem, *]) rfl ?_;refine⟨_,_,_,_,rfl,bd.keep λb G=>(A0p b ?_).trans (A0p b ?_),aj.keep λb G=>(A0p b ?_).trans (A0p b ?_),λb G=>?_,(QC (p:=⟨w.1.size+4,2,I⟩) (QC (p:=⟨w.1.size+4,1,I⟩) (QC (p:=⟨w.1.size+4,0,I⟩) (QC (p:=⟨w.1.size+3,2,I⟩) (QC (p:=⟨w.1.size+3,1,I⟩) (QC (p:=⟨w.1.size+3,0,I⟩) ch (NU _ _) _) (NU _ _) _) (NU _ _) _) (NU _ _) _) (NU _ _) _) (NU _ _) _)⟩;·have:=bf b G;omega
 ·have:=bf b G;omega
 ·have:=ad b G;omega
 ·have:=ad b G;omega
 rcases DV.1 G with bk|bk;·have:=bf b bk;omega
 have:=ad b bk;omega
theorem E6l {w:AD} {A:Option AJ} {n c:Nat} {xs:List Bool} {bs:List Nat} (h:Sl w A n c xs bs) {k:Nat} (H:k<n) :
  ∃ (b off:Nat) (x:Bool),A=B ⟨b,off,I⟩/\b<w.1.size/\xs[k]?=B x/\w.cell? ⟨b,off+k,I⟩=B (J x):=by
 obtain⟨b,off,x,T,W,D,E,O,G,⟨rfl,rfl⟩,X⟩:=Sl.getAt h H;have u:=G 0 _ rfl;rw[show k*DZ Bool+0=k from Nat.mul_one k]at u;exact⟨b,off,x,D,E,O,u⟩
theorem B9i {w:AD} {A:Option AJ} {n c:Nat} {xs:List Int} {bs:List Nat} (h:Sl w A n c xs bs) {k:Nat} (O:k<n) :
  ∃ (b off:Nat) (x:Int),A=B ⟨b,off,I⟩/\b<w.1.size/\xs[k]?=B x/\w.cell? ⟨b,off+k,I⟩=B (RH K x)/\I64 x:=by
 obtain⟨b,off,x,W,X,D,E,T,G,⟨rfl,rfl,H⟩,Y⟩:=Sl.getAt h O;have u:=G 0 _ rfl;rw[show k*DZ Int+0=k from Nat.mul_one k]at u;exact⟨b,off,x,D,E,T,u,H⟩
theorem BRow.sl {w:AD} {base g n:Nat} {u:List Bool} (h:BRow w base g n u):∃ bs,Sl w (B ⟨g,0,I⟩) n n u bs/\∀ b∈bs,b=g:=by
 have G:u.length=n:=by have:=h.1;simpa using this
 have ab:u.length=(u.map AU.bool).length:=sI;have T:Filled (α:=Bool) w (u.map J) u (u.map λ_=>[]):=by refine⟨sI,by simp[DZ],λk x s H D=>?_⟩;rw[List.getElem?_map,H]at D;simp at D;subst D;obtain⟨W,Z⟩:=DM.1 H;refine⟨?_,rfl⟩;rw[show k*DZ Bool=k from Nat.mul_one k,show(DZ Bool)=1 from rfl];rw[List.drop_eq_getElem_cons (by simpa using W)];simp[Z]
 obtain⟨A,c,bs,Y,D,X⟩:=T.sl (α:=Bool) h G;injection Y with e1 e2 e3;subst e1;subst e3;refine⟨bs,D,λb E=>?_⟩;rcases X with⟨_,rfl⟩|⟨g',e,rfl,_⟩;·simp at E
 have O:g=g':=by simpa[Value.ownBlock]using e
 have aa:((u.map λ_=>([]:List Nat))).flatten=[]:=by rw[List.flatten_eq_nil_iff];intro l G;obtain⟨_,_,rfl⟩:=List.mem_map.1 G;rfl
 rw[aa]at E;simp at E;rw[E,O]
def E5m (w:AD) (n:Nat) (M:List Bool) (e:Ending) (w':AD):Prop:=∃ g,e=.returned (S (B ⟨g,0,I⟩) n n)/\BRow w' w.1.size g n M/\Bw w w'
attribute [local simp] MP.slbox
theorem C4v (A:Option AJ) (n c:Nat) (M:List Bool) (bs:List Nat) (w:AD) (E:Sl w A n c M bs) (ax:n<=144) :
  BL prog 234 #[S A n c] w (A0w w (A9l M)):=by
 have ag:=A_ E;have ay:(n:Int)<=144:=oS;obtain⟨ao,ah,ai,aj,ak⟩:=FB A6b;have ae:=A_ (by rw[A9l,E.1]:A9l M=A3o M n);clear E;go_enter func234,ntmps234;go_wp2_with fail;have O:=A_ (Pend.start (α:=Int) (e:=3) (DI w.1.size w));go_loopg [3,9] n (λg s3 s w4=>∃ (i gB cap:Nat),i+g=n/\s=RH K i/\s3=S (B ⟨gB,0,I⟩) (A3o M i).length cap/\Hid (Pend w w 3 w4 gB (A3o M i).length cap (A3o M i)));case atStart=>exact⟨0,w.1.size,0,oS,rfl,rfl,O.o⟩
 case round =>
  clear O;obtain⟨i,gB,cap,X,rfl,rfl,h⟩:=hrel;have ad:=A_ h.bb;rename AD=>w4;rcases CG i n with D|D
  ·have am:(i:Int)<n:=oS
   have aw:(0:Int)<=i:=oS;obtain⟨g,rfl⟩:∃ g,gk=g+1:=⟨gk - 1,oS⟩
   have W:=A_ (by omega:i+1+g=n);have az:=B7j M i;have ab:=A_ (by unfold BS;omega:(A3o M i).length+1<=BS);have ac:=A_ (by omega:((A3o M i).length+1)*8<=140737488355328);obtain⟨aq,aA,f,rfl,ar,Z,au⟩:=E6l (ag.below ad) D;have G:=A_ (A0e (d:=AH) Z);clear X D Z;cases f
   ·have u:=A_ (by rw[A3o,G.o];rfl:A3o M (i+1)=A3o M i)
    go_wp2_with fail;go_roundg g;case measure=>omega
    case rel=>exact⟨i+1,gB,cap,W.o,gN,by rw[u.o],by rw[u.o];exact h⟩
   have u:=A_ (by rw[A3o,G.o];rfl:A3o M (i+1)=A3o M i++[(i:Int)]);have H:=A_ (by rw[u.o];simp:(A3o M (i+1)).length=(A3o M i).length+1);have aa:=A_ (show Dat.at_ (α:=Int) (w4.alloc (BG #[RH K i] 3)) [RH K i] (i:Int) []from⟨rfl,rfl,by constructor<;>omega⟩);go_wp2_with (at_builtin;refine A1v rfl _ _ 35 rfl 3 ao (RH K 0) 8 underlying35 ah ai aj ak rfl h (BP _) gD ⟨w4.1.size,0,I⟩ 1 [RH K i] (i:Int) [] gD (A0a (DB w4 _)) aa.o ⟨QE,λb hb=>by simp at hb⟩ (λb hb=>by simp at hb) ab.o ac.o ?_;intro g' T ap Y al an);have af:=A_ (by rw[H.o,u.o];exact Y:Pend w w 3 ap g' (A3o M (i+1)).length T (A3o M (i+1)));clear Y al an h;go_wp2_with fail;go_roundg g;case measure=>omega
   case rel=>exact⟨i+1,g',T,W.o,gN,by rw[H.o],af⟩
  obtain rfl:i=n:=oS;have am:¬ ((i:Int)<i):=oS;clear X D;go_wp2;go_ret;rw[ae.o];exact h.done
theorem B9r (A:Option AJ) (m c:Nat) (L:List Int) (bs:List Nat) (n:Nat) (w:AD) (W:Sl w A m c L bs) (aG:m<=144) (aI:n<=144) :
  BL prog 235 #[S A m c,RH K n] w (E5m w n (B0a n L)):=by
 have an:=A_ W;have aH:(m:Int)<=144:=oS;have aJ:(n:Int)<=144:=oS;obtain⟨ai,ap,ar,au,aw⟩:=FB D1p;have b2:=A_ (by rw[aw];omega:ai.bytes*n<=281474976710656);have ao:=A_ (by unfold BS;omega:n<=BS);have am:=A_ (by rw[B0a,W.1]:B0a n L=A6i n L m);have ay:=A_ (show ∀ b∈bs,b<w.1.size from W.lt);clear W;go_enter func235,ntmps235;go_upto_region 1 with fail;go_upto_region 2 with(at_make;(refine wpList_make_full _ rfl _ _ 107 rfl w.1.size 4 ai (J AH) 1 underlying107 ap ar au .i64 .i64 _ _ n rfl rfl rfl rfl b2 ao (CE _) ?_);intro ax Z ae)
 rw[B6q]at Z;have ad:=(DI w.1.size w).grown ae sI (by intro k O;cases O);have ab:=A_ (show BRow ax w.1.size w.1.size n (A6i n L 0)from Z);have ak:=A_ ad;clear Z ae ad;go_wp2_with fail;go_loopg [12] m (λg s wr=>∃ k:Nat,k+g=m/\s=RH K k/\Hid (BRow wr w.1.size w.1.size n (A6i n L k))/\Hid (Bw w wr));case atStart=>exact⟨0,oS,rfl,ab.o,ak.o⟩
 case round =>
  clear ab;obtain⟨k,O,rfl,E,H⟩:=hrel;have aF:=E.lt;rcases CG k m with T|T
  ·have aq:(k:Int)<m:=oS
   have aD:(0:Int)<=k:=oS;obtain⟨g,rfl⟩:∃ g,gk=g+1:=⟨gk - 1,oS⟩
   have af:=A_ (by omega:k+1+g=m);obtain⟨az,aL,x,rfl,aA,ah,aB,aC⟩:=B9i (an.below H) T;have ac:=A_ (show L.getD k 0=x from A0e ah);have D:=A0s x 0 ((n:Int) - 1) wr;clear O T ah;cases h:inB 0 x ((n:Int) - 1)
   ·have Y:=A_ (by rw[A6i,ac.o,h];rfl:A6i n L (k+1)=A6i n L k)
    rw[h]at D;clear h;go_wp2_with fail;refine D.mono ?_;rintro _ aa ⟨rfl,u⟩;have G:=A_ (E.below u);have X:=A_ (BH H u);clear u E D;go_wp2_with fail;go_roundg g;case measure=>omega
    case rel=>exact⟨k+1,af.o,gN,by rw[Y.o];exact G,X⟩
   have ag:0<=x/\x<n:=by unfold inB at h;simp at h;omega
   obtain⟨ag,aK⟩:=ag;have Y:=A_ (by rw[A6i,ac.o,h];rfl:A6i n L (k+1)=(A6i n L k).set x.toNat AF);rw[h]at D;clear h;go_wp2_with fail;refine D.mono ?_;rintro _ aa ⟨rfl,u⟩;have G:=A_ (E.below u);have X:=A_ (BH H u);clear u E D;obtain⟨aM,aN⟩:=G.cell (j:=x.toNat) (f:=(A6i n L k).getD x.toNat AH) (by rw[EH,DU (by rw[B3f];omega)];rfl);have aE:=G.lt;have aj:=A_ (by rw[Y.o];exact G.set _ _:BRow (aa.setCell ⟨w.1.size,x.toNat,I⟩ (J AF)) w.1.size w.1.size n (A6i n L (k+1)));have al:=A_ (show Bw w (aa.setCell ⟨w.1.size,x.toNat,I⟩ (J AF))from X.setCell (p:=⟨w.1.size,x.toNat,I⟩) (CE _) _);go_wp2_with fail;go_roundg g;case measure=>omega
   case rel=>exact⟨k+1,af,gN,aj,al⟩
  obtain rfl:k=m:=oS;have aq:¬ ((k:Int)<k):=oS;clear O T;go_wp2;go_ret;rw[am.o];exact⟨_,rfl,E,H⟩
theorem RR.take {bad:Nat->Prop} {w:AD} {g n m cap:Nat} {xs:List TRat} (h:RR bad w g n cap xs) (ak:m<=n):RR bad w g m cap (xs.take m):=by
 obtain⟨cells,fss,⟨ai,X⟩,⟨k1,k2,ah⟩,aj,Y,Z⟩:=h;have G:(xs.take m).length=m:=oR;refine⟨cells.take (m*3),fss.take m,⟨oR,?_⟩,⟨by simp[k1],by rw[G];simp[DZ];omega,?_⟩,G,?_,Z⟩
 ·rcases X with⟨E,_⟩|⟨g',O,T,E,u,ad,al,ab,ac,ag⟩
  ·cases E
  refine .inr ⟨g',O,T,?_,u,ad,oS,ab,ac,?_⟩;·injection E with e1 e2 e3;rw[e1,e3]
  rw[<-ag,List.take_take,OI oS]
 ·intro k x W b D
  rw[List.getElem?_take]at b D;split at b;·rename_i af;rw[if_pos af]at D;have:=ah k x W b D;have e:DZ TRat=3:=rfl;rw[e]at this ⊢;rw[List.drop_take,List.take_take,OI oS];exact this
  cases b
 intro H u;obtain⟨gs,ae,aa⟩:=LG.1 u;exact Y H (LG.2 ⟨gs,List.mem_of_mem_take ae,aa⟩)
end Go.Proofs.YtjcanieccnljfaaGreat.X
namespace Go
open Go.RowKit Go.XB Go.Proofs.YtjcanieccnljfaaGreat.X
theorem E1y {P:FQ} {bad:Nat->Prop} {wr wa:AD} {gB k cap:Nat} {ps:List TRat} {aj:Array CZ} {rest:List CZ} {o:CZ} {a:Act} {Q:Exit->Act->AD->Prop} (an:o.guard=I) (s x:Operand) (t:CV)
  (ap:o.op=.call { callee:=.builtin .append,args:=#[s,x],argTypes:=#[t,t] })
  (i:TypeInfo) (z:AU) (X:Nat) (ax:P.underlying t=B (.slice 39)) (hi:P.info? 39=B i) (az:i.zero=B z)
  (aw:i.size=3) (al:i.bytes=X) (aA:z.cells.size=3) (ar:RR bad wr gB k cap ps) (Z:Bw wr wa) (au:a.eval s=S (B ⟨gB,0,I⟩) k cap)
  (W:AJ) (c:Nat) (cs:List AU) (pt:TRat) (zb:List Nat) (ay:a.eval x=S (B W) 1 c) (ao:∀ j u,cs[j]?=B u->wa.cell? (W.add j)=B u)
  (T:Dat.at_ wa cs pt zb) (ad:∀ b∈zb,¬ bad b) (ak:k+1<=BS) (am:(k+1)*X<=140737488355328)
  (h:∀ g' cap' w8,RR (λb=>b=g'\/bad b) w8 g' (k+1) cap' (ps++[pt])->wa.grownBy w8 (B gB)->(g'=gB\/g'=wa.1.size)->GH P aj Q rest (a.put o.dst (S (B ⟨g',0,I⟩) (k+1) cap')) w8):GH P aj Q (o::rest) a wa:=by
 obtain⟨cells,fss,ae,af,ag,Y,O⟩:=ar;have aB:=Z.size;refine A1m an s x t ap 0 39 i z 3 X ax hi az aw al aA dE gB k cap cells au (I_ ae Z) W 1 c cs ay (by rw[KL];exact Dat.len T) ao (Dat.one T) ak am (EO _) ?_;intro g' cap' w8 aq ab ac;refine h g' cap' w8 ?_ ab ac;have aa:∀ b∈fss.flatten,b<wr.1.size:=af.lt;have k1:∀ b∈fss.flatten,w8.1[b]?=wr.1[b]?:=λb G=>(ab.block b (by have:=aa b G;omega) (by intro e;injection e with e;exact Y b G (e ▸ O))).trans (Z.block b (aa b G));have ai:∀ b∈zb,b<wa.1.size:=Dat.lt T;have k2:∀ b∈zb,w8.1[b]?=wa.1[b]?:=λb G=>ab.block b (ai b G) (by intro e;injection e with e;exact ad b G (e ▸ O));refine⟨_,fss++[zb],aq,Filled.push (af.keep k1) (by rw[ae.1,ag];rfl) (Dat.keep T k2),by simp[ag],?_,.inl rfl⟩;rw[List.flatten_append];intro b D ah;rcases DV.1 D with D|D
 ·rcases ah with E|E
  ·rcases ac with H|H
   ·exact Y b D (by rw[E,H];exact O)
   have:=aa _ D;omega
  exact Y b D E
 simp at D;rcases ah with E|E
 ·rcases ac with H|H
  ·exact ad b D (by rw[E,H];exact O)
  have:=ai _ D;omega
 exact ad b D E
end Go
namespace Go.Proofs.YtjcanieccnljfaaGreat.X
open Go.RowKit Go.XB Go.XN Proofs.Tryz
attribute [local go_sem] L_ Go.XB.opAt N_ M_ Region.wanted yielded
attribute [local simp] N_ M_ MP.eq MP.agg MP.sl A0r
section
structure FlSt (w U:AD) (ga gb gr nr cr:Nat) (o:List TRat) (lx:TRat) (P1:Option AJ) (p1 q1:Nat) (P2:Option AJ) (p2 q2:Nat) (rl:List Nat) (rx:TRat) (Q1:Option AJ) (k1 l1:Nat) (Q2:Option AJ) (k2 l2:Nat) (rr:List Nat):Prop where
 bl:Bw w U
 ra:RBox U ga lx P1 p1 q1 P2 p2 q2
 rb:RBox U gb rx Q1 k1 l1 Q2 k2 l2
 al:Agg U (BJ #[J lx.1.1,S P1 p1 q1,S P2 p2 q2]) lx rl
 ar:Agg U (BJ #[J rx.1.1,S Q1 k1 l1,S Q2 k2 l2]) rx rr
 ro:RR (λb=>b=gr\/(b=ga\/b=gb)) U gr nr cr o
 dl:∀ b∈rl,b≠ga/\b≠gb/\b≠gr
 dr:∀ b∈rr,b≠ga/\b≠gb/\b≠gr
 na:w.1.size<=ga
 nb:w.1.size<=gb
 nr:w.1.size<=gr
 ne:ga≠gb
 nra:gr≠ga
 nrb:gr≠gb
section
variable {w U U':AD} {ga gb gr nr cr:Nat} {o:List TRat} {lx:TRat} {P1:Option AJ} {p1 q1:Nat} {P2:Option AJ} {p2 q2:Nat} {rl:List Nat} {rx:TRat} {Q1:Option AJ} {k1 l1:Nat} {Q2:Option AJ} {k2 l2:Nat} {rr:List Nat}
theorem FlSt.below (h:FlSt w U ga gb gr nr cr o lx P1 p1 q1 P2 p2 q2 rl rx Q1 k1 l1 Q2 k2 l2 rr) (hb:Bw U U'):FlSt w U' ga gb gr nr cr o lx P1 p1 q1 P2 p2 q2 rl rx Q1 k1 l1 Q2 k2 l2 rr :=
 ⟨BH h.bl hb,h.ra.below hb,h.rb.below hb,h.al.below hb,h.ar.below hb,h.ro.below hb,h.dl,h.dr,h.na,h.nb,h.nr,h.ne,h.nra,h.nrb⟩
theorem FlSt.setL (h:FlSt w U ga gb gr nr cr o lx P1 p1 q1 P2 p2 q2 rl rx Q1 k1 l1 Q2 k2 l2 rr) {y:TRat} {O1:Option AJ} {o1 u1:Nat} {O2:Option AJ} {o2 u2:Nat} {ry:List Nat}
  (ha:Agg U (BJ #[J y.1.1,S O1 o1 u1,S O2 o2 u2]) y ry) (hd:∀ b∈ry,b≠ga/\b≠gb/\b≠gr) :
  FlSt w (((U.setCell ⟨ga,0,I⟩ (J y.1.1)).setCell ⟨ga,1,I⟩ (S O1 o1 u1)).setCell ⟨ga,2,I⟩ (S O2 o2 u2)) ga gb gr nr cr o y O1 o1 u1 O2 o2 u2 ry rx Q1 k1 l1 Q2 k2 l2 rr :=
 ⟨((h.bl.setCell (p:=⟨ga,0,I⟩) h.na _).setCell (p:=⟨ga,1,I⟩) h.na _).setCell (p:=⟨ga,2,I⟩) h.na _,h.ra.set,h.rb.keep (A0p gb h.ne.symm) sI,ha.keep (λb hb=>A0p b (hd b hb).1),h.ar.keep (λb hb=>A0p b (h.dr b hb).1),
  h.ro.keep ga (.inr (.inl rfl)) h.nra.symm sI rfl rfl rfl (λb hb=>A0p b hb),hd,h.dr,h.na,h.nb,h.nr,h.ne,h.nra,h.nrb⟩
theorem FlSt.setR (h:FlSt w U ga gb gr nr cr o lx P1 p1 q1 P2 p2 q2 rl rx Q1 k1 l1 Q2 k2 l2 rr) {y:TRat} {O1:Option AJ} {o1 u1:Nat} {O2:Option AJ} {o2 u2:Nat} {ry:List Nat}
  (ha:Agg U (BJ #[J y.1.1,S O1 o1 u1,S O2 o2 u2]) y ry) (hd:∀ b∈ry,b≠ga/\b≠gb/\b≠gr) :
  FlSt w (((U.setCell ⟨gb,0,I⟩ (J y.1.1)).setCell ⟨gb,1,I⟩ (S O1 o1 u1)).setCell ⟨gb,2,I⟩ (S O2 o2 u2)) ga gb gr nr cr o lx P1 p1 q1 P2 p2 q2 rl y O1 o1 u1 O2 o2 u2 ry :=
 ⟨((h.bl.setCell (p:=⟨gb,0,I⟩) h.nb _).setCell (p:=⟨gb,1,I⟩) h.nb _).setCell (p:=⟨gb,2,I⟩) h.nb _,h.ra.keep (A0p ga h.ne) sI,h.rb.set,h.al.keep (λb hb=>A0p b (h.dl b hb).2.1),ha.keep (λb hb=>A0p b (hd b hb).2.1),
  h.ro.keep gb (.inr (.inr rfl)) h.nrb.symm sI rfl rfl rfl (λb hb=>A0p b hb),h.dl,hd,h.na,h.nb,h.nr,h.ne,h.nra,h.nrb⟩
theorem FlSt.push {g' W G:Nat} {X:List TRat} (h:FlSt w U ga gb gr nr cr o lx P1 p1 q1 P2 p2 q2 rl rx Q1 k1 l1 Q2 k2 l2 rr) (aa:RR (λb=>b=g'\/(b=gr\/(b=ga\/b=gb))) U' g' W G X) (D:U.grownBy U' (B gr)) (T:g'=gr\/g'=U.1.size) :
  FlSt w U' ga gb g' W G X lx P1 p1 q1 P2 p2 q2 rl rx Q1 k1 l1 Q2 k2 l2 rr:=by
 have E:∀ b,b≠gr->b<U.1.size->U'.1[b]?=U.1[b]?:=λb u Z=>D.block b Z (by intro e;injection e with e;exact u e);have H:=h.ra.1;have O:=h.rb.1;have ad:=h.bl.size;have d:∀ b,b≠gr->b<U.1.size->b≠g':=λb ab ac=>by rcases T with e|e<;>omega
 refine⟨h.bl.grown D oS (λk Y=>by injection Y with e;subst e;exact h.nr),h.ra.keep (E _ h.nra.symm H) D.size,h.rb.keep (E _ h.nrb.symm O) D.size,h.al.keep (λb u=>E b (h.dl b u).2.2 (h.al.lt b u)),h.ar.keep (λb u=>E b (h.dr b u).2.2 (h.ar.lt b u)),
  aa.weaken (λb _ u=>?_) (.inl rfl),λb u=>⟨(h.dl b u).1,(h.dl b u).2.1,d b (h.dl b u).2.2 (h.al.lt b u)⟩,λb u=>⟨(h.dr b u).1,(h.dr b u).2.1,d b (h.dr b u).2.2 (h.ar.lt b u)⟩,h.na,h.nb,?_,h.ne,(d ga h.nra.symm H).symm,(d gb h.nrb.symm O).symm⟩
 ·rcases u with e|e
  ·exact .inl e
  exact .inr (.inr e)
 rcases T with e|e;·rw[e];exact h.nr
 omega
end
end
theorem B4r (A:Option AJ) (n c:Nat) (xs:List TRat) (bs:List Nat) (w:AD) (Z:Sl w A n c xs bs) (ar:n<=144) (Y:xs.any A2e=AH) :
  BL prog 63 #[S A n c] w (A0b w (J AF)):=by
 have af:=A_ Z;have ae:=A_ Y;have au:(n:Int)<=144:=oS;clear Z Y;go_enter func63,ntmps63;go_wp2_with fail;go_loopg [7] n (λg s wr=>∃ i:Nat,i+g=n/\s=RH K i/\Hid (Bw w wr));case atStart=>exact⟨0,oS,rfl,DI _ _⟩
 case round =>
  obtain⟨i,X,rfl,u⟩:=hrel;rcases CG i n with h|h
  ·have aj:(i:Int)<n:=oS
   have aq:(0:Int)<=i:=oS;obtain⟨g,rfl⟩:∃ g,gk=g+1:=⟨gk - 1,oS⟩
   have ai:=A_ (by omega:i+1+g=n);obtain⟨an,ay,x,al,aw,ao,u1,am,ax,ap,u2,ag,ah,aa,a0,E,G,T⟩:=TRat.elemA (af.below u) h;have ab:=A_ (show(!x.den.isEmpty)=AF by have:=List.any_eq_false.1 ae x (DH aa);unfold A2e at this;simpa using this);have ad:=A_ T;subst ag;clear X h aa T;go_upto_region 4 with fail;refine DY λO D=>?_;have H:=A_ D.b;have b:=A_ D.k;clear a0 E G ah D;obtain⟨a0,-⟩:=B_ b (j:=0) rfl;obtain⟨E,-⟩:=B_ b (j:=1) rfl;obtain⟨G,-⟩:=B_ b (j:=2) rfl;have ak:wr.1.size<O.1.size:=E_ b;go_wp2_with fail;have C:=A2p _ x _ O (ad.below H);rw[ab.o]at C;refine C.mono ?_;clear C;rintro _ az ⟨rfl,W⟩;have ac:=A_ (BH u (BH H W));clear W a0 E G ak;go_wp2_with fail;go_roundg g;case measure=>omega
   case rel=>exact⟨i+1,ai,gN,ac⟩
  obtain rfl:n=i:=oS;have aj:¬ ((n:Int)<n):=oS;clear X h;go_wp2;go_ret;exact⟨rfl,u⟩
theorem D3c (v:AU) (r:TRat) (b:List Nat) (w:AD) (T:Agg w v r b) :
  BL prog 190 #[v] w (A0c w (C3m r)):=by
 have aa:=A_ T;obtain⟨W,ah,ac,aM,X,ai,ad,aN,rfl,rfl,aA,aB⟩:=CF T;clear aA aB T;go_enter func190,ntmps190;go_wp2_with fail;have C:=A7s _ r _ ((w.alloc (BG #[J r.1.1,S W ah ac,S X ai ad] 39)).alloc (BG #[J AH,S I 0 0,S I 0 0] 39)) (aa.below Below.go);cases D:J_ r;·have aw:=A_ (by unfold C3m;rw[D];rfl:C3m r=A0h);rw[D]at C;refine C.mono ?_;clear C D;rintro _ u ⟨rfl,h⟩;obtain⟨ae,af⟩:=F_ h;have aC:w.1.size<u.1.size:=ltg h;have aD:w.1.size+1<u.1.size:=ltg h;go_wp2;refine CK (v:=BJ #[J AH,S I 0 0,S I 0 0]) (by simp[CO,results190,go_sem, *]) rfl ?_;rw[aw.o];exact A3e Below.go
 have au:=A_ (by unfold C3m;rw[D];rfl:C3m r=⟨A0f (-R_ r),r.2⟩);have V:=A_ (ratOkB_iff.1 D);have L:=A_ (show(⟨A0f (-R_ r),r.2⟩:TRat).1.2.length<=1048576/\(⟨A0f (-R_ r),r.2⟩:TRat).2.length<=1048576 by have e:A0f (-R_ r)=⟨!r.num.neg&&!r.num.mag.isEmpty,r.1.2⟩:=B9l V.1;rw[e];exact⟨by have:=V.num24;show r.1.2.length<=_;omega,by have:=V.o.den24;show r.2.length<=_;omega⟩);rw[D]at C;refine C.mono ?_;clear C D;rintro _ u ⟨rfl,h⟩;obtain⟨ae,af⟩:=F_ h;have aC:w.1.size<u.1.size:=ltg h;have aD:w.1.size+1<u.1.size:=ltg h;have Y:=A_ (show Bw w u from Below.go);have aq:=A_ (show u.1[w.1.size+1]?=B (BG #[J AH,S I 0 0,S I 0 0] 39) by have:=DB (w.alloc (BG #[J r.1.1,S W ah ac,S X ai ad] 39)) (BG #[J AH,S I 0 0,S I 0 0] 39);rw[World.size_alloc]at this;exact K_ this h);go_wp2_with fail;refine(B7f _ r _ u (aa.below Y) V.1).mono ?_;rintro _ aj ⟨v2,aO,rfl,E,H⟩;have ab:=A_ (K_ aq H);have an:=A_ (BH Y H);obtain⟨aG,m1,aJ,u1,aH,m2,aK,u2,rfl,aE,_,_⟩:=CF E;go_wp2_with fail;refine(A3n _ _ _ aj E L.1 L.2).mono ?_;rintro _ w3 ⟨aS,aP,rfl,G,ag,O⟩;obtain⟨ak,n1,ax,aQ,al,n2,ay,aR,rfl,aF,_,_⟩:=CF G;have ar:=A_ (K_ ab O);have ao:=A_ (BH an O);have am:=A_ G;have Z:=A_ ag;have ap:=A_ (by have:=E_ ab;omega:w.1.size+2<=aj.1.size);obtain⟨aT,aU,aL⟩:=bx ar;clear E H G ag O aE aF h ae af;have aI:=ao.o;go_wp2;refine CK (v:=BJ #[J (⟨A0f (-R_ r),r.2⟩:TRat).1.1,S ak n1 ax,S al n2 ay]) (by simp[CO,results190,go_sem, *]) rfl ?_;rw[au.o];refine A1s (lo:=w.1.size+2) am Z.free (λb az=>by have:=(Z.2 b az).1;have:=ap.o;omega) oS ?_ ?_;·exact Above.go
 exact Below.go
theorem B8p {ts:List TTri} {es:List TEdge} {v k:Int} (h:D5b ts es v k=AF):∃ (i:Nat) (t:TTri),k=i/\i<ts.length/\ts[i]?=B t/\B6x t v=AF/\A6o es (A2i v (A3h t v).1)=AF/\A6o es (A2i v (A3h t v).2)=AF/\spT ts es v k=(A3z es (A2i v (A3h t v).1),A3z es (A2i v (A3h t v).2)):=by
 unfold D5b at h;simp only[DJ,decide_eq_true_eq]at h;obtain⟨⟨H,O⟩,u,D,E⟩:=h;obtain⟨i,rfl⟩:∃ i:Nat,k=i:=⟨k.toNat,oS⟩
 have b:i<ts.length:=oS;have G:ts.getD i A4p=ts[i]:=by rw[EH,DU b];rfl
 rw[Int.toNat_natCast,G]at u D E;exact⟨i,ts[i],rfl,b,DU b,u,D,E,by unfold spT;rw[Int.toNat_natCast,G]⟩
theorem E0j {t:TTri} {v:Int} (b:I64 t.a) (h:I64 t.b) (u:I64 t.c):I64 (A3h t v).1/\I64 (A3h t v).2:=by
 unfold A3h;split;·exact⟨h,u⟩
 split;·exact⟨u,b⟩
 exact⟨b,h⟩
theorem B5f (val:AU) (x:TAround) (b:List Nat) (k:Int) (w:AD) (ax:Agg w val x b) (aq:D5b x.m.triangles x.edges x.v k=AF) (aO:x.edges.length<=144) :
  BL prog 184 #[val,RH K k] w (A0b w (.tuple #[RH K (spT x.m.triangles x.edges x.v k).1,RH K (spT x.m.triangles x.edges x.v k).2])):=by
 obtain⟨i,t,rfl,ap,au,hh,al,am,ar⟩:=B8p aq;obtain⟨aX,a9,a3,bd,aY,n1,a4,be,aZ,n2,a5,bf,a1,ba,a6,bg,rfl,rfl,aP,ac,ad,aw,aQ⟩:=TAround.agg ax;have aI:=A_ ac;have ag:=A_ ad;have ai:=A_ aw;have aJ:=A_ au;have aE:=A_ hh;have aF:=A_ al;have aG:=A_ am;have aH:=A_ ar;have aN:i<n1:=by rw[<-ac.1];exact ap
 have a8:(i:Int)<n1:=oS;have a7:(0:Int)<=i:=oS;have ah:=A_ (by rw[<-ad.1];omega:n2<=65536);clear aP ac ad aQ aw ax aq au hh al am ar ap aO;go_enter func184,ntmps184;go_upto_region 1 with fail;refine DY λaK Z=>?_;have af:=A_ Z.b;have D:=A_ Z.k;clear Z;obtain⟨ak,-⟩:=B_ D (j:=0) rfl;obtain⟨E,-⟩:=B_ D (j:=1) rfl;obtain⟨G,-⟩:=B_ D (j:=2) rfl;obtain⟨H,-⟩:=B_ D (j:=3) rfl;simp at ak E G H;have ae:w.1.size<aK.1.size:=E_ D;obtain⟨a2,bc,aR,aL,aM,ay,aS,aT,aU,aV,aW,aa⟩:=TTri.elemA (aI.below af) aN;obtain rfl:t=aR:=by have:=aJ.o;rw[ay]at this;exact(IJ this).symm
 obtain⟨_,_,az,aA,aB,_,_⟩:=TTri.agg aa;have aj:=A_ (E0j (v:=x.v) az aA aB);have aD:=A_ aa;subst aL;clear ay aa az aA aB;refine A0g ?_;iterate 8 refine C_ _ ?_
 refine D_ (MP.eq (.tuple #[RH K (A3h t x.v).1,RH K (A3h t x.v).2,J AF])) ?_ ?_;·intro W X O h u;obtain⟨an,ao⟩:=F_ h;simp at u;refine G_ ?_;exact A0i (B5z _ t _ x.v O (aD.below h) aE)
 iterate 7 refine C_ _ ?_
 intro W X wa h u (ab:Hid _);simp at u;go_simp;have Y:=A_ (BH af h);have T:=A_ (K_ D h);clear u ab ak E G H aS aT aU aV aW aM ae h;obtain⟨E,-⟩:=B_ T (j:=1) rfl;obtain⟨G,-⟩:=B_ T (j:=2) rfl;obtain⟨H,-⟩:=B_ T (j:=3) rfl;simp at E G H;have ae:w.1.size<wa.1.size:=E_ T;go_upto_region 2 with fail;refine A0g ?_;iterate 5 refine C_ _ ?_
 refine D_ (MP.eq (RH K (A3z x.edges (A2i x.v (A3h t x.v).1)))) ?_ ?_;·intro W X O h u;obtain⟨an,ao⟩:=F_ h;simp at u;refine G_ ?_;exact A0i (A2t _ _ _ x.edges _ x.v (A3h t x.v).1 O ((ag.below Y).below h) ah ai aj.1 aF)
 iterate 5 refine C_ _ ?_
 refine D_ (MP.eq (RH K (A3z x.edges (A2i x.v (A3h t x.v).2)))) ?_ ?_;·intro W X O h u;obtain⟨an,ao⟩:=F_ h;simp at u;refine G_ ?_;exact A0i (A2t _ _ _ x.edges _ x.v (A3h t x.v).2 O ((ag.below Y).below h) ah ai aj.2 aG)
 iterate 2 refine C_ _ ?_
 intro W X wb h u (ab:Hid _);simp at u;have aC:=A_ (BH Y h);clear ab E G H ae;go_simp;go_wp2_with fail;refine CK (v:=.tuple #[RH K (A3z x.edges (A2i x.v (A3h t x.v).1)),RH K (A3z x.edges (A2i x.v (A3h t x.v).2))]) (by simp[CO,results184,go_sem, *]) rfl ?_;exact⟨by rw[aH.o],aC.o⟩
theorem E1f (val:AU) (x:TAround) (b:List Nat) (e:Int) (w:AD) (aa:Agg w val x b) (an:∀ k∈x.list,D5b x.m.triangles x.edges x.v k=AF) (ap:x.edges.length<=144) (ao:x.list.length<=48) :
  BL prog 185 #[val,RH K e] w (A0b w (RH K (A8e x.m.triangles x.edges x.v x.list e))):=by
 have ax:=A_ aa;have aq:=A_ an;have aw:=A_ ap;obtain⟨aI,aV,aN,aX,aJ,n1,aO,aY,aK,n2,aP,aZ,aL,h,aQ,a1,rfl,rfl,aE,aF,aG,aH,T⟩:=TAround.agg aa;have ar:=A_ T;have aT:h<=48:=by rw[<-T.1];exact ao
 have aU:(h:Int)<=48:=oS;have au:=A_ T.1;clear aE aF aG T aH aa an ap ao;go_enter func185,ntmps185;go_upto_region 1 with fail;refine DY λag Z=>?_;have W:=A_ Z.b;have Y:=A_ Z.k;clear Z;obtain⟨G,-⟩:=B_ Y (j:=4) rfl;simp at G;have ac:w.1.size<ag.1.size:=E_ Y;go_wp2_with fail;go_loopg [12] h (λg s wr=>∃ i:Nat,i+g=h/\s=RH K i/\Hid (A8e x.m.triangles x.edges x.v x.list e=A8e x.m.triangles x.edges x.v (x.list.drop i) e)/\Hid (Bw ag wr));case atStart=>exact⟨0,oS,rfl,(by rw[FF]:_=_),DI _ _⟩
 case round =>
  clear G ac;obtain⟨i,am,rfl,X,H⟩:=hrel;have ae:=A_ (BH W H);rcases CG i h with O|O
  ·have aC:(i:Int)<h:=oS
   have aS:(0:Int)<=i:=oS;obtain⟨g,rfl⟩:∃ g,gk=g+1:=⟨gk - 1,oS⟩
   have aB:=A_ (by omega:i+1+g=h);obtain⟨aM,aW,k,rfl,az,ab,aR,aA⟩:=Sl.getInt (ar.below ae) O;have ay:=A_ (aq k (DH ab));have af:=A_ (D8l (ts:=x.m.triangles) (es:=x.edges) (v:=x.v) (e:=e) ab);have u:=A_ (K_ Y H);obtain⟨ah,-⟩:=B_ u (j:=0) rfl;obtain⟨ai,-⟩:=B_ u (j:=1) rfl;obtain⟨aj,-⟩:=B_ u (j:=2) rfl;obtain⟨ak,-⟩:=B_ u (j:=3) rfl;obtain⟨G,-⟩:=B_ u (j:=4) rfl;simp at ah ai aj ak G;have ac:w.1.size<wr.1.size:=E_ u;clear am O ab;go_wp2_with fail;refine(B5f _ x _ k wr (ax.below ae) ay aw).mono ?_;rintro _ a2 ⟨rfl,al⟩;have ad:=A_ (BH H al);clear al ah ai aj ak G ac aA az;by_cases D:((spT x.m.triangles x.edges x.v k).1:Int)=e
   ·have E:=A_ (by rw[X.o,af.o,if_pos D]:A8e x.m.triangles x.edges x.v x.list e=k)
    have aD:(((spT x.m.triangles x.edges x.v k).1:Int)==e)=AF:=by simp[D]
    clear D;go_wp2;go_ret;exact⟨by rw[E.o];rfl,BH W ad⟩
   have E:=A_ (by rw[X.o,af.o,if_neg D]:A8e x.m.triangles x.edges x.v x.list e=A8e x.m.triangles x.edges x.v (x.list.drop (i+1)) e);have aD:(((spT x.m.triangles x.edges x.v k).1:Int)==e)=AH:=by simp[D]
   clear D;go_wp2_with fail;go_roundg g;case measure=>omega
   case rel=>exact⟨i+1,aB,gN,E,ad⟩
  obtain rfl:h=i:=oS;have aC:¬ ((h:Int)<h):=oS;have E:=A_ (by rw[X.o,List.drop_of_length_le (by rw[au.o];exact CE _)];rfl:A8e x.m.triangles x.edges x.v x.list e = -1);clear am O;go_wp2;go_ret;exact⟨by rw[E.o];rfl,BH W H⟩
theorem D2f (val:AU) (x:TAround) (b:List Nat) (k:Int) (w:AD) (Z:Agg w val x b) (X:D5b x.m.triangles x.edges x.v k=AF) (ak:x.edges.length<=144) :
  BL prog 130 #[val,RH K k] w (A0b w (J (B8j x.m.triangles x.edges x.v k))):=by
 have aq:=A_ Z;have ao:=A_ X;have ap:=A_ ak;obtain⟨aD,aP,aI,aS,aE,n1,aJ,aT,aF,n2,aK,aU,aG,aQ,aL,aV,rfl,rfl,ax,ay,Y,aB,az⟩:=TAround.agg Z;have an:=A_ Y;obtain⟨f,G⟩:∃ f,(spT x.m.triangles x.edges x.v k).1=f:=⟨_,rfl⟩
 have aw:f<n2:=by obtain⟨i,t,_,_,_,_,T,_,aA⟩:=B8p X;rw[aA]at G;rw[<-Y.1,<-G];unfold A6o at T;simp only[DJ,decide_eq_true_eq]at T;exact T.1
 have aO:(f:Int)<n2:=oS;have aN:(0:Int)<=f:=oS;have ab:=A_ G;clear ax ay Y az aB Z X ak G;go_enter func130,ntmps130;go_upto_region 1 with fail;refine DY λad O=>?_;have aa:=A_ O.b;have h:=A_ O.k;clear O;obtain⟨ae,-⟩:=B_ h (j:=0) rfl;obtain⟨af,-⟩:=B_ h (j:=1) rfl;obtain⟨E,-⟩:=B_ h (j:=2) rfl;obtain⟨ag,-⟩:=B_ h (j:=3) rfl;obtain⟨ah,-⟩:=B_ h (j:=4) rfl;simp at ae af E ag ah;have am:w.1.size<ad.1.size:=E_ h;go_wp2_with fail;refine(B5f _ x _ k ad (aq.below aa) ao ap).mono ?_;rw[ab.o];rintro _ aC ⟨rfl,W⟩;have ac:=A_ (K_ h W);have D:=A_ (BH aa W);clear W ae af E ag ah am;obtain⟨E,-⟩:=B_ ac (j:=2) rfl;simp at E;have am:w.1.size<aC.1.size:=E_ ac;obtain⟨aH,aR,y,ar,aM,al,aW,aX,aY,aZ,au⟩:=TEdge.elemA (an.below D) aw;have H:=A_ (by unfold B8j;rw[ab.o,show x.edges.getD f A4o=y from A0e al]:B8j x.m.triangles x.edges x.v k=(decide (y.left<0) || decide (y.right<0)));subst ar;clear al au;by_cases ai:y.left<0;·have u:=A_ (by simp[ai]:(decide (y.left<0) || decide (y.right<0))=AF);go_wp2;go_ret;exact⟨by rw[H.o,u.o];simp,D.o⟩
 by_cases aj:y.right<0;·have u:=A_ (by simp[aj]:(decide (y.left<0) || decide (y.right<0))=AF);go_wp2;go_ret;exact⟨by rw[H.o,u.o];simp,D.o⟩
 have u:=A_ (by simp[ai,aj]:(decide (y.left<0) || decide (y.right<0))=AH);go_wp2;go_ret;exact⟨by rw[H.o,u.o];simp,D.o⟩
end Go.Proofs.YtjcanieccnljfaaGreat.X
