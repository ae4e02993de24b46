/- A part of the proof. -/
import Derived.Test.YtjcanieccnljfaaGreatY19
import Derived.Test.YtjcanieccnljfaaGreatY20
set_option linter.constructorNameAsVariable false
set_option maxHeartbeats 16000000
set_option maxRecDepth 10000
open Bool renaming false→AH,true→AF
open Go renaming Addr→AJ,Calls→BL,Oper→CZ,TypeId→CV,Value→AU,World→AD,bodyPost_ret→CK,heap_alloc_new→DB,info_parts→FB,maxLen→BS,results→CO,wpList→GH,wpList_append_own→IZ
open Go.Code renaming new→DY
open Go.IntKind renaming i64→K
open Go.Obj renaming cells→BG
open Go.RowKit.Below renaming heap_setCell→GA,refl→DI
open Go.Value renaming agg→BJ,bool→J,int→N,slice→S
open Go.World renaming ownsRow_made→JP,ownsRow_nil→MT
open Go.World.ownsRow renaming cellAt→PU,lt→FG,stored→MM
open Go.XB.Below renaming box→BP,next→BH
open Go.XB.TMesh renaming agg→IP,mkAgg→JN
open Go.XB.TPoint renaming agg→EW,elemA→GD
open List renaming drop_succ_cons→GU,drop_zero→FF,eq_nil_of_length_eq_zero→IV,flatMap_cons→MB,getD_eq_getElem?_getD→EH,getElem?_eq_getElem→DU,getElem?_eq_some_iff→DM,length_append→GQ,mem_append→DV,mem_iff_getElem?→KE,mem_of_getElem?→DH,replicate→DK,take_succ_cons→GT,take_zero→FM
open Nat renaming add_assoc→OM,eq_zero_or_pos→IG,le_refl→CE,le_succ→JS,le_trans→CJ,lt_of_lt_of_le→JC,lt_or_ge→CG,zero_le→EO
open Option renaming none→I,some→B
open Option.some renaming inj→IJ
namespace Go
open Go.RowKit Go.XB Go.Proofs.YtjcanieccnljfaaGreat.X
def E3t (w:AD) (r r':Option Nat):Prop:=r'=r\/∀ g,r'=B g->w.1.size<=g
theorem D2y {P:Program} {w:AD} {aq:Array CZ} {rest:List CZ} {o:CZ} {a:Act} {Q:Exit->Act->AD->Prop} (ae:o.guard=I) (s x:Operand) (t:CV)
  (ai:o.op=.call { callee:=.builtin .append,args:=#[s,x],argTypes:=#[t,t] })
  (base:Nat) (e:CV) (i:TypeInfo) (z:AU) (size G:Nat) (am:P.underlying t=B (.slice e)) (hi:P.info? e=B i) (ao:i.zero=B z)
  (ak:i.size=size) (ab:i.bytes=G) (ap:z.cells.size=size) (al:0<size)
  (v:AU) (n:Nat) (xs:List AU) (aj:a.eval s=v) (T:w.ownsRow base e size v n xs)
  (E:AJ) (c:Nat) (b:List AU) (an:a.eval x=S (B E) 1 c) (af:b.length=1*size) (ah:∀ j u,b[j]?=B u->w.cell? (E.add j)=B u) (X:∀ u∈b,u.oneCell'=AF)
  (Z:n+1<=BS) (ac:(n+1)*G<=140737488355328) (aa:base<=w.1.size)
  (h:∀ g' cap' w',w'.ownsRow base e size (S (B ⟨g',0,I⟩) (n+1) cap') (n+1) (xs++b)->w.grownBy w' v.ownBlock->E3t w v.ownBlock (B g')->GH P aq Q rest (a.put o.dst (S (B ⟨g',0,I⟩) (n+1) cap')) w'):GH P aq Q (o::rest) a w:=by
 rcases T.2 with⟨W,ag⟩|⟨g,cap,au,W,ax,O,aA,ay,az,aB⟩
 ·have ar:xs=[]:=by
   have:=T.1
   rw[ag,Nat.zero_mul]at this
   exact IV this
  subst ag;subst ar
  refine IZ w ae s x t ai w.1.size e i z size G am hi ao ak ab ap al v 0 [] aj (by rw[W];exact MT w _ e size) E 1 c b an af ah X Z ac (CE _) ?_
  intro aC w' D H Y
  obtain⟨g',c',rfl⟩:=C5p D oS
  exact h g' c' w' (A9f D aa) H (.inr λg O=>by have:=(FG D g' rfl).1;injection O with O;omega)
 ·subst W
  refine A1m ae s x t ai base e i z size G am hi ao ak ab ap al g n cap xs aj T E 1 c b an af ah X Z ac aa ?_;intro g' cap' w' D H Y;refine h _ _ w' D H ?_;rcases Y with rfl|rfl
  ·exact .inl rfl
  exact .inr λaw ad=>by injection ad with ad;omega
end Go
namespace Go.XB
open Go.RowKit Go.Proofs.YtjcanieccnljfaaGreat.X
section
variable {α:Type} [Dat α]
def PV (L:Nat) (e:CV) (wr:AD) (v:AU) (i:Nat) (ps:List α) (zs:List Nat):Prop :=
 ∃ cells fss,wr.ownsRow L e (Dat.sz α) v i cells/\Filled wr cells ps fss/\ps.length=i/\zs=fss.flatten/\(∀ g,v.ownBlock=B g->g∉zs)/\∀ b∈zs,L<=b
variable {L i:Nat} {wr wa:AD} {e:CV} {v:AU} {ps:List α} {zs:List Nat}
theorem PV.nil (L:Nat) (e:CV) (wr:AD):PV (α:=α) L e wr (S I 0 0) 0 [] []:=⟨[],[],MT wr L e _,Filled.nil _ _,rfl,rfl,sI,sI⟩
theorem PV.lt (h:PV L e wr v i ps zs):∀ g,v.ownBlock=B g->L<=g/\g<wr.1.size:=by obtain⟨_,_,h1,_⟩:=h;exact λg hg=>FG h1 g hg
theorem PV.len (h:PV L e wr v i ps zs):ps.length=i:=by obtain⟨_,_,_,_,h,_⟩:=h;exact h
theorem PV.zlt (h:PV L e wr v i ps zs):∀ b∈zs,L<=b/\b<wr.1.size:=by
 obtain⟨cells,fss,G,D,H,rfl,O,E⟩:=h;exact λb u=>⟨E b u,D.lt b u⟩
theorem PV.keep (h:PV L e wr v i ps zs) {x:Nat} (E:wr.grownBy wa (B x)) (W:v.ownBlock≠B x) (X:x∉zs):PV L e wa v i ps zs:=by
 obtain⟨cells,fss,G,u,H,rfl,O,T⟩:=h;exact⟨cells,fss,G.kept E (.inr W),u.keep (λb D=>E.block b (u.lt b D) (by intro e;injection e with e;exact X (e ▸ D))),H,rfl,O,T⟩
theorem PV.below (h:PV L e wr v i ps zs) (b:Bw wr wa):PV L e wa v i ps zs:=by
 obtain⟨cells,fss,u,D,E,G,H,O⟩:=h;exact⟨cells,fss,I_ u b,D.below b,E,G,H,O⟩
theorem PV.sl (h:PV L e wr v i ps zs):∃ A c bs,v=S A i c/\Sl wr A i c ps bs/\∀ b∈bs,v.ownBlock=B b\/b∈zs:=by
 obtain⟨cells,fss,E,G,H,rfl,X,Y⟩:=h;obtain⟨A,c,bs,W,T,O⟩:=G.sl (α:=α) E H;refine⟨A,c,bs,W,T,λb u=>?_⟩;rcases O with⟨_,rfl⟩|⟨g',D,rfl,Z,_⟩;·simp at u
 rcases List.mem_cons.1 u with rfl|u;·exact .inl D
 exact .inr u
end
end Go.XB
namespace Go
open Go.RowKit Go.XB Go.Proofs.YtjcanieccnljfaaGreat.X
theorem D0k {P:Program} {α:Type} [Dat α] {L:Nat} {wr:AD} {v:AU} {k:Nat} {ps:List α} {zs:List Nat} {af:Array CZ} {rest:List CZ} {o:CZ} {a:Act} {Q:Exit->Act->AD->Prop} (al:o.guard=I) (s x:Operand) (t:CV)
  (an:o.op=.call { callee:=.builtin .append,args:=#[s,x],argTypes:=#[t,t] })
  (e:CV) (i:TypeInfo) (z:AU) (T:Nat) (ar:P.underlying t=B (.slice e)) (hi:P.info? e=B i) (ax:i.zero=B z)
  (aq:i.size=Dat.sz α) (aj:i.bytes=T) (ay:z.cells.size=Dat.sz α) (ac:PV L e wr v k ps zs) (au:L<=wr.1.size) (ap:a.eval s=v)
  (O:AJ) (c:Nat) (cs:List AU) (pt:α) (zb:List Nat) (aw:a.eval x=S (B O) 1 c) (am:∀ j u,cs[j]?=B u->wr.cell? (O.add j)=B u)
  (H:Dat.at_ wr cs pt zb) (Y:∀ b∈zb,L<=b/\v.ownBlock≠B b) (ai:k+1<=BS) (ak:(k+1)*T<=140737488355328)
  (h:∀ g' cap' w8,PV L e w8 (S (B ⟨g',0,I⟩) (k+1) cap') (k+1) (ps++[pt]) (zs++zb)->wr.grownBy w8 v.ownBlock->E3t wr v.ownBlock (B g')->GH P af Q rest (a.put o.dst (S (B ⟨g',0,I⟩) (k+1) cap')) w8):GH P af Q (o::rest) a wr:=by
 have ae:=ac.zlt;obtain⟨cells,fss,Z,ag,aa,rfl,ab,ah⟩:=ac;refine D2y al s x t an L e i z (Dat.sz α) T ar hi ax aq aj ay Dat.pos v k cells ap Z O c cs aw (by rw[Nat.one_mul];exact Dat.len H) am (Dat.one H) ai ak au ?_;intro g' cap' w8 ao W E;refine h g' cap' w8 ?_ W E;have ad:∀ b∈zb,b<wr.1.size:=Dat.lt H;have k1:∀ b∈fss.flatten,w8.1[b]?=wr.1[b]?:=λb G=>W.block b (ae b G).2 (λe=>ab b e.symm G);have k2:∀ b∈zb,w8.1[b]?=wr.1[b]?:=λb G=>W.block b (ad b G) (λe=>(Y b G).2 e.symm);refine⟨_,fss++[zb],ao,Filled.push (ag.keep k1) (by rw[Z.1,aa]) (Dat.keep H k2),by simp[aa],sI,?_,?_⟩
 ·intro g X D
  injection X with X;subst X;rcases DV.1 D with D|D
  ·rcases E with E|E
   ·exact ab _ E.symm D
   have:=(ae _ D).2;have:=E _ rfl;simp only at *;omega
  rcases E with E|E;·exact(Y _ D).2 E.symm
  have:=ad _ D;have:=E _ rfl;simp only at *;omega
 intro b D;rcases DV.1 D with D|D
 ·exact ah b D
 exact(Y b D).1
end Go
namespace Go.Proofs.YtjcanieccnljfaaGreat.X
open Go.RowKit Go.XB Go.XN Proofs.Tryz
theorem C6a:∀ (l:List TTri) (k:Nat) (x:TTri),l[k]?=B x->((l.flatMap A7h).drop (k*5)).take 5=A7h x:=λl=>by
 induction l with
 |nil=>intro k x hx;simp at hx
 |cons y ys ih =>
  intro k x hx
  cases k with
  |zero =>
   simp at hx;subst hx
   rw[MB,Nat.zero_mul,FF,List.take_append_of_le_length (by simp[A7h])]
   rfl
  |succ k =>
   rw[show(k+1)*5=(A7h y).length+k*5 by simp[A7h];omega,MB,List.drop_length_add_append]
   exact ih k x (by simpa using hx)
def TrRow (w:AD) (base:Nat) (v:AU) (ts:List TTri):Prop:=w.ownsRow base 109 5 v ts.length (ts.flatMap A7h)/\∀ t∈ts,C2c t
theorem TrRow.below {w w':AD} {base:Nat} {v:AU} {ts:List TTri} (h:TrRow w base v ts) (hb:Bw w w'):TrRow w' base v ts:=⟨I_ h.1 hb,h.2⟩
theorem TrRow.kept {w w':AD} {base x:Nat} {v:AU} {ts:List TTri} (h:TrRow w base v ts) (hk:w.grownBy w' (B x)) (hx:v.ownBlock≠B x):TrRow w' base v ts:=⟨h.1.kept hk (.inr hx),h.2⟩
theorem TrRow.sl {w:AD} {base:Nat} {v:AU} {ts:List TTri} (h:TrRow w base v ts):∃ A c bs,v=S A ts.length c/\Sl w A ts.length c ts bs/\∀ b∈bs,v.ownBlock=B b:=by
 have Y:Filled w (ts.flatMap A7h) ts (DK ts.length []):=by
  refine⟨sI,by rw[B3l];exact CE _,λk x G D E=>?_⟩;have ab:=(DM.1 D).1;have Z:G=[]:=by rw[List.getElem?_replicate,if_pos ab]at E;exact(IJ E).symm
  subst Z;obtain⟨H,O,T,W,X⟩:=h.2 x (DH D);show Dat.at_ w (((ts.flatMap A7h).drop (k*5)).take 5) x [];rw[C6a ts k x D];exact TTri.shut H O T W X
 obtain⟨A,c,bs,ae,ad,ac⟩:=Y.sl (α:=TTri) (base:=base) (n:=ts.length) h.1 rfl;refine⟨A,c,bs,ae,ad,λb u=>?_⟩;rcases ac with⟨_,rfl⟩|⟨g',aa,rfl,_⟩;·cases u
 simp at u;subst u;exact aa
theorem Sl.cellsTr {w:AD} {a:AJ} {n c:Nat} {ts:List TTri} {bs:List Nat} (h:Sl w (B a) n c ts bs):(∀ j u,(ts.flatMap A7h)[j]?=B u->w.cell? (a.add j)=B u)/\∀ t∈ts,C2c t:=by
 constructor
 ·intro j u T
  have an:j<ts.length*5:=by have:=(DM.1 T).1;rwa [B3l]at this
  have D:j / 5<n:=by rw[<-h.1];omega
  obtain⟨G,H,t,ah,am,E,W,X,Y,Z,aa,O⟩:=TTri.elemA h D;obtain rfl:=IJ ah;have e:=C6a ts (j / 5) t E;have ak:j % 5<5:=Nat.mod_lt _ dE;have b:(A7h t)[j % 5]?=B u:=by rw[<-e,List.getElem?_take,if_pos ak,List.getElem?_drop,<-T];congr 1;omega
  have ab:(⟨G,H,I⟩:AJ).add j=⟨G,H+j,I⟩:=by unfold AJ.add;split<;>simp_all
  rw[ab];have ai:j=j / 5*5+j % 5:=oS;unfold A7h at b;generalize j % 5=r at *;generalize j / 5=q at *;subst ai;rcases r with _|_|_|_|_|r
  ·simp at b;subst b;simpa[OM]using W
  ·simp at b;subst b;simpa[OM]using X
  ·simp at b;subst b;simpa[OM]using Y
  ·simp at b;subst b;simpa[OM]using Z
  ·simp at b;subst b;simpa[OM]using aa
  omega
 intro t al;obtain⟨k,D⟩:=KE.1 al;have aj:k<n:=by rw[<-h.1];exact(DM.1 D).1
 obtain⟨G,H,ao,_,_,E,_,_,_,_,_,O⟩:=TTri.elemA h aj;rw[D]at E;obtain rfl:=IJ E;obtain⟨_,_,ac,ad,ae,af,ag⟩:=TTri.agg O;exact⟨ac,ad,ae,af,ag⟩
attribute [local go_sem] L_ Go.XB.opAt N_ M_ Region.wanted yielded
attribute [local simp] N_ M_ MP.eq MP.agg MP.sl MP.slbox MP.box A0r
theorem E0v (A:Option AJ) (n c:Nat) (ts:List TTri) (bs:List Nat) (w:AD) (h:Sl w A n c ts bs) (O:n<=1000) :
  BL prog 211 #[S A n c] w (λe w'=>∃ v',e=.returned v'/\TrRow w' w.1.size v' ts/\Bw w w'):=by
 obtain⟨ad,H,T,W,X⟩:=FB D2e;cases A with
 |none =>
  have G:n=0:=by
   rcases IG n with D|D;·exact D
   obtain⟨_,_,_,e,_⟩:=h.2.2.2.2 D;cases e
  have ac:ts=[]:=IV (h.1.trans G)
  clear h H T W X O
  subst G;subst ac
  have q1:∀ (w:AD) (a:Option AJ) (n c b c':Nat),(binOp .eql 24 (S a n c) (S I b c')).run prog w=.ok (J a.isNone) w:=λw a n c b c'=>Lib.run_eql_slice_nil w _ _ a n c b c' underlying24
  go_enter func211,ntmps211
  go_wp2
  go_ret
  exact⟨_,rfl,⟨MT _ _ _ _,sI⟩,DI _ _⟩
 |some a =>
  have Y:=A_ (by unfold BS;omega:0+n<=BS)
  have Z:=A_ (by omega:(0+n)*40<=140737488355328)
  have u:=A_ h
  clear h O
  have q1:∀ (w:AD) (a:Option AJ) (n c b c':Nat),(binOp .eql 24 (S a n c) (S I b c')).run prog w=.ok (J a.isNone) w:=λw a n c b c'=>Lib.run_eql_slice_nil w _ _ a n c b c' underlying24
  go_enter func211,ntmps211
  go_wp2_with (at_builtin;(refine IZ _ rfl _ _ 24 rfl w.1.size 109 ad (BJ #[N K 0,N K 0,N K 0,N K 0,N K 0]) 5 40 underlying24 H T W X rfl dE _ 0 [] rfl (JP w #[] 0 (CE _) (EO _) rfl) a n c (ts.flatMap A7h) rfl (by rw[B3l,u.o.1]) (Sl.cellsTr (Sl.below u.o Below.go)).1 C1s Y.o Z.o (A1a (CE _) _) ?_);intro v' w3 E ab ae)
  have aa:Bw w w3:=((DI _ w).alloc (CE _) _).grown ab (A1a (CE _) _) (B0b (JP (e:=24) (size:=5) w #[] 0 (CE _) (EO _) rfl))
  go_wp2
  go_ret
  have e:0+n=n:=Nat.zero_add n
  rw[e]at E
  rw[<-u.o.1]at E
  exact⟨_,rfl,⟨E,(Sl.cellsTr u).2⟩,aa⟩
theorem A3p (w:AD) (r:Option Nat):w.grownBy w r:=⟨rfl,rfl,rfl,CE _,λ_ _ _=>rfl⟩
theorem B4p {w w1 w2:AD} {r:Option Nat} (h:w.grownBy w1 r) (hb:Bw w1 w2):w.grownBy w2 r :=
 ⟨hb.os.trans h.os,hb.tape.trans h.tape,hb.output.trans h.output,CJ h.size hb.size,λk hk hne=>(hb.block k (JC hk h.size)).trans (h.block k hk hne)⟩
theorem B9u {w w1 w2:AD} {r r2:Option Nat} (h:w.grownBy w1 r) (h2:w1.grownBy w2 r2) (hx:∀ x,r2=B x->w.1.size<=x):w.grownBy w2 r :=
 ⟨h2.os.trans h.os,h2.tape.trans h.tape,h2.output.trans h.output,CJ h.size h2.size,λk hk hne=>(h2.block k (JC hk h.size) (by intro e;have:=hx k e.symm;omega)).trans (h.block k hk hne)⟩
theorem A1f {X w:AD} {g i:Nat} {v0:AU} (h:X.grownBy w (B g)):X.grownBy (w.setCell ⟨g,i,I⟩ v0) (B g) :=
 ⟨h.os,h.tape,h.output,by simpa using h.size,λk hk hne=>(GA _ _ _ k (by intro e;exact hne (by rw[e]))).trans (h.block k hk hne)⟩
def CMesh (w:AD) (lo L:Nat) (vP vT:AU) (m:TMesh) (zs:List Nat):Prop :=
 PV L 41 w vP m.1.length m.1 zs/\TrRow w lo vT m.triangles/\(∀ g,vT.ownBlock=B g->g<L)/\lo<=L/\L<=w.1.size
theorem B7i (v:AU) (m:TMesh) (b:List Nat) (w:AD) (aj:Agg w v m b) (ok:∀ p∈m.1,A1b p=AF) (bd:m.1.length<=144) (bf:m.triangles.length<=1000) :
  BL prog 167 #[v] w (λe w'=>∃ L vP vT zs,e=.returned (BJ #[vP,vT])/\CMesh w' w.1.size L vP vT m zs/\Bw w w'):=by
 have cH:=A_ aj;have bN:=A_ ok;obtain⟨cB,E,cM,dp,bn,n1,bX,cx,rfl,rfl,aC,aW⟩:=IP aj;have bG:=A_ aC;have bH:=A_ aW;have c9:E<=144:=by rw[<-aC.1];exact bd
 have da:(E:Int)<=144:=oS;have a1:=A_ aC.1;have bI:=A_ (by rw[<-aW.1];exact bf:n1<=1000);obtain⟨cg,ch,ci,cj,ck⟩:=FB D1n;clear aC aW aj ok bd bf;go_enter func167,ntmps167;go_upto_region 1 with fail;refine Code.new2 λa8 ap=>?_;have ak:=A_ ap.b;have an:=A_ ap.k;have aq:=A_ ap.l;clear ap;obtain⟨W,-⟩:=B_ an (j:=1) rfl;simp at W;have aY:w.1.size<a8.1.size:=E_ an;go_wp2_with fail;refine(E0v bn n1 bX m.triangles cx a8 (bH.below ak) bI).mono ?_;rintro _ aE ⟨vT,rfl,aB,ai⟩;have bp:=A_ (BH ak ai);have a2:=A_ (K_ an ai);have Q1:=A_ (K_ aq ai);have bS:=A_ (show ∀ g,vT.ownBlock=B g->w.1.size+1<g from λg Y=>by have:=(FG aB.1 g Y).1;have:=E_ aq;omega);have R1:=A_ (show TrRow aE w.1.size vT m.triangles from⟨A9f aB.1 ak.size,aB.2⟩);obtain⟨ac,af,b2,rfl,-,-⟩:=R1.sl;have aJ:=A_ (by have:=ai.size;have:=E_ aq;omega:w.1.size+1<aE.1.size);clear aB ai W aY;go_upto_region 2 with fail;refine DY λO aa=>?_;have aG:=A_ (BH bp aa.b);have a3:=A_ (K_ a2 aa.b);have ar:=A_ (K_ Q1 aa.b);have bR:=A_ (R1.below aa.b);have aH:=A_ aa.k;have a5:=A_ (show ∀ g,(S ac m.triangles.length af).ownBlock=B g->g<aE.1.size from λg Y=>(FG R1.1 g Y).2);clear R1 a2 Q1 aa;clear ak an aq;generalize aE.1.size=u at *;have a4:=A_ (E_ aH);obtain⟨T,-⟩:=B_ a3 (j:=0) rfl;simp at T;have aY:w.1.size<O.1.size:=E_ a3;go_wp2_with fail;go_loopg [13] E (λg s wr=>∃ (i:Nat) (A:Option AJ) (c:Nat) (zs:List Nat),i+g=E/\s=N K i/\Hid (wr.1[u]?=B (BG #[S A i c,S ac m.triangles.length af] 26))/\Hid (PV O.1.size 41 wr (S A i c) i (m.1.take i) zs)/\Hid (O.grownBy wr (B u)));case atStart=>exact⟨0,I,0,[],oS,rfl,aH.o,PV.nil _ _ _,A3p _ _⟩
 case round =>
  clear aH T aY;obtain⟨i,A,c,zs,ca,rfl,ae,ad,G⟩:=hrel;have aZ:=A_ (aG.grown G aG.size (λk cb=>by injection cb with h;subst h;have:=aJ.o;omega));rcases CG i E with bc|bc
  ·have c8:(i:Int)<E:=oS
   obtain⟨g,rfl⟩:∃ g,gk=g+1:=⟨gk - 1,oS⟩
   have b9:=A_ (by omega:i+1+g=E);have br:=A_ (by unfold BS;omega:i+1<=BS);have bt:=A_ (by omega:(i+1)*112<=140737488355328);obtain⟨cL,dl,p,P1,dh,cR,p1,P2,di,cU,p2,cJ,dj,cV,dm,cK,dk,cW,dn,rfl,c5,aX,T,W,au,aw,ax,ay,ba⟩:=GD (bG.below aZ) bc;have bM:=A_ (take_step aX);have bO:=A_ (bN p (DH aX));have bE:=A_ ba;clear ca ba aX;go_upto_region 5 with fail;refine DY λaO aK=>?_;have al:=A_ aK.b;have H:=A_ aK.k;clear T W au aw ax ay aK;have aI:=A_ (K_ ae al);obtain⟨X,-⟩:=B_ aI (j:=0) rfl;obtain⟨az,-⟩:=B_ aI (j:=1) rfl;obtain⟨T,-⟩:=B_ H (j:=0) rfl;obtain⟨W,-⟩:=B_ H (j:=1) rfl;obtain⟨au,-⟩:=B_ H (j:=2) rfl;obtain⟨aw,-⟩:=B_ H (j:=3) rfl;obtain⟨ax,-⟩:=B_ H (j:=4) rfl;obtain⟨ay,-⟩:=B_ H (j:=5) rfl;simp at X az T W au aw ax ay;have l1:wr.1.size<aO.1.size:=E_ H;have lx:u<aO.1.size:=E_ aI;refine W_ 5 kR kR kR kR kR ?_;simp only[GT,FM,GU,FF];iterate 3 refine C_ _ ?_
   refine D_ (MP.agg p) ?_ ?_;·intro aF bm Z ab D;obtain⟨c6,c7⟩:=F_ ab;simp at D;refine G_ ?_;exact H_ (B5c _ p _ Z ((bE.below al).below ab) bO)
   refine A1d (λbj=>MP.slbox (bj 3).cells 41) (by intro y bj h;simp[N_,M_]at h;simp[h]) ?_ ?_;·intro aF bm Z ab D;simp at D;obtain⟨cD,dd,cN,cX,cE,de,cO,cY,cF,df,cP,cZ,cG,dg,cQ,c0,b4,_,_,_,_,_⟩:=EW D.1;refine⟨gD,S (B ⟨Z.1.size,0,I⟩) 1 1,Z.alloc (BG (aF 3).cells 41),?_,BP _,[Z.1.size],⟨Z.1.size,rfl,rfl,DB Z _⟩,sI⟩;rw[b4];go_simp
   intro aF bm wa ab D (b7:Hid _);simp at D;have q1:=D.2.1;have cs:=D.2.2.2.1;have ct:=D.2.2.2.2;obtain⟨⟨a9,b8⟩,be⟩:=cs;obtain⟨bu,cn,bY,aP,bv,co,bZ,aQ,bz,cp,b0,aR,bA,cq,b3,aS,bk,bl,k1,k2,bg,bh⟩:=EW a9;obtain⟨⟨b6,dr,cA,aU⟩,ce⟩:=ct;rw[bk]at aU;have dq:aF 1=S A i c:=q1.1.1;have bo:=A_ (TPoint.shut (x:=p) k1 k2 bg bh);have bV:=A_ (show ∀ b∈aP++(aQ++(aR++aS)),aO.1.size<=b from λb aT=>(be b (by rw[bl];exact aT)).1);have bF:=A_ aU;have am:=A_ (BH al ab);have aL:=A_ (ad.below am);have ao:=A_ (K_ ae am);have bL:=A_ (show O.1.size<=wa.1.size from CJ G.size am.size);have bW:=A_ (show ∀ b∈aP++(aQ++(aR++aS)),O.1.size<=b/\(S A i c).ownBlock≠B b from λb aT=>by have c1:=bV b aT;have c2:=G.size;have c4:=al.size;refine⟨oS,λh=>?_⟩;have:=(ad.lt b h).2;omega);have cI:u<O.1.size:=a4.o;clear D b7 a9 b8 be k1 k2 bg bh aU ce cA bl q1 ab T W au aw ax ay X az l1 lx bk;obtain⟨X,b5⟩:=B_ ao (j:=0) rfl;simp at X;have lx:u<wa.1.size:=E_ ao;go_wp2_with (at_builtin;refine D0k rfl _ _ 23 rfl 41 cg (BJ #[J AH,S I 0 0,S I 0 0,J AH,S I 0 0,S I 0 0]) 112 underlying23 ch ci cj ck rfl aL bL gD ⟨b6,0,I⟩ 1 [J p.x.1.1,S bu cn bY,S bv co bZ,J p.y.1.1,S bz cp b0,S bA cq b3] p _ gD (A0a bF) bo bW br bt ?_;intro ah ag cy aA aV cd;have cc:(S A i c).ownBlock≠B u:=(λh=>by have:=(aL.lt u h).1;omega);have aD:=(aV.block u (E_ ao) (λe=>cc e.symm)).trans ao;obtain⟨bi,cz⟩:=B_ aD (j:=0) rfl;simp at bi;have cm:=E_ aD;have bJ:=A_ aD;clear aD X b5 lx);have bK:=A_ (A3g (i:=0) (v:=S (B ⟨ah,0,I⟩) (i+1) ag) bJ);have a6:∀ g,(S (B ⟨ah,0,I⟩) (i+1) ag).ownBlock=B g->g≠u:=λg Y=>by have:=(aA.lt g Y).1;omega
   have a7:u∉zs++(aP++(aQ++(aR++aS))):=λh=>by have:=(aA.zlt u h).1;omega
   have bP:=A_ (aA.keep (A1f (i:=0) (v0:=S (B ⟨ah,0,I⟩) (i+1) ag) (A3p cy (B u))) (λh=>a6 u h rfl) a7);have bB:=A_ (A1f (i:=0) (v0:=S (B ⟨ah,0,I⟩) (i+1) ag) (B9u (B4p G am) aV (λx aj=>(aL.lt x aj).1)));clear aA aV cd a6 a7 bi cz cm;go_roundg g;case measure=>omega
   case rel=>exact⟨i+1,B ⟨ah,0,I⟩,ag,_,b9.o,gN,bK.o,by rw[bM.o];exact bP,bB⟩
  obtain rfl:i=E:=oS;have aM:=A_ (show wr.1[w.1.size+1]?=B (BG #[S I 0 0,S I 0 0] 26)from(G.block _ (E_ ar) (by intro e;injection e with e;have:=aJ.o;omega)).trans ar.o);obtain⟨X,-⟩:=B_ ae (j:=0) rfl;obtain⟨az,-⟩:=B_ ae (j:=1) rfl;obtain⟨r0,cu⟩:=B_ aM (j:=0) rfl;obtain⟨cv,cw⟩:=B_ aM (j:=1) rfl;simp at X az r0 cv cu cw;have lx:u<wr.1.size:=E_ ae;have dc:w.1.size+1<wr.1.size:=E_ aM;have db:w.1.size+1≠u:=by have:=aJ.o;omega
  go_wp2;have aN:=A_ (A1f (i:=1) (v0:=S ac m.triangles.length af) (A1f (i:=0) (v0:=S A i c) (A3p wr (B (w.1.size+1)))));have bQ:=A_ (ad.keep aN (λh=>by have:=(ad.lt _ h).1;have:=E_ ar;omega) (λh=>by have:=(ad.o.zlt _ h).1;have:=E_ ar;omega));have bU:=A_ (((bR.kept (B4p G (DI _ _)) (λh=>by have:=a5 _ h;omega))).kept aN.o (λh=>by have:=bS.o _ h;omega));have bq:=A_ ((aZ.setCell (p:=⟨w.1.size+1,0,I⟩) (JS _) (S A i c)).setCell (p:=⟨w.1.size+1,1,I⟩) (JS _) (S ac m.triangles.length af));have bT:=A_ (aN.size);have bD:=A_ (G.size);refine CK (v:=BJ #[S A i c,S ac m.triangles.length af]) (by simp[CO,results167,go_sem, *]) rfl ?_;refine⟨O.1.size,_,_,zs,rfl,⟨?_,bU,λg Y=>Nat.lt_trans (a5 g Y) a4,aG.size,CJ bD bT⟩,bq⟩;have h:=bQ.o;rw[<-a1.o,List.take_length]at h;rw[a1.o]at h ⊢;exact h
section
theorem F2z {w:AD} {base g n c:Nat} {zs:List Int} (h:w.ownsRow base 3 1 (S (B ⟨g,0,I⟩) n c) n (zs.map (N K))) (hi:∀ x∈zs,I64 x):∃ bs,Sl w (B ⟨g,0,I⟩) n c zs bs/\∀ b∈bs,b=g:=by
 obtain⟨bs,G⟩:=A7v h hi;refine⟨bs,G,λb u=>?_⟩;obtain⟨af,ag,ah,O,T⟩:=G;rcases IG n with D|D;·rw[O D]at u;cases u
 obtain⟨ad,aj,H,W,rfl,ab,ai,Y⟩:=T D;cases W;have Z:H.flatten=[]:=by
  rw[List.flatten_eq_nil_iff];intro l aa;obtain⟨q,E⟩:=KE.1 aa;have ac:q<zs.length:=by rw[<-ab];exact(DM.1 E).1
  obtain⟨ae,_,X⟩:=Y q _ l (DU ac) E;exact X.2.1
 rw[Z]at u;simpa using u
structure BiI (w3 wr:AD) (L gO gM g8 n:Nat) (A:Option AJ) (k c:Nat) (ps:List TPoint) (zs:List Nat) (ms:List Int):Prop where
 bl:Bw w3 wr
 kO:wr.1[gO]?=B (BG #[S A k c,S I 0 0] 26)
 k8:wr.1[g8]?=B (BG #[S (B ⟨gM,0,I⟩) n n] 35)
 mr:wr.ownsRow w3.1.size 3 1 (S (B ⟨gM,0,I⟩) n n) n (ms.map (N K))
 mi:∀ x∈ms,I64 x
 pv:PV L 41 wr (S A k c) k ps zs
 lo:w3.1.size<=L/\L<=wr.1.size/\w3.1.size<=gO/\w3.1.size<=gM/\w3.1.size<=g8
 dX:gO≠gM/\gO≠g8/\gM≠g8
 dB:∀ g,(S A k c).ownBlock=B g->g≠gO/\g≠gM/\g≠g8
 dZ:∀ b∈zs,b≠gO/\b≠gM/\b≠g8
section
variable {w3 wr wa:AD} {L gO gM g8 n:Nat} {A:Option AJ} {k c:Nat} {ps:List TPoint} {zs:List Nat} {ms:List Int}
theorem BiI.below (h:BiI w3 wr L gO gM g8 n A k c ps zs ms) (hb:Bw wr wa):BiI w3 wa L gO gM g8 n A k c ps zs ms :=
 ⟨BH h.bl hb,K_ h.kO hb,K_ h.k8 hb,I_ h.mr hb,h.mi,h.pv.below hb,⟨h.lo.1,CJ h.lo.2.1 hb.size,h.lo.2.2⟩,h.dX,h.dB,h.dZ⟩
theorem BiI.lims (h:BiI w3 wr L gO gM g8 n A k c ps zs ms):gO<wr.1.size/\gM<wr.1.size/\g8<wr.1.size/\ms.length=n :=
 ⟨E_ h.kO,(FG h.mr _ rfl).2,E_ h.k8,by have:=h.mr.1;simpa using this⟩
theorem BiI.mcell (h:BiI w3 wr L gO gM g8 n A k c ps zs ms) {i:Nat} (hi:i<n):∃ x,wr.cell? ⟨gM,i,I⟩=B (N K x)/\wr.frozen? ⟨gM,i,I⟩=AH:=by
 have b:i<ms.length:=by rw[h.lims.2.2.2];exact hi
 refine⟨ms[i],?_,World.ownsRow.frozenAt h.mr i⟩;rw[PU h.mr i oS,List.getElem?_map,DU b];rfl
theorem BiI.setM (h:BiI w3 wr L gO gM g8 n A k c ps zs ms) (i:Nat) {x:Int} (O:I64 x):BiI w3 (wr.setCell ⟨gM,i,I⟩ (N K x)) L gO gM g8 n A k c ps zs (ms.set i x):=by
 have D:wr.grownBy (wr.setCell ⟨gM,i,I⟩ (N K x)) (B gM):=A1f (A3p wr _);have G:∀ {b:Nat} {o:Obj},b≠gM->wr.1[b]?=B o->(wr.setCell ⟨gM,i,I⟩ (N K x)).1[b]?=B o:=λH E=>(D.block _ (E_ E) (by intro e;injection e with e;exact H e)).trans E;refine⟨h.bl.setCell (p:=⟨gM,i,I⟩) h.lo.2.2.2.1 _,G h.dX.1 h.kO,G (Ne.symm h.dX.2.2) h.k8,?_,?_,h.pv.keep D (λe=>(h.dB _ e).2.1 rfl) (λe=>(h.dZ _ e).2.1 rfl),⟨h.lo.1,by simpa using h.lo.2.1,h.lo.2.2⟩,h.dX,h.dB,h.dZ⟩;·rw[List.map_set];exact(MM h.mr i _).1
 intro y u;rcases List.mem_or_eq_of_mem_set u with u|rfl
 ·exact h.mi y u
 exact O
theorem BiI.pushP (h:BiI w3 wr L gO gM g8 n A k c ps zs ms) {E G:Nat} {q:TPoint} {T:List Nat} (ad:PV L 41 wa (S (B ⟨E,0,I⟩) (k+1) G) (k+1) (ps++[q]) (zs++T)) (u:wr.grownBy wa (S A k c).ownBlock) (D:E3t wr (S A k c).ownBlock (B E)) (af:∀ b∈T,b≠gO/\b≠gM/\b≠g8) :
  BiI w3 (wa.setCell ⟨gO,0,I⟩ (S (B ⟨E,0,I⟩) (k+1) G)) L gO gM g8 n (B ⟨E,0,I⟩) (k+1) G (ps++[q]) (zs++T) ms:=by
 obtain⟨l1,l2,ah,ai⟩:=h.lims;have Z:∀ {b:Nat} {o:Obj},(∀ g,(S A k c).ownBlock=B g->g≠b)->wr.1[b]?=B o->wa.1[b]?=B o:=λac D=>(u.block _ (E_ D) (λe=>ac _ e.symm rfl)).trans D;have ag:=Z (λg u=>(h.dB g u).1) h.kO;have Y:=Z (λg u=>(h.dB g u).2.2) h.k8
 have W:∀ g,(S (B ⟨E,0,I⟩) (k+1) G).ownBlock=B g->g≠gO/\g≠gM/\g≠g8:=λg e=>by
  rcases D with D|D;·exact h.dB g (by rw[<-D];exact e)
  have:=D g e;omega
 have X:∀ b∈zs++T,b≠gO/\b≠gM/\b≠g8:=λb H=>by
  rcases DV.1 H with H|H;·exact h.dZ b H
  exact af b H
 have O:wa.grownBy (wa.setCell ⟨gO,0,I⟩ (S (B ⟨E,0,I⟩) (k+1) G)) (B gO):=A1f (A3p wa _);have aa:Bw w3 wa:=h.bl.grown u h.bl.size (λx ae=>CJ h.lo.1 (h.pv.lt x ae).1);refine⟨aa.setCell (p:=⟨gO,0,I⟩) h.lo.2.2.1 _,A3g ag,?_,?_,h.mi,ad.keep O (λe=>(W _ e).1 rfl) (λe=>(X _ e).1 rfl),⟨h.lo.1,CJ h.lo.2.1 (CJ u.size O.size),h.lo.2.2⟩,h.dX,W,X⟩;·exact(O.block _ (E_ Y) (by intro e;injection e with e;exact h.dX.2.1 e.symm)).trans Y
 ·exact(h.mr.kept u (by
   cases ab:(S A k c).ownBlock with
   |none=>exact .inr (λe=>by cases e)
   |some g=>exact .inr (λe=>(h.dB g ab).2.1 (by injection e with e;exact e.symm)))).kept O (.inr (λe=>by injection e with e;exact h.dX.1 e.symm))
end
end
theorem D1t (ps:List TPoint) (es:List TEdge) (M:List Bool):∀ i,(A7b ps es M i).length<=ps.length+i
 |0=>CE _
 |i+1=>by
  have:=D1t ps es M i
  unfold A7b
  split
  ·rw[GQ];simp;omega
  omega
theorem C4w (es:List TEdge) (ms:List Int) (ts:List TTri):∀ k,(A3b es ms ts k).length<=4*k
 |0=>CE _
 |k+1=>by
  have h1:=C4w es ms ts k
  have h2:(A6w es ms 2 (ts.getD k A4p)).length<=2 ^ 2:=(B1o es ms 2 (ts.getD k A4p)).2
  rw[A3b,GQ];omega
attribute [local simp] MP.trow
theorem D5g (v:AU) (m:TMesh) (b:List Nat) (es:List TEdge) (A:Option AJ) (n c:Nat) (L:List Int) (bs:List Nat) (R:List Bool) (bX:Nat) (w:AD) (E:Agg w v m b) (c7:Sl w A n c L bs) (dl:n<=144) (dc:P_ m.triangles=es) (ci:es.length<=100) (dp:m.1.length<=40) (ok:∀ p∈m.1,A1b p=AF) (b4:m.triangles.length<=48)
  (dt:∀ t∈m.triangles,B4h es t=AF) (c8:C8n es m.triangles bX (B0a es.length L)=B R) (db:∀ e∈es,(0<=e.a/\e.a<m.1.length)/\0<=e.b/\e.b<m.1.length) (di:∀ t∈m.triangles,0<=t.5/\t.5<=900) :
  BL prog 212 #[v,S A n c] w (λe w'=>∃ v' s,e=.returned v'/\Agg w' v' (A2m m R) s/\(∀ b∈s,w.1.size<=b)/\Bw w w'):=by
 have bJ:=A_ E;have eb:=A_ dt;have d3:=A_ c7;have d9:=A_ c8;have ep:=A_ ok;have d1:=A_ db;have a6:=A_ di;have cF:=A_ dc;have cH:=A_ dp;have bG:=A_ b4;have d7:=A_ dl;have d6:=A_ ci;obtain⟨fO,dF,gc,he,fP,n1,gd,hf,rfl,rfl,cm,bn⟩:=IP E;have d8:=A_ cm;have ec:=A_ bn;have gL:n1<=48:=by rw[<-bn.1];exact b4
 have gP:(n1:Int)<=48:=oS;have d5:=A_ cm.1;have ed:=A_ bn.1;obtain⟨fj,fk,fl,fm,fn⟩:=FB D1n;obtain⟨dA,ff,fg,fh,fi⟩:=FB A6b;obtain⟨fo,fp,fq,fr,fs⟩:=FB D2e;clear cm bn E c7 dt c8 ok db di dl dp b4 dc ci;go_enter func212,ntmps212;go_upto_region 1 with fail;refine Code.new2 λaS a9=>?_;have bv:=A_ a9.b;have aN:=A_ a9.k;have bQ:=A_ a9.l;clear a9;obtain⟨am,-⟩:=B_ aN (j:=0) rfl;obtain⟨X,-⟩:=B_ aN (j:=1) rfl;simp at am X;have ax:w.1.size<aS.1.size:=E_ aN;go_wp2_with fail;refine(A7q _ m _ aS (bJ.below bv) bG).mono ?_;rintro _ dG ⟨a3,D,bh,aV,rfl,aY,dm,bj⟩;rw[cF.o]at aY;have bI:=A_ aY.1;have ci:D<=100:=by rw[<-aY.1];exact d6
 have gR:(D:Int)<=100:=oS;have cX:=A_ aY;have dM:=A_ (BH bv bj);have cJ:=A_ (K_ aN bj);have Q1:=A_ (K_ bQ bj);have fW:=A_ (show ∀ b∈aV,w.1.size+1<b from λb af=>by have:=(dm.2 b af).1;have:=E_ bQ;omega);clear aY dm bj am X ax;go_upto_region 2 with fail;refine DY λbV aE=>?_;have bu:=A_ (BH dM aE.b);have a7:=A_ (K_ cJ aE.b);have Q2:=A_ (K_ Q1 aE.b);have bD:=A_ aE.k;have cY:=A_ (cX.below aE.b);have fX:=A_ (show w.1.size+1<dG.1.size from E_ Q1);clear cX cJ Q1 aN bQ bv aE;generalize dG.1.size=ao at *;obtain⟨am,-⟩:=B_ a7 (j:=0) rfl;obtain⟨X,-⟩:=B_ a7 (j:=1) rfl;obtain⟨ar,-⟩:=B_ bD (j:=0) rfl;simp at am X ar;have ax:w.1.size<bV.1.size:=E_ a7;have l1:ao<bV.1.size:=E_ bD;go_wp2_with fail;have ea:=A_ (by rw[<-bI.o];exact d9:C8n es m.triangles bX (B0a D L)=B R);refine(D5s _ m _ a3 D bh es aV A n c L bs R bX bV (bJ.o.below bu.o) cY.o (d3.o.below bu.o) d7.o oS bG.o eb.o ea.o).mono ?_;rintro _ aa ⟨eW,rfl,ca,aH⟩;have dO:=A_ ca;have a2:=A_ (BH bu aH);have aO:=A_ (K_ a7 aH);have bd:=A_ (K_ Q2 aH);have a4:=A_ (K_ bD aH);have bT:=A_ (cY.below aH);have cW:=A_ (by have:=ca.1;simpa using this:R.length=D);clear ca aH am X ar ax l1;obtain⟨am,-⟩:=B_ aO (j:=0) rfl;obtain⟨X,-⟩:=B_ aO (j:=1) rfl;simp at am X;have ax:w.1.size<aa.1.size:=E_ aO;go_wp2_with fail;refine(B7i _ m _ aa (bJ.below a2) ep (by have:=cH.o;omega) (by have:=bG.o;omega)).mono ?_;rintro _ br ⟨aC,hq,vT,zs,rfl,⟨cj,du,-,cg,de⟩,b9⟩;obtain⟨aR,aU,-,rfl,-,-⟩:=cj.sl;obtain⟨ev,eR,-,rfl,-,-⟩:=du.sl;have bc:=A_ cj;have a8:=A_ cg;have cG:=A_ de;have bH:=A_ b9;have cA:=A_ (K_ a4 b9);clear cj du cg de b9 am X ax;have e5:∀ aS:AD,(Instr.field 26 (BJ #[S aR m.1.length aU,S ev m.triangles.length eR]) 0).run prog aS=.ok (S aR m.1.length aU) aS:=λ_=>kR;go_upto_region 4 with fail;clear e5;refine DY λab aP=>?_;have aM:=A_ (BH bH aP.b);have bE:=A_ (K_ cA aP.b);have bN:=A_ aP.k;have cV:=A_ (bc.below aP.b);have aA:=A_ (show aa.1.size<=br.1.size from bH.size);have bF:=A_ (show(∀ g,(S aR m.1.length aU).ownBlock=B g->g<br.1.size)/\∀ g∈zs,g<br.1.size from⟨λg aw=>(bc.lt g aw).2,λg aw=>(bc.zlt g aw).2⟩);clear cA bc bH aP;generalize br.1.size=gO at *;obtain⟨ar,-⟩:=B_ bE (j:=0) rfl;simp at ar;have l1:ao<ab.1.size:=E_ bE;have b2:=A_ (by rw[fi];omega:dA.bytes*D<=281474976710656);have eG:=A_ (by unfold BS;omega:D<=BS);have aD:=A_ (E_ bN);have ej:=A_ (show aC<=ab.1.size from CJ cG (Nat.le_of_lt aD));go_upto_region 5 with(at_make;(refine wpList_make_full _ rfl _ _ 35 rfl ab.1.size 3 dA (N K 0) 1 underlying35 ff fg fh .i64 .i64 _ _ D rfl rfl rfl rfl b2 eG (CE _) ?_);intro aL bm dd)
 rw[A8c]at bm;have bk:=(DI ab.1.size ab).grown dd sI (by intro k dh;cases dh);obtain⟨eB,b6⟩:∃ y,y=aL.alloc (BG #[S (B ⟨ab.1.size,0,I⟩) D D] 35):=⟨_,rfl⟩
 have au:=A_ (show ab.1.size<aL.1.size from(FG bm _ rfl).2);have cZ:=A_ (show BiI aa eB aC gO ab.1.size aL.1.size D aR m.1.length aU (A7b m.1 es R 0) zs (A8h m.1 es R 0)from by
  rw[b6];refine⟨(BH aM bk).alloc (by have:=aM.size;have:=au.o;omega) _,K_ (K_ bN.o bk) (BP _),DB aL _,?_,?_,(cV.o.below bk).below (BP _),⟨a8.o,?_,aA.o,?_,?_⟩,⟨?_,?_,?_⟩,?_,?_⟩;·have u:=I_ (A9f bm aM.size) (BP (BG #[S (B ⟨ab.1.size,0,I⟩) D D] 35));show(aL.alloc _).ownsRow aa.1.size 3 1 _ D ((DK es.length (0:Int)).map (N K));rw[bI.o];exact u
  ·intro x E;have dx:x∈DK es.length (0:Int):=E;rw[List.mem_replicate]at dx;rw[dx.2];exact⟨dE,dE⟩
  ·have:=cG.o;have:=aD.o;have:=au.o;have cg:=ej.o;simp;omega
  ·exact aM.size
  ·have:=aM.size;have:=au.o;omega
  ·have:=aD.o;omega
  ·have:=aD.o;have:=au.o;omega
  ·have:=au.o;omega
  ·intro g aw;have O:=bF.1 g aw;have:=aD.o;have:=au.o;omega
  intro g aw;have O:=bF.2 g aw;have:=aD.o;have:=au.o;omega)
 rw[<-b6];clear b6 bm dd bk ar l1 bE bN cV bF;generalize ab.1.size=gM at *;generalize aL.1.size=g8 at *;go_wp2_with fail;go_loopg [29] D (λg s wr=>∃ (i:Nat) (T:Option AJ) (k W:Nat) (a1:List Nat),i+g=D/\s=N K i/\Hid (BiI aa wr aC gO gM g8 D T k W (A7b m.1 es R i) a1 (A8h m.1 es R i)));case atStart=>exact⟨0,aR,m.1.length,aU,zs,oS,rfl,cZ.o⟩
 case round =>
  clear cZ;obtain⟨i,T,k,W,a1,dg,rfl,h⟩:=hrel;have bz:=A_ (BH a2 h.bl);rcases CG i D with aI|aI
  ·have e7:(i:Int)<D:=oS
   have gJ:(0:Int)<=i:=oS;obtain⟨g,rfl⟩:∃ g,gk=g+1:=⟨gk - 1,oS⟩
   have df:=A_ (by omega:i+1+g=D);have cy:=A_ (dO.below h.bl);obtain⟨f,aX⟩:∃ f,R[i]?=B f:=⟨_,DU (by rw[cW.o];exact aI)⟩
   obtain⟨u0,-⟩:=cy.cell aX;have ft:eW<wr.1.size:=cy.lt;have a5:=A_ (by rw[EH,aX];rfl:R.getD i AH=f);obtain⟨aZ,-⟩:=B_ h.k8 (j:=0) rfl;simp at aZ;obtain⟨fL,ct,cu⟩:=h.mcell aI;obtain⟨cq,cp,co,-⟩:=h.lims;clear aX dg;go_upto_region 9 with fail;obtain⟨c2,b7⟩:∃ y,y=wr.setCell ⟨gM,i,I⟩ (N K (-1)):=⟨_,rfl⟩
   have aj:=A_ (by rw[b7];exact h.setM i oG:BiI aa c2 aC gO gM g8 D T k W (A7b m.1 es R i) a1 ((A8h m.1 es R i).set i (-1)));rw[<-b7];clear b7 u0 ft aZ ct cu cq cp co bz h;cases f
   ·have Q1:=A_ (by rw[A7b,a5.o];rfl:A7b m.1 es R (i+1)=A7b m.1 es R i)
    have Q2:=A_ (by rw[A8h,a5.o];rfl:A8h m.1 es R (i+1)=(A8h m.1 es R i).set i (-1));go_wp2_with fail;go_roundg g;case measure=>omega
    case rel=>exact⟨i+1,T,k,W,a1,df.o,gN,by rw[Q1.o,Q2.o];exact aj⟩
   have cM:=A_ (show(A7b m.1 es R i).length=k from aj.pv.len);have Q1:=A_ (by rw[A7b,a5.o];rfl:A7b m.1 es R (i+1)=A7b m.1 es R i++[A2f (Z_ m.1 (es.getD i A4o).a) (Z_ m.1 (es.getD i A4o).b)]);have Q2:=A_ (by rw[A8h,a5.o,List.set_set,<-cM.o];rfl:A8h m.1 es R (i+1)=((A8h m.1 es R i).set i (-1)).set i (k:Int));have dh:k<=140:=by have O:=D1t m.1 es R i;have b3:=cH.o;rw[cM.o]at O;omega
   have gK:(k:Int)<=140:=oS;have dT:=A_ (by unfold BS;omega:k+1<=BS);have dU:=A_ (by omega:(k+1)*112<=140737488355328);have eg:=A_ (show I64 (k:Int)from⟨oS,oS⟩);obtain⟨aZ,-⟩:=B_ aj.k8 (j:=0) rfl;obtain⟨ac,-⟩:=B_ aj.kO (j:=0) rfl;simp at aZ ac;obtain⟨fL,ct,cu⟩:=aj.mcell aI;obtain⟨cq,cp,co,-⟩:=aj.lims;go_upto_region 11 with fail;obtain⟨aT,b8⟩:∃ y,y=c2.setCell ⟨gM,i,I⟩ (N K k):=⟨_,rfl⟩
   have Z:=A_ (by rw[b8,Q2.o];exact aj.setM i eg:BiI aa aT aC gO gM g8 D T k W (A7b m.1 es R i) a1 (A8h m.1 es R (i+1)));rw[<-b8];clear b8 aZ ac ct cu cq cp co aj;have cK:=A_ (K_ aO Z.bl);have cB:=A_ (K_ a4 Z.bl);have er:=A_ (bT.below Z.bl);have cI:=A_ (d8.below (BH a2 Z.bl));obtain⟨gF,ha,e,rfl,gI,aW,eJ,eK,-,-,-⟩:=TEdge.elemA er aI;obtain⟨⟨a0,eF⟩,⟨f6,b1⟩⟩:=d1 e (DH aW);rw[d5.o]at eF b1;obtain⟨f7,hb,ay,fY,gZ,gn,hg,fZ,g0,gp,hi,f0,g1,gq,hj,f1,g2,gt,hk,rfl,gH,dv,fB,p1,p2,fC,fD,fE,dw⟩:=GD cI.o (by omega:e.a.toNat<dF);obtain⟨f8,hc,z,f2,g3,gu,hl,f3,g4,gv,hm,f4,g5,gw,hn,f5,g6,gx,hp,b5,e0,dy,fF,q1,q2,fG,cw,fH,dz⟩:=GD cI.o (by omega:e.b.toNat<dF);injection b5 with b5;injection b5 with aJ aK _;subst aJ;subst aK;have ee:=A_ dw;have ef:=A_ dz;have eo:=A_ (show A2f (Z_ m.1 (es.getD i A4o).a) (Z_ m.1 (es.getD i A4o).b)=A2f ay z by unfold Z_;rw[EH (l:=es),aW,Option.getD_some,EH,dv,EH,dy];rfl);have g7:((e.a.toNat:Nat):Int)=e.a:=oS;have g9:((e.b.toNat:Nat):Int)=e.b:=oS;obtain⟨dI,-⟩:=B_ cK (j:=0) rfl;obtain⟨ar,-⟩:=B_ cB (j:=0) rfl;obtain⟨ac,-⟩:=B_ Z.kO (j:=0) rfl;simp at dI ar ac;have fu:w.1.size<aT.1.size:=E_ cK;have lx:ao<aT.1.size:=E_ cB;have aq:gO<aT.1.size:=E_ Z.kO;clear aW dv dy dw dz e0;refine W_ 22 kR kR kR kR kR ?_;simp only[GT,FM,GU,FF];iterate 20 refine C_ _ ?_
   refine D_ (MP.agg (A2f ay z)) ?_ ?_;·intro az bt ah H G;obtain⟨e2,e6⟩:=F_ H;simp at G;refine G_ ?_;exact H_ (B1s _ _ ay z _ _ ah (ee.below H) (ef.below H))
   refine A1d (λdH=>MP.slbox (dH 20).cells 41) (by intro y dH u;simp[N_,M_]at u;simp[u]) ?_ ?_;·intro az bt ah H G;simp at G;obtain⟨fS,gV,gi,gy,fT,gW,gj,gz,fU,gX,gl,gA,fV,gY,gm,gC,eS,_,_,_,_,_⟩:=EW G.1;refine⟨gD,S (B ⟨ah.1.size,0,I⟩) 1 1,ah.alloc (BG (az 20).cells 41),?_,BP _,[ah.1.size],⟨ah.1.size,rfl,rfl,DB ah _⟩,sI⟩;rw[eS];go_simp
   intro az bt wa H G (cb:Hid _);simp at G;have c6:=G.2.1;have eT:=G.2.2.2.2.2.2.2.2.2.2.2.2.2.2.2.2.2.2.2.2.1;have eU:=G.2.2.2.2.2.2.2.2.2.2.2.2.2.2.2.2.2.2.2.2.2;obtain⟨⟨c9,aX⟩,ds⟩:=eT;obtain⟨dV,fv,eM,bY,dW,fw,eN,aG,dX,fx,eO,bZ,dY,fy,eP,b0,c5,dJ,k1,k2,dB,dD⟩:=EW c9;obtain⟨⟨eX,hs,fN,cc⟩,fc⟩:=eU;rw[c5]at cc;have fM:az 1=S T k W:=c6.1.1;have dL:=A_ (TPoint.shut (x:=A2f ay z) k1 k2 dB dD);have c4:=A_ (show ∀ b∈bY++(aG++(bZ++b0)),aT.1.size<=b from λb af=>(ds b (by rw[dJ];exact af)).1);have d2:=A_ cc;have ak:=A_ (Z.below H);have el:=A_ (ak.lo.2.1);have eD:=A_ (show ∀ b∈bY++(aG++(bZ++b0)),aC<=b/\(S T k W).ownBlock≠B b from λb af=>by have O:=c4 b af;have b3:=Z.lo.2.1;refine⟨oS,λu=>?_⟩;have:=(Z.pv.lt b u).2;omega);have eE:=A_ (show ∀ b∈bY++(aG++(bZ++b0)),b≠gO/\b≠gM/\b≠g8 from λb af=>by have O:=c4 b af;obtain⟨b3,bi,gG,-⟩:=Z.lims;omega);clear G cb c9 aX ds k1 k2 dB dD cc fc fN dJ c6 H dI ar ac fu lx aq eJ eK fB p1 p2 fC fD fE fF q1 q2 fG cw fH c5;obtain⟨ac,fz⟩:=B_ ak.kO (j:=0) rfl;simp at ac;have aq:gO<wa.1.size:=E_ ak.kO;go_wp2_with (at_builtin;refine D0k rfl _ _ 23 rfl 41 fj (BJ #[J AH,S I 0 0,S I 0 0,J AH,S I 0 0,S I 0 0]) 112 underlying23 fk fl fm fn rfl ak.pv el gD ⟨eX,0,I⟩ 1 [J (A2f ay z).x.1.1,S dV fv eM,S dW fw eN,J (A2f ay z).y.1.1,S dX fx eO,S dY fy eP] (A2f ay z) _ gD (A0a d2) dL eD dT dU ?_;intro eV eQ hr dq ce dn;have ap:=(ce.block gO (E_ ak.kO) (λe=>(ak.dB gO e.symm).1 rfl)).trans ak.kO;obtain⟨ag,cx⟩:=B_ ap (j:=0) rfl;simp at ag;have cs:=E_ ap;clear ap ac fz aq);have eu:=A_ (ak.pushP dq ce dn eE);clear dq ce dn ag cx cs;go_roundg g;case measure=>omega
   case rel=>exact⟨i+1,B ⟨eV,0,I⟩,k+1,eQ,_,df.o,gN,by rw[Q1.o,eo.o];exact eu⟩
  obtain rfl:i=D:=oS;have e7:¬ ((i:Int)<i):=oS;have cU:=A_ (by rw[cW.o]:A7b m.1 es R i=A7b m.1 es R R.length);obtain⟨ms,ch⟩:∃ ms,A8h m.1 es R i=ms:=⟨_,rfl⟩
  have d4:=A_ (by rw[bI.o];exact ch:A8h m.1 es R es.length=ms);rw[ch,cU.o]at h;clear ch cU dg aI;have cL:=A_ (K_ aO h.bl);have bS:=A_ (K_ bd h.bl);have cD:=A_ (K_ a4 h.bl);have et:=A_ (bT.below h.bl);obtain⟨cv,dj,dk⟩:=F2z h.mr h.mi;have Y:=A_ (show MidC wr ao g8 a3 i bh es aV (B ⟨gM,0,I⟩) i ms cv from⟨cD.o,h.o.k8,et.o,dj,oS⟩);have en:=A_ dk;have d0:=A_ (show ao<aa.1.size from E_ a4);clear dj dk;obtain⟨X,-⟩:=B_ cL (j:=1) rfl;simp at X;have ax:w.1.size<wr.1.size:=E_ cL;obtain⟨U,eY⟩:∃ U,U=wr:=⟨_,rfl⟩
  subst eY;have cQ:=A_ h.kO;have cN:=A_ (show gO<U.1.size/\gM<U.1.size/\g8<U.1.size/\ao<U.1.size from⟨h.lims.1,h.lims.2.1,h.lims.2.2.1,E_ cD⟩);go_wp2_with fail;go_loopg [73] n1 (λg s wr=>∃ (q:Nat) (al:Option AJ) (cT:Nat),q+g=n1/\s=N K q/\Hid (wr.1[gO]?=B (BG #[S T k W,S al (A3b es ms m.triangles q).length cT] 26))/\Hid (TrRow wr U.1.size (S al (A3b es ms m.triangles q).length cT) (A3b es ms m.triangles q))/\Hid (U.grownBy wr (B gO)));case atStart=>exact⟨0,I,0,oS,rfl,cQ.o,⟨MT _ _ _ _,by simp[A3b]⟩,A3p _ _⟩
  case round =>
   clear cQ X ax;obtain⟨q,al,cT,dr,rfl,aQ,bg,ai⟩:=hrel;have cz:=A_ (bz.grown ai bz.size (λx E=>by injection E with E;subst E;have:=aA.o;have:=a2.size;omega))
   have em:=A_ (show MidC _ ao g8 a3 i bh es aV (B ⟨gM,0,I⟩) i ms cv from
    ⟨(ai.block _ (E_ Y.kE) (by intro e;injection e with e;have:=d0.o;have:=aA.o;omega)).trans Y.o.kE,
    (ai.block _ (E_ Y.kM) (by intro e;injection e with e;exact h.dX.2.1 e.symm)).trans Y.kM,
    Y.sE.keep (λx E=>ai.block x (Y.sE.lt x E) (by intro e;injection e with e;have:=bT.lt x E;have:=aA.o;omega)),
    Y.sM.keep (λx E=>ai.block x (Y.sM.lt x E) (by intro e;injection e with e;have O:=en x E;exact h.dX.1 (e.symm.trans O))),Y.n144⟩)
   have ez:=A_ (C4w es ms m.triangles q);rcases CG q n1 with ck|ck
   ·have fb:(q:Int)<n1:=oS
    obtain⟨g,rfl⟩:∃ g,gk=g+1:=⟨gk - 1,oS⟩
    have fa:=A_ (by omega:q+1+g=n1);obtain⟨f9,hd,t,rfl,e1,cn,bo,aJ,aK,bp,bq,da⟩:=TTri.elemA (ec.below cz) ck;have bf:=A_ (DH cn);have ey:=A_ (by rw[EH,cn];rfl:m.triangles.getD q A4p=t);have c0:=A_ (show C2c t from(TTri.agg da).2.2);clear dr da cn;go_upto_region 17 with fail;refine DY λbW bM=>?_;have bA:=A_ bM.b;have aB:=A_ bM.k;clear bo aJ aK bp bq e1 bM;have cR:=A_ (K_ aQ bA);obtain⟨o1,-⟩:=B_ cR (j:=1) rfl;obtain⟨bo,-⟩:=B_ aB (j:=0) rfl;obtain⟨aJ,-⟩:=B_ aB (j:=1) rfl;obtain⟨aK,-⟩:=B_ aB (j:=2) rfl;obtain⟨bp,-⟩:=B_ aB (j:=3) rfl;obtain⟨bq,-⟩:=B_ aB (j:=4) rfl;simp at o1 bo aJ aK bp bq;have l1:wr.1.size<bW.1.size:=E_ aB;have aq:gO<bW.1.size:=E_ cR;refine W_ 5 kR kR kR kR kR ?_;simp only[GT,FM,GU,FF];iterate 4 refine C_ _ ?_
    refine D_ (MP.trow bW.1.size (A6w es ms 2 t)) ?_ ?_;·intro az bt ah H G;obtain⟨e2,e6⟩:=F_ H;simp at G;refine G_ ?_;exact(C9u ao g8 a3 i bh es aV (B ⟨gM,0,I⟩) i ms cv t ah ((em.below bA).below H) c0 2 (CE _) ⟨(a6 t bf).1,by have:=(a6 t bf).2;omega⟩).mono λ_ _ ⟨g,c,aW,ho,_,_,af⟩=>⟨_,aW,af,[],⟨rfl,g,c,rfl,A9f ho H.size⟩,sI⟩
    intro az bt wa H G (cb:Hid _);simp at G;have q1:=G.2.1;have cw:=G.2.2.2.2;have fM:az 1=S al (A3b es ms m.triangles q).length cT:=q1.1.1;obtain⟨⟨-,aG,eL,ht,o2⟩,-⟩:=cw;have O2:=A_ (o2.cells (g:=aG) rfl);have bB:=A_ (BH bA H);have ba:=A_ (K_ aQ bB);have bU:=A_ (bg.below bB);have cE:=A_ (B4p ai bB);have eC:=A_ (show U.1.size<=wa.1.size from cE.size);have bL:=B1o es ms 2 t;have ek:(A6w es ms 2 t).length<=4:=bL.2;have eA:=ez.o;have dR:=A_ (by unfold BS;omega:(A3b es ms m.triangles q).length+(A6w es ms 2 t).length<=BS);have dS:=A_ (by omega:((A3b es ms m.triangles q).length+(A6w es ms 2 t).length)*40<=140737488355328);have LP:=A_ bL.1;have cP:=A_ (by rw[A3b,ey.o]:A3b es ms m.triangles (q+1)=A3b es ms m.triangles q++A6w es ms 2 t);have ew:=A_ (D2o (es:=es) (ms:=ms) (λa b=>E4k Y.sM es a b) 2 t c0 (a6 t bf).1 (by have:=(a6 t bf).2;omega));clear G cb H o2 bL ek eA bo aJ aK bp bq l1 aq o1 q1;obtain⟨o1,fA⟩:=B_ ba (j:=1) rfl;simp at o1;have aq:gO<wa.1.size:=E_ ba;generalize A3b es ms m.triangles q=ae at *;generalize A6w es ms 2 t=ad at *;go_wp2_with (at_builtin;refine IZ _ rfl _ _ 24 rfl U.1.size 109 fo (BJ #[N K 0,N K 0,N K 0,N K 0,N K 0]) 5 40 underlying24 fp fq fr fs rfl dE (.slice al ae.length cT) ae.length (ae.flatMap A7h) gD bU.1 ⟨aG,0,I⟩ ad.length eL (ad.flatMap A7h) gD (B3l ad) O2 C1s dR dS eC ?_;intro v' w3 bl cd eZ;obtain⟨an,aF,rfl⟩:=C5p bl (by have:=LP.o;omega);have ap:=(cd.block gO (E_ ba) (λe=>by have:=(FG bU.1 gO e.symm).1;have:=cN.1;omega)).trans ba.o;obtain⟨ag,cx⟩:=B_ ap (j:=1) rfl;simp at ag;have cs:=E_ ap;have eh:=A_ ap;clear ap o1 fA aq eZ);have ei:=A_ (A3g (i:=1) (v:=S (B ⟨an,0,I⟩) (ae.length+ad.length) aF) eh);have be:=A_ (A1f (i:=1) (v0:=S (B ⟨an,0,I⟩) (ae.length+ad.length) aF) (A3p w3 (B gO)));have ex:=A_ (show TrRow (w3.setCell ⟨gO,1,I⟩ (S (B ⟨an,0,I⟩) (ae.length+ad.length) aF)) U.1.size (S (B ⟨an,0,I⟩) (ae++ad).length aF) (ae++ad)from by
     refine⟨?_,λx E=>?_⟩;·rw[GQ,List.flatMap_append];exact bl.kept be (.inr λe=>by have gE:an=gO:=IJ e;have:=(FG bl an rfl).1;have:=cN.1;omega)
     rcases DV.1 E with u|u;·exact bg.2 x u
     exact ew x u)
    have dZ:=A_ (A1f (i:=1) (v0:=S (B ⟨an,0,I⟩) (ae.length+ad.length) aF) (B9u cE cd (λx E=>(FG bU.1 x E).1)));clear bl cd ag cx cs;go_roundg g;case measure=>omega
    case rel=>exact⟨q+1,B ⟨an,0,I⟩,aF,fa.o,gN,by rw[cP.o,GQ];exact ei.o,by rw[cP.o];exact ex,dZ⟩
   obtain rfl:q=n1:=oS;have fb:¬ ((q:Int)<q):=oS;have bR:=A_ (show wr.1[w.1.size+1]?=B (BG #[S I 0 0,S I 0 0] 26)from(ai.block _ (E_ bS) (by intro e;injection e with e;have:=E_ bd;have:=aA.o;omega)).trans bS.o);obtain⟨ac,-⟩:=B_ aQ (j:=0) rfl;obtain⟨o1,-⟩:=B_ aQ (j:=1) rfl;obtain⟨r0,fI⟩:=B_ bR (j:=0) rfl;obtain⟨fJ,fK⟩:=B_ bR (j:=1) rfl;simp at ac o1 r0 fJ fI fK;have aq:gO<wr.1.size:=E_ aQ;have gU:w.1.size+1<wr.1.size:=E_ bR;have gQ:w.1.size+1≠gO:=by have:=E_ bd;have:=aA.o;omega
   have bP:=A_ (h.pv.keep ai (λe=>(h.dB _ e).1 rfl) (λe=>(h.dZ _ e).1 rfl));have dN:=A_ (by unfold A2m;rw[cF.o,d4.o,ed.o]:A2m m R=⟨A7b m.1 es R R.length,A3b es ms m.triangles q⟩);clear dr ck;go_wp2;have be:=A_ (A1f (i:=1) (v0:=S al (A3b es ms m.triangles q).length cT) (A1f (i:=0) (v0:=S T k W) (A3p wr (B (w.1.size+1)))));have bK:=A_ (show w.1.size+1<aa.1.size from E_ bd);have bO:=A_ (bP.keep be (λu=>by have:=(bP.lt _ u).1;have:=bK.o;have:=a8.o;omega) (λu=>by have:=(bP.o.zlt _ u).1;have:=bK.o;have:=a8.o;omega));have cO:=A_ (show w.1.size+1<U.1.size from E_ bS);have c1:=A_ (bg.kept be (λu=>by have:=(FG bg.1 _ u).1;have:=cO.o;omega));have dQ:=A_ ((cz.setCell (p:=⟨w.1.size+1,0,I⟩) (JS _) (S T k W)).setCell (p:=⟨w.1.size+1,1,I⟩) (JS _) (S al (A3b es ms m.triangles q).length cT));obtain⟨fR,gh,eI,e4,fe,e9⟩:=bO.sl;injection e4 with O _ bi;subst O;subst bi;obtain⟨fQ,gg,eH,e3,fd,e8⟩:=c1.sl;injection e3 with O _ bi;subst O;subst bi;refine CK (v:=BJ #[S T k W,S al (A3b es ms m.triangles q).length cT]) (by simp[CO,results212,go_sem, *]) rfl ?_;refine⟨_,rfl,eI++eH,by rw[dN.o];exact JN (x:=⟨A7b m.1 es R R.length,A3b es ms m.triangles q⟩) fe fd,λx E=>?_,dQ⟩;rcases DV.1 E with u|u
   ·have O:=bK.o;have b3:=a8.o
    rcases e9 x u with u|u;·have:=(bO.lt x u).1;omega
    have:=(bO.zlt x u).1;omega
   have:=(FG c1.1 x (e8 x u)).1;have:=cO.o;omega
end Go.Proofs.YtjcanieccnljfaaGreat.X

namespace Go.XB
open Go.RowKit Go.Proofs.YtjcanieccnljfaaGreat.X
def MP.tupM (x:TMesh):MP:=⟨λv bs w=>∃ A0 n0 c0 A1 n1 c1,v=.tuple #[BJ #[S A0 n0 c0,S A1 n1 c1],J AF]/\Agg w (BJ #[S A0 n0 c0,S A1 n1 c1]) x bs,λ_ _ _ _ hb h=>by
 obtain⟨A0,n0,c0,A1,n1,c1,e,h⟩:=h;exact⟨A0,n0,c0,A1,n1,c1,e,h.below hb⟩⟩
def MP.exM (y:AU):MP:=⟨λv bs _=>bs=[]/\(∃ A0 n0 c0 A1 n1 c1,v=BJ #[S A0 n0 c0,S A1 n1 c1])/\y=.tuple #[v,J AF],λ_ _ _ _ _ h=>h⟩
end Go.XB
namespace Go.Proofs.YtjcanieccnljfaaGreat.X
open Go.RowKit Go.XB Go.XN Proofs.Tryz
def E3z {α:Type} [Dat α] (w:AD) (x:α) (e:Ending) (w':AD):Prop:=∃ v' s,e=.returned v'/\Agg w' v' x s/\(∀ b∈s,w.1.size<=b)/\Bw w w'
def D2c {α:Type} [Dat α] (w:AD) (x:α) (e:Ending) (w':AD):Prop:=∃ v' s,e=.returned (.tuple #[v',J AF])/\Agg w' v' x s/\(∀ b∈s,w.1.size<=b)/\Bw w w'
theorem CMesh.agg {w:AD} {lo L:Nat} {E vT:AU} {m:TMesh} {zs:List Nat} (h:CMesh w lo L E vT m zs):∃ s,Agg w (BJ #[E,vT]) m s/\∀ b∈s,lo<=b:=by
 obtain⟨u,D,-,ad,-⟩:=h;obtain⟨aa,ac,H,rfl,X,T⟩:=u.sl;obtain⟨Z,ab,G,rfl,W,O⟩:=D.sl;refine⟨H++G,JN X W,λx Y=>?_⟩;rcases DV.1 Y with h|h
 ·rcases T x h with h|h
  ·have:=(u.lt x h).1;omega
  have:=(u.zlt x h).1;omega
 exact(FG D.1 x (O x h)).1
theorem C7a (v:AU) (m:TMesh) (b:List Nat) (w:AD) (O:Agg w v m b) (ok:∀ p∈m.1,A1b p=AF) (E:m.1.length<=144) (H:m.triangles.length<=1000) :
  BL prog 167 #[v] w (E3z w m):=by
 refine(B7i v m b w O ok E H).mono ?_;rintro _ W ⟨L,T,vT,zs,rfl,D,u⟩;obtain⟨s,G,h⟩:=D.agg;exact⟨_,s,rfl,G,h,u⟩
structure RefD (m:TMesh) (L:List Int) (R:List Bool) (xs ys xs' ys':List Int):Prop where
 mesh:MeshI m xs ys
 o:MeshI (A2m m R) xs' ys'
 sd:∀ t∈m.triangles,B4h (P_ m.triangles) t=AF
 cl:C8n (P_ m.triangles) m.triangles 50 (B0a (P_ m.triangles).length (A3d m.triangles L))=B R
 el:(P_ m.triangles).length<=100
 ed:∀ e∈P_ m.triangles,(0<=e.a/\e.a<m.1.length)/\0<=e.b/\e.b<m.1.length
theorem C7b (ts:List TTri) (L:List Int):(A3d ts L).length<=(P_ ts).length:=by
 unfold A3d A9l;have h:=B7j (B4v ts (P_ ts) (B4n ts L) (B4n ts L).length) (B4v ts (P_ ts) (B4n ts L) (B4n ts L).length).length;rw[C7i]at h ⊢;exact h
attribute [local go_sem] L_ Go.XB.opAt N_ M_ Region.wanted yielded
attribute [local simp] N_ M_ MP.eq MP.agg MP.aggV MP.sl MP.tupM MP.exM MP.slbox MP.box A0r
theorem C2q (v:AU) (m:TMesh) (b:List Nat) (A:Option AJ) (n c:Nat) (L:List Int) (bs:List Nat) (R:List Bool) (xs ys aF aG:List Int) (w:AD) (ah:Agg w v m b) (aA:Sl w A n c (A3d m.triangles L) bs) (aC:RefD m L R xs ys aF aG) :
  BL prog 168 #[v,S A n c] w (D2c w (A2m m R)):=by
 have ap:=A_ ah;have an:=A_ aA;have h:=A_ aC;obtain⟨aX,a6,aZ,a8,aY,n1,a1,a9,rfl,rfl,aR,aS⟩:=IP ah;clear aR aS ah aA aC;go_enter func168,ntmps168;go_upto_region 1 with fail;refine Code.new2 λaN T=>?_;have Z:=A_ T.b;have ab:=A_ T.k;have au:=A_ T.l;clear T;obtain⟨u,-,D⟩:=bx ab;go_wp2_with fail;refine(B1u _ m _ xs ys aN (ap.below Z) h.1).mono ?_;rintro _ aW ⟨rfl,W⟩;have O:=A_ (BH Z W);have aq:=A_ (K_ ab W);have Q1:=A_ (K_ au W);clear u D W ab au Z;obtain⟨u,-,D⟩:=bx aq;go_wp2_with fail;refine(D5g _ m _ (P_ m.triangles) A n c (A3d m.triangles L) bs R 50 aW (ap.below O) (an.below O) (by have aP:=an.1;have a2:=C7b m.triangles L;have a3:=h.el;omega) rfl h.o.el h.o.1.n40 (λp aQ=>List.all_eq_true.1 h.o.1.ok p aQ) h.o.1.t48 h.o.sd h.o.cl h.o.ed (λt aT=>by have az:=(h.o.1.tri t aT).2.2.1;unfold inB at az;simp at az;omega)).mono ?_;rintro _ aE ⟨ba,s,rfl,af,aD,ag⟩;obtain⟨X,ai,ad,aU,Y,aj,ae,aV,rfl,rfl,-,-⟩:=IP af;have am:=A_ af;have ao:=A_ (show ∀ b∈aU++aV,w.1.size+1<b from λb G=>by have aP:=aD b G;have:=E_ Q1;omega);have aH:=A_ (BH O ag);have Q2:=A_ (K_ Q1 ag);clear u D ag af aD aq Q1 O;go_upto_region 4 with fail;refine DY λaO E=>?_;have al:=A_ (BH aH E.b);have ac:=A_ E.k;have aw:=A_ (K_ Q2 E.b);have aa:=A_ (am.below E.b);have aM:=A_ (show w.1.size+1<aE.1.size from E_ Q2);clear am Q2 E;generalize aE.1.size=ay at *;obtain⟨u,-,D⟩:=bx ac;go_wp2_with fail;refine(B1u _ _ _ aF aG aO aa h.o.o).mono ?_;rintro _ ak ⟨rfl,H⟩;have aI:=A_ (BH al H);have ar:=A_ (K_ ac H);have ax:=A_ (K_ aw H);have aK:=A_ (aa.below H);clear u D H ac aw al aa;obtain⟨u,-,-⟩:=bx ar;obtain⟨r0,a7,-⟩:=bx ax;have D:ay<ak.1.size:=E_ ar;have a5:w.1.size+1<ak.1.size:=E_ ax;have a4:w.1.size+1≠ay:=by have:=aM.o;omega
 go_wp2;have aJ:=A_ ((aI.setCell (p:=⟨w.1.size+1,0,I⟩) (JS _) (S X ai ad)).setCell (p:=⟨w.1.size+1,1,I⟩) (JS _) (S Y aj ae))
 have aL:=A_ (aK.keep (w':=(ak.setCell ⟨w.1.size+1,0,I⟩ (S X ai ad)).setCell ⟨w.1.size+1,1,I⟩ (S Y aj ae)) (λb G=>by
  have aB:b≠w.1.size+1:=by have:=ao b G;omega
  exact(GA _ _ _ b (by simpa using aB)).trans (GA _ _ _ b (by simpa using aB))))
 refine CK (v:=.tuple #[BJ #[S X ai ad,S Y aj ae],J AF]) (by simp[CO,results168,go_sem, *]) rfl ?_;exact⟨_,_,rfl,aL,λb G=>by have:=ao b G;omega,aJ.o⟩
theorem C5h (v:AU) (m:TMesh) (b:List Nat) (A:Option AJ) (n c:Nat) (L:List Int) (bs:List Nat) (R:List Bool) (xs ys ar ax:List Int) (w:AD) (ah:Agg w v m b) (an:Sl w A n c L bs) (ag:n<=48) (h:RefD m L R xs ys ar ax) :
  BL prog 105 #[v,S A n c] w (D2c w (A2m m R)):=by
 have aF:=A_ ah;have aD:=A_ an;have af:=A_ h;obtain⟨aX,a7,a1,a9,aY,n1,a2,ba,rfl,rfl,aP,aQ⟩:=IP ah;clear aP aQ ah an h;go_enter func105,ntmps105;go_upto_region 1 with fail;refine Code.new2 λaZ ac=>?_;have ae:=A_ ac.b;have aG:=A_ ac.k;have ak:=A_ ac.l;clear ac;obtain⟨aI,-,aR⟩:=bx aG;have aj:=A_ (aF.below ae);have aE:=A_ (aD.below ae);refine W_ 7 kR kR kR kR kR ?_;simp only[GT,FM,GU,FF];iterate 3 refine C_ _ ?_
 refine D_ (MP.sl (A3d m.triangles L)) ?_ ?_;·intro Z aa Y D h;obtain⟨aM,aO⟩:=F_ D;simp at h;refine G_ ?_;exact A1c (C8h _ m _ xs ys A n c L bs Y (aj.below D) (aE.below D) ag af.1 af.sd)
 refine D_ (MP.tupM (A2m m R)) ?_ ?_;·intro Z aa Y D h;obtain⟨aM,aO⟩:=F_ D;simp at h;obtain⟨a4,⟨⟨aA,aS,aH,a3,aL⟩,_⟩⟩:=h;refine G_ ?_;exact(C2q _ m _ aA aS aH L _ R xs ys ar ax Y (aj.below D) aL af).mono λ_ _ ⟨u,s,he,ab,ag,T⟩=>by obtain⟨E,W,H,aU,G,X,O,aV,rfl,rfl,aJ,aK⟩:=IP ab;exact⟨_,he,T,aU++aV,⟨E,W,H,G,X,O,rfl,JN aJ aK⟩,λb T=>⟨ag b T,ab.lt b T⟩⟩
 refine A1d (λau=>MP.exM (au 4)) (by intro y au am;simp[N_,M_]at am;simp[am]) ?_ ?_;·intro Z aa Y D h;simp at h;obtain⟨E,W,H,G,X,O,al,_⟩:=h;refine⟨gD,BJ #[S E W H,S G X O],Y,?_,DI _ _,[],⟨rfl,⟨E,W,H,G,X,O,rfl⟩,al⟩,sI⟩;go_simp
 refine A2b (J AF) ?_ ?_;·intro Z aa Y D h;simp at h;obtain⟨E,W,H,G,X,O,al,_⟩:=h;refine⟨gD,?_⟩;go_simp
 intro Z aa aW D h (aN:Hid _);simp at h;have aT:=h.2.2.2.2.1;have aq:=h.2.2.2.2.2.1;have ad:=h.2.2.2.2.2.2;obtain⟨⟨E,W,H,G,X,O,aw,ab⟩,ap⟩:=aT;have bc:Z 5=BJ #[S E W H,S G X O]:=by have:=aq.1.2.2;rw[aw]at this;simpa using this.symm
 have bd:Z 6=J AF:=by first|exact ad.1.1|exact ad.1|exact ad
 have aB:=A_ ab;have ai:=A_ (show ∀ b∈aa 4,w.1.size+1<b from λb T=>by have a5:=(ap b T).1;have:=E_ ak;omega);have ay:=A_ (BH ae D);have Q1:=A_ (K_ ak D);generalize aa 4=be at *;clear h aN ab ap aq ad aw aI aR D;obtain⟨r0,a8,a6⟩:=bx Q1;go_wp2;have az:=A_ ((ay.setCell (p:=⟨w.1.size+1,0,I⟩) (JS _) (S E W H)).setCell (p:=⟨w.1.size+1,1,I⟩) (JS _) (S G X O))
 have aC:=A_ (aB.keep (w':=(aW.setCell ⟨w.1.size+1,0,I⟩ (S E W H)).setCell ⟨w.1.size+1,1,I⟩ (S G X O)) (λb T=>by
  have ao:b≠w.1.size+1:=by have:=ai b T;omega
  exact(GA _ _ _ b (by simpa using ao)).trans (GA _ _ _ b (by simpa using ao))))
 refine CK (v:=.tuple #[BJ #[S E W H,S G X O],J AF]) (by simp[CO,results105,go_sem, *]) rfl ?_;exact⟨_,_,rfl,aC,λb T=>by have:=ai b T;omega,az.o⟩
structure CopD (p:TProblem):Prop where
 ok:∀ q∈p.1.1,A1b q=AF
 n:p.1.1.length<=144
 t:p.1.triangles.length<=1000
 d:p.2.length<=144/\∀ x∈p.2,B4q x
 s:p.3.length<=144/\∀ x∈p.3,B4q x
theorem C0h (v:AU) (p:TProblem) (b:List Nat) (w:AD) (O:Agg w v p b) (h:CopD p) :
  BL prog 104 #[v] w (E3z w p):=by
 have a6:=A_ O;have T:=A_ h;obtain⟨a4,bd,a8,bf,a5,n1,a9,bg,aK,n2,aU,bh,aL,aE,c3,bi,rfl,rfl,aC,aD,ab,ac⟩:=TProblem.agg O;have aP:=A_ (JN (x:=p.1) aC aD);have aO:=A_ ab;have aQ:=A_ ac;have aS:=A_ (by rw[<-ab.1];exact h.d.1:n2<=144);have aT:=A_ (by rw[<-ac.1];exact h.s.1:aE<=144);clear aC aD ab ac O h;go_enter func104,ntmps104;go_upto_region 1 with fail;refine Code.new2 λa7 Z=>?_;have Y:=A_ Z.b;have aR:=A_ Z.k;have al:=A_ Z.l;clear Z;obtain⟨aV,-,aX⟩:=bx aR;refine W_ 9 kR kR kR kR kR ?_;simp only[GT,FM,GU,FF];iterate 2 refine C_ _ ?_
 refine D_ (MP.aggV p.1) ?_ ?_;·intro ad H X D h;obtain⟨ay,az⟩:=F_ D;simp at h;refine G_ ?_;exact(C7a _ p.1 _ X ((aP.below Y).below D) T.ok T.n T.t).mono λ_ _ ⟨u,s,he,W,hn,G⟩=>⟨u,he,G,s,W,λb G=>⟨hn b G,W.lt b G⟩⟩
 iterate 2 refine C_ _ ?_
 refine D_ (MP.sl p.2) ?_ ?_;·intro ad H X D h;obtain⟨ay,az⟩:=F_ D;simp at h;refine G_ ?_;exact A1c (A2l aK n2 aU p.2 _ X ((aO.below Y).below D) aS T.d.2)
 iterate 2 refine C_ _ ?_
 refine D_ (MP.sl p.3) ?_ ?_;·intro ad H X D h;obtain⟨ay,az⟩:=F_ D;simp at h;refine G_ ?_;exact A1c (A2l aL aE c3 p.3 _ X ((aQ.below Y).below D) aT T.s.2)
 intro ad H a3 D h (aW:Hid _);simp at h;have q2:=h.2.2.1;have aY:=h.2.2.2.2.2.1;have aZ:=h.2.2.2.2.2.2.2.2;obtain⟨W,aa⟩:=q2;obtain⟨ae,aH,ap,a1,af,aI,aq,a2,bj,aJ,aw,ax⟩:=IP W;obtain⟨⟨⟨ah,aF,an,bk,ar⟩,-⟩,aA⟩:=aY;obtain⟨⟨⟨ai,aG,ao,bl,au⟩,-⟩,aB⟩:=aZ;have aj:=A_ (TProblem.mkAgg (x:=p) aw ax ar au)
 have ak:=A_ (show ∀ b∈a1++(a2++(H 5++H 8)),w.1.size+1<b from λb G=>by
  have ba:=E_ al;rw[aJ]at aa;rcases DV.1 G with E|E
  ·have:=(aa b (DV.2 (.inl E))).1;omega
  rcases DV.1 E with E|E;·have:=(aa b (DV.2 (.inr E))).1;omega
  rcases DV.1 E with E|E;·have:=(aA b E).1;omega
  have:=(aB b E).1;omega)
 have ag:=A_ (BH Y D);have Q1:=A_ (K_ al D);generalize H 5=bm at *;generalize H 8=bn at *;clear h aW W aa aJ aw ax ar au aA aB aV aX D;obtain⟨r0,be,bc⟩:=bx Q1;go_wp2;have am:=A_ (A1f (i:=3) (v0:=S ai aG ao) (A1f (i:=2) (v0:=S ah aF an) (A1f (i:=1) (v0:=S af aI aq) (A1f (i:=0) (v0:=S ae aH ap) (A3p a3 (B (w.1.size+1)))))));have aM:=A_ (ag.grown am ag.size (λx O=>by injection O with O;omega));have aN:=A_ (aj.keep (λb G=>am.block b (aj.lt b G) (by intro e;injection e with e;have:=ak b G;omega)));refine CK (v:=BJ #[S ae aH ap,S af aI aq,S ah aF an,S ai aG ao]) (by simp[CO,results104,go_sem, *]) rfl ?_;exact⟨_,_,rfl,aN,λb G=>by have:=ak b G;omega,aM.o⟩
end Go.Proofs.YtjcanieccnljfaaGreat.X
