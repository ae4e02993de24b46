/- A part of the proof. -/
import Derived.Test.YtjcanieccnljfaaGreatY33
import Derived.Deep.RegionHeld3
import Derived.Test.YtjcanieccnljfaaGreatY15
set_option linter.constructorNameAsVariable false
set_option maxHeartbeats 16000000
set_option maxRecDepth 10000
open Go renaming Addr→AJ,Calls→BL,Value→AU,World→AD,bodyPost_ret→CK,heap_alloc_new→DB,maxLen→BS,results→CO
open Go.IntKind renaming i64→K
open Go.Obj renaming cells→BG
open Go.Value renaming agg→BJ,int→RH,slice→S
open Go.World renaming cell?_of_block→JY,frozen?_of_block→QJ
open Nat renaming le_refl→CE,le_trans→CJ
open Option renaming none→I,some→B
namespace Go.Proofs.YtjcanieccnljfaaGreat.X
open Go.RowKit Go.XB Go.XN Proofs.Tryz
attribute [local go_sem] L_ Go.XB.opAt N_ M_ Region.wanted yielded
attribute [local simp] N_ M_ MP.eq MP.agg MP.sl A0r
def E6h (w:AD) (g:Nat) (A:Option AJ) (n c:Nat) (e:Ending) (w':AD):Prop:=∃ b:Bool,e=.returned (.bool b)/\Cur w' g A n c/\w.grownBy w' (B g)
theorem D3h (N:Int) (H:0<N) (O:N<=256) (g:Nat) (A:Option AJ) (n c:Nat) (xs:List TByte) (bs:List Nat) (w:AD) (h:Sl w A n c xs bs) (T:n<=1048576) (b:Cur w g A n c) (u:g∉bs) :
  BL prog 81 #[.pointer (B ⟨g,0,I⟩),RH K N] w (E6h w g A n c):=by
 have C:=A_ (A5q N H O g A n c xs bs w h T b u);clear h b u;go_enter func81,ntmps81;go_wp2_with fail;refine C.mono ?_;rintro _ W ⟨x,rfl,h,b,D⟩;have E:=A_ b;have G:=A_ D;clear b D;go_wp2;go_ret;exact⟨_,rfl,E,G⟩

theorem Cur.keep' {w w':AD} {g:Nat} {A:Option AJ} {n c:Nat} (h:Cur w g A n c) (b:w'.1[g]?=w.1[g]?) (W:w.1.size<=w'.1.size):Cur w' g A n c:=by
 obtain⟨i,x,u,T,D,E,G,H,O⟩:=h;exact⟨i,x,u,oS,(JY b).trans D,(JY b).trans E,(JY b).trans G,(QJ b).trans H,(QJ b).trans O⟩
theorem Cur.below' {w w':AD} {g:Nat} {A:Option AJ} {n c:Nat} (h:Cur w g A n c) (b:Bw w w'):Cur w' g A n c:=by
 have D:g<w.1.size:=by obtain⟨i,x,E,u,_⟩:=h;exact u
 exact h.keep' (b.block g D) b.size
theorem Cur.lt' {w:AD} {g:Nat} {A:Option AJ} {n c:Nat} (h:Cur w g A n c):g<w.1.size:=by obtain⟨i,x,h1,h2,_⟩:=h;exact h2

theorem D4y (k:Nat) (X:k<=1000) (A:Option AJ) (n c:Nat) (xs:List TByte) (bs:List Nat) (w:AD) (G:Sl w A n c xs bs) (Y:n<=1048576) :
  BL prog 30 #[S A n c,RH K k] w (λe w'=>e=.returned (.pointer (B ⟨w.1.size,0,I⟩))/\Cur w' w.1.size A n c/\Bw w w'/\w.1.size<w'.1.size):=by
 have H:=A_ G;have ad:=A_ (show w.1.size∉bs from λu=>absurd (G.lt _ u) (Nat.lt_irrefl _));clear G;go_enter func30,ntmps30;go_wp2_with fail;refine(C2z A n c xs bs w H Y).mono ?_;rintro _ al ⟨rfl,b,O,ah⟩;have ab:=A_ b;have Z:=A_ O;clear b O;go_wp2_with fail;go_loopg [6] k (λg s wr=>∃ i:Nat,i+g=k/\s=RH K i/\Hid (Cur wr w.1.size A n c)/\Hid (Bw w wr)/\w.1.size<wr.1.size);case atStart=>exact⟨0,oS,rfl,ab.o,Z.o,ah⟩
 case round =>
  obtain⟨i,W,rfl,b,h,ag⟩:=hrel;rcases Nat.lt_or_ge i k with E|E
  ·obtain⟨g,rfl⟩:∃ g,gk=g+1:=⟨gk - 1,oS⟩
   have af:=A_ (by omega:i+1+g=k);have ae:(i:Int)<k:=oS;have ak:(i:Int)<=1000:=oS;clear W E;go_wp2_with fail;refine(D2v w.1.size A n c xs bs wr (H.below h) Y b ad).mono ?_;rintro _ aj ⟨x,rfl,_,T,D⟩;have ac:=A_ T;have aa:=A_ (h.grown D h.size (λk X=>by injection X with u;subst u;exact CE _));have ai:w.1.size<aj.1.size:=by have:=D.size;omega
   clear T D;go_wp2_with fail;go_roundg g;case measure=>omega
   case rel=>exact⟨i+1,af,gN,ac,aa,ai⟩
  have ae:¬ ((i:Int)<k):=oS;clear W E;go_wp2;go_ret;exact⟨rfl,b,h,ag⟩
def A4d (r:Int):TMesh:=⟨[ptI 0 0,ptI 2 0,ptI 2 2,ptI 0 2,ptI 1 1],[⟨4,0,1,0,0⟩,⟨4,1,2,0,0⟩,⟨4,2,3,1,0⟩,⟨4,3,0,r,0⟩]⟩
def B0j (r:Int):TMesh:=⟨[ptI 0 0,ptI 2 0,ptI 2 1,ptI 0 2],[⟨1,2,0,0,0⟩,⟨3,0,2,r,0⟩]⟩
def C2p (_r:Int):TMesh:=⟨[ptI 0 0,ptI 1 0,ptI 2 0,ptI 2 1,ptI 1 1,ptI 1 2,ptI 0 2,ptI 0 1],[⟨1,4,0,0,0⟩,⟨7,0,4,0,0⟩,⟨3,4,2,0,0⟩,⟨1,2,4,1,0⟩,⟨7,4,6,0,0⟩,⟨5,6,4,2,0⟩]⟩
def A8j (m:TMesh):Prop:=(∃ r,(0<=r/\r<2)/\m=A4d r)\/(∃ r,(0<=r/\r<3)/\m=B0j r)\/m=C2p 0
def B6h (w:AD) (g:Nat) (e:Ending) (w':AD):Prop:=∃ (m:TMesh) (v:AU) (s:List Nat),e=.returned v/\A8j m/\Agg w' v m s/\w.grownBy w' (B g)/\∀ b∈s,w.1.size<=b
theorem A9w {w w1 w2:AD} {r:Option Nat} (h:w.grownBy w1 r) (h2:w1.grownBy w2 r):w.grownBy w2 r :=
 ⟨h2.os.trans h.os,h2.tape.trans h.tape,h2.output.trans h.output,CJ h.size h2.size,λk hk hne=>(h2.block k (Nat.lt_of_lt_of_le hk h.size) hne).trans (h.block k hk hne)⟩
theorem E5z {w:AD} {g n size:Nat} {e:TypeId} {cells:List AU} (h:w.1[g]?=B (BG cells.toArray e)) (hl:cells.length=n*size) (hn:n<=BS):w.ownsRow 0 e size (S (B ⟨g,0,I⟩) n n) n cells :=
 ⟨hl,.inr ⟨g,n,cells.toArray,rfl,Nat.zero_le _,h,CE _,hn,by simpa using hl,by rw[<-hl];simp⟩⟩
theorem D9l {α:Type} [Dat α] {w:AD} {g n:Nat} {e:TypeId} {cells:List AU} {xs:List α} {fss:List (List Nat)} (h:w.1[g]?=B (BG cells.toArray e)) (H:cells.length=n*Dat.sz α) (O:n<=BS) (G:Filled w cells xs fss) (Y:xs.length=n):∃ bs,Sl w (B ⟨g,0,I⟩) n n xs bs/\∀ b∈bs,b=g\/b∈fss.flatten:=by
 obtain⟨A,c,bs,X,W,T⟩:=G.sl (E5z h H O) Y;cases X;refine⟨bs,W,λb D=>?_⟩;rcases T with⟨_,rfl⟩|⟨g',E,rfl,_⟩;·cases D
 have e:g=g':=by simpa[Value.ownBlock]using E
 rcases List.mem_cons.1 D with u|u;·exact .inl (u.trans e.symm)
 exact .inr u
theorem E6g (w:AD) (a b c r l:Int) (ha:I64 a) (hb:I64 b) (hc:I64 c) (hr:I64 r) (hl:I64 l):Dat.at_ w [RH K a,RH K b,RH K c,RH K r,RH K l] (⟨a,b,c,r,l⟩:TTri) []:=TTri.shut (x:=⟨a,b,c,r,l⟩) ha hb hc hr hl
theorem B2y {a:Int} (h:-1000<=a/\a<=1000):I64 a:=by constructor<;>omega
theorem E7v {w:AD} {y:TPoint} {u0 u1 u2 u u4 D:AU} {b:List Nat} (h:Agg w (BJ #[u0,u1,u2,u,u4,D]) y b):Dat.at_ w [u0,u1,u2,u,u4,D] y b:=by
 obtain⟨E,O,H⟩:=h;have G:E=[u0,u1,u2,u,u4,D]:=by have:=congrArg (λv=>match v with | .agg c=>c.toList|_=>[]) O;simpa using this.symm
 rw[<-G];exact H
structure PAcc (wi v:AD) (cells:List AU) (ps:List TPoint):Prop where
 f:∃ fss,Filled v cells ps fss/\∀ b∈fss.flatten,wi.1.size<=b
 b:Bw wi v
theorem PAcc.start (wi:AD):PAcc wi wi [] []:=⟨⟨[],Filled.nil _ _,sI⟩,Below.refl _ _⟩
theorem PAcc.push {O v u:World} {cells:List Value} {ps:List TPoint} {x:TPoint} {s:List Nat} {u0 u1 u2 G u4 H:Value} (h:PAcc O v cells ps) (X:Agg u (.agg #[u0,u1,u2,G,u4,H]) x s) (Z:Own v u s) (E:Bw v u) (Y:cells.length=ps.length*6:=by rfl):PAcc O u (cells++[u0,u1,u2,G,u4,H]) (ps++[x]):=by
 obtain⟨⟨fss,T,W⟩,D⟩:=h;refine⟨⟨fss++[s],(T.below E).push Y (E7v X),λy b=>?_⟩,Below.next D E⟩;rw[List.flatten_append,List.mem_append]at b;rcases b with b|b;·exact W y b
 exact CJ D.size (Z.2 y (by simpa using b)).1
def D2t (t:TTri):List AU:=[RH K t.a,RH K t.b,RH K t.c,RH K t.4,RH K t.5]
def B7s (t:TTri):Prop:=∀ x∈[t.a,t.b,t.c,t.4,t.5],-1000<=x/\x<=1000
theorem C2m (w:AD):∀ (ts acc:List TTri) (cells:List AU),cells.length=acc.length*5->(∀ t∈ts,B7s t)->Filled w cells acc (acc.map λ_=>[])->Filled w (cells++ts.flatMap D2t) (acc++ts) ((acc++ts).map λ_=>[])
 | [],acc,cells,_,_,h=>by simpa using h
 |t::ts,acc,cells,hl,hs,h=>by
  have h0:=hs t sI
  have h1:Filled w (cells++D2t t) (acc++[t]) (acc.map (λ_=>[])++[[]]):=h.push hl (E6g w t.a t.b t.c t.4 t.5 (B2y (h0 _ sI)) (B2y (h0 _ sI)) (B2y (h0 _ sI)) (B2y (h0 _ sI)) (B2y (h0 _ sI)))
  have:=C2m w ts (acc++[t]) (cells++D2t t) (by simp[D2t,hl];omega) (λx hx=>hs x (by simp[hx])) (by simpa using h1)
  simpa using this
theorem _root_.Go.XB.Filled.keepG {α:Type} [Dat α] {w w':AD} {cells:List AU} {xs:List α} {fss:List (List Nat)} {g:Nat} (h:Filled w cells xs fss) (hg:w.grownBy w' (B g)) (hn:g∉fss.flatten):Filled w' cells xs fss :=
 h.keep λb hb=>hg.block b (h.lt b hb) (λe=>hn (by injection e with e;exact e ▸ hb))
theorem E6u {X w:AD} {r:Option Nat} {p:AJ} {v:AU} (h:X.grownBy w r) (hp:X.1.size<=p.block):X.grownBy (w.setCell p v) r :=
 ⟨h.os,h.tape,h.output,by simpa using h.size,λk hk hne=>(Below.heap_setCell _ _ _ k oS).trans (h.block k hk hne)⟩
theorem E7p {w w':AD} {o:Obj} {r:Option Nat} (h:(w.alloc o).grownBy w' r):w.grownBy w' r :=
 ⟨h.os,h.tape,h.output,by have:=h.size;simp at this;omega,λk hk hne=>(h.block k oR hne).trans (Below.heap_alloc _ _ _ hk)⟩
theorem C8b {w E u:AD} {g n k G H:Nat} {cells:List AU} {T tr:Array AU} {m:TMesh} (f:∃ fss,Filled u cells m.1 fss/\∀ b∈fss.flatten,E.1.size<=b) (af:A8j m) (X:u.1[G]?=B (BG T 41)) (Y:u.1[H]?=B (BG tr 109)) (al:w.1.size<=E.1.size) (am:E.1.size<=G) (an:E.1.size<=H) (W:w.grownBy u (B g)) (ah:∀ t∈m.triangles,B7s t)
  (ad:T=cells.toArray) (ai:tr=(m.triangles.flatMap D2t).toArray) (ag:m.1.length=n) (ae:m.triangles.length=k) (O:cells.length=n*6) (ap:n<=8) (ao:k<=8) :
  B6h w g (.returned (BJ #[S (B ⟨G,0,I⟩) n n,S (B ⟨H,0,I⟩) k k])) u:=by
 subst ad;subst ai;subst ag;subst ae;obtain⟨fss,Z,aa⟩:=f;obtain⟨b1,ab,aj⟩:=D9l X O (by unfold BS;omega) Z rfl;obtain⟨b2,ac,ak⟩:=D9l (α:=TTri) (n:=m.triangles.length) Y (by
  have:∀ D:List TTri,(D.flatMap D2t).length=D.length*5:=λD=>by induction D with
   |nil=>rfl
   |cons t D ih=>rw[List.flatMap_cons,List.length_append,ih];simp[D2t];omega
  exact this _) (by unfold BS;omega) (by simpa using C2m u m.triangles [] [] rfl ah (Filled.nil _ _)) rfl
 refine⟨m,_,_,rfl,af,TMesh.mkAgg ab ac,W,λb h=>?_⟩;rcases List.mem_append.1 h with h|h
 ·rcases aj b h with rfl|h
  ·omega
  have:=aa b h;omega
 rcases ak b h with rfl|h;·omega
 obtain⟨l,O,h⟩:=List.mem_flatten.1 h;obtain⟨t,-,rfl⟩:=List.mem_map.1 O;cases h
theorem D0u {w Z v T h:AD} {o:Obj} {g n k:Nat} {cells:List AU} {X tr:Array AU} {m:TMesh} {a b:AU} (H:(w.alloc o).grownBy Z (B g)) (ao:g<w.1.size) (P:PAcc Z v cells m.1) (N:New1 v T (BG X 41)) (u:T.grownBy h (B g)) (ai:A8j m) (al:∀ t∈m.triangles,B7s t)
  (ad:X=cells.toArray:=by rfl) (am:tr=(m.triangles.flatMap D2t).toArray:=by rfl) (aj:m.1.length=n:=by rfl) (af:m.triangles.length=k:=by rfl) (ah:cells.length=n*6:=by rfl) (ak:n<=8:=by decide) (ag:k<=8:=by decide) :
  B6h w g (.returned (BJ #[S (B ⟨v.1.size,0,I⟩) n n,S (B ⟨h.1.size,0,I⟩) k k])) (((h.setCell ⟨w.1.size,0,I⟩ a).setCell ⟨w.1.size,1,I⟩ b).alloc (BG tr 109)):=by
 obtain⟨⟨fss,ab,D⟩,Y⟩:=P;have an:=H.size;have ap:=Y.size;have aq:=E_ N.k;have ar:=u.size;simp at an;have O:=A5y (i:=1) (v0:=b) (A5y (i:=0) (v0:=a) (B3a h (B w.1.size)));have aa:=E6u (p:=⟨w.1.size,1,I⟩) (v:=b) (E6u (p:=⟨w.1.size,0,I⟩) (v:=a) (E7p (gtr (E1s H (Below.next Y N.b)) u)) (CE _)) (CE _);have ac:((h.setCell ⟨w.1.size,0,I⟩ a).setCell ⟨w.1.size,1,I⟩ b).1.size=h.1.size:=sI;generalize (h.setCell ⟨w.1.size,0,I⟩ a).setCell ⟨w.1.size,1,I⟩ b=W at *;have G:=Below.box (w:=W) (BG tr 109);have ae:=(((ab.below N.b).keepG u (λE=>by have:=D _ E;omega)).keepG O (λE=>by have:=D _ E;omega)).below G;rw[<-ac];exact C8b ⟨fss,ae,D⟩ ai (A0z (B8b (B8b N.k u oS) O oS) G) (DB W _) oS oS oS (E1s aa G) al ad am aj af ah ak ag
theorem D7f {w G v:AD} {o:Obj} {g n k:Nat} {cells:List AU} {h tr:Array AU} {m:TMesh} {a b:AU} (u:(w.alloc o).grownBy G (B g)) (P:PAcc G v cells m.1) (ad:A8j m) (ag:∀ t∈m.triangles,B7s t)
  (Z:h=cells.toArray:=by rfl) (ah:tr=(m.triangles.flatMap D2t).toArray:=by rfl) (ae:m.1.length=n:=by rfl) (aa:m.triangles.length=k:=by rfl) (ac:cells.length=n*6:=by rfl) (af:n<=8:=by decide) (ab:k<=8:=by decide) :
  B6h w g (.returned (BJ #[S (B ⟨v.1.size,0,I⟩) n n,S (B ⟨v.1.size+1,0,I⟩) k k])) ((((v.setCell ⟨w.1.size,0,I⟩ a).setCell ⟨w.1.size,1,I⟩ b).alloc (BG h 41)).alloc (BG tr 109)):=by
 obtain⟨⟨fss,W,D⟩,E⟩:=P;have ai:=u.size;have aj:=E.size;simp at ai;have O:=A5y (i:=1) (v0:=b) (A5y (i:=0) (v0:=a) (B3a v (B w.1.size)));have H:=E6u (p:=⟨w.1.size,1,I⟩) (v:=b) (E6u (p:=⟨w.1.size,0,I⟩) (v:=a) (E7p (E1s u E)) (CE _)) (CE _);have Y:((v.setCell ⟨w.1.size,0,I⟩ a).setCell ⟨w.1.size,1,I⟩ b).1.size=v.1.size:=sI;generalize (v.setCell ⟨w.1.size,0,I⟩ a).setCell ⟨w.1.size,1,I⟩ b=T at *;have N:=New2.mk' T (BG h 41) (BG tr 109);rw[<-Y];exact C8b ⟨fss,(W.keepG O (λX=>by have:=D _ X;omega)).below N.b,D⟩ ad N.k N.l oS oS oS (E1s H N.b) ag Z ah ae aa ac af ab
set_option maxRecDepth 100000 in
theorem C9a (g:Nat) (A:Option AJ) (W c:Nat) (xs:List TByte) (bs:List Nat) (w:AD) (aF:Sl w A W c xs bs) (aE:W<=1048576) (ad:Cur w g A W c) (aC:g∉bs) :
  BL prog 48 #[.pointer (B ⟨g,0,I⟩)] w (B6h w g):=by
 have ac:=A_ aF;have aL:=A_ ad;have ab:=A_ aC;have aD:g<w.1.size:=ad.lt';have ak:=A_ aE;clear aF ad aC aE;go_enter func48,ntmps48;go_wp2_with fail;have Z:=A_ (Below.box (w:=w) (BG #[S I 0 0,S I 0 0] 26));refine(A5q 3 dE dE g A W c xs bs _ (ac.below Z) ak (aL.below' Z) ab).mono ?_;rintro _ X ⟨x,rfl,aP,aB,O⟩;have aK:=A_ aB;have aa:=A_ O;have aM:=A_ ((ac.below Z).keep (λan aA=>O.block an ((ac.below Z).lt an aA) (by intro e;injection e with e;exact ab.o (e ▸ aA))));have al:=A_ (show X.1[w.1.size]?=B (BG #[S I 0 0,S I 0 0] 26)from(O.block _ sI iO).trans (DB w _));have b:=A_ (PAcc.start X);have aO:w.1.size+1<=X.1.size:=by have:=O.size;simp at this;omega
 clear aB O;have am:=A_ (fun(v G H:AD) (cs:List AU) (ps:List TPoint) (o:Obj) (P:Hid (PAcc X v cs ps)) (N:Hid (New1 v G o)) (hy:G.grownBy H (B g))=>(show H.1[w.1.size]?=B (BG #[S I 0 0,S I 0 0] 26)from B8b (A0z (A0z al.o P.o.b) N.o.b) hy oS));have af:=A_ (fun(v G:AD) (cs:List AU) (ps:List TPoint) (o:Obj) (P:Hid (PAcc X v cs ps)) (N:Hid (New1 v G o)) (k:Int) (h0:0<k) (h1:k<=256)=>A5q k h0 h1 g A W c xs bs G ((aM.below P.b).below N.b) ak (((aK.below' P.b).below' N.b)) ab);obtain rfl|rfl|rfl:x=0\/x=1\/x=2:=oS
 ·iterate 5
   go_wp2_with fail
   refine(B3o _ _ _ oG oG).mono ?_
   rintro _ v1 ⟨u0,aJ,rfl,h,D,u⟩
   obtain⟨ag,n1,ao,au,ah,n2,ap,aw,ai,aH,aq,ax,aj,aI,ar,ay,rfl,Y,_,_,_,_⟩:=TPoint.agg h
   have b:=A_ (b.push h D u)
   clear h D u Y
  go_wp2_with fail
  refine BL.new λG N=>?_
  refine(af _ _ _ _ _ b N 2 dE dE).mono ?_
  rintro _ H ⟨r,rfl,ae,aN,T⟩
  obtain⟨r0,az,aG⟩:=bx (am _ _ _ _ _ _ b N T)
  go_wp2
  refine CK (v:=BJ #[S (B ⟨v1.1.size,0,I⟩) 5 5,S (B ⟨H.1.size,0,I⟩) 4 4]) (by simp[CO,results48,go_sem, *]) rfl ?_
  exact D0u (m:=A4d r) aa aD b N T (.inl ⟨r,ae,rfl⟩) (by intro t E;simp[A4d]at E;rcases E with rfl|rfl|rfl|rfl<;>simp[B7s]<;>omega)
 ·iterate 4
   go_wp2_with fail
   refine(B3o _ _ _ oG oG).mono ?_
   rintro _ v1 ⟨u0,aJ,rfl,h,D,u⟩
   obtain⟨ag,n1,ao,au,ah,n2,ap,aw,ai,aH,aq,ax,aj,aI,ar,ay,rfl,Y,_,_,_,_⟩:=TPoint.agg h
   have b:=A_ (b.push h D u)
   clear h D u Y
  go_wp2_with fail
  refine BL.new λG N=>?_
  refine(af _ _ _ _ _ b N 3 dE dE).mono ?_
  rintro _ H ⟨r,rfl,ae,aN,T⟩
  obtain⟨r0,az,aG⟩:=bx (am _ _ _ _ _ _ b N T)
  go_wp2
  refine CK (v:=BJ #[S (B ⟨v1.1.size,0,I⟩) 4 4,S (B ⟨H.1.size,0,I⟩) 2 2]) (by simp[CO,results48,go_sem, *]) rfl ?_
  exact D0u (m:=B0j r) aa aD b N T (.inr (.inl ⟨r,ae,rfl⟩)) (by intro t E;simp[B0j]at E;rcases E with rfl|rfl<;>simp[B7s]<;>omega)
 iterate 8 go_wp2_with fail;refine(B3o _ _ _ oG oG).mono ?_;rintro _ v1 ⟨u0,aJ,rfl,h,D,u⟩;obtain⟨ag,n1,ao,au,ah,n2,ap,aw,ai,aH,aq,ax,aj,aI,ar,ay,rfl,Y,_,_,_,_⟩:=TPoint.agg h;have b:=A_ (b.push h D u);clear h D u Y
 obtain⟨r0,az,aG⟩:=bx (A0z al b.b);go_wp2;refine CK (v:=BJ #[S (B ⟨v1.1.size,0,I⟩) 8 8,S (B ⟨v1.1.size+1,0,I⟩) 6 6]) (by simp[CO,results48,go_sem, *]) rfl ?_;exact D7f (m:=C2p 0) aa b (.inr (.inr rfl)) (by intro t E;simp[C2p]at E;rcases E with rfl|rfl|rfl|rfl|rfl|rfl<;>simp[B7s])
end Go.Proofs.YtjcanieccnljfaaGreat.X
