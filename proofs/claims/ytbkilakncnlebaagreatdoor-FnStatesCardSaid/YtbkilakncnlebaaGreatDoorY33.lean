/- A part of the proof. -/
import Derived.Test.YtbkilakncnlebaaGreatDoorY32
import Derived.Deep.RegionHeld3
import Derived.Test.YtbkilakncnlebaaGreatDoorY14
set_option linter.constructorNameAsVariable false
set_option maxHeartbeats 16000000
set_option maxRecDepth 10000
open Go renaming Value→AJ,World→J,bodyPost_ret→BI,heap_alloc_new→CF,maxLen→BG,results→BO
open Go.Obj renaming cells→AK
open Go.Value renaming agg→AM,int→QS,slice→S
open Go.World renaming cell?_of_block→JF,frozen?_of_block→PI
open Nat renaming le_refl→BH,le_trans→BM
open Option renaming none→I,some→B
namespace Go.Proofs.YtbkilakncnlebaaGreatDoor.X
open Go.RowKit Go.XB Go.XN Proofs.Tryz
attribute [local go_sem] L_ Go.XB.opAt N_ M_ Region.wanted yielded
attribute [local simp] N_ M_ MP.eq MP.agg MP.sl A0r
theorem Cur.keep' {w w':J} {g:Nat} {A:Option Addr} {n c:Nat} (h:Cur w g A n c) (b:w'.1[g]?=w.1[g]?) (W:w.1.size<=w'.1.size):Cur w' g A n c:=by
 obtain⟨i,x,u,T,D,E,G,H,O⟩:=h;exact⟨i,x,u,oS,(JF b).trans D,(JF b).trans E,(JF b).trans G,(PI b).trans H,(PI b).trans O⟩
theorem Cur.below' {w w':J} {g:Nat} {A:Option Addr} {n c:Nat} (h:Cur w g A n c) (b:Bw w w'):Cur w' g A n c:=by
 have D:g<w.1.size:=by obtain⟨i,x,E,u,_⟩:=h;exact u
 exact h.keep' (b.block g D) b.size
theorem Cur.lt' {w:J} {g:Nat} {A:Option Addr} {n c:Nat} (h:Cur w g A n c):g<w.1.size:=by obtain⟨i,x,h1,h2,_⟩:=h;exact h2
def A4d (r:Int):TMesh:=⟨[ptI 0 0,ptI 2 0,ptI 2 2,ptI 0 2,ptI 1 1],[⟨4,0,1,0,0⟩,⟨4,1,2,0,0⟩,⟨4,2,3,1,0⟩,⟨4,3,0,r,0⟩]⟩
def B0j (r:Int):TMesh:=⟨[ptI 0 0,ptI 2 0,ptI 2 1,ptI 0 2],[⟨1,2,0,0,0⟩,⟨3,0,2,r,0⟩]⟩
def C2p (_r:Int):TMesh:=⟨[ptI 0 0,ptI 1 0,ptI 2 0,ptI 2 1,ptI 1 1,ptI 1 2,ptI 0 2,ptI 0 1],[⟨1,4,0,0,0⟩,⟨7,0,4,0,0⟩,⟨3,4,2,0,0⟩,⟨1,2,4,1,0⟩,⟨7,4,6,0,0⟩,⟨5,6,4,2,0⟩]⟩
def A8j (m:TMesh):Prop:=(∃ r,(0<=r/\r<2)/\m=A4d r)\/(∃ r,(0<=r/\r<3)/\m=B0j r)\/m=C2p 0
def B6h (w:J) (g:Nat) (e:Ending) (w':J):Prop:=∃ (m:TMesh) (v:AJ) (s:List Nat),e=.returned v/\A8j m/\Agg w' v m s/\w.grownBy w' (B g)/\∀ b∈s,w.1.size<=b
theorem A9w {w w1 w2:J} {r:Option Nat} (h:w.grownBy w1 r) (h2:w1.grownBy w2 r):w.grownBy w2 r :=
 ⟨h2.os.trans h.os,h2.tape.trans h.tape,h2.output.trans h.output,BM h.size h2.size,λk hk hne=>(h2.block k (Nat.lt_of_lt_of_le hk h.size) hne).trans (h.block k hk hne)⟩
theorem E5z {w:J} {g n size:Nat} {e:TypeId} {cells:List AJ} (h:w.1[g]?=B (AK cells.toArray e)) (hl:cells.length=n*size) (hn:n<=BG):w.ownsRow 0 e size (S (B ⟨g,0,I⟩) n n) n cells :=
 ⟨hl,.inr ⟨g,n,cells.toArray,rfl,Nat.zero_le _,h,BH _,hn,by simpa using hl,by rw[<-hl];simp⟩⟩
theorem D9l {α:Type} [Dat α] {w:J} {g n:Nat} {e:TypeId} {cells:List AJ} {xs:List α} {fss:List (List Nat)} (h:w.1[g]?=B (AK cells.toArray e)) (H:cells.length=n*Dat.sz α) (O:n<=BG) (G:Filled w cells xs fss) (Y:xs.length=n):∃ bs,Sl w (B ⟨g,0,I⟩) n n xs bs/\∀ b∈bs,b=g\/b∈fss.flatten:=by
 obtain⟨A,c,bs,X,W,T⟩:=G.sl (E5z h H O) Y;cases X;refine⟨bs,W,λb D=>?_⟩;rcases T with⟨_,rfl⟩|⟨g',E,rfl,_⟩;·cases D
 have e:g=g':=by simpa[Value.ownBlock]using E
 rcases List.mem_cons.1 D with u|u;·exact .inl (u.trans e.symm)
 exact .inr u
theorem E6g (w:J) (a b c r l:Int) (ha:I64 a) (hb:I64 b) (hc:I64 c) (hr:I64 r) (hl:I64 l):Dat.at_ w [QS .i64 a,QS .i64 b,QS .i64 c,QS .i64 r,QS .i64 l] (⟨a,b,c,r,l⟩:TTri) []:=TTri.shut (x:=⟨a,b,c,r,l⟩) ha hb hc hr hl
theorem B2y {a:Int} (h:-1000<=a/\a<=1000):I64 a:=by constructor<;>omega
theorem E7v {w:J} {y:TPoint} {u0 u1 u2 u u4 D:AJ} {b:List Nat} (h:Agg w (AM #[u0,u1,u2,u,u4,D]) y b):Dat.at_ w [u0,u1,u2,u,u4,D] y b:=by
 obtain⟨E,O,H⟩:=h;have G:E=[u0,u1,u2,u,u4,D]:=by have:=congrArg (λv=>match v with | .agg c=>c.toList|_=>[]) O;simpa using this.symm
 rw[<-G];exact H
structure PAcc (wi v:J) (cells:List AJ) (ps:List TPoint):Prop where
 f:∃ fss,Filled v cells ps fss/\∀ b∈fss.flatten,wi.1.size<=b
 b:Bw wi v
theorem PAcc.start (wi:J):PAcc wi wi [] []:=⟨⟨[],Filled.nil _ _,sI⟩,Below.refl _ _⟩
theorem PAcc.push {O v u:World} {cells:List Value} {ps:List TPoint} {x:TPoint} {s:List Nat} {u0 u1 u2 G u4 H:Value} (h:PAcc O v cells ps) (X:Agg u (.agg #[u0,u1,u2,G,u4,H]) x s) (Z:Own v u s) (E:Bw v u) (Y:cells.length=ps.length*6:=by rfl):PAcc O u (cells++[u0,u1,u2,G,u4,H]) (ps++[x]):=by
 obtain⟨⟨fss,T,W⟩,D⟩:=h;refine⟨⟨fss++[s],(T.below E).push Y (E7v X),λy b=>?_⟩,Below.next D E⟩;rw[List.flatten_append,List.mem_append]at b;rcases b with b|b;·exact W y b
 exact BM D.size (Z.2 y (by simpa using b)).1
def D2t (t:TTri):List AJ:=[QS .i64 t.a,QS .i64 t.b,QS .i64 t.c,QS .i64 t.4,QS .i64 t.5]
def B7s (t:TTri):Prop:=∀ x∈[t.a,t.b,t.c,t.4,t.5],-1000<=x/\x<=1000
theorem C2m (w:J):∀ (ts acc:List TTri) (cells:List AJ),cells.length=acc.length*5->(∀ t∈ts,B7s t)->Filled w cells acc (acc.map λ_=>[])->Filled w (cells++ts.flatMap D2t) (acc++ts) ((acc++ts).map λ_=>[])
 | [],acc,cells,_,_,h=>by simpa using h
 |t::ts,acc,cells,hl,hs,h=>by
  have h0:=hs t sI
  have h1:Filled w (cells++D2t t) (acc++[t]) (acc.map (λ_=>[])++[[]]):=h.push hl (E6g w t.a t.b t.c t.4 t.5 (B2y (h0 _ sI)) (B2y (h0 _ sI)) (B2y (h0 _ sI)) (B2y (h0 _ sI)) (B2y (h0 _ sI)))
  have:=C2m w ts (acc++[t]) (cells++D2t t) (by simp[D2t,hl];omega) (λx hx=>hs x (by simp[hx])) (by simpa using h1)
  simpa using this
theorem _root_.Go.XB.Filled.keepG {α:Type} [Dat α] {w w':J} {cells:List AJ} {xs:List α} {fss:List (List Nat)} {g:Nat} (h:Filled w cells xs fss) (hg:w.grownBy w' (B g)) (hn:g∉fss.flatten):Filled w' cells xs fss :=
 h.keep λb hb=>hg.block b (h.lt b hb) (λe=>hn (by injection e with e;exact e ▸ hb))
theorem E6u {X w:J} {r:Option Nat} {p:Addr} {v:AJ} (h:X.grownBy w r) (hp:X.1.size<=p.block):X.grownBy (w.setCell p v) r :=
 ⟨h.os,h.tape,h.output,by simpa using h.size,λk hk hne=>(Below.heap_setCell _ _ _ k oS).trans (h.block k hk hne)⟩
theorem E7p {w w':J} {o:Obj} {r:Option Nat} (h:(w.alloc o).grownBy w' r):w.grownBy w' r :=
 ⟨h.os,h.tape,h.output,by have:=h.size;simp at this;omega,λk hk hne=>(h.block k oR hne).trans (Below.heap_alloc _ _ _ hk)⟩
theorem C8b {w E u:J} {g n k G H:Nat} {cells:List AJ} {arr tr:Array AJ} {m:TMesh} (f:∃ fss,Filled u cells m.1 fss/\∀ b∈fss.flatten,E.1.size<=b) (ae:A8j m) (W:u.1[G]?=B (AK arr 118)) (X:u.1[H]?=B (AK tr 122)) (ak:w.1.size<=E.1.size) (al:E.1.size<=G) (am:E.1.size<=H) (T:w.grownBy u (B g)) (ag:∀ t∈m.triangles,B7s t)
  (ac:arr=cells.toArray) (ah:tr=(m.triangles.flatMap D2t).toArray) (af:m.1.length=n) (ad:m.triangles.length=k) (O:cells.length=n*6) (ao:n<=8) (an:k<=8) :
  B6h w g (.returned (AM #[S (B ⟨G,0,I⟩) n n,S (B ⟨H,0,I⟩) k k])) u:=by
 subst ac;subst ah;subst af;subst ad;obtain⟨fss,Y,Z⟩:=f;obtain⟨b1,aa,ai⟩:=D9l W O (by unfold BG;omega) Y rfl;obtain⟨b2,ab,aj⟩:=D9l (α:=TTri) (n:=m.triangles.length) X (by
  have:∀ D:List TTri,(D.flatMap D2t).length=D.length*5:=λD=>by induction D with
   |nil=>rfl
   |cons t D ih=>rw[List.flatMap_cons,List.length_append,ih];simp[D2t];omega
  exact this _) (by unfold BG;omega) (by simpa using C2m u m.triangles [] [] rfl ag (Filled.nil _ _)) rfl
 refine⟨m,_,_,rfl,ae,TMesh.mkAgg aa ab,T,λb h=>?_⟩;rcases List.mem_append.1 h with h|h
 ·rcases ai b h with rfl|h
  ·omega
  have:=Z b h;omega
 rcases aj b h with rfl|h;·omega
 obtain⟨l,O,h⟩:=List.mem_flatten.1 h;obtain⟨t,-,rfl⟩:=List.mem_map.1 O;cases h
theorem D0u {w Y v T h:J} {o:Obj} {g n k:Nat} {cells:List AJ} {arr tr:Array AJ} {m:TMesh} {a b:AJ} (H:(w.alloc o).grownBy Y (B g)) (an:g<w.1.size) (P:PAcc Y v cells m.1) (N:New1 v T (AK arr 118)) (u:T.grownBy h (B g)) (ah:A8j m) (ak:∀ t∈m.triangles,B7s t)
  (ac:arr=cells.toArray:=by rfl) (al:tr=(m.triangles.flatMap D2t).toArray:=by rfl) (ai:m.1.length=n:=by rfl) (ae:m.triangles.length=k:=by rfl) (ag:cells.length=n*6:=by rfl) (aj:n<=8:=by decide) (af:k<=8:=by decide) :
  B6h w g (.returned (AM #[S (B ⟨v.1.size,0,I⟩) n n,S (B ⟨h.1.size,0,I⟩) k k])) (((h.setCell ⟨w.1.size,0,I⟩ a).setCell ⟨w.1.size,1,I⟩ b).alloc (AK tr 122)):=by
 obtain⟨⟨fss,aa,D⟩,X⟩:=P;have am:=H.size;have ao:=X.size;have ap:=E_ N.k;have aq:=u.size;simp at am;have O:=A5y (i:=1) (v0:=b) (A5y (i:=0) (v0:=a) (B3a h (B w.1.size)));have Z:=E6u (p:=⟨w.1.size,1,I⟩) (v:=b) (E6u (p:=⟨w.1.size,0,I⟩) (v:=a) (E7p (gtr (E1s H (Below.next X N.b)) u)) (BH _)) (BH _);have ab:((h.setCell ⟨w.1.size,0,I⟩ a).setCell ⟨w.1.size,1,I⟩ b).1.size=h.1.size:=sI;generalize (h.setCell ⟨w.1.size,0,I⟩ a).setCell ⟨w.1.size,1,I⟩ b=W at *;have G:=Below.box (w:=W) (AK tr 122);have ad:=(((aa.below N.b).keepG u (λE=>by have:=D _ E;omega)).keepG O (λE=>by have:=D _ E;omega)).below G;rw[<-ab];exact C8b ⟨fss,ad,D⟩ ah (A0z (B8b (B8b N.k u oS) O oS) G) (CF W _) oS oS oS (E1s Z G) ak ac al ai ae ag aj af
theorem D7f {w E v:J} {o:Obj} {g n k:Nat} {cells:List AJ} {arr tr:Array AJ} {m:TMesh} {a b:AJ} (h:(w.alloc o).grownBy E (B g)) (P:PAcc E v cells m.1) (ac:A8j m) (af:∀ t∈m.triangles,B7s t)
  (Y:arr=cells.toArray:=by rfl) (ag:tr=(m.triangles.flatMap D2t).toArray:=by rfl) (ad:m.1.length=n:=by rfl) (Z:m.triangles.length=k:=by rfl) (ab:cells.length=n*6:=by rfl) (ae:n<=8:=by decide) (aa:k<=8:=by decide) :
  B6h w g (.returned (AM #[S (B ⟨v.1.size,0,I⟩) n n,S (B ⟨v.1.size+1,0,I⟩) k k])) ((((v.setCell ⟨w.1.size,0,I⟩ a).setCell ⟨w.1.size,1,I⟩ b).alloc (AK arr 118)).alloc (AK tr 122)):=by
 obtain⟨⟨fss,T,u⟩,D⟩:=P;have ah:=h.size;have ai:=D.size;simp at ah;have H:=A5y (i:=1) (v0:=b) (A5y (i:=0) (v0:=a) (B3a v (B w.1.size)));have G:=E6u (p:=⟨w.1.size,1,I⟩) (v:=b) (E6u (p:=⟨w.1.size,0,I⟩) (v:=a) (E7p (E1s h D)) (BH _)) (BH _);have X:((v.setCell ⟨w.1.size,0,I⟩ a).setCell ⟨w.1.size,1,I⟩ b).1.size=v.1.size:=sI;generalize (v.setCell ⟨w.1.size,0,I⟩ a).setCell ⟨w.1.size,1,I⟩ b=O at *;have N:=New2.mk' O (AK arr 118) (AK tr 122);rw[<-X];exact C8b ⟨fss,(T.keepG H (λW=>by have:=u _ W;omega)).below N.b,u⟩ ac N.k N.l oS oS oS (E1s G N.b) af Y ag ad Z ab ae aa
set_option maxRecDepth 100000 in
theorem C9a (g:Nat) (A:Option Addr) (W c:Nat) (xs:List TByte) (bs:List Nat) (w:J) (aF:Sl w A W c xs bs) (aE:W<=1048576) (ad:Cur w g A W c) (aC:g∉bs) :
  Calls prog 40 #[.pointer (B ⟨g,0,I⟩)] w (B6h w g):=by
 have ac:=A_ aF;have aL:=A_ ad;have ab:=A_ aC;have aD:g<w.1.size:=ad.lt';have ak:=A_ aE;clear aF ad aC aE;go_enter func40,ntmps40;go_wp2_with fail;have Z:=A_ (Below.box (w:=w) (AK #[S I 0 0,S I 0 0] 26));refine(A5q 3 dE dE g A W c xs bs _ (ac.below Z) ak (aL.below' Z) ab).mono ?_;rintro _ X ⟨x,rfl,aP,aB,O⟩;have aK:=A_ aB;have aa:=A_ O;have aM:=A_ ((ac.below Z).keep (λan aA=>O.block an ((ac.below Z).lt an aA) (by intro e;injection e with e;exact ab.o (e ▸ aA))));have al:=A_ (show X.1[w.1.size]?=B (AK #[S I 0 0,S I 0 0] 26)from(O.block _ sI iO).trans (CF w _));have b:=A_ (PAcc.start X);have aO:w.1.size+1<=X.1.size:=by have:=O.size;simp at this;omega
 clear aB O;have am:=A_ (fun(v G H:J) (cs:List AJ) (ps:List TPoint) (o:Obj) (P:Hid (PAcc X v cs ps)) (N:Hid (New1 v G o)) (hy:G.grownBy H (B g))=>(show H.1[w.1.size]?=B (AK #[S I 0 0,S I 0 0] 26)from B8b (A0z (A0z al.o P.o.b) N.o.b) hy oS));have af:=A_ (fun(v G:J) (cs:List AJ) (ps:List TPoint) (o:Obj) (P:Hid (PAcc X v cs ps)) (N:Hid (New1 v G o)) (k:Int) (h0:0<k) (h1:k<=256)=>A5q k h0 h1 g A W c xs bs G ((aM.below P.b).below N.b) ak (((aK.below' P.b).below' N.b)) ab);obtain rfl|rfl|rfl:x=0\/x=1\/x=2:=oS
 ·iterate 5
   go_wp2_with fail
   refine(B3o _ _ _ oO oO).mono ?_
   rintro _ v1 ⟨u0,aJ,rfl,h,D,u⟩
   obtain⟨ag,n1,ao,au,ah,n2,ap,aw,ai,aH,aq,ax,aj,aI,ar,ay,rfl,Y,_,_,_,_⟩:=TPoint.agg h
   have b:=A_ (b.push h D u)
   clear h D u Y
  go_wp2_with fail
  refine Calls.new λG N=>?_
  refine(af _ _ _ _ _ b N 2 dE dE).mono ?_
  rintro _ H ⟨r,rfl,ae,aN,T⟩
  obtain⟨r0,az,aG⟩:=bx (am _ _ _ _ _ _ b N T)
  go_wp2
  refine BI (v:=AM #[S (B ⟨v1.1.size,0,I⟩) 5 5,S (B ⟨H.1.size,0,I⟩) 4 4]) (by simp[BO,results40,go_sem, *]) rfl ?_
  exact D0u (m:=A4d r) aa aD b N T (.inl ⟨r,ae,rfl⟩) (by intro t E;simp[A4d]at E;rcases E with rfl|rfl|rfl|rfl<;>simp[B7s]<;>omega)
 ·iterate 4
   go_wp2_with fail
   refine(B3o _ _ _ oO oO).mono ?_
   rintro _ v1 ⟨u0,aJ,rfl,h,D,u⟩
   obtain⟨ag,n1,ao,au,ah,n2,ap,aw,ai,aH,aq,ax,aj,aI,ar,ay,rfl,Y,_,_,_,_⟩:=TPoint.agg h
   have b:=A_ (b.push h D u)
   clear h D u Y
  go_wp2_with fail
  refine Calls.new λG N=>?_
  refine(af _ _ _ _ _ b N 3 dE dE).mono ?_
  rintro _ H ⟨r,rfl,ae,aN,T⟩
  obtain⟨r0,az,aG⟩:=bx (am _ _ _ _ _ _ b N T)
  go_wp2
  refine BI (v:=AM #[S (B ⟨v1.1.size,0,I⟩) 4 4,S (B ⟨H.1.size,0,I⟩) 2 2]) (by simp[BO,results40,go_sem, *]) rfl ?_
  exact D0u (m:=B0j r) aa aD b N T (.inr (.inl ⟨r,ae,rfl⟩)) (by intro t E;simp[B0j]at E;rcases E with rfl|rfl<;>simp[B7s]<;>omega)
 iterate 8 go_wp2_with fail;refine(B3o _ _ _ oO oO).mono ?_;rintro _ v1 ⟨u0,aJ,rfl,h,D,u⟩;obtain⟨ag,n1,ao,au,ah,n2,ap,aw,ai,aH,aq,ax,aj,aI,ar,ay,rfl,Y,_,_,_,_⟩:=TPoint.agg h;have b:=A_ (b.push h D u);clear h D u Y
 obtain⟨r0,az,aG⟩:=bx (A0z al b.b);go_wp2;refine BI (v:=AM #[S (B ⟨v1.1.size,0,I⟩) 8 8,S (B ⟨v1.1.size+1,0,I⟩) 6 6]) (by simp[BO,results40,go_sem, *]) rfl ?_;exact D7f (m:=C2p 0) aa b (.inr (.inr rfl)) (by intro t E;simp[C2p]at E;rcases E with rfl|rfl|rfl|rfl|rfl|rfl<;>simp[B7s])
end Go.Proofs.YtbkilakncnlebaaGreatDoor.X
