/- A part of the proof. -/
import Derived.Test.YtbhemnidcleaiaaGreatY38
import Derived.Test.YtbhemnidcleaiaaGreatY14
set_option linter.constructorNameAsVariable false
set_option maxHeartbeats 16000000
set_option maxRecDepth 10000
namespace Go.Proofs.YtbhemnidcleaiaaGreat.X
open Go.RowKit Go.XB Go.XN Proofs.Tryz
attribute [local go_sem] L_ opAt N_ M_ Region.wanted yielded
attribute [local simp] N_ M_ MP.eq MP.agg MP.sl A0r
def A4d (r:Int):TMesh:=⟨[ptI 0 0,ptI 2 0,ptI 2 2,ptI 0 2,ptI 1 1],[⟨4,0,1,0,0⟩,⟨4,1,2,0,0⟩,⟨4,2,3,1,0⟩,⟨4,3,0,r,0⟩]⟩
def B0j (r:Int):TMesh:=⟨[ptI 0 0,ptI 2 0,ptI 2 1,ptI 0 2],[⟨1,2,0,0,0⟩,⟨3,0,2,r,0⟩]⟩
def C2p (_r:Int):TMesh:=⟨[ptI 0 0,ptI 1 0,ptI 2 0,ptI 2 1,ptI 1 1,ptI 1 2,ptI 0 2,ptI 0 1],[⟨1,4,0,0,0⟩,⟨7,0,4,0,0⟩,⟨3,4,2,0,0⟩,⟨1,2,4,1,0⟩,⟨7,4,6,0,0⟩,⟨5,6,4,2,0⟩]⟩
def A8j (m:TMesh):Prop:=(∃ r,(0<=r/\r<2)/\m=A4d r)\/(∃ r,(0<=r/\r<3)/\m=B0j r)\/m=C2p 0
def B6h (w:World) (g:Nat) (e:Ending) (w':World):Prop:=∃ (m:TMesh) (v:Value) (s:List Nat),e=.returned v/\A8j m/\Agg w' v m s/\w.grownBy w' (some g)/\∀ b∈s,w.1.size<=b
theorem A9w {w w1 w2:World} {r:Option Nat} (h:w.grownBy w1 r) (h2:w1.grownBy w2 r):w.grownBy w2 r :=
 ⟨h2.os.trans h.os,h2.tape.trans h.tape,h2.output.trans h.output,Nat.le_trans h.size h2.size,λk hk hne=>(h2.block k (Nat.lt_of_lt_of_le hk h.size) hne).trans (h.block k hk hne)⟩
theorem E5z {w:World} {g n size:Nat} {e:TypeId} {cells:List Value} (h:w.1[g]?=some (.cells cells.toArray e)) (hl:cells.length=n*size) (hn:n<=maxLen):w.ownsRow 0 e size (.slice (some ⟨g,0,none⟩) n n) n cells :=
 ⟨hl,.inr ⟨g,n,cells.toArray,rfl,Nat.zero_le _,h,Nat.le_refl _,hn,by simpa using hl,by rw[<-hl];simp⟩⟩
theorem D9l {α:Type} [Dat α] {w:World} {g n:Nat} {e:TypeId} {cells:List Value} {xs:List α} {fss:List (List Nat)} (h:w.1[g]?=some (.cells cells.toArray e)) (H:cells.length=n*Dat.sz α) (I:n<=maxLen) (G:Filled w cells xs fss) (S:xs.length=n):∃ bs,Sl w (some ⟨g,0,none⟩) n n xs bs/\∀ b∈bs,b=g\/b∈fss.flatten:=by
 obtain⟨A,c,bs,O,K,J⟩:=G.sl (E5z h H I) S;cases O;refine⟨bs,K,λb D=>?_⟩;rcases J with⟨_,rfl⟩|⟨g',E,rfl,_⟩;·cases D
 have e:g=g':=by simpa[Value.ownBlock]using E
 rcases List.mem_cons.1 D with u|u;·exact .inl (u.trans e.symm)
 exact .inr u
theorem E6g (w:World) (a b c r l:Int) (ha:I64 a) (hb:I64 b) (hc:I64 c) (hr:I64 r) (hl:I64 l):Dat.at_ w [.int .i64 a,.int .i64 b,.int .i64 c,.int .i64 r,.int .i64 l] (⟨a,b,c,r,l⟩:TTri) []:=TTri.shut (x:=⟨a,b,c,r,l⟩) ha hb hc hr hl
theorem B2y {a:Int} (h:-1000<=a/\a<=1000):I64 a:=by constructor<;>omega
theorem E7v {w:World} {y:TPoint} {u0 u1 u2 u u4 D:Value} {b:List Nat} (h:Agg w (.agg #[u0,u1,u2,u,u4,D]) y b):Dat.at_ w [u0,u1,u2,u,u4,D] y b:=by
 obtain⟨E,I,H⟩:=h;have G:E=[u0,u1,u2,u,u4,D]:=by have:=congrArg (λv=>match v with | .agg c=>c.toList|_=>[]) I;simpa using this.symm
 rw[<-G];exact H
structure PAcc (wi v:World) (cells:List Value) (ps:List TPoint):Prop where
 f:∃ fss,Filled v cells ps fss/\∀ b∈fss.flatten,wi.1.size<=b
 b:Bw wi v
theorem PAcc.start (wi:World):PAcc wi wi [] []:=⟨⟨[],Filled.nil _ _,sI⟩,Below.refl _ _⟩
theorem PAcc.push {I v u:World} {cells:List Value} {ps:List TPoint} {x:TPoint} {s:List Nat} {u0 u1 u2 G u4 H:Value} (h:PAcc I v cells ps) (O:Agg u (.agg #[u0,u1,u2,G,u4,H]) x s) (T:Own v u s) (E:Bw v u) (S:cells.length=ps.length*6:=by rfl):PAcc I u (cells++[u0,u1,u2,G,u4,H]) (ps++[x]):=by
 obtain⟨⟨fss,J,K⟩,D⟩:=h;refine⟨⟨fss++[s],(J.below E).push S (E7v O),λy b=>?_⟩,Below.next D E⟩;rw[List.flatten_append,List.mem_append]at b;rcases b with b|b;·exact K y b
 exact Nat.le_trans D.size (T.2 y (by simpa using b)).1
def D2t (t:TTri):List Value:=[.int .i64 t.a,.int .i64 t.b,.int .i64 t.c,.int .i64 t.4,.int .i64 t.5]
def B7s (t:TTri):Prop:=∀ x∈[t.a,t.b,t.c,t.4,t.5],-1000<=x/\x<=1000
theorem C2m (w:World):∀ (ts acc:List TTri) (cells:List Value),cells.length=acc.length*5->(∀ t∈ts,B7s t)->Filled w cells acc (acc.map λ_=>[])->Filled w (cells++ts.flatMap D2t) (acc++ts) ((acc++ts).map λ_=>[])
 | [],acc,cells,_,_,h=>by simpa using h
 |t::ts,acc,cells,hl,hs,h=>by
  have h0:=hs t sI
  have h1:Filled w (cells++D2t t) (acc++[t]) (acc.map (λ_=>[])++[[]]):=h.push hl (E6g w t.a t.b t.c t.4 t.5 (B2y (h0 _ sI)) (B2y (h0 _ sI)) (B2y (h0 _ sI)) (B2y (h0 _ sI)) (B2y (h0 _ sI)))
  have:=C2m w ts (acc++[t]) (cells++D2t t) (by simp[D2t,hl];omega) (λx hx=>hs x (by simp[hx])) (by simpa using h1)
  simpa using this
theorem _root_.Go.XB.Filled.keepG {α:Type} [Dat α] {w w':World} {cells:List Value} {xs:List α} {fss:List (List Nat)} {g:Nat} (h:Filled w cells xs fss) (hg:w.grownBy w' (some g)) (hn:g∉fss.flatten):Filled w' cells xs fss :=
 h.keep λb hb=>hg.block b (h.lt b hb) (λe=>hn (by injection e with e;exact e ▸ hb))
theorem E6u {X w:World} {r:Option Nat} {p:Addr} {v:Value} (h:X.grownBy w r) (hp:X.1.size<=p.block):X.grownBy (w.setCell p v) r :=
 ⟨h.os,h.tape,h.output,by simpa using h.size,λk hk hne=>(Below.heap_setCell _ _ _ k oM).trans (h.block k hk hne)⟩
theorem E7p {w w':World} {o:Obj} {r:Option Nat} (h:(w.alloc o).grownBy w' r):w.grownBy w' r :=
 ⟨h.os,h.tape,h.output,by have:=h.size;simp at this;omega,λk hk hne=>(h.block k sO hne).trans (Below.heap_alloc _ _ _ hk)⟩
theorem C8b {w E u:World} {g n k G H:Nat} {cells:List Value} {J tr:Array Value} {m:TMesh} (f:∃ fss,Filled u cells m.1 fss/\∀ b∈fss.flatten,E.1.size<=b) (ab:A8j m) (O:u.1[G]?=some (.cells J 38)) (S:u.1[H]?=some (.cells tr 93)) (ah:w.1.size<=E.1.size) (ai:E.1.size<=G) (aj:E.1.size<=H) (K:w.grownBy u (some g)) (ad:∀ t∈m.triangles,B7s t)
  (Z:J=cells.toArray) (ae:tr=(m.triangles.flatMap D2t).toArray) (ac:m.1.length=n) (aa:m.triangles.length=k) (I:cells.length=n*6) (al:n<=8) (ak:k<=8) :
  B6h w g (.returned (.agg #[.slice (some ⟨G,0,none⟩) n n,.slice (some ⟨H,0,none⟩) k k])) u:=by
 subst Z;subst ae;subst ac;subst aa;obtain⟨fss,T,W⟩:=f;obtain⟨b1,X,af⟩:=D9l O I mL T rfl;obtain⟨b2,Y,ag⟩:=D9l (α:=TTri) (n:=m.triangles.length) S (by
  have:∀ D:List TTri,(D.flatMap D2t).length=D.length*5:=λD=>by induction D with
   |nil=>rfl
   |cons t D ih=>rw[List.flatMap_cons,List.length_append,ih];simp[D2t];omega
  exact this _) mL (by simpa using C2m u m.triangles [] [] rfl ad (Filled.nil _ _)) rfl
 refine⟨m,_,_,rfl,ab,TMesh.mkAgg X Y,K,λb h=>?_⟩;rcases List.mem_append.1 h with h|h
 ·rcases af b h with rfl|h
  ·omega
  have:=W b h;omega
 rcases ag b h with rfl|h;·omega
 obtain⟨l,I,h⟩:=List.mem_flatten.1 h;obtain⟨t,-,rfl⟩:=List.mem_map.1 I;cases h
theorem D0u {w T v J h:World} {o:Obj} {g n k:Nat} {cells:List Value} {O tr:Array Value} {m:TMesh} {a b:Value} (H:(w.alloc o).grownBy T (some g)) (ak:g<w.1.size) (P:PAcc T v cells m.1) (N:New1 v J (.cells O 38)) (u:J.grownBy h (some g)) (ae:A8j m) (ah:∀ t∈m.triangles,B7s t)
  (Z:O=cells.toArray:=by rfl) (ai:tr=(m.triangles.flatMap D2t).toArray:=by rfl) (af:m.1.length=n:=by rfl) (ab:m.triangles.length=k:=by rfl) (ad:cells.length=n*6:=by rfl) (ag:n<=8:=by decide) (ac:k<=8:=by decide) :
  B6h w g (.returned (.agg #[.slice (some ⟨v.1.size,0,none⟩) n n,.slice (some ⟨h.1.size,0,none⟩) k k])) (((h.setCell ⟨w.1.size,0,none⟩ a).setCell ⟨w.1.size,1,none⟩ b).alloc (.cells tr 93)):=by
 obtain⟨⟨fss,X,D⟩,S⟩:=P;have aj:=H.size;have al:=S.size;have am:=E_ N.k;have an:=u.size;simp at aj;have I:=A5y (i:=1) (v0:=b) (A5y (i:=0) (v0:=a) (B3a h (some w.1.size)));have W:=E6u (p:=⟨w.1.size,1,none⟩) (v:=b) (E6u (p:=⟨w.1.size,0,none⟩) (v:=a) (E7p (gtr (E1s H (Below.next S N.b)) u)) (Nat.le_refl _)) (Nat.le_refl _);have Y:((h.setCell ⟨w.1.size,0,none⟩ a).setCell ⟨w.1.size,1,none⟩ b).1.size=h.1.size:=sI;generalize (h.setCell ⟨w.1.size,0,none⟩ a).setCell ⟨w.1.size,1,none⟩ b=K at *;have G:=Below.box (w:=K) (.cells tr 93);have aa:=(((X.below N.b).keepG u (λE=>by have:=D _ E;omega)).keepG I (λE=>by have:=D _ E;omega)).below G;rw[<-Y];exact C8b ⟨fss,aa,D⟩ ae (A0z (B8b (B8b N.k u oM) I oM) G) (heap_alloc_new K _) oM oM oM (E1s W G) ah Z ai af ab ad ag ac
theorem D7f {w G v:World} {o:Obj} {g n k:Nat} {cells:List Value} {h tr:Array Value} {m:TMesh} {a b:Value} (u:(w.alloc o).grownBy G (some g)) (P:PAcc G v cells m.1) (Z:A8j m) (ac:∀ t∈m.triangles,B7s t)
  (T:h=cells.toArray:=by rfl) (ad:tr=(m.triangles.flatMap D2t).toArray:=by rfl) (aa:m.1.length=n:=by rfl) (W:m.triangles.length=k:=by rfl) (Y:cells.length=n*6:=by rfl) (ab:n<=8:=by decide) (X:k<=8:=by decide) :
  B6h w g (.returned (.agg #[.slice (some ⟨v.1.size,0,none⟩) n n,.slice (some ⟨v.1.size+1,0,none⟩) k k])) ((((v.setCell ⟨w.1.size,0,none⟩ a).setCell ⟨w.1.size,1,none⟩ b).alloc (.cells h 38)).alloc (.cells tr 93)):=by
 obtain⟨⟨fss,K,D⟩,E⟩:=P;have ae:=u.size;have af:=E.size;simp at ae;have I:=A5y (i:=1) (v0:=b) (A5y (i:=0) (v0:=a) (B3a v (some w.1.size)));have H:=E6u (p:=⟨w.1.size,1,none⟩) (v:=b) (E6u (p:=⟨w.1.size,0,none⟩) (v:=a) (E7p (E1s u E)) (Nat.le_refl _)) (Nat.le_refl _);have S:((v.setCell ⟨w.1.size,0,none⟩ a).setCell ⟨w.1.size,1,none⟩ b).1.size=v.1.size:=sI;generalize (v.setCell ⟨w.1.size,0,none⟩ a).setCell ⟨w.1.size,1,none⟩ b=J at *;have N:=New2.mk' J (.cells h 38) (.cells tr 93);rw[<-S];exact C8b ⟨fss,(K.keepG I (λO=>by have:=D _ O;omega)).below N.b,D⟩ Z N.k N.l oM oM oM (E1s H N.b) ac T ad aa W Y ab X
set_option maxRecDepth 100000 in
theorem C9a (g:Nat) (A:Option Addr) (K c:Nat) (xs:List TByte) (W:List Nat) (w:World) (aC:Sl w A K c xs W) (aB:K<=1048576) (aa:Cur w g A K c) (az:g∉W) :
  Calls prog 101 #[.pointer (some ⟨g,0,none⟩)] w (B6h w g):=by
 have Z:=A_ aC;have aI:=A_ aa;have Y:=A_ az;have aA:g<w.1.size:=aa.lt';have ah:=A_ aB;clear aC aa az aB;go_enter func101,ntmps101;go_wp2_with fail;have T:=A_ (Below.box (w:=w) (.cells #[.slice none 0 0,.slice none 0 0] 26));refine(A5q 3 dE dE g A K c xs W _ (Z.below T) ah (aI.below' T) Y).mono ?_;rintro _ O ⟨x,rfl,aM,ay,I⟩;have aH:=A_ ay;have X:=A_ I;have aJ:=A_ ((Z.below T).keep (λak ax=>I.block ak ((Z.below T).lt ak ax) (by intro e;injection e with e;exact Y.o (e ▸ ax))));have ai:=A_ (show O.1[w.1.size]?=some (.cells #[.slice none 0 0,.slice none 0 0] 26)from(I.block _ sI iO).trans (heap_alloc_new w _));have b:=A_ (PAcc.start O);have aL:w.1.size+1<=O.1.size:=by have:=I.size;simp at this;omega
 clear ay I;have aj:=A_ (fun(v G H:World) (cs:List Value) (ps:List TPoint) (o:Obj) (P:Hid (PAcc O v cs ps)) (N:Hid (New1 v G o)) (hy:G.grownBy H (some g))=>(show H.1[w.1.size]?=some (.cells #[.slice none 0 0,.slice none 0 0] 26)from B8b (A0z (A0z ai.o P.o.b) N.o.b) hy oM));have ac:=A_ (fun(v G:World) (cs:List Value) (ps:List TPoint) (o:Obj) (P:Hid (PAcc O v cs ps)) (N:Hid (New1 v G o)) (k:Int) (h0:0<k) (h1:k<=256)=>A5q k h0 h1 g A K c xs W G ((aJ.below P.b).below N.b) ah (((aH.below' P.b).below' N.b)) Y);obtain rfl|rfl|rfl:x=0\/x=1\/x=2:=oM
 ·iterate 5
   go_wp2_with fail
   refine(B3o _ _ _ cD cD).mono ?_
   rintro _ v1 ⟨u0,aG,rfl,h,D,u⟩
   obtain⟨ad,n1,al,ap,ae,n2,am,aq,af,aE,an,ar,ag,aF,ao,au,rfl,S,_,_,_,_⟩:=TPoint.agg h
   have b:=A_ (b.push h D u)
   clear h D u S
  go_wp2_with fail
  refine Calls.new λG N=>?_
  refine(ac _ _ _ _ _ b N 2 dE dE).mono ?_
  rintro _ H ⟨r,rfl,ab,aK,J⟩
  obtain⟨r0,aw,aD⟩:=bx (aj _ _ _ _ _ _ b N J)
  go_wp2
  refine bodyPost_ret (v:=.agg #[.slice (some ⟨v1.1.size,0,none⟩) 5 5,.slice (some ⟨H.1.size,0,none⟩) 4 4]) (by simp[results,results101,go_sem, *]) rfl ?_
  exact D0u (m:=A4d r) X aA b N J (.inl ⟨r,ab,rfl⟩) (by intro t E;simp[A4d]at E;rcases E with rfl|rfl|rfl|rfl<;>simp[B7s]<;>omega)
 ·iterate 4
   go_wp2_with fail
   refine(B3o _ _ _ cD cD).mono ?_
   rintro _ v1 ⟨u0,aG,rfl,h,D,u⟩
   obtain⟨ad,n1,al,ap,ae,n2,am,aq,af,aE,an,ar,ag,aF,ao,au,rfl,S,_,_,_,_⟩:=TPoint.agg h
   have b:=A_ (b.push h D u)
   clear h D u S
  go_wp2_with fail
  refine Calls.new λG N=>?_
  refine(ac _ _ _ _ _ b N 3 dE dE).mono ?_
  rintro _ H ⟨r,rfl,ab,aK,J⟩
  obtain⟨r0,aw,aD⟩:=bx (aj _ _ _ _ _ _ b N J)
  go_wp2
  refine bodyPost_ret (v:=.agg #[.slice (some ⟨v1.1.size,0,none⟩) 4 4,.slice (some ⟨H.1.size,0,none⟩) 2 2]) (by simp[results,results101,go_sem, *]) rfl ?_
  exact D0u (m:=B0j r) X aA b N J (.inr (.inl ⟨r,ab,rfl⟩)) (by intro t E;simp[B0j]at E;rcases E with rfl|rfl<;>simp[B7s]<;>omega)
 iterate 8 go_wp2_with fail;refine(B3o _ _ _ cD cD).mono ?_;rintro _ v1 ⟨u0,aG,rfl,h,D,u⟩;obtain⟨ad,n1,al,ap,ae,n2,am,aq,af,aE,an,ar,ag,aF,ao,au,rfl,S,_,_,_,_⟩:=TPoint.agg h;have b:=A_ (b.push h D u);clear h D u S
 obtain⟨r0,aw,aD⟩:=bx (A0z ai b.b);go_wp2;refine bodyPost_ret (v:=.agg #[.slice (some ⟨v1.1.size,0,none⟩) 8 8,.slice (some ⟨v1.1.size+1,0,none⟩) 6 6]) (by simp[results,results101,go_sem, *]) rfl ?_;exact D7f (m:=C2p 0) X b (.inr (.inr rfl)) (by intro t E;simp[C2p]at E;rcases E with rfl|rfl|rfl|rfl|rfl|rfl<;>simp[B7s])
end Go.Proofs.YtbhemnidcleaiaaGreat.X
