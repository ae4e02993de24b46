/- A part of the proof. -/
import Derived.Test.YtbhemnidcleaiaaGreatY16
import Derived.Test.YtbhemnidcleaiaaGreatY3
set_option linter.constructorNameAsVariable false
set_option maxHeartbeats 16000000
set_option maxRecDepth 10000
namespace Go.XB
open Go.RowKit
def MP.slrow (n:Nat) (cs:Array Value) (t:TypeId):MP:=⟨λv bs w=>∃ g,v=.slice (some ⟨g,0,none⟩) n n/\bs=[g]/\w.1[g]?=some (.cells cs t),λv bs w w' hb h=>by
 obtain⟨g,e,hz,hg⟩:=h;exact⟨g,e,hz,(hb.block g (E_ hg)).trans hg⟩⟩
def D7w {α:Type} [Dat α] (w:World) (x:α) (b:List Nat) (e:Ending) (w':World):Prop:=∃ u s,e=.returned u/\Agg w' u x s/\(∀ g∈s,g∈b)/\Bw w w'
def MP.aggB {α:Type} [Dat α] (x:α) (b:List Nat):MP:=⟨λv bs w=>bs=[]/\∃ s,Agg w v x s/\∀ g∈s,g∈b,λ_ _ _ _ hb h=>by
 obtain⟨h0,s,h,hs⟩:=h;exact⟨h0,s,h.below hb,hs⟩⟩
theorem C4k {α:Type} [Dat α] {P:Program} {f:FuncId} {args:Array Value} {w:World} {x:α} {b:List Nat} (h:Calls P f args w (D7w w x b)) :
  Calls P f args w λe w'=>∃ u,e=.returned u/\Bw w w'/\∃ bs,(MP.aggB x b).p u bs w'/\∀ b∈bs,w.1.size<=b/\b<w'.1.size :=
 h.mono λ_ _ ⟨v,s,he,ha,hs,hb⟩=>⟨v,he,hb,[],⟨rfl,s,ha,hs⟩,λb hb=>by simp at hb⟩
end Go.XB
namespace Go.Proofs.YtbhemnidcleaiaaGreat.X
open Go.RowKit Go.XB Go.XN
section
theorem TRat.elemB {w:World} {A:Option Addr} {n c:Nat} {xs:List TRat} {D:List Nat} (h:Sl w A n c xs D) {k:Nat} (J:k<n) :
  ∃ (b off:Nat) (x:TRat) (A1:Option Addr) (n1 c1:Nat) (A2:Option Addr) (n2 c2:Nat) (s:List Nat),A=some ⟨b,off,none⟩/\b<w.1.size/\xs[k]?=some x/\w.cell? ⟨b,off+k*3,none⟩=some (.bool x.1.1)/\w.cell? ⟨b,off+k*3+1,none⟩=some (.slice A1 n1 c1)/\w.cell? ⟨b,off+k*3+2,none⟩=some (.slice A2 n2 c2)/\Agg w (.agg #[.bool x.1.1,.slice A1 n1 c1,.slice A2 n2 c2]) x s/\∀ g∈s,g∈D:=by
 obtain⟨b,off,x,O,S,G,H,K,u,E,I⟩:=Sl.getAt h J;obtain⟨A1,n1,c1,T,A2,n2,c2,W,rfl,rfl,X,Y⟩:=TRat.open_ E;exact⟨b,off,x,_,_,_,_,_,_,_,G,H,K,u 0 _ rfl,u 1 _ rfl,u 2 _ rfl,⟨_,rfl,E⟩,I⟩
theorem TPoint.elemB {w:World} {A:Option Addr} {n c:Nat} {xs:List TPoint} {D:List Nat} (h:Sl w A n c xs D) {k:Nat} (J:k<n) :
  ∃ (b off:Nat) (x:TPoint) (A1:Option Addr) (n1 c1:Nat) (A2:Option Addr) (n2 c2:Nat) (A4:Option Addr) (n4 c4:Nat) (A5:Option Addr) (n5 c5:Nat) (s:List Nat),A=some ⟨b,off,none⟩/\b<w.1.size/\xs[k]?=some x/\w.cell? ⟨b,off+k*6,none⟩=some (.bool x.x.1.1)/\w.cell? ⟨b,off+k*6+1,none⟩=some (.slice A1 n1 c1)/\w.cell? ⟨b,off+k*6+2,none⟩=some (.slice A2 n2 c2)/\w.cell? ⟨b,off+k*6+3,none⟩=some (.bool x.y.1.1)/\w.cell? ⟨b,off+k*6+4,none⟩=some (.slice A4 n4 c4)/\w.cell? ⟨b,off+k*6+5,none⟩=some (.slice A5 n5 c5)/\Agg w (.agg #[.bool x.x.1.1,.slice A1 n1 c1,.slice A2 n2 c2,.bool x.y.1.1,.slice A4 n4 c4,.slice A5 n5 c5]) x s/\∀ g∈s,g∈D:=by
 obtain⟨b,off,x,O,S,G,H,K,u,E,I⟩:=Sl.getAt h J;obtain⟨A1,n1,c1,T,A2,n2,c2,W,A4,n4,c4,X,A5,n5,c5,Y,rfl,rfl,Z,aa,ab,ac⟩:=TPoint.open_ E;exact⟨b,off,x,_,_,_,_,_,_,_,_,_,_,_,_,_,G,H,K,u 0 _ rfl,u 1 _ rfl,u 2 _ rfl,u 3 _ rfl,u 4 _ rfl,u 5 _ rfl,⟨_,rfl,E⟩,I⟩
section
variable {α:Type} [Dat α]
def PendS (w wb:World) (e:TypeId) (wr:World) (gB i cap:Nat) (ps:List α):Prop :=
 ∃ cells fss,wr.ownsRow wb.1.size e (Dat.sz α) (.slice (some ⟨gB,0,none⟩) i cap) i cells/\Filled wr cells ps fss/\ps.length=i/\gB∉fss.flatten/\w.1.size<=wb.1.size/\Bw w wr/\Bw wb wr
variable {w wb wr wa:World} {e:TypeId} {gB i cap:Nat} {ps:List α}
theorem PendS.start (hw:Bw w wb):PendS (α:=α) w wb e (wb.alloc (.cells #[] e)) wb.1.size 0 0 [] :=
 ⟨[],[],World.ownsRow_made wb #[] 0 (Nat.le_refl _) (Nat.zero_le _) sI,Filled.nil _ _,rfl,sI,hw.size,Below.next hw (Below.box _),Below.box _⟩
theorem PendS.bw (h:PendS w wb e wr gB i cap ps):Bw w wr:=by obtain⟨_,_,_,_,_,_,_,h,_⟩:=h;exact h
theorem PendS.bb (h:PendS w wb e wr gB i cap ps):Bw wb wr:=by obtain⟨_,_,_,_,_,_,_,_,h⟩:=h;exact h
theorem PendS.lt (h:PendS w wb e wr gB i cap ps):wb.1.size<=gB/\gB<wr.1.size:=by
 obtain⟨cells,fss,b,_⟩:=h;exact World.ownsRow.lt b _ rfl
theorem PendS.sl (h:PendS w wb e wr gB i cap ps):∃ bs,Sl wr (some ⟨gB,0,none⟩) i cap ps bs:=by
 obtain⟨cells,fss,u,D,E,J,K,O,S⟩:=h;obtain⟨I,c',b,H,G,T⟩:=D.sl (α:=α) u E;injection H with e1 e2 e3;subst e1;subst e3;exact⟨b,G⟩
end
end
end Go.Proofs.YtbhemnidcleaiaaGreat.X
namespace Go
open Go.RowKit Go.XB Go.Proofs.YtbhemnidcleaiaaGreat.X
theorem D2w {P:Program} {α:Type} [Dat α] {w wb wr wa:World} {gB k cap:Nat} {ps:List α} {aj:Array Oper} {rest:List Oper} {o:Oper} {a:Act} {Q:Exit->Act->World->Prop} (ao:o.guard=none) (s x:Operand) (t:TypeId)
  (aq:o.op=.call { callee:=.builtin .append,args:=#[s,x],argTypes:=#[t,t] })
  (e:TypeId) (i:TypeInfo) (z:Value) (S:Nat) (ay:P.underlying t=some (.slice e)) (hi:P.info? e=some i) (aA:i.zero=some z)
  (ax:i.size=Dat.sz α) (am:i.bytes=S) (aB:z.cells.size=Dat.sz α) (au:PendS w wb e wr gB k cap ps) (H:Bw wr wa) (aw:a.eval s=.slice (some ⟨gB,0,none⟩) k cap)
  (O:Addr) (c:Nat) (cs:List Value) (ak:α) (J:List Nat) (az:a.eval x=.slice (some O) 1 c) (ap:∀ j u,cs[j]?=some u->wa.cell? (O.add j)=some u)
  (K:Dat.at_ wa cs ak J) (ag:gB∉J) (al:k+1<=maxLen) (an:(k+1)*S<=140737488355328)
  (h:∀ g' cap' w8,PendS w wb e w8 g' (k+1) cap' (ps++[ak])->wa.grownBy w8 (some gB)->(g'=gB\/g'=wa.1.size)->wpList P aj Q rest (a.put o.dst (.slice (some ⟨g',0,none⟩) (k+1) cap')) w8):wpList P aj Q (o::rest) a wa:=by
 obtain⟨cells,fss,T,aa,ab,ac,ad,ae,W⟩:=au;have af:=World.ownsRow.lt T _ rfl;have aC:=H.size;have ah:wb.1.size<=wa.1.size:=by have:=W.size;omega
 refine A1m ao s x t aq wb.1.size e i z (Dat.sz α) S ay hi aA ax am aB Dat.pos gB k cap cells aw (I_ T H) O 1 c cs az (by rw[Nat.one_mul];exact Dat.len K) ap (Dat.one K) al an ah ?_;intro g' cap' w8 ar I Z;refine h g' cap' w8 ?_ I Z;have X:∀ b∈fss.flatten,b<wr.1.size:=aa.lt;have k1:∀ b∈fss.flatten,w8.1[b]?=wr.1[b]?:=λb E=>(I.block b (by have:=X b E;omega) (by intro e;injection e with e;exact ac (e ▸ E))).trans (H.block b (X b E));have ai:∀ b∈J,b<wa.1.size:=Dat.lt K;have k2:∀ b∈J,w8.1[b]?=wa.1[b]?:=λb E=>I.block b (ai b E) (by intro e;injection e with e;exact ag (e ▸ E));refine⟨_,fss++[J],ar,Filled.push (aa.keep k1) (by rw[T.1,ab]) (Dat.keep K k2),by simp[ab],?_,ad,?_,(W.trans (H.mono W.size)).grown I ah (λk2 Y=>by injection Y with h;subst h;exact af.1)⟩
 ·rw[List.flatten_append]
  intro D;rcases List.mem_append.1 D with D|D
  ·rcases Z with G|G
   ·exact ac (G ▸ D)
   have:=X _ D;omega
  simp at D;rcases Z with G|G
  ·exact ag (G ▸ D)
  have:=ai _ D;omega
 exact(Below.next ae H).grown I (by have:=ae.size;omega) (λk2 Y=>by injection Y with h;subst h;exact Nat.le_trans ad af.1)
end Go
namespace Go.Proofs.YtbhemnidcleaiaaGreat.X
open Go.RowKit Go.XB Go.XN Proofs.Tryz
attribute [local go_sem] L_ Go.XB.opAt N_ M_ Region.wanted yielded
attribute [local simp] N_ M_ MP.eq MP.agg MP.sl A0r
theorem C3p (v:Value) (p:TProblem) (b:List Nat) (k:Nat) (t:TTri) (w:World) (H:Agg w v p b) (E:p.1.triangles[k]?=some t) (O:p.2.length=3) (am:0<=t.4/\t.4<3) :
  Calls prog 80 #[v,.int .i64 k] w (D7w w (p.2.getD t.4.toNat A0h) b):=by
 have aB:=A_ H;obtain⟨aw,aV,aC,aZ,ax,n1,aD,a1,ay,n2,aE,a2,az,aW,c3,a3,rfl,rfl,ap,h,G,aq⟩:=TProblem.agg H;have ak:k<n1:=by rw[<-h.1];exact(List.getElem?_eq_some_iff.1 E).1
 have al:n1<=maxLen:=Nat.le_trans h.2.1 h.2.2.1;unfold maxLen at al;obtain rfl:3=n2:=by rw[<-G.1];exact O.symm
 obtain⟨an,ao⟩:=am;obtain⟨ab,aX,x,rfl,aN,I,aF,aG,aH,ag,aI,_⟩:=TTri.elemA h ak;obtain rfl:x=t:=by rw[E]at I;exact(Option.some.inj I).symm
 obtain⟨j,D⟩:∃ j:Nat,x.4=j:=⟨x.4.toNat,oM⟩
 have aj:j<3:=oM;have aS:(k:Int)<n1:=oM;obtain⟨ac,aY,y,W,ar,ad,X,au,ae,af,rfl,aO,T,aJ,aK,aL,J,S⟩:=TRat.elemB G aj;have Y:=A_ (by rw[D];exact A0e T:p.2.getD x.4.toNat A0h=y);have Z:=A_ J;have aa:=A_ S;have aM:ab<w.1.size+1+1:=oM;have aQ:ac<w.1.size+1+1:=oM;rw[D]at ag an ao;clear ap h G aq H E O I T J S D;go_enter func80,ntmps80;go_wp2_with fail;refine X_ sI ?_;dsimp only[List.dropLast,List.getLast,List.length];iterate 11 refine C_ _ ?_
 intro a4 a5 wa u K (ah:Hid _);simp at K;go_simp;have aA:=A_ (show Bw w wa from Below.go);obtain⟨aP,aR⟩:=F_ u;have aT:w.1.size<wa.1.size:=ltg u;have aU:w.1.size+1<wa.1.size:=ltg u;clear K ah;go_wp2;refine bodyPost_ret (v:=.agg #[.bool y.1.1,.slice W ar ad,.slice X au ae]) (by simp[results,results80,go_sem, *]) rfl ?_;refine⟨_,af,rfl,?_,λg ai=>by have:=aa g ai;simp[this],Below.go⟩;rw[Y.o];exact Z.below Below.go
theorem D3f (v:Value) (p:TProblem) (b:List Nat) (k:Nat) (t:TTri) (w:World) (H:Agg w v p b) (E:p.1.triangles[k]?=some t) (O:p.3.length=3) (am:0<=t.4/\t.4<3) :
  Calls prog 160 #[v,.int .i64 k] w (D7w w (p.3.getD t.4.toNat A0h) b):=by
 have aC:=A_ H;obtain⟨ax,aW,aD,aZ,ay,n1,aE,a1,az,n2,aF,a2,aA,ar,c3,a3,rfl,rfl,ap,h,aq,G⟩:=TProblem.agg H;have ak:k<n1:=by rw[<-h.1];exact(List.getElem?_eq_some_iff.1 E).1
 have al:n1<=maxLen:=Nat.le_trans h.2.1 h.2.2.1;unfold maxLen at al;obtain rfl:3=ar:=by rw[<-G.1];exact O.symm
 obtain⟨an,ao⟩:=am;obtain⟨ab,aX,x,rfl,aO,I,aG,aH,aI,ag,aJ,_⟩:=TTri.elemA h ak;obtain rfl:x=t:=by rw[E]at I;exact(Option.some.inj I).symm
 obtain⟨j,D⟩:∃ j:Nat,x.4=j:=⟨x.4.toNat,oM⟩
 have aj:j<3:=oM;have aT:(k:Int)<n1:=oM;obtain⟨ac,aY,y,W,au,ad,X,aw,ae,af,rfl,aP,T,aK,aL,aM,J,S⟩:=TRat.elemB G aj;have Y:=A_ (by rw[D];exact A0e T:p.3.getD x.4.toNat A0h=y);have Z:=A_ J;have aa:=A_ S;have aN:ab<w.1.size+1+1:=oM;have aR:ac<w.1.size+1+1:=oM;rw[D]at ag an ao;clear ap h aq G H E O I T J S D;go_enter func160,ntmps160;go_wp2_with fail;refine X_ sI ?_;dsimp only[List.dropLast,List.getLast,List.length];iterate 11 refine C_ _ ?_
 intro a4 a5 wa u K (ah:Hid _);simp at K;go_simp;have aB:=A_ (show Bw w wa from Below.go);obtain⟨aQ,aS⟩:=F_ u;have aU:w.1.size<wa.1.size:=ltg u;have aV:w.1.size+1<wa.1.size:=ltg u;clear K ah;go_wp2;refine bodyPost_ret (v:=.agg #[.bool y.1.1,.slice W au ad,.slice X aw ae]) (by simp[results,results160,go_sem, *]) rfl ?_;refine⟨_,af,rfl,?_,λg ai=>by have:=aa g ai;simp[this],Below.go⟩;rw[Y.o];exact Z.below Below.go
end Go.Proofs.YtbhemnidcleaiaaGreat.X

namespace Go.XB
open Go.RowKit
theorem D5k {G:World} {g:Nat} {t:TypeId} {a b c:Int} (I:I64 a) (J:I64 b) (K:I64 c) (h:G.1[g]?=some (.cells #[.int .i64 a,.int .i64 b,.int .i64 c] t)):Sl G (some ⟨g,0,none⟩) 3 3 [a,b,c] [g]:=by
 refine⟨rfl,Nat.le_refl _,dE,λh=>absurd h dE,λ_=>⟨g,0,[[],[],[]],rfl,sI,rfl,E_ h,λk x O E D=>?_⟩⟩;match k,E,D with
 |0,E,D =>
  simp at E D;subst E;subst D
  refine⟨[.int .i64 a],λj H u=>?_,rfl,rfl,I⟩
  match j,u with
  |0,u=>simp at u;subst u;exact(B_ h (j:=0) rfl).1
 |1,E,D =>
  simp at E D;subst E;subst D
  refine⟨[.int .i64 b],λj H u=>?_,rfl,rfl,J⟩
  match j,u with
  |0,u=>simp at u;subst u;exact(B_ h (j:=1) rfl).1
 |2,E,D =>
  simp at E D;subst E;subst D
  refine⟨[.int .i64 c],λj H u=>?_,rfl,rfl,K⟩
  match j,u with
  |0,u=>simp at u;subst u;exact(B_ h (j:=2) rfl).1
end Go.XB
namespace Go.Proofs.YtbhemnidcleaiaaGreat.X
open Go.RowKit Go.XB Go.XN Proofs.Tryz
attribute [local go_sem] L_ Go.XB.opAt N_ M_ Region.wanted yielded
attribute [local simp] N_ M_ MP.eq MP.agg MP.sl A0r
theorem C2s (A:Option Addr) (n c:Nat) (xs:List Int) (T:List Nat) (v:Int) (i:Nat) (w:World) (b:Sl w A n c xs T) (hi:xs[i]?=some v) (G:∀ (j:Nat) (y:Int),j<i->xs[j]?=some y->y≠v) :
  Calls prog 297 #[.slice A n c,.int .i64 v] w (A0b w (.int .i64 i)):=by
 have S:=A_ b;have O:=A_ hi;have K:=A_ G;have Z:n<=maxLen:=Nat.le_trans b.2.1 b.2.2.1;have ae:i<n:=by rw[<-b.1];exact(List.getElem?_eq_some_iff.1 hi).1
 unfold maxLen at Z;clear b hi G;go_enter func297,ntmps297;go_wp2_with fail;go_loopg [8] n (λg s8 wr=>∃ k:Nat,k+g=n/\s8=.int .i64 k/\k<=i/\Bw w wr);case atStart=>exact⟨0,oM,rfl,Nat.zero_le _,Below.refl _ _⟩
 case round =>
  obtain⟨k,H,rfl,I,h⟩:=hrel;have u:k<n:=oM;obtain⟨aa,ai,x,rfl,ac,D,ab,ad⟩:=Sl.getInt (Sl.below S h) u;have E:=A_ D;have af:(k:Int)<n:=oM;obtain⟨g,rfl⟩:∃ g,gk=g+1:=⟨gk - 1,oM⟩
  have X:=A_ (by omega:k+1+g=n);have ag:k+1<=n:=oM;rcases Nat.lt_or_ge k i with J|W
  ·have ah:(v==x)=false:=by simp;exact λe=>K k x J E e.symm
   have Y:=A_ (by omega:k+1<=i);clear D H u I J;go_wp2_with fail;go_roundg g;case measure=>omega
   case rel=>exact⟨k+1,X,gN,Y,h⟩
  obtain rfl:i=k:=oM;obtain rfl:v=x:=by have:=O.o;rw[E.o]at this;exact(Option.some.inj this).symm
  clear D H u I W;go_wp2;go_ret;exact⟨rfl,h⟩
theorem C4r {t:TTri} {p:Int} (h:B6x t p=true):(∃ i:Nat,i<3/\[t.a,t.b,t.c][i]?=some p/\(∀ (j:Nat) (y:Int),j<i->[t.a,t.b,t.c][j]?=some y->y≠p)/\A3h t p=(C8d t.a t.b t.c ((i+1) % 3),C8d t.a t.b t.c ((i+2) % 3))):=by
 unfold B6x at h;simp only[Bool.or_eq_true,beq_iff_eq]at h;by_cases u:t.a=p;·exact⟨0,oM,by simp[u],λj y E=>absurd E oM,by unfold A3h;rw[if_pos u];rfl⟩
 by_cases D:t.b=p;·refine⟨1,oM,by simp[D],λj y E b=>?_,by unfold A3h;rw[if_neg u,if_pos D];rfl⟩;obtain rfl:j=0:=oM;simp at b;subst b;exact u
 refine⟨2,oM,by rcases h with h|h|h<;>simp_all,λj y E b=>?_,by unfold A3h;rw[if_neg u,if_neg D];rfl⟩;obtain rfl|rfl:j=0\/j=1:=oM
 ·simp at b;subst b;exact u
 simp at b;subst b;exact D
theorem B5z (v:Value) (t:TTri) (b:List Nat) (p:Int) (w:World) (S:Agg w v t b) (hh:B6x t p=true) :
  Calls prog 264 #[v,.int .i64 p] w (A0b w (.tuple #[.int .i64 (A3h t p).1,.int .i64 (A3h t p).2,.bool true])):=by
 have ak:=A_ S;obtain⟨i,aq,ab,aa,Z⟩:=C4r hh;have X:=A_ ab;have W:=A_ aa;have H:=A_ Z;obtain⟨rfl,rfl,ac,ad,ae,_,_⟩:=TTri.agg S;have al:=A_ ac;have am:=A_ ad;have an:=A_ ae;clear S hh ab aa Z ac ad ae;go_enter func264,ntmps264;go_wp2_with fail;refine(A2g _ t _ _ (ak.below Below.go)).mono ?_;rintro _ af ⟨rfl,ap⟩;have ai:=A_ (show Bw w af from Below.go);clear ap;go_upto_region 2 with fail;refine Code.new λY J=>?_;have I:=A_ J.k;have aj:=A_ (Below.next ai J.b);clear J;have l2:af.1.size<Y.1.size:=E_ I;go_wp2_with fail;refine(C2s _ 3 3 [t.a,t.b,t.c] _ p i Y (D5k al am an I) X W).mono ?_;rintro _ w3 ⟨rfl,O⟩;have ao:=A_ (K_ I O);have G:=A_ (Below.next aj O);clear O l2;obtain⟨K,-,T⟩:=bx ao;clear X W;obtain rfl|rfl|rfl:i=0\/i=1\/i=2:=oM
 ·go_wp2_with fail
  refine A0g ?_;iterate 13 refine C_ _ ?_
  intro ag ah wa u D (E:Hid _);simp at D;have h:=A_ (Below.next G u);clear E K T;go_simp;go_wp2_with fail;refine bodyPost_ret (v:=.tuple #[.int .i64 t.b,.int .i64 t.c,.bool true]) (by simp[results,results264,go_sem, *]) rfl ?_;exact⟨by rw[H.o];rfl,h⟩
 ·go_wp2_with fail
  refine A0g ?_;iterate 13 refine C_ _ ?_
  intro ag ah wa u D (E:Hid _);simp at D;have h:=A_ (Below.next G u);clear E K T;go_simp;go_wp2_with fail;refine bodyPost_ret (v:=.tuple #[.int .i64 t.c,.int .i64 t.a,.bool true]) (by simp[results,results264,go_sem, *]) rfl ?_;exact⟨by rw[H.o];rfl,h⟩
 go_wp2_with fail;refine A0g ?_;iterate 13 refine C_ _ ?_
 intro ag ah wa u D (E:Hid _);simp at D;have h:=A_ (Below.next G u);clear E K T;go_simp;go_wp2_with fail;refine bodyPost_ret (v:=.tuple #[.int .i64 t.a,.int .i64 t.b,.bool true]) (by simp[results,results264,go_sem, *]) rfl ?_;exact⟨by rw[H.o];rfl,h⟩
theorem C1b (v:Value) (m:TMesh) (b:List Nat) (p:Int) (w:World) (aj:Agg w v m b) (aq:m.triangles.length<=48) :
  Calls prog 210 #[v,.int .i64 p] w (A0w w (A2d m.triangles p)):=by
 have aT:=A_ aj;obtain⟨az,aP,aH,a2,aA,n1,aI,a3,rfl,rfl,aN,Y⟩:=TMesh.agg aj;have aF:=A_ Y;have aE:=A_ Y.1;have aX:n1<=48:=by rw[<-Y.1];exact aq
 have aW:(n1:Int)<=48:=oM;obtain⟨ak,af,ag,ah,ai⟩:=info_parts A6b;clear aN Y aj aq;go_enter func210,ntmps210;go_upto_region 1 with fail;refine Code.new λH ad=>?_;have aB:=A_ ad.b;have am:=A_ (show(H.alloc (.cells #[] 3)).1[w.1.size]?=some (.cells #[.slice az aP aH,.slice aA n1 aI] 26)from K_ ad.k (Below.box _));clear ad;have an:=A_ (Pend.start (α:=Int) (e:=3) aB);obtain⟨ap,-⟩:=B_ am (j:=1) rfl;simp at ap;have aO:w.1.size<(H.alloc (.cells #[] 3)).1.size:=E_ am;go_wp2_with fail;go_loopg [5,12] n1 (λg s5 s wr=>∃ (i gB cap:Nat),i+g=n1/\s=.int .i64 i/\s5=.slice (some ⟨gB,0,none⟩) (A2u m.triangles p i).length cap/\Hid (Pend w H 3 wr gB (A2u m.triangles p i).length cap (A2u m.triangles p i)));case atStart=>exact⟨0,H.1.size,0,oM,rfl,rfl,an.o⟩
 case round =>
  clear an ap aO;obtain⟨i,gB,cap,ar,rfl,rfl,h⟩:=hrel;have aC:=A_ h.bw;rcases Nat.lt_or_ge i n1 with X|X
  ·have aM:(i:Int)<n1:=oM
   have aV:(0:Int)<=i:=oM;obtain⟨g,rfl⟩:∃ g,gk=g+1:=⟨gk - 1,oM⟩
   have W:=A_ (by omega:i+1+g=n1);have aY:=B7u m.triangles p i;have aa:=A_ (by unfold maxLen;omega:(A2u m.triangles p i).length+1<=maxLen);have ab:=A_ (by omega:((A2u m.triangles p i).length+1)*8<=140737488355328);obtain⟨aU,a1,t,aJ,aL,au,aw,ax,ay,aR,aS,aK⟩:=TTri.elemA (aF.below aC) X;have ao:=A_ (show m.triangles.getD i A4p=t from A0e au);subst aJ;clear ar X au aK;go_upto_region 5 with fail;refine Code.new λu ae=>?_;have al:=A_ ae.b;have T:=A_ ae.k;clear aw ax ay aR aS aL ae;obtain⟨aw,-⟩:=B_ T (j:=0) rfl;obtain⟨ax,-⟩:=B_ T (j:=1) rfl;obtain⟨ay,-⟩:=B_ T (j:=2) rfl;have aZ:wr.1.size<u.1.size:=E_ T;have ac:=A_ (Below.next al (Below.box (.cells #[.int .i64 i] 3)));have Z:=A_ (show Dat.at_ (α:=Int) (u.alloc (.cells #[.int .i64 i] 3)) [.int .i64 i] (i:Int) []from⟨rfl,rfl,by constructor<;>omega⟩);cases hh:B6x t p
   ·have G:=A_ (by rw[A2u,ao.o,hh];rfl:A2u m.triangles p (i+1)=A2u m.triangles p i)
    have q1:(t.a==p)=false:=by unfold B6x at hh;simp_all
    have q2:(t.b==p)=false:=by unfold B6x at hh;simp_all
    have aQ:(t.c==p)=false:=by unfold B6x at hh;simp_all
    clear hh;go_wp2_with fail;go_roundg g;case measure=>omega
    case rel=>exact⟨i+1,gB,cap,W.o,gN,by rw[G.o],by rw[G.o];exact h.below al⟩
   have G:=A_ (by rw[A2u,ao.o,hh];rfl:A2u m.triangles p (i+1)=A2u m.triangles p i++[(i:Int)]);have I:=A_ (by rw[G.o];simp:(A2u m.triangles p (i+1)).length=(A2u m.triangles p i).length+1);cases q1:(t.a==p)
   ·cases q2:(t.b==p)
    ·have aQ:(t.c==p)=true:=by unfold B6x at hh;simp_all
     clear hh;go_wp2_with (at_builtin;refine A1v rfl _ _ 31 rfl 3 ak (.int .i64 0) 8 underlying31 af ag ah ai rfl h ac gD ⟨u.1.size,0,none⟩ 1 [.int .i64 i] (i:Int) [] gD (A0a (heap_alloc_new u _)) Z.o ⟨List.nodup_nil,λb hb=>by simp at hb⟩ (λb hb=>by simp at hb) aa.o ab.o ?_;intro g' D S E K O);have J:=A_ (by rw[I.o,G.o];exact E:Pend w H 3 S g' (A2u m.triangles p (i+1)).length D (A2u m.triangles p (i+1)));clear E K O h;go_wp2_with fail;go_roundg g;case measure=>omega
     case rel=>exact⟨i+1,g',D,W.o,gN,by rw[I.o],J⟩
    clear hh;go_wp2_with (at_builtin;refine A1v rfl _ _ 31 rfl 3 ak (.int .i64 0) 8 underlying31 af ag ah ai rfl h ac gD ⟨u.1.size,0,none⟩ 1 [.int .i64 i] (i:Int) [] gD (A0a (heap_alloc_new u _)) Z.o ⟨List.nodup_nil,λb hb=>by simp at hb⟩ (λb hb=>by simp at hb) aa.o ab.o ?_;intro g' D S E K O);have J:=A_ (by rw[I.o,G.o];exact E:Pend w H 3 S g' (A2u m.triangles p (i+1)).length D (A2u m.triangles p (i+1)));clear E K O h;go_wp2_with fail;go_roundg g;case measure=>omega
    case rel=>exact⟨i+1,g',D,W.o,gN,by rw[I.o],J⟩
   clear hh;go_wp2_with (at_builtin;refine A1v rfl _ _ 31 rfl 3 ak (.int .i64 0) 8 underlying31 af ag ah ai rfl h ac gD ⟨u.1.size,0,none⟩ 1 [.int .i64 i] (i:Int) [] gD (A0a (heap_alloc_new u _)) Z.o ⟨List.nodup_nil,λb hb=>by simp at hb⟩ (λb hb=>by simp at hb) aa.o ab.o ?_;intro g' D S E K O);have J:=A_ (by rw[I.o,G.o];exact E:Pend w H 3 S g' (A2u m.triangles p (i+1)).length D (A2u m.triangles p (i+1)));clear E K O h;go_wp2_with fail;go_roundg g;case measure=>omega
   case rel=>exact⟨i+1,g',D,W.o,gN,by rw[I.o],J⟩
  obtain rfl:n1=i:=oM;have aM:¬ ((n1:Int)<n1):=oM;have aG:=A_ (by unfold A2d;rw[aE.o]:A2u m.triangles p n1=A2d m.triangles p);clear ar X;go_wp2;go_ret;have aD:A0w w (A2d m.triangles p) (.returned (.slice (some ⟨gB,0,none⟩) (A2u m.triangles p n1).length cap)) wr:=by have:=h.done;rw[aG.o]at this ⊢;exact this
  exact aD
theorem C0z (val:Value) (x:TPiece) (b:List Nat) (w:World) (aF:Agg w val x b) :
  Calls prog 266 #[val] w (A0c w (C1f x)):=by
 obtain⟨a5,bY,bt,cp,a6,bZ,bu,a7,b0,bv,a8,b3,bz,a9,b4,bA,cq,ba,b5,bB,bc,b6,bD,bd,b7,bE,be,b8,bF,cs,bf,b9,bG,bg,ca,bH,ct,bh,cb,bI,bi,cc,bJ,cu,bj,cd,bK,bk,ce,bL,bl,cf,bM,bm,cg,bN,sF,bn,ch,bO,bo,ci,bP,bp,cj,bQ,bq,ck,bR,cv,br,cm,bS,bs,cn,bT,cw,rfl,rfl,aT,aU,aV,ay,az,aA,aB,aC⟩:=TPiece.agg aF;have Y:=A_ ay;have aG:=A_ az;have aH:=A_ aA;have aI:=A_ aB;have aJ:=A_ aC;clear aF aT aU aV ay az aA aB aC;go_enter func266,ntmps266;go_upto_region 1 with fail;refine Code.new2 λX T=>?_;have I:=A_ T.b;have u:=A_ T.k;have Z:=A_ T.l;have aQ:=A_ (show w.1.size+2<=X.1.size from E_ Z);clear T;obtain⟨aa,-⟩:=B_ u (j:=13) rfl;obtain⟨ab,-⟩:=B_ u (j:=14) rfl;obtain⟨ac,-⟩:=B_ u (j:=15) rfl;obtain⟨ad,-⟩:=B_ u (j:=16) rfl;obtain⟨ae,-⟩:=B_ u (j:=17) rfl;obtain⟨af,-⟩:=B_ u (j:=18) rfl;obtain⟨ag,-⟩:=B_ u (j:=19) rfl;obtain⟨ah,-⟩:=B_ u (j:=20) rfl;obtain⟨ai,-⟩:=B_ u (j:=21) rfl;obtain⟨aj,-⟩:=B_ u (j:=22) rfl;obtain⟨ak,-⟩:=B_ u (j:=23) rfl;obtain⟨al,-⟩:=B_ u (j:=24) rfl;obtain⟨am,-⟩:=B_ u (j:=25) rfl;obtain⟨an,-⟩:=B_ u (j:=26) rfl;obtain⟨ao,-⟩:=B_ u (j:=27) rfl;obtain⟨ap,-⟩:=B_ u (j:=28) rfl;obtain⟨aq,-⟩:=B_ u (j:=29) rfl;obtain⟨ar,-⟩:=B_ u (j:=30) rfl;obtain⟨au,-⟩:=B_ u (j:=31) rfl;obtain⟨aw,-⟩:=B_ u (j:=32) rfl;obtain⟨ax,-⟩:=B_ u (j:=33) rfl;simp at aa ab ac ad ae af ag ah ai aj ak al am an ao ap aq ar au aw ax;have bV:w.1.size<X.1.size:=E_ u;have bX:w.1.size+2<=X.1.size:=by have:=aQ.o;omega
 refine X_ sI ?_;dsimp only[List.dropLast,List.getLast,List.length];iterate 4 refine C_ _ ?_
 refine D_ (MP.agg (A0d x.f x.area)) ?_ ?_;·intro J G E h D;obtain⟨K,O⟩:=F_ h;simp at D;refine G_ ?_;exact H_ (A0n _ _ x.f x.area _ _ E ((aJ.below I).below h) ((Y.below I).below h))
 refine D_ (MP.agg (mkR 1 3)) ?_ ?_;·intro J G E h D;obtain⟨K,O⟩:=F_ h;simp at D;refine G_ ?_;exact H_ (A7u 1 3 E cD cD dE)
 refine D_ (MP.agg (A0d (A0d x.f x.area) (mkR 1 3))) ?_ ?_;·intro J G E h D;obtain⟨K,O⟩:=F_ h;simp at D;refine G_ ?_;obtain⟨S,H⟩:=D;exact H_ (A0n _ _ (A0d x.f x.area) (mkR 1 3) _ _ E S.1 (by first|exact H.1|exact H.1.1))
 iterate 4 refine C_ _ ?_
 refine D_ (MP.agg (A0d x.k x.area)) ?_ ?_;·intro J G E h D;obtain⟨K,O⟩:=F_ h;simp at D;refine G_ ?_;exact H_ (A0n _ _ x.k x.area _ _ E ((aG.below I).below h) ((Y.below I).below h))
 iterate 4 refine C_ _ ?_
 refine D_ (MP.agg (A1k x.grad x.own)) ?_ ?_;·intro J G E h D;obtain⟨K,O⟩:=F_ h;simp at D;refine G_ ?_;exact H_ (A8z _ _ x.grad x.own _ _ E ((aH.below I).below h) ((aI.below I).below h))
 refine D_ (MP.agg (A0d (A0d x.k x.area) (A1k x.grad x.own))) ?_ ?_;·intro J G E h D;obtain⟨K,O⟩:=F_ h;simp at D;refine G_ ?_;obtain⟨S,H⟩:=D;exact H_ (A0n _ _ (A0d x.k x.area) (A1k x.grad x.own) _ _ E S.1 (by first|exact H.1|exact H.1.1))
 refine D_ (MP.agg (C1f x)) ?_ ?_;·intro J G E h D;obtain⟨K,O⟩:=F_ h;simp at D;refine G_ ?_;obtain⟨S,H⟩:=D;exact H_ (A5b _ _ (A0d (A0d x.f x.area) (mkR 1 3)) (A0d (A0d x.k x.area) (A1k x.grad x.own)) _ _ E S.1 (by first|exact H.1|exact H.1.1))
 intro J G wa h D (aX:Hid _);simp at D;have a2:=D.2.2.2.2.2.2.2.2.2.2.2.2.2.2.2.2.2.2;obtain⟨⟨W,aD⟩,aE⟩:=a2;generalize C1f x=a1 at *;obtain⟨aO,aY,aR,cz,aP,aZ,aS,cA,a3,a4,_,_⟩:=TRat.agg W;rw[a3]at W;have aK:=A_ W;have aL:=A_ aD;have aM:=A_ (show ∀ b∈G 18,w.1.size+2<=b from λb aW=>by have:=(aE b aW).1;omega);have aN:=A_ (K_ Z h);have bU:=Below.next I h;obtain⟨cx,cy,bW⟩:=bx aN;generalize G 18=co at *;clear D aX W aD aE a4 h aa ab ac ad ae af ag ah ai aj ak al am an ao ap aq ar au aw ax;go_wp2;refine bodyPost_ret (v:=.agg #[.bool a1.1.1,.slice aO aY aR,.slice aP aZ aS]) (by simp[results,results266,go_sem, *]) rfl ?_;refine A1s (lo:=w.1.size+2) aK.o aL.o aM.o oM ?_ ?_;·exact Above.go
 exact Below.go
theorem A9e {w:World} {g j:Nat} {L:List Value} {t:TypeId} {v:Value} (h:w.1[g]?=some (.cells L.toArray t)) (hj:L[j]?=some v):w.cell? ⟨g,j,none⟩=some v/\w.frozen? ⟨g,j,none⟩=false :=
 B_ h (by rw[List.getElem?_toArray];exact hj)
inductive TPieceS (w:World) (x:TPiece) (val:Value):Prop where
 |mk (L:List Value) (A0:Option Addr) (nA0 cA0:Nat) (sA:List Nat) (B1:Option Addr) (nB1 cB1:Nat) (B2:Option Addr) (nB2 cB2:Nat) (B4:Option Addr) (nB4 cB4:Nat) (B5:Option Addr) (nB5 cB5:Nat) (sB:List Nat) (C1:Option Addr) (nC1 cC1:Nat) (C2:Option Addr) (nC2 cC2:Nat) (C4:Option Addr) (nC4 cC4:Nat) (C5:Option Addr) (nC5 cC5:Nat) (sC:List Nat) (D1:Option Addr) (nD1 cD1:Nat) (D2:Option Addr) (nD2 cD2:Nat) (sD:List Nat) (E1:Option Addr) (nE1 cE1:Nat) (E2:Option Addr) (nE2 cE2:Nat) (sE:List Nat) (F1:Option Addr) (nF1 cF1:Nat) (F2:Option Addr) (nF2 cF2:Nat) (F4:Option Addr) (nF4 cF4:Nat) (F5:Option Addr) (nF5 cF5:Nat) (sF:List Nat) (G1:Option Addr) (nG1 cG1:Nat) (G2:Option Addr) (nG2 cG2:Nat) (G4:Option Addr) (nG4 cG4:Nat) (G5:Option Addr) (nG5 cG5:Nat) (sG:List Nat) (H1:Option Addr) (nH1 cH1:Nat) (H2:Option Addr) (nH2 cH2:Nat) (sH:List Nat) (hv:val=.agg L.toArray) (hL:L=(.slice A0 nA0 cA0)::(.bool x.b.x.1.1)::(.slice B1 nB1 cB1)::(.slice B2 nB2 cB2)::(.bool x.b.y.1.1)::(.slice B4 nB4 cB4)::(.slice B5 nB5 cB5)::(.bool x.c.x.1.1)::(.slice C1 nC1 cC1)::(.slice C2 nC2 cC2)::(.bool x.c.y.1.1)::(.slice C4 nC4 cC4)::(.slice C5 nC5 cC5)::(.bool x.area.1.1)::(.slice D1 nD1 cD1)::(.slice D2 nD2 cD2)::(.bool x.k.1.1)::(.slice E1 nE1 cE1)::(.slice E2 nE2 cE2)::(.bool x.grad.x.1.1)::(.slice F1 nF1 cF1)::(.slice F2 nF2 cF2)::(.bool x.grad.y.1.1)::(.slice F4 nF4 cF4)::(.slice F5 nF5 cF5)::(.bool x.own.x.1.1)::(.slice G1 nG1 cG1)::(.slice G2 nG2 cG2)::(.bool x.own.y.1.1)::(.slice G4 nG4 cG4)::(.slice G5 nG5 cG5)::(.bool x.f.1.1)::(.slice H1 nH1 cH1)::(.slice H2 nH2 cH2)::[]) (f0:Sl w A0 nA0 cA0 x.list sA) (f1:Agg w (.agg #[.bool x.b.x.1.1,.slice B1 nB1 cB1,.slice B2 nB2 cB2,.bool x.b.y.1.1,.slice B4 nB4 cB4,.slice B5 nB5 cB5]) x.b sB) (f2:Agg w (.agg #[.bool x.c.x.1.1,.slice C1 nC1 cC1,.slice C2 nC2 cC2,.bool x.c.y.1.1,.slice C4 nC4 cC4,.slice C5 nC5 cC5]) x.c sC) (f3:Agg w (.agg #[.bool x.area.1.1,.slice D1 nD1 cD1,.slice D2 nD2 cD2]) x.area sD) (f4:Agg w (.agg #[.bool x.k.1.1,.slice E1 nE1 cE1,.slice E2 nE2 cE2]) x.k sE) (f5:Agg w (.agg #[.bool x.grad.x.1.1,.slice F1 nF1 cF1,.slice F2 nF2 cF2,.bool x.grad.y.1.1,.slice F4 nF4 cF4,.slice F5 nF5 cF5]) x.grad sF) (f6:Agg w (.agg #[.bool x.own.x.1.1,.slice G1 nG1 cG1,.slice G2 nG2 cG2,.bool x.own.y.1.1,.slice G4 nG4 cG4,.slice G5 nG5 cG5]) x.own sG) (f7:Agg w (.agg #[.bool x.f.1.1,.slice H1 nH1 cH1,.slice H2 nH2 cH2]) x.f sH):TPieceS w x val
theorem TPiece.shape {w:World} {val:Value} {x:TPiece} {I:List Nat} (Z:Agg w val x I):TPieceS w x val:=by
 obtain⟨L,rfl,Y⟩:=Z;obtain⟨bm,br,bz,bG,rfl,rfl,J,K⟩:=Y;obtain⟨aa,aX,aA,rfl,w0⟩:=J;obtain⟨p1,q1,bA,v1,rfl,rfl,b,O⟩:=K;obtain⟨ab,aY,aB,_,ac,aZ,aC,_,ad,a1,aD,_,ae,a2,aE,_,rfl,_⟩:=TPoint.open_ b;obtain⟨p2,q2,bB,v2,rfl,rfl,h,S⟩:=O;obtain⟨af,a3,aF,_,ag,a4,aG,_,ah,a5,aH,_,ai,a6,aI,_,rfl,_⟩:=TPoint.open_ h;obtain⟨bn,bs,bD,bH,rfl,rfl,u,T⟩:=S;obtain⟨aj,a7,aJ,_,ak,a8,aK,_,rfl,_⟩:=TRat.open_ u;obtain⟨bo,bt,bE,bI,rfl,rfl,D,W⟩:=T;obtain⟨al,a9,aL,_,am,ba,aM,_,rfl,_⟩:=TRat.open_ D;obtain⟨bp,bu,sF,bJ,rfl,rfl,E,X⟩:=W;obtain⟨an,bc,aN,_,ao,bd,aO,_,ap,be,aP,_,aq,bf,aQ,_,rfl,_⟩:=TPoint.open_ E;obtain⟨bq,bv,bF,bK,rfl,rfl,G,H⟩:=X;obtain⟨ar,bg,aR,_,au,bh,aS,_,aw,bi,aT,_,ax,bj,aU,_,rfl,_⟩:=TPoint.open_ G;obtain⟨ay,bk,aV,_,az,bl,aW,_,rfl,_⟩:=TRat.open_ H;exact .mk _ _ _ _ _ _ _ _ _ _ _ _ _ _ _ _ _ _ _ _ _ _ _ _ _ _ _ _ _ _ _ _ _ _ _ _ _ _ _ _ _ _ _ _ _ _ _ _ _ _ _ _ _ _ _ _ _ _ _ _ _ _ _ _ _ _ _ _ _ _ _ _ _ _ _ _ _ _  rfl rfl w0 (⟨_,rfl,b⟩) (⟨_,rfl,h⟩) (⟨_,rfl,u⟩) (⟨_,rfl,D⟩) (⟨_,rfl,E⟩) (⟨_,rfl,G⟩) (⟨_,rfl,H⟩)
attribute [local simp] MP.box
theorem D8f (val b4 vs:Value) (x:TPiece) (first S:TRat) (b cY cZ:List Nat) (J b1 K:TPoint) (w:World) (bW:Agg w val x b) (bh:Agg w b4 first cY) (bj:Agg w vs S cZ) (bi:x.list=[J,b1,K]) (bV:A7m [J,b1,K]=true) :
  Calls prog 267 #[val,b4,vs] w (λe w'=>∃ v1 v2 s1 s2,e=.returned (.tuple #[v1,v2])/\Agg w' v1 (B0i x first S) s1/\Agg w' v2 (B3c x) s2/\(∀ b∈s1++s2,w.1.size<=b)/\Bw w w'):=by
 obtain⟨L,b6,bX,c0,fc,b7,dH,c1,b8,dI,c2,b9,dJ,c4,ca,dL,c5,fd,cc,dM,c6,cd,dN,c7,ce,dO,c8,cf,dQ,c9,fe,ch,dR,da,ci,dS,db,ff,cj,dT,dc,ck,dU,dd,fg,cm,dV,de,cn,dW,df,co,dX,dg,cp,dY,dh,sF,aR,dZ,di,aS,d0,dj,aU,d1,dk,a7,d2,dl,fh,em,e5,es,en,e6,et,fi,dz,H,az,aN,aO,aP,aQ,bS,-,-⟩:=TPiece.shape bW;subst dz;have ey:L[0]?=some (.slice b6 bX c0):=by rw[H];rfl
 have ez:L[1]?=some (.bool x.b.x.1.1):=by rw[H];rfl
 have eK:L[2]?=some (.slice b7 dH c1):=by rw[H];rfl
 have eV:L[3]?=some (.slice b8 dI c2):=by rw[H];rfl
 have eX:L[4]?=some (.bool x.b.y.1.1):=by rw[H];rfl
 have eY:L[5]?=some (.slice b9 dJ c4):=by rw[H];rfl
 have eZ:L[6]?=some (.slice ca dL c5):=by rw[H];rfl
 have e0:L[7]?=some (.bool x.c.x.1.1):=by rw[H];rfl
 have e1:L[8]?=some (.slice cc dM c6):=by rw[H];rfl
 have e2:L[9]?=some (.slice cd dN c7):=by rw[H];rfl
 have eA:L[10]?=some (.bool x.c.y.1.1):=by rw[H];rfl
 have eB:L[11]?=some (.slice ce dO c8):=by rw[H];rfl
 have eC:L[12]?=some (.slice cf dQ c9):=by rw[H];rfl
 have eD:L[13]?=some (.bool x.area.1.1):=by rw[H];rfl
 have eE:L[14]?=some (.slice ch dR da):=by rw[H];rfl
 have eF:L[15]?=some (.slice ci dS db):=by rw[H];rfl
 have eG:L[16]?=some (.bool x.k.1.1):=by rw[H];rfl
 have eH:L[17]?=some (.slice cj dT dc):=by rw[H];rfl
 have eI:L[18]?=some (.slice ck dU dd):=by rw[H];rfl
 have eJ:L[19]?=some (.bool x.grad.x.1.1):=by rw[H];rfl
 have eL:L[20]?=some (.slice cm dV de):=by rw[H];rfl
 have eM:L[21]?=some (.slice cn dW df):=by rw[H];rfl
 have eN:L[22]?=some (.bool x.grad.y.1.1):=by rw[H];rfl
 have eO:L[23]?=some (.slice co dX dg):=by rw[H];rfl
 have eP:L[24]?=some (.slice cp dY dh):=by rw[H];rfl
 have eQ:L[25]?=some (.bool x.own.x.1.1):=by rw[H];rfl
 have eR:L[26]?=some (.slice aR dZ di):=by rw[H];rfl
 have eS:L[27]?=some (.slice aS d0 dj):=by rw[H];rfl
 have eT:L[28]?=some (.bool x.own.y.1.1):=by rw[H];rfl
 have eU:L[29]?=some (.slice aU d1 dk):=by rw[H];rfl
 have eW:L[30]?=some (.slice a7 d2 dl):=by rw[H];rfl
 clear H;obtain⟨P1,e7,eu,p1,P2,e8,ev,p2,rfl,rfl,_,_⟩:=TRat.agg bh;obtain⟨Q1,e9,ew,q1,Q2,fa,ex,q2,rfl,rfl,_,_⟩:=TRat.agg bj;rw[bi]at az;obtain rfl:3=bX:=az.1;have cg:=A_ (by unfold E3j;rw[bi];rfl:E3j x=A5x J b1 K);have cv:=A_ bV;have cq:=A_ az;have aR:=A_ aN;have aS:=A_ aO;have aT:=A_ aP;have aU:=A_ aQ;have a7:=A_ bS;have cs:=A_ bh;have cu:=A_ bj;clear bW bh bj bi bV az aN aO aP aQ bS;go_enter func267,ntmps267;go_upto_region 1 with fail;refine Code.new5 λcU N=>?_;have bp:=A_ N.b;have aH:=A_ N.k0;have cw:=A_ N.k1;have cz:=A_ N.k2;have cA:=A_ N.k3;have cB:=A_ N.k4;have aI:=A_ N.z;clear N;obtain⟨b5,aq⟩:=bxL aH;refine X_ sI ?_;dsimp only[List.dropLast,List.getLast,List.length];refine D_ (MP.agg (U_ 1)) ?_ ?_;·intro I E D h u;obtain⟨T,W⟩:=F_ h;simp at u;refine G_ ?_;exact H_ (A0l 1 D cD)
 refine D_ (MP.agg (U_ 2)) ?_ ?_;·intro I E D h u;obtain⟨T,W⟩:=F_ h;simp at u;refine G_ ?_;exact H_ (A0l 2 D cD)
 iterate 2 refine C_ _ ?_
 refine D_ (MP.agg (A0d (U_ 2) x.area)) ?_ ?_;·intro I E D h u;obtain⟨T,W⟩:=F_ h;simp at u;refine G_ ?_;obtain⟨t,_⟩:=u;exact H_ (A0n _ _ (U_ 2) x.area _ _ D (by first|exact t.1|exact t.1.1) (aT.o.below (Below.next bp.o h)))
 refine D_ (MP.agg (byP x)) ?_ ?_;·intro I E D h u;obtain⟨T,W⟩:=F_ h;simp at u;refine G_ ?_;obtain⟨aE,ar⟩:=u;exact H_ (A8m _ _ (U_ 1) (A0d (U_ 2) x.area) _ _ D aE.1 (by first|exact ar.1|exact ar.1.1))
 refine A1p #[.bool false,.slice none 0 0,.slice none 0 0] 35 ?_ ?_;·intro I E D h u;refine⟨gD,?_⟩;go_simp
 intro I E wa h u (ag:Hid _);simp at u;have au:=u.2.2.2.2.2.1;have aB:=u.2.2.2.2.2.2;obtain⟨⟨O,-⟩,ae⟩:=au;obtain⟨⟨az,aF,ac,aa⟩,ab⟩:=aB;obtain⟨cI,d5,dp,_,cJ,d6,dq,_,ah,-,_,_⟩:=TRat.agg O;rw[ah]at O;rw[ac]at ab;have aw:=(ab az sI).1;have ak:=A_ (show ∀ b∈E 5,b≠az from λb G e=>by have:=ag 5 6 dE dE dE b G;rw[ac]at this;simp[e]at this);have af:=A_ O;have am:=A_ aa;have ai:=A_ h;have Z:=A_ (show ∀ b∈E 5,cU.1.size<=b from λb G=>(ae b G).1);obtain⟨aC,aD,aA⟩:=bx aa;generalize E 5=r0 at *;clear u ag O ae ab ac aa h aq;go_upto_region 2 with fail;obtain⟨aY,Y,ao,an,aj,ap⟩:=D1j (.bool (byP x).1.1) (.slice cI d5 dp) (.slice cJ d6 dq) am ai (by have:=aw;(try simp at this);omega);rw[Y];have a5:=A_ aj;have bv:=A_ ao;have ad:=A_ (af.keep λb G=>an b (ak b G));have al:=Z;have bB:=a5;clear Y ao an aj ak af am ai Z ah aF aC aD aA;have ay:=A_ ap;clear ap;have cW:=A_ (by have:=aI.o;have:=a5.size;  omega:w.1.size+5<=aY.1.size);have bq:=A_ (Below.next bp a5);have br:=ad;have er:=A_ (show ∀ b∈r0,w.1.size+5<=b from λb G=>by have:=al b G;have:=aI.o;omega);clear ad al ay;obtain⟨fk,aq⟩:=bxL (K_ aH bB);go_wp2_with fail;refine(C8w _ _ J b1 K _ aY (cq.below bq) cv).mono ?_;rintro _ wb ⟨fj,ei,rfl,bk,bU,bT⟩;obtain⟨bF,bY,bO,_,bG,bZ,bP,_,bH,b0,bQ,_,bI,b3,bR,_,rfl,-,_,_,_,_⟩:=TPoint.agg bk;have bt:=A_ bk;have aW:=A_ bT;have cF:=A_ (show ∀ b∈ei,aY.1.size<=b from λb G=>(bU.2 b G).1);clear bk bU bT aq;go_upto_region 3 with fail;obtain⟨aZ,Y⟩:∃ X,X=wb.alloc (.cells #[.bool (A5x J b1 K).x.1.1,.slice bF bY bO,.slice bG bZ bP,.bool (A5x J b1 K).y.1.1,.slice bH b0 bQ,.slice bI b3 bR] 38):=⟨_,rfl⟩
 have a6:=A_ (by rw[Y];exact Below.box _:Bw wb aZ);obtain⟨aN,a1⟩:∃ g,wb.1.size=g:=⟨_,rfl⟩
 have cE:=A_ (by rw[Y,<-a1];exact heap_alloc_new wb _:aZ.1[aN]?=some (.cells #[.bool (A5x J b1 K).x.1.1,.slice bF bY bO,.slice bG bZ bP,.bool (A5x J b1 K).y.1.1,.slice bH b0 bQ,.slice bI b3 bR] 38));have ad:=A_ (bt.below a6);have aw:aY.1.size<=aN:=by rw[<-a1];exact aW.size
 have ax:=A_ (aW.trans (a6.mono aW.size));have aX:=A_ (Below.next bB ax);rw[<-Y];simp only[a1];clear Y a1 a6 bt aW cF;have bL:=A_ (by have:=aI.o;have:=ax.size;have:=cW.o;omega:w.1.size+5<=aZ.1.size);have aJ:=A_ (Below.next bq ax);have bs:=ad;clear ad;obtain⟨el,-,bm⟩:=bx (K_ bv ax);obtain⟨fo,-,dF⟩:=bx (K_ cz aX);obtain⟨fp,-,dG⟩:=bx cE;obtain⟨ej,aq⟩:=bxL (K_ aH aX);obtain⟨fn,-,dA⟩:=bx (K_ cw aX);refine X_ sI ?_;dsimp only[List.dropLast,List.getLast,List.length];iterate 5 refine C_ _ ?_
 refine D_ (MP.agg (A4a (A5x J b1 K) x.b)) ?_ ?_;·intro I E D h u;obtain⟨T,W⟩:=F_ h;simp at u;refine G_ ?_;exact H_ (A1u _ _ (A5x J b1 K) x.b _ _ D (bs.below h) (aR.below (Below.next aJ h)))
 refine D_ (MP.agg (A0v S (A4a (A5x J b1 K) x.b))) ?_ ?_;·intro I E D h u;obtain⟨T,W⟩:=F_ h;simp at u;refine G_ ?_;obtain⟨_,t⟩:=u;exact H_ (A1n _ _ S (A4a (A5x J b1 K) x.b) _ _ D (cu.o.below (Below.next aJ.o h)) (by first|exact t.1|exact t.1.1))
 iterate 4 refine C_ _ ?_
 refine D_ (MP.agg (A4a (A5x J b1 K) x.c)) ?_ ?_;·intro I E D h u;obtain⟨T,W⟩:=F_ h;simp at u;refine G_ ?_;exact H_ (A1u _ _ (A5x J b1 K) x.c _ _ D (bs.below h) (aS.below (Below.next aJ h)))
 refine D_ (MP.agg (A0v first (A4a (A5x J b1 K) x.c))) ?_ ?_;·intro I E D h u;obtain⟨T,W⟩:=F_ h;simp at u;refine G_ ?_;obtain⟨_,t⟩:=u;exact H_ (A1n _ _ first (A4a (A5x J b1 K) x.c) _ _ D (cs.o.below (Below.next aJ.o h)) (by first|exact t.1|exact t.1.1))
 refine D_ (MP.agg (A4a (A0v S (A4a (A5x J b1 K) x.b)) (A0v first (A4a (A5x J b1 K) x.c)))) ?_ ?_;·intro I E D h u;obtain⟨T,W⟩:=F_ h;simp at u;refine G_ ?_;obtain⟨aE,ar⟩:=u;exact H_ (A1u _ _ (A0v S (A4a (A5x J b1 K) x.b)) (A0v first (A4a (A5x J b1 K) x.c)) _ _ D aE.1 (by first|exact ar.1|exact ar.1.1))
 refine D_ (MP.agg (sP x first S)) ?_ ?_;·intro I E D h u;obtain⟨T,W⟩:=F_ h;simp at u;refine G_ ?_;obtain⟨_,t⟩:=u;rw[show sP x first S=A0v (byP x) (A4a (A0v S (A4a (A5x J b1 K) x.b)) (A0v first (A4a (A5x J b1 K) x.c))) by rw[sP,cg.o]];exact H_ (A1n _ _ (byP x) (A4a (A0v S (A4a (A5x J b1 K) x.b)) (A0v first (A4a (A5x J b1 K) x.c))) _ _ D (br.o.below (Below.next ax.o h)) (by first|exact t.1|exact t.1.1))
 refine A1p #[.bool false,.slice none 0 0,.slice none 0 0,.bool false,.slice none 0 0,.slice none 0 0] 38 ?_ ?_;·intro I E D h u;refine⟨gD,?_⟩;go_simp
 intro I E wa h u (ag:Hid _);simp at u;have au:=u.2.2.2.2.2.2.2.2.2.2.2.2.2.2.1;have aB:=u.2.2.2.2.2.2.2.2.2.2.2.2.2.2.2;obtain⟨⟨O,-⟩,ae⟩:=au;obtain⟨⟨aO,aF,ac,aa⟩,ab⟩:=aB;obtain⟨cK,d7,dr,_,cL,d8,ds,_,cM,d9,dt,_,cN,ea,du,_,ah,-,_,_,_,_⟩:=TPoint.agg O;rw[ah]at O;rw[ac]at ab;have aw:=(ab aO sI).1;have ak:=A_ (show ∀ b∈E 14,b≠aO from λb G e=>by have:=ag 14 15 dE dE dE b G;rw[ac]at this;simp[e]at this);have af:=A_ O;have am:=A_ aa;have ai:=A_ h;have Z:=A_ (show ∀ b∈E 14,aZ.1.size<=b from λb G=>(ae b G).1);obtain⟨aC,aD,aA⟩:=bx aa;generalize E 14=ef at *;clear u ag O ae ab ac aa h bm dF dG aq dA;go_upto_region 4 with fail;obtain⟨bJ,Y,ao,an,aj,ap⟩:=D6m (.bool (sP x first S).x.1.1) (.slice cK d7 dr) (.slice cL d8 ds) (.bool (sP x first S).y.1.1) (.slice cM d9 dt) (.slice cN ea du) am.o ai.o (by have:=aw;(try simp at this);omega);rw[Y];have aL:=A_ aj;have cx:=A_ ao;have ad:=A_ (af.keep λb G=>an b (ak b G));have al:=Z;have bD:=A_ (Below.next aX aL);clear Y ao an aj ak af am ai Z ah aF aC aD aA;have ay:=A_ ap;clear ap;have bM:=A_ (by have:=aI.o;have:=aL.size;have:=bL.o;omega:w.1.size+5<=bJ.1.size);have a3:=A_ (Below.next aJ aL);have ct:=ad;have ep:=A_ (show ∀ b∈ef,w.1.size+5<=b from λb G=>by have:=al b G;have:=bL.o;omega);clear ad al ay;obtain⟨el,-,bm⟩:=bx (K_ bv (Below.next ax aL));obtain⟨ej,aq⟩:=bxL (K_ aH bD);refine X_ sI ?_;dsimp only[List.dropLast,List.getLast,List.length];iterate 5 refine C_ _ ?_
 refine D_ (MP.agg (A4a x.c x.b)) ?_ ?_;·intro I E D h u;obtain⟨T,W⟩:=F_ h;simp at u;refine G_ ?_;exact H_ (A1u _ _ x.c x.b _ _ D (aS.below (Below.next a3 h)) (aR.below (Below.next a3 h)))
 refine D_ (MP.agg (dP x)) ?_ ?_;·intro I E D h u;obtain⟨T,W⟩:=F_ h;simp at u;refine G_ ?_;obtain⟨_,t⟩:=u;exact H_ (A1n _ _ (byP x) (A4a x.c x.b) _ _ D (br.o.below (Below.next (Below.next ax.o aL.o) h)) (by first|exact t.1|exact t.1.1))
 refine A1p #[.bool false,.slice none 0 0,.slice none 0 0,.bool false,.slice none 0 0,.slice none 0 0] 38 ?_ ?_;·intro I E D h u;refine⟨gD,?_⟩;go_simp
 intro I E wa h u (ag:Hid _);simp at u;have au:=u.2.2.2.2.2.2.1;have aB:=u.2.2.2.2.2.2.2;obtain⟨⟨O,-⟩,ae⟩:=au;obtain⟨⟨aP,aF,ac,aa⟩,ab⟩:=aB;obtain⟨cO,eb,dv,_,cP,ec,dw,_,cQ,ed,dx,_,cR,ee,dy,_,ah,-,_,_,_,_⟩:=TPoint.agg O;rw[ah]at O;rw[ac]at ab;have aw:=(ab aP sI).1;have ak:=A_ (show ∀ b∈E 6,b≠aP from λb G e=>by have:=ag 6 7 dE dE dE b G;rw[ac]at this;simp[e]at this);have af:=A_ O;have am:=A_ aa;have ai:=A_ h;have Z:=A_ (show ∀ b∈E 6,bJ.1.size<=b from λb G=>(ae b G).1);obtain⟨aC,aD,aA⟩:=bx aa;generalize E 6=eg at *;clear u ag O ae ab ac aa h bm aq;go_upto_region 5 with fail;obtain⟨bK,Y,ao,an,aj,ap⟩:=D6m (.bool (dP x).x.1.1) (.slice cO eb dv) (.slice cP ec dw) (.bool (dP x).y.1.1) (.slice cQ ed dx) (.slice cR ee dy) am ai (by have:=aw;(try simp at this);omega);rw[Y];have aM:=A_ aj;have bu:=A_ ao;have ad:=A_ (af.keep λb G=>an b (ak b G));have al:=Z;have bE:=A_ (Below.next bD aM);clear Y ao an aj ak af am ai Z ah aF aC aD aA;have ay:=A_ ap;clear ap;have bN:=A_ (by have:=aI.o;have:=aM.size;have:=bM.o;omega:w.1.size+5<=bK.1.size);have aK:=A_ (Below.next a3 aM);have aV:=ad;have eo:=A_ (show ∀ b∈eg,w.1.size+5<=b from λb G=>by have:=al b G;have:=bM.o;omega);clear ad al ay;obtain⟨ek,-,bl⟩:=bx bu;obtain⟨fl,-,dB⟩:=bx (K_ cx aM);obtain⟨b5,aq⟩:=bxL (K_ aH bE);refine X_ sI ?_;dsimp only[List.dropLast,List.getLast,List.length];iterate 4 refine C_ _ ?_
 refine D_ (MP.agg (A1k (dP x) (sP x first S))) ?_ ?_;·intro I E D h u;obtain⟨T,W⟩:=F_ h;simp at u;refine G_ ?_;exact H_ (A8z _ _ (dP x) (sP x first S) _ _ D (aV.o.below h) (ct.o.below (Below.next aM.o h)))
 refine D_ (MP.agg (A0d x.area (A1k (dP x) (sP x first S)))) ?_ ?_;·intro I E D h u;obtain⟨T,W⟩:=F_ h;simp at u;refine G_ ?_;obtain⟨_,t⟩:=u;exact H_ (A0n _ _ x.area (A1k (dP x) (sP x first S)) _ _ D (aT.o.below (Below.next aK.o h)) (by first|exact t.1|exact t.1.1))
 iterate 2 refine C_ _ ?_
 refine D_ (MP.agg (A3u (A0d x.area (A1k (dP x) (sP x first S))) x.k)) ?_ ?_;·intro I E D h u;obtain⟨T,W⟩:=F_ h;simp at u;refine G_ ?_;obtain⟨t,_⟩:=u;exact H_ (A8m _ _ (A0d x.area (A1k (dP x) (sP x first S))) x.k _ _ D (by first|exact t.1|exact t.1.1) (aU.o.below (Below.next aK.o h)))
 iterate 5 refine C_ _ ?_
 refine D_ (MP.agg (A1k (dP x) x.grad)) ?_ ?_;·intro I E D h u;obtain⟨T,W⟩:=F_ h;simp at u;refine G_ ?_;exact H_ (A8z _ _ (dP x) x.grad _ _ D (aV.below h) (a7.below (Below.next aK h)))
 refine D_ (MP.agg (A0d x.area (A1k (dP x) x.grad))) ?_ ?_;·intro I E D h u;obtain⟨T,W⟩:=F_ h;simp at u;refine G_ ?_;obtain⟨_,t⟩:=u;exact H_ (A0n _ _ x.area (A1k (dP x) x.grad) _ _ D (aT.o.below (Below.next aK.o h)) (by first|exact t.1|exact t.1.1))
 refine D_ (MP.agg (mkR 1 3)) ?_ ?_;·intro I E D h u;obtain⟨T,W⟩:=F_ h;simp at u;refine G_ ?_;exact H_ (A7u 1 3 D cD cD dE)
 refine D_ (MP.agg (A0d (A0d x.area (A1k (dP x) x.grad)) (mkR 1 3))) ?_ ?_;·intro I E D h u;obtain⟨T,W⟩:=F_ h;simp at u;refine G_ ?_;obtain⟨aE,ar⟩:=u;exact H_ (A0n _ _ (A0d x.area (A1k (dP x) x.grad)) (mkR 1 3) _ _ D aE.1 (by first|exact ar.1|exact ar.1.1))
 refine D_ (MP.agg (B0i x first S)) ?_ ?_;·intro I E D h u;obtain⟨T,W⟩:=F_ h;simp at u;refine G_ ?_;obtain⟨aE,ar⟩:=u;exact H_ (A0x _ _ (A3u (A0d x.area (A1k (dP x) (sP x first S))) x.k) (A0d (A0d x.area (A1k (dP x) x.grad)) (mkR 1 3)) _ _ D aE.1 (by first|exact ar.1|exact ar.1.1))
 refine A1p #[.bool false,.slice none 0 0,.slice none 0 0] 35 ?_ ?_;·intro I E D h u;refine⟨gD,?_⟩;go_simp
 intro I E wa h u (ag:Hid _);simp at u;have au:=u.2.2.2.2.2.2.2.2.2.2.2.2.2.2.2.2.2.2.1;have aB:=u.2.2.2.2.2.2.2.2.2.2.2.2.2.2.2.2.2.2.2;obtain⟨⟨O,-⟩,ae⟩:=au;obtain⟨⟨aQ,aF,ac,aa⟩,ab⟩:=aB;obtain⟨bc,bn,be,_,bd,bo,bf,_,ah,-,_,_⟩:=TRat.agg O;rw[ah]at O;rw[ac]at ab;have aw:=(ab aQ sI).1;have ak:=A_ (show ∀ b∈E 18,b≠aQ from λb G e=>by have:=ag 18 19 dE dE dE b G;rw[ac]at this;simp[e]at this);have af:=A_ O;have am:=A_ aa;have ai:=A_ h;have Z:=A_ (show ∀ b∈E 18,bK.1.size<=b from λb G=>(ae b G).1);obtain⟨aC,aD,aA⟩:=bx aa;generalize E 18=eh at *;clear u ag O ae ab ac aa h bl dB aq;go_upto_region 6 with fail;obtain⟨cV,Y,ao,an,aj,ap⟩:=D1j (.bool (B0i x first S).1.1) (.slice bc bn be) (.slice bd bo bf) am.o ai.o (by have:=aw;(try simp at this);omega);rw[Y];have aG:=A_ aj;have cy:=A_ ao;have ad:=A_ (af.keep λb G=>an b (ak b G));have al:=Z;have a9:=A_ (Below.next bE aG);clear Y ao an aj ak af am ai Z ah aF aC aD aA;have ay:=A_ ap;clear ap;have cX:=A_ (by have:=aI.o;have:=aG.size;have:=bN.o;omega:w.1.size+5<=cV.1.size);have a4:=A_ (Below.next aK aG);have a8:=ad;have ba:=A_ (show ∀ b∈eh,w.1.size+5<=b from λb G=>by have:=al b G;have:=bN.o;omega);clear ad al ay;obtain⟨fm,-,dD⟩:=bx cy;obtain⟨ek,-,bl⟩:=bx (K_ bu aG);obtain⟨b5,aq⟩:=bxL (K_ aH a9);refine W_ 10 kR kR kR kR kR ?_;simp only[List.take_succ_cons,List.take_zero,List.drop_succ_cons,List.drop_zero];iterate 5 refine C_ _ ?_
 refine D_ (MP.agg (A1k (dP x) (dP x))) ?_ ?_;·intro I E D h u;obtain⟨T,W⟩:=F_ h;simp at u;refine G_ ?_;exact H_ (A8z _ _ (dP x) (dP x) _ _ D (aV.below (Below.next aG h)) (aV.below (Below.next aG h)))
 refine D_ (MP.agg (A0d x.area (A1k (dP x) (dP x)))) ?_ ?_;·intro I E D h u;obtain⟨T,W⟩:=F_ h;simp at u;refine G_ ?_;obtain⟨_,t⟩:=u;exact H_ (A0n _ _ x.area (A1k (dP x) (dP x)) _ _ D (aT.o.below (Below.next a4.o h)) (by first|exact t.1|exact t.1.1))
 iterate 2 refine C_ _ ?_
 refine D_ (MP.agg (B3c x)) ?_ ?_;·intro I E D h u;obtain⟨T,W⟩:=F_ h;simp at u;refine G_ ?_;obtain⟨t,_⟩:=u;exact H_ (A8m _ _ (A0d x.area (A1k (dP x) (dP x))) x.k _ _ D (by first|exact t.1|exact t.1.1) (aU.o.below (Below.next a4.o h)))
 intro I E wa h u (ag:Hid _);simp at u;have a2:=u.1;have au:=u.2.2.2.2.2.2.2.2.2;obtain⟨⟨O,-⟩,ae⟩:=au;obtain⟨cG,d3,dm,_,cH,d4,dn,_,ah,-,_,_⟩:=TRat.agg O;rw[ah]at O;have af:=A_ O;have ai:=A_ h;have Z:=A_ (show ∀ b∈E 9,w.1.size+5<=b from λb G=>by have:=(ae b G).1;have:=cX.o;omega);have bz:=A_ (K_ (K_ cA a9) h);have bA:=A_ (K_ (K_ cB a9) h);obtain⟨fq,fs,-⟩:=bx bz;obtain⟨ft,fu,-⟩:=bx bA;have e3:w.1.size+3<wa.1.size:=E_ bz;have e4:w.1.size+4<wa.1.size:=E_ bA;have a8:=A_ (a8.below h);have cb:=A_ (Below.next a4 h);have fr:I 0=.agg #[.bool (B0i x first S).1.1,.slice bc bn be,.slice bd bo bf]:=by first|exact a2.1.1|exact a2.1|exact a2
 clear a2;generalize E 9=fb at *;clear u ag O ae h dD bl aq;go_wp2;refine bodyPost_ret (v:=.tuple #[.agg #[.bool (B0i x first S).1.1,.slice bc bn be,.slice bd bo bf],.agg #[.bool (B3c x).1.1,.slice cG d3 dm,.slice cH d4 dn]]) (by simp[results,results267,go_sem, *]) rfl ?_;refine⟨_,_,_,_,rfl,a8.keep λb G=>(A0p b ?_).trans (A0p b ?_),af.keep λb G=>(A0p b ?_).trans (A0p b ?_),λb G=>?_,(Below.setCell (p:=⟨w.1.size+4,2,none⟩) (Below.setCell (p:=⟨w.1.size+4,1,none⟩) (Below.setCell (p:=⟨w.1.size+4,0,none⟩) (Below.setCell (p:=⟨w.1.size+3,2,none⟩) (Below.setCell (p:=⟨w.1.size+3,1,none⟩) (Below.setCell (p:=⟨w.1.size+3,0,none⟩) cb (Nat.le_add_right _ _) _) (Nat.le_add_right _ _) _) (Nat.le_add_right _ _) _) (Nat.le_add_right _ _) _) (Nat.le_add_right _ _) _) (Nat.le_add_right _ _) _)⟩;·have:=ba b G;omega
 ·have:=ba b G;omega
 ·have:=Z b G;omega
 ·have:=Z b G;omega
 rcases List.mem_append.1 G with bg|bg;·have:=ba b bg;omega
 have:=Z b bg;omega
theorem E0w {w:World} {A:Option Addr} {n c:Nat} {xs:List Bool} {D:List Nat} (h:Sl w A n c xs D) {k:Nat} (I:k<n) :
  ∃ (b off:Nat) (x:Bool),A=some ⟨b,off,none⟩/\b<w.1.size/\xs[k]?=some x/\w.cell? ⟨b,off+k,none⟩=some (.bool x):=by
 obtain⟨b,off,x,K,O,E,G,J,H,⟨rfl,rfl⟩,S⟩:=Sl.getAt h I;have u:=H 0 _ rfl;rw[show k*Dat.sz Bool+0=k from Nat.mul_one k]at u;exact⟨b,off,x,E,G,J,u⟩
theorem B9i {w:World} {A:Option Addr} {n c:Nat} {xs:List Int} {D:List Nat} (h:Sl w A n c xs D) {k:Nat} (J:k<n) :
  ∃ (b off:Nat) (x:Int),A=some ⟨b,off,none⟩/\b<w.1.size/\xs[k]?=some x/\w.cell? ⟨b,off+k,none⟩=some (.int .i64 x)/\I64 x:=by
 obtain⟨b,off,x,O,S,E,G,K,H,⟨rfl,rfl,I⟩,T⟩:=Sl.getAt h J;have u:=H 0 _ rfl;rw[show k*Dat.sz Int+0=k from Nat.mul_one k]at u;exact⟨b,off,x,E,G,K,u,I⟩
theorem BRow.sl {w:World} {base g n:Nat} {u:List Bool} (h:BRow w base g n u):∃ bs,Sl w (some ⟨g,0,none⟩) n n u bs/\∀ b∈bs,b=g:=by
 have G:u.length=n:=by have:=h.1;simpa using this
 have X:u.length=(u.map Value.bool).length:=sI;have J:Filled (α:=Bool) w (u.map .bool) u (u.map λ_=>[]):=by refine⟨sI,by simp[Dat.sz],λk x s H D=>?_⟩;rw[List.getElem?_map,H]at D;simp at D;subst D;obtain⟨K,T⟩:=List.getElem?_eq_some_iff.1 H;refine⟨?_,rfl⟩;rw[show k*Dat.sz Bool=k from Nat.mul_one k,show(Dat.sz Bool)=1 from rfl];rw[List.drop_eq_getElem_cons (by simpa using K)];simp[T]
 obtain⟨A,c,bs,S,D,O⟩:=J.sl (α:=Bool) h G;injection S with e1 e2 e3;subst e1;subst e3;refine⟨bs,D,λb E=>?_⟩;rcases O with⟨_,rfl⟩|⟨g',e,rfl,_⟩;·simp at E
 have I:g=g':=by simpa[Value.ownBlock]using e
 have W:((u.map λ_=>([]:List Nat))).flatten=[]:=by rw[List.flatten_eq_nil_iff];intro l G;obtain⟨_,_,rfl⟩:=List.mem_map.1 G;rfl
 rw[W]at E;simp at E;rw[E,I]
def E0a (w:World) (n:Nat) (M:List Bool) (e:Ending) (w':World):Prop:=∃ g,e=.returned (.slice (some ⟨g,0,none⟩) n n)/\BRow w' w.1.size g n M/\Bw w w'
attribute [local simp] MP.slbox
theorem C2x (A:Option Addr) (n c:Nat) (M:List Bool) (ad:List Nat) (w:World) (E:Sl w A n c M ad) (ar:n<=144) :
  Calls prog 176 #[.slice A n c] w (A0w w (A9l M)):=by
 have ac:=A_ E;have au:(n:Int)<=144:=oM;obtain⟨al,ae,af,ag,ah⟩:=info_parts A6b;have aa:=A_ (by rw[A9l,E.1]:A9l M=A3o M n);clear E;go_enter func176,ntmps176;go_wp2_with fail;have I:=A_ (Pend.start (α:=Int) (e:=3) (Below.refl w.1.size w));go_loopg [3,9] n (λg s3 s w4=>∃ (i gB cap:Nat),i+g=n/\s=.int .i64 i/\s3=.slice (some ⟨gB,0,none⟩) (A3o M i).length cap/\Hid (Pend w w 3 w4 gB (A3o M i).length cap (A3o M i)));case atStart=>exact⟨0,w.1.size,0,oM,rfl,rfl,I.o⟩
 case round =>
  clear I;obtain⟨i,gB,cap,O,rfl,rfl,h⟩:=hrel;have Z:=A_ h.bb;rename World=>w4;rcases Nat.lt_or_ge i n with D|D
  ·have aj:(i:Int)<n:=oM
   have aq:(0:Int)<=i:=oM;obtain⟨g,rfl⟩:∃ g,gk=g+1:=⟨gk - 1,oM⟩
   have K:=A_ (by omega:i+1+g=n);have aw:=B4g M i;have X:=A_ (by unfold maxLen;omega:(A3o M i).length+1<=maxLen);have Y:=A_ (by omega:((A3o M i).length+1)*8<=140737488355328);obtain⟨an,ax,f,rfl,ao,T,ap⟩:=E0w (ac.below Z) D;have G:=A_ (A0e (d:=false) T);clear O D T;cases f
   ·have u:=A_ (by rw[A3o,G.o];rfl:A3o M (i+1)=A3o M i)
    go_wp2_with fail;go_roundg g;case measure=>omega
    case rel=>exact⟨i+1,gB,cap,K.o,gN,by rw[u.o],by rw[u.o];exact h⟩
   have u:=A_ (by rw[A3o,G.o];rfl:A3o M (i+1)=A3o M i++[(i:Int)]);have H:=A_ (by rw[u.o];simp:(A3o M (i+1)).length=(A3o M i).length+1);have W:=A_ (show Dat.at_ (α:=Int) (w4.alloc (.cells #[.int .i64 i] 3)) [.int .i64 i] (i:Int) []from⟨rfl,rfl,by constructor<;>omega⟩);go_wp2_with (at_builtin;refine A1v rfl _ _ 31 rfl 3 al (.int .i64 0) 8 underlying31 ae af ag ah rfl h (Below.box _) gD ⟨w4.1.size,0,none⟩ 1 [.int .i64 i] (i:Int) [] gD (A0a (heap_alloc_new w4 _)) W.o ⟨List.nodup_nil,λb hb=>by simp at hb⟩ (λb hb=>by simp at hb) X.o Y.o ?_;intro g' J am S ai ak);have ab:=A_ (by rw[H.o,u.o];exact S:Pend w w 3 am g' (A3o M (i+1)).length J (A3o M (i+1)));clear S ai ak h;go_wp2_with fail;go_roundg g;case measure=>omega
   case rel=>exact⟨i+1,g',J,K.o,gN,by rw[H.o],ab⟩
  obtain rfl:i=n:=oM;have aj:¬ ((i:Int)<i):=oM;clear O D;go_wp2;go_ret;rw[aa.o];exact h.done
theorem B7g (A:Option Addr) (m c:Nat) (L:List Int) (Z:List Nat) (n:Nat) (w:World) (K:Sl w A m c L Z) (aD:m<=144) (aF:n<=144) :
  Calls prog 177 #[.slice A m c,.int .i64 n] w (E0a w n (B0a n L)):=by
 have ak:=A_ K;have aE:(m:Int)<=144:=oM;have aG:(n:Int)<=144:=oM;obtain⟨af,am,ao,ap,aq⟩:=info_parts D1p;have b2:=A_ (by rw[aq];omega:af.bytes*n<=281474976710656);have al:=A_ (by unfold maxLen;omega:n<=maxLen);have aj:=A_ (by rw[B0a,K.1]:B0a n L=A6i n L m);have au:=A_ (show ∀ b∈Z,b<w.1.size from K.lt);clear K;go_enter func177,ntmps177;go_upto_region 1 with fail;go_upto_region 2 with(at_make;(refine wpList_make_full _ rfl _ _ 129 rfl w.1.size 4 af (.bool false) 1 underlying129 am ao ap .i64 .i64 _ _ n rfl rfl rfl rfl b2 al (Nat.le_refl _) ?_);intro ar T ab)
 rw[B6q]at T;have aa:=(Below.refl w.1.size w).grown ab sI (by intro k I;cases I);have X:=A_ (show BRow ar w.1.size w.1.size n (A6i n L 0)from T);have ah:=A_ aa;clear T ab aa;go_wp2_with fail;go_loopg [12] m (λg s wr=>∃ k:Nat,k+g=m/\s=.int .i64 k/\Hid (BRow wr w.1.size w.1.size n (A6i n L k))/\Hid (Bw w wr));case atStart=>exact⟨0,oM,rfl,X.o,ah.o⟩
 case round =>
  clear X;obtain⟨k,I,rfl,E,H⟩:=hrel;have aC:=E.lt;rcases Nat.lt_or_ge k m with J|J
  ·have an:(k:Int)<m:=oM
   have aA:(0:Int)<=k:=oM;obtain⟨g,rfl⟩:∃ g,gk=g+1:=⟨gk - 1,oM⟩
   have ac:=A_ (by omega:k+1+g=m);obtain⟨aw,aI,x,rfl,ax,ae,ay,az⟩:=B9i (ak.below H) J;have Y:=A_ (show L.getD k 0=x from A0e ae);have D:=A0s x 0 ((n:Int) - 1) wr;clear I J ae;cases h:inB 0 x ((n:Int) - 1)
   ·have S:=A_ (by rw[A6i,Y.o,h];rfl:A6i n L (k+1)=A6i n L k)
    rw[h]at D;clear h;go_wp2_with fail;refine D.mono ?_;rintro _ W ⟨rfl,u⟩;have G:=A_ (E.below u);have O:=A_ (Below.next H u);clear u E D;go_wp2_with fail;go_roundg g;case measure=>omega
    case rel=>exact⟨k+1,ac.o,gN,by rw[S.o];exact G,O⟩
   have ad:0<=x/\x<n:=by unfold inB at h;simp at h;omega
   obtain⟨ad,aH⟩:=ad;have S:=A_ (by rw[A6i,Y.o,h];rfl:A6i n L (k+1)=(A6i n L k).set x.toNat true);rw[h]at D;clear h;go_wp2_with fail;refine D.mono ?_;rintro _ W ⟨rfl,u⟩;have G:=A_ (E.below u);have O:=A_ (Below.next H u);clear u E D;obtain⟨aJ,aK⟩:=G.cell (j:=x.toNat) (f:=(A6i n L k).getD x.toNat false) (by rw[List.getD_eq_getElem?_getD,List.getElem?_eq_getElem (by rw[B1o];omega)];rfl);have aB:=G.lt;have ag:=A_ (by rw[S.o];exact G.set _ _:BRow (W.setCell ⟨w.1.size,x.toNat,none⟩ (.bool true)) w.1.size w.1.size n (A6i n L (k+1)));have ai:=A_ (show Bw w (W.setCell ⟨w.1.size,x.toNat,none⟩ (.bool true))from O.setCell (p:=⟨w.1.size,x.toNat,none⟩) (Nat.le_refl _) _);go_wp2_with fail;go_roundg g;case measure=>omega
   case rel=>exact⟨k+1,ac,gN,ag,ai⟩
  obtain rfl:k=m:=oM;have an:¬ ((k:Int)<k):=oM;clear I J;go_wp2;go_ret;rw[aj.o];exact⟨_,rfl,E,H⟩
theorem RR.take {bad:Nat->Prop} {w:World} {g n m cap:Nat} {xs:List TRat} (h:RR bad w g n cap xs) (ag:m<=n):RR bad w g m cap (xs.take m):=by
 obtain⟨cells,fss,⟨ae,O⟩,⟨k1,k2,ad⟩,af,S,T⟩:=h;have G:(xs.take m).length=m:=sO;refine⟨cells.take (m*3),fss.take m,⟨sO,?_⟩,⟨by simp[k1],by rw[G];simp[Dat.sz];omega,?_⟩,G,?_,T⟩
 ·rcases O with⟨E,_⟩|⟨g',I,J,E,u,Z,ah,X,Y,ac⟩
  ·cases E
  refine .inr ⟨g',I,J,?_,u,Z,oM,X,Y,?_⟩;·injection E with e1 e2 e3;rw[e1,e3]
  rw[<-ac,List.take_take,Nat.min_eq_left oM]
 ·intro k x K b D
  rw[List.getElem?_take]at b D;split at b;·rename_i ab;rw[if_pos ab]at D;have:=ad k x K b D;have e:Dat.sz TRat=3:=rfl;rw[e]at this ⊢;rw[List.drop_take,List.take_take,Nat.min_eq_left oM];exact this
  cases b
 intro H u;obtain⟨gs,aa,W⟩:=List.mem_flatten.1 u;exact S H (List.mem_flatten.2 ⟨gs,List.mem_of_mem_take aa,W⟩)
end Go.Proofs.YtbhemnidcleaiaaGreat.X
namespace Go
open Go.RowKit Go.XB Go.Proofs.YtbhemnidcleaiaaGreat.X
theorem E1y {P:Program} {bad:Nat->Prop} {wr wa:World} {gB k cap:Nat} {ps:List TRat} {ag:Array Oper} {rest:List Oper} {o:Oper} {a:Act} {Q:Exit->Act->World->Prop} (al:o.guard=none) (s x:Operand) (t:TypeId)
  (an:o.op=.call { callee:=.builtin .append,args:=#[s,x],argTypes:=#[t,t] })
  (i:TypeInfo) (z:Value) (S:Nat) (au:P.underlying t=some (.slice 35)) (hi:P.info? 35=some i) (ax:i.zero=some z)
  (ar:i.size=3) (aj:i.bytes=S) (ay:z.cells.size=3) (ap:RR bad wr gB k cap ps) (X:Bw wr wa) (aq:a.eval s=.slice (some ⟨gB,0,none⟩) k cap)
  (O:Addr) (c:Nat) (cs:List Value) (ah:TRat) (I:List Nat) (aw:a.eval x=.slice (some O) 1 c) (am:∀ j u,cs[j]?=some u->wa.cell? (O.add j)=some u)
  (K:Dat.at_ wa cs ah I) (ab:∀ b∈I,¬ bad b) (ai:k+1<=maxLen) (ak:(k+1)*S<=140737488355328)
  (h:∀ g' cap' w8,RR (λb=>b=g'\/bad b) w8 g' (k+1) cap' (ps++[ah])->wa.grownBy w8 (some gB)->(g'=gB\/g'=wa.1.size)->wpList P ag Q rest (a.put o.dst (.slice (some ⟨g',0,none⟩) (k+1) cap')) w8):wpList P ag Q (o::rest) a wa:=by
 obtain⟨cells,fss,T,ac,ad,W,J⟩:=ap;have az:=World.ownsRow.lt T _ rfl;have aA:=X.size;refine A1m al s x t an 0 35 i z 3 S au hi ax ar aj ay dE gB k cap cells aq (I_ T X) O 1 c cs aw (by rw[Nat.one_mul];exact Dat.len K) am (Dat.one K) ai ak (Nat.zero_le _) ?_;intro g' cap' w8 ao Z aa;refine h g' cap' w8 ?_ Z aa;have Y:∀ b∈fss.flatten,b<wr.1.size:=ac.lt;have k1:∀ b∈fss.flatten,w8.1[b]?=wr.1[b]?:=λb G=>(Z.block b (by have:=Y b G;omega) (by intro e;injection e with e;exact W b G (e ▸ J))).trans (X.block b (Y b G));have af:∀ b∈I,b<wa.1.size:=Dat.lt K;have k2:∀ b∈I,w8.1[b]?=wa.1[b]?:=λb G=>Z.block b (af b G) (by intro e;injection e with e;exact ab b G (e ▸ J));refine⟨_,fss++[I],ao,Filled.push (ac.keep k1) (by rw[T.1,ad];rfl) (Dat.keep K k2),by simp[ad],?_,.inl rfl⟩;rw[List.flatten_append];intro b D ae;rcases List.mem_append.1 D with D|D
 ·rcases ae with E|E
  ·rcases aa with H|H
   ·exact W b D (by rw[E,H];exact J)
   have:=Y _ D;omega
  exact W b D E
 simp at D;rcases ae with E|E
 ·rcases aa with H|H
  ·exact ab b D (by rw[E,H];exact J)
  have:=af _ D;omega
 exact ab b D E
end Go
namespace Go.Proofs.YtbhemnidcleaiaaGreat.X
open Go.RowKit Go.XB Go.XN Proofs.Tryz
attribute [local go_sem] L_ Go.XB.opAt N_ M_ Region.wanted yielded
attribute [local simp] N_ M_ MP.eq MP.agg MP.sl A0r
section
structure FlSt (w U:World) (ga gb gr nr cr:Nat) (o:List TRat) (lx:TRat) (P1:Option Addr) (p1 q1:Nat) (P2:Option Addr) (p2 q2:Nat) (rl:List Nat) (rx:TRat) (Q1:Option Addr) (k1 l1:Nat) (Q2:Option Addr) (k2 l2:Nat) (rr:List Nat):Prop where
 bl:Bw w U
 ra:RBox U ga lx P1 p1 q1 P2 p2 q2
 rb:RBox U gb rx Q1 k1 l1 Q2 k2 l2
 al:Agg U (.agg #[.bool lx.1.1,.slice P1 p1 q1,.slice P2 p2 q2]) lx rl
 ar:Agg U (.agg #[.bool rx.1.1,.slice Q1 k1 l1,.slice Q2 k2 l2]) rx rr
 ro:RR (λb=>b=gr\/(b=ga\/b=gb)) U gr nr cr o
 dl:∀ b∈rl,b≠ga/\b≠gb/\b≠gr
 dr:∀ b∈rr,b≠ga/\b≠gb/\b≠gr
 na:w.1.size<=ga
 nb:w.1.size<=gb
 nr:w.1.size<=gr
 ne:ga≠gb
 nra:gr≠ga
 nrb:gr≠gb
section
variable {w U U':World} {ga gb gr nr cr:Nat} {o:List TRat} {lx:TRat} {P1:Option Addr} {p1 q1:Nat} {P2:Option Addr} {p2 q2:Nat} {rl:List Nat} {rx:TRat} {Q1:Option Addr} {k1 l1:Nat} {Q2:Option Addr} {k2 l2:Nat} {rr:List Nat}
theorem FlSt.below (h:FlSt w U ga gb gr nr cr o lx P1 p1 q1 P2 p2 q2 rl rx Q1 k1 l1 Q2 k2 l2 rr) (hb:Bw U U'):FlSt w U' ga gb gr nr cr o lx P1 p1 q1 P2 p2 q2 rl rx Q1 k1 l1 Q2 k2 l2 rr :=
 ⟨Below.next h.bl hb,h.ra.below hb,h.rb.below hb,h.al.below hb,h.ar.below hb,h.ro.below hb,h.dl,h.dr,h.na,h.nb,h.nr,h.ne,h.nra,h.nrb⟩
theorem FlSt.setL (h:FlSt w U ga gb gr nr cr o lx P1 p1 q1 P2 p2 q2 rl rx Q1 k1 l1 Q2 k2 l2 rr) {y:TRat} {O1:Option Addr} {o1 u1:Nat} {O2:Option Addr} {o2 u2:Nat} {ry:List Nat}
  (ha:Agg U (.agg #[.bool y.1.1,.slice O1 o1 u1,.slice O2 o2 u2]) y ry) (hd:∀ b∈ry,b≠ga/\b≠gb/\b≠gr) :
  FlSt w (((U.setCell ⟨ga,0,none⟩ (.bool y.1.1)).setCell ⟨ga,1,none⟩ (.slice O1 o1 u1)).setCell ⟨ga,2,none⟩ (.slice O2 o2 u2)) ga gb gr nr cr o y O1 o1 u1 O2 o2 u2 ry rx Q1 k1 l1 Q2 k2 l2 rr :=
 ⟨((h.bl.setCell (p:=⟨ga,0,none⟩) h.na _).setCell (p:=⟨ga,1,none⟩) h.na _).setCell (p:=⟨ga,2,none⟩) h.na _,h.ra.set,h.rb.keep (A0p gb h.ne.symm) sI,ha.keep (λb hb=>A0p b (hd b hb).1),h.ar.keep (λb hb=>A0p b (h.dr b hb).1),
  h.ro.keep ga (.inr (.inl rfl)) h.nra.symm sI rfl rfl rfl (λb hb=>A0p b hb),hd,h.dr,h.na,h.nb,h.nr,h.ne,h.nra,h.nrb⟩
theorem FlSt.setR (h:FlSt w U ga gb gr nr cr o lx P1 p1 q1 P2 p2 q2 rl rx Q1 k1 l1 Q2 k2 l2 rr) {y:TRat} {O1:Option Addr} {o1 u1:Nat} {O2:Option Addr} {o2 u2:Nat} {ry:List Nat}
  (ha:Agg U (.agg #[.bool y.1.1,.slice O1 o1 u1,.slice O2 o2 u2]) y ry) (hd:∀ b∈ry,b≠ga/\b≠gb/\b≠gr) :
  FlSt w (((U.setCell ⟨gb,0,none⟩ (.bool y.1.1)).setCell ⟨gb,1,none⟩ (.slice O1 o1 u1)).setCell ⟨gb,2,none⟩ (.slice O2 o2 u2)) ga gb gr nr cr o lx P1 p1 q1 P2 p2 q2 rl y O1 o1 u1 O2 o2 u2 ry :=
 ⟨((h.bl.setCell (p:=⟨gb,0,none⟩) h.nb _).setCell (p:=⟨gb,1,none⟩) h.nb _).setCell (p:=⟨gb,2,none⟩) h.nb _,h.ra.keep (A0p ga h.ne) sI,h.rb.set,h.al.keep (λb hb=>A0p b (h.dl b hb).2.1),ha.keep (λb hb=>A0p b (hd b hb).2.1),
  h.ro.keep gb (.inr (.inr rfl)) h.nrb.symm sI rfl rfl rfl (λb hb=>A0p b hb),h.dl,hd,h.na,h.nb,h.nr,h.ne,h.nra,h.nrb⟩
theorem FlSt.push {g' K G:Nat} {O:List TRat} (h:FlSt w U ga gb gr nr cr o lx P1 p1 q1 P2 p2 q2 rl rx Q1 k1 l1 Q2 k2 l2 rr) (W:RR (λb=>b=g'\/(b=gr\/(b=ga\/b=gb))) U' g' K G O) (D:U.grownBy U' (some gr)) (J:g'=gr\/g'=U.1.size) :
  FlSt w U' ga gb g' K G O lx P1 p1 q1 P2 p2 q2 rl rx Q1 k1 l1 Q2 k2 l2 rr:=by
 have E:∀ b,b≠gr->b<U.1.size->U'.1[b]?=U.1[b]?:=λb u T=>D.block b T (by intro e;injection e with e;exact u e);have H:=h.ra.1;have I:=h.rb.1;have Z:=h.bl.size;have d:∀ b,b≠gr->b<U.1.size->b≠g':=λb X Y=>by rcases J with e|e<;>omega
 refine⟨h.bl.grown D oM (λk S=>by injection S with e;subst e;exact h.nr),h.ra.keep (E _ h.nra.symm H) D.size,h.rb.keep (E _ h.nrb.symm I) D.size,h.al.keep (λb u=>E b (h.dl b u).2.2 (h.al.lt b u)),h.ar.keep (λb u=>E b (h.dr b u).2.2 (h.ar.lt b u)),
  W.weaken (λb _ u=>?_) (.inl rfl),λb u=>⟨(h.dl b u).1,(h.dl b u).2.1,d b (h.dl b u).2.2 (h.al.lt b u)⟩,λb u=>⟨(h.dr b u).1,(h.dr b u).2.1,d b (h.dr b u).2.2 (h.ar.lt b u)⟩,h.na,h.nb,?_,h.ne,(d ga h.nra.symm H).symm,(d gb h.nrb.symm I).symm⟩
 ·rcases u with e|e
  ·exact .inl e
  exact .inr (.inr e)
 rcases J with e|e;·rw[e];exact h.nr
 omega
end
end
theorem B4r (A:Option Addr) (n c:Nat) (xs:List TRat) (ac:List Nat) (w:World) (T:Sl w A n c xs ac) (ao:n<=144) (S:xs.any A2e=false) :
  Calls prog 159 #[.slice A n c] w (A0b w (.bool true)):=by
 have ab:=A_ T;have aa:=A_ S;have ap:(n:Int)<=144:=oM;clear T S;go_enter func159,ntmps159;go_wp2_with fail;go_loopg [7] n (λg s wr=>∃ i:Nat,i+g=n/\s=.int .i64 i/\Hid (Bw w wr));case atStart=>exact⟨0,oM,rfl,Below.refl _ _⟩
 case round =>
  obtain⟨i,O,rfl,u⟩:=hrel;rcases Nat.lt_or_ge i n with h|h
  ·have ag:(i:Int)<n:=oM
   have an:(0:Int)<=i:=oM;obtain⟨g,rfl⟩:∃ g,gk=g+1:=⟨gk - 1,oM⟩
   have af:=A_ (by omega:i+1+g=n);obtain⟨ak,au,x,ai,aq,al,u1,aj,ar,am,u2,ad,ae,W,a0,E,G,J⟩:=TRat.elemA (ab.below u) h;have X:=A_ (show(!x.den.isEmpty)=true by have:=List.any_eq_false.1 aa x (List.mem_of_getElem? W);unfold A2e at this;simpa using this);have Z:=A_ J;subst ad;clear O h W J;go_upto_region 4 with fail;refine Code.new λI D=>?_;have H:=A_ D.b;have b:=A_ D.k;clear a0 E G ae D;obtain⟨a0,-⟩:=B_ b (j:=0) rfl;obtain⟨E,-⟩:=B_ b (j:=1) rfl;obtain⟨G,-⟩:=B_ b (j:=2) rfl;have ah:wr.1.size<I.1.size:=E_ b;go_wp2_with fail;have C:=A2p _ x _ I (Z.below H);rw[X.o]at C;refine C.mono ?_;clear C;rintro _ aw ⟨rfl,K⟩;have Y:=A_ (Below.next u (Below.next H K));clear K a0 E G ah;go_wp2_with fail;go_roundg g;case measure=>omega
   case rel=>exact⟨i+1,af,gN,Y⟩
  obtain rfl:n=i:=oM;have ag:¬ ((n:Int)<n):=oM;clear O h;go_wp2;go_ret;exact⟨rfl,u⟩
theorem D3c (v:Value) (r:TRat) (b:List Nat) (w:World) (J:Agg w v r b) :
  Calls prog 268 #[v] w (A0c w (C3m r)):=by
 have W:=A_ J;obtain⟨K,ad,Y,aI,O,ae,Z,aJ,rfl,rfl,aw,ax⟩:=TRat.agg J;clear aw ax J;go_enter func268,ntmps268;go_wp2_with fail;have C:=A7s _ r _ ((w.alloc (.cells #[.bool r.1.1,.slice K ad Y,.slice O ae Z] 35)).alloc (.cells #[.bool false,.slice none 0 0,.slice none 0 0] 35)) (W.below Below.go);cases D:J_ r;·have ap:=A_ (by unfold C3m;rw[D];rfl:C3m r=A0h);rw[D]at C;refine C.mono ?_;clear C D;rintro _ u ⟨rfl,h⟩;obtain⟨aa,ab⟩:=F_ h;have ay:w.1.size<u.1.size:=ltg h;have az:w.1.size+1<u.1.size:=ltg h;go_wp2;refine bodyPost_ret (v:=.agg #[.bool false,.slice none 0 0,.slice none 0 0]) (by simp[results,results268,go_sem, *]) rfl ?_;rw[ap.o];exact A3e Below.go
 have ao:=A_ (by unfold C3m;rw[D];rfl:C3m r=⟨A0f (-R_ r),r.2⟩);have V:=A_ (ratOkB_iff.1 D);have L:=A_ (show(⟨A0f (-R_ r),r.2⟩:TRat).1.2.length<=1048576/\(⟨A0f (-R_ r),r.2⟩:TRat).2.length<=1048576 by have e:A0f (-R_ r)=⟨!r.num.neg&&!r.num.mag.isEmpty,r.1.2⟩:=B9l V.1;rw[e];exact⟨by have:=V.num24;show r.1.2.length<=_;omega,by have:=V.o.den24;show r.2.length<=_;omega⟩);rw[D]at C;refine C.mono ?_;clear C D;rintro _ u ⟨rfl,h⟩;obtain⟨aa,ab⟩:=F_ h;have ay:w.1.size<u.1.size:=ltg h;have az:w.1.size+1<u.1.size:=ltg h;have S:=A_ (show Bw w u from Below.go);have am:=A_ (show u.1[w.1.size+1]?=some (.cells #[.bool false,.slice none 0 0,.slice none 0 0] 35) by have:=heap_alloc_new (w.alloc (.cells #[.bool r.1.1,.slice K ad Y,.slice O ae Z] 35)) (.cells #[.bool false,.slice none 0 0,.slice none 0 0] 35);rw[World.size_alloc]at this;exact K_ this h);go_wp2_with fail;refine(B7f _ r _ u (W.below S) V.1).mono ?_;rintro _ af ⟨v2,aK,rfl,E,H⟩;have X:=A_ (K_ am H);have aj:=A_ (Below.next S H);obtain⟨aC,m1,aF,u1,aD,m2,aG,u2,rfl,aA,_,_⟩:=TRat.agg E;go_wp2_with fail;refine(A3n _ _ _ af E L.1 L.2).mono ?_;rintro _ w3 ⟨aO,aL,rfl,G,ac,I⟩;obtain⟨ag,n1,aq,aM,ah,n2,ar,aN,rfl,aB,_,_⟩:=TRat.agg G;have an:=A_ (K_ X I);have ak:=A_ (Below.next aj I);have ai:=A_ G;have T:=A_ ac;have al:=A_ (by have:=E_ X;omega:w.1.size+2<=af.1.size);obtain⟨aP,aQ,aH⟩:=bx an;clear E H G ac I aA aB h aa ab;have aE:=ak.o;go_wp2;refine bodyPost_ret (v:=.agg #[.bool (⟨A0f (-R_ r),r.2⟩:TRat).1.1,.slice ag n1 aq,.slice ah n2 ar]) (by simp[results,results268,go_sem, *]) rfl ?_;rw[ao.o];refine A1s (lo:=w.1.size+2) ai T.free (λb au=>by have:=(T.2 b au).1;have:=al.o;omega) oM ?_ ?_;·exact Above.go
 exact Below.go
theorem B8p {ts:List TTri} {es:List TEdge} {v k:Int} (h:D5b ts es v k=true):∃ (i:Nat) (t:TTri),k=i/\i<ts.length/\ts[i]?=some t/\B6x t v=true/\A6o es (A2i v (A3h t v).1)=true/\A6o es (A2i v (A3h t v).2)=true/\spT ts es v k=(A3z es (A2i v (A3h t v).1),A3z es (A2i v (A3h t v).2)):=by
 unfold D5b at h;simp only[Bool.and_eq_true,decide_eq_true_eq]at h;obtain⟨⟨H,I⟩,u,D,E⟩:=h;obtain⟨i,rfl⟩:∃ i:Nat,k=i:=⟨k.toNat,oM⟩
 have b:i<ts.length:=oM;have G:ts.getD i A4p=ts[i]:=by rw[List.getD_eq_getElem?_getD,List.getElem?_eq_getElem b];rfl
 rw[Int.toNat_natCast,G]at u D E;exact⟨i,ts[i],rfl,b,List.getElem?_eq_getElem b,u,D,E,by unfold spT;rw[Int.toNat_natCast,G]⟩
theorem E0j {t:TTri} {v:Int} (b:I64 t.a) (h:I64 t.b) (u:I64 t.c):I64 (A3h t v).1/\I64 (A3h t v).2:=by
 unfold A3h;split;·exact⟨h,u⟩
 split;·exact⟨u,b⟩
 exact⟨b,h⟩
theorem B5f (val:Value) (x:TAround) (b:List Nat) (k:Int) (w:World) (aq:Agg w val x b) (am:D5b x.m.triangles x.edges x.v k=true) (aK:x.edges.length<=144) :
  Calls prog 262 #[val,.int .i64 k] w (A0b w (.tuple #[.int .i64 (spT x.m.triangles x.edges x.v k).1,.int .i64 (spT x.m.triangles x.edges x.v k).2])):=by
 obtain⟨i,t,rfl,al,ao,hh,ah,ai,an⟩:=B8p am;obtain⟨aT,a5,aY,a8,aU,n1,aZ,a9,aV,n2,a1,ba,aW,a6,a2,bc,rfl,rfl,aL,Y,Z,ap,aM⟩:=TAround.agg aq;have aE:=A_ Y;have ac:=A_ Z;have ae:=A_ ap;have aF:=A_ ao;have aA:=A_ hh;have aB:=A_ ah;have aC:=A_ ai;have aD:=A_ an;have aJ:i<n1:=by rw[<-Y.1];exact al
 have a4:(i:Int)<n1:=oM;have a3:(0:Int)<=i:=oM;have ad:=A_ (by rw[<-Z.1];omega:n2<=65536);clear aL Y Z aM ap aq am ao hh ah ai an al aK;go_enter func262,ntmps262;go_upto_region 1 with fail;refine Code.new λaG T=>?_;have ab:=A_ T.b;have D:=A_ T.k;clear T;obtain⟨ag,-⟩:=B_ D (j:=0) rfl;obtain⟨E,-⟩:=B_ D (j:=1) rfl;obtain⟨G,-⟩:=B_ D (j:=2) rfl;obtain⟨H,-⟩:=B_ D (j:=3) rfl;simp at ag E G H;have aa:w.1.size<aG.1.size:=E_ D;obtain⟨aX,a7,aN,aH,aI,ar,aO,aP,aQ,aR,aS,W⟩:=TTri.elemA (aE.below ab) aJ;obtain rfl:t=aN:=by have:=aF.o;rw[ar]at this;exact(Option.some.inj this).symm
 obtain⟨_,_,au,aw,ax,_,_⟩:=TTri.agg W;have af:=A_ (E0j (v:=x.v) au aw ax);have az:=A_ W;subst aH;clear ar W au aw ax;refine A0g ?_;iterate 8 refine C_ _ ?_
 refine D_ (MP.eq (.tuple #[.int .i64 (A3h t x.v).1,.int .i64 (A3h t x.v).2,.bool true])) ?_ ?_;·intro K O I h u;obtain⟨aj,ak⟩:=F_ h;simp at u;refine G_ ?_;exact A0i (B5z _ t _ x.v I (az.below h) aA)
 iterate 7 refine C_ _ ?_
 intro K O wa h u (X:Hid _);simp at u;go_simp;have S:=A_ (Below.next ab h);have J:=A_ (K_ D h);clear u X ag E G H aO aP aQ aR aS aI aa h;obtain⟨E,-⟩:=B_ J (j:=1) rfl;obtain⟨G,-⟩:=B_ J (j:=2) rfl;obtain⟨H,-⟩:=B_ J (j:=3) rfl;simp at E G H;have aa:w.1.size<wa.1.size:=E_ J;go_upto_region 2 with fail;refine A0g ?_;iterate 5 refine C_ _ ?_
 refine D_ (MP.eq (.int .i64 (A3z x.edges (A2i x.v (A3h t x.v).1)))) ?_ ?_;·intro K O I h u;obtain⟨aj,ak⟩:=F_ h;simp at u;refine G_ ?_;exact A0i (A2t _ _ _ x.edges _ x.v (A3h t x.v).1 I ((ac.below S).below h) ad ae af.1 aB)
 iterate 5 refine C_ _ ?_
 refine D_ (MP.eq (.int .i64 (A3z x.edges (A2i x.v (A3h t x.v).2)))) ?_ ?_;·intro K O I h u;obtain⟨aj,ak⟩:=F_ h;simp at u;refine G_ ?_;exact A0i (A2t _ _ _ x.edges _ x.v (A3h t x.v).2 I ((ac.below S).below h) ad ae af.2 aC)
 iterate 2 refine C_ _ ?_
 intro K O wb h u (X:Hid _);simp at u;have ay:=A_ (Below.next S h);clear X E G H aa;go_simp;go_wp2_with fail;refine bodyPost_ret (v:=.tuple #[.int .i64 (A3z x.edges (A2i x.v (A3h t x.v).1)),.int .i64 (A3z x.edges (A2i x.v (A3h t x.v).2))]) (by simp[results,results262,go_sem, *]) rfl ?_;exact⟨by rw[aD.o],ay.o⟩
theorem E1f (val:Value) (x:TAround) (b:List Nat) (e:Int) (w:World) (W:Agg w val x b) (aj:∀ k∈x.list,D5b x.m.triangles x.edges x.v k=true) (al:x.edges.length<=144) (ak:x.list.length<=48) :
  Calls prog 263 #[val,.int .i64 e] w (A0b w (.int .i64 (A8e x.m.triangles x.edges x.v x.list e))):=by
 have aq:=A_ W;have am:=A_ aj;have ap:=A_ al;obtain⟨aE,aR,aJ,aT,aF,n1,aK,aU,aG,n2,aL,aV,aH,h,aM,aW,rfl,rfl,aA,aB,aC,aD,J⟩:=TAround.agg W;have an:=A_ J;have aP:h<=48:=by rw[<-J.1];exact ak
 have aQ:(h:Int)<=48:=oM;have ao:=A_ J.1;clear aA aB aC J aD W aj al ak;go_enter func263,ntmps263;go_upto_region 1 with fail;refine Code.new λac T=>?_;have K:=A_ T.b;have S:=A_ T.k;clear T;obtain⟨G,-⟩:=B_ S (j:=4) rfl;simp at G;have Y:w.1.size<ac.1.size:=E_ S;go_wp2_with fail;go_loopg [12] h (λg s wr=>∃ i:Nat,i+g=h/\s=.int .i64 i/\Hid (A8e x.m.triangles x.edges x.v x.list e=A8e x.m.triangles x.edges x.v (x.list.drop i) e)/\Hid (Bw ac wr));case atStart=>exact⟨0,oM,rfl,(by rw[List.drop_zero]:_=_),Below.refl _ _⟩
 case round =>
  clear G Y;obtain⟨i,ai,rfl,O,H⟩:=hrel;have aa:=A_ (Below.next K H);rcases Nat.lt_or_ge i h with I|I
  ·have ay:(i:Int)<h:=oM
   have aO:(0:Int)<=i:=oM;obtain⟨g,rfl⟩:∃ g,gk=g+1:=⟨gk - 1,oM⟩
   have ax:=A_ (by omega:i+1+g=h);obtain⟨aI,aS,k,rfl,au,X,aN,aw⟩:=Sl.getInt (an.below aa) I;have ar:=A_ (am k (List.mem_of_getElem? X));have ab:=A_ (D8l (ts:=x.m.triangles) (es:=x.edges) (v:=x.v) (e:=e) X);have u:=A_ (K_ S H);obtain⟨ad,-⟩:=B_ u (j:=0) rfl;obtain⟨ae,-⟩:=B_ u (j:=1) rfl;obtain⟨af,-⟩:=B_ u (j:=2) rfl;obtain⟨ag,-⟩:=B_ u (j:=3) rfl;obtain⟨G,-⟩:=B_ u (j:=4) rfl;simp at ad ae af ag G;have Y:w.1.size<wr.1.size:=E_ u;clear ai I X;go_wp2_with fail;refine(B5f _ x _ k wr (aq.below aa) ar ap).mono ?_;rintro _ aX ⟨rfl,ah⟩;have Z:=A_ (Below.next H ah);clear ah ad ae af ag G Y aw au;by_cases D:((spT x.m.triangles x.edges x.v k).1:Int)=e
   ·have E:=A_ (by rw[O.o,ab.o,if_pos D]:A8e x.m.triangles x.edges x.v x.list e=k)
    have az:(((spT x.m.triangles x.edges x.v k).1:Int)==e)=true:=by simp[D]
    clear D;go_wp2;go_ret;exact⟨by rw[E.o];rfl,Below.next K Z⟩
   have E:=A_ (by rw[O.o,ab.o,if_neg D]:A8e x.m.triangles x.edges x.v x.list e=A8e x.m.triangles x.edges x.v (x.list.drop (i+1)) e);have az:(((spT x.m.triangles x.edges x.v k).1:Int)==e)=false:=by simp[D]
   clear D;go_wp2_with fail;go_roundg g;case measure=>omega
   case rel=>exact⟨i+1,ax,gN,E,Z⟩
  obtain rfl:h=i:=oM;have ay:¬ ((h:Int)<h):=oM;have E:=A_ (by rw[O.o,List.drop_of_length_le (by rw[ao.o];exact Nat.le_refl _)];rfl:A8e x.m.triangles x.edges x.v x.list e = -1);clear ai I;go_wp2;go_ret;exact⟨by rw[E.o];rfl,Below.next K H⟩
theorem D2f (val:Value) (x:TAround) (b:List Nat) (k:Int) (w:World) (T:Agg w val x b) (O:D5b x.m.triangles x.edges x.v k=true) (ag:x.edges.length<=144) :
  Calls prog 211 #[val,.int .i64 k] w (A0b w (.bool (B8j x.m.triangles x.edges x.v k))):=by
 have am:=A_ T;have ak:=A_ O;have al:=A_ ag;obtain⟨az,aL,aE,aO,aA,n1,aF,aP,aB,n2,aG,aQ,aC,aM,aH,aR,rfl,rfl,aq,ar,S,ax,au⟩:=TAround.agg T;have aj:=A_ S;obtain⟨f,G⟩:∃ f,(spT x.m.triangles x.edges x.v k).1=f:=⟨_,rfl⟩
 have ap:f<n2:=by obtain⟨i,t,_,_,_,_,J,_,aw⟩:=B8p O;rw[aw]at G;rw[<-S.1,<-G];unfold A6o at J;simp only[Bool.and_eq_true,decide_eq_true_eq]at J;exact J.1
 have aK:(f:Int)<n2:=oM;have aJ:(0:Int)<=f:=oM;have X:=A_ G;clear aq ar S au ax T O ag G;go_enter func211,ntmps211;go_upto_region 1 with fail;refine Code.new λZ I=>?_;have W:=A_ I.b;have h:=A_ I.k;clear I;obtain⟨aa,-⟩:=B_ h (j:=0) rfl;obtain⟨ab,-⟩:=B_ h (j:=1) rfl;obtain⟨E,-⟩:=B_ h (j:=2) rfl;obtain⟨ac,-⟩:=B_ h (j:=3) rfl;obtain⟨ad,-⟩:=B_ h (j:=4) rfl;simp at aa ab E ac ad;have ai:w.1.size<Z.1.size:=E_ h;go_wp2_with fail;refine(B5f _ x _ k Z (am.below W) ak al).mono ?_;rw[X.o];rintro _ ay ⟨rfl,K⟩;have Y:=A_ (K_ h K);have D:=A_ (Below.next W K);clear K aa ab E ac ad ai;obtain⟨E,-⟩:=B_ Y (j:=2) rfl;simp at E;have ai:w.1.size<ay.1.size:=E_ Y;obtain⟨aD,aN,y,an,aI,ah,aS,aT,aU,aV,ao⟩:=TEdge.elemA (aj.below D) ap;have H:=A_ (by unfold B8j;rw[X.o,show x.edges.getD f A4o=y from A0e ah]:B8j x.m.triangles x.edges x.v k=(decide (y.left<0) || decide (y.right<0)));subst an;clear ah ao;by_cases ae:y.left<0;·have u:=A_ (by simp[ae]:(decide (y.left<0) || decide (y.right<0))=true);go_wp2;go_ret;exact⟨by rw[H.o,u.o];simp,D.o⟩
 by_cases af:y.right<0;·have u:=A_ (by simp[af]:(decide (y.left<0) || decide (y.right<0))=true);go_wp2;go_ret;exact⟨by rw[H.o,u.o];simp,D.o⟩
 have u:=A_ (by simp[ae,af]:(decide (y.left<0) || decide (y.right<0))=false);go_wp2;go_ret;exact⟨by rw[H.o,u.o];simp,D.o⟩
end Go.Proofs.YtbhemnidcleaiaaGreat.X
