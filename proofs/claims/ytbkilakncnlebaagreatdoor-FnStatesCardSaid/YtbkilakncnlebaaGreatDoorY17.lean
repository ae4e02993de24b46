/- A part of the proof. -/
import Derived.Test.YtbkilakncnlebaaGreatDoorY16
import Derived.Test.YtbkilakncnlebaaGreatDoorY3
set_option linter.constructorNameAsVariable false
set_option maxHeartbeats 16000000
set_option maxRecDepth 10000
open Bool renaming false→AF,true→AD
open Go renaming Addr→AH,Calls→AR,Oper→BU,Program→DZ,TypeId→BS,Value→AJ,World→J,bodyPost_ret→BI,heap_alloc_new→CF,info_parts→DW,maxLen→BG,results→BO,wpList→FF
open Go.IntKind renaming i64→K
open Go.Obj renaming cells→AK
open Go.RowKit.Below renaming drew→LK,heap_setCell→DQ,refl→CG,setCell→OL
open Go.Value renaming agg→AM,bool→AC,int→QS,slice→S
open Go.XB.Below renaming box→AV,next→AI
open Go.XB.MP renaming agg→BP
open Go.XB.TPoint renaming agg→DN,open_→PR
open Go.XB.TRat renaming agg→BK
open List renaming dropLast→DJ,getD_eq_getElem?_getD→DY,getElem?_eq_getElem→CV,getElem?_eq_some_iff→CQ,getLast→DK,length→DI,mem_append→CO,mem_flatten→JN,mem_of_getElem?→CH,nodup_nil→PQ
open Nat renaming le_add_right→MG,le_refl→BH,le_succ→JU,le_trans→BM,lt_or_ge→BN,lt_succ_self→JG,min_eq_left→MM,one_mul→KE,zero_le→DV
open Option renaming none→I,some→B
open Option.some renaming inj→FR
namespace Go.Proofs.YtbkilakncnlebaaGreatDoor.X
open Go.RowKit Go.XB Go.XN Proofs.Tryz
def C4m (e:TEdge):Bool:=decide (e.left<0) || decide (e.right<0)
def B2v (n:Nat) (es:List TEdge):Nat->List Bool
 |0=>List.replicate n AF
 |k+1=>if C4m (es.getD k A4o)then((B2v n es k).set (es.getD k A4o).a.toNat AD).set (es.getD k A4o).b.toNat AD else B2v n es k
theorem B8z (n:Nat) (es:List TEdge):∀ k,(B2v n es k).length=n
 |0=>by simp[B2v]
 |k+1=>by rw[B2v];split<;>simp[B8z n es k]
def A3k (fs:List Bool) (bd:Bool):Nat->List Int
 |0=>[]
 |k+1=>if fs.getD k AF=bd then A3k fs bd k++[(k:Int)]else A3k fs bd k
def A3f (m:TMesh) (bd:Bool):List Int:=A3k (B2v m.1.length (P_ m.triangles) (P_ m.triangles).length) bd m.1.length
theorem B7x (fs:List Bool) (bd:Bool):∀ k,(A3k fs bd k).length<=k
 |0=>BH _
 |k+1=>by rw[A3k];have:=B7x fs bd k;split<;>simp<;>omega
def B8e (m:TMesh):Prop:=∀ e∈P_ m.triangles,(0<=e.a/\e.a<m.1.length)/\(0<=e.b/\e.b<m.1.length)
attribute [local go_sem] L_ Go.XB.opAt N_ M_ Region.wanted yielded
attribute [local simp] N_ M_ MP.eq MP.agg MP.sl MP.slbox A0r
theorem B6y (v:AJ) (m:TMesh) (b:List Nat) (u:Bool) (w:J) (aw:Agg w v m b) (aL:m.1.length<=40) (aM:m.triangles.length<=48) (aP:B8e m) :
  AR prog 181 #[v,AC u] w (A0w w (A3f m u)):=by
 have be:=A_ aw;have a5:=A_ aM;obtain⟨ai,h,am,b4,aj,n1,an,b5,rfl,rfl,ah,bs⟩:=TMesh.agg aw;have ba:=A_ ah.1;have bW:h<=40:=by rw[<-ah.1];exact aL
 have bV:(h:Int)<=40:=oS;have aF:=A_ (by rw[<-ah.1];exact aP:∀ e∈P_ m.triangles,(0<=e.a/\e.a<h)/\(0<=e.b/\e.b<h));have aU:(P_ m.triangles).length<=144:=by unfold P_;have:=A5z m.triangles m.triangles.length;omega
 obtain⟨aX,bq,bu,bv,bz⟩:=DW D1p;obtain⟨bA,bh,bi,bj,bl⟩:=DW A6b;have b2:=A_ (by rw[bz];omega:aX.bytes*h<=281474976710656);have bf:=A_ (by unfold BG;omega:h<=BG);obtain⟨D,ac⟩:∃ D,P_ m.triangles=D:=⟨_,rfl⟩
 have a9:=A_ ac;rw[ac]at aF aU;have a4:=A_ (by unfold A3f;rw[ac,ba.o]:A3f m u=A3k (B2v h D D.length) u h);clear ah bs aw aL aM aP ac;go_enter func181,ntmps181;go_upto_region 1 with fail;have bt:w.1.size<=(w.alloc (AK #[S ai h am,S aj n1 an] 26)).1.size:=sI;go_upto_region 2 with(at_make;(refine wpList_make_full _ rfl _ _ 172 rfl w.1.size 4 aX (AC AF) 1 underlying172 bq bu bv .i64 .i64 _ _ h rfl rfl rfl rfl b2 bf bt ?_);intro X ag aQ)
 rw[B6q]at ag;rw[World.size_alloc]at ag;have aa:=(CG (w.1.size+1) (w.alloc (AK #[S ai h am,S aj n1 an] 26))).grown aQ sI (by intro k ae;cases ae);have ay:=A_ (show BRow X w.1.size (w.1.size+1) h (B2v h D 0)from ag);have aD:=A_ (show Bw w X from(AV _).trans (aa.mono oS));have bB:X.cell? ⟨w.1.size,0,I⟩=B (S ai h am):=(aa.cell (p:=⟨w.1.size,0,I⟩) (JG _)).trans oD;have k1:X.cell? ⟨w.1.size,1,I⟩=B (S aj n1 an):=(aa.cell (p:=⟨w.1.size,1,I⟩) (JG _)).trans oD;have b0:w.1.size+1<X.1.size:=ay.lt;clear ag aQ aa;go_wp2_with fail;refine(A7q _ m _ X (be.below aD) a5).mono ?_;rintro _ ca ⟨a3,T,bg,aK,rfl,ab,aV,ao⟩;rw[a9.o]at ab;have G:=A_ ab;have bc:=A_ ab.1;have bX:T<=144:=by rw[<-ab.1];exact aU
 have bY:(T:Int)<=144:=oS;have a8:=A_ (show w.1.size+1∉aK from λZ=>by have:=(aV.2 _ Z).1;omega);have a6:=A_ (AI aD ao);have az:=A_ (ay.below ao);clear ab aV ao bB k1;go_wp2_with fail;go_loopg [18] T (λg s wr=>∃ k:Nat,k+g=T/\s=QS K k/\Hid (BRow wr w.1.size (w.1.size+1) h (B2v h D k))/\Hid (Sl wr a3 T bg D aK)/\Bw w wr);case atStart=>exact⟨0,oS,rfl,az.o,G.o,a6.o⟩
 case round =>
  clear az G;obtain⟨k,ae,rfl,O,G,hb⟩:=hrel;have ak:=A_ hb;have bU:=O.lt;rcases BN k T with af|af
  ·have bS:(k:Int)<T:=oS
   have bT:(0:Int)<=k:=oS;obtain⟨g,rfl⟩:∃ g,gk=g+1:=⟨gk - 1,oS⟩
   have au:=A_ (by omega:k+1+g=T);obtain⟨bF,b3,x,rfl,bO,ax,bG,bH,bI,bJ,bn⟩:=TEdge.elemA G af;obtain⟨⟨bL,bM⟩,⟨bN,aa⟩⟩:=aF x (CH ax);have aB:=A_ (show D.getD k A4o=x from A0e ax);clear ae af ax bn hb;by_cases W:C4m x=AD
   ·have H:=A_ (by rw[B2v,aB.o,if_pos W]:B2v h D (k+1)=((B2v h D k).set x.a.toNat AD).set x.b.toNat AD)
    obtain⟨b6,b8⟩:=O.cell (j:=x.a.toNat) (f:=(B2v h D k).getD x.a.toNat AF) (by rw[DY,CV (by rw[B8z];omega)];rfl);obtain⟨b7,b9⟩:=(O.set x.a.toNat AD).cell (j:=x.b.toNat) (f:=((B2v h D k).set x.a.toNat AD).getD x.b.toNat AF) (by rw[DY,CV (by simp[B8z];omega)];rfl);have aA:=A_ (by rw[H.o];exact(O.set _ _).set _ _:BRow ((wr.setCell ⟨w.1.size+1,x.a.toNat,I⟩ (AC AD)).setCell ⟨w.1.size+1,x.b.toNat,I⟩ (AC AD)) w.1.size (w.1.size+1) h (B2v h D (k+1)));have aI:=A_ (G.keep (w':=(wr.setCell ⟨w.1.size+1,x.a.toNat,I⟩ (AC AD)).setCell ⟨w.1.size+1,x.b.toNat,I⟩ (AC AD)) (λb hb=>by have aO:b≠w.1.size+1:=λe=>a8.o (e ▸ hb);exact(DQ _ _ _ b (by simpa using aO)).trans (DQ _ _ _ b (by simpa using aO))));have aE:=A_ (show Bw w ((wr.setCell ⟨w.1.size+1,x.a.toNat,I⟩ (AC AD)).setCell ⟨w.1.size+1,x.b.toNat,I⟩ (AC AD))from(ak.setCell (p:=⟨w.1.size+1,x.a.toNat,I⟩) (JU _) _).setCell (p:=⟨w.1.size+1,x.b.toNat,I⟩) (JU _) _);clear O;rcases Int.lt_or_le x.left 0 with aN|aN
    ·clear G
     go_wp2_with fail;go_region_held3 (λw'=>w'.cell? ⟨wr.1.size,0,I⟩=B (QS K x.a)/\w'.cell? ⟨wr.1.size,1,I⟩=B (QS K x.b)) (constructor<;>(go_simp;done)) (fail);all_goals go_wp2_with fail
     go_roundg g;case measure=>omega
     case rel=>exact⟨k+1,au,gN,aA.below (LK (AV _)),aI.below (LK (AV _)),AI aE (LK (AV _))⟩
    have bm:x.right<0:=by unfold C4m at W;simp at W;omega
    have bK:¬ (x.left<0):=oS;clear G;go_wp2_with fail;go_region_held3 (λw'=>w'.cell? ⟨wr.1.size,0,I⟩=B (QS K x.a)/\w'.cell? ⟨wr.1.size,1,I⟩=B (QS K x.b)) (constructor<;>(go_simp;done)) (fail);all_goals go_wp2_with fail
    go_roundg g;case measure=>omega
    case rel=>exact⟨k+1,au,gN,aA.below (LK (AV _)),aI.below (LK (AV _)),AI aE (LK (AV _))⟩
   have H:=A_ (by rw[B2v,aB.o,if_neg W]:B2v h D (k+1)=B2v h D k);have aN:¬ (x.left<0):=by intro Z;apply W;unfold C4m;simp[Z]
   have bm:¬ (x.right<0):=by intro Z;apply W;unfold C4m;simp[Z]
   clear W;go_wp2_with fail;go_roundg g;case measure=>omega
   case rel=>exact⟨k+1,au.o,gN,(by rw[H.o];exact O.below (AV _):BRow _ w.1.size (w.1.size+1) h (B2v h D (k+1))),G.below (AV _),AI ak (AV _)⟩
  obtain rfl:k=T:=oS;have aT:¬ ((k:Int)<k):=oS;rw[<-bc.o]at O;have al:=A_ O.o;generalize aq:B2v h D D.length=E at *;have bE:=A_ aq;have bQ:E.length=h:=by rw[<-aq,B8z]
  clear ae af G O aq;go_wp2_with fail;have aH:=A_ (Pend.start (α:=Int) (e:=3) ak);have al:=al;go_loopg [8,42] h (λg s8 s w4=>∃ (i gB cap:Nat),i+g=h/\s=QS K i/\s8=S (B ⟨gB,0,I⟩) (A3k E u i).length cap/\Hid (Pend w wr 3 w4 gB (A3k E u i).length cap (A3k E u i)));case atStart=>exact⟨0,wr.1.size,0,oS,rfl,rfl,aH.o⟩
  case round =>
   clear aH;obtain⟨i,gB,cap,aS,rfl,rfl,Y⟩:=hrel;have a7:=A_ Y.bb;rename J=>w4;have aZ:=A_ (al.below a7);rcases BN i h with ar|ar
   ·have aT:(i:Int)<h:=oS
    have bR:(0:Int)<=i:=oS;obtain⟨g,rfl⟩:∃ g,gk=g+1:=⟨gk - 1,oS⟩
    have aR:=A_ (by omega:i+1+g=h);have bZ:=B7x E u i;have a1:=A_ (by unfold BG;omega:(A3k E u i).length+1<=BG);have a2:=A_ (by omega:((A3k E u i).length+1)*8<=140737488355328);obtain⟨f,ap⟩:∃ f,E[i]?=B f:=⟨_,CV oS⟩
    have bP:=(aZ.cell ap).1;have aC:=A_ (A0e (d:=AF) ap);clear aS ar ap;by_cases ad:f=u
    ·have H:=A_ (by rw[A3k,aC.o,if_pos ad]:A3k E u (i+1)=A3k E u i++[(i:Int)])
     have aG:=A_ (by rw[H.o];simp:(A3k E u (i+1)).length=(A3k E u i).length+1);subst ad;have bo:(f==f)=AD:=sI;have aY:=A_ (show Dat.at_ (α:=Int) (w4.alloc (AK #[QS K i] 3)) [QS K i] (i:Int) []from⟨rfl,rfl,by constructor<;>omega⟩);go_wp2_with (at_builtin;refine A1v rfl _ _ 31 rfl 3 bA (QS K 0) 8 underlying31 bh bi bj bl rfl Y (AV _) gD ⟨w4.1.size,0,I⟩ 1 [QS K i] (i:Int) [] gD (A0a (CF w4 _)) aY.o ⟨PQ,λb hb=>by simp at hb⟩ (λb hb=>by simp at hb) a1.o a2.o ?_;intro g' aJ bD aW bp br);have bd:=A_ (by rw[aG.o,H.o];exact aW:Pend w wr 3 bD g' (A3k E f (i+1)).length aJ (A3k E f (i+1)));clear aW bp br Y;go_wp2_with fail;go_roundg g;case measure=>omega
     case rel=>exact⟨i+1,g',aJ,aR.o,gN,by rw[aG.o],bd⟩
    have H:=A_ (by rw[A3k,aC.o,if_neg ad]:A3k E u (i+1)=A3k E u i);have bo:(f==u)=AF:=by simp[ad]
    go_wp2_with fail;go_roundg g;case measure=>omega
    case rel=>exact⟨i+1,gB,cap,aR.o,gN,by rw[H.o],by rw[H.o];exact Y⟩
   obtain rfl:i=h:=oS;have aT:¬ ((i:Int)<i):=oS;clear aS ar;go_wp2;go_ret;rw[a4.o];exact Y.done

theorem A3g {w:J} {g i:Nat} {cs:Array AJ} {t:BS} {v:AJ} (h:w.1[g]?=B (AK cs t)):(w.setCell ⟨g,i,I⟩ v).1[g]?=B (AK (cs.setIfInBounds i v) t):=by
 unfold World.setCell;simp[Array.getElem?_modify,h]
theorem D1j {w wa:J} {g L:Nat} {u0 u1 u2:AJ} {t:BS} (v0 v1 v2:AJ) (h:wa.1[g]?=B (AK #[u0,u1,u2] t)) (hw:Below L w wa) (hg:L<=g) :
  ∃ X,((wa.setCell ⟨g,0,I⟩ v0).setCell ⟨g,1,I⟩ v1).setCell ⟨g,2,I⟩ v2=X/\X.1[g]?=B (AK #[v0,v1,v2] t)/\(∀ b,b≠g->X.1[b]?=wa.1[b]?)/\Below L w X/\X.1.size=wa.1.size :=
 ⟨_,rfl,A3g (A3g (A3g h)),λb hb=>A0m g [v0,v1,v2] wa 0 b hb,((hw.setCell (p:=⟨g,0,I⟩) hg _).setCell (p:=⟨g,1,I⟩) hg _).setCell (p:=⟨g,2,I⟩) hg _,A7d g [v0,v1,v2] wa 0⟩
theorem D6m {w wa:J} {g L:Nat} {u0 u1 u2 u3 u4 u5:AJ} {t:BS} (v0 v1 v2 v3 v4 v5:AJ) (h:wa.1[g]?=B (AK #[u0,u1,u2,u3,u4,u5] t)) (hw:Below L w wa) (hg:L<=g) :
  ∃ X,(((((wa.setCell ⟨g,0,I⟩ v0).setCell ⟨g,1,I⟩ v1).setCell ⟨g,2,I⟩ v2).setCell ⟨g,3,I⟩ v3).setCell ⟨g,4,I⟩ v4).setCell ⟨g,5,I⟩ v5=X/\X.1[g]?=B (AK #[v0,v1,v2,v3,v4,v5] t)/\(∀ b,b≠g->X.1[b]?=wa.1[b]?)/\Below L w X/\X.1.size=wa.1.size :=
 ⟨_,rfl,A3g (A3g (A3g (A3g (A3g (A3g h))))),λb hb=>A0m g [v0,v1,v2,v3,v4,v5] wa 0 b hb,(((((hw.setCell (p:=⟨g,0,I⟩) hg _).setCell (p:=⟨g,1,I⟩) hg _).setCell (p:=⟨g,2,I⟩) hg _).setCell (p:=⟨g,3,I⟩) hg _).setCell (p:=⟨g,4,I⟩) hg _).setCell (p:=⟨g,5,I⟩) hg _,A7d g [v0,v1,v2,v3,v4,v5] wa 0⟩
end Go.Proofs.YtbkilakncnlebaaGreatDoor.X

namespace Go.XB
open Go.RowKit
def MP.slrow (n:Nat) (cs:Array AJ) (t:BS):MP:=⟨λv bs w=>∃ g,v=S (B ⟨g,0,I⟩) n n/\bs=[g]/\w.1[g]?=B (AK cs t),λv bs w w' hb h=>by
 obtain⟨g,e,hz,hg⟩:=h;exact⟨g,e,hz,(hb.block g (E_ hg)).trans hg⟩⟩
def D7w {α:Type} [Dat α] (w:J) (x:α) (b:List Nat) (e:Ending) (w':J):Prop:=∃ u s,e=.returned u/\Agg w' u x s/\(∀ g∈s,g∈b)/\Bw w w'
def MP.aggB {α:Type} [Dat α] (x:α) (b:List Nat):MP:=⟨λv bs w=>bs=[]/\∃ s,Agg w v x s/\∀ g∈s,g∈b,λ_ _ _ _ hb h=>by
 obtain⟨h0,s,h,hs⟩:=h;exact⟨h0,s,h.below hb,hs⟩⟩
theorem C4k {α:Type} [Dat α] {P:DZ} {f:FuncId} {args:Array AJ} {w:J} {x:α} {b:List Nat} (h:AR P f args w (D7w w x b)) :
  AR P f args w λe w'=>∃ u,e=.returned u/\Bw w w'/\∃ bs,(MP.aggB x b).p u bs w'/\∀ b∈bs,w.1.size<=b/\b<w'.1.size :=
 h.mono λ_ _ ⟨v,s,he,ha,hs,hb⟩=>⟨v,he,hb,[],⟨rfl,s,ha,hs⟩,λb hb=>by simp at hb⟩
end Go.XB
namespace Go.Proofs.YtbkilakncnlebaaGreatDoor.X
open Go.RowKit Go.XB Go.XN
section
theorem TRat.elemB {w:J} {A:Option AH} {n c:Nat} {xs:List TRat} {bs:List Nat} (h:Sl w A n c xs bs) {k:Nat} (O:k<n) :
  ∃ (b off:Nat) (x:TRat) (A1:Option AH) (n1 c1:Nat) (A2:Option AH) (n2 c2:Nat) (s:List Nat),A=B ⟨b,off,I⟩/\b<w.1.size/\xs[k]?=B x/\w.cell? ⟨b,off+k*3,I⟩=B (AC x.1.1)/\w.cell? ⟨b,off+k*3+1,I⟩=B (S A1 n1 c1)/\w.cell? ⟨b,off+k*3+2,I⟩=B (S A2 n2 c2)/\Agg w (AM #[AC x.1.1,S A1 n1 c1,S A2 n2 c2]) x s/\∀ g∈s,g∈bs:=by
 obtain⟨b,off,x,W,X,E,G,T,u,D,H⟩:=Sl.getAt h O;obtain⟨A1,n1,c1,Y,A2,n2,c2,Z,rfl,rfl,aa,ab⟩:=TRat.open_ D;exact⟨b,off,x,_,_,_,_,_,_,_,E,G,T,u 0 _ rfl,u 1 _ rfl,u 2 _ rfl,⟨_,rfl,D⟩,H⟩
theorem TPoint.elemB {w:J} {A:Option AH} {n c:Nat} {xs:List TPoint} {bs:List Nat} (h:Sl w A n c xs bs) {k:Nat} (O:k<n) :
  ∃ (b off:Nat) (x:TPoint) (A1:Option AH) (n1 c1:Nat) (A2:Option AH) (n2 c2:Nat) (A4:Option AH) (n4 c4:Nat) (A5:Option AH) (n5 c5:Nat) (s:List Nat),A=B ⟨b,off,I⟩/\b<w.1.size/\xs[k]?=B x/\w.cell? ⟨b,off+k*6,I⟩=B (AC x.x.1.1)/\w.cell? ⟨b,off+k*6+1,I⟩=B (S A1 n1 c1)/\w.cell? ⟨b,off+k*6+2,I⟩=B (S A2 n2 c2)/\w.cell? ⟨b,off+k*6+3,I⟩=B (AC x.y.1.1)/\w.cell? ⟨b,off+k*6+4,I⟩=B (S A4 n4 c4)/\w.cell? ⟨b,off+k*6+5,I⟩=B (S A5 n5 c5)/\Agg w (AM #[AC x.x.1.1,S A1 n1 c1,S A2 n2 c2,AC x.y.1.1,S A4 n4 c4,S A5 n5 c5]) x s/\∀ g∈s,g∈bs:=by
 obtain⟨b,off,x,W,X,E,G,T,u,D,H⟩:=Sl.getAt h O;obtain⟨A1,n1,c1,Y,A2,n2,c2,Z,A4,n4,c4,aa,A5,n5,c5,ab,rfl,rfl,ac,ad,ae,af⟩:=PR D;exact⟨b,off,x,_,_,_,_,_,_,_,_,_,_,_,_,_,E,G,T,u 0 _ rfl,u 1 _ rfl,u 2 _ rfl,u 3 _ rfl,u 4 _ rfl,u 5 _ rfl,⟨_,rfl,D⟩,H⟩
section
variable {α:Type} [Dat α]
def PendS (w wb:J) (e:BS) (wr:J) (gB i cap:Nat) (ps:List α):Prop :=
 ∃ cells fss,wr.ownsRow wb.1.size e (Dat.sz α) (S (B ⟨gB,0,I⟩) i cap) i cells/\Filled wr cells ps fss/\ps.length=i/\gB∉fss.flatten/\w.1.size<=wb.1.size/\Bw w wr/\Bw wb wr
variable {w wb wr wa:J} {e:BS} {gB i cap:Nat} {ps:List α}
theorem PendS.start (hw:Bw w wb):PendS (α:=α) w wb e (wb.alloc (AK #[] e)) wb.1.size 0 0 [] :=
 ⟨[],[],World.ownsRow_made wb #[] 0 (BH _) (DV _) sI,Filled.nil _ _,rfl,sI,hw.size,AI hw (AV _),AV _⟩
theorem PendS.bw (h:PendS w wb e wr gB i cap ps):Bw w wr:=by obtain⟨_,_,_,_,_,_,_,h,_⟩:=h;exact h
theorem PendS.bb (h:PendS w wb e wr gB i cap ps):Bw wb wr:=by obtain⟨_,_,_,_,_,_,_,_,h⟩:=h;exact h
theorem PendS.lt (h:PendS w wb e wr gB i cap ps):wb.1.size<=gB/\gB<wr.1.size:=by
 obtain⟨cells,fss,b,_⟩:=h;exact World.ownsRow.lt b _ rfl
theorem PendS.sl (h:PendS w wb e wr gB i cap ps):∃ bs,Sl wr (B ⟨gB,0,I⟩) i cap ps bs:=by
 obtain⟨cells,fss,u,D,E,T,W,X,Y⟩:=h;obtain⟨O,c',b,H,G,Z⟩:=D.sl (α:=α) u E;injection H with e1 e2 e3;subst e1;subst e3;exact⟨b,G⟩
end
end
end Go.Proofs.YtbkilakncnlebaaGreatDoor.X
namespace Go
open Go.RowKit Go.XB Go.Proofs.YtbkilakncnlebaaGreatDoor.X
theorem D2w {P:DZ} {α:Type} [Dat α] {w wb wr wa:J} {gB k cap:Nat} {ps:List α} {an:Array BU} {rest:List BU} {o:BU} {a:Act} {Q:Exit->Act->J->Prop} (au:o.guard=I) (s x:Operand) (t:BS)
  (ax:o.op=.call { callee:=.builtin .append,args:=#[s,x],argTypes:=#[t,t] })
  (e:BS) (i:TypeInfo) (z:AJ) (Y:Nat) (aC:P.underlying t=B (.slice e)) (hi:P.info? e=B i) (aE:i.zero=B z)
  (aB:i.size=Dat.sz α) (aq:i.bytes=Y) (aF:z.cells.size=Dat.sz α) (az:PendS w wb e wr gB k cap ps) (H:Bw wr wa) (aA:a.eval s=S (B ⟨gB,0,I⟩) k cap)
  (X:AH) (c:Nat) (cs:List AJ) (ao:α) (T:List Nat) (aD:a.eval x=S (B X) 1 c) (aw:∀ j u,cs[j]?=B u->wa.cell? (X.add j)=B u)
  (W:Dat.at_ wa cs ao T) (ak:gB∉T) (ap:k+1<=BG) (ar:(k+1)*Y<=140737488355328)
  (h:∀ g' cap' w8,PendS w wb e w8 g' (k+1) cap' (ps++[ao])->wa.grownBy w8 (B gB)->(g'=gB\/g'=wa.1.size)->FF P an Q rest (a.put o.dst (S (B ⟨g',0,I⟩) (k+1) cap')) w8):FF P an Q (o::rest) a wa:=by
 obtain⟨cells,fss,Z,ae,af,ag,ah,ai,aa⟩:=az;have aj:=World.ownsRow.lt Z _ rfl;have aG:=H.size;have al:wb.1.size<=wa.1.size:=by have:=aa.size;omega
 refine A1m au s x t ax wb.1.size e i z (Dat.sz α) Y aC hi aE aB aq aF Dat.pos gB k cap cells aA (I_ Z H) X 1 c cs aD (by rw[KE];exact Dat.len W) aw (Dat.one W) ap ar al ?_;intro g' cap' w8 ay O ad;refine h g' cap' w8 ?_ O ad;have ab:∀ b∈fss.flatten,b<wr.1.size:=ae.lt;have k1:∀ b∈fss.flatten,w8.1[b]?=wr.1[b]?:=λb E=>(O.block b (by have:=ab b E;omega) (by intro e;injection e with e;exact ag (e ▸ E))).trans (H.block b (ab b E));have am:∀ b∈T,b<wa.1.size:=Dat.lt W;have k2:∀ b∈T,w8.1[b]?=wa.1[b]?:=λb E=>O.block b (am b E) (by intro e;injection e with e;exact ak (e ▸ E));refine⟨_,fss++[T],ay,Filled.push (ae.keep k1) (by rw[Z.1,af]) (Dat.keep W k2),by simp[af],?_,ah,?_,(aa.trans (H.mono aa.size)).grown O al (λk2 ac=>by injection ac with h;subst h;exact aj.1)⟩
 ·rw[List.flatten_append]
  intro D;rcases CO.1 D with D|D
  ·rcases ad with G|G
   ·exact ag (G ▸ D)
   have:=ab _ D;omega
  simp at D;rcases ad with G|G
  ·exact ak (G ▸ D)
  have:=am _ D;omega
 exact(AI ai H).grown O (by have:=ai.size;omega) (λk2 ac=>by injection ac with h;subst h;exact BM ah aj.1)
end Go
namespace Go.Proofs.YtbkilakncnlebaaGreatDoor.X
open Go.RowKit Go.XB Go.XN Proofs.Tryz
attribute [local go_sem] L_ Go.XB.opAt N_ M_ Region.wanted yielded
attribute [local simp] N_ M_ MP.eq MP.agg MP.sl A0r
theorem C3p (v:AJ) (p:TProblem) (b:List Nat) (k:Nat) (t:TTri) (w:J) (H:Agg w v p b) (E:p.1.triangles[k]?=B t) (X:p.2.length=3) (aq:0<=t.4/\t.4<3) :
  AR prog 137 #[v,QS K k] w (D7w w (p.2.getD t.4.toNat A0h) b):=by
 have aE:=A_ H;obtain⟨aA,aY,aF,a3,aB,n1,aG,a4,aC,n2,aH,a5,aD,aZ,c3,a6,rfl,rfl,aw,h,G,ax⟩:=TProblem.agg H;have ao:k<n1:=by rw[<-h.1];exact(CQ.1 E).1
 have ap:n1<=BG:=BM h.2.1 h.2.2.1;unfold BG at ap;obtain rfl:3=n2:=by rw[<-G.1];exact X.symm
 obtain⟨ar,au⟩:=aq;obtain⟨af,a1,x,rfl,aQ,O,aI,aJ,aK,ak,aL,_⟩:=TTri.elemA h ao;obtain rfl:x=t:=by rw[E]at O;exact(FR O).symm
 obtain⟨j,D⟩:∃ j:Nat,x.4=j:=⟨x.4.toNat,oS⟩
 have an:j<3:=oS;have aV:(k:Int)<n1:=oS;obtain⟨ag,a2,y,aa,ay,ah,ab,az,ai,aj,rfl,aR,Z,aM,aN,aO,T,Y⟩:=TRat.elemB G an;have ac:=A_ (by rw[D];exact A0e Z:p.2.getD x.4.toNat A0h=y);have ad:=A_ T;have ae:=A_ Y;have aP:af<w.1.size+1+1:=oS;have aT:ag<w.1.size+1+1:=oS;rw[D]at ak ar au;clear aw h G ax H E X O Z T Y D;go_enter func137,ntmps137;go_wp2_with fail;refine X_ sI ?_;dsimp only[DJ,DK,DI];iterate 11 refine C_ _ ?_
 intro a7 a8 wa u W al;clear al;simp at W;go_simp;obtain⟨aS,aU⟩:=F_ u;have aW:w.1.size<wa.1.size:=ltg u;have aX:w.1.size+1<wa.1.size:=ltg u;clear W;go_wp2;refine BI (v:=AM #[AC y.1.1,S aa ay ah,S ab az ai]) (by simp[BO,results137,go_sem, *]) rfl ?_;refine⟨_,aj,rfl,?_,λg am=>by have:=ae g am;simp[this],Below.go⟩;rw[ac.o];exact ad.below Below.go
theorem D3f (v:AJ) (p:TProblem) (b:List Nat) (k:Nat) (t:TTri) (w:J) (H:Agg w v p b) (E:p.1.triangles[k]?=B t) (X:p.3.length=3) (aq:0<=t.4/\t.4<3) :
  AR prog 132 #[v,QS K k] w (D7w w (p.3.getD t.4.toNat A0h) b):=by
 have aF:=A_ H;obtain⟨aB,aZ,aG,a3,aC,n1,aH,a4,aD,n2,aI,a5,aE,ay,c3,a6,rfl,rfl,aw,h,ax,G⟩:=TProblem.agg H;have ao:k<n1:=by rw[<-h.1];exact(CQ.1 E).1
 have ap:n1<=BG:=BM h.2.1 h.2.2.1;unfold BG at ap;obtain rfl:3=ay:=by rw[<-G.1];exact X.symm
 obtain⟨ar,au⟩:=aq;obtain⟨af,a1,x,rfl,aR,O,aJ,aK,aL,ak,aM,_⟩:=TTri.elemA h ao;obtain rfl:x=t:=by rw[E]at O;exact(FR O).symm
 obtain⟨j,D⟩:∃ j:Nat,x.4=j:=⟨x.4.toNat,oS⟩
 have an:j<3:=oS;have aW:(k:Int)<n1:=oS;obtain⟨ag,a2,y,aa,az,ah,ab,aA,ai,aj,rfl,aS,Z,aN,aO,aP,T,Y⟩:=TRat.elemB G an;have ac:=A_ (by rw[D];exact A0e Z:p.3.getD x.4.toNat A0h=y);have ad:=A_ T;have ae:=A_ Y;have aQ:af<w.1.size+1+1:=oS;have aU:ag<w.1.size+1+1:=oS;rw[D]at ak ar au;clear aw h ax G H E X O Z T Y D;go_enter func132,ntmps132;go_wp2_with fail;refine X_ sI ?_;dsimp only[DJ,DK,DI];iterate 11 refine C_ _ ?_
 intro a7 a8 wa u W al;clear al;simp at W;go_simp;obtain⟨aT,aV⟩:=F_ u;have aX:w.1.size<wa.1.size:=ltg u;have aY:w.1.size+1<wa.1.size:=ltg u;clear W;go_wp2;refine BI (v:=AM #[AC y.1.1,S aa az ah,S ab aA ai]) (by simp[BO,results132,go_sem, *]) rfl ?_;refine⟨_,aj,rfl,?_,λg am=>by have:=ae g am;simp[this],Below.go⟩;rw[ac.o];exact ad.below Below.go
end Go.Proofs.YtbkilakncnlebaaGreatDoor.X

namespace Go.XB
open Go.RowKit
theorem D5k {G:J} {g:Nat} {t:BS} {a b c:Int} (O:I64 a) (T:I64 b) (W:I64 c) (h:G.1[g]?=B (AK #[QS K a,QS K b,QS K c] t)):Sl G (B ⟨g,0,I⟩) 3 3 [a,b,c] [g]:=by
 refine⟨rfl,BH _,dE,λh=>absurd h dE,λ_=>⟨g,0,[[],[],[]],rfl,sI,rfl,E_ h,λk x X E D=>?_⟩⟩;match k,E,D with
 |0,E,D =>
  simp at E D;subst E;subst D
  refine⟨[QS K a],λj H u=>?_,rfl,rfl,O⟩
  match j,u with
  |0,u=>simp at u;subst u;exact(B_ h (j:=0) rfl).1
 |1,E,D =>
  simp at E D;subst E;subst D
  refine⟨[QS K b],λj H u=>?_,rfl,rfl,T⟩
  match j,u with
  |0,u=>simp at u;subst u;exact(B_ h (j:=1) rfl).1
 |2,E,D =>
  simp at E D;subst E;subst D
  refine⟨[QS K c],λj H u=>?_,rfl,rfl,W⟩
  match j,u with
  |0,u=>simp at u;subst u;exact(B_ h (j:=2) rfl).1
end Go.XB
namespace Go.Proofs.YtbkilakncnlebaaGreatDoor.X
open Go.RowKit Go.XB Go.XN Proofs.Tryz
attribute [local go_sem] L_ Go.XB.opAt N_ M_ Region.wanted yielded
attribute [local simp] N_ M_ MP.eq MP.agg MP.sl A0r
theorem C2s (A:Option AH) (n c:Nat) (xs:List Int) (bs:List Nat) (v:Int) (i:Nat) (w:J) (b:Sl w A n c xs bs) (hi:xs[i]?=B v) (G:∀ (j:Nat) (y:Int),j<i->xs[j]?=B y->y≠v) :
  AR prog 290 #[S A n c,QS K v] w (A0b w (QS K i)):=by
 have Y:=A_ b;have X:=A_ hi;have W:=A_ G;have ac:n<=BG:=BM b.2.1 b.2.2.1;have ah:i<n:=by rw[<-b.1];exact(CQ.1 hi).1
 unfold BG at ac;clear b hi G;go_enter func290,ntmps290;go_wp2_with fail;go_loopg [8] n (λg s8 wr=>∃ k:Nat,k+g=n/\s8=QS K k/\k<=i/\Bw w wr);case atStart=>exact⟨0,oS,rfl,DV _,CG _ _⟩
 case round =>
  obtain⟨k,H,rfl,O,h⟩:=hrel;have u:k<n:=oS;obtain⟨ad,al,x,rfl,af,D,ae,ag⟩:=Sl.getInt (Sl.below Y h) u;have E:=A_ D;have ai:(k:Int)<n:=oS;obtain⟨g,rfl⟩:∃ g,gk=g+1:=⟨gk - 1,oS⟩
  have aa:=A_ (by omega:k+1+g=n);have aj:k+1<=n:=oS;rcases BN k i with T|Z
  ·have ak:(v==x)=AF:=by simp;exact λe=>W k x T E e.symm
   have ab:=A_ (by omega:k+1<=i);clear D H u O T;go_wp2_with fail;go_roundg g;case measure=>omega
   case rel=>exact⟨k+1,aa,gN,ab,h⟩
  obtain rfl:i=k:=oS;obtain rfl:v=x:=by have:=X.o;rw[E.o]at this;exact(FR this).symm
  clear D H u O Z;go_wp2;go_ret;exact⟨rfl,h⟩
theorem C4r {t:TTri} {p:Int} (h:B6x t p=AD):(∃ i:Nat,i<3/\[t.a,t.b,t.c][i]?=B p/\(∀ (j:Nat) (y:Int),j<i->[t.a,t.b,t.c][j]?=B y->y≠p)/\A3h t p=(C8d t.a t.b t.c ((i+1) % 3),C8d t.a t.b t.c ((i+2) % 3))):=by
 unfold B6x at h;simp only[Bool.or_eq_true,beq_iff_eq]at h;by_cases u:t.a=p;·exact⟨0,oS,by simp[u],λj y E=>absurd E oS,by unfold A3h;rw[if_pos u];rfl⟩
 by_cases D:t.b=p;·refine⟨1,oS,by simp[D],λj y E b=>?_,by unfold A3h;rw[if_neg u,if_pos D];rfl⟩;obtain rfl:j=0:=oS;simp at b;subst b;exact u
 refine⟨2,oS,by rcases h with h|h|h<;>simp_all,λj y E b=>?_,by unfold A3h;rw[if_neg u,if_neg D];rfl⟩;obtain rfl|rfl:j=0\/j=1:=oS
 ·simp at b;subst b;exact u
 simp at b;subst b;exact D
theorem B5z (v:AJ) (t:TTri) (b:List Nat) (p:Int) (w:J) (X:Agg w v t b) (hh:B6x t p=AD) :
  AR prog 244 #[v,QS K p] w (A0b w (.tuple #[QS K (A3h t p).1,QS K (A3h t p).2,AC AD])):=by
 have am:=A_ X;obtain⟨i,ax,ae,ad,ac⟩:=C4r hh;have aa:=A_ ae;have Z:=A_ ad;have H:=A_ ac;obtain⟨rfl,rfl,af,ag,ah,_,_⟩:=TTri.agg X;have an:=A_ af;have ao:=A_ ag;have ap:=A_ ah;clear X hh ae ad ac af ag ah;go_enter func244,ntmps244;go_wp2_with fail;refine(A2g _ t _ _ (am.below Below.go)).mono ?_;rintro _ aw ⟨rfl,au⟩;have ak:=A_ (show Bw w aw from Below.go);clear au;go_upto_region 2 with fail;refine Code.new λar O=>?_;have ab:=A_ O.k;have al:=A_ (AI ak O.b);clear O;go_wp2_with fail;refine(C2s _ 3 3 [t.a,t.b,t.c] _ p i ar (D5k an ao ap ab) aa Z).mono ?_;rintro _ w3 ⟨rfl,W⟩;have aq:=A_ (K_ ab W);have G:=A_ (AI al W);clear W;obtain⟨T,-,Y⟩:=bx aq;clear aa Z;obtain rfl|rfl|rfl:i=0\/i=1\/i=2:=oS
 ·go_wp2_with fail
  refine A0g ?_;iterate 13 refine C_ _ ?_
  intro ai aj wa u D E;clear E;simp at D;have h:=A_ (AI G u);clear T Y;go_simp;go_wp2_with fail;refine BI (v:=.tuple #[QS K t.b,QS K t.c,AC AD]) (by simp[BO,results244,go_sem, *]) rfl ?_;exact⟨by rw[H.o];rfl,h⟩
 ·go_wp2_with fail
  refine A0g ?_;iterate 13 refine C_ _ ?_
  intro ai aj wa u D E;clear E;simp at D;have h:=A_ (AI G u);clear T Y;go_simp;go_wp2_with fail;refine BI (v:=.tuple #[QS K t.c,QS K t.a,AC AD]) (by simp[BO,results244,go_sem, *]) rfl ?_;exact⟨by rw[H.o];rfl,h⟩
 go_wp2_with fail;refine A0g ?_;iterate 13 refine C_ _ ?_
 intro ai aj wa u D E;clear E;simp at D;have h:=A_ (AI G u);clear T Y;go_simp;go_wp2_with fail;refine BI (v:=.tuple #[QS K t.a,QS K t.b,AC AD]) (by simp[BO,results244,go_sem, *]) rfl ?_;exact⟨by rw[H.o];rfl,h⟩
theorem C1b (v:AJ) (m:TMesh) (b:List Nat) (p:Int) (w:J) (an:Agg w v m b) (aw:m.triangles.length<=48) :
  AR prog 187 #[v,QS K p] w (A0w w (A2d m.triangles p)):=by
 have aW:=A_ an;obtain⟨aC,aS,aL,a3,aD,n1,aM,a4,rfl,rfl,aR,ab⟩:=TMesh.agg an;have aI:=A_ ab;have aH:=A_ ab.1;have aZ:n1<=48:=by rw[<-ab.1];exact aw
 obtain⟨ao,aj,ak,al,am⟩:=DW A6b;clear aR ab an aw;go_enter func187,ntmps187;go_upto_region 1 with fail;refine Code.new λO ah=>?_;have aE:=A_ ah.b;have aJ:=A_ (show(O.alloc (AK #[] 3)).1[w.1.size]?=B (AK #[S aC aS aL,S aD n1 aM] 26)from K_ ah.k (AV _));clear ah;have aq:=A_ (Pend.start (α:=Int) (e:=3) aE);obtain⟨au,-⟩:=B_ aJ (j:=1) rfl;simp at au;go_wp2_with fail;go_loopg [5,12] n1 (λg s5 s wr=>∃ (i gB cap:Nat),i+g=n1/\s=QS K i/\s5=S (B ⟨gB,0,I⟩) (A2u m.triangles p i).length cap/\Hid (Pend w O 3 wr gB (A2u m.triangles p i).length cap (A2u m.triangles p i)));case atStart=>exact⟨0,O.1.size,0,oS,rfl,rfl,aq.o⟩
 case round =>
  clear aq au;obtain⟨i,gB,cap,ax,rfl,rfl,h⟩:=hrel;have aF:=A_ h.bw;rcases BN i n1 with aa|aa
  ·have aQ:(i:Int)<n1:=oS
   have aY:(0:Int)<=i:=oS;obtain⟨g,rfl⟩:∃ g,gk=g+1:=⟨gk - 1,oS⟩
   have Z:=A_ (by omega:i+1+g=n1);have a1:=B7u m.triangles p i;have ad:=A_ (by unfold BG;omega:(A2u m.triangles p i).length+1<=BG);have ae:=A_ (by omega:((A2u m.triangles p i).length+1)*8<=140737488355328);obtain⟨aX,a2,t,aN,aP,ay,az,aA,aB,aU,aV,aO⟩:=TTri.elemA (aI.below aF) aa;have ar:=A_ (show m.triangles.getD i A4p=t from A0e ay);subst aN;clear ax aa ay aO;go_upto_region 5 with fail;refine Code.new λG ai=>?_;have ap:=A_ ai.b;have ag:=A_ ai.k;clear az aA aB aU aV aP ai;obtain⟨az,-⟩:=B_ ag (j:=0) rfl;obtain⟨aA,-⟩:=B_ ag (j:=1) rfl;obtain⟨aB,-⟩:=B_ ag (j:=2) rfl;have af:=A_ (AI ap (AV (AK #[QS K i] 3)));have ac:=A_ (show Dat.at_ (α:=Int) (G.alloc (AK #[QS K i] 3)) [QS K i] (i:Int) []from⟨rfl,rfl,by constructor<;>omega⟩);cases hh:B6x t p
   ·have E:=A_ (by rw[A2u,ar.o,hh];rfl:A2u m.triangles p (i+1)=A2u m.triangles p i)
    have q1:(t.a==p)=AF:=by unfold B6x at hh;simp_all
    have q2:(t.b==p)=AF:=by unfold B6x at hh;simp_all
    have aT:(t.c==p)=AF:=by unfold B6x at hh;simp_all
    clear hh;go_wp2_with fail;go_roundg g;case measure=>omega
    case rel=>exact⟨i+1,gB,cap,Z.o,gN,by rw[E.o],by rw[E.o];exact h.below ap⟩
   have E:=A_ (by rw[A2u,ar.o,hh];rfl:A2u m.triangles p (i+1)=A2u m.triangles p i++[(i:Int)]);have H:=A_ (by rw[E.o];simp:(A2u m.triangles p (i+1)).length=(A2u m.triangles p i).length+1);cases q1:(t.a==p)
   ·cases q2:(t.b==p)
    ·have aT:(t.c==p)=AD:=by unfold B6x at hh;simp_all
     clear hh;go_wp2_with (at_builtin;refine A1v rfl _ _ 31 rfl 3 ao (QS K 0) 8 underlying31 aj ak al am rfl h af gD ⟨G.1.size,0,I⟩ 1 [QS K i] (i:Int) [] gD (A0a (CF G _)) ac.o ⟨PQ,λb hb=>by simp at hb⟩ (λb hb=>by simp at hb) ad.o ae.o ?_;intro g' u Y D W X);have T:=A_ (by rw[H.o,E.o];exact D:Pend w O 3 Y g' (A2u m.triangles p (i+1)).length u (A2u m.triangles p (i+1)));clear D W X h;go_wp2_with fail;go_roundg g;case measure=>omega
     case rel=>exact⟨i+1,g',u,Z.o,gN,by rw[H.o],T⟩
    clear hh;go_wp2_with (at_builtin;refine A1v rfl _ _ 31 rfl 3 ao (QS K 0) 8 underlying31 aj ak al am rfl h af gD ⟨G.1.size,0,I⟩ 1 [QS K i] (i:Int) [] gD (A0a (CF G _)) ac.o ⟨PQ,λb hb=>by simp at hb⟩ (λb hb=>by simp at hb) ad.o ae.o ?_;intro g' u Y D W X);have T:=A_ (by rw[H.o,E.o];exact D:Pend w O 3 Y g' (A2u m.triangles p (i+1)).length u (A2u m.triangles p (i+1)));clear D W X h;go_wp2_with fail;go_roundg g;case measure=>omega
    case rel=>exact⟨i+1,g',u,Z.o,gN,by rw[H.o],T⟩
   clear hh;go_wp2_with (at_builtin;refine A1v rfl _ _ 31 rfl 3 ao (QS K 0) 8 underlying31 aj ak al am rfl h af gD ⟨G.1.size,0,I⟩ 1 [QS K i] (i:Int) [] gD (A0a (CF G _)) ac.o ⟨PQ,λb hb=>by simp at hb⟩ (λb hb=>by simp at hb) ad.o ae.o ?_;intro g' u Y D W X);have T:=A_ (by rw[H.o,E.o];exact D:Pend w O 3 Y g' (A2u m.triangles p (i+1)).length u (A2u m.triangles p (i+1)));clear D W X h;go_wp2_with fail;go_roundg g;case measure=>omega
   case rel=>exact⟨i+1,g',u,Z.o,gN,by rw[H.o],T⟩
  obtain rfl:n1=i:=oS;have aQ:¬ ((n1:Int)<n1):=oS;have aK:=A_ (by unfold A2d;rw[aH.o]:A2u m.triangles p n1=A2d m.triangles p);clear ax aa;go_wp2;go_ret;have aG:A0w w (A2d m.triangles p) (.returned (S (B ⟨gB,0,I⟩) (A2u m.triangles p n1).length cap)) wr:=by have:=h.done;rw[aK.o]at this ⊢;exact this
  exact aG
theorem C0z (val:AJ) (x:TPiece) (b:List Nat) (w:J) (aJ:Agg w val x b) :
  AR prog 246 #[val] w (A0c w (C1f x)):=by
 obtain⟨a9,b5,bB,cv,ba,b6,bD,bc,b7,bE,bd,b8,bF,be,b9,bG,cw,bf,ca,bH,bg,cb,bI,bh,cc,bJ,bi,cd,bK,cx,bj,ce,bL,bl,cf,bM,cy,bm,cg,bN,bn,ch,bO,cz,bo,ci,bP,bp,cj,bQ,bq,ck,bR,br,cm,bS,sF,bs,cn,bT,bt,co,bU,bu,cp,bV,bv,cq,bW,cA,bz,cs,bX,bA,ct,bY,cB,rfl,rfl,aX,aY,aZ,aC,aD,aE,aF,aG⟩:=TPiece.agg aJ;have ac:=A_ aC;have aK:=A_ aD;have aL:=A_ aE;have aM:=A_ aF;have aN:=A_ aG;clear aJ aX aY aZ aC aD aE aF aG;go_enter func246,ntmps246;go_upto_region 1 with fail;refine Code.new2 λab Z=>?_;have O:=A_ Z.b;have u:=A_ Z.k;have ad:=A_ Z.l;have aU:=A_ (show w.1.size+2<=ab.1.size from E_ ad);clear Z;obtain⟨ae,-⟩:=B_ u (j:=13) rfl;obtain⟨af,-⟩:=B_ u (j:=14) rfl;obtain⟨ag,-⟩:=B_ u (j:=15) rfl;obtain⟨ah,-⟩:=B_ u (j:=16) rfl;obtain⟨ai,-⟩:=B_ u (j:=17) rfl;obtain⟨aj,-⟩:=B_ u (j:=18) rfl;obtain⟨ak,-⟩:=B_ u (j:=19) rfl;obtain⟨al,-⟩:=B_ u (j:=20) rfl;obtain⟨am,-⟩:=B_ u (j:=21) rfl;obtain⟨an,-⟩:=B_ u (j:=22) rfl;obtain⟨ao,-⟩:=B_ u (j:=23) rfl;obtain⟨ap,-⟩:=B_ u (j:=24) rfl;obtain⟨aq,-⟩:=B_ u (j:=25) rfl;obtain⟨ar,-⟩:=B_ u (j:=26) rfl;obtain⟨au,-⟩:=B_ u (j:=27) rfl;obtain⟨aw,-⟩:=B_ u (j:=28) rfl;obtain⟨ax,-⟩:=B_ u (j:=29) rfl;obtain⟨ay,-⟩:=B_ u (j:=30) rfl;obtain⟨az,-⟩:=B_ u (j:=31) rfl;obtain⟨aA,-⟩:=B_ u (j:=32) rfl;obtain⟨aB,-⟩:=B_ u (j:=33) rfl;simp at ae af ag ah ai aj ak al am an ao ap aq ar au aw ax ay az aA aB;have b0:w.1.size<ab.1.size:=E_ u;have b4:w.1.size+2<=ab.1.size:=by have:=aU.o;omega
 refine X_ sI ?_;dsimp only[DJ,DK,DI];iterate 4 refine C_ _ ?_
 refine D_ (BP (A0d x.f x.area)) ?_ ?_;·intro T G E h D;obtain⟨W,X⟩:=F_ h;simp at D;refine G_ ?_;exact H_ (A0n _ _ x.f x.area _ _ E ((aN.below O).below h) ((ac.below O).below h))
 refine D_ (BP (mkR 1 3)) ?_ ?_;·intro T G E h D;obtain⟨W,X⟩:=F_ h;simp at D;refine G_ ?_;exact H_ (A7u 1 3 E oO oO dE)
 refine D_ (BP (A0d (A0d x.f x.area) (mkR 1 3))) ?_ ?_;·intro T G E h D;obtain⟨W,X⟩:=F_ h;simp at D;refine G_ ?_;obtain⟨Y,H⟩:=D;exact H_ (A0n _ _ (A0d x.f x.area) (mkR 1 3) _ _ E Y.1 (by first|exact H.1|exact H.1.1))
 iterate 4 refine C_ _ ?_
 refine D_ (BP (A0d x.k x.area)) ?_ ?_;·intro T G E h D;obtain⟨W,X⟩:=F_ h;simp at D;refine G_ ?_;exact H_ (A0n _ _ x.k x.area _ _ E ((aK.below O).below h) ((ac.below O).below h))
 iterate 4 refine C_ _ ?_
 refine D_ (BP (A1k x.grad x.own)) ?_ ?_;·intro T G E h D;obtain⟨W,X⟩:=F_ h;simp at D;refine G_ ?_;exact H_ (A8z _ _ x.grad x.own _ _ E ((aL.below O).below h) ((aM.below O).below h))
 refine D_ (BP (A0d (A0d x.k x.area) (A1k x.grad x.own))) ?_ ?_;·intro T G E h D;obtain⟨W,X⟩:=F_ h;simp at D;refine G_ ?_;obtain⟨Y,H⟩:=D;exact H_ (A0n _ _ (A0d x.k x.area) (A1k x.grad x.own) _ _ E Y.1 (by first|exact H.1|exact H.1.1))
 refine D_ (BP (C1f x)) ?_ ?_;·intro T G E h D;obtain⟨W,X⟩:=F_ h;simp at D;refine G_ ?_;obtain⟨Y,H⟩:=D;exact H_ (A5b _ _ (A0d (A0d x.f x.area) (mkR 1 3)) (A0d (A0d x.k x.area) (A1k x.grad x.own)) _ _ E Y.1 (by first|exact H.1|exact H.1.1))
 intro T G wa h D a2;clear a2;simp at D;have a6:=D.2.2.2.2.2.2.2.2.2.2.2.2.2.2.2.2.2.2;obtain⟨⟨aa,aH⟩,aI⟩:=a6;generalize C1f x=a5 at *;obtain⟨aS,a3,aV,cF,aT,a4,aW,cG,a7,a8,_,_⟩:=BK aa;rw[a7]at aa;have aO:=A_ aa;have aP:=A_ aH;have aQ:=A_ (show ∀ b∈G 18,w.1.size+2<=b from λb a1=>by have:=(aI b a1).1;omega);have aR:=A_ (K_ ad h);have bZ:=AI O h;obtain⟨cD,cE,b3⟩:=bx aR;generalize G 18=cu at *;clear D aa aH aI a8 h ae af ag ah ai aj ak al am an ao ap aq ar au aw ax ay az aA aB;go_wp2;refine BI (v:=AM #[AC a5.1.1,S aS a3 aV,S aT a4 aW]) (by simp[BO,results246,go_sem, *]) rfl ?_;refine A1s (lo:=w.1.size+2) aO.o aP.o aQ.o oS ?_ ?_;·exact Above.go
 exact Below.go
theorem A9e {w:J} {g j:Nat} {L:List AJ} {t:BS} {v:AJ} (h:w.1[g]?=B (AK L.toArray t)) (hj:L[j]?=B v):w.cell? ⟨g,j,I⟩=B v/\w.frozen? ⟨g,j,I⟩=AF :=
 B_ h (by rw[List.getElem?_toArray];exact hj)
inductive TPieceS (w:J) (x:TPiece) (val:AJ):Prop where
 |mk (L:List AJ) (A0:Option AH) (nA0 cA0:Nat) (sA:List Nat) (B1:Option AH) (nB1 cB1:Nat) (B2:Option AH) (nB2 cB2:Nat) (B4:Option AH) (nB4 cB4:Nat) (B5:Option AH) (nB5 cB5:Nat) (sB:List Nat) (C1:Option AH) (nC1 cC1:Nat) (C2:Option AH) (nC2 cC2:Nat) (C4:Option AH) (nC4 cC4:Nat) (C5:Option AH) (nC5 cC5:Nat) (sC:List Nat) (D1:Option AH) (nD1 cD1:Nat) (D2:Option AH) (nD2 cD2:Nat) (sD:List Nat) (E1:Option AH) (nE1 cE1:Nat) (E2:Option AH) (nE2 cE2:Nat) (sE:List Nat) (F1:Option AH) (nF1 cF1:Nat) (F2:Option AH) (nF2 cF2:Nat) (F4:Option AH) (nF4 cF4:Nat) (F5:Option AH) (nF5 cF5:Nat) (sF:List Nat) (G1:Option AH) (nG1 cG1:Nat) (G2:Option AH) (nG2 cG2:Nat) (G4:Option AH) (nG4 cG4:Nat) (G5:Option AH) (nG5 cG5:Nat) (sG:List Nat) (H1:Option AH) (nH1 cH1:Nat) (H2:Option AH) (nH2 cH2:Nat) (sH:List Nat) (hv:val=AM L.toArray) (hL:L=(S A0 nA0 cA0)::(AC x.b.x.1.1)::(S B1 nB1 cB1)::(S B2 nB2 cB2)::(AC x.b.y.1.1)::(S B4 nB4 cB4)::(S B5 nB5 cB5)::(AC x.c.x.1.1)::(S C1 nC1 cC1)::(S C2 nC2 cC2)::(AC x.c.y.1.1)::(S C4 nC4 cC4)::(S C5 nC5 cC5)::(AC x.area.1.1)::(S D1 nD1 cD1)::(S D2 nD2 cD2)::(AC x.k.1.1)::(S E1 nE1 cE1)::(S E2 nE2 cE2)::(AC x.grad.x.1.1)::(S F1 nF1 cF1)::(S F2 nF2 cF2)::(AC x.grad.y.1.1)::(S F4 nF4 cF4)::(S F5 nF5 cF5)::(AC x.own.x.1.1)::(S G1 nG1 cG1)::(S G2 nG2 cG2)::(AC x.own.y.1.1)::(S G4 nG4 cG4)::(S G5 nG5 cG5)::(AC x.f.1.1)::(S H1 nH1 cH1)::(S H2 nH2 cH2)::[]) (f0:Sl w A0 nA0 cA0 x.list sA) (f1:Agg w (AM #[AC x.b.x.1.1,S B1 nB1 cB1,S B2 nB2 cB2,AC x.b.y.1.1,S B4 nB4 cB4,S B5 nB5 cB5]) x.b sB) (f2:Agg w (AM #[AC x.c.x.1.1,S C1 nC1 cC1,S C2 nC2 cC2,AC x.c.y.1.1,S C4 nC4 cC4,S C5 nC5 cC5]) x.c sC) (f3:Agg w (AM #[AC x.area.1.1,S D1 nD1 cD1,S D2 nD2 cD2]) x.area sD) (f4:Agg w (AM #[AC x.k.1.1,S E1 nE1 cE1,S E2 nE2 cE2]) x.k sE) (f5:Agg w (AM #[AC x.grad.x.1.1,S F1 nF1 cF1,S F2 nF2 cF2,AC x.grad.y.1.1,S F4 nF4 cF4,S F5 nF5 cF5]) x.grad sF) (f6:Agg w (AM #[AC x.own.x.1.1,S G1 nG1 cG1,S G2 nG2 cG2,AC x.own.y.1.1,S G4 nG4 cG4,S G5 nG5 cG5]) x.own sG) (f7:Agg w (AM #[AC x.f.1.1,S H1 nH1 cH1,S H2 nH2 cH2]) x.f sH):TPieceS w x val
theorem TPiece.shape {w:J} {val:AJ} {x:TPiece} {bs:List Nat} (ac:Agg w val x bs):TPieceS w x val:=by
 obtain⟨L,rfl,ab⟩:=ac;obtain⟨bq,bz,bF,bL,rfl,rfl,O,T⟩:=ab;obtain⟨ad,a1,aD,rfl,w0⟩:=O;obtain⟨p1,q1,bG,v1,rfl,rfl,b,W⟩:=T;obtain⟨ae,a2,aE,_,af,a3,aF,_,ag,a4,aG,_,ah,a5,aH,_,rfl,_⟩:=PR b;obtain⟨p2,q2,bH,v2,rfl,rfl,h,X⟩:=W;obtain⟨ai,a6,aI,_,aj,a7,aJ,_,ak,a8,aK,_,al,a9,aL,_,rfl,_⟩:=PR h;obtain⟨br,bA,bI,bM,rfl,rfl,u,Y⟩:=X;obtain⟨am,ba,aM,_,an,bc,aN,_,rfl,_⟩:=TRat.open_ u;obtain⟨bt,bB,bJ,bN,rfl,rfl,D,Z⟩:=Y;obtain⟨ao,bd,aO,_,ap,be,aP,_,rfl,_⟩:=TRat.open_ D;obtain⟨bu,bD,sF,bO,rfl,rfl,E,aa⟩:=Z;obtain⟨aq,bf,aQ,_,ar,bg,aR,_,au,bh,aS,_,aw,bi,aT,_,rfl,_⟩:=PR E;obtain⟨bv,bE,bK,bP,rfl,rfl,G,H⟩:=aa;obtain⟨ax,bj,aU,_,ay,bl,aV,_,az,bm,aW,_,aA,bn,aX,_,rfl,_⟩:=PR G;obtain⟨aB,bo,aY,_,aC,bp,aZ,_,rfl,_⟩:=TRat.open_ H;exact .mk _ _ _ _ _ _ _ _ _ _ _ _ _ _ _ _ _ _ _ _ _ _ _ _ _ _ _ _ _ _ _ _ _ _ _ _ _ _ _ _ _ _ _ _ _ _ _ _ _ _ _ _ _ _ _ _ _ _ _ _ _ _ _ _ _ _ _ _ _ _ _ _ _ _ _ _ _ _  rfl rfl w0 (⟨_,rfl,b⟩) (⟨_,rfl,h⟩) (⟨_,rfl,u⟩) (⟨_,rfl,D⟩) (⟨_,rfl,E⟩) (⟨_,rfl,G⟩) (⟨_,rfl,H⟩)
attribute [local simp] MP.box
theorem D8f (val b8 vs:AJ) (x:TPiece) (first Z:TRat) (b c4 bs:List Nat) (T b1 W:TPoint) (w:J) (b0:Agg w val x b) (bm:Agg w b8 first c4) (bo:Agg w vs Z bs) (bn:x.list=[T,b1,W]) (bZ:A7m [T,b1,W]=AD) :
  AR prog 247 #[val,b8,vs] w (λe w'=>∃ v1 v2 s1 s2,e=.returned (.tuple #[v1,v2])/\Agg w' v1 (B0i x first Z) s1/\Agg w' v2 (B3c x) s2/\(∀ b∈s1++s2,w.1.size<=b)/\Bw w w'):=by
 obtain⟨L,ca,b3,c5,fe,cb,dM,c6,cc,dN,c7,cd,dO,c8,ce,dQ,c9,ff,cg,dR,da,ch,dS,db,ci,dT,dc,cj,dU,dd,fg,cm,dV,de,cn,dW,df,fh,co,dX,dg,cp,dY,dh,fi,cq,dZ,di,cs,d0,dj,ct,d1,dk,cu,d2,dl,sF,aV,d3,dm,aW,d4,dn,aY,d5,dp,bc,d6,dq,fj,er,e7,ew,es,e8,ex,fk,dF,H,aD,aR,aS,aT,aU,bW,-,-⟩:=TPiece.shape b0;subst dF;have eC:L[0]?=B (S ca b3 c5):=by rw[H];rfl
 have eD:L[1]?=B (AC x.b.x.1.1):=by rw[H];rfl
 have eO:L[2]?=B (S cb dM c6):=by rw[H];rfl
 have eZ:L[3]?=B (S cc dN c7):=by rw[H];rfl
 have e1:L[4]?=B (AC x.b.y.1.1):=by rw[H];rfl
 have e2:L[5]?=B (S cd dO c8):=by rw[H];rfl
 have e3:L[6]?=B (S ce dQ c9):=by rw[H];rfl
 have e4:L[7]?=B (AC x.c.x.1.1):=by rw[H];rfl
 have e5:L[8]?=B (S cg dR da):=by rw[H];rfl
 have e6:L[9]?=B (S ch dS db):=by rw[H];rfl
 have eE:L[10]?=B (AC x.c.y.1.1):=by rw[H];rfl
 have eF:L[11]?=B (S ci dT dc):=by rw[H];rfl
 have eG:L[12]?=B (S cj dU dd):=by rw[H];rfl
 have eH:L[13]?=B (AC x.area.1.1):=by rw[H];rfl
 have eI:L[14]?=B (S cm dV de):=by rw[H];rfl
 have eJ:L[15]?=B (S cn dW df):=by rw[H];rfl
 have eK:L[16]?=B (AC x.k.1.1):=by rw[H];rfl
 have eL:L[17]?=B (S co dX dg):=by rw[H];rfl
 have eM:L[18]?=B (S cp dY dh):=by rw[H];rfl
 have eN:L[19]?=B (AC x.grad.x.1.1):=by rw[H];rfl
 have eP:L[20]?=B (S cq dZ di):=by rw[H];rfl
 have eQ:L[21]?=B (S cs d0 dj):=by rw[H];rfl
 have eR:L[22]?=B (AC x.grad.y.1.1):=by rw[H];rfl
 have eS:L[23]?=B (S ct d1 dk):=by rw[H];rfl
 have eT:L[24]?=B (S cu d2 dl):=by rw[H];rfl
 have eU:L[25]?=B (AC x.own.x.1.1):=by rw[H];rfl
 have eV:L[26]?=B (S aV d3 dm):=by rw[H];rfl
 have eW:L[27]?=B (S aW d4 dn):=by rw[H];rfl
 have eX:L[28]?=B (AC x.own.y.1.1):=by rw[H];rfl
 have eY:L[29]?=B (S aY d5 dp):=by rw[H];rfl
 have e0:L[30]?=B (S bc d6 dq):=by rw[H];rfl
 clear H;obtain⟨P1,e9,ey,p1,P2,fa,ez,p2,rfl,rfl,_,_⟩:=BK bm;obtain⟨Q1,fb,eA,q1,Q2,fc,eB,q2,rfl,rfl,_,_⟩:=BK bo;rw[bn]at aD;obtain rfl:3=b3:=aD.1;have ck:=A_ (by unfold E3j;rw[bn];rfl:E3j x=A5x T b1 W);have cz:=A_ bZ;have cv:=A_ aD;have aV:=A_ aR;have aW:=A_ aS;have aX:=A_ aT;have aY:=A_ aU;have bc:=A_ bW;have cw:=A_ bm;have cy:=A_ bo;clear b0 bm bo bn bZ aD aR aS aT aU bW;go_enter func247,ntmps247;go_upto_region 1 with fail;refine Code.new5 λcZ N=>?_;have bv:=A_ N.b;have aL:=A_ N.k0;have cA:=A_ N.k1;have cE:=A_ N.k2;have cF:=A_ N.k3;have cG:=A_ N.k4;have aM:=A_ N.z;clear N;obtain⟨b9,ax⟩:=bxL aL;refine X_ sI ?_;dsimp only[DJ,DK,DI];refine D_ (BP (U_ 1)) ?_ ?_;·intro O E D h u;obtain⟨aa,ab⟩:=F_ h;simp at u;refine G_ ?_;exact H_ (A0l 1 D oO)
 refine D_ (BP (U_ 2)) ?_ ?_;·intro O E D h u;obtain⟨aa,ab⟩:=F_ h;simp at u;refine G_ ?_;exact H_ (A0l 2 D oO)
 iterate 2 refine C_ _ ?_
 refine D_ (BP (A0d (U_ 2) x.area)) ?_ ?_;·intro O E D h u;obtain⟨aa,ab⟩:=F_ h;simp at u;refine G_ ?_;obtain⟨t,_⟩:=u;exact H_ (A0n _ _ (U_ 2) x.area _ _ D (by first|exact t.1|exact t.1.1) (aX.o.below (AI bv.o h)))
 refine D_ (BP (byP x)) ?_ ?_;·intro O E D h u;obtain⟨aa,ab⟩:=F_ h;simp at u;refine G_ ?_;obtain⟨aI,ay⟩:=u;exact H_ (A8m _ _ (U_ 1) (A0d (U_ 2) x.area) _ _ D aI.1 (by first|exact ay.1|exact ay.1.1))
 refine A1p #[AC AF,S I 0 0,S I 0 0] 35 ?_ ?_;·intro O E D h u;refine⟨gD,?_⟩;go_simp
 intro O E wa h u (ak:Hid _);simp at u;have az:=u.2.2.2.2.2.1;have aF:=u.2.2.2.2.2.2;obtain⟨⟨Y,-⟩,ai⟩:=az;obtain⟨⟨aD,aJ,ag,ae⟩,af⟩:=aF;obtain⟨cN,d9,dt,_,cO,ea,du,_,al,-,_,_⟩:=BK Y;rw[al]at Y;rw[ag]at af;have aA:=(af aD sI).1;have ao:=A_ (show ∀ b∈E 5,b≠aD from λb G e=>by have:=ak 5 6 dE dE dE b G;rw[ag]at this;simp[e]at this);have aj:=A_ Y;have aq:=A_ ae;have am:=A_ h;have ad:=A_ (show ∀ b∈E 5,cZ.1.size<=b from λb G=>(ai b G).1);obtain⟨aG,aH,aE⟩:=bx ae;generalize E 5=r0 at *;clear u ak Y ai af ag ae h ax;go_upto_region 2 with fail;obtain⟨a3,ac,au,ar,an,aw⟩:=D1j (AC (byP x).1.1) (S cN d9 dt) (S cO ea du) aq am (by have:=aA;(try simp at this);omega);rw[ac];have a9:=A_ an;have bF:=A_ au;have ah:=A_ (aj.keep λb G=>ar b (ao b G));have ap:=ad;have bG:=a9;clear ac au ar an ao aj aq am ad al aJ aG aH aE;have aC:=A_ aw;clear aw;have c1:=A_ (by have:=aM.o;have:=a9.size;  omega:w.1.size+5<=a3.1.size);have bz:=A_ (AI bv a9);have bA:=ah;have ev:=A_ (show ∀ b∈r0,w.1.size+5<=b from λb G=>by have:=ap b G;have:=aM.o;omega);clear ah ap aC;obtain⟨fm,ax⟩:=bxL (K_ aL bG);go_wp2_with fail;refine(C8w _ _ T b1 W _ a3 (cv.below bz) cz).mono ?_;rintro _ wb ⟨fl,em,rfl,bp,bY,bX⟩;obtain⟨bJ,b4,bS,_,bK,b5,bT,_,bL,b6,bU,_,bM,b7,bV,_,rfl,-,_,_,_,_⟩:=DN bp;have bD:=A_ bp;have a1:=A_ bX;have cK:=A_ (show ∀ b∈em,a3.1.size<=b from λb G=>(bY.2 b G).1);clear bp bY bX ax;go_upto_region 3 with fail;obtain⟨a4,ac⟩:∃ X,X=wb.alloc (AK #[AC (A5x T b1 W).x.1.1,S bJ b4 bS,S bK b5 bT,AC (A5x T b1 W).y.1.1,S bL b6 bU,S bM b7 bV] 118):=⟨_,rfl⟩
 have ba:=A_ (by rw[ac];exact AV _:Bw wb a4);obtain⟨aR,a5⟩:∃ g,wb.1.size=g:=⟨_,rfl⟩
 have cH:=A_ (by rw[ac,<-a5];exact CF wb _:a4.1[aR]?=B (AK #[AC (A5x T b1 W).x.1.1,S bJ b4 bS,S bK b5 bT,AC (A5x T b1 W).y.1.1,S bL b6 bU,S bM b7 bV] 118));have ah:=A_ (bD.below ba);have aA:a3.1.size<=aR:=by rw[<-a5];exact a1.size
 have aB:=A_ (a1.trans (ba.mono a1.size));have a2:=A_ (AI bG aB);rw[<-ac];simp only[a5];clear ac a5 ba bD a1 cK;have bP:=A_ (by have:=aM.o;have:=aB.size;have:=c1.o;omega:w.1.size+5<=a4.1.size);have aN:=A_ (AI bz aB);have bB:=ah;clear ah;obtain⟨ep,-,br⟩:=bx (K_ bF aB);obtain⟨fq,-,dJ⟩:=bx (K_ cE a2);obtain⟨fr,-,dL⟩:=bx cH;obtain⟨en,ax⟩:=bxL (K_ aL a2);obtain⟨fp,-,dG⟩:=bx (K_ cA a2);refine X_ sI ?_;dsimp only[DJ,DK,DI];iterate 5 refine C_ _ ?_
 refine D_ (BP (A4a (A5x T b1 W) x.b)) ?_ ?_;·intro O E D h u;obtain⟨aa,ab⟩:=F_ h;simp at u;refine G_ ?_;exact H_ (A1u _ _ (A5x T b1 W) x.b _ _ D (bB.below h) (aV.below (AI aN h)))
 refine D_ (BP (A0v Z (A4a (A5x T b1 W) x.b))) ?_ ?_;·intro O E D h u;obtain⟨aa,ab⟩:=F_ h;simp at u;refine G_ ?_;obtain⟨_,t⟩:=u;exact H_ (A1n _ _ Z (A4a (A5x T b1 W) x.b) _ _ D (cy.o.below (AI aN.o h)) (by first|exact t.1|exact t.1.1))
 iterate 4 refine C_ _ ?_
 refine D_ (BP (A4a (A5x T b1 W) x.c)) ?_ ?_;·intro O E D h u;obtain⟨aa,ab⟩:=F_ h;simp at u;refine G_ ?_;exact H_ (A1u _ _ (A5x T b1 W) x.c _ _ D (bB.below h) (aW.below (AI aN h)))
 refine D_ (BP (A0v first (A4a (A5x T b1 W) x.c))) ?_ ?_;·intro O E D h u;obtain⟨aa,ab⟩:=F_ h;simp at u;refine G_ ?_;obtain⟨_,t⟩:=u;exact H_ (A1n _ _ first (A4a (A5x T b1 W) x.c) _ _ D (cw.o.below (AI aN.o h)) (by first|exact t.1|exact t.1.1))
 refine D_ (BP (A4a (A0v Z (A4a (A5x T b1 W) x.b)) (A0v first (A4a (A5x T b1 W) x.c)))) ?_ ?_;·intro O E D h u;obtain⟨aa,ab⟩:=F_ h;simp at u;refine G_ ?_;obtain⟨aI,ay⟩:=u;exact H_ (A1u _ _ (A0v Z (A4a (A5x T b1 W) x.b)) (A0v first (A4a (A5x T b1 W) x.c)) _ _ D aI.1 (by first|exact ay.1|exact ay.1.1))
 refine D_ (BP (sP x first Z)) ?_ ?_;·intro O E D h u;obtain⟨aa,ab⟩:=F_ h;simp at u;refine G_ ?_;obtain⟨_,t⟩:=u;rw[show sP x first Z=A0v (byP x) (A4a (A0v Z (A4a (A5x T b1 W) x.b)) (A0v first (A4a (A5x T b1 W) x.c))) by rw[sP,ck.o]];exact H_ (A1n _ _ (byP x) (A4a (A0v Z (A4a (A5x T b1 W) x.b)) (A0v first (A4a (A5x T b1 W) x.c))) _ _ D (bA.o.below (AI aB.o h)) (by first|exact t.1|exact t.1.1))
 refine A1p #[AC AF,S I 0 0,S I 0 0,AC AF,S I 0 0,S I 0 0] 118 ?_ ?_;·intro O E D h u;refine⟨gD,?_⟩;go_simp
 intro O E wa h u (ak:Hid _);simp at u;have az:=u.2.2.2.2.2.2.2.2.2.2.2.2.2.2.1;have aF:=u.2.2.2.2.2.2.2.2.2.2.2.2.2.2.2;obtain⟨⟨Y,-⟩,ai⟩:=az;obtain⟨⟨aS,aJ,ag,ae⟩,af⟩:=aF;obtain⟨cP,eb,dv,_,cQ,ec,dw,_,cR,ed,dx,_,cU,ee,dy,_,al,-,_,_,_,_⟩:=DN Y;rw[al]at Y;rw[ag]at af;have aA:=(af aS sI).1;have ao:=A_ (show ∀ b∈E 14,b≠aS from λb G e=>by have:=ak 14 15 dE dE dE b G;rw[ag]at this;simp[e]at this);have aj:=A_ Y;have aq:=A_ ae;have am:=A_ h;have ad:=A_ (show ∀ b∈E 14,a4.1.size<=b from λb G=>(ai b G).1);obtain⟨aG,aH,aE⟩:=bx ae;generalize E 14=ej at *;clear u ak Y ai af ag ae h br dJ dL ax dG;go_upto_region 4 with fail;obtain⟨bN,ac,au,ar,an,aw⟩:=D6m (AC (sP x first Z).x.1.1) (S cP eb dv) (S cQ ec dw) (AC (sP x first Z).y.1.1) (S cR ed dx) (S cU ee dy) aq.o am.o (by have:=aA;(try simp at this);omega);rw[ac];have aP:=A_ an;have cB:=A_ au;have ah:=A_ (aj.keep λb G=>ar b (ao b G));have ap:=ad;have bH:=A_ (AI a2 aP);clear ac au ar an ao aj aq am ad al aJ aG aH aE;have aC:=A_ aw;clear aw;have bQ:=A_ (by have:=aM.o;have:=aP.size;have:=bP.o;omega:w.1.size+5<=bN.1.size);have a7:=A_ (AI aN aP);have cx:=ah;have eu:=A_ (show ∀ b∈ej,w.1.size+5<=b from λb G=>by have:=ap b G;have:=bP.o;omega);clear ah ap aC;obtain⟨ep,-,br⟩:=bx (K_ bF (AI aB aP));obtain⟨en,ax⟩:=bxL (K_ aL bH);refine X_ sI ?_;dsimp only[DJ,DK,DI];iterate 5 refine C_ _ ?_
 refine D_ (BP (A4a x.c x.b)) ?_ ?_;·intro O E D h u;obtain⟨aa,ab⟩:=F_ h;simp at u;refine G_ ?_;exact H_ (A1u _ _ x.c x.b _ _ D (aW.below (AI a7 h)) (aV.below (AI a7 h)))
 refine D_ (BP (dP x)) ?_ ?_;·intro O E D h u;obtain⟨aa,ab⟩:=F_ h;simp at u;refine G_ ?_;obtain⟨_,t⟩:=u;exact H_ (A1n _ _ (byP x) (A4a x.c x.b) _ _ D (bA.o.below (AI (AI aB.o aP.o) h)) (by first|exact t.1|exact t.1.1))
 refine A1p #[AC AF,S I 0 0,S I 0 0,AC AF,S I 0 0,S I 0 0] 118 ?_ ?_;·intro O E D h u;refine⟨gD,?_⟩;go_simp
 intro O E wa h u (ak:Hid _);simp at u;have az:=u.2.2.2.2.2.2.1;have aF:=u.2.2.2.2.2.2.2;obtain⟨⟨Y,-⟩,ai⟩:=az;obtain⟨⟨aT,aJ,ag,ae⟩,af⟩:=aF;obtain⟨cV,ef,dz,_,cW,eg,dA,_,cX,eh,dB,_,cY,ei,dD,_,al,-,_,_,_,_⟩:=DN Y;rw[al]at Y;rw[ag]at af;have aA:=(af aT sI).1;have ao:=A_ (show ∀ b∈E 6,b≠aT from λb G e=>by have:=ak 6 7 dE dE dE b G;rw[ag]at this;simp[e]at this);have aj:=A_ Y;have aq:=A_ ae;have am:=A_ h;have ad:=A_ (show ∀ b∈E 6,bN.1.size<=b from λb G=>(ai b G).1);obtain⟨aG,aH,aE⟩:=bx ae;generalize E 6=ek at *;clear u ak Y ai af ag ae h br ax;go_upto_region 5 with fail;obtain⟨bO,ac,au,ar,an,aw⟩:=D6m (AC (dP x).x.1.1) (S cV ef dz) (S cW eg dA) (AC (dP x).y.1.1) (S cX eh dB) (S cY ei dD) aq am (by have:=aA;(try simp at this);omega);rw[ac];have aQ:=A_ an;have bE:=A_ au;have ah:=A_ (aj.keep λb G=>ar b (ao b G));have ap:=ad;have bI:=A_ (AI bH aQ);clear ac au ar an ao aj aq am ad al aJ aG aH aE;have aC:=A_ aw;clear aw;have bR:=A_ (by have:=aM.o;have:=aQ.size;have:=bQ.o;omega:w.1.size+5<=bO.1.size);have aO:=A_ (AI a7 aQ);have aZ:=ah;have et:=A_ (show ∀ b∈ek,w.1.size+5<=b from λb G=>by have:=ap b G;have:=bQ.o;omega);clear ah ap aC;obtain⟨eo,-,bq⟩:=bx bE;obtain⟨fn,-,dH⟩:=bx (K_ cB aQ);obtain⟨b9,ax⟩:=bxL (K_ aL bI);refine X_ sI ?_;dsimp only[DJ,DK,DI];iterate 4 refine C_ _ ?_
 refine D_ (BP (A1k (dP x) (sP x first Z))) ?_ ?_;·intro O E D h u;obtain⟨aa,ab⟩:=F_ h;simp at u;refine G_ ?_;exact H_ (A8z _ _ (dP x) (sP x first Z) _ _ D (aZ.o.below h) (cx.o.below (AI aQ.o h)))
 refine D_ (BP (A0d x.area (A1k (dP x) (sP x first Z)))) ?_ ?_;·intro O E D h u;obtain⟨aa,ab⟩:=F_ h;simp at u;refine G_ ?_;obtain⟨_,t⟩:=u;exact H_ (A0n _ _ x.area (A1k (dP x) (sP x first Z)) _ _ D (aX.o.below (AI aO.o h)) (by first|exact t.1|exact t.1.1))
 iterate 2 refine C_ _ ?_
 refine D_ (BP (A3u (A0d x.area (A1k (dP x) (sP x first Z))) x.k)) ?_ ?_;·intro O E D h u;obtain⟨aa,ab⟩:=F_ h;simp at u;refine G_ ?_;obtain⟨t,_⟩:=u;exact H_ (A8m _ _ (A0d x.area (A1k (dP x) (sP x first Z))) x.k _ _ D (by first|exact t.1|exact t.1.1) (aY.o.below (AI aO.o h)))
 iterate 5 refine C_ _ ?_
 refine D_ (BP (A1k (dP x) x.grad)) ?_ ?_;·intro O E D h u;obtain⟨aa,ab⟩:=F_ h;simp at u;refine G_ ?_;exact H_ (A8z _ _ (dP x) x.grad _ _ D (aZ.below h) (bc.below (AI aO h)))
 refine D_ (BP (A0d x.area (A1k (dP x) x.grad))) ?_ ?_;·intro O E D h u;obtain⟨aa,ab⟩:=F_ h;simp at u;refine G_ ?_;obtain⟨_,t⟩:=u;exact H_ (A0n _ _ x.area (A1k (dP x) x.grad) _ _ D (aX.o.below (AI aO.o h)) (by first|exact t.1|exact t.1.1))
 refine D_ (BP (mkR 1 3)) ?_ ?_;·intro O E D h u;obtain⟨aa,ab⟩:=F_ h;simp at u;refine G_ ?_;exact H_ (A7u 1 3 D oO oO dE)
 refine D_ (BP (A0d (A0d x.area (A1k (dP x) x.grad)) (mkR 1 3))) ?_ ?_;·intro O E D h u;obtain⟨aa,ab⟩:=F_ h;simp at u;refine G_ ?_;obtain⟨aI,ay⟩:=u;exact H_ (A0n _ _ (A0d x.area (A1k (dP x) x.grad)) (mkR 1 3) _ _ D aI.1 (by first|exact ay.1|exact ay.1.1))
 refine D_ (BP (B0i x first Z)) ?_ ?_;·intro O E D h u;obtain⟨aa,ab⟩:=F_ h;simp at u;refine G_ ?_;obtain⟨aI,ay⟩:=u;exact H_ (A0x _ _ (A3u (A0d x.area (A1k (dP x) (sP x first Z))) x.k) (A0d (A0d x.area (A1k (dP x) x.grad)) (mkR 1 3)) _ _ D aI.1 (by first|exact ay.1|exact ay.1.1))
 refine A1p #[AC AF,S I 0 0,S I 0 0] 35 ?_ ?_;·intro O E D h u;refine⟨gD,?_⟩;go_simp
 intro O E wa h u (ak:Hid _);simp at u;have az:=u.2.2.2.2.2.2.2.2.2.2.2.2.2.2.2.2.2.2.1;have aF:=u.2.2.2.2.2.2.2.2.2.2.2.2.2.2.2.2.2.2.2;obtain⟨⟨Y,-⟩,ai⟩:=az;obtain⟨⟨aU,aJ,ag,ae⟩,af⟩:=aF;obtain⟨bg,bt,bi,_,bh,bu,bj,_,al,-,_,_⟩:=BK Y;rw[al]at Y;rw[ag]at af;have aA:=(af aU sI).1;have ao:=A_ (show ∀ b∈E 18,b≠aU from λb G e=>by have:=ak 18 19 dE dE dE b G;rw[ag]at this;simp[e]at this);have aj:=A_ Y;have aq:=A_ ae;have am:=A_ h;have ad:=A_ (show ∀ b∈E 18,bO.1.size<=b from λb G=>(ai b G).1);obtain⟨aG,aH,aE⟩:=bx ae;generalize E 18=el at *;clear u ak Y ai af ag ae h bq dH ax;go_upto_region 6 with fail;obtain⟨c0,ac,au,ar,an,aw⟩:=D1j (AC (B0i x first Z).1.1) (S bg bt bi) (S bh bu bj) aq.o am.o (by have:=aA;(try simp at this);omega);rw[ac];have aK:=A_ an;have cD:=A_ au;have ah:=A_ (aj.keep λb G=>ar b (ao b G));have ap:=ad;have be:=A_ (AI bI aK);clear ac au ar an ao aj aq am ad al aJ aG aH aE;have aC:=A_ aw;clear aw;have c2:=A_ (by have:=aM.o;have:=aK.size;have:=bR.o;omega:w.1.size+5<=c0.1.size);have a8:=A_ (AI aO aK);have bd:=ah;have bf:=A_ (show ∀ b∈el,w.1.size+5<=b from λb G=>by have:=ap b G;have:=bR.o;omega);clear ah ap aC;obtain⟨fo,-,dI⟩:=bx cD;obtain⟨eo,-,bq⟩:=bx (K_ bE aK);obtain⟨b9,ax⟩:=bxL (K_ aL be);refine W_ 10 kR kR kR kR kR ?_;simp only[List.take_succ_cons,List.take_zero,List.drop_succ_cons,List.drop_zero];iterate 5 refine C_ _ ?_
 refine D_ (BP (A1k (dP x) (dP x))) ?_ ?_;·intro O E D h u;obtain⟨aa,ab⟩:=F_ h;simp at u;refine G_ ?_;exact H_ (A8z _ _ (dP x) (dP x) _ _ D (aZ.below (AI aK h)) (aZ.below (AI aK h)))
 refine D_ (BP (A0d x.area (A1k (dP x) (dP x)))) ?_ ?_;·intro O E D h u;obtain⟨aa,ab⟩:=F_ h;simp at u;refine G_ ?_;obtain⟨_,t⟩:=u;exact H_ (A0n _ _ x.area (A1k (dP x) (dP x)) _ _ D (aX.o.below (AI a8.o h)) (by first|exact t.1|exact t.1.1))
 iterate 2 refine C_ _ ?_
 refine D_ (BP (B3c x)) ?_ ?_;·intro O E D h u;obtain⟨aa,ab⟩:=F_ h;simp at u;refine G_ ?_;obtain⟨t,_⟩:=u;exact H_ (A8m _ _ (A0d x.area (A1k (dP x) (dP x))) x.k _ _ D (by first|exact t.1|exact t.1.1) (aY.o.below (AI a8.o h)))
 intro O E wa h u (ak:Hid _);simp at u;have a6:=u.1;have az:=u.2.2.2.2.2.2.2.2.2;obtain⟨⟨Y,-⟩,ai⟩:=az;obtain⟨cL,d7,dr,_,cM,d8,ds,_,al,-,_,_⟩:=BK Y;rw[al]at Y;have aj:=A_ Y;have am:=A_ h;have ad:=A_ (show ∀ b∈E 9,w.1.size+5<=b from λb G=>by have:=(ai b G).1;have:=c2.o;omega);have cI:=A_ (K_ (K_ cF be) h);have cJ:=A_ (K_ (K_ cG be) h);obtain⟨fs,fu,-⟩:=bx cI;obtain⟨fv,fw,-⟩:=bx cJ;have bd:=A_ (bd.below h);have cf:=A_ (AI a8 h);have ft:O 0=AM #[AC (B0i x first Z).1.1,S bg bt bi,S bh bu bj]:=by first|exact a6.1.1|exact a6.1|exact a6
 clear a6;generalize E 9=fd at *;clear u ak Y ai h dI bq ax;go_wp2;refine BI (v:=.tuple #[AM #[AC (B0i x first Z).1.1,S bg bt bi,S bh bu bj],AM #[AC (B3c x).1.1,S cL d7 dr,S cM d8 ds]]) (by simp[BO,results247,go_sem, *]) rfl ?_;refine⟨_,_,_,_,rfl,bd.keep λb G=>(A0p b ?_).trans (A0p b ?_),aj.keep λb G=>(A0p b ?_).trans (A0p b ?_),λb G=>?_,(OL (p:=⟨w.1.size+4,2,I⟩) (OL (p:=⟨w.1.size+4,1,I⟩) (OL (p:=⟨w.1.size+4,0,I⟩) (OL (p:=⟨w.1.size+3,2,I⟩) (OL (p:=⟨w.1.size+3,1,I⟩) (OL (p:=⟨w.1.size+3,0,I⟩) cf (MG _ _) _) (MG _ _) _) (MG _ _) _) (MG _ _) _) (MG _ _) _) (MG _ _) _)⟩;·have:=bf b G;omega
 ·have:=bf b G;omega
 ·have:=ad b G;omega
 ·have:=ad b G;omega
 rcases CO.1 G with bl|bl;·have:=bf b bl;omega
 have:=ad b bl;omega
theorem B9i {w:J} {A:Option AH} {n c:Nat} {xs:List Int} {bs:List Nat} (h:Sl w A n c xs bs) {k:Nat} (O:k<n) :
  ∃ (b off:Nat) (x:Int),A=B ⟨b,off,I⟩/\b<w.1.size/\xs[k]?=B x/\w.cell? ⟨b,off+k,I⟩=B (QS K x)/\I64 x:=by
 obtain⟨b,off,x,W,X,D,E,T,G,⟨rfl,rfl,H⟩,Y⟩:=Sl.getAt h O;have u:=G 0 _ rfl;rw[show k*Dat.sz Int+0=k from Nat.mul_one k]at u;exact⟨b,off,x,D,E,T,u,H⟩
attribute [local simp] MP.slbox
theorem RR.take {bad:Nat->Prop} {w:J} {g n m cap:Nat} {xs:List TRat} (h:RR bad w g n cap xs) (ak:m<=n):RR bad w g m cap (xs.take m):=by
 obtain⟨cells,fss,⟨ai,X⟩,⟨k1,k2,ah⟩,aj,Y,Z⟩:=h;have G:(xs.take m).length=m:=oR;refine⟨cells.take (m*3),fss.take m,⟨oR,?_⟩,⟨by simp[k1],by rw[G];simp[Dat.sz];omega,?_⟩,G,?_,Z⟩
 ·rcases X with⟨E,_⟩|⟨g',O,T,E,u,ad,al,ab,ac,ag⟩
  ·cases E
  refine .inr ⟨g',O,T,?_,u,ad,oS,ab,ac,?_⟩;·injection E with e1 e2 e3;rw[e1,e3]
  rw[<-ag,List.take_take,MM oS]
 ·intro k x W b D
  rw[List.getElem?_take]at b D;split at b;·rename_i af;rw[if_pos af]at D;have:=ah k x W b D;have e:Dat.sz TRat=3:=rfl;rw[e]at this ⊢;rw[List.drop_take,List.take_take,MM oS];exact this
  cases b
 intro H u;obtain⟨gs,ae,aa⟩:=JN.1 u;exact Y H (JN.2 ⟨gs,List.mem_of_mem_take ae,aa⟩)
end Go.Proofs.YtbkilakncnlebaaGreatDoor.X
namespace Go
open Go.RowKit Go.XB Go.Proofs.YtbkilakncnlebaaGreatDoor.X
theorem E1y {P:DZ} {bad:Nat->Prop} {wr wa:J} {gB k cap:Nat} {ps:List TRat} {ak:Array BU} {rest:List BU} {o:BU} {a:Act} {Q:Exit->Act->J->Prop} (ap:o.guard=I) (s x:Operand) (t:BS)
  (ar:o.op=.call { callee:=.builtin .append,args:=#[s,x],argTypes:=#[t,t] })
  (i:TypeInfo) (z:AJ) (Y:Nat) (az:P.underlying t=B (.slice 35)) (hi:P.info? 35=B i) (aB:i.zero=B z)
  (ay:i.size=3) (an:i.bytes=Y) (aC:z.cells.size=3) (aw:RR bad wr gB k cap ps) (aa:Bw wr wa) (ax:a.eval s=S (B ⟨gB,0,I⟩) k cap)
  (X:AH) (c:Nat) (cs:List AJ) (al:TRat) (O:List Nat) (aA:a.eval x=S (B X) 1 c) (aq:∀ j u,cs[j]?=B u->wa.cell? (X.add j)=B u)
  (W:Dat.at_ wa cs al O) (ae:∀ b∈O,¬ bad b) (am:k+1<=BG) (ao:(k+1)*Y<=140737488355328)
  (h:∀ g' cap' w8,RR (λb=>b=g'\/bad b) w8 g' (k+1) cap' (ps++[al])->wa.grownBy w8 (B gB)->(g'=gB\/g'=wa.1.size)->FF P ak Q rest (a.put o.dst (S (B ⟨g',0,I⟩) (k+1) cap')) w8):FF P ak Q (o::rest) a wa:=by
 obtain⟨cells,fss,af,ag,ah,Z,T⟩:=aw;have aD:=aa.size;refine A1m ap s x t ar 0 35 i z 3 Y az hi aB ay an aC dE gB k cap cells ax (I_ af aa) X 1 c cs aA (by rw[KE];exact Dat.len W) aq (Dat.one W) am ao (DV _) ?_;intro g' cap' w8 au ac ad;refine h g' cap' w8 ?_ ac ad;have ab:∀ b∈fss.flatten,b<wr.1.size:=ag.lt;have k1:∀ b∈fss.flatten,w8.1[b]?=wr.1[b]?:=λb G=>(ac.block b (by have:=ab b G;omega) (by intro e;injection e with e;exact Z b G (e ▸ T))).trans (aa.block b (ab b G));have aj:∀ b∈O,b<wa.1.size:=Dat.lt W;have k2:∀ b∈O,w8.1[b]?=wa.1[b]?:=λb G=>ac.block b (aj b G) (by intro e;injection e with e;exact ae b G (e ▸ T));refine⟨_,fss++[O],au,Filled.push (ag.keep k1) (by rw[af.1,ah];rfl) (Dat.keep W k2),by simp[ah],?_,.inl rfl⟩;rw[List.flatten_append];intro b D ai;rcases CO.1 D with D|D
 ·rcases ai with E|E
  ·rcases ad with H|H
   ·exact Z b D (by rw[E,H];exact T)
   have:=ab _ D;omega
  exact Z b D E
 simp at D;rcases ai with E|E
 ·rcases ad with H|H
  ·exact ae b D (by rw[E,H];exact T)
  have:=aj _ D;omega
 exact ae b D E
end Go
namespace Go.Proofs.YtbkilakncnlebaaGreatDoor.X
open Go.RowKit Go.XB Go.XN Proofs.Tryz
attribute [local go_sem] L_ Go.XB.opAt N_ M_ Region.wanted yielded
attribute [local simp] N_ M_ MP.eq MP.agg MP.sl A0r
section
structure FlSt (w U:J) (ga gb gr nr cr:Nat) (o:List TRat) (lx:TRat) (P1:Option AH) (p1 q1:Nat) (P2:Option AH) (p2 q2:Nat) (rl:List Nat) (rx:TRat) (Q1:Option AH) (k1 l1:Nat) (Q2:Option AH) (k2 l2:Nat) (rr:List Nat):Prop where
 bl:Bw w U
 ra:RBox U ga lx P1 p1 q1 P2 p2 q2
 rb:RBox U gb rx Q1 k1 l1 Q2 k2 l2
 al:Agg U (AM #[AC lx.1.1,S P1 p1 q1,S P2 p2 q2]) lx rl
 ar:Agg U (AM #[AC rx.1.1,S Q1 k1 l1,S Q2 k2 l2]) rx rr
 ro:RR (λb=>b=gr\/(b=ga\/b=gb)) U gr nr cr o
 dl:∀ b∈rl,b≠ga/\b≠gb/\b≠gr
 dr:∀ b∈rr,b≠ga/\b≠gb/\b≠gr
 na:w.1.size<=ga
 nb:w.1.size<=gb
 nr:w.1.size<=gr
 ne:ga≠gb
 nra:gr≠ga
 nrb:gr≠gb
section
variable {w U U':J} {ga gb gr nr cr:Nat} {o:List TRat} {lx:TRat} {P1:Option AH} {p1 q1:Nat} {P2:Option AH} {p2 q2:Nat} {rl:List Nat} {rx:TRat} {Q1:Option AH} {k1 l1:Nat} {Q2:Option AH} {k2 l2:Nat} {rr:List Nat}
theorem FlSt.below (h:FlSt w U ga gb gr nr cr o lx P1 p1 q1 P2 p2 q2 rl rx Q1 k1 l1 Q2 k2 l2 rr) (hb:Bw U U'):FlSt w U' ga gb gr nr cr o lx P1 p1 q1 P2 p2 q2 rl rx Q1 k1 l1 Q2 k2 l2 rr :=
 ⟨AI h.bl hb,h.ra.below hb,h.rb.below hb,h.al.below hb,h.ar.below hb,h.ro.below hb,h.dl,h.dr,h.na,h.nb,h.nr,h.ne,h.nra,h.nrb⟩
theorem FlSt.setL (h:FlSt w U ga gb gr nr cr o lx P1 p1 q1 P2 p2 q2 rl rx Q1 k1 l1 Q2 k2 l2 rr) {y:TRat} {O1:Option AH} {o1 u1:Nat} {O2:Option AH} {o2 u2:Nat} {ry:List Nat}
  (ha:Agg U (AM #[AC y.1.1,S O1 o1 u1,S O2 o2 u2]) y ry) (hd:∀ b∈ry,b≠ga/\b≠gb/\b≠gr) :
  FlSt w (((U.setCell ⟨ga,0,I⟩ (AC y.1.1)).setCell ⟨ga,1,I⟩ (S O1 o1 u1)).setCell ⟨ga,2,I⟩ (S O2 o2 u2)) ga gb gr nr cr o y O1 o1 u1 O2 o2 u2 ry rx Q1 k1 l1 Q2 k2 l2 rr :=
 ⟨((h.bl.setCell (p:=⟨ga,0,I⟩) h.na _).setCell (p:=⟨ga,1,I⟩) h.na _).setCell (p:=⟨ga,2,I⟩) h.na _,h.ra.set,h.rb.keep (A0p gb h.ne.symm) sI,ha.keep (λb hb=>A0p b (hd b hb).1),h.ar.keep (λb hb=>A0p b (h.dr b hb).1),
  h.ro.keep ga (.inr (.inl rfl)) h.nra.symm sI rfl rfl rfl (λb hb=>A0p b hb),hd,h.dr,h.na,h.nb,h.nr,h.ne,h.nra,h.nrb⟩
theorem FlSt.setR (h:FlSt w U ga gb gr nr cr o lx P1 p1 q1 P2 p2 q2 rl rx Q1 k1 l1 Q2 k2 l2 rr) {y:TRat} {O1:Option AH} {o1 u1:Nat} {O2:Option AH} {o2 u2:Nat} {ry:List Nat}
  (ha:Agg U (AM #[AC y.1.1,S O1 o1 u1,S O2 o2 u2]) y ry) (hd:∀ b∈ry,b≠ga/\b≠gb/\b≠gr) :
  FlSt w (((U.setCell ⟨gb,0,I⟩ (AC y.1.1)).setCell ⟨gb,1,I⟩ (S O1 o1 u1)).setCell ⟨gb,2,I⟩ (S O2 o2 u2)) ga gb gr nr cr o lx P1 p1 q1 P2 p2 q2 rl y O1 o1 u1 O2 o2 u2 ry :=
 ⟨((h.bl.setCell (p:=⟨gb,0,I⟩) h.nb _).setCell (p:=⟨gb,1,I⟩) h.nb _).setCell (p:=⟨gb,2,I⟩) h.nb _,h.ra.keep (A0p ga h.ne) sI,h.rb.set,h.al.keep (λb hb=>A0p b (h.dl b hb).2.1),ha.keep (λb hb=>A0p b (hd b hb).2.1),
  h.ro.keep gb (.inr (.inr rfl)) h.nrb.symm sI rfl rfl rfl (λb hb=>A0p b hb),h.dl,hd,h.na,h.nb,h.nr,h.ne,h.nra,h.nrb⟩
theorem FlSt.push {g' W G:Nat} {X:List TRat} (h:FlSt w U ga gb gr nr cr o lx P1 p1 q1 P2 p2 q2 rl rx Q1 k1 l1 Q2 k2 l2 rr) (aa:RR (λb=>b=g'\/(b=gr\/(b=ga\/b=gb))) U' g' W G X) (D:U.grownBy U' (B gr)) (T:g'=gr\/g'=U.1.size) :
  FlSt w U' ga gb g' W G X lx P1 p1 q1 P2 p2 q2 rl rx Q1 k1 l1 Q2 k2 l2 rr:=by
 have E:∀ b,b≠gr->b<U.1.size->U'.1[b]?=U.1[b]?:=λb u Z=>D.block b Z (by intro e;injection e with e;exact u e);have H:=h.ra.1;have O:=h.rb.1;have ad:=h.bl.size;have d:∀ b,b≠gr->b<U.1.size->b≠g':=λb ab ac=>by rcases T with e|e<;>omega
 refine⟨h.bl.grown D oS (λk Y=>by injection Y with e;subst e;exact h.nr),h.ra.keep (E _ h.nra.symm H) D.size,h.rb.keep (E _ h.nrb.symm O) D.size,h.al.keep (λb u=>E b (h.dl b u).2.2 (h.al.lt b u)),h.ar.keep (λb u=>E b (h.dr b u).2.2 (h.ar.lt b u)),
  aa.weaken (λb _ u=>?_) (.inl rfl),λb u=>⟨(h.dl b u).1,(h.dl b u).2.1,d b (h.dl b u).2.2 (h.al.lt b u)⟩,λb u=>⟨(h.dr b u).1,(h.dr b u).2.1,d b (h.dr b u).2.2 (h.ar.lt b u)⟩,h.na,h.nb,?_,h.ne,(d ga h.nra.symm H).symm,(d gb h.nrb.symm O).symm⟩
 ·rcases u with e|e
  ·exact .inl e
  exact .inr (.inr e)
 rcases T with e|e;·rw[e];exact h.nr
 omega
end
end
theorem B4r (A:Option AH) (n c:Nat) (xs:List TRat) (bs:List Nat) (w:J) (Y:Sl w A n c xs bs) (aq:n<=144) (X:xs.any A2e=AF) :
  AR prog 130 #[S A n c] w (A0b w (AC AD)):=by
 have ae:=A_ Y;have ad:=A_ X;clear Y X;go_enter func130,ntmps130;go_wp2_with fail;go_loopg [7] n (λg s wr=>∃ i:Nat,i+g=n/\s=QS K i/\Hid (Bw w wr));case atStart=>exact⟨0,oS,rfl,CG _ _⟩
 case round =>
  obtain⟨i,W,rfl,h⟩:=hrel;rcases BN i n with b|b
  ·have aj:(i:Int)<n:=oS
   have ap:(0:Int)<=i:=oS;obtain⟨g,rfl⟩:∃ g,gk=g+1:=⟨gk - 1,oS⟩
   have ai:=A_ (by omega:i+1+g=n);obtain⟨am,aw,x,ak,ar,an,u1,al,au,ao,u2,ag,ah,Z,a0,E,G,O⟩:=TRat.elemA (ae.below h) b;have aa:=A_ (show(!x.den.isEmpty)=AD by have:=List.any_eq_false.1 ad x (CH Z);unfold A2e at this;simpa using this);have ac:=A_ O;subst ag;clear W b Z O;go_upto_region 4 with fail;refine Code.new λaf D=>?_;have H:=A_ D.b;have u:=A_ D.k;clear a0 E G ah D;obtain⟨a0,-⟩:=B_ u (j:=0) rfl;obtain⟨E,-⟩:=B_ u (j:=1) rfl;obtain⟨G,-⟩:=B_ u (j:=2) rfl;go_wp2_with fail;have C:=A2p _ x _ af (ac.below H);rw[aa.o]at C;refine C.mono ?_;clear C;rintro _ ax ⟨rfl,T⟩;have ab:=A_ (AI h (AI H T));clear T a0 E G;go_wp2_with fail;go_roundg g;case measure=>omega
   case rel=>exact⟨i+1,ai,gN,ab⟩
  obtain rfl:n=i:=oS;have aj:¬ ((n:Int)<n):=oS;clear W b;go_wp2;go_ret;exact⟨rfl,h⟩
theorem D3c (v:AJ) (r:TRat) (b:List Nat) (w:J) (T:Agg w v r b) :
  AR prog 248 #[v] w (A0c w (C3m r)):=by
 have aa:=A_ T;obtain⟨W,ah,ac,aM,X,ai,ad,aN,rfl,rfl,aA,aB⟩:=BK T;clear aA aB T;go_enter func248,ntmps248;go_wp2_with fail;have C:=A7s _ r _ ((w.alloc (AK #[AC r.1.1,S W ah ac,S X ai ad] 35)).alloc (AK #[AC AF,S I 0 0,S I 0 0] 35)) (aa.below Below.go);cases D:J_ r;·have aw:=A_ (by unfold C3m;rw[D];rfl:C3m r=A0h);rw[D]at C;refine C.mono ?_;clear C D;rintro _ u ⟨rfl,h⟩;obtain⟨ae,af⟩:=F_ h;have aC:w.1.size<u.1.size:=ltg h;have aD:w.1.size+1<u.1.size:=ltg h;go_wp2;refine BI (v:=AM #[AC AF,S I 0 0,S I 0 0]) (by simp[BO,results248,go_sem, *]) rfl ?_;rw[aw.o];exact A3e Below.go
 have au:=A_ (by unfold C3m;rw[D];rfl:C3m r=⟨A0f (-R_ r),r.2⟩);have V:=A_ (ratOkB_iff.1 D);have L:=A_ (show(⟨A0f (-R_ r),r.2⟩:TRat).1.2.length<=1048576/\(⟨A0f (-R_ r),r.2⟩:TRat).2.length<=1048576 by have e:A0f (-R_ r)=⟨!r.num.neg&&!r.num.mag.isEmpty,r.1.2⟩:=B9l V.1;rw[e];exact⟨by have:=V.num24;show r.1.2.length<=_;omega,by have:=V.o.den24;show r.2.length<=_;omega⟩);rw[D]at C;refine C.mono ?_;clear C D;rintro _ u ⟨rfl,h⟩;obtain⟨ae,af⟩:=F_ h;have aC:w.1.size<u.1.size:=ltg h;have aD:w.1.size+1<u.1.size:=ltg h;have Y:=A_ (show Bw w u from Below.go);have aq:=A_ (show u.1[w.1.size+1]?=B (AK #[AC AF,S I 0 0,S I 0 0] 35) by have:=CF (w.alloc (AK #[AC r.1.1,S W ah ac,S X ai ad] 35)) (AK #[AC AF,S I 0 0,S I 0 0] 35);rw[World.size_alloc]at this;exact K_ this h);go_wp2_with fail;refine(B7f _ r _ u (aa.below Y) V.1).mono ?_;rintro _ aj ⟨v2,aO,rfl,E,H⟩;have ab:=A_ (K_ aq H);have an:=A_ (AI Y H);obtain⟨aG,m1,aJ,u1,aH,m2,aK,u2,rfl,aE,_,_⟩:=BK E;go_wp2_with fail;refine(A3n _ _ _ aj E L.1 L.2).mono ?_;rintro _ w3 ⟨aS,aP,rfl,G,ag,O⟩;obtain⟨ak,n1,ax,aQ,al,n2,ay,aR,rfl,aF,_,_⟩:=BK G;have ar:=A_ (K_ ab O);have ao:=A_ (AI an O);have am:=A_ G;have Z:=A_ ag;have ap:=A_ (by have:=E_ ab;omega:w.1.size+2<=aj.1.size);obtain⟨aT,aU,aL⟩:=bx ar;clear E H G ag O aE aF h ae af;have aI:=ao.o;go_wp2;refine BI (v:=AM #[AC (⟨A0f (-R_ r),r.2⟩:TRat).1.1,S ak n1 ax,S al n2 ay]) (by simp[BO,results248,go_sem, *]) rfl ?_;rw[au.o];refine A1s (lo:=w.1.size+2) am Z.free (λb az=>by have:=(Z.2 b az).1;have:=ap.o;omega) oS ?_ ?_;·exact Above.go
 exact Below.go
end Go.Proofs.YtbkilakncnlebaaGreatDoor.X
