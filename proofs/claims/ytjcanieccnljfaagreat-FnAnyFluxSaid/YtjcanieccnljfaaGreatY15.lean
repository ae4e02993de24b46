/- A part of the proof. -/
import Derived.Test.YtjcanieccnljfaaGreatY14
import Derived.Test.YtjcanieccnljfaaGreatY13
set_option linter.constructorNameAsVariable false
set_option maxHeartbeats 16000000
set_option maxRecDepth 10000
open Bool renaming false→AH,true→AF
open Go renaming Addr→AJ,Calls→BL,Oper→CZ,TypeId→CV,Value→AU,World→AD,bodyPost_ret→CK,heap_alloc_new→DB,maxLen→BS,results→CO,wpList→GH
open Go.IntKind renaming i64→K
open Go.Obj renaming cells→BG
open Go.RowKit.Below renaming refl→DI,trans→JK
open Go.Value renaming agg→BJ,bool→J,int→N,slice→S
open Go.World renaming cell?_of_block→JY,frozen?_of_block→QJ,size_alloc→FU
open Go.World.ownsRow renaming cellAt→PU,lt→FG,stored→MM
open Go.XB.Below renaming box→BP,next→BH
open Go.XB.Dat renaming sz→DZ
open Go.XB.MP renaming agg→CH
open Go.XB.TPoint renaming agg→EW,elemA→GD
open Go.XB.TRat renaming agg→CF,elemA→IM
open List renaming all_eq_true→CU,dropLast→DN,getD_eq_getElem?_getD→EH,getElem?_eq_getElem→DU,getElem?_eq_some_iff→DM,getLast→DO,length→DQ,mem_of_getElem?→DH,replicate→DK
open Nat renaming le_trans→CJ,lt_or_ge→CG,lt_succ_self→ME
open Option renaming none→I,some→QZ
namespace Go.Proofs.YtjcanieccnljfaaGreat.X
open Go.RowKit Go.XB Go.XN Proofs.Tryz
attribute [local go_sem] L_ opAt N_ M_ Region.wanted yielded ix0 ix1 ix2
attribute [local simp] N_ M_ MP.eq MP.agg MP.sl A0r
def A8k (us:List Bool) (t:TTri):Nat->List Bool
 |0=>us
 |1=>us.set t.a.toNat AF
 |2=>(us.set t.a.toNat AF).set t.b.toNat AF
 |_=>((us.set t.a.toNat AF).set t.b.toNat AF).set t.c.toNat AF
def A4t (n:Nat) (ts:List TTri):Nat->List Bool
 |0=>DK n AH
 |k+1=>A8k (A4t n ts k) (ts.getD k ⟨0,0,0,0,0⟩) 3
theorem B1y (us:List Bool) (t:TTri) (i:Nat):(A8k us t i).length=us.length:=by
 unfold A8k;split<;>simp
theorem B3u (n:Nat) (ts:List TTri):∀ k,(A4t n ts k).length=n
 |0=>by simp[A4t]
 |k+1=>by rw[A4t,B1y,B3u]
structure MeshI (m:TMesh) (xs ys:List Int):Prop where
 pts:E5p m.1 xs ys
 sx:A6a xs
 sy:A6a ys
 n3:3<=m.1.length
 n40:m.1.length<=40
 ok:m.1.all A1b=AF
 nd:m.1.Nodup
 t1:1<=m.triangles.length
 t48:m.triangles.length<=48
 tri:∀ t∈m.triangles,A5v m.1.length t/\inB 0 t.4 2=AF/\inB 0 t.5 60=AF/\0<A5u xs ys t.a t.b t.c
 sep:∀ (k:Nat) (t:TTri) (j:Nat) (s:TTri),m.triangles[k]?=QZ t->j<k->m.triangles[j]?=QZ s->B9s xs ys s t=AF\/B9s xs ys t s=AF
 used:A4t m.1.length m.triangles m.triangles.length=DK m.1.length AF
 noin:∀ t∈m.triangles,E9p xs ys m.1.length t
theorem D1p:(prog.info? 4).map (λi=>(i.zero,i.size,i.bytes))=QZ (QZ (J AH),1,1):=kR
def BRow (w:AD) (base g n:Nat) (fs:List Bool):Prop:=w.ownsRow base 4 1 (S (QZ ⟨g,0,I⟩) n n) n (fs.map J)
theorem B6q (n:Nat):(madeCells (AU.bool AH).cells (n*1)).toList=(DK n AH).map J:=by
 rw[List.map_replicate];refine List.eq_replicate_iff.2 ⟨by simp[size_madeCells],λh b=>?_⟩;simp only[madeCells,Array.toList_map,List.mem_map]at b;obtain⟨a,_,rfl⟩:=b;have:(AU.bool AH).cells=#[J AH]:=rfl;simp[this,Nat.mod_one]
theorem BRow.cell {w:AD} {base g n:Nat} {b:List Bool} (h:BRow w base g n b) {j:Nat} {f:Bool} (u:b[j]?=QZ f):w.cell? ⟨g,j,I⟩=QZ (J f)/\w.frozen? ⟨g,j,I⟩=AH:=by
 have D:=(DM.1 u).1;have E:b.length=n*1:=by have:=h.1;simpa using this
 exact⟨by rw[PU h j oS,List.getElem?_map,u];rfl,World.ownsRow.frozenAt h j⟩
theorem BRow.lt {w:AD} {base g n:Nat} {fs:List Bool} (h:BRow w base g n fs):g<w.1.size:=(FG h _ rfl).2
theorem BRow.set {w:AD} {base g n:Nat} {b:List Bool} (h:BRow w base g n b) (j:Nat) (f:Bool):BRow (w.setCell ⟨g,j,I⟩ (J f)) base g n (b.set j f):=by
 unfold BRow;rw[List.map_set];exact(MM h j _).1
theorem BRow.below {w w':AD} {base g n:Nat} {fs:List Bool} (h:BRow w base g n fs) (hb:Bw w w'):BRow w' base g n fs:=I_ h hb

theorem D6i (g n:Nat) (w:AD) (h:∀ j,j<n->w.cell? ⟨g,j,I⟩=QZ (J AF)) (O:g<w.1.size) (W:n<=40) :
  BL prog 138 #[S (QZ ⟨g,0,I⟩) n n,J AH] w (A0b w (N K (-1))):=by
 have D:=A_ h;clear h;go_enter func138,ntmps138;go_wp2_with fail;go_loopg [8] n (λg s wr=>∃ k:Nat,k+g=n/\s=N K k/\wr=w);case atStart=>exact⟨0,oS,rfl,rfl⟩
 case round =>
  obtain⟨k,u,rfl,rfl⟩:=hrel;rcases CG k n with b|b
  ·have G:(k:Int)<n:=oS
   have T:(k:Int)<=40:=oS;have H:=D k b;obtain⟨g,rfl⟩:∃ g,gk=g+1:=⟨gk - 1,oS⟩
   have E:=A_ (by omega:k+1+g=n);clear u b;go_wp2_with fail;go_roundg g;case measure=>omega
   case rel=>exact⟨k+1,E,gN,rfl⟩
  obtain rfl:k=n:=oS;have G:¬ ((k:Int)<k):=oS;clear u b;go_wp2;go_ret;exact⟨rfl,DI _ _⟩
theorem C8y (g n:Nat) (w:AD) (b:∀ j,j<n->w.cell? ⟨g,j,I⟩=QZ (J AF)) (u:g<w.1.size) (D:n<=40) :
  BL prog 70 #[S (QZ ⟨g,0,I⟩) n n,J AH] w (A0b w (J AH)):=by
 have C:=A_ (D6i g n w b u D);clear b;go_enter func70,ntmps70;go_wp2_with fail;refine C.mono ?_;rintro _ E ⟨rfl,h⟩;go_wp2;go_ret;exact⟨rfl,h⟩

theorem B1u (v:AU) (m:TMesh) (b:List Nat) (xs ys:List Int) (w:AD) (bF:Agg w v m b) (an:MeshI m xs ys):BL prog 23 #[v] w (A0b w (J AF)):=by
 obtain⟨af,h,aj,bH,aF,n1,ab,cE,rfl,rfl,aZ,H⟩:=TMesh.agg bF;have bn:=A_ aZ;have aU:=A_ H;have u:=A_ an;have aN:=aZ.1;have aO:=H.1;have ay:=A_ aN;have bR:=A_ aO;have cn:3<=h:=by rw[<-aN];exact an.n3
 have aE:h<=40:=by rw[<-aN];exact an.n40
 have hm1:1<=n1:=by rw[<-aO];exact an.t1
 have cm:n1<=48:=by rw[<-aO];exact an.t48
 have cZ:n1<=ab:=H.2.1;have cY:(h:Int)<=40:=oS;have cX:(n1:Int)<=48:=oS;have bW:=A_ (by unfold inB;simp;omega:inB 1 n1 48=AF);obtain⟨bG,cg,ct,cu,cv⟩:=info_parts D1p;have b2:=A_ (by rw[cv];omega:bG.bytes*h<=281474976710656);have bX:=A_ (by unfold BS;omega:h<=BS);clear bF aZ H an aN aO;go_enter func23,ntmps23;go_wp2_with fail;refine(C4p af h aj m.1 bH _ (bn.below Below.go) u.ok u.nd cn aE).mono ?_;rintro _ bc ⟨rfl,aX⟩;obtain⟨b5,ca⟩:=F_ aX;have dc:w.1.size<bc.1.size:=ltg aX;have bO:=A_ (show Bw w bc from Below.go);go_wp2_with fail;have C:=A0s n1 1 48 bc;rw[bW.o]at C;refine C.mono ?_;clear C;rintro _ bK ⟨rfl,G⟩;obtain⟨b6,cb⟩:=F_ G;have dd:w.1.size<bK.1.size:=ltg G;have bi:=A_ (BH bO G);go_wp2_with fail;refine(D4p af h aj m.1 bH xs ys bK (bn.o.below bi.o) u.o.pts u.o.sx u.o.sy aE oS).mono ?_;rintro _ w3 ⟨dm,rfl,bD,ad⟩;have aT:=A_ bD;obtain⟨A,ak,ah,aq,al,ai,ar,am,cG,cH,rfl,b3,b4⟩:=bD;clear b3 b4;obtain⟨b7,cc⟩:=F_ ad;have ap:w.1.size<w3.1.size:=ltg ad;have aa:=A_ (BH bi ad);have a5:w3.cell? ⟨w.1.size,0,I⟩=QZ (S af h aj):=oD;have k1:w3.cell? ⟨w.1.size,1,I⟩=QZ (S aF n1 ab):=oD;clear b5 ca b6 cb b7 cc aX G ad;go_upto_region 4 with fail;have cs:w.1.size<=(w3.alloc (BG #[S A h ak,S (QZ ⟨ah,aq,I⟩) h al,S (QZ ⟨ai,ar,I⟩) h am] 105)).1.size:=oR;go_upto_region 5 with(at_make;(refine wpList_make_full _ rfl _ _ 107 rfl w.1.size 4 bG (J AH) 1 underlying107 cg ct cu .i64 .i64 _ _ h rfl rfl rfl rfl b2 bX cs ?_);intro X aP bz)
 rw[B6q]at aP;rw[FU]at aP;have aA:=(DI (w3.1.size+1) (w3.alloc (BG #[S A h ak,S (QZ ⟨ah,aq,I⟩) h al,S (QZ ⟨ai,ar,I⟩) h am] 105))).grown bz sI (by intro k aL;cases aL);have bd:=A_ (show BRow X w.1.size (w3.1.size+1) h (A4t h m.triangles 0)from aP);have aS:=A_ (show Bw w3 X from(BP _).trans (aA.mono oS));have W:X.cell? ⟨w3.1.size,0,I⟩=QZ (S A h ak):=(aA.cell (p:=⟨w3.1.size,0,I⟩) (ME _)).trans oD;have p1:X.cell? ⟨w3.1.size,1,I⟩=QZ (S (QZ ⟨ah,aq,I⟩) h al):=(aA.cell (p:=⟨w3.1.size,1,I⟩) (ME _)).trans oD;have p2:X.cell? ⟨w3.1.size,2,I⟩=QZ (S (QZ ⟨ai,ar,I⟩) h am):=(aA.cell (p:=⟨w3.1.size,2,I⟩) (ME _)).trans oD;have a3:X.cell? ⟨w.1.size,0,I⟩=QZ (S af h aj):=(aS.cell (p:=⟨w.1.size,0,I⟩) ap).trans a5;have a4:X.cell? ⟨w.1.size,1,I⟩=QZ (S aF n1 ab):=(aS.cell (p:=⟨w.1.size,1,I⟩) ap).trans k1;have da:w3.1.size+1<X.1.size:=bd.lt;have di:w.1.size<X.1.size:=oS;clear aP bz aA;go_wp2_with fail;go_loopg [32] n1 (λg s wr=>∃ k:Nat,k+g=n1/\s=N K k/\Hid (BRow wr w.1.size (w3.1.size+1) h (A4t h m.triangles k))/\Bw w3 wr/\(wr.cell? ⟨w3.1.size,0,I⟩=QZ (S A h ak)/\wr.cell? ⟨w3.1.size,1,I⟩=QZ (S (QZ ⟨ah,aq,I⟩) h al)/\wr.cell? ⟨w3.1.size,2,I⟩=QZ (S (QZ ⟨ai,ar,I⟩) h am)));case atStart=>exact⟨0,oS,rfl,bd.o,aS.o,⟨W,p1,p2⟩⟩
 case round =>
  clear W p1 p2 a3 a4;obtain⟨k,aL,rfl,aC,ac,⟨W,p1,p2⟩⟩:=hrel;have bN:=A_ ac;have bl:=A_ (BH aa ac);have bm:=A_ (aT.below ac);have a3:wr.cell? ⟨w.1.size,0,I⟩=QZ (S af h aj):=(ac.cell (p:=⟨w.1.size,0,I⟩) ap).trans a5;have a4:wr.cell? ⟨w.1.size,1,I⟩=QZ (S aF n1 ab):=(ac.cell (p:=⟨w.1.size,1,I⟩) ap).trans k1;have db:w3.1.size+1<wr.1.size:=aC.lt;have dg:w.1.size<wr.1.size:=oS;have dh:w3.1.size<wr.1.size:=oS;rcases CG k n1 with aM|aM
  ·rename AD=>D
   have ck:(k:Int)<n1:=oS;have cW:(0:Int)<=k:=oS;have cU:(k:Int)<=48:=oS;have cV:(k:Int)<=ab:=oS;obtain⟨bY,cB,t,bZ,cO,aQ,cJ,cK,cL,cM,cN,aW⟩:=TTri.elemA (aU.below bl) aM;subst bZ;have bf:=A_ aW;have bh:=A_ (show ∀ bq:AD,Agg bq (BJ #[N K t.a,N K t.b,N K t.c,N K t.4,N K t.5]) t []from λbq=>by obtain⟨_,_,cw,cx,cy,cz,cA⟩:=TTri.agg aW;exact TTri.mkAgg cw cx cy cz cA);have bU:=A_ aQ;have aG:=A_ (u.tri t (DH aQ));have O:=A_ (by have:=aG.1;rwa [ay.o]at this:A5v h t);have bV:=A_ (show A8k (A4t h m.triangles k) t 3=A4t h m.triangles (k+1) by rw[A4t,EH,aQ];rfl);obtain⟨g,rfl⟩:∃ g,gk=g+1:=⟨gk - 1,oS⟩
   have cj:=A_ (by omega:k+1+g=n1);clear aL aM aQ aW ac;go_wp2_with fail;refine(C3j _ h xs ys _ t _ (D.alloc (BG #[N K t.a,N K t.b,N K t.c,N K t.4,N K t.5] 109)) (bm.below (BP _)) u.sx u.sy aE (bf.below (BP _)) O aG.2.1 aG.2.2.1 aG.2.2.2).mono ?_;rintro _ Y ⟨rfl,T⟩;obtain⟨bu,bv⟩:=F_ T;have aw:=A_ (show Bw D Y from JK (BP _) (T.mono sI));have c1:D.1.size<Y.1.size:=by have:=T.size;simp at this;omega
   go_wp2_with fail;refine(A2g _ t _ Y (bf.below aw)).mono ?_;rintro _ aR ⟨rfl,aB⟩;obtain⟨b8,cd⟩:=F_ aB;have bj:=A_ (BH aw aB);have cp:D.1.size<aR.1.size:=by have:=aB.size;omega
   have c5:w.1.size<aR.1.size:=oS;have c6:w3.1.size<aR.1.size:=oS;have c2:w.1.size<Y.1.size:=oS;have c4:w3.1.size<Y.1.size:=oS;go_wp2_with fail;go_loopg [43] 3 (λg s wr=>∃ i:Nat,i+g=3/\s=N K i/\Hid (BRow wr w.1.size (w3.1.size+1) h (A8k (A4t h m.triangles k) t i))/\Bw w3 wr/\D.1.size<wr.1.size/\(wr.cell? ⟨w3.1.size,0,I⟩=QZ (S A h ak)/\wr.cell? ⟨w3.1.size,1,I⟩=QZ (S (QZ ⟨ah,aq,I⟩) h al)/\wr.cell? ⟨w3.1.size,2,I⟩=QZ (S (QZ ⟨ai,ar,I⟩) h am)/\wr.cell? ⟨D.1.size,0,I⟩=QZ (N K t.a)/\wr.cell? ⟨D.1.size,1,I⟩=QZ (N K t.b)/\wr.cell? ⟨D.1.size,2,I⟩=QZ (N K t.c)/\wr.cell? ⟨D.1.size,3,I⟩=QZ (N K t.4)/\wr.cell? ⟨D.1.size,4,I⟩=QZ (N K t.5)));case atStart=>exact⟨0,rfl,rfl,aC.below bj,BH bN bj,cp,⟨oD,oD,oD,oD,oD,oD,oD,oD⟩⟩
   case round =>
   clear bu bv b8 cd W p1 p2;obtain⟨i,aI,rfl,E,G,ao,⟨W,p1,p2,a6,a7,a8,a9,ba⟩⟩:=hrel;have bP:=A_ G;obtain rfl|rfl|rfl|rfl:i=0\/i=1\/i=2\/i=3:=oS
   ·obtain rfl:gk=2+1:=oS
    have br:=O.1.1;have az:=O.1.2;have aD:=E.cell (j:=t.a.toNat) (f:=(A8k (A4t h m.triangles k) t 0).getD t.a.toNat AH) (by rw[EH,DU (by rw[B1y,B3u];omega)];rfl);obtain⟨bI,bJ⟩:=aD;have au:=A_ (show BRow (wr.setCell ⟨w3.1.size+1,t.a.toNat,I⟩ (J AF)) w.1.size (w3.1.size+1) h (A8k (A4t h m.triangles k) t (0+1))from E.set _ _);have aa:=A_ (show Bw w3 (wr.setCell ⟨w3.1.size+1,t.a.toNat,I⟩ (J AF))from G.setCell (p:=⟨w3.1.size+1,t.a.toNat,I⟩) (by omega:w3.1.size<=w3.1.size+1) _);have bB:=E.lt;clear aI;go_wp2_with fail;go_roundg 2;case measure=>omega
    case rel=>exact⟨0+1,rfl,gN,au.o,aa.o,by simpa using ao,⟨oD,oD,oD,oD,oD,oD,oD,oD⟩⟩
   ·obtain rfl:gk=1+1:=oS
    have br:=O.2.1.1;have az:=O.2.1.2;have aD:=E.cell (j:=t.b.toNat) (f:=(A8k (A4t h m.triangles k) t 1).getD t.b.toNat AH) (by rw[EH,DU (by rw[B1y,B3u];omega)];rfl);obtain⟨bI,bJ⟩:=aD;have au:=A_ (show BRow (wr.setCell ⟨w3.1.size+1,t.b.toNat,I⟩ (J AF)) w.1.size (w3.1.size+1) h (A8k (A4t h m.triangles k) t (1+1))from E.set _ _);have aa:=A_ (show Bw w3 (wr.setCell ⟨w3.1.size+1,t.b.toNat,I⟩ (J AF))from G.setCell (p:=⟨w3.1.size+1,t.b.toNat,I⟩) (by omega:w3.1.size<=w3.1.size+1) _);have bB:=E.lt;clear aI;go_wp2_with fail;go_roundg 1;case measure=>omega
    case rel=>exact⟨1+1,rfl,gN,au.o,aa.o,by simpa using ao,⟨oD,oD,oD,oD,oD,oD,oD,oD⟩⟩
   ·obtain rfl:gk=0+1:=oS
    have br:=O.2.2.1;have az:=O.2.2.2;have aD:=E.cell (j:=t.c.toNat) (f:=(A8k (A4t h m.triangles k) t 2).getD t.c.toNat AH) (by rw[EH,DU (by rw[B1y,B3u];omega)];rfl);obtain⟨bI,bJ⟩:=aD;have au:=A_ (show BRow (wr.setCell ⟨w3.1.size+1,t.c.toNat,I⟩ (J AF)) w.1.size (w3.1.size+1) h (A8k (A4t h m.triangles k) t (2+1))from E.set _ _);have aa:=A_ (show Bw w3 (wr.setCell ⟨w3.1.size+1,t.c.toNat,I⟩ (J AF))from G.setCell (p:=⟨w3.1.size+1,t.c.toNat,I⟩) (by omega:w3.1.size<=w3.1.size+1) _);have bB:=E.lt;clear aI;go_wp2_with fail;go_roundg 0;case measure=>omega
    case rel=>exact⟨2+1,rfl,gN,au.o,aa.o,by simpa using ao,⟨oD,oD,oD,oD,oD,oD,oD,oD⟩⟩
   clear aI;have cD:wr.cell? ⟨w.1.size,0,I⟩=QZ (S af h aj):=(G.cell (p:=⟨w.1.size,0,I⟩) ap).trans a5;have q1:wr.cell? ⟨w.1.size,1,I⟩=QZ (S (QZ ⟨bY,cB,I⟩) n1 ab):=(G.cell (p:=⟨w.1.size,1,I⟩) ap).trans k1;have co:w.1.size<wr.1.size:=by have:=E.lt;omega
   have bL:=A_ (by rw[<-bV.o];exact E:BRow wr w.1.size (w3.1.size+1) h (A4t h m.triangles (k+1)));clear a3 a4 aC E;go_wp2_with fail;go_loopg [55] k (λg s wr=>∃ j:Nat,j+g=k/\s=N K j/\Hid (BRow wr w.1.size (w3.1.size+1) h (A4t h m.triangles (k+1)))/\Bw w3 wr/\D.1.size<wr.1.size/\(wr.cell? ⟨w3.1.size,0,I⟩=QZ (S A h ak)/\wr.cell? ⟨w3.1.size,1,I⟩=QZ (S (QZ ⟨ah,aq,I⟩) h al)/\wr.cell? ⟨w3.1.size,2,I⟩=QZ (S (QZ ⟨ai,ar,I⟩) h am)/\wr.cell? ⟨D.1.size,0,I⟩=QZ (N K t.a)/\wr.cell? ⟨D.1.size,1,I⟩=QZ (N K t.b)/\wr.cell? ⟨D.1.size,2,I⟩=QZ (N K t.c)/\wr.cell? ⟨D.1.size,3,I⟩=QZ (N K t.4)/\wr.cell? ⟨D.1.size,4,I⟩=QZ (N K t.5)));case atStart=>exact⟨0,oS,rfl,bL.o,bP.o,ao,⟨W,p1,p2,a6,a7,a8,a9,ba⟩⟩
   case round =>
    clear W p1 p2 a6 a7 a8 a9 ba cD q1 co ao;obtain⟨j,aJ,rfl,aH,ad,ao,⟨W,p1,p2,a6,a7,a8,a9,ba⟩⟩:=hrel;have ax:=A_ ad;have bQ:=A_ (BH aa ad);have c0:w3.1.size<wr.1.size:=by have:=aH.lt;omega
    rcases CG j k with aK|aK
    ·have ch:(j:Int)<k:=oS
     have ci:j<n1:=oS;obtain⟨cI,dj,s,b0,cP,a2,u0,u1,u2,dk,dl,bt⟩:=TTri.elemA (aU.below bQ) ci;cases b0;have bg:=A_ bt;have bS:=A_ (u.sep k t j s bU aK a2);have bo:=A_ (by have:=(u.tri s (DH a2)).1;rwa [ay.o]at this:A5v h s);obtain⟨g',rfl⟩:∃ g',gk=g'+1:=⟨gk - 1,oS⟩
     have bA:=A_ (by omega:j+1+g'=k);have bE:=B5a _ h xs ys (BJ #[N K s.a,N K s.b,N K s.c,N K s.4,N K s.5]) (BJ #[N K t.a,N K t.b,N K t.c,N K t.4,N K t.5]) s t _ _ (wr.alloc (BG #[N K s.a,N K s.b,N K s.c,N K s.4,N K s.5] 109)) ((aT.below ax).below (BP _)) u.sx u.sy (bg.below (BP _)) (bh _) bo O;have bp:=A_ bE;clear aJ aK a2 bt bE;cases H:B9s xs ys s t
     ·have aV:=A_ H
      have bT:=A_ (show B9s xs ys t s=AF from(bS.o).resolve_left (by rw[H];simp));clear H;go_wp2_with fail;have C:=bp.o;rw[aV.o]at C;refine C.mono ?_;clear C;rintro _ Z ⟨rfl,ae⟩;obtain⟨b9,ce⟩:=F_ ae;have ag:=A_ (show Bw wr Z from JK (BP _) (ae.mono sI));have cq:wr.1.size<Z.1.size:=by have:=ae.size;simp at this;omega
      have c7:w3.1.size<Z.1.size:=oS;have c8:D.1.size<Z.1.size:=oS;go_wp2_with fail;have C:=B5a _ h xs ys (BJ #[N K t.a,N K t.b,N K t.c,N K t.4,N K t.5]) (BJ #[N K s.a,N K s.b,N K s.c,N K s.4,N K s.5]) t s _ _ Z ((aT.below ax).below ag) u.sx u.sy (bh _) (bg.below ag) O bo;rw[bT.o]at C;refine C.mono ?_;clear C;rintro _ cF ⟨rfl,aY⟩;obtain⟨cQ,cR⟩:=F_ aY;have bk:=A_ (BH ag aY);have c9:Z.1.size<=cF.1.size:=aY.size;go_wp2_with fail;go_roundg g';case measure=>omega
      case rel=>exact⟨j+1,bA.o,gN,aH.o.below bk.o,BH ax.o bk.o,oS,⟨oD,oD,oD,oD,oD,oD,oD,oD⟩⟩
     have aV:=A_ H;clear H;go_wp2_with fail;have C:=bp.o;rw[aV.o]at C;refine C.mono ?_;clear C;rintro _ Z ⟨rfl,ae⟩;obtain⟨b9,ce⟩:=F_ ae;have ag:=A_ (show Bw wr Z from JK (BP _) (ae.mono sI));have cq:wr.1.size<Z.1.size:=by have:=ae.size;simp at this;omega
     go_wp2_with fail;go_roundg g';case measure=>omega
     case rel=>exact⟨j+1,bA.o,gN,aH.o.below ag.o,BH ax.o ag.o,oS,⟨oD,oD,oD,oD,oD,oD,oD,oD⟩⟩
    obtain rfl:j=k:=oS;have ch:¬ ((j:Int)<j):=oS;clear aJ aK;go_wp2_with fail;go_roundg g;case measure=>omega
    case rel=>exact⟨j+1,cj,gN,aH,ax,⟨W,p1,p2⟩⟩
  obtain rfl:k=n1:=oS;have ck:¬ ((k:Int)<k):=oS;have be:=A_ (show BRow wr w.1.size (w3.1.size+1) h (DK h AF) by have az:=u.used;rw[ay.o,bR.o]at az;rw[<-az];exact aC);have bM:=A_ (C8y (w3.1.size+1) h wr (λj aJ=>(be.o.cell (j:=j) (f:=AF) (by rw[List.getElem?_replicate,if_pos aJ])).1) be.o.lt aE);clear aL aM ac aC;go_wp2_with fail;refine bM.mono ?_;rintro _ Y ⟨rfl,T⟩;obtain⟨bu,bv⟩:=F_ T;have de:w.1.size<Y.1.size:=by have:=T.size;omega
  have df:w3.1.size<Y.1.size:=by have:=T.size;omega
  have aw:=A_ (BH bl T);go_wp2_with fail;refine(C6x _ h xs ys aF k ab m.triangles cE Y (bm.below T) u.sx u.sy aE (aU.below aw) cm (λt a1=>by have:=(u.tri t a1).1;rwa [ay.o]at this) (λt a1=>by have:=u.o.noin t a1;rwa [ay.o]at this)).mono ?_;rintro _ aR ⟨rfl,aB⟩;go_wp2;go_ret;exact⟨rfl,BH aw aB⟩
section
section
variable {α:Type} [Dat α]
theorem E1t {w wr wa D:AD} {gB g' k:Nat} {cells cs:List AU} {fss:List (List Nat)} {ps:List α} {pt:α} {z:List Nat} (ah:Filled wr cells ps fss) (aa:ps.length=k) (ag:cells.length=k*DZ α) (H:Own w wr fss.flatten) (ab:gB∉fss.flatten) (W:Bw w wr) (aj:gB<wr.1.size) (af:w.1.size<=gB)
  (T:Bw wr wa) (Y:Dat.at_ wa cs pt z) (Z:Free wa z) (O:∀ b∈z,wr.1.size<=b) (X:wa.grownBy D (QZ gB)) (ac:g'=gB\/g'=wa.1.size) :
  Filled D (cells++cs) (ps++[pt]) (fss++[z])/\Own w D (fss++[z]).flatten/\g'∉(fss++[z]).flatten/\Bw w D/\(ps++[pt]).length=k+1:=by
 have ak:=T.size;have ae:∀ b∈z,b<wa.1.size:=Dat.lt Y;have G:∀ b∈fss.flatten,b<wr.1.size:=H.lt;have k1:∀ b∈fss.flatten,D.1[b]?=wr.1[b]?:=λb h=>(X.block b (by have:=G b h;omega) (by intro e;injection e with e;exact ab (e ▸ h))).trans (T.block b (G b h));have k2:∀ b∈z,D.1[b]?=wa.1[b]?:=λb h=>X.block b (ae b h) (by intro e;injection e with e;have:=O b h;omega);have ad:(fss++[z]).flatten=fss.flatten++z:=sI;refine⟨Filled.push (ah.keep k1) (by rw[ag,aa]) (Dat.keep Y k2),?_,?_,?_,by simp[aa]⟩;·rw[ad];refine Own.append ⟨H.1,λb h=>⟨(H.2 b h).1,by obtain⟨cs,t,e⟩:=(H.2 b h).2;exact⟨cs,t,(k1 b h).trans e⟩⟩⟩ ⟨Z.1,λb h=>⟨by have:=O b h;have:=W.size;omega,by obtain⟨cs,t,e⟩:=Z.2 b h;exact⟨cs,t,(k2 b h).trans e⟩⟩⟩ ?_;exact A9o G O
 ·rw[ad]
  intro u;rcases List.mem_append.1 u with u|u
  ·rcases ac with E|E
   ·exact ab (E ▸ u)
   have:=G _ u;omega
  rcases ac with E|E;·have:=O _ u;omega
  have:=ae _ u;omega
 exact(BH W T).grown X (by have:=W.size;omega) (λk2 ai=>by injection ai with u;subst u;exact af)
theorem D7z {w wr:AD} {base gB k cap:Nat} {e:CV} {cells:List AU} {fss:List (List Nat)} {ps:List α} (ab:wr.ownsRow base e (DZ α) (S (QZ ⟨gB,0,I⟩) k cap) k cells) (T:w.1.size<=base) (W:Filled wr cells ps fss) (Y:ps.length=k) (aa:Own w wr fss.flatten) (Z:gB∉fss.flatten) (O:Bw w wr):A0w w ps (.returned (S (QZ ⟨gB,0,I⟩) k cap)) wr:=by
 obtain⟨h,c',u,ad,ac,b⟩:=W.sl (α:=α) ab Y;refine⟨h,k,c',u,by rw[<-ad],ac,B7v (n:=k) (fss:=fss) ?_ aa,O⟩;rcases b with b|⟨g,D,E,G,H⟩;·exact .inl b
 refine .inr ⟨g,E,CJ T G,H,λX=>?_⟩;have e:gB=g:=by simpa[Value.ownBlock]using D
 exact Z (e ▸ X)
end
end
end Go.Proofs.YtjcanieccnljfaaGreat.X
namespace Go.XB
open Go.RowKit Go.Proofs.YtjcanieccnljfaaGreat.X
section
variable {α:Type} [Dat α]
def Pend (w wb:AD) (e:CV) (wr:AD) (gB i cap:Nat) (ps:List α):Prop :=
 ∃ cells fss,wr.ownsRow wb.1.size e (DZ α) (S (QZ ⟨gB,0,I⟩) i cap) i cells/\Filled wr cells ps fss/\ps.length=i/\Own w wr fss.flatten/\gB∉fss.flatten/\w.1.size<=wb.1.size/\Bw w wr/\Bw wb wr
variable {w wb wr wa:AD} {e:CV} {gB i cap:Nat} {ps:List α}
theorem Pend.start (hw:Bw w wb):Pend (α:=α) w wb e (wb.alloc (BG #[] e)) wb.1.size 0 0 [] :=
 ⟨[],[],World.ownsRow_made wb #[] 0 (Nat.le_refl _) (Nat.zero_le _) sI,Filled.nil _ _,rfl,Own.nil _ _,sI,hw.size,BH hw (BP _),BP _⟩
theorem Pend.below (h:Pend w wb e wr gB i cap ps) (b:Bw wr wa):Pend w wb e wa gB i cap ps:=by
 obtain⟨cells,fss,D,E,G,H,O,T,W,u⟩:=h;exact⟨cells,fss,I_ D b,E.below b,G,H.below b,O,T,BH W b,JK u (b.mono u.size)⟩
theorem Pend.bw (h:Pend w wb e wr gB i cap ps):Bw w wr:=by obtain⟨_,_,_,_,_,_,_,_,h,_⟩:=h;exact h
theorem Pend.bb (h:Pend w wb e wr gB i cap ps):Bw wb wr:=by obtain⟨_,_,_,_,_,_,_,_,_,h⟩:=h;exact h
theorem Pend.lt (h:Pend w wb e wr gB i cap ps):wb.1.size<=gB/\gB<wr.1.size:=by
 obtain⟨cells,fss,b,_⟩:=h;exact FG b _ rfl
theorem Pend.done (h:Pend w wb e wr gB i cap ps):A0w w ps (.returned (S (QZ ⟨gB,0,I⟩) i cap)) wr:=by
 obtain⟨cells,fss,b,u,D,E,G,H,O,T⟩:=h;exact D7z b H u D E G O
theorem Sl.pushed {β:Type} [Dat β] {A:Option AJ} {n c:Nat} {xs:List β} {bs:List Nat} {w8:AD} {g':Nat} (h:Sl wr A n c xs bs) (hC:Bw wr wa) (hg:wa.grownBy w8 (QZ gB)) (hor:g'=gB\/g'=wa.1.size) (hn:gB∉bs):Sl w8 A n c xs bs/\g'∉bs :=
 ⟨(h.below hC).keep (λb hb=>hg.block b (by have:=h.lt b hb;have:=hC.size;omega) (by intro e;injection e with e;exact hn (e ▸ hb))),λhb=>hor.elim (λe=>hn (e ▸ hb)) (λe=>by have:=h.lt _ hb;have:=hC.size;omega)⟩
end
end Go.XB
namespace Go
open Go.RowKit Go.XB Go.Proofs.YtjcanieccnljfaaGreat.X
theorem A1v {P:Program} {α:Type} [Dat α] {w wb wr wa:AD} {gB k cap:Nat} {ps:List α} {ab:Array CZ} {rest:List CZ} {o:CZ} {a:Act} {Q:Exit->Act->AD->Prop} (al:o.guard=I) (s x:Operand) (t:CV)
  (ao:o.op=.call { callee:=.builtin .append,args:=#[s,x],argTypes:=#[t,t] })
  (e:CV) (i:TypeInfo) (z:AU) (G:Nat) (ax:P.underlying t=QZ (.slice e)) (hi:P.info? e=QZ i) (az:i.zero=QZ z)
  (aw:i.size=DZ α) (ai:i.bytes=G) (aA:z.cells.size=DZ α) (aq:Pend w wb e wr gB k cap ps) (D:Bw wr wa) (au:a.eval s=S (QZ ⟨gB,0,I⟩) k cap)
  (E:AJ) (c:Nat) (cs:List AU) (pt:α) (zb:List Nat) (ay:a.eval x=S (QZ E) 1 c) (an:∀ j u,cs[j]?=QZ u->wa.cell? (E.add j)=QZ u)
  (T:Dat.at_ wa cs pt zb) (ak:Free wa zb) (ar:∀ b∈zb,wr.1.size<=b) (ag:k+1<=BS) (aj:(k+1)*G<=140737488355328)
  (h:∀ g' cap' w8,Pend w wb e w8 g' (k+1) cap' (ps++[pt])->wa.grownBy w8 (QZ gB)->(g'=gB\/g'=wa.1.size)->GH P ab Q rest (a.put o.dst (S (QZ ⟨g',0,I⟩) (k+1) cap')) w8):GH P ab Q (o::rest) a wa:=by
 obtain⟨cells,fss,H,ac,ad,ae,af,Y,ah,O⟩:=aq;have X:=FG H _ rfl;have aE:=D.size;have aa:wb.1.size<=wa.1.size:=by have:=O.size;omega
 refine A1m al s x t ao wb.1.size e i z (DZ α) G ax hi az aw ai aA Dat.pos gB k cap cells au (I_ H D) E 1 c cs ay (by rw[Nat.one_mul];exact Dat.len T) an (Dat.one T) ag aj aa ?_;intro g' cap' w8 ap W Z;refine h g' cap' w8 ?_ W Z;obtain⟨p1,p2,aB,aC,aD⟩:=E1t (w:=w) (g':=g') ac ad H.1 ae af ah X.2 (CJ Y X.1) D T ak ar W Z;exact⟨_,_,ap,p1,aD,p2,aB,Y,aC,(O.trans (D.mono O.size)).grown W aa (λk2 am=>by injection am with h;subst h;exact X.1)⟩
theorem C7w {P:Program} {α:Type} [Dat α] {w wb wr wa:AD} {gB k cap:Nat} {ps:List α} {H:Array CZ} {rest:List CZ} {o:CZ} {a:Act} {Q:Exit->Act->AD->Prop} {s x:Operand} {t e:CV} {z:AU} {E:Nat} {D:AJ} {cs:List AU} {pt:α} {zb:List Nat}
  (aa:o.guard=I) (ad:o.op=.call { callee:=.builtin .append,args:=#[s,x],argTypes:=#[t,t] }) (ah:P.underlying t=QZ (.slice e)) (X:(P.info? e).map (λi=>(i.zero,i.size,i.bytes))=QZ (QZ z,DZ α,E)) (ae:Pend w wb e wr gB k cap ps) (W:Bw wr wa)
  (ac:∀ j u,cs[j]?=QZ u->wa.cell? (D.add j)=QZ u) (Y:Dat.at_ wa cs pt zb) (Z:Free wa zb) (af:∀ b∈zb,wr.1.size<=b) (G:k+1<=BS/\(k+1)*E<=140737488355328)
  (h:∀ g' cap' w8,Hid (Pend w wb e w8 g' (k+1) cap' (ps++[pt]))->Hid (wa.grownBy w8 (QZ gB))->Hid (g'=gB\/g'=wa.1.size)->GH P H Q rest (a.put o.dst (S (QZ ⟨g',0,I⟩) (k+1) cap')) w8)
  (ag:a.eval s=S (QZ ⟨gB,0,I⟩) k cap:=by go_simp;done) (ai:a.eval x=S (QZ D) 1 1:=by go_simp;done)
  (ak:z.cells.size=DZ α:=by rfl):GH P H Q (o::rest) a wa:=by
 obtain⟨i,ab,aj,O,T⟩:=info_parts X;exact A1v aa s x t ad e i z E ah ab aj O T ak ae W ag D 1 cs pt zb ai ac Y Z af G.1 G.2 h
end Go

namespace Go.Proofs.YtjcanieccnljfaaGreat.X
open Go.RowKit Go.XB Go.XN Proofs.Tryz
def pt0:TPoint:=⟨A0h,A0h⟩
def Z_ (ps:List TPoint) (i:Int):TPoint:=ps.getD i.toNat pt0
def B5j (ps:List TPoint) (t:TTri):List TPoint:=[Z_ ps t.a,Z_ ps t.b,Z_ ps t.c]
attribute [local go_sem] L_ opAt N_ M_ Region.wanted yielded
attribute [local simp] N_ M_ MP.eq MP.agg MP.sl A0r
theorem E6o:(prog.info? 41).map (λi=>(i.zero,i.size,i.bytes))=QZ (QZ (BJ #[J AH,S I 0 0,S I 0 0,J AH,S I 0 0,S I 0 0]),6,112):=kR
theorem E4r {ps:List TPoint} {i:Nat} {x:TPoint} (h:ps[i]?=QZ x) {j:Int} (b:j.toNat=i):Z_ ps j=x:=by
 unfold Z_;rw[b];simp[List.getD,h]

theorem D3y (ps:List TPoint) (t:TTri) {i:Nat} (h:i<3):(B5j ps t).take (i+1)=(B5j ps t).take i++[Z_ ps (cnr t i)]:=by
 obtain rfl|rfl|rfl:i=0\/i=1\/i=2:=oS;all_goals rfl
theorem E8j {n:Nat} {t:TTri} (h:A5v n t):∀ i,0<=cnr t i/\cnr t i<n
 |0=>h.1
 |1=>h.2.1
 |_+2=>h.2.2
theorem A6s (v:AU) (m:TMesh) (b:List Nat) (k:Nat) (t:TTri) (w:AD) (ar:Agg w v m b) (Z:m.triangles[k]?=QZ t) (au:A5v m.1.length t) (am:m.1.all A1b=AF) (ah:m.1.length<=40) (ai:m.triangles.length<=48) :
  BL prog 102 #[v,N K k] w (A0w w (B5j m.1 t)):=by
 obtain⟨bl,h,bt,b0,bm,n1,bu,b3,rfl,rfl,G,H⟩:=TMesh.agg ar;have aL:=A_ G;have a9:k<n1:=by rw[<-H.1];exact(DM.1 Z).1
 have bO:h<=40:=by rw[<-G.1];exact ah
 have bQ:n1<=48:=by rw[<-H.1];exact ai
 have aN:=A_ (by rw[<-G.1];exact au:A5v h t);have aA:=A_ am;obtain⟨aS,bY,bj,rfl,bH,ab,aY,aZ,a1,a2,a3,ak⟩:=TTri.elemA H a9;obtain rfl:t=bj:=by rw[Z]at ab;exact Option.some.inj ab
 have aG:=A_ ak;have bN:(k:Int)<n1:=oS;have bM:(n1:Int)<=48:=oS;have bP:(h:Int)<=40:=oS;have aR:=A_ (by unfold inB;simp;omega:inB 0 (k:Int) ((n1:Int) - 1)=AF);clear ar Z au am ah ai G H ak ab;go_enter func102,ntmps102;go_wp2_with fail;refine BL.new λw0 W=>?_;have C:=A0s k 0 ((n1:Int) - 1) w0;rw[aR.o]at C;refine C.mono ?_;clear C;rintro _ O ⟨rfl,Y⟩;have af:=A_ (A0z W.k Y);have u:=A_ (BH W.b Y);have bI:aS<O.1.size:=by have:=u.size;omega
 obtain⟨k1,-,l1⟩:=bx af;obtain⟨a5,a7⟩:=F_ u;clear Y W;go_wp2_with fail;have ag:=A_ (Pend.start (α:=TPoint) (e:=41) u);refine(A2g _ t _ (O.alloc (BG #[] 41)) (aG.below (u.alloc u.size _))).mono ?_;rintro _ b7 ⟨rfl,an⟩;have P2:=A_ (ag.below an);clear an ag a5 a7 k1 aY aZ a1 a2 a3;go_wp2_with fail;go_loopg [5,22] 3 (λg s5 s wr=>∃ (i gB cap:Nat),i+g=3/\s=N K i/\s5=S (QZ ⟨gB,0,I⟩) i cap/\Hid (Pend w O 41 wr gB i cap ((B5j m.1 t).take i)));case atStart=>exact⟨0,O.1.size,0,rfl,rfl,rfl,P2⟩
 case round =>
  clear P2;obtain⟨i,gB,cap,ap,rfl,rfl,D⟩:=hrel;obtain⟨k2,-,l2⟩:=bx (A0z af D.bb);rcases CG i 3 with X|X
  ·obtain⟨gk,rfl⟩:∃ g,gk=g+1:=⟨gk - 1,oS⟩
   have aJ:=A_ (by omega:i+1+gk=3);have bK:(i:Int)<3:=oS;have bL:=λw=>ixn t X w;have aQ:=A_ (D3y m.1 t X);obtain⟨bR,bS⟩:=E8j aN i;generalize cnr t i=a at *;have aM:=A_ (by unfold inB;simp;omega:inB 0 a ((h:Int) - 1)=AF);obtain⟨br,bZ,x,bn,bU,bv,bD,bo,bV,bz,bE,bp,bW,bA,bF,bq,bX,bB,bG,rfl,bJ,ac,bf,p1,p2,bg,bh,bi,al⟩:=GD (aL.o.below D.o.bw) (by omega:a.toNat<h);have aH:=A_ al;have aP:=A_ (E4r ac rfl);have aO:=A_ (show A1b x=AF from CU.1 aA x (DH ac));have aB:=A_ (by unfold BS;omega:i+1<=BS/\(i+1)*112<=140737488355328);clear ap ac al;go_wp2_with fail;have C:=A0s a 0 ((h:Int) - 1) wr;rw[aM.o]at C;refine C.mono ?_;clear C;rintro _ w3 ⟨rfl,E⟩;obtain⟨a6,a8⟩:=F_ E;have bT:w.1.size<w3.1.size:=by have:=E.size;omega
   have T:=A_ E;go_wp2_with fail;refine(B5c _ x _ w3 (aH.below T) aO).mono ?_;rintro _ bk ⟨b6,ay,rfl,aj,aa,ao⟩;obtain⟨aC,ba,aT,u1,aD,bc,aU,u2,aE,bd,aV,b4,aF,be,aW,b5,rfl,az,q1,q2,aw,ax⟩:=EW aj;have ad:=A_ (by rw[az];exact TPoint.shut q1 q2 aw ax:Dat.at_ bk [J x.x.1.1,S aC ba aT,S aD bc aU,J x.y.1.1,S aE bd aV,S aF be aW] x ay);have aI:=A_ aa.free;have aK:=A_ (show ∀ b∈ay,wr.1.size<=b from λb a4=>CJ T.size (aa.2 b a4).1);have ae:=A_ (BH T ao);clear a6 a8 E aj aa ao az q1 q2 aw ax bf p1 p2 bg bh bi k2;go_wp2_with (at_builtin;refine C7w rfl rfl underlying23 E6o D (ae.alloc ae.size _) (A0a (DB _ _)) (Dat.keep ad (λg hg=>Below.heap_alloc _ _ _ (Dat.lt ad g hg))) (aI.below (BP _)) aK aB ?_;intro g' aX b8 aq _ _);rw[<-aP.o,<-aQ.o]at aq;go_wp2_with fail;go_roundg gk;case measure=>omega
   case rel=>exact⟨i+1,g',aX,aJ,gN,rfl,aq⟩
  obtain rfl:i=3:=oS;clear ap k2;go_wp2;go_ret;exact D.done
def A3l (l:List TPoint) (fs:List TRat) (z:TPoint):Nat->TPoint
 |0=>ptI 0 0
 |k+1=>A3y (A3l l fs z k) (A0v (fs.getD k A0h) (A4a z (l.getD k pt0)))
def A2q (a b c:TPoint) (fs:List TRat) (z:TPoint):TPoint:=A0v (A3u (U_ 1) (A2y a b c)) (A3l [a,b,c] fs z 3)
theorem O_ {w w':AD} {b:Nat} {o:Obj} (h:w.1[b]?=QZ o) (hb:Bw w w'):w'.1[b]?=QZ o:=(hb.block b (E_ h)).trans h
theorem E1v:J_ (U_ 1)=AF:=ratOkB_iff.2 (D6r dE dE)

theorem D6l (A:Option AJ) (c:Nat) (h b1 u:TPoint) (bs:List Nat) (B:Option AJ) (d:Nat) (G:List TRat) (cc:List Nat) (bt:AU) (z:TPoint) (b7:List Nat) (w:AD) (bj:Sl w A 3 c [h,b1,u] bs) (bc:Sl w B 3 d G cc) (aQ:Agg w bt z b7)
  (a9:J_ (A2y h b1 u)=AF) (ba:(A2y h b1 u).1.2≠[]) :
  BL prog 163 #[S A 3 c,S B 3 d,bt] w (A0c w (A2q h b1 u G z)):=by
 have aD:=A_ bj;have bF:=A_ bc;have bJ:=A_ aQ;have bD:=A_ a9;have bE:=A_ ba;obtain⟨aX,bm,a2,cB,aY,bn,a3,cD,aZ,bo,a4,cE,a1,bp,a5,cF,rfl,rfl,aE,cn,co,cp⟩:=EW aQ;clear aE cn co cp bj bc aQ a9 ba;go_enter func163,ntmps163;go_wp2_with fail;refine(B9v 0 0 _ oG oG).mono ?_;rintro _ b ⟨v1,cG,rfl,aM,bh,ar⟩;obtain⟨O1,cv,b8,o1,O2,cw,b9,o2,bR,cx,ca,es,bS,cy,cb,et,rfl,cu,_,_,_,_⟩:=EW aM;have bv:=A_ aM;have aW:=A_ bh;clear aM bh cu;obtain⟨ch,cj⟩:=F_ ar;have d2:w.1.size<b.1.size:=ltg ar;have d3:w.1.size+1<b.1.size:=ltg ar;have aV:=A_ (show Bw w b from Below.go);have Z:=A_ (by have:=ar.size;simp at this;omega:w.1.size+2<=b.1.size);have bI:=A_ (show b.1[w.1.size+1]?=QZ (BG #[J AH,S I 0 0,S I 0 0,J AH,S I 0 0,S I 0 0] 41)from by refine(ar.block _ sI).trans ?_;have:=DB (w.alloc (BG #[J z.x.1.1,S aX bm a2,S aY bn a3,J z.y.1.1,S aZ bo a4,S a1 bp a5] 41)) (BG #[J AH,S I 0 0,S I 0 0,J AH,S I 0 0,S I 0 0] 41);rw[FU]at this;exact this);have d6:w.1.size<b.1.size:=by have:=Z.o;omega
 go_wp2_with fail;go_loopg [13] 3 (λg s wr=>∃ (k:Nat) (P1:Option AJ) (n1 m1:Nat) (P2:Option AJ) (n2 m2:Nat) (aK:Option AJ) (aT aR:Nat) (aL:Option AJ) (aU aS:Nat) (aF:List Nat),k+g=3/\s=N K k/\Hid (Agg wr (BJ #[J (A3l [h,b1,u] G z k).x.1.1,S P1 n1 m1,S P2 n2 m2,J (A3l [h,b1,u] G z k).y.1.1,S aK aT aR,S aL aU aS]) (A3l [h,b1,u] G z k) aF)/\Hid (Free wr aF/\∀ D∈aF,w.1.size+2<=D/\D≠b.1.size)/\Bw w wr/\Hid (wr.1[w.1.size+1]?=QZ (BG #[J AH,S I 0 0,S I 0 0,J AH,S I 0 0,S I 0 0] 41))/\b.1.size<wr.1.size/\(wr.cell? ⟨w.1.size,0,I⟩=QZ (J z.x.1.1)/\wr.cell? ⟨w.1.size,1,I⟩=QZ (S aX bm a2)/\wr.cell? ⟨w.1.size,2,I⟩=QZ (S aY bn a3)/\wr.cell? ⟨w.1.size,3,I⟩=QZ (J z.y.1.1)/\wr.cell? ⟨w.1.size,4,I⟩=QZ (S aZ bo a4)/\wr.cell? ⟨w.1.size,5,I⟩=QZ (S a1 bp a5))/\(wr.cell? ⟨b.1.size,0,I⟩=QZ (J (A3l [h,b1,u] G z k).x.1.1)/\wr.cell? ⟨b.1.size,1,I⟩=QZ (S P1 n1 m1)/\wr.cell? ⟨b.1.size,2,I⟩=QZ (S P2 n2 m2)/\wr.cell? ⟨b.1.size,3,I⟩=QZ (J (A3l [h,b1,u] G z k).y.1.1)/\wr.cell? ⟨b.1.size,4,I⟩=QZ (S aK aT aR)/\wr.cell? ⟨b.1.size,5,I⟩=QZ (S aL aU aS))/\(wr.frozen? ⟨b.1.size,0,I⟩=AH/\wr.frozen? ⟨b.1.size,1,I⟩=AH/\wr.frozen? ⟨b.1.size,2,I⟩=AH/\wr.frozen? ⟨b.1.size,3,I⟩=AH/\wr.frozen? ⟨b.1.size,4,I⟩=AH/\wr.frozen? ⟨b.1.size,5,I⟩=AH));case atStart =>
  refine⟨0,O1,cv,b8,O2,cw,b9,bR,cx,ca,bS,cy,cb,cG,rfl,rfl,bv.below (BP _),⟨aW.free.below (BP _),λD H=>by have:=aW.range D H;simp at this;omega⟩,aV.o.alloc aV.o.size _,O_ bI.o (BP _),sI,⟨?_,?_,?_,?_,?_,?_⟩,⟨?_,?_,?_,?_,?_,?_⟩,⟨?_,?_,?_,?_,?_,?_⟩⟩;all_goals (try unfold A3l)
  all_goals go_simp
 case round =>
  clear ch cj;obtain⟨k,P1,n1,m1,P2,n2,m2,aK,aT,aR,aL,aU,aS,aF,bg,rfl,a6,aO,H,bi,d1,⟨eH,eI,eJ,eK,eL,eM⟩,⟨ez,p1,p2,eA,eB,eC⟩,⟨dG,dH,dI,dJ,dL,dM⟩⟩:=hrel;have aJ:=A_ H;have d4:w.1.size<wr.1.size:=by have:=Z.o;omega
  rcases CG k 3 with ad|ad
  ·have dW:(k:Int)<3:=oS
   have dX:(0:Int)<=k:=oS;obtain⟨g,rfl⟩:∃ g,gk=g+1:=⟨gk - 1,oS⟩
   have cm:=A_ (by omega:k+1+g=3);have dV:k+1<=3:=ad;obtain⟨c5,eu,x,cL,d9,db,du,cM,ea,dc,dv,cN,eb,dd,dw,cO,ec,de,dx,ap,dR,ax,dy,dz,dA,dB,dD,dF,a8⟩:=GD (aD.below H) ad;obtain⟨c9,ey,r,cP,ed,df,aG,cQ,ee,dg,br,aq,dT,aE,dN,dO,dQ,a7⟩:=IM (bF.below H) ad;subst ap;subst aq;have bQ:=A_ (show A3y (A3l [h,b1,u] G z k) (A0v r (A4a z x))=A3l [h,b1,u] G z (k+1) by rw[A3l,EH,EH,aE,ax];rfl);have bH:=A_ a8;have bG:=A_ a7;generalize A3l [h,b1,u] G z k=aC at *;clear bg ad ax aE a8 a7 H;go_wp2_with fail;refine X_ sI ?_;dsimp only[DN,DO,DQ];iterate 7 refine C_ _ ?_
   refine D_ (CH (A4a z x)) ?_ ?_;·intro aa W T O E;obtain⟨ab,ac⟩:=F_ O;simp at E;refine G_ ?_;exact H_ (A1u _ _ z x _ _ T ((bJ.below aJ).below Below.go) (bH.below Below.go))
   refine D_ (CH (A0v r (A4a z x))) ?_ ?_;·intro aa W T O E;obtain⟨ab,ac⟩:=F_ O;simp at E;refine G_ ?_;obtain⟨_,t,_⟩:=E;exact H_ (A1n _ _ r (A4a z x) _ _ T (bG.below Below.go) t)
   refine D_ (CH (A3y aC (A0v r (A4a z x)))) ?_ ?_;·intro aa W T O E;obtain⟨ab,ac⟩:=F_ O;simp at E;refine G_ ?_;obtain⟨_,t,_⟩:=E;exact H_ (A4x _ _ aC (A0v r (A4a z x)) _ _ T (a6.below Below.go) t)
   intro aa W wa O E (aN:Hid _);simp at E;have cA:=E.2.2.2.2.2.2.2.2.2;obtain⟨⟨X,au⟩,aw⟩:=cA;rw[bQ.o]at X;obtain⟨af,ay,ak,u1,ag,az,al,u2,ah,aA,am,cH,ai,aB,an,cI,cK,ct,_,_,_,_⟩:=EW X;rw[cK]at X;have Y:=A_ (show Bw wr wa from Below.go);have aH:=A_ X;have aI:=A_ au;have aj:=A_ (show ∀ D∈W 9,w.1.size+2<=D/\D≠b.1.size from λD H=>by have:=(aw D H).1;(try simp at this);have:=Z.o;omega);obtain⟨ci,ck⟩:=F_ Y;have d0:b.1.size<wa.1.size:=by have:=Y.size;omega
   have cq:w.1.size<wa.1.size:=oS;generalize W 9=bq at *;clear E aN X au aw ct O;have dY:b.1.size≠w.1.size:=by have:=Z.o;omega
   have dZ:w.1.size≠b.1.size:=by have:=Z.o;omega
   go_wp2_with fail;go_roundg g;case measure=>omega
   case rel =>
    have aP:∀ D,D≠b.1.size->((((((wa.setCell ⟨b.1.size,0,I⟩ (J (A3l [h,b1,u] G z (k+1)).x.1.1)).setCell ⟨b.1.size,1,I⟩ (S af ay ak)).setCell ⟨b.1.size,2,I⟩ (S ag az al)).setCell ⟨b.1.size,3,I⟩ (J (A3l [h,b1,u] G z (k+1)).y.1.1)).setCell ⟨b.1.size,4,I⟩ (S ah aA am)).setCell ⟨b.1.size,5,I⟩ (S ai aB an)).1[D]?=wa.1[D]? :=
     λD ao=>A0m b.1.size [J (A3l [h,b1,u] G z (k+1)).x.1.1,S af ay ak,S ag az al,J (A3l [h,b1,u] G z (k+1)).y.1.1,S ah aA am,S ai aB an] wa 0 D ao
    have ae:w.1.size<=b.1.size:=by have:=Z.o;omega
    refine⟨k+1,af,ay,ak,ag,az,al,ah,aA,am,ai,aB,an,bq,cm,gN,?_,⟨aI.keep λD H=>aP D (aj D H).2,aj⟩,((((((BH aJ Y).setCell (p:=⟨b.1.size,0,I⟩) ae _).setCell (p:=⟨b.1.size,1,I⟩) ae _).setCell (p:=⟨b.1.size,2,I⟩) ae _).setCell (p:=⟨b.1.size,3,I⟩) ae _).setCell (p:=⟨b.1.size,4,I⟩) ae _).setCell (p:=⟨b.1.size,5,I⟩) ae _,(aP (w.1.size+1) (by have:=Z.o;omega)).trans (O_ bi.o Y.o),oR,⟨?_,?_,?_,?_,?_,?_⟩,⟨?_,?_,?_,?_,?_,?_⟩,⟨?_,?_,?_,?_,?_,?_⟩⟩;·exact aH.keep λD H=>aP D (aj D H).2
    all_goals go_simp
  obtain rfl:k=3:=oS;have cU:=A_ aO.1;have cR:=A_ aO.2;obtain⟨c6,ev,c4,cV,ef,dh,l1,cW,eg,di,l2,cX,eh,dj,d7,cY,ei,dk,d8,cd,dS,bk,bK,bL,bM,bN,bO,bP,bd⟩:=GD (aD.below H) (by decide:0<3);obtain⟨c7,ew,b2,Q1,ej,dl,q1,Q2,ek,dm,q2,cZ,el,dn,eD,c0,em,dp,eE,ap,ce,ax,bT,bU,bV,bW,bX,bY,be⟩:=GD (aD.below H) (by decide:1<3);obtain⟨c8,ex,da,R1,en,dq,cB,R2,eo,dr,cD,c1,ep,ds,cE,c2,er,dt,cF,aq,cg,bl,bZ,b0,b3,b4,b5,b6,bf⟩:=GD (aD.below H) (by decide:2<3);subst cd;injection ap with ap;injection ap with ao h2 _;subst ao;subst h2;injection aq with aq;injection aq with ao h2 _;subst ao;subst h2;simp at bk ax bl;subst bk;subst ax;subst bl;simp at bK bL bM bN bO bP bT bU bV bW bX bY bZ b0 b3 b4 b5 b6;have bz:=A_ bd;have bA:=A_ be;have bB:=A_ bf;have bu:=A_ (show A0v (A3u (U_ 1) (A2y h b1 u)) (A3l [h,b1,u] G z 3)=A2q h b1 u G z from rfl);generalize A3l [h,b1,u] G z 3=aC at *;obtain⟨eG,eF,d5⟩:=bx bi;clear bg ad ce cg bd be bf H aO;go_wp2_with fail;refine X_ sI ?_;dsimp only[DN,DO,DQ];refine D_ (CH (U_ 1)) ?_ ?_;·intro aa W T O E;obtain⟨ab,ac⟩:=F_ O;simp at E;refine G_ ?_;exact H_ (A0l 1 T oG)
  iterate 9 refine C_ _ ?_
  refine D_ (CH (A2y h b1 u)) ?_ ?_;·intro aa W T O E;obtain⟨ab,ac⟩:=F_ O;simp at E;refine G_ ?_;exact H_ (A7l _ _ _ h b1 u _ _ _ T (bz.below Below.go) (bA.below Below.go) (bB.below Below.go))
  refine D_ (CH (A3u (U_ 1) (A2y h b1 u))) ?_ ?_;·intro aa W T O E;obtain⟨ab,ac⟩:=F_ O;simp at E;refine G_ ?_;obtain⟨aG,br,_⟩:=E;exact H_ (A9z _ _ (U_ 1) (A2y h b1 u) _ _ T aG.1 br E1v bD bE)
  refine C_ _ ?_;refine D_ (CH (A0v (A3u (U_ 1) (A2y h b1 u)) aC)) ?_ ?_;·intro aa W T O E;obtain⟨ab,ac⟩:=F_ O;simp at E;refine G_ ?_;obtain⟨aG,_⟩:=E;exact H_ (A1n _ _ (A3u (U_ 1) (A2y h b1 u)) aC _ _ T aG.1 (a6.below Below.go))
  intro aa W wa O E (aN:Hid _);simp at E;have cz:=E.2.2.2.2.2.2.2.2.2.2.2.2.2;obtain⟨⟨X,au⟩,aw⟩:=cz;rw[bu.o]at X;obtain⟨af,ay,ak,u1,ag,az,al,u2,ah,aA,am,cH,ai,aB,an,cI,cJ,cs,_,_,_,_⟩:=EW X;rw[cJ]at X;have Y:=A_ (show Bw wr wa from Below.go);have aH:=A_ X;have aI:=A_ au;have aj:=A_ (show ∀ D∈W 13,w.1.size+2<=D from λD H=>by have:=(aw D H).1;(try simp at this);have:=Z.o;omega);obtain⟨ci,ck⟩:=F_ Y;have cq:w.1.size+1<wa.1.size:=by have:=Y.size;omega
  have dU:=BH aJ Y;generalize W 13=bq at *;clear E aN X au aw cs O;go_wp2;refine CK (v:=BJ #[J (A2q h b1 u G z).x.1.1,S af ay ak,S ag az al,J (A2q h b1 u G z).y.1.1,S ah aA am,S ai aB an]) (by simp[CO,results163,go_sem, *]) rfl ?_;refine A1s (lo:=w.1.size+2) aH.o aI.o aj.o oS ?_ ?_;·exact Above.go
  exact Below.go
def D0y (r:TRat):TRat:=⟨A0f (-R_ r),r.2⟩
def B4m (es:List TEdge) (fs:List TRat) (k a b:Int):TRat:=if (es.getD (A3z es (A2i a b)) A4o).left=k then fs.getD (A3z es (A2i a b)) A0h else D0y (fs.getD (A3z es (A2i a b)) A0h)
def A7o (es:List TEdge) (fs:List TRat) (k:Int) (t:TTri):List TRat:=[B4m es fs k t.b t.c,B4m es fs k t.c t.a,B4m es fs k t.a t.b]
def D1h (es:List TEdge) (t:TTri):Prop:=A6o es (A2i t.b t.c)=AF/\A6o es (A2i t.c t.a)=AF/\A6o es (A2i t.a t.b)=AF
theorem B9y {es:List TEdge} {e:TEdge} (h:A6o es e=AF):A3z es e<es.length:=by
 unfold A6o at h;simp at h;exact h.1
theorem A3x {w:AD} {y:TRat} {u0 u1 u2:AU} {b:List Nat} (h:Agg w (BJ #[u0,u1,u2]) y b):Dat.at_ w [u0,u1,u2] y b:=by
 obtain⟨u,G,E⟩:=h;have D:u=[u0,u1,u2]:=by have:=congrArg (λv=>match v with | .agg c=>c.toList|_=>[]) G;simpa using this.symm
 rw[<-D];exact E
theorem B2r:(prog.info? 39).map (λi=>(i.zero,i.size,i.bytes))=QZ (QZ (BJ #[J AH,S I 0 0,S I 0 0]),3,56):=kR
theorem C7n (v:AU) (x:TRat) (b:List Nat) (w:AD) (O:Agg w v x b) (ok:A2j x.1=AF) :
  BL prog 106 #[v] w (λe w'=>∃ v',e=.returned v'/\Agg w' v' (D0y x) b/\Bw w w'):=by
 obtain⟨D,n1,E,ak,T,n2,Z,al,rfl,rfl,G,H⟩:=CF O;have X:=A_ G;have Y:=A_ H;have W:=A_ (show D0y x=⟨⟨!x.num.neg&&decide (0<n1),x.1.2⟩,x.2⟩ by unfold D0y R_;rw[B9l ok,<-G.1];cases x.1.2<;>simp);clear G H O;go_enter func106,ntmps106;go_wp2_with fail;refine X_ sI ?_;dsimp only[DN,DO,DQ];iterate 7 refine C_ _ ?_
 refine D_ (MP.eq (BJ #[J (!x.num.neg&&decide (0<n1)),S D n1 E])) ?_ ?_;·intro ac ad ab h u;obtain⟨af,ah⟩:=F_ h;simp at u;refine G_ ?_;exact A0i (A3s (!x.num.neg) D n1 E ab)
 iterate 3 refine C_ _ ?_
 intro ac ad wa h u (aa:Hid _);simp at u;go_simp;clear u aa;obtain⟨ae,ag⟩:=F_ h;have ai:w.1.size<wa.1.size:=ltg h;have aj:w.1.size+1<wa.1.size:=ltg h;go_wp2;refine CK (v:=BJ #[J (!x.num.neg&&decide (0<n1)),S D n1 E,S T n2 Z]) (by simp[CO,results106,go_sem, *]) rfl ?_;refine⟨_,rfl,?_,Below.go⟩;rw[W.o];exact TRat.mkAgg (x:=⟨⟨!x.num.neg&&decide (0<n1),x.1.2⟩,x.2⟩) (Sl.below X Below.go) (Sl.below Y Below.go)

theorem D8k (es:List TEdge) (b:List TRat) (k:Int) (t:TTri) {i:Nat} (h:i<3):(A7o es b k t).take (i+1)=(A7o es b k t).take i++[B4m es b k (cnr t ((i+1) % 3)) (cnr t ((i+2) % 3))]:=by
 obtain rfl|rfl|rfl:i=0\/i=1\/i=2:=oS;all_goals rfl
theorem E5c {es:List TEdge} {t:TTri} (b:D1h es t) {i:Nat} (h:i<3):A6o es (A2i (cnr t ((i+1) % 3)) (cnr t ((i+2) % 3)))=AF:=by
 obtain rfl|rfl|rfl:i=0\/i=1\/i=2:=oS;·exact b.1
 ·exact b.2.1
 exact b.2.2
theorem C8a (v:AU) (m:TMesh) (b:List Nat) (B:Option AJ) (u d:Nat) (G:List TRat) (bK:List Nat) (k:Nat) (t:TTri) (w:AD) (X:Agg w v m b) (aD:m.triangles.length<=48) (Z:Sl w B u d G bK) (h:G.length=(P_ m.triangles).length)
  (aa:m.triangles[k]?=QZ t) (a9:D1h (P_ m.triangles) t) (a7:G.all J_=AF) :
  BL prog 103 #[v,S B u d,N K k] w (A0w w (A7o (P_ m.triangles) G k t)):=by
 have bA:=A_ X;have bo:=A_ Z;have bu:=A_ aD;have bv:=A_ a7;have aS:=A_ a9;obtain⟨bf,cn,bF,di,ap,n1,bG,dj,rfl,rfl,cd,al⟩:=TMesh.agg X;have ad:=A_ (by rw[<-h,Z.1]:(P_ m.triangles).length=u);obtain⟨E,aj⟩:∃ E,P_ m.triangles=E:=⟨_,rfl⟩
 rw[aj]at ad aS ⊢;have bn:=A_ aj;have c5:u<=144:=by rw[<-ad.o,<-aj];unfold P_;have:=A5z m.triangles m.triangles.length;omega
 have c6:(u:Int)<=144:=oS;have ca:k<n1:=by rw[<-al.1];exact(DM.1 aa).1
 have c4:n1<=48:=by rw[<-al.1];exact aD
 obtain⟨aY,cp,cq,bX,cR,Y,bL,bM,bN,bO,bP,a4⟩:=TTri.elemA al ca;subst bX;obtain rfl:t=cq:=by rw[aa]at Y;exact Option.some.inj Y
 have aN:=A_ a4;have aT:=A_ (show I64 t.a/\I64 t.b/\I64 t.c from by obtain⟨_,_,cg,ch,ci,_,_⟩:=TTri.agg aN;exact⟨cg,ch,ci⟩);have c1:(k:Int)<n1:=oS;have c2:(0:Int)<=k:=oS;have c0:(n1:Int)<=48:=oS;clear cd al X aD Z h aj aa a9 a7 Y a4;go_enter func103,ntmps103;go_wp2_with fail;refine(A7q _ m _ (w.alloc (BG #[S bf cn bF,S (QZ ⟨aY,cp,I⟩) n1 bG] 26)) (bA.below (BP _)) bu).mono ?_;rintro _ ao ⟨cD,co,bI,bQ,rfl,am,cc,aA⟩;rw[bn.o]at am;obtain rfl:u=co:=by rw[<-ad.o];exact am.1
 have aR:=A_ am;obtain⟨b5,b9⟩:=F_ aA;have c8:w.1.size<ao.1.size:=ltg aA;have ar:=A_ (show Bw w ao from Below.go);have cU:aY<ao.1.size:=by have:=ar.size;omega
 clear am cc;go_wp2_with fail;refine(A2g _ t _ ao (aN.below ar)).mono ?_;rintro _ cs ⟨rfl,aB⟩;have bj:=A_ aB;have bk:=A_ (BH ar aB);clear b5 b9 aA aB bL bM bN bO bP;go_upto_region 3 with fail;refine Code.new λw3 ae=>?_;have bl:=A_ (BH bk ae.b);have aO:=A_ (BH bj ae.b);have db:cs.1.size<w3.1.size:=E_ ae.k;go_wp2_with fail;go_loopg [9,22] 3 (λg s9 s wr=>∃ (i gB cap:Nat),i+g=3/\s=N K i/\s9=S (QZ ⟨gB,0,I⟩) i cap/\Hid (Pend w w3 39 wr gB i cap ((A7o E G k t).take i)));case atStart=>exact⟨0,w3.1.size,0,rfl,rfl,rfl,Pend.start bl⟩
 case round =>
  obtain⟨i,gB,cap,a6,rfl,rfl,T⟩:=hrel;obtain⟨k2,-,l2⟩:=bx (A0z ae.k T.bb);have bm:=A_ T.bw;rcases CG i 3 with af|af
  ·obtain⟨gk,rfl⟩:∃ g,gk=g+1:=⟨gk - 1,oS⟩
   have br:=A_ (by omega:i+1+gk=3);have cZ:(i:Int)<3:=oS;have aX:=A_ (D8k E G k t af);have aW:=A_ (E5c aS af);obtain⟨⟨m1,m2⟩,cj,ck⟩:=F1e af;have q1:=C7j (t:=t) ⟨k2 0,k2 1,k2 2⟩ cj;have q2:=C7j (t:=t) ⟨k2 0,k2 1,k2 2⟩ ck;have bB:=A_ (C3u aT ((i+1) % 3));have bD:=A_ (C3u aT ((i+2) % 3));generalize cnr t ((i+1) % 3)=a at *;generalize cnr t ((i+2) % 3)=b at *;generalize (i+1) % 3=j at *;generalize (i+2) % 3=l at *;have c9:(j:Int)<3:=oS;have da:(l:Int)<3:=oS;obtain⟨p,ak⟩:∃ p,A3z E (A2i a b)=p:=⟨_,rfl⟩
   have P:=A_ ak;have aF:p<u:=by rw[<-ad.o,<-ak];exact B9y aW
   obtain⟨H,an,x,bV,cV,Y,cu,cv,cw,cx,bY⟩:=TEdge.elemA (aR.below (BH aO T.bb)) aF;subst bV;obtain⟨bE,dh,r,cG,df,cL,dk,cH,dg,cM,dl,bW,cW,aG,bS,bT,bU,a5⟩:=IM (bo.below bm) aF;subst bW;have bq:=A_ a5;have c7:(p:Int)<u:=oS;have ay:=A_ (ratOkB_iff.1 (CU.1 bv r (DH aG)));have aJ:=A_ (by unfold B4m;rw[ak,EH,Y,EH,aG];rfl:B4m E G k a b=if x.left=(k:Int)then r else D0y r);have bg:=A_ (by unfold BS;omega:i+1<=BS/\(i+1)*56<=140737488355328);clear a6 ak Y aG bY a5 aF k2;go_wp2_with fail;refine X_ sI ?_;dsimp only[DN,DO,DQ];iterate 11 refine C_ _ ?_
   refine D_ (MP.eq (N K p)) ?_ ?_;·intro cz cB ct O ai;obtain⟨cX,cY⟩:=F_ O;simp at ai;refine G_ ?_;exact A0i (by have C:=A2t (QZ ⟨H,an,I⟩) u bI E bQ a b ct ((aR.o.below (BH aO.o T.o.bb)).below Below.go) oS bB.o bD.o aW.o;rw[P.o]at C;exact C)
   intro cz cB aH O ai (b6:Hid _);simp at ai;go_simp;have au:=A_ O;obtain⟨b3,b7⟩:=F_ O;have cQ:bE<aH.1.size:=by have:=O.size;omega
   have cP:H<aH.1.size:=by have:=O.size;omega
   clear ai b6 O q1 q2 m1 m2;go_wp2_with fail;refine(A3n _ r _ aH (bq.below au) (by have:=ay.num24;omega) (by have:=ay.o.den24;omega)).mono ?_;rintro _ ac ⟨dm,ab,rfl,ag,aE,ah⟩;obtain⟨cE,dd,cJ,u1,cF,de,cK,u2,rfl,cA,_,_⟩:=CF ag;have bh:=A_ ag;have bp:=A_ aE.free;have bt:=A_ (show ∀ b∈ab,b<ac.1.size from ag.lt);have bz:=A_ (show ∀ b∈ab,wr.1.size<=b from λb W=>CJ au.size (aE.2 b W).1);have aP:=A_ (BH au ah);obtain⟨b4,b8⟩:=F_ ah;have bZ:H<ac.1.size:=by have:=ah.size;omega
   clear ag aE ah cA;go_upto_region 9 with fail;have be:ac.cell? ⟨H,an+p*4+2,I⟩=QZ (N K x.left):=oD;refine Code.new λaI D=>?_;have cy:aI.cell? ⟨H,an+p*4+2,I⟩=QZ (N K x.left):=(D.b.cell (p:=⟨H,an+p*4+2,I⟩) bZ).trans be;have b0:H<aI.1.size:=by have:=D.b.size;omega
   clear b3 b7 b4 b8 cu cv cw cx be bS bT bU;go_upto_if 48 with fail;go_cut [] (λwx=>∃ (y:TRat) (ap:Option AJ) (m1 d1:Nat) (A2:Option AJ) (m2 d2:Nat),Hid (B4m E G k a b=y)/\Hid (wx.1[ac.1.size]?=QZ (BG #[J y.1.1,S ap m1 d1,S A2 m2 d2] 39))/\Hid (Agg wx (BJ #[J y.1.1,S ap m1 d1,S A2 m2 d2]) y ab)/\Hid (Free wx ab)/\Hid (Bw wr wx));case first =>
    have aw:=A_ (BH aP D.b);have aM:=A_ (bh.below D.b);have aQ:=A_ (bp.below D.b);obtain⟨bH,bR,cm⟩:=bx D.k;by_cases h:x.left=(k:Int)
    ·have cb:(x.left != (k:Int))=AH:=by simp[h]
     have aq:=A_ (aJ.trans (if_pos h));clear h;go_wp2_with fail;go_meet;exact⟨r,_,_,_,_,_,_,aq,D.k,aM,aQ,aw⟩
    have cb:(x.left != (k:Int))=AF:=by simp[h]
    have aq:=A_ (aJ.trans (if_neg h));clear h;go_wp2_with fail;refine(C7n _ r _ aI aM ay.1).mono ?_;rintro _ bd ⟨dn,rfl,az,aC⟩;obtain⟨aK,ba,aZ,dq,aL,bc,a1,dr,rfl,-,-,-⟩:=CF az;have bi:=A_ az;have ax:=A_ aC;have aU:=A_ (A0z D.k aC);clear az aC bH bR cm;obtain⟨cI,cO,dc⟩:=bx aU;go_wp2_with fail;go_meet;have aV:=λb (W:b∈ab)=>A0m ac.1.size [J (D0y r).1.1,S aK ba aZ,S aL bc a1] bd 0 b (by have:=bt b W;omega);exact⟨D0y r,_,_,_,_,_,_,aq,B9q (B9q (B9q aU)),bi.keep aV,(aQ.below ax).keep aV,(BH aw ax).grown (A5y (A5y (A5y (B3a bd _)))) (BH aw ax).size (λx X=>by injection X with X;have:=aP.size;omega)⟩
   case rest =>
   obtain⟨y,aK,ba,aZ,aL,bc,a1,ce,aa,a3,Z,W⟩:=hcut;rename AD=>wx;rename (∀ (a:Act) (w:AD),Code.wp _ _ _ a w->_)=>a2;refine a2 _ _ ?_;clear a2 cy b0;obtain⟨cN,-,lx⟩:=bx aa;rw[ce.o]at aX;go_wp2_with (at_builtin;refine C7w rfl rfl underlying27 B2r T (W.alloc W.size _) (A0a (DB _ _)) (Dat.keep (A3x a3) (λg hg=>Below.heap_alloc _ _ _ (Dat.lt (A3x a3) g hg))) (Z.below (BP _)) bz bg ?_;intro g' bJ dp a8 _ _);rw[<-aX.o]at a8;go_wp2_with fail;go_roundg gk;case measure=>omega
   case rel=>exact⟨i+1,g',bJ,br,gN,rfl,a8⟩
  obtain rfl:i=3:=oS;clear a6 k2;go_wp2;go_ret;exact T.done
def A4w (m:TMesh) (d:TPoint):List TRat:=(P_ m.triangles).map (λe=>E3w d (A4a (Z_ m.1 e.b) (Z_ m.1 e.a)))
attribute [local simp] MP.slbox
theorem C1r:A4f 78:=λa w=>kR
def A2e (x:TRat):Bool:=x.2.isEmpty
theorem C3l (v:AU) (x:TRat) (b:List Nat) (w:AD) (h:Agg w v x b):BL prog 78 #[v] w (A0b w (J (A2e x))):=by
 have u:=A_ h;obtain⟨G,n1,O,X,H,n2,T,Y,rfl,rfl,D,E⟩:=CF h;clear D E h;go_enter func78,ntmps78;go_wp2_with fail;refine(A2p _ x _ _ (Agg.below u Below.go)).mono ?_;rintro _ Z ⟨rfl,W⟩;go_wp2;go_ret;exact⟨by unfold A2e;simp,Below.go⟩
theorem A5p (A:Option AJ) (n c:Nat) (xs:List TRat) (bs:List Nat) (w:AD) (h:Sl w A n c xs bs) (b:xs.any A2e=AH) :
  BL prog 28 #[S A n c] w (A0b w (S A n c)):=by
 have D:=A_ h;have u:=A_ b;clear h b;go_enter func28,ntmps28;go_wp2_with fail;have C:=A7e 78 C1r A n c xs bs w A2e D (λv x E w _ G=>C3l v x E w G);rw[u.o]at C;refine C.mono ?_;clear C;rintro _ O ⟨rfl,H⟩;go_wp2;go_ret;exact⟨rfl,H⟩
def A1e (es:List TEdge) (fs:List TRat) (t:Int):Nat->TRat
 |0=>U_ 0
 |k+1=>if (es.getD k A4o).left=t then A0k (A1e es fs t k) (fs.getD k A0h)else A1e es fs t k
def A1i (es:List TEdge) (fs:List TRat) (t:Int):Nat->TRat
 |0=>U_ 0
 |k+1=>if (es.getD k A4o).right=t then A0k (A1i es fs t k) (fs.getD k A0h)else A1i es fs t k
def D1y (es:List TEdge) (fs:List TRat) (t:Int):TRat:=A3t (A1e es fs t es.length) (A1i es fs t es.length)
theorem A0p {w:AD} {g:Nat} {v0 v1 v2:AU} (b:Nat) (h:b≠g):(((w.setCell ⟨g,0,I⟩ v0).setCell ⟨g,1,I⟩ v1).setCell ⟨g,2,I⟩ v2).1[b]?=w.1[b]?:=A0m g [v0,v1,v2] w 0 b h
def RBox (w:AD) (g:Nat) (x:TRat) (P1:Option AJ) (n1 m1:Nat) (P2:Option AJ) (n2 m2:Nat):Prop:=g<w.1.size/\(w.cell? ⟨g,0,I⟩=QZ (J x.1.1)/\w.cell? ⟨g,1,I⟩=QZ (S P1 n1 m1)/\w.cell? ⟨g,2,I⟩=QZ (S P2 n2 m2))/\(w.frozen? ⟨g,0,I⟩=AH/\w.frozen? ⟨g,1,I⟩=AH/\w.frozen? ⟨g,2,I⟩=AH)
theorem RBox.keep {w w':AD} {g:Nat} {x:TRat} {P1:Option AJ} {n1 m1:Nat} {P2:Option AJ} {n2 m2:Nat} (h:RBox w g x P1 n1 m1 P2 n2 m2) (b:w'.1[g]?=w.1[g]?) (W:w.1.size<=w'.1.size):RBox w' g x P1 n1 m1 P2 n2 m2:=by
 obtain⟨T,⟨u,D,E⟩,⟨G,H,O⟩⟩:=h;exact⟨oS,⟨(JY b).trans u,(JY b).trans D,(JY b).trans E⟩,⟨(QJ b).trans G,(QJ b).trans H,(QJ b).trans O⟩⟩
theorem RBox.below {w w':AD} {g:Nat} {x:TRat} {P1:Option AJ} {n1 m1:Nat} {P2:Option AJ} {n2 m2:Nat} (h:RBox w g x P1 n1 m1 P2 n2 m2) (hb:Bw w w'):RBox w' g x P1 n1 m1 P2 n2 m2:=h.keep (hb.block g h.1) hb.size
theorem RBox.set {w:AD} {g:Nat} {x y:TRat} {P1:Option AJ} {n1 m1:Nat} {P2:Option AJ} {n2 m2:Nat} {Q1:Option AJ} {k1 l1:Nat} {Q2:Option AJ} {k2 l2:Nat} (h:RBox w g x P1 n1 m1 P2 n2 m2) :
  RBox (((w.setCell ⟨g,0,I⟩ (J y.1.1)).setCell ⟨g,1,I⟩ (S Q1 k1 l1)).setCell ⟨g,2,I⟩ (S Q2 k2 l2)) g y Q1 k1 l1 Q2 k2 l2:=by
 obtain⟨b,⟨u,D,E⟩,⟨G,H,O⟩⟩:=h;exact⟨by simpa using b,⟨oD,oD,oD⟩,⟨oD,oD,oD⟩⟩

theorem E0m {w w':AD} {A:Option AJ} {n c:Nat} {xs:List TRat} {bs:List Nat} (h:Sl w A n c xs bs) (u:Bw w w') {k:Nat} (T:k<n) :
  ∃ (b off:Nat) (x:TRat) (A1:Option AJ) (n1 c1:Nat) (A2:Option AJ) (n2 c2:Nat) (fs:List Nat),A=QZ ⟨b,off,I⟩/\b<w.1.size/\xs[k]?=QZ x/\w'.cell? ⟨b,off+k*3,I⟩=QZ (J x.1.1)/\w'.cell? ⟨b,off+k*3+1,I⟩=QZ (S A1 n1 c1)/\w'.cell? ⟨b,off+k*3+2,I⟩=QZ (S A2 n2 c2)/\Agg w' (BJ #[J x.1.1,S A1 n1 c1,S A2 n2 c2]) x fs/\∀ g∈fs,g<w.1.size:=by
 obtain⟨b,off,x,A1,n1,c1,X,A2,n2,c2,Y,rfl,D,W,G,H,O,E⟩:=IM h T;exact⟨b,off,x,A1,n1,c1,A2,n2,c2,X++Y,rfl,D,W,(u.cell (p:=⟨b,_,I⟩) D).trans G,(u.cell (p:=⟨b,_,I⟩) D).trans H,(u.cell (p:=⟨b,_,I⟩) D).trans O,E.below u,E.lt⟩
structure OutSt (w U:AD) (ga gb:Nat) (E:Option AJ) (nf cE:Nat) (es:List TEdge) (eb:List Nat) (lx:TRat) (P1:Option AJ) (p1 q1:Nat) (P2:Option AJ) (p2 q2:Nat) (rl:List Nat) (rx:TRat) (Q1:Option AJ) (k1 l1:Nat) (Q2:Option AJ) (k2 l2:Nat) (rr:List Nat):Prop where
 bl:Bw w U
 ra:RBox U ga lx P1 p1 q1 P2 p2 q2
 rb:RBox U gb rx Q1 k1 l1 Q2 k2 l2
 al:Agg U (BJ #[J lx.1.1,S P1 p1 q1,S P2 p2 q2]) lx rl
 ar:Agg U (BJ #[J rx.1.1,S Q1 k1 l1,S Q2 k2 l2]) rx rr
 dl:∀ b∈rl,b≠ga/\b≠gb
 dr:∀ b∈rr,b≠ga/\b≠gb
 se:Sl U E nf cE es eb
 de:∀ b∈eb,b≠ga/\b≠gb
 res:U.1[w.1.size+1]?=QZ (BG #[J AH,S I 0 0,S I 0 0] 39)
 na:w.1.size+2<=ga
 nb:w.1.size+2<=gb
 ne:ga≠gb
theorem OutSt.below {w U U':AD} {ga gb:Nat} {E:Option AJ} {nf cE:Nat} {es:List TEdge} {eb:List Nat} {lx:TRat} {P1:Option AJ} {p1 q1:Nat} {P2:Option AJ} {p2 q2:Nat} {rl:List Nat} {rx:TRat} {Q1:Option AJ} {k1 l1:Nat} {Q2:Option AJ} {k2 l2:Nat} {rr:List Nat}
  (h:OutSt w U ga gb E nf cE es eb lx P1 p1 q1 P2 p2 q2 rl rx Q1 k1 l1 Q2 k2 l2 rr) (hb:Bw U U'):OutSt w U' ga gb E nf cE es eb lx P1 p1 q1 P2 p2 q2 rl rx Q1 k1 l1 Q2 k2 l2 rr :=
 ⟨BH h.bl hb,h.ra.below hb,h.rb.below hb,h.al.below hb,h.ar.below hb,h.dl,h.dr,h.se.below hb,h.de,O_ h.res hb,h.na,h.nb,h.ne⟩
theorem OutSt.setL {w U:AD} {ga gb:Nat} {E:Option AJ} {T G:Nat} {es:List TEdge} {H:List Nat} {lx:TRat} {P1:Option AJ} {p1 q1:Nat} {P2:Option AJ} {p2 q2:Nat} {rl:List Nat} {rx:TRat} {Q1:Option AJ} {k1 l1:Nat} {Q2:Option AJ} {k2 l2:Nat} {rr:List Nat}
  (h:OutSt w U ga gb E T G es H lx P1 p1 q1 P2 p2 q2 rl rx Q1 k1 l1 Q2 k2 l2 rr) {y:TRat} {O1:Option AJ} {o1 u1:Nat} {O2:Option AJ} {o2 u2:Nat} {ry:List Nat}
  (W:Agg U (BJ #[J y.1.1,S O1 o1 u1,S O2 o2 u2]) y ry) (O:∀ b∈ry,b≠ga/\b≠gb) :
  OutSt w (((U.setCell ⟨ga,0,I⟩ (J y.1.1)).setCell ⟨ga,1,I⟩ (S O1 o1 u1)).setCell ⟨ga,2,I⟩ (S O2 o2 u2)) ga gb E T G es H y O1 o1 u1 O2 o2 u2 ry rx Q1 k1 l1 Q2 k2 l2 rr:=by
 have D:w.1.size<=ga:=by have:=h.na;omega
 exact⟨((h.bl.setCell (p:=⟨ga,0,I⟩) D _).setCell (p:=⟨ga,1,I⟩) D _).setCell (p:=⟨ga,2,I⟩) D _,h.ra.set,h.rb.keep (A0p gb h.ne.symm) sI,W.keep (λb u=>A0p b (O b u).1),h.ar.keep (λb u=>A0p b (h.dr b u).1),O,h.dr,h.se.keep (λb u=>A0p b (h.de b u).1),h.de,(A0p _ (by have:=h.na;omega)).trans h.res,h.na,h.nb,h.ne⟩
theorem OutSt.setR {w U:AD} {ga gb:Nat} {E:Option AJ} {T G:Nat} {es:List TEdge} {H:List Nat} {lx:TRat} {P1:Option AJ} {p1 q1:Nat} {P2:Option AJ} {p2 q2:Nat} {rl:List Nat} {rx:TRat} {Q1:Option AJ} {k1 l1:Nat} {Q2:Option AJ} {k2 l2:Nat} {rr:List Nat}
  (h:OutSt w U ga gb E T G es H lx P1 p1 q1 P2 p2 q2 rl rx Q1 k1 l1 Q2 k2 l2 rr) {y:TRat} {O1:Option AJ} {o1 u1:Nat} {O2:Option AJ} {o2 u2:Nat} {ry:List Nat}
  (W:Agg U (BJ #[J y.1.1,S O1 o1 u1,S O2 o2 u2]) y ry) (O:∀ b∈ry,b≠ga/\b≠gb) :
  OutSt w (((U.setCell ⟨gb,0,I⟩ (J y.1.1)).setCell ⟨gb,1,I⟩ (S O1 o1 u1)).setCell ⟨gb,2,I⟩ (S O2 o2 u2)) ga gb E T G es H lx P1 p1 q1 P2 p2 q2 rl y O1 o1 u1 O2 o2 u2 ry:=by
 have D:w.1.size<=gb:=by have:=h.nb;omega
 exact⟨((h.bl.setCell (p:=⟨gb,0,I⟩) D _).setCell (p:=⟨gb,1,I⟩) D _).setCell (p:=⟨gb,2,I⟩) D _,h.ra.keep (A0p ga h.ne) sI,h.rb.set,h.al.keep (λb u=>A0p b (h.dl b u).2),W.keep (λb u=>A0p b (O b u).2),h.dl,O,h.se.keep (λb u=>A0p b (h.de b u).2),h.de,(A0p _ (by have:=h.nb;omega)).trans h.res,h.na,h.nb,h.ne⟩

theorem D1a (v:AU) (m:TMesh) (b:List Nat) (B:Option AJ) (X d:Nat) (u:List TRat) (cM:List Nat) (t:Nat) (w:AD) (bA:Agg w v m b) (b7:m.triangles.length<=48) (a9:Sl w B X d u cM) (b6:u.length=(P_ m.triangles).length) :
  BL prog 158 #[v,S B X d,N K t] w (A0c w (D1y (P_ m.triangles) u t)):=by
 have cE:=A_ bA;have cu:=A_ a9;have cw:=A_ b7;obtain⟨bH,ck,bU,dN,bI,n1,bV,dO,rfl,rfl,c7,c8⟩:=TMesh.agg bA;have a3:=A_ (by rw[<-b6,a9.1]:(P_ m.triangles).length=X);obtain⟨h,a8⟩:∃ h,P_ m.triangles=h:=⟨_,rfl⟩
 rw[a8]at a3 ⊢;have ct:=A_ a8;have dh:=A_ a9.1;have dz:X<=144:=by rw[<-a3.o,<-a8];unfold P_;have:=A5z m.triangles m.triangles.length;omega
 have dA:(X:Int)<=144:=oS;clear c7 c8 bA b7 a9 b6 a8;go_enter func158,ntmps158;go_wp2_with fail;refine(A0l 0 _ oG).mono ?_;rintro _ wa ⟨dR,bF,rfl,bq,b8,ao⟩;obtain⟨P1,p1,q1,bW,P2,p2,q2,bX,rfl,c9,_,_⟩:=CF bq;have bK:=A_ bq;have di:=A_ b8;clear bq b8 c9;obtain⟨cY,c0⟩:=F_ ao;have dD:w.1.size<wa.1.size:=ltg ao;have dG:w.1.size+1<wa.1.size:=ltg ao;have cq:=A_ (show Bw w wa from Below.go);have cx:=A_ (show wa.1[w.1.size+1]?=QZ (BG #[J AH,S I 0 0,S I 0 0] 39)from by refine(ao.block _ sI).trans ?_;have:=DB (w.alloc (BG #[S bH ck bU,S bI n1 bV] 26)) (BG #[J AH,S I 0 0,S I 0 0] 39);rw[FU]at this;exact this);have dc:wa.cell? ⟨w.1.size,0,I⟩=QZ (S bH ck bU):=oD;have m1:wa.cell? ⟨w.1.size,1,I⟩=QZ (S bI n1 bV):=oD;clear cY c0;go_wp2_with fail;refine(A0l 0 wa oG).mono ?_;rintro _ wb ⟨dS,bG,rfl,br,b9,aC⟩;obtain⟨Q1,k1,l1,bY,Q2,k2,l2,dm,rfl,da,_,_⟩:=CF br;have bL:=A_ br;have dj:=A_ b9;have H:=A_ (BH cq aC);have cy:=A_ (O_ cx aC);obtain⟨cZ,c1⟩:=F_ aC;have cp:=A_ (bK.below aC);have dB:=aC.size;have dF:w.1.size<wb.1.size:=oS;have dH:w.1.size+2<=wb.1.size:=by have:=ao.size;simp at this;omega
 have cz:=A_ (show ∀ b∈bF,b<wb.1.size from λb E=>by have:=bK.lt b E;omega);have cA:=A_ (show ∀ b∈bG,b<wb.1.size from λb E=>bL.lt b E);clear br b9 da aC ao;have cH:=A_ (show RBox ((wb.alloc (BG #[J (U_ 0).1.1,S P1 p1 q1,S P2 p2 q2] 39)).alloc (BG #[J (U_ 0).1.1,S Q1 k1 l1,S Q2 k2 l2] 39)) wb.1.size (U_ 0) P1 p1 q1 P2 p2 q2 from⟨oR,⟨oD,oD,oD⟩,⟨oD,oD,oD⟩⟩);have cJ:=A_ (show RBox ((wb.alloc (BG #[J (U_ 0).1.1,S P1 p1 q1,S P2 p2 q2] 39)).alloc (BG #[J (U_ 0).1.1,S Q1 k1 l1,S Q2 k2 l2] 39)) (wb.1.size+1) (U_ 0) Q1 k1 l1 Q2 k2 l2 from⟨sI,⟨oD,oD,oD⟩,⟨oD,oD,oD⟩⟩);obtain⟨aY,aQ⟩:∃ W,(wb.alloc (BG #[J (U_ 0).1.1,S P1 p1 q1,S P2 p2 q2] 39)).alloc (BG #[J (U_ 0).1.1,S Q1 k1 l1,S Q2 k2 l2] 39)=W:=⟨_,rfl⟩
 have a4:=A_ (by rw[<-aQ];exact(BP _).alloc sI _:Bw wb aY);have bM:=A_ (BH H a4);have cI:=A_ (by rw[<-aQ];exact cH:RBox aY wb.1.size (U_ 0) P1 p1 q1 P2 p2 q2);have cK:=A_ (by rw[<-aQ];exact cJ:RBox aY (wb.1.size+1) (U_ 0) Q1 k1 l1 Q2 k2 l2);have cB:=A_ (by rw[<-aQ];simp:aY.1.size=wb.1.size+1+1);have cD:=A_ aQ;clear aQ;go_wp2_with fail;rw[cD.o];refine(A7q _ m _ aY (cE.below bM) cw).mono ?_;rintro _ df ⟨bJ,dd,aN,aO,rfl,bg,ca,aB⟩;rw[ct.o]at bg;obtain rfl:X=dd:=by rw[<-a3.o];exact bg.1
 have bS:=A_ (show OutSt w df wb.1.size (wb.1.size+1) bJ X aN h aO (A1e h u t 0) P1 p1 q1 P2 p2 q2 bF (A1i h u t 0) Q1 k1 l1 Q2 k2 l2 bG from
  ⟨BH bM aB,cI.below aB,cK.below aB,(cp.below a4).below aB,(bL.below a4).below aB,λb E=>by have:=cz b E;omega,λb E=>by have:=cA.o b E;omega,bg,λb E=>by have:=(ca.2 b E).1;have:=cB.o;omega,O_ (O_ cy.o a4.o) aB,oS,oS,oS⟩)
 clear bg ca aB dc m1 cZ c1;generalize c4:wb.1.size=ga at *;generalize c5:ga+1=gb at *;clear c4 c5;go_wp2_with fail;go_loopg [16] X (λg s wr=>∃ (k:Nat) (P1:Option AJ) (p1 q1:Nat) (P2:Option AJ) (p2 q2:Nat) (rl:List Nat) (Q1:Option AJ) (k1 l1:Nat) (Q2:Option AJ) (k2 l2:Nat) (rr:List Nat),k+g=X/\s=N K k/\Hid (OutSt w wr ga gb bJ X aN h aO (A1e h u t k) P1 p1 q1 P2 p2 q2 rl (A1i h u t k) Q1 k1 l1 Q2 k2 l2 rr));case atStart=>exact⟨0,P1,p1,q1,P2,p2,q2,bF,Q1,k1,l1,Q2,k2,l2,bG,oS,rfl,bS.o⟩
 case round =>
  clear bS;obtain⟨k,P1,p1,q1,P2,p2,q2,rl,Q1,k1,l1,Q2,k2,l2,rr,b5,rfl,Y⟩:=hrel;have dv:=Y.ra.1;have dw:=Y.rb.1;rcases CG k X with aP|aP
  ·have c6:(k:Int)<X:=oS
   have dy:(0:Int)<=k:=oS;have dx:k+1<=X:=aP;obtain⟨g,rfl⟩:∃ g,gk=g+1:=⟨gk - 1,oS⟩
   have bf:=A_ (by omega:k+1+g=X);obtain⟨dl,dL,x,cR,dq,cc,cN,bW,bX,bY,cW⟩:=TEdge.elemA Y.se aP;obtain⟨O,aU,r,bm,bB,bo,bn,bD,bp,bZ,cU,dr,cb,cO,cP,cQ,b3,c2⟩:=E0m cu Y.bl aP;subst cR;subst cU;have cv:=A_ c2;have bN:=A_ b3;have au:=A_ (by rw[EH,cc];rfl:h.getD k A4o=x);have a5:=A_ (by rw[EH,cb];rfl:u.getD k A0h=r);have T:=A_ (Y.below (BP (BG #[N K x.a,N K x.b,N K x.left,N K x.right] 65)));have dk:(wr.alloc (BG #[N K x.a,N K x.b,N K x.left,N K x.right] 65)).cell? ⟨wr.1.size,2,I⟩=QZ (N K x.left):=oD;have ap:(wr.alloc (BG #[N K x.a,N K x.b,N K x.left,N K x.right] 65)).cell? ⟨wr.1.size,3,I⟩=QZ (N K x.right):=oD;have aq:wr.1.size<(wr.alloc (BG #[N K x.a,N K x.b,N K x.left,N K x.right] 65)).1.size:=sI;have cV:wr.1.size≠ga:=oS;have dp:O<wr.1.size:=by have:=Y.bl.size;omega
   have bQ:=A_ Y.na;have bR:=A_ Y.nb;have ao:O≠ga:=by have:=bQ.o;omega
   have aC:O≠gb:=by have:=bR.o;omega
   have co:=A_ (show ∀ b∈bZ,b≠ga/\b≠gb from λb E=>by have:=cv b E;have:=bQ.o;have:=bR.o;omega);have dn:wr.1.size≠gb:=oS;obtain⟨aR,aS,aT⟩:(wr.alloc (BG #[N K x.a,N K x.b,N K x.left,N K x.right] 65)).cell? ⟨O,aU+k*3,I⟩=QZ (J r.1.1)/\(wr.alloc (BG #[N K x.a,N K x.b,N K x.left,N K x.right] 65)).cell? ⟨O,aU+k*3+1,I⟩=QZ (S bm bB bo)/\(wr.alloc (BG #[N K x.a,N K x.b,N K x.left,N K x.right] 65)).cell? ⟨O,aU+k*3+2,I⟩=QZ (S bn bD bp):=⟨oD,oD,oD⟩
   have aw:O<(wr.alloc (BG #[N K x.a,N K x.b,N K x.left,N K x.right] 65)).1.size:=oR;have al:=A_ (bN.below (BP (BG #[N K x.a,N K x.b,N K x.left,N K x.right] 65)));clear b5 aP cc cb cW b3 Y;go_upto_region 5 with fail;clear cN bW bX bY cO cP cQ bN;generalize wr.alloc (BG #[N K x.a,N K x.b,N K x.left,N K x.right] 65)=U at *;generalize wr.1.size=ai at *;by_cases an:x.left=(t:Int)
   ·by_cases aj:x.right=(t:Int)
    ·skip
     have ay:=A_ (by rw[A1e,au.o,if_pos an,a5.o]:A1e h u t (k+1)=A0k (A1e h u t k) r);have aW:(x.left==(t:Int))=AF:=by simp[an]
     have az:=A_ (by rw[A1i,au.o,if_pos aj,a5.o]:A1i h u t (k+1)=A0k (A1i h u t k) r);have aX:(x.right==(t:Int))=AF:=by simp[aj]
     clear an aj;go_wp2_with fail;obtain⟨ba,⟨u0,u1,u2⟩,⟨ax,v1,v2⟩⟩:=T.ra;refine X_ sI ?_;dsimp only[DN,DO,DQ];iterate 5 refine C_ _ ?_
     refine D_ (CH (A0k (A1e h u t k) r)) ?_ ?_;·intro aM ab aK aa G;obtain⟨bu,bv⟩:=F_ aa;simp at G;refine G_ ?_;exact H_ (A0x _ _ (A1e h u t k) r _ _ aK (T.al.below Below.go) (al.below Below.go))
     intro aM ab wb aa G (aD:Hid _);simp at G;have aJ:=G.2.2.2.2.2;obtain⟨⟨D,aE⟩,ak⟩:=aJ;rw[<-ay.o]at D;obtain⟨ac,ag,ae,bh,ad,ah,af,bi,aL,aI,_,_⟩:=CF D;rw[aL]at D;have H:=A_ (show Bw U wb from Below.go);have ar:=A_ D;have aH:=H.size;have aF:=T.ra.1;have aG:=T.rb.1;have aA:=A_ (show ∀ b∈ab 5,b≠ga/\b≠gb from λb E=>by have:=(ak b E).1;(try simp at this);omega);have Z:=A_ (T.below H);have am:=A_ (Z.setL ar aA);obtain⟨_,⟨aZ,a1,a2⟩,⟨bj,bk,bl⟩⟩:=Z.ra;have aV:=(H.cell (p:=⟨ai,3,I⟩) aq).trans ap;have a6:ai<wb.1.size:=oS;have bd:ga<wb.1.size:=oS;have be:gb<wb.1.size:=oS;have cd:=(H.cell (p:=⟨O,_,I⟩) aw).trans aR;have cg:=(H.cell (p:=⟨O,_,I⟩) aw).trans aS;have ci:=(H.cell (p:=⟨O,_,I⟩) aw).trans aT;have cX:O<wb.1.size:=oS;have bO:=A_ (al.below H);generalize ab 5=bE at *;clear G aD aE ak aI D aa u0 u1 u2 ax v1 v2 ap aR aS aT aq aw al T aH aF aG ba Z;go_wp2_with fail;have bT:(((wb.setCell ⟨ga,0,I⟩ (J (A1e h u t (k+1)).1.1)).setCell ⟨ga,1,I⟩ (S ac ag ae)).setCell ⟨ga,2,I⟩ (S ad ah af)).cell? ⟨ai,3,I⟩=QZ (N K x.right):=(JY (a:=⟨ai,3,I⟩) (A0p ai cV)).trans aV;have ce:(((wb.setCell ⟨ga,0,I⟩ (J (A1e h u t (k+1)).1.1)).setCell ⟨ga,1,I⟩ (S ac ag ae)).setCell ⟨ga,2,I⟩ (S ad ah af)).cell? ⟨O,aU+k*3,I⟩=QZ (J r.1.1):=(JY (a:=⟨O,_,I⟩) (A0p O ao)).trans cd;have ch:(((wb.setCell ⟨ga,0,I⟩ (J (A1e h u t (k+1)).1.1)).setCell ⟨ga,1,I⟩ (S ac ag ae)).setCell ⟨ga,2,I⟩ (S ad ah af)).cell? ⟨O,aU+k*3+1,I⟩=QZ (S bm bB bo):=(JY (a:=⟨O,_,I⟩) (A0p O ao)).trans cg;have cj:(((wb.setCell ⟨ga,0,I⟩ (J (A1e h u t (k+1)).1.1)).setCell ⟨ga,1,I⟩ (S ac ag ae)).setCell ⟨ga,2,I⟩ (S ad ah af)).cell? ⟨O,aU+k*3+2,I⟩=QZ (S bn bD bp):=(JY (a:=⟨O,_,I⟩) (A0p O ao)).trans ci;have bP:=A_ (show Agg (((wb.setCell ⟨ga,0,I⟩ (J (A1e h u t (k+1)).1.1)).setCell ⟨ga,1,I⟩ (S ac ag ae)).setCell ⟨ga,2,I⟩ (S ad ah af)) (BJ #[J r.1.1,S bm bB bo,S bn bD bp]) r bZ from bO.keep (λb E=>A0p b (co b E).1));have b0:ai<(((wb.setCell ⟨ga,0,I⟩ (J (A1e h u t (k+1)).1.1)).setCell ⟨ga,1,I⟩ (S ac ag ae)).setCell ⟨ga,2,I⟩ (S ad ah af)).1.size:=oR;have b4:O<(((wb.setCell ⟨ga,0,I⟩ (J (A1e h u t (k+1)).1.1)).setCell ⟨ga,1,I⟩ (S ac ag ae)).setCell ⟨ga,2,I⟩ (S ad ah af)).1.size:=oR;clear aV cd cg ci bO a6 cX bd be aZ a1 a2 bj bk bl ar H;generalize (((wb.setCell ⟨ga,0,I⟩ (J (A1e h u t (k+1)).1.1)).setCell ⟨ga,1,I⟩ (S ac ag ae)).setCell ⟨ga,2,I⟩ (S ad ah af))=V at *;have ap:=bT;have aR:=ce;have aS:=ch;have aT:=cj;have al:=bP;have aq:=b0;have aw:=b4;clear bT ce ch cj bP b0 b4;obtain⟨bc,⟨u0,u1,u2⟩,⟨ax,v1,v2⟩⟩:=am.rb;refine X_ sI ?_;dsimp only[DN,DO,DQ];iterate 5 refine C_ _ ?_
     refine D_ (CH (A0k (A1i h u t k) r)) ?_ ?_;·intro aM ab aK aa G;obtain⟨bu,bv⟩:=F_ aa;simp at G;refine G_ ?_;exact H_ (A0x _ _ (A1i h u t k) r _ _ aK (am.ar.below Below.go) (al.below Below.go))
     intro aM ab wb aa G (aD:Hid _);simp at G;have aJ:=G.2.2.2.2.2;obtain⟨⟨D,aE⟩,ak⟩:=aJ;rw[<-az.o]at D;obtain⟨ac,ag,ae,bh,ad,ah,af,bi,aL,aI,_,_⟩:=CF D;rw[aL]at D;have H:=A_ (show Bw V wb from Below.go);have ar:=A_ D;have aH:=H.size;have aF:=am.ra.1;have aG:=am.rb.1;have aA:=A_ (show ∀ b∈ab 5,b≠ga/\b≠gb from λb E=>by have:=(ak b E).1;(try simp at this);omega);have Z:=A_ (am.below H);have cL:=A_ (Z.setR ar aA);obtain⟨_,⟨aZ,a1,a2⟩,⟨bj,bk,bl⟩⟩:=Z.rb;have aV:=(H.cell (p:=⟨ai,3,I⟩) aq).trans ap;have a6:ai<wb.1.size:=oS;have bd:ga<wb.1.size:=oS;have be:gb<wb.1.size:=oS;generalize ab 5=bE at *;clear G aD aE ak aI D aa u0 u1 u2 ax v1 v2 ap aR aS aT aq aw al am aH aF aG bc Z;go_wp2_with fail;go_roundg g;case measure=>omega
     case rel=>exact⟨k+1,_,_,_,_,_,_,_,_,_,_,_,_,_,_,bf,gN,(show OutSt w _ ga gb _ X aN h aO (A1e h u t (k+1)) _ _ _ _ _ _ _ (A1i h u t (k+1)) _ _ _ _ _ _ _ from cL)⟩
    skip;have ay:=A_ (by rw[A1e,au.o,if_pos an,a5.o]:A1e h u t (k+1)=A0k (A1e h u t k) r);have aW:(x.left==(t:Int))=AF:=by simp[an]
    have az:=A_ (by rw[A1i,au.o,if_neg aj]:A1i h u t (k+1)=A1i h u t k);have aX:(x.right==(t:Int))=AH:=by simp[aj]
    clear an aX;go_wp2_with fail;obtain⟨ba,⟨u0,u1,u2⟩,⟨ax,v1,v2⟩⟩:=T.ra;refine X_ sI ?_;dsimp only[DN,DO,DQ];iterate 5 refine C_ _ ?_
    refine D_ (CH (A0k (A1e h u t k) r)) ?_ ?_;·intro aM ab aK aa G;obtain⟨bu,bv⟩:=F_ aa;simp at G;refine G_ ?_;exact H_ (A0x _ _ (A1e h u t k) r _ _ aK (T.al.below Below.go) (al.below Below.go))
    intro aM ab wb aa G (aD:Hid _);simp at G;have aJ:=G.2.2.2.2.2;obtain⟨⟨D,aE⟩,ak⟩:=aJ;rw[<-ay.o]at D;obtain⟨ac,ag,ae,bh,ad,ah,af,bi,aL,aI,_,_⟩:=CF D;rw[aL]at D;have H:=A_ (show Bw U wb from Below.go);have ar:=A_ D;have aH:=H.size;have aF:=T.ra.1;have aG:=T.rb.1;have aA:=A_ (show ∀ b∈ab 5,b≠ga/\b≠gb from λb E=>by have:=(ak b E).1;(try simp at this);omega);have Z:=A_ (T.below H);have am:=A_ (Z.setL ar aA);obtain⟨_,⟨aZ,a1,a2⟩,⟨bj,bk,bl⟩⟩:=Z.ra;have aV:=(H.cell (p:=⟨ai,3,I⟩) aq).trans ap;have a6:ai<wb.1.size:=oS;have bd:ga<wb.1.size:=oS;have be:gb<wb.1.size:=oS;generalize ab 5=bE at *;clear G aD aE ak aI D aa u0 u1 u2 ax v1 v2 ap aR aS aT aq aw al T aH aF aG ba Z;go_wp2_with fail;go_roundg g;case measure=>omega
    case rel=>exact⟨k+1,_,_,_,_,_,_,_,_,_,_,_,_,_,_,bf.o,gN,(show OutSt w _ ga gb _ X aN h aO (A1e h u t (k+1)) _ _ _ _ _ _ _ (A1i h u t (k+1)) _ _ _ _ _ _ _ from by rw[az.o];exact am)⟩
   by_cases aj:x.right=(t:Int)
   ·skip
    have ay:=A_ (by rw[A1e,au.o,if_neg an]:A1e h u t (k+1)=A1e h u t k);have aW:(x.left==(t:Int))=AH:=by simp[an]
    have az:=A_ (by rw[A1i,au.o,if_pos aj,a5.o]:A1i h u t (k+1)=A0k (A1i h u t k) r);have aX:(x.right==(t:Int))=AF:=by simp[aj]
    clear aW aj;go_wp2_with fail;obtain⟨bc,⟨u0,u1,u2⟩,⟨ax,v1,v2⟩⟩:=T.rb;refine X_ sI ?_;dsimp only[DN,DO,DQ];iterate 5 refine C_ _ ?_
    refine D_ (CH (A0k (A1i h u t k) r)) ?_ ?_;·intro aM ab aK aa G;obtain⟨bu,bv⟩:=F_ aa;simp at G;refine G_ ?_;exact H_ (A0x _ _ (A1i h u t k) r _ _ aK (T.ar.below Below.go) (al.below Below.go))
    intro aM ab wb aa G (aD:Hid _);simp at G;have aJ:=G.2.2.2.2.2;obtain⟨⟨D,aE⟩,ak⟩:=aJ;rw[<-az.o]at D;obtain⟨ac,ag,ae,bh,ad,ah,af,bi,aL,aI,_,_⟩:=CF D;rw[aL]at D;have H:=A_ (show Bw U wb from Below.go);have ar:=A_ D;have aH:=H.size;have aF:=T.ra.1;have aG:=T.rb.1;have aA:=A_ (show ∀ b∈ab 5,b≠ga/\b≠gb from λb E=>by have:=(ak b E).1;(try simp at this);omega);have Z:=A_ (T.below H);have am:=A_ (Z.setR ar aA);obtain⟨_,⟨aZ,a1,a2⟩,⟨bj,bk,bl⟩⟩:=Z.rb;have aV:=(H.cell (p:=⟨ai,3,I⟩) aq).trans ap;have a6:ai<wb.1.size:=oS;have bd:ga<wb.1.size:=oS;have be:gb<wb.1.size:=oS;generalize ab 5=bE at *;clear G aD aE ak aI D aa u0 u1 u2 ax v1 v2 ap aR aS aT aq aw al T aH aF aG bc Z;go_wp2_with fail;go_roundg g;case measure=>omega
    case rel=>exact⟨k+1,_,_,_,_,_,_,_,_,_,_,_,_,_,_,bf.o,gN,(show OutSt w _ ga gb _ X aN h aO (A1e h u t (k+1)) _ _ _ _ _ _ _ (A1i h u t (k+1)) _ _ _ _ _ _ _ from by rw[ay.o];exact am)⟩
   skip;have ay:=A_ (by rw[A1e,au.o,if_neg an]:A1e h u t (k+1)=A1e h u t k);have aW:(x.left==(t:Int))=AH:=by simp[an]
   have az:=A_ (by rw[A1i,au.o,if_neg aj]:A1i h u t (k+1)=A1i h u t k);have aX:(x.right==(t:Int))=AH:=by simp[aj]
   clear aW aX;go_wp2_with fail;go_roundg g;case measure=>omega
   case rel=>exact⟨k+1,_,_,_,_,_,_,_,_,_,_,_,_,_,_,bf.o,gN,(show OutSt w _ ga gb _ X aN h aO (A1e h u t (k+1)) _ _ _ _ _ _ _ (A1i h u t (k+1)) _ _ _ _ _ _ _ from by rw[ay.o,az.o];exact T)⟩
  obtain rfl:k=X:=oS;have c6:¬ ((k:Int)<k):=oS;have cn:=A_ (by unfold D1y;rw[a3.o]:A3t (A1e h u t k) (A1i h u t k)=D1y h u t);obtain⟨ba,⟨u0,u1,u2⟩,⟨ax,v1,v2⟩⟩:=Y.ra;obtain⟨bc,⟨aZ,a1,a2⟩,⟨dT,dU,dV⟩⟩:=Y.rb;obtain⟨r0,dM,dJ⟩:=bx Y.res;have cs:=A_ Y.bl;clear b5 aP;go_wp2_with fail;refine(A5b _ _ (A1e h u t k) (A1i h u t k) _ _ wr Y.al Y.ar).mono ?_;rintro _ dg ⟨dQ,de,rfl,a7,bz,bt⟩;rw[cn.o]at a7;obtain⟨ac,ag,ae,bh,ad,ah,af,bi,rfl,db,_,_⟩:=CF a7;have cm:=A_ a7;have cF:=A_ bz;obtain⟨dt,du⟩:=F_ bt;have dI:w.1.size+1<dg.1.size:=by have:=bt.size;omega
  have cG:=A_ (show ∀ b∈de,w.1.size+2<=b from λb E=>by have:=(bz.2 b E).1;omega);have ds:=BH cs bt;clear a7 bz db Y;go_wp2;refine CK (v:=BJ #[J (D1y h u t).1.1,S ac ag ae,S ad ah af]) (by simp[CO,results158,go_sem, *]) rfl ?_;refine A1s (lo:=w.1.size+2) cm.o cF.o.free cG.o oS ?_ ?_;·exact Above.go
  exact Below.go
end Go.Proofs.YtjcanieccnljfaaGreat.X
