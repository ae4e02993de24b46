/- A part of the proof. -/
import Derived.Test.YtbkilakncnlebaaGreatDoorY12
import Derived.Test.YtbkilakncnlebaaGreatDoorY13
set_option linter.constructorNameAsVariable false
set_option maxHeartbeats 16000000
set_option maxRecDepth 10000
open Bool renaming false→AF,true→AD
open Go renaming Addr→AH,Calls→AR,Oper→BU,TypeId→BS,Value→AJ,World→J,bodyPost_ret→BI,heap_alloc_new→CF,maxLen→BG,results→BO,wpList→FF
open Go.IntKind renaming i64→K
open Go.Obj renaming cells→AK
open Go.RowKit.Below renaming refl→CG,trans→IY
open Go.Value renaming agg→AM,bool→AC,int→N,slice→S
open Go.World renaming cell?_of_block→JF,frozen?_of_block→PI,size_alloc→EW
open Go.World.ownsRow renaming cellAt→OS,lt→EU,stored→MH
open Go.XB.Below renaming box→AV,next→AI
open Go.XB.Dat renaming sz→DL
open Go.XB.MP renaming agg→BP
open Go.XB.TPoint renaming agg→DN,elemA→FC
open Go.XB.TRat renaming agg→BK
open List renaming all_eq_true→BJ,dropLast→DJ,getD_eq_getElem?_getD→DY,getElem?_eq_getElem→CV,getElem?_eq_some_iff→CQ,getLast→DK,length→DI,mem_of_getElem?→CH,replicate→CJ
open Nat renaming le_trans→BM,lt_or_ge→BN,lt_succ_self→JG
open Option renaming none→I,some→QL
namespace Go.Proofs.YtbkilakncnlebaaGreatDoor.X
open Go.RowKit Go.XB Go.XN Proofs.Tryz
attribute [local go_sem] L_ opAt N_ M_ Region.wanted yielded ix0 ix1 ix2
attribute [local simp] N_ M_ MP.eq MP.agg MP.sl A0r
def A8k (us:List Bool) (t:TTri):Nat->List Bool
 |0=>us
 |1=>us.set t.a.toNat AD
 |2=>(us.set t.a.toNat AD).set t.b.toNat AD
 |_=>((us.set t.a.toNat AD).set t.b.toNat AD).set t.c.toNat AD
def A4t (n:Nat) (ts:List TTri):Nat->List Bool
 |0=>CJ n AF
 |k+1=>A8k (A4t n ts k) (ts.getD k ⟨0,0,0,0,0⟩) 3
theorem B1y (us:List Bool) (t:TTri) (i:Nat):(A8k us t i).length=us.length:=by
 unfold A8k;split<;>simp
theorem B3u (n:Nat) (ts:List TTri):∀ k,(A4t n ts k).length=n
 |0=>by simp[A4t]
 |k+1=>by rw[A4t,B1y,B3u]
structure MeshI (m:TMesh) (xs ys:List Int):Prop where
 pts:E5p m.1 xs ys
 sx:A6a xs
 sy:A6a ys
 n3:3<=m.1.length
 n40:m.1.length<=40
 ok:m.1.all A1b=AD
 nd:m.1.Nodup
 t1:1<=m.triangles.length
 t48:m.triangles.length<=48
 tri:∀ t∈m.triangles,A5v m.1.length t/\inB 0 t.4 2=AD/\inB 0 t.5 60=AD/\0<A5u xs ys t.a t.b t.c
 sep:∀ (k:Nat) (t:TTri) (j:Nat) (s:TTri),m.triangles[k]?=QL t->j<k->m.triangles[j]?=QL s->B9s xs ys s t=AD\/B9s xs ys t s=AD
 used:A4t m.1.length m.triangles m.triangles.length=CJ m.1.length AD
 noin:∀ t∈m.triangles,E9p xs ys m.1.length t
theorem D1p:(prog.info? 4).map (λi=>(i.zero,i.size,i.bytes))=QL (QL (AC AF),1,1):=kR
def BRow (w:J) (base g n:Nat) (fs:List Bool):Prop:=w.ownsRow base 4 1 (S (QL ⟨g,0,I⟩) n n) n (fs.map AC)
theorem B6q (n:Nat):(madeCells (AJ.bool AF).cells (n*1)).toList=(CJ n AF).map AC:=by
 rw[List.map_replicate];refine List.eq_replicate_iff.2 ⟨by simp[size_madeCells],λh b=>?_⟩;simp only[madeCells,Array.toList_map,List.mem_map]at b;obtain⟨a,_,rfl⟩:=b;have:(AJ.bool AF).cells=#[AC AF]:=rfl;simp[this,Nat.mod_one]
theorem BRow.cell {w:J} {base g n:Nat} {b:List Bool} (h:BRow w base g n b) {j:Nat} {f:Bool} (u:b[j]?=QL f):w.cell? ⟨g,j,I⟩=QL (AC f)/\w.frozen? ⟨g,j,I⟩=AF:=by
 have D:=(CQ.1 u).1;have E:b.length=n*1:=by have:=h.1;simpa using this
 exact⟨by rw[OS h j oS,List.getElem?_map,u];rfl,World.ownsRow.frozenAt h j⟩
theorem BRow.lt {w:J} {base g n:Nat} {fs:List Bool} (h:BRow w base g n fs):g<w.1.size:=(EU h _ rfl).2
theorem BRow.set {w:J} {base g n:Nat} {b:List Bool} (h:BRow w base g n b) (j:Nat) (f:Bool):BRow (w.setCell ⟨g,j,I⟩ (AC f)) base g n (b.set j f):=by
 unfold BRow;rw[List.map_set];exact(MH h j _).1
theorem BRow.below {w w':J} {base g n:Nat} {fs:List Bool} (h:BRow w base g n fs) (hb:Bw w w'):BRow w' base g n fs:=I_ h hb

theorem D6i (g n:Nat) (w:J) (h:∀ j,j<n->w.cell? ⟨g,j,I⟩=QL (AC AD)) (O:g<w.1.size) (W:n<=40) :
  AR prog 172 #[S (QL ⟨g,0,I⟩) n n,AC AF] w (A0b w (N K (-1))):=by
 have D:=A_ h;clear h;go_enter func172,ntmps172;go_wp2_with fail;go_loopg [8] n (λg s wr=>∃ k:Nat,k+g=n/\s=N K k/\wr=w);case atStart=>exact⟨0,oS,rfl,rfl⟩
 case round =>
  obtain⟨k,u,rfl,rfl⟩:=hrel;rcases BN k n with b|b
  ·have G:(k:Int)<n:=oS
   have T:(k:Int)<=40:=oS;have H:=D k b;obtain⟨g,rfl⟩:∃ g,gk=g+1:=⟨gk - 1,oS⟩
   have E:=A_ (by omega:k+1+g=n);clear u b;go_wp2_with fail;go_roundg g;case measure=>omega
   case rel=>exact⟨k+1,E,gN,rfl⟩
  obtain rfl:k=n:=oS;have G:¬ ((k:Int)<k):=oS;clear u b;go_wp2;go_ret;exact⟨rfl,CG _ _⟩
theorem C8y (g n:Nat) (w:J) (b:∀ j,j<n->w.cell? ⟨g,j,I⟩=QL (AC AD)) (u:g<w.1.size) (D:n<=40) :
  AR prog 119 #[S (QL ⟨g,0,I⟩) n n,AC AF] w (A0b w (AC AF)):=by
 have C:=A_ (D6i g n w b u D);clear b;go_enter func119,ntmps119;go_wp2_with fail;refine C.mono ?_;rintro _ E ⟨rfl,h⟩;go_wp2;go_ret;exact⟨rfl,h⟩

theorem B1u (v:AJ) (m:TMesh) (b:List Nat) (xs ys:List Int) (w:J) (bA:Agg w v m b) (al:MeshI m xs ys):AR prog 68 #[v] w (A0b w (AC AD)):=by
 obtain⟨aO,h,aS,bD,aC,n1,aa,cv,rfl,rfl,aW,G⟩:=TMesh.agg bA;have bl:=A_ aW;have aQ:=A_ G;have u:=A_ al;have aK:=aW.1;have aL:=G.1;have au:=A_ aK;have bO:=A_ aL;have ci:3<=h:=by rw[<-aK];exact al.n3
 have aB:h<=40:=by rw[<-aK];exact al.n40
 have cN:1<=n1:=by rw[<-aL];exact al.t1
 have ch:n1<=48:=by rw[<-aL];exact al.t48
 have cP:n1<=aa:=G.2.1;have cO:(n1:Int)<=48:=oS;have bT:=A_ (by unfold inB;simp;omega:inB 1 n1 48=AD);obtain⟨bB,cc,co,cp,cq⟩:=info_parts D1p;have b2:=A_ (by rw[cq];omega:bB.bytes*h<=281474976710656);have bU:=A_ (by unfold BG;omega:h<=BG);clear bA aW G al aK aL;go_enter func68,ntmps68;go_wp2_with fail;refine(C4p aO h aS m.1 bD _ (bl.below Below.go) u.ok u.nd ci aB).mono ?_;rintro _ a7 ⟨rfl,aU⟩;obtain⟨b0,b7⟩:=F_ aU;have c0:w.1.size<a7.1.size:=ltg aU;have bL:=A_ (show Bw w a7 from Below.go);go_wp2_with fail;have C:=A0s n1 1 48 a7;rw[bT.o]at C;refine C.mono ?_;clear C;rintro _ bG ⟨rfl,E⟩;obtain⟨b3,b8⟩:=F_ E;have c1:w.1.size<bG.1.size:=ltg E;have be:=A_ (AI bL E);go_wp2_with fail;refine(D4p aO h aS m.1 bD xs ys bG (bl.o.below be.o) u.o.pts u.o.sx u.o.sy aB oS).mono ?_;rintro _ w3 ⟨db,rfl,bv,ab⟩;have aP:=A_ bv;obtain⟨A,ah,af,an,ai,ag,ao,aj,cx,cy,rfl,bY,bZ⟩:=bv;clear bY bZ;obtain⟨b4,b9⟩:=F_ ab;have aZ:w.1.size<w3.1.size:=ltg ab;have Y:=A_ (AI be ab);have c7:w3.cell? ⟨w.1.size,0,I⟩=QL (S aO h aS):=oD;have k1:w3.cell? ⟨w.1.size,1,I⟩=QL (S aC n1 aa):=oD;clear b0 b7 b3 b8 b4 b9 aU E ab;go_upto_region 4 with fail;have cn:w.1.size<=(w3.alloc (AK #[S A h ah,S (QL ⟨af,an,I⟩) h ai,S (QL ⟨ag,ao,I⟩) h aj] 170)).1.size:=oR;go_upto_region 5 with(at_make;(refine wpList_make_full _ rfl _ _ 172 rfl w.1.size 4 bB (AC AF) 1 underlying172 cc co cp .i64 .i64 _ _ h rfl rfl rfl rfl b2 bU cn ?_);intro ad aM bt)
 rw[B6q]at aM;rw[EW]at aM;have ax:=(CG (w3.1.size+1) (w3.alloc (AK #[S A h ah,S (QL ⟨af,an,I⟩) h ai,S (QL ⟨ag,ao,I⟩) h aj] 170))).grown bt sI (by intro k aI;cases aI);have a8:=A_ (show BRow ad w.1.size (w3.1.size+1) h (A4t h m.triangles 0)from aM);have bf:=A_ (show Bw w3 ad from(AV _).trans (ax.mono oS));have W:ad.cell? ⟨w3.1.size,0,I⟩=QL (S A h ah):=(ax.cell (p:=⟨w3.1.size,0,I⟩) (JG _)).trans oD;have p1:ad.cell? ⟨w3.1.size,1,I⟩=QL (S (QL ⟨af,an,I⟩) h ai):=(ax.cell (p:=⟨w3.1.size,1,I⟩) (JG _)).trans oD;have p2:ad.cell? ⟨w3.1.size,2,I⟩=QL (S (QL ⟨ag,ao,I⟩) h aj):=(ax.cell (p:=⟨w3.1.size,2,I⟩) (JG _)).trans oD;have a1:ad.cell? ⟨w.1.size,1,I⟩=QL (S aC n1 aa):=(bf.cell (p:=⟨w.1.size,1,I⟩) aZ).trans k1;have cY:w3.1.size+1<ad.1.size:=a8.lt;clear aM bt ax;go_wp2_with fail;go_loopg [32] n1 (λg s wr=>∃ k:Nat,k+g=n1/\s=N K k/\Hid (BRow wr w.1.size (w3.1.size+1) h (A4t h m.triangles k))/\Bw w3 wr/\(wr.cell? ⟨w3.1.size,0,I⟩=QL (S A h ah)/\wr.cell? ⟨w3.1.size,1,I⟩=QL (S (QL ⟨af,an,I⟩) h ai)/\wr.cell? ⟨w3.1.size,2,I⟩=QL (S (QL ⟨ag,ao,I⟩) h aj)));case atStart=>exact⟨0,oS,rfl,a8.o,bf.o,⟨W,p1,p2⟩⟩
 case round =>
  clear W p1 p2 a1;obtain⟨k,aI,rfl,az,ak,⟨W,p1,p2⟩⟩:=hrel;have bK:=A_ ak;have bi:=A_ (AI Y ak);have bj:=A_ (aP.below ak);have a1:wr.cell? ⟨w.1.size,1,I⟩=QL (S aC n1 aa):=(ak.cell (p:=⟨w.1.size,1,I⟩) aZ).trans k1;have cZ:w3.1.size+1<wr.1.size:=az.lt;have c5:w.1.size<wr.1.size:=oS;have c6:w3.1.size<wr.1.size:=oS;rcases BN k n1 with aJ|aJ
  ·rename J=>D
   have cg:(k:Int)<n1:=oS;have cM:(0:Int)<=k:=oS;have cK:(k:Int)<=48:=oS;have cL:(k:Int)<=aa:=oS;obtain⟨bV,cu,t,bW,cG,aN,cA,cB,cD,cE,cF,aT⟩:=TTri.elemA (aQ.below bi) aJ;subst bW;have ba:=A_ aT;have bd:=A_ (show ∀ bo:J,Agg bo (AM #[N K t.a,N K t.b,N K t.c,N K t.4,N K t.5]) t []from λbo=>by obtain⟨_,_,cs,i2,ct,i4,i5⟩:=TTri.agg aT;exact TTri.mkAgg cs i2 ct i4 i5);have bR:=A_ aN;have aD:=A_ (u.tri t (CH aN));have H:=A_ (by have:=aD.1;rwa [au.o]at this:A5v h t);have bS:=A_ (show A8k (A4t h m.triangles k) t 3=A4t h m.triangles (k+1) by rw[A4t,DY,aN];rfl);obtain⟨g,rfl⟩:∃ g,gk=g+1:=⟨gk - 1,oS⟩
   have cf:=A_ (by omega:k+1+g=n1);clear aI aJ aN aT ak;go_wp2_with fail;refine(C3j _ h xs ys _ t _ (D.alloc (AK #[N K t.a,N K t.b,N K t.c,N K t.4,N K t.5] 122)) (bj.below (AV _)) u.sx u.sy aB (ba.below (AV _)) H aD.2.1 aD.2.2.1 aD.2.2.2).mono ?_;rintro _ Z ⟨rfl,O⟩;obtain⟨br,bs⟩:=F_ O;have aq:=A_ (show Bw D Z from IY (AV _) (O.mono sI));have cR:D.1.size<Z.1.size:=by have:=O.size;simp at this;omega
   go_wp2_with fail;refine(A2g _ t _ Z (ba.below aq)).mono ?_;rintro _ bH ⟨rfl,ay⟩;obtain⟨b5,ca⟩:=F_ ay;have bg:=A_ (AI aq ay);have ck:D.1.size<bH.1.size:=by have:=ay.size;omega
   have cU:w3.1.size<Z.1.size:=oS;go_wp2_with fail;go_loopg [43] 3 (λg s wr=>∃ i:Nat,i+g=3/\s=N K i/\Hid (BRow wr w.1.size (w3.1.size+1) h (A8k (A4t h m.triangles k) t i))/\Bw w3 wr/\D.1.size<wr.1.size/\(wr.cell? ⟨w3.1.size,0,I⟩=QL (S A h ah)/\wr.cell? ⟨w3.1.size,1,I⟩=QL (S (QL ⟨af,an,I⟩) h ai)/\wr.cell? ⟨w3.1.size,2,I⟩=QL (S (QL ⟨ag,ao,I⟩) h aj)/\wr.cell? ⟨D.1.size,0,I⟩=QL (N K t.a)/\wr.cell? ⟨D.1.size,1,I⟩=QL (N K t.b)/\wr.cell? ⟨D.1.size,2,I⟩=QL (N K t.c)/\wr.cell? ⟨D.1.size,3,I⟩=QL (N K t.4)/\wr.cell? ⟨D.1.size,4,I⟩=QL (N K t.5)));case atStart=>exact⟨0,rfl,rfl,az.below bg,AI bK bg,ck,⟨oD,oD,oD,oD,oD,oD,oD,oD⟩⟩
   case round =>
   clear br bs b5 ca W p1 p2;obtain⟨i,aF,rfl,T,E,am,⟨W,p1,p2,a2,a3,a4,a5,a6⟩⟩:=hrel;have bM:=A_ E;obtain rfl|rfl|rfl|rfl:i=0\/i=1\/i=2\/i=3:=oS
   ·obtain rfl:gk=2+1:=oS
    have bp:=H.1.1;have aw:=H.1.2;have aA:=T.cell (j:=t.a.toNat) (f:=(A8k (A4t h m.triangles k) t 0).getD t.a.toNat AF) (by rw[DY,CV (by rw[B1y,B3u];omega)];rfl);obtain⟨bE,bF⟩:=aA;have ap:=A_ (show BRow (wr.setCell ⟨w3.1.size+1,t.a.toNat,I⟩ (AC AD)) w.1.size (w3.1.size+1) h (A8k (A4t h m.triangles k) t (0+1))from T.set _ _);have Y:=A_ (show Bw w3 (wr.setCell ⟨w3.1.size+1,t.a.toNat,I⟩ (AC AD))from E.setCell (p:=⟨w3.1.size+1,t.a.toNat,I⟩) (by omega:w3.1.size<=w3.1.size+1) _);clear aF;go_wp2_with fail;go_roundg 2;case measure=>omega
    case rel=>exact⟨0+1,rfl,gN,ap.o,Y.o,by simpa using am,⟨oD,oD,oD,oD,oD,oD,oD,oD⟩⟩
   ·obtain rfl:gk=1+1:=oS
    have bp:=H.2.1.1;have aw:=H.2.1.2;have aA:=T.cell (j:=t.b.toNat) (f:=(A8k (A4t h m.triangles k) t 1).getD t.b.toNat AF) (by rw[DY,CV (by rw[B1y,B3u];omega)];rfl);obtain⟨bE,bF⟩:=aA;have ap:=A_ (show BRow (wr.setCell ⟨w3.1.size+1,t.b.toNat,I⟩ (AC AD)) w.1.size (w3.1.size+1) h (A8k (A4t h m.triangles k) t (1+1))from T.set _ _);have Y:=A_ (show Bw w3 (wr.setCell ⟨w3.1.size+1,t.b.toNat,I⟩ (AC AD))from E.setCell (p:=⟨w3.1.size+1,t.b.toNat,I⟩) (by omega:w3.1.size<=w3.1.size+1) _);clear aF;go_wp2_with fail;go_roundg 1;case measure=>omega
    case rel=>exact⟨1+1,rfl,gN,ap.o,Y.o,by simpa using am,⟨oD,oD,oD,oD,oD,oD,oD,oD⟩⟩
   ·obtain rfl:gk=0+1:=oS
    have bp:=H.2.2.1;have aw:=H.2.2.2;have aA:=T.cell (j:=t.c.toNat) (f:=(A8k (A4t h m.triangles k) t 2).getD t.c.toNat AF) (by rw[DY,CV (by rw[B1y,B3u];omega)];rfl);obtain⟨bE,bF⟩:=aA;have ap:=A_ (show BRow (wr.setCell ⟨w3.1.size+1,t.c.toNat,I⟩ (AC AD)) w.1.size (w3.1.size+1) h (A8k (A4t h m.triangles k) t (2+1))from T.set _ _);have Y:=A_ (show Bw w3 (wr.setCell ⟨w3.1.size+1,t.c.toNat,I⟩ (AC AD))from E.setCell (p:=⟨w3.1.size+1,t.c.toNat,I⟩) (by omega:w3.1.size<=w3.1.size+1) _);clear aF;go_wp2_with fail;go_roundg 0;case measure=>omega
    case rel=>exact⟨2+1,rfl,gN,ap.o,Y.o,by simpa using am,⟨oD,oD,oD,oD,oD,oD,oD,oD⟩⟩
   clear aF;have q1:wr.cell? ⟨w.1.size,1,I⟩=QL (S (QL ⟨bV,cu,I⟩) n1 aa):=(E.cell (p:=⟨w.1.size,1,I⟩) aZ).trans k1;have cj:w.1.size<wr.1.size:=by have:=T.lt;omega
   have bI:=A_ (by rw[<-bS.o];exact T:BRow wr w.1.size (w3.1.size+1) h (A4t h m.triangles (k+1)));clear a1 az T;go_wp2_with fail;go_loopg [55] k (λg s wr=>∃ j:Nat,j+g=k/\s=N K j/\Hid (BRow wr w.1.size (w3.1.size+1) h (A4t h m.triangles (k+1)))/\Bw w3 wr/\D.1.size<wr.1.size/\(wr.cell? ⟨w3.1.size,0,I⟩=QL (S A h ah)/\wr.cell? ⟨w3.1.size,1,I⟩=QL (S (QL ⟨af,an,I⟩) h ai)/\wr.cell? ⟨w3.1.size,2,I⟩=QL (S (QL ⟨ag,ao,I⟩) h aj)/\wr.cell? ⟨D.1.size,0,I⟩=QL (N K t.a)/\wr.cell? ⟨D.1.size,1,I⟩=QL (N K t.b)/\wr.cell? ⟨D.1.size,2,I⟩=QL (N K t.c)/\wr.cell? ⟨D.1.size,3,I⟩=QL (N K t.4)/\wr.cell? ⟨D.1.size,4,I⟩=QL (N K t.5)));case atStart=>exact⟨0,oS,rfl,bI.o,bM.o,am,⟨W,p1,p2,a2,a3,a4,a5,a6⟩⟩
   case round =>
    clear W p1 p2 a2 a3 a4 a5 a6 q1 cj am;obtain⟨j,aG,rfl,aE,ab,am,⟨W,p1,p2,a2,a3,a4,a5,a6⟩⟩:=hrel;have ar:=A_ ab;have bN:=A_ (AI Y ab);have cQ:w3.1.size<wr.1.size:=by have:=aE.lt;omega
    rcases BN j k with aH|aH
    ·have cd:(j:Int)<k:=oS
     have ce:j<n1:=oS;obtain⟨cz,c8,s,bX,cH,aY,u0,u1,u2,c9,da,bq⟩:=TTri.elemA (aQ.below bN) ce;cases bX;have bc:=A_ bq;have bP:=A_ (u.sep k t j s bR aH aY);have bm:=A_ (by have:=(u.tri s (CH aY)).1;rwa [au.o]at this:A5v h s);obtain⟨g',rfl⟩:∃ g',gk=g'+1:=⟨gk - 1,oS⟩
     have bu:=A_ (by omega:j+1+g'=k);have bz:=B5a _ h xs ys (AM #[N K s.a,N K s.b,N K s.c,N K s.4,N K s.5]) (AM #[N K t.a,N K t.b,N K t.c,N K t.4,N K t.5]) s t _ _ (wr.alloc (AK #[N K s.a,N K s.b,N K s.c,N K s.4,N K s.5] 122)) ((aP.below ar).below (AV _)) u.sx u.sy (bc.below (AV _)) (bd _) bm H;have bn:=A_ bz;clear aG aH aY bq bz;cases G:B9s xs ys s t
     ·have aR:=A_ G
      have bQ:=A_ (show B9s xs ys t s=AD from(bP.o).resolve_left (by rw[G];simp));clear G;go_wp2_with fail;have C:=bn.o;rw[aR.o]at C;refine C.mono ?_;clear C;rintro _ X ⟨rfl,ac⟩;obtain⟨b6,cb⟩:=F_ ac;have ae:=A_ (show Bw wr X from IY (AV _) (ac.mono sI));have cm:wr.1.size<X.1.size:=by have:=ac.size;simp at this;omega
      have cV:w3.1.size<X.1.size:=oS;have cW:D.1.size<X.1.size:=oS;go_wp2_with fail;have C:=B5a _ h xs ys (AM #[N K t.a,N K t.b,N K t.c,N K t.4,N K t.5]) (AM #[N K s.a,N K s.b,N K s.c,N K s.4,N K s.5]) t s _ _ X ((aP.below ar).below ae) u.sx u.sy (bd _) (bc.below ae) H bm;rw[bQ.o]at C;refine C.mono ?_;clear C;rintro _ cw ⟨rfl,aV⟩;obtain⟨cI,cJ⟩:=F_ aV;have bh:=A_ (AI ae aV);have cX:X.1.size<=cw.1.size:=aV.size;go_wp2_with fail;go_roundg g';case measure=>omega
      case rel=>exact⟨j+1,bu.o,gN,aE.o.below bh.o,AI ar.o bh.o,oS,⟨oD,oD,oD,oD,oD,oD,oD,oD⟩⟩
     have aR:=A_ G;clear G;go_wp2_with fail;have C:=bn.o;rw[aR.o]at C;refine C.mono ?_;clear C;rintro _ X ⟨rfl,ac⟩;obtain⟨b6,cb⟩:=F_ ac;have ae:=A_ (show Bw wr X from IY (AV _) (ac.mono sI));have cm:wr.1.size<X.1.size:=by have:=ac.size;simp at this;omega
     go_wp2_with fail;go_roundg g';case measure=>omega
     case rel=>exact⟨j+1,bu.o,gN,aE.o.below ae.o,AI ar.o ae.o,oS,⟨oD,oD,oD,oD,oD,oD,oD,oD⟩⟩
    obtain rfl:j=k:=oS;have cd:¬ ((j:Int)<j):=oS;clear aG aH;go_wp2_with fail;go_roundg g;case measure=>omega
    case rel=>exact⟨j+1,cf,gN,aE,ar,⟨W,p1,p2⟩⟩
  obtain rfl:k=n1:=oS;have cg:¬ ((k:Int)<k):=oS;have a9:=A_ (show BRow wr w.1.size (w3.1.size+1) h (CJ h AD) by have aw:=u.used;rw[au.o,bO.o]at aw;rw[<-aw];exact az);have bJ:=A_ (C8y (w3.1.size+1) h wr (λj aG=>(a9.o.cell (j:=j) (f:=AD) (by rw[List.getElem?_replicate,if_pos aG])).1) a9.o.lt aB);clear aI aJ ak az;go_wp2_with fail;refine bJ.mono ?_;rintro _ Z ⟨rfl,O⟩;obtain⟨br,bs⟩:=F_ O;have c2:w.1.size<Z.1.size:=by have:=O.size;omega
  have c4:w3.1.size<Z.1.size:=by have:=O.size;omega
  have aq:=A_ (AI bi O);go_wp2_with fail;refine(C6x _ h xs ys aC k aa m.triangles cv Z (bj.below O) u.sx u.sy aB (aQ.below aq) ch (λt aX=>by have:=(u.tri t aX).1;rwa [au.o]at this) (λt aX=>by have:=u.o.noin t aX;rwa [au.o]at this)).mono ?_;rintro _ bH ⟨rfl,ay⟩;go_wp2;go_ret;exact⟨rfl,AI aq ay⟩
section
section
variable {α:Type} [Dat α]
theorem E1t {w wr wa D:J} {gB g' k:Nat} {cells cs:List AJ} {fss:List (List Nat)} {ps:List α} {Y:α} {z:List Nat} (ai:Filled wr cells ps fss) (ab:ps.length=k) (ah:cells.length=k*DL α) (H:Own w wr fss.flatten) (ac:gB∉fss.flatten) (W:Bw w wr) (ak:gB<wr.1.size) (ag:w.1.size<=gB)
  (T:Bw wr wa) (Z:Dat.at_ wa cs Y z) (aa:Free wa z) (O:∀ b∈z,wr.1.size<=b) (X:wa.grownBy D (QL gB)) (ad:g'=gB\/g'=wa.1.size) :
  Filled D (cells++cs) (ps++[Y]) (fss++[z])/\Own w D (fss++[z]).flatten/\g'∉(fss++[z]).flatten/\Bw w D/\(ps++[Y]).length=k+1:=by
 have al:=T.size;have af:∀ b∈z,b<wa.1.size:=Dat.lt Z;have G:∀ b∈fss.flatten,b<wr.1.size:=H.lt;have k1:∀ b∈fss.flatten,D.1[b]?=wr.1[b]?:=λb h=>(X.block b (by have:=G b h;omega) (by intro e;injection e with e;exact ac (e ▸ h))).trans (T.block b (G b h));have k2:∀ b∈z,D.1[b]?=wa.1[b]?:=λb h=>X.block b (af b h) (by intro e;injection e with e;have:=O b h;omega);have ae:(fss++[z]).flatten=fss.flatten++z:=sI;refine⟨Filled.push (ai.keep k1) (by rw[ah,ab]) (Dat.keep Z k2),?_,?_,?_,by simp[ab]⟩;·rw[ae];refine Own.append ⟨H.1,λb h=>⟨(H.2 b h).1,by obtain⟨cs,t,e⟩:=(H.2 b h).2;exact⟨cs,t,(k1 b h).trans e⟩⟩⟩ ⟨aa.1,λb h=>⟨by have:=O b h;have:=W.size;omega,by obtain⟨cs,t,e⟩:=aa.2 b h;exact⟨cs,t,(k2 b h).trans e⟩⟩⟩ ?_;exact A9o G O
 ·rw[ae]
  intro u;rcases List.mem_append.1 u with u|u
  ·rcases ad with E|E
   ·exact ac (E ▸ u)
   have:=G _ u;omega
  rcases ad with E|E;·have:=O _ u;omega
  have:=af _ u;omega
 exact(AI W T).grown X (by have:=W.size;omega) (λk2 aj=>by injection aj with u;subst u;exact ag)
theorem D7z {w wr:J} {base gB k cap:Nat} {e:BS} {cells:List AJ} {fss:List (List Nat)} {ps:List α} (ab:wr.ownsRow base e (DL α) (S (QL ⟨gB,0,I⟩) k cap) k cells) (T:w.1.size<=base) (W:Filled wr cells ps fss) (Y:ps.length=k) (aa:Own w wr fss.flatten) (Z:gB∉fss.flatten) (O:Bw w wr):A0w w ps (.returned (S (QL ⟨gB,0,I⟩) k cap)) wr:=by
 obtain⟨h,c',u,ad,ac,b⟩:=W.sl (α:=α) ab Y;refine⟨h,k,c',u,by rw[<-ad],ac,B7v (n:=k) (fss:=fss) ?_ aa,O⟩;rcases b with b|⟨g,D,E,G,H⟩;·exact .inl b
 refine .inr ⟨g,E,BM T G,H,λX=>?_⟩;have e:gB=g:=by simpa[Value.ownBlock]using D
 exact Z (e ▸ X)
end
end
end Go.Proofs.YtbkilakncnlebaaGreatDoor.X
namespace Go.XB
open Go.RowKit Go.Proofs.YtbkilakncnlebaaGreatDoor.X
section
variable {α:Type} [Dat α]
def Pend (w wb:J) (e:BS) (wr:J) (gB i cap:Nat) (ps:List α):Prop :=
 ∃ cells fss,wr.ownsRow wb.1.size e (DL α) (S (QL ⟨gB,0,I⟩) i cap) i cells/\Filled wr cells ps fss/\ps.length=i/\Own w wr fss.flatten/\gB∉fss.flatten/\w.1.size<=wb.1.size/\Bw w wr/\Bw wb wr
variable {w wb wr wa:J} {e:BS} {gB i cap:Nat} {ps:List α}
theorem Pend.start (hw:Bw w wb):Pend (α:=α) w wb e (wb.alloc (AK #[] e)) wb.1.size 0 0 [] :=
 ⟨[],[],World.ownsRow_made wb #[] 0 (Nat.le_refl _) (Nat.zero_le _) sI,Filled.nil _ _,rfl,Own.nil _ _,sI,hw.size,AI hw (AV _),AV _⟩
theorem Pend.below (h:Pend w wb e wr gB i cap ps) (b:Bw wr wa):Pend w wb e wa gB i cap ps:=by
 obtain⟨cells,fss,D,E,G,H,O,T,W,u⟩:=h;exact⟨cells,fss,I_ D b,E.below b,G,H.below b,O,T,AI W b,IY u (b.mono u.size)⟩
theorem Pend.bw (h:Pend w wb e wr gB i cap ps):Bw w wr:=by obtain⟨_,_,_,_,_,_,_,_,h,_⟩:=h;exact h
theorem Pend.bb (h:Pend w wb e wr gB i cap ps):Bw wb wr:=by obtain⟨_,_,_,_,_,_,_,_,_,h⟩:=h;exact h
theorem Pend.lt (h:Pend w wb e wr gB i cap ps):wb.1.size<=gB/\gB<wr.1.size:=by
 obtain⟨cells,fss,b,_⟩:=h;exact EU b _ rfl
theorem Pend.done (h:Pend w wb e wr gB i cap ps):A0w w ps (.returned (S (QL ⟨gB,0,I⟩) i cap)) wr:=by
 obtain⟨cells,fss,b,u,D,E,G,H,O,T⟩:=h;exact D7z b H u D E G O
theorem Sl.pushed {β:Type} [Dat β] {A:Option AH} {n c:Nat} {xs:List β} {bs:List Nat} {w8:J} {g':Nat} (h:Sl wr A n c xs bs) (hC:Bw wr wa) (hg:wa.grownBy w8 (QL gB)) (hor:g'=gB\/g'=wa.1.size) (hn:gB∉bs):Sl w8 A n c xs bs/\g'∉bs :=
 ⟨(h.below hC).keep (λb hb=>hg.block b (by have:=h.lt b hb;have:=hC.size;omega) (by intro e;injection e with e;exact hn (e ▸ hb))),λhb=>hor.elim (λe=>hn (e ▸ hb)) (λe=>by have:=h.lt _ hb;have:=hC.size;omega)⟩
end
end Go.XB
namespace Go
open Go.RowKit Go.XB Go.Proofs.YtbkilakncnlebaaGreatDoor.X
theorem A1v {P:Program} {α:Type} [Dat α] {w wb wr wa:J} {gB k cap:Nat} {ps:List α} {ac:Array BU} {rest:List BU} {o:BU} {a:Act} {Q:Exit->Act->J->Prop} (an:o.guard=I) (s x:Operand) (t:BS)
  (aq:o.op=.call { callee:=.builtin .append,args:=#[s,x],argTypes:=#[t,t] })
  (e:BS) (i:TypeInfo) (z:AJ) (G:Nat) (az:P.underlying t=QL (.slice e)) (hi:P.info? e=QL i) (aB:i.zero=QL z)
  (ay:i.size=DL α) (ak:i.bytes=G) (aC:z.cells.size=DL α) (au:Pend w wb e wr gB k cap ps) (D:Bw wr wa) (ax:a.eval s=S (QL ⟨gB,0,I⟩) k cap)
  (E:AH) (c:Nat) (cs:List AJ) (ad:α) (Y:List Nat) (aA:a.eval x=S (QL E) 1 c) (ap:∀ j u,cs[j]?=QL u->wa.cell? (E.add j)=QL u)
  (T:Dat.at_ wa cs ad Y) (am:Free wa Y) (aw:∀ b∈Y,wr.1.size<=b) (ai:k+1<=BG) (al:(k+1)*G<=140737488355328)
  (h:∀ g' cap' w8,Pend w wb e w8 g' (k+1) cap' (ps++[ad])->wa.grownBy w8 (QL gB)->(g'=gB\/g'=wa.1.size)->FF P ac Q rest (a.put o.dst (S (QL ⟨g',0,I⟩) (k+1) cap')) w8):FF P ac Q (o::rest) a wa:=by
 obtain⟨cells,fss,H,ae,af,ag,ah,Z,aj,O⟩:=au;have X:=EU H _ rfl;have aG:=D.size;have ab:wb.1.size<=wa.1.size:=by have:=O.size;omega
 refine A1m an s x t aq wb.1.size e i z (DL α) G az hi aB ay ak aC Dat.pos gB k cap cells ax (I_ H D) E 1 c cs aA (by rw[Nat.one_mul];exact Dat.len T) ap (Dat.one T) ai al ab ?_;intro g' cap' w8 ar W aa;refine h g' cap' w8 ?_ W aa;obtain⟨p1,p2,aD,aE,aF⟩:=E1t (w:=w) (g':=g') ae af H.1 ag ah aj X.2 (BM Z X.1) D T am aw W aa;exact⟨_,_,ar,p1,aF,p2,aD,Z,aE,(O.trans (D.mono O.size)).grown W ab (λk2 ao=>by injection ao with h;subst h;exact X.1)⟩
theorem C7w {P:Program} {α:Type} [Dat α] {w wb wr wa:J} {gB k cap:Nat} {ps:List α} {T:Array BU} {rest:List BU} {o:BU} {a:Act} {Q:Exit->Act->J->Prop} {s x:Operand} {t e:BS} {z:AJ} {G:Nat} {E:AH} {cs:List AJ} {H:α} {D:List Nat}
  (ac:o.guard=I) (af:o.op=.call { callee:=.builtin .append,args:=#[s,x],argTypes:=#[t,t] }) (aj:P.underlying t=QL (.slice e)) (Z:(P.info? e).map (λi=>(i.zero,i.size,i.bytes))=QL (QL z,DL α,G)) (ag:Pend w wb e wr gB k cap ps) (Y:Bw wr wa)
  (ae:∀ j u,cs[j]?=QL u->wa.cell? (E.add j)=QL u) (aa:Dat.at_ wa cs H D) (ab:Free wa D) (ah:∀ b∈D,wr.1.size<=b) (O:k+1<=BG/\(k+1)*G<=140737488355328)
  (h:∀ g' cap' w8,Hid (Pend w wb e w8 g' (k+1) cap' (ps++[H]))->Hid (wa.grownBy w8 (QL gB))->Hid (g'=gB\/g'=wa.1.size)->FF P T Q rest (a.put o.dst (S (QL ⟨g',0,I⟩) (k+1) cap')) w8)
  (ai:a.eval s=S (QL ⟨gB,0,I⟩) k cap:=by go_simp;done) (ak:a.eval x=S (QL E) 1 1:=by go_simp;done)
  (am:z.cells.size=DL α:=by rfl):FF P T Q (o::rest) a wa:=by
 obtain⟨i,ad,al,W,X⟩:=info_parts Z;exact A1v ac s x t af e i z G aj ad al W X am ag Y ai E 1 cs H D ak ae aa ab ah O.1 O.2 h
end Go

namespace Go.Proofs.YtbkilakncnlebaaGreatDoor.X
open Go.RowKit Go.XB Go.XN Proofs.Tryz
def pt0:TPoint:=⟨A0h,A0h⟩
def Z_ (ps:List TPoint) (i:Int):TPoint:=ps.getD i.toNat pt0
def B5j (ps:List TPoint) (t:TTri):List TPoint:=[Z_ ps t.a,Z_ ps t.b,Z_ ps t.c]
attribute [local go_sem] L_ opAt N_ M_ Region.wanted yielded
attribute [local simp] N_ M_ MP.eq MP.agg MP.sl A0r
theorem E6o:(prog.info? 118).map (λi=>(i.zero,i.size,i.bytes))=QL (QL (AM #[AC AF,S I 0 0,S I 0 0,AC AF,S I 0 0,S I 0 0]),6,112):=kR
theorem E4r {ps:List TPoint} {i:Nat} {x:TPoint} (h:ps[i]?=QL x) {j:Int} (b:j.toNat=i):Z_ ps j=x:=by
 unfold Z_;rw[b];simp[List.getD,h]

theorem D3y (ps:List TPoint) (t:TTri) {i:Nat} (h:i<3):(B5j ps t).take (i+1)=(B5j ps t).take i++[Z_ ps (cnr t i)]:=by
 obtain rfl|rfl|rfl:i=0\/i=1\/i=2:=oS;all_goals rfl
theorem E8j {n:Nat} {t:TTri} (h:A5v n t):∀ i,0<=cnr t i/\cnr t i<n
 |0=>h.1
 |1=>h.2.1
 |_+2=>h.2.2
theorem A6s (v:AJ) (m:TMesh) (b:List Nat) (k:Nat) (t:TTri) (w:J) (ar:Agg w v m b) (Z:m.triangles[k]?=QL t) (au:A5v m.1.length t) (am:m.1.all A1b=AD) (ah:m.1.length<=40) (ai:m.triangles.length<=48) :
  AR prog 134 #[v,N K k] w (A0w w (B5j m.1 t)):=by
 obtain⟨bl,u,bs,bX,bm,n1,bt,bY,rfl,rfl,G,H⟩:=TMesh.agg ar;have aK:=A_ G;have a8:k<n1:=by rw[<-H.1];exact(CQ.1 Z).1
 have bM:u<=40:=by rw[<-G.1];exact ah
 have bN:n1<=48:=by rw[<-H.1];exact ai
 have aM:=A_ (by rw[<-G.1];exact au:A5v u t);have az:=A_ am;obtain⟨aR,bV,bi,rfl,bG,ab,aX,aY,aZ,a1,a2,ak⟩:=TTri.elemA H a8;obtain rfl:t=bi:=by rw[Z]at ab;exact Option.some.inj ab
 have aF:=A_ ak;have bL:(k:Int)<n1:=oS;have aQ:=A_ (by unfold inB;simp;omega:inB 0 (k:Int) ((n1:Int) - 1)=AD);clear ar Z au am ah ai G H ak ab;go_enter func134,ntmps134;go_wp2_with fail;refine AR.new λw0 W=>?_;have C:=A0s k 0 ((n1:Int) - 1) w0;rw[aQ.o]at C;refine C.mono ?_;clear C;rintro _ O ⟨rfl,Y⟩;have af:=A_ (A0z W.k Y);have h:=A_ (AI W.b Y);have bH:aR<O.1.size:=by have:=h.size;omega
 obtain⟨k1,-,l1⟩:=bx af;obtain⟨a4,a6⟩:=F_ h;clear Y W;go_wp2_with fail;have ag:=A_ (Pend.start (α:=TPoint) (e:=118) h);refine(A2g _ t _ (O.alloc (AK #[] 118)) (aF.below (h.alloc h.size _))).mono ?_;rintro _ b4 ⟨rfl,an⟩;have P2:=A_ (ag.below an);clear an ag a4 a6 k1 aX aY aZ a1 a2;go_wp2_with fail;go_loopg [5,22] 3 (λg s5 s wr=>∃ (i gB cap:Nat),i+g=3/\s=N K i/\s5=S (QL ⟨gB,0,I⟩) i cap/\Hid (Pend w O 118 wr gB i cap ((B5j m.1 t).take i)));case atStart=>exact⟨0,O.1.size,0,rfl,rfl,rfl,P2⟩
 case round =>
  clear P2;obtain⟨i,gB,cap,ap,rfl,rfl,D⟩:=hrel;obtain⟨k2,-,l2⟩:=bx (A0z af D.bb);rcases BN i 3 with X|X
  ·obtain⟨gk,rfl⟩:∃ g,gk=g+1:=⟨gk - 1,oS⟩
   have aI:=A_ (by omega:i+1+gk=3);have bJ:(i:Int)<3:=oS;have bK:=λw=>ixn t X w;have aP:=A_ (D3y m.1 t X);obtain⟨bO,bP⟩:=E8j aM i;generalize cnr t i=a at *;have aL:=A_ (by unfold inB;simp;omega:inB 0 a ((u:Int) - 1)=AD);obtain⟨br,bW,x,bn,bR,bu,bB,bo,bS,bv,bD,bp,bT,bz,bE,bq,bU,bA,bF,rfl,bI,ac,be,p1,p2,bf,bg,bh,al⟩:=FC (aK.o.below D.o.bw) (by omega:a.toNat<u);have aG:=A_ al;have aO:=A_ (E4r ac rfl);have aN:=A_ (show A1b x=AD from BJ.1 az x (CH ac));have aA:=A_ (by unfold BG;omega:i+1<=BG/\(i+1)*112<=140737488355328);clear ap ac al;go_wp2_with fail;have C:=A0s a 0 ((u:Int) - 1) wr;rw[aL.o]at C;refine C.mono ?_;clear C;rintro _ w3 ⟨rfl,E⟩;obtain⟨a5,a7⟩:=F_ E;have bQ:w.1.size<w3.1.size:=by have:=E.size;omega
   have T:=A_ E;go_wp2_with fail;refine(B5c _ x _ w3 (aG.below T) aN).mono ?_;rintro _ bj ⟨b3,ay,rfl,aj,aa,ao⟩;obtain⟨aB,a9,aS,u1,aC,ba,aT,u2,aD,bc,aU,bZ,aE,bd,aV,b0,rfl,z4,q1,q2,aw,ax⟩:=DN aj;have ad:=A_ (by rw[z4];exact TPoint.shut q1 q2 aw ax:Dat.at_ bj [AC x.x.1.1,S aB a9 aS,S aC ba aT,AC x.y.1.1,S aD bc aU,S aE bd aV] x ay);have aH:=A_ aa.free;have aJ:=A_ (show ∀ b∈ay,wr.1.size<=b from λb a3=>BM T.size (aa.2 b a3).1);have ae:=A_ (AI T ao);clear a5 a7 E aj aa ao z4 q1 q2 aw ax be p1 p2 bf bg bh k2;go_wp2_with (at_builtin;refine C7w rfl rfl underlying23 E6o D (ae.alloc ae.size _) (A0a (CF _ _)) (Dat.keep ad (λg hg=>Below.heap_alloc _ _ _ (Dat.lt ad g hg))) (aH.below (AV _)) aJ aA ?_;intro g' aW b5 aq _ _);rw[<-aO.o,<-aP.o]at aq;go_wp2_with fail;go_roundg gk;case measure=>omega
   case rel=>exact⟨i+1,g',aW,aI,gN,rfl,aq⟩
  obtain rfl:i=3:=oS;clear ap k2;go_wp2;go_ret;exact D.done
def A3l (l:List TPoint) (fs:List TRat) (z:TPoint):Nat->TPoint
 |0=>ptI 0 0
 |k+1=>A3y (A3l l fs z k) (A0v (fs.getD k A0h) (A4a z (l.getD k pt0)))
def A2q (a b c:TPoint) (fs:List TRat) (z:TPoint):TPoint:=A0v (A3u (U_ 1) (A2y a b c)) (A3l [a,b,c] fs z 3)
theorem O_ {w w':J} {b:Nat} {o:Obj} (h:w.1[b]?=QL o) (hb:Bw w w'):w'.1[b]?=QL o:=(hb.block b (E_ h)).trans h
theorem E1v:J_ (U_ 1)=AD:=ratOkB_iff.2 (D6r dE dE)

theorem D6l (A:Option AH) (c:Nat) (h b1 u:TPoint) (bs:List Nat) (B:Option AH) (d:Nat) (G:List TRat) (cc:List Nat) (bt:AJ) (z:TPoint) (b7:List Nat) (w:J) (bi:Sl w A 3 c [h,b1,u] bs) (ba:Sl w B 3 d G cc) (aP:Agg w bt z b7)
  (a8:J_ (A2y h b1 u)=AD) (a9:(A2y h b1 u).1.2≠[]) :
  AR prog 200 #[S A 3 c,S B 3 d,bt] w (A0c w (A2q h b1 u G z)):=by
 have aD:=A_ bi;have bF:=A_ ba;have bJ:=A_ aP;have bD:=A_ a8;have bE:=A_ a9;obtain⟨aW,bm,a1,cB,aX,bn,a2,cD,aY,bo,a3,cE,aZ,bp,a4,cF,rfl,rfl,aE,cn,co,cp⟩:=DN aP;clear aE cn co cp bi ba aP a8 a9;go_enter func200,ntmps200;go_wp2_with fail;refine(B9v 0 0 _ oO oO).mono ?_;rintro _ b ⟨v1,cG,rfl,aM,bg,aq⟩;obtain⟨O1,cv,b8,o1,O2,cw,b9,o2,bR,cx,ca,er,bS,cy,cb,es,rfl,cu,_,_,_,_⟩:=DN aM;have bv:=A_ aM;have aV:=A_ bg;clear aM bg cu;obtain⟨cg,ci⟩:=F_ aq;have d1:w.1.size<b.1.size:=ltg aq;have d2:w.1.size+1<b.1.size:=ltg aq;have aU:=A_ (show Bw w b from Below.go);have Z:=A_ (by have:=aq.size;simp at this;omega:w.1.size+2<=b.1.size);have bI:=A_ (show b.1[w.1.size+1]?=QL (AK #[AC AF,S I 0 0,S I 0 0,AC AF,S I 0 0,S I 0 0] 118)from by refine(aq.block _ sI).trans ?_;have:=CF (w.alloc (AK #[AC z.x.1.1,S aW bm a1,S aX bn a2,AC z.y.1.1,S aY bo a3,S aZ bp a4] 118)) (AK #[AC AF,S I 0 0,S I 0 0,AC AF,S I 0 0,S I 0 0] 118);rw[EW]at this;exact this);have d5:w.1.size<b.1.size:=by have:=Z.o;omega
 go_wp2_with fail;go_loopg [13] 3 (λg s wr=>∃ (k:Nat) (P1:Option AH) (n1 m1:Nat) (P2:Option AH) (n2 m2:Nat) (aK:Option AH) (aS aQ:Nat) (aL:Option AH) (aT aR:Nat) (aF:List Nat),k+g=3/\s=N K k/\Hid (Agg wr (AM #[AC (A3l [h,b1,u] G z k).x.1.1,S P1 n1 m1,S P2 n2 m2,AC (A3l [h,b1,u] G z k).y.1.1,S aK aS aQ,S aL aT aR]) (A3l [h,b1,u] G z k) aF)/\Hid (Free wr aF/\∀ D∈aF,w.1.size+2<=D/\D≠b.1.size)/\Bw w wr/\Hid (wr.1[w.1.size+1]?=QL (AK #[AC AF,S I 0 0,S I 0 0,AC AF,S I 0 0,S I 0 0] 118))/\b.1.size<wr.1.size/\(wr.cell? ⟨w.1.size,0,I⟩=QL (AC z.x.1.1)/\wr.cell? ⟨w.1.size,1,I⟩=QL (S aW bm a1)/\wr.cell? ⟨w.1.size,2,I⟩=QL (S aX bn a2)/\wr.cell? ⟨w.1.size,3,I⟩=QL (AC z.y.1.1)/\wr.cell? ⟨w.1.size,4,I⟩=QL (S aY bo a3)/\wr.cell? ⟨w.1.size,5,I⟩=QL (S aZ bp a4))/\(wr.cell? ⟨b.1.size,0,I⟩=QL (AC (A3l [h,b1,u] G z k).x.1.1)/\wr.cell? ⟨b.1.size,1,I⟩=QL (S P1 n1 m1)/\wr.cell? ⟨b.1.size,2,I⟩=QL (S P2 n2 m2)/\wr.cell? ⟨b.1.size,3,I⟩=QL (AC (A3l [h,b1,u] G z k).y.1.1)/\wr.cell? ⟨b.1.size,4,I⟩=QL (S aK aS aQ)/\wr.cell? ⟨b.1.size,5,I⟩=QL (S aL aT aR))/\(wr.frozen? ⟨b.1.size,0,I⟩=AF/\wr.frozen? ⟨b.1.size,1,I⟩=AF/\wr.frozen? ⟨b.1.size,2,I⟩=AF/\wr.frozen? ⟨b.1.size,3,I⟩=AF/\wr.frozen? ⟨b.1.size,4,I⟩=AF/\wr.frozen? ⟨b.1.size,5,I⟩=AF));case atStart =>
  refine⟨0,O1,cv,b8,O2,cw,b9,bR,cx,ca,bS,cy,cb,cG,rfl,rfl,bv.below (AV _),⟨aV.free.below (AV _),λD H=>by have:=aV.range D H;simp at this;omega⟩,aU.o.alloc aU.o.size _,O_ bI.o (AV _),sI,⟨?_,?_,?_,?_,?_,?_⟩,⟨?_,?_,?_,?_,?_,?_⟩,⟨?_,?_,?_,?_,?_,?_⟩⟩;all_goals (try unfold A3l)
  all_goals go_simp
 case round =>
  clear cg ci;obtain⟨k,P1,n1,m1,P2,n2,m2,aK,aS,aQ,aL,aT,aR,aF,bf,rfl,a5,ck,H,bh,d0,⟨eG,eH,eI,eJ,z4,eK⟩,⟨ey,p1,p2,ez,eA,eB⟩,⟨dG,dH,dI,dJ,dL,dM⟩⟩:=hrel;have aJ:=A_ H;have d3:w.1.size<wr.1.size:=by have:=Z.o;omega
  rcases BN k 3 with au|au
  ·have dV:(k:Int)<3:=oS
   have dW:(0:Int)<=k:=oS;obtain⟨g,rfl⟩:∃ g,gk=g+1:=⟨gk - 1,oS⟩
   have cm:=A_ (by omega:k+1+g=3);obtain⟨c5,et,x,cL,d8,db,du,cM,d9,dc,dv,cN,ea,dd,dw,cO,eb,de,dx,ao,dR,ax,dy,dz,dA,dB,dD,dF,a7⟩:=FC (aD.below H) au;obtain⟨c9,ex,r,cP,ec,df,aG,cQ,ed,dg,br,ap,dT,aE,dN,dO,dQ,a6⟩:=TRat.elemA (bF.below H) au;subst ao;subst ap;have bQ:=A_ (show A3y (A3l [h,b1,u] G z k) (A0v r (A4a z x))=A3l [h,b1,u] G z (k+1) by rw[A3l,DY,DY,aE,ax];rfl);have bH:=A_ a7;have bG:=A_ a6;generalize A3l [h,b1,u] G z k=aC at *;clear bf au ax aE a7 a6 H;go_wp2_with fail;refine X_ sI ?_;dsimp only[DJ,DK,DI];iterate 7 refine C_ _ ?_
   refine D_ (BP (A4a z x)) ?_ ?_;·intro aa W T O E;obtain⟨ab,ac⟩:=F_ O;simp at E;refine G_ ?_;exact H_ (A1u _ _ z x _ _ T ((bJ.below aJ).below Below.go) (bH.below Below.go))
   refine D_ (BP (A0v r (A4a z x))) ?_ ?_;·intro aa W T O E;obtain⟨ab,ac⟩:=F_ O;simp at E;refine G_ ?_;obtain⟨_,t,_⟩:=E;exact H_ (A1n _ _ r (A4a z x) _ _ T (bG.below Below.go) t)
   refine D_ (BP (A3y aC (A0v r (A4a z x)))) ?_ ?_;·intro aa W T O E;obtain⟨ab,ac⟩:=F_ O;simp at E;refine G_ ?_;obtain⟨_,t,_⟩:=E;exact H_ (A4x _ _ aC (A0v r (A4a z x)) _ _ T (a5.below Below.go) t)
   intro aa W wa O E aN;clear aN;simp at E;have cA:=E.2.2.2.2.2.2.2.2.2;obtain⟨⟨X,ar⟩,aw⟩:=cA;rw[bQ.o]at X;obtain⟨ae,ay,aj,u1,af,az,ak,u2,ag,aA,al,cH,ah,aB,am,cI,cK,ct,_,_,_,_⟩:=DN X;rw[cK]at X;have Y:=A_ (show Bw wr wa from Below.go);have aH:=A_ X;have aI:=A_ ar;have ai:=A_ (show ∀ D∈W 9,w.1.size+2<=D/\D≠b.1.size from λD H=>by have:=(aw D H).1;(try simp at this);have:=Z.o;omega);obtain⟨ch,cj⟩:=F_ Y;have dZ:b.1.size<wa.1.size:=by have:=Y.size;omega
   have cq:w.1.size<wa.1.size:=oS;generalize W 9=bq at *;clear E X ar aw ct O;have dX:b.1.size≠w.1.size:=by have:=Z.o;omega
   have dY:w.1.size≠b.1.size:=by have:=Z.o;omega
   go_wp2_with fail;go_roundg g;case measure=>omega
   case rel =>
    have aO:∀ D,D≠b.1.size->((((((wa.setCell ⟨b.1.size,0,I⟩ (AC (A3l [h,b1,u] G z (k+1)).x.1.1)).setCell ⟨b.1.size,1,I⟩ (S ae ay aj)).setCell ⟨b.1.size,2,I⟩ (S af az ak)).setCell ⟨b.1.size,3,I⟩ (AC (A3l [h,b1,u] G z (k+1)).y.1.1)).setCell ⟨b.1.size,4,I⟩ (S ag aA al)).setCell ⟨b.1.size,5,I⟩ (S ah aB am)).1[D]?=wa.1[D]? :=
     λD an=>A0m b.1.size [AC (A3l [h,b1,u] G z (k+1)).x.1.1,S ae ay aj,S af az ak,AC (A3l [h,b1,u] G z (k+1)).y.1.1,S ag aA al,S ah aB am] wa 0 D an
    have ad:w.1.size<=b.1.size:=by have:=Z.o;omega
    refine⟨k+1,ae,ay,aj,af,az,ak,ag,aA,al,ah,aB,am,bq,cm,gN,?_,⟨aI.keep λD H=>aO D (ai D H).2,ai⟩,((((((AI aJ Y).setCell (p:=⟨b.1.size,0,I⟩) ad _).setCell (p:=⟨b.1.size,1,I⟩) ad _).setCell (p:=⟨b.1.size,2,I⟩) ad _).setCell (p:=⟨b.1.size,3,I⟩) ad _).setCell (p:=⟨b.1.size,4,I⟩) ad _).setCell (p:=⟨b.1.size,5,I⟩) ad _,(aO (w.1.size+1) (by have:=Z.o;omega)).trans (O_ bh.o Y.o),oR,⟨?_,?_,?_,?_,?_,?_⟩,⟨?_,?_,?_,?_,?_,?_⟩,⟨?_,?_,?_,?_,?_,?_⟩⟩;·exact aH.keep λD H=>aO D (ai D H).2
    all_goals go_simp
  obtain rfl:k=3:=oS;obtain⟨c6,eu,c4,cR,ee,dh,l1,cU,ef,di,l2,cV,eg,dj,d6,cW,eh,dk,d7,cd,dS,bj,bK,bL,bM,bN,bO,bP,bc⟩:=FC (aD.below H) (by decide:0<3);obtain⟨c7,ev,b2,Q1,ei,dl,q1,Q2,ej,dm,q2,cX,ek,dn,eC,cY,el,dp,eD,ao,ce,ax,bT,bU,bV,bW,bX,bY,bd⟩:=FC (aD.below H) (by decide:1<3);obtain⟨c8,ew,da,cZ,em,dq,cB,c0,en,dr,cD,c1,eo,ds,cE,c2,ep,dt,cF,ap,cf,bl,bZ,b0,b3,b4,b5,b6,be⟩:=FC (aD.below H) (by decide:2<3);subst cd;injection ao with ao;injection ao with an h2 _;subst an;subst h2;injection ap with ap;injection ap with an h2 _;subst an;subst h2;simp at bj ax bl;subst bj;subst ax;subst bl;simp at bK bL bM bN bO bP bT bU bV bW bX bY bZ b0 b3 b4 b5 b6;have bz:=A_ bc;have bA:=A_ bd;have bB:=A_ be;have bu:=A_ (show A0v (A3u (U_ 1) (A2y h b1 u)) (A3l [h,b1,u] G z 3)=A2q h b1 u G z from rfl);generalize A3l [h,b1,u] G z 3=aC at *;obtain⟨eF,eE,d4⟩:=bx bh;clear bf au ce cf bc bd be H ck;go_wp2_with fail;refine X_ sI ?_;dsimp only[DJ,DK,DI];refine D_ (BP (U_ 1)) ?_ ?_;·intro aa W T O E;obtain⟨ab,ac⟩:=F_ O;simp at E;refine G_ ?_;exact H_ (A0l 1 T oO)
  iterate 9 refine C_ _ ?_
  refine D_ (BP (A2y h b1 u)) ?_ ?_;·intro aa W T O E;obtain⟨ab,ac⟩:=F_ O;simp at E;refine G_ ?_;exact H_ (A7l _ _ _ h b1 u _ _ _ T (bz.below Below.go) (bA.below Below.go) (bB.below Below.go))
  refine D_ (BP (A3u (U_ 1) (A2y h b1 u))) ?_ ?_;·intro aa W T O E;obtain⟨ab,ac⟩:=F_ O;simp at E;refine G_ ?_;obtain⟨aG,br,_⟩:=E;exact H_ (A9z _ _ (U_ 1) (A2y h b1 u) _ _ T aG.1 br E1v bD bE)
  refine C_ _ ?_;refine D_ (BP (A0v (A3u (U_ 1) (A2y h b1 u)) aC)) ?_ ?_;·intro aa W T O E;obtain⟨ab,ac⟩:=F_ O;simp at E;refine G_ ?_;obtain⟨aG,_⟩:=E;exact H_ (A1n _ _ (A3u (U_ 1) (A2y h b1 u)) aC _ _ T aG.1 (a5.below Below.go))
  intro aa W wa O E aN;clear aN;simp at E;have cz:=E.2.2.2.2.2.2.2.2.2.2.2.2.2;obtain⟨⟨X,ar⟩,aw⟩:=cz;rw[bu.o]at X;obtain⟨ae,ay,aj,u1,af,az,ak,u2,ag,aA,al,cH,ah,aB,am,cI,cJ,cs,_,_,_,_⟩:=DN X;rw[cJ]at X;have Y:=A_ (show Bw wr wa from Below.go);have aH:=A_ X;have aI:=A_ ar;have ai:=A_ (show ∀ D∈W 13,w.1.size+2<=D from λD H=>by have:=(aw D H).1;(try simp at this);have:=Z.o;omega);obtain⟨ch,cj⟩:=F_ Y;have cq:w.1.size+1<wa.1.size:=by have:=Y.size;omega
  have dU:=AI aJ Y;generalize W 13=bq at *;clear E X ar aw cs O;go_wp2;refine BI (v:=AM #[AC (A2q h b1 u G z).x.1.1,S ae ay aj,S af az ak,AC (A2q h b1 u G z).y.1.1,S ag aA al,S ah aB am]) (by simp[BO,results200,go_sem, *]) rfl ?_;refine A1s (lo:=w.1.size+2) aH.o aI.o ai.o oS ?_ ?_;·exact Above.go
  exact Below.go
def D0y (r:TRat):TRat:=⟨A0f (-R_ r),r.2⟩
def B4m (es:List TEdge) (fs:List TRat) (k a b:Int):TRat:=if (es.getD (A3z es (A2i a b)) A4o).left=k then fs.getD (A3z es (A2i a b)) A0h else D0y (fs.getD (A3z es (A2i a b)) A0h)
def A7o (es:List TEdge) (fs:List TRat) (k:Int) (t:TTri):List TRat:=[B4m es fs k t.b t.c,B4m es fs k t.c t.a,B4m es fs k t.a t.b]
def D1h (es:List TEdge) (t:TTri):Prop:=A6o es (A2i t.b t.c)=AD/\A6o es (A2i t.c t.a)=AD/\A6o es (A2i t.a t.b)=AD
theorem B9y {es:List TEdge} {e:TEdge} (h:A6o es e=AD):A3z es e<es.length:=by
 unfold A6o at h;simp at h;exact h.1
theorem A3x {w:J} {y:TRat} {u0 u1 u2:AJ} {b:List Nat} (h:Agg w (AM #[u0,u1,u2]) y b):Dat.at_ w [u0,u1,u2] y b:=by
 obtain⟨u,G,E⟩:=h;have D:u=[u0,u1,u2]:=by have:=congrArg (λv=>match v with | .agg c=>c.toList|_=>[]) G;simpa using this.symm
 rw[<-D];exact E
theorem B2r:(prog.info? 35).map (λi=>(i.zero,i.size,i.bytes))=QL (QL (AM #[AC AF,S I 0 0,S I 0 0]),3,56):=kR
theorem C7n (v:AJ) (x:TRat) (b:List Nat) (w:J) (O:Agg w v x b) (ok:A2j x.1=AD) :
  AR prog 192 #[v] w (λe w'=>∃ v',e=.returned v'/\Agg w' v' (D0y x) b/\Bw w w'):=by
 obtain⟨D,n1,E,ak,T,n2,Z,al,rfl,rfl,G,H⟩:=BK O;have X:=A_ G;have Y:=A_ H;have W:=A_ (show D0y x=⟨⟨!x.num.neg&&decide (0<n1),x.1.2⟩,x.2⟩ by unfold D0y R_;rw[B9l ok,<-G.1];cases x.1.2<;>simp);clear G H O;go_enter func192,ntmps192;go_wp2_with fail;refine X_ sI ?_;dsimp only[DJ,DK,DI];iterate 7 refine C_ _ ?_
 refine D_ (MP.eq (AM #[AC (!x.num.neg&&decide (0<n1)),S D n1 E])) ?_ ?_;·intro ac ad ab h u;obtain⟨af,ah⟩:=F_ h;simp at u;refine G_ ?_;exact A0i (A3s (!x.num.neg) D n1 E ab)
 iterate 3 refine C_ _ ?_
 intro ac ad wa h u aa;clear aa;simp at u;go_simp;clear u;obtain⟨ae,ag⟩:=F_ h;have ai:w.1.size<wa.1.size:=ltg h;have aj:w.1.size+1<wa.1.size:=ltg h;go_wp2;refine BI (v:=AM #[AC (!x.num.neg&&decide (0<n1)),S D n1 E,S T n2 Z]) (by simp[BO,results192,go_sem, *]) rfl ?_;refine⟨_,rfl,?_,Below.go⟩;rw[W.o];exact TRat.mkAgg (x:=⟨⟨!x.num.neg&&decide (0<n1),x.1.2⟩,x.2⟩) (Sl.below X Below.go) (Sl.below Y Below.go)

theorem D8k (es:List TEdge) (b:List TRat) (k:Int) (t:TTri) {i:Nat} (h:i<3):(A7o es b k t).take (i+1)=(A7o es b k t).take i++[B4m es b k (cnr t ((i+1) % 3)) (cnr t ((i+2) % 3))]:=by
 obtain rfl|rfl|rfl:i=0\/i=1\/i=2:=oS;all_goals rfl
theorem E5c {es:List TEdge} {t:TTri} (b:D1h es t) {i:Nat} (h:i<3):A6o es (A2i (cnr t ((i+1) % 3)) (cnr t ((i+2) % 3)))=AD:=by
 obtain rfl|rfl|rfl:i=0\/i=1\/i=2:=oS;·exact b.1
 ·exact b.2.1
 exact b.2.2
theorem C8a (v:AJ) (m:TMesh) (b:List Nat) (B:Option AH) (G d:Nat) (E:List TRat) (bK:List Nat) (k:Nat) (t:TTri) (w:J) (X:Agg w v m b) (aD:m.triangles.length<=48) (Z:Sl w B G d E bK) (h:E.length=(P_ m.triangles).length)
  (aa:m.triangles[k]?=QL t) (a9:D1h (P_ m.triangles) t) (a7:E.all J_=AD) :
  AR prog 141 #[v,S B G d,N K k] w (A0w w (A7o (P_ m.triangles) E k t)):=by
 have bA:=A_ X;have bp:=A_ Z;have bu:=A_ aD;have bv:=A_ a7;have aS:=A_ a9;obtain⟨bf,ck,bF,dc,ao,n1,bG,dd,rfl,rfl,cd,ak⟩:=TMesh.agg X;have ad:=A_ (by rw[<-h,Z.1]:(P_ m.triangles).length=G);obtain⟨D,ai⟩:∃ D,P_ m.triangles=D:=⟨_,rfl⟩
 rw[ai]at ad aS ⊢;have bo:=A_ ai;have c0:G<=144:=by rw[<-ad.o,<-ai];unfold P_;have:=A5z m.triangles m.triangles.length;omega
 have ca:k<n1:=by rw[<-ak.1];exact(CQ.1 aa).1
 have cZ:n1<=48:=by rw[<-ak.1];exact aD
 obtain⟨aY,cn,co,bX,cO,Y,bL,bM,bN,bO,bP,a4⟩:=TTri.elemA ak ca;subst bX;obtain rfl:t=co:=by rw[aa]at Y;exact Option.some.inj Y
 have aN:=A_ a4;have aT:=A_ (show I64 t.a/\I64 t.b/\I64 t.c from by obtain⟨_,_,cf,i2,cg,_,_⟩:=TTri.agg aN;exact⟨cf,i2,cg⟩);have cX:(k:Int)<n1:=oS;have cY:(0:Int)<=k:=oS;clear cd ak X aD Z h ai aa a9 a7 Y a4;go_enter func141,ntmps141;go_wp2_with fail;refine(A7q _ m _ (w.alloc (AK #[S bf ck bF,S (QL ⟨aY,cn,I⟩) n1 bG] 26)) (bA.below (AV _)) bu).mono ?_;rintro _ an ⟨cz,cm,bI,bQ,rfl,al,cc,aA⟩;rw[bo.o]at al;obtain rfl:G=cm:=by rw[<-ad.o];exact al.1
 have aR:=A_ al;obtain⟨b5,b9⟩:=F_ aA;have c2:w.1.size<an.1.size:=ltg aA;have aq:=A_ (show Bw w an from Below.go);have cP:aY<an.1.size:=by have:=aq.size;omega
 clear al cc;go_wp2_with fail;refine(A2g _ t _ an (aN.below aq)).mono ?_;rintro _ di ⟨rfl,aB⟩;have bj:=A_ aB;have bl:=A_ (AI aq aB);clear b5 b9 aA aB bL bM bN bO bP;go_upto_region 3 with fail;refine Code.new λw3 ax=>?_;have bm:=A_ (AI bl ax.b);have aO:=A_ (AI bj ax.b);go_wp2_with fail;go_loopg [9,22] 3 (λg s9 s wr=>∃ (i gB cap:Nat),i+g=3/\s=N K i/\s9=S (QL ⟨gB,0,I⟩) i cap/\Hid (Pend w w3 35 wr gB i cap ((A7o D E k t).take i)));case atStart=>exact⟨0,w3.1.size,0,rfl,rfl,rfl,Pend.start bm⟩
 case round =>
  obtain⟨i,gB,cap,a6,rfl,rfl,T⟩:=hrel;obtain⟨k2,-,l2⟩:=bx (A0z ax.k T.bb);have bn:=A_ T.bw;rcases BN i 3 with ae|ae
  ·obtain⟨gk,rfl⟩:∃ g,gk=g+1:=⟨gk - 1,oS⟩
   have bs:=A_ (by omega:i+1+gk=3);have cW:(i:Int)<3:=oS;have aX:=A_ (D8k D E k t ae);have aW:=A_ (E5c aS ae);obtain⟨⟨m1,m2⟩,ch,ci⟩:=F1e ae;have q1:=C7j (t:=t) ⟨k2 0,k2 1,k2 2⟩ ch;have q2:=C7j (t:=t) ⟨k2 0,k2 1,k2 2⟩ ci;have bB:=A_ (C3u aT ((i+1) % 3));have bD:=A_ (C3u aT ((i+2) % 3));generalize cnr t ((i+1) % 3)=a at *;generalize cnr t ((i+2) % 3)=b at *;generalize (i+1) % 3=j at *;generalize (i+2) % 3=l at *;have c4:(j:Int)<3:=oS;have c5:(l:Int)<3:=oS;obtain⟨p,aj⟩:∃ p,A3z D (A2i a b)=p:=⟨_,rfl⟩
   have P:=A_ aj;have aF:p<G:=by rw[<-ad.o,<-aj];exact B9y aW
   obtain⟨H,am,x,bV,cQ,Y,cq,cs,ct,cu,bY⟩:=TEdge.elemA (aR.below (AI aO T.bb)) aF;subst bV;obtain⟨bE,db,r,cD,c9,cI,de,cE,da,cJ,df,bW,cR,aG,bS,bT,bU,a5⟩:=TRat.elemA (bp.below bn) aF;subst bW;have br:=A_ a5;have c1:(p:Int)<G:=oS;have ay:=A_ (ratOkB_iff.1 (BJ.1 bv r (CH aG)));have aJ:=A_ (by unfold B4m;rw[aj,DY,Y,DY,aG];rfl:B4m D E k a b=if x.left=(k:Int)then r else D0y r);have bg:=A_ (by unfold BG;omega:i+1<=BG/\(i+1)*56<=140737488355328);clear a6 aj Y aG bY a5 aF k2;go_wp2_with fail;refine X_ sI ?_;dsimp only[DJ,DK,DI];iterate 11 refine C_ _ ?_
   refine D_ (MP.eq (N K p)) ?_ ?_;·intro cw cy cp O ah;obtain⟨cU,cV⟩:=F_ O;simp at ah;refine G_ ?_;exact A0i (by have C:=A2t (QL ⟨H,am,I⟩) G bI D bQ a b cp ((aR.o.below (AI aO.o T.o.bb)).below Below.go) oS bB.o bD.o aW.o;rw[P.o]at C;exact C)
   intro cw cy aH O ah b6;clear b6;simp at ah;go_simp;have ar:=A_ O;obtain⟨b3,b7⟩:=F_ O;have cN:bE<aH.1.size:=by have:=O.size;omega
   have cM:H<aH.1.size:=by have:=O.size;omega
   clear ah O q1 q2 m1 m2;go_wp2_with fail;refine(A3n _ r _ aH (br.below ar) (by have:=ay.num24;omega) (by have:=ay.o.den24;omega)).mono ?_;rintro _ ac ⟨dg,ab,rfl,af,aE,ag⟩;obtain⟨cA,c7,cG,u1,cB,c8,cH,u2,rfl,cx,_,_⟩:=BK af;have bh:=A_ af;have bq:=A_ aE.free;have bt:=A_ (show ∀ b∈ab,b<ac.1.size from af.lt);have bz:=A_ (show ∀ b∈ab,wr.1.size<=b from λb W=>BM ar.size (aE.2 b W).1);have aP:=A_ (AI ar ag);obtain⟨b4,b8⟩:=F_ ag;have bZ:H<ac.1.size:=by have:=ag.size;omega
   clear af aE ag cx;go_upto_region 9 with fail;have be:ac.cell? ⟨H,am+p*4+2,I⟩=QL (N K x.left):=oD;refine Code.new λaI u=>?_;have cv:aI.cell? ⟨H,am+p*4+2,I⟩=QL (N K x.left):=(u.b.cell (p:=⟨H,am+p*4+2,I⟩) bZ).trans be;have b0:H<aI.1.size:=by have:=u.b.size;omega
   clear b3 b7 b4 b8 cq cs ct cu be bS bT bU;go_upto_if 48 with fail;go_cut [] (λwx=>∃ (y:TRat) (ao:Option AH) (m1 d1:Nat) (A2:Option AH) (m2 d2:Nat),Hid (B4m D E k a b=y)/\Hid (wx.1[ac.1.size]?=QL (AK #[AC y.1.1,S ao m1 d1,S A2 m2 d2] 35))/\Hid (Agg wx (AM #[AC y.1.1,S ao m1 d1,S A2 m2 d2]) y ab)/\Hid (Free wx ab)/\Hid (Bw wr wx));case first =>
    have au:=A_ (AI aP u.b);have aM:=A_ (bh.below u.b);have aQ:=A_ (bq.below u.b);obtain⟨bH,bR,cj⟩:=bx u.k;by_cases h:x.left=(k:Int)
    ·have cb:(x.left != (k:Int))=AF:=by simp[h]
     have ap:=A_ (aJ.trans (if_pos h));clear h;go_wp2_with fail;go_meet;exact⟨r,_,_,_,_,_,_,ap,u.k,aM,aQ,au⟩
    have cb:(x.left != (k:Int))=AD:=by simp[h]
    have ap:=A_ (aJ.trans (if_neg h));clear h;go_wp2_with fail;refine(C7n _ r _ aI aM ay.1).mono ?_;rintro _ bd ⟨dh,rfl,az,aC⟩;obtain⟨aK,ba,aZ,dk,aL,bc,a1,dl,rfl,-,-,-⟩:=BK az;have bi:=A_ az;have aw:=A_ aC;have aU:=A_ (A0z u.k aC);clear az aC bH bR cj;obtain⟨cF,cL,c6⟩:=bx aU;go_wp2_with fail;go_meet;have aV:=λb (W:b∈ab)=>A0m ac.1.size [AC (D0y r).1.1,S aK ba aZ,S aL bc a1] bd 0 b (by have:=bt b W;omega);exact⟨D0y r,_,_,_,_,_,_,ap,B9q (B9q (B9q aU)),bi.keep aV,(aQ.below aw).keep aV,(AI au aw).grown (A5y (A5y (A5y (B3a bd _)))) (AI au aw).size (λx X=>by injection X with X;have:=aP.size;omega)⟩
   case rest =>
   obtain⟨y,aK,ba,aZ,aL,bc,a1,ce,aa,a3,Z,W⟩:=hcut;rename J=>wx;rename (∀ (a:Act) (w:J),Code.wp _ _ _ a w->_)=>a2;refine a2 _ _ ?_;clear a2 cv b0;obtain⟨cK,-,lx⟩:=bx aa;rw[ce.o]at aX;go_wp2_with (at_builtin;refine C7w rfl rfl underlying27 B2r T (W.alloc W.size _) (A0a (CF _ _)) (Dat.keep (A3x a3) (λg hg=>Below.heap_alloc _ _ _ (Dat.lt (A3x a3) g hg))) (Z.below (AV _)) bz bg ?_;intro g' bJ dj a8 _ _);rw[<-aX.o]at a8;go_wp2_with fail;go_roundg gk;case measure=>omega
   case rel=>exact⟨i+1,g',bJ,bs,gN,rfl,a8⟩
  obtain rfl:i=3:=oS;clear a6 k2;go_wp2;go_ret;exact T.done
attribute [local simp] MP.slbox
theorem C1r:A4f 202:=λa w=>kR
def A2e (x:TRat):Bool:=x.2.isEmpty
theorem C3l (v:AJ) (x:TRat) (b:List Nat) (w:J) (h:Agg w v x b):AR prog 202 #[v] w (A0b w (AC (A2e x))):=by
 have u:=A_ h;obtain⟨G,n1,O,X,H,n2,T,Y,rfl,rfl,D,E⟩:=BK h;clear D E h;go_enter func202,ntmps202;go_wp2_with fail;refine(A2p _ x _ _ (Agg.below u Below.go)).mono ?_;rintro _ Z ⟨rfl,W⟩;go_wp2;go_ret;exact⟨by unfold A2e;simp,Below.go⟩
theorem A5p (A:Option AH) (n c:Nat) (xs:List TRat) (bs:List Nat) (w:J) (h:Sl w A n c xs bs) (b:xs.any A2e=AF) :
  AR prog 142 #[S A n c] w (A0b w (S A n c)):=by
 have D:=A_ h;have u:=A_ b;clear h b;go_enter func142,ntmps142;go_wp2_with fail;have C:=A7e 202 C1r A n c xs bs w A2e D (λv x E w _ G=>C3l v x E w G);rw[u.o]at C;refine C.mono ?_;clear C;rintro _ O ⟨rfl,H⟩;go_wp2;go_ret;exact⟨rfl,H⟩
def A1e (es:List TEdge) (fs:List TRat) (t:Int):Nat->TRat
 |0=>U_ 0
 |k+1=>if (es.getD k A4o).left=t then A0k (A1e es fs t k) (fs.getD k A0h)else A1e es fs t k
def A1i (es:List TEdge) (fs:List TRat) (t:Int):Nat->TRat
 |0=>U_ 0
 |k+1=>if (es.getD k A4o).right=t then A0k (A1i es fs t k) (fs.getD k A0h)else A1i es fs t k
def D1y (es:List TEdge) (fs:List TRat) (t:Int):TRat:=A3t (A1e es fs t es.length) (A1i es fs t es.length)
theorem A0p {w:J} {g:Nat} {v0 v1 v2:AJ} (b:Nat) (h:b≠g):(((w.setCell ⟨g,0,I⟩ v0).setCell ⟨g,1,I⟩ v1).setCell ⟨g,2,I⟩ v2).1[b]?=w.1[b]?:=A0m g [v0,v1,v2] w 0 b h
def RBox (w:J) (g:Nat) (x:TRat) (P1:Option AH) (n1 m1:Nat) (P2:Option AH) (n2 m2:Nat):Prop:=g<w.1.size/\(w.cell? ⟨g,0,I⟩=QL (AC x.1.1)/\w.cell? ⟨g,1,I⟩=QL (S P1 n1 m1)/\w.cell? ⟨g,2,I⟩=QL (S P2 n2 m2))/\(w.frozen? ⟨g,0,I⟩=AF/\w.frozen? ⟨g,1,I⟩=AF/\w.frozen? ⟨g,2,I⟩=AF)
theorem RBox.keep {w w':J} {g:Nat} {x:TRat} {P1:Option AH} {n1 m1:Nat} {P2:Option AH} {n2 m2:Nat} (h:RBox w g x P1 n1 m1 P2 n2 m2) (b:w'.1[g]?=w.1[g]?) (W:w.1.size<=w'.1.size):RBox w' g x P1 n1 m1 P2 n2 m2:=by
 obtain⟨T,⟨u,D,E⟩,⟨G,H,O⟩⟩:=h;exact⟨oS,⟨(JF b).trans u,(JF b).trans D,(JF b).trans E⟩,⟨(PI b).trans G,(PI b).trans H,(PI b).trans O⟩⟩
theorem RBox.below {w w':J} {g:Nat} {x:TRat} {P1:Option AH} {n1 m1:Nat} {P2:Option AH} {n2 m2:Nat} (h:RBox w g x P1 n1 m1 P2 n2 m2) (hb:Bw w w'):RBox w' g x P1 n1 m1 P2 n2 m2:=h.keep (hb.block g h.1) hb.size
theorem RBox.set {w:J} {g:Nat} {x y:TRat} {P1:Option AH} {n1 m1:Nat} {P2:Option AH} {n2 m2:Nat} {Q1:Option AH} {k1 l1:Nat} {Q2:Option AH} {k2 l2:Nat} (h:RBox w g x P1 n1 m1 P2 n2 m2) :
  RBox (((w.setCell ⟨g,0,I⟩ (AC y.1.1)).setCell ⟨g,1,I⟩ (S Q1 k1 l1)).setCell ⟨g,2,I⟩ (S Q2 k2 l2)) g y Q1 k1 l1 Q2 k2 l2:=by
 obtain⟨b,⟨u,D,E⟩,⟨G,H,O⟩⟩:=h;exact⟨by simpa using b,⟨oD,oD,oD⟩,⟨oD,oD,oD⟩⟩

theorem E0m {w w':J} {A:Option AH} {n c:Nat} {xs:List TRat} {bs:List Nat} (h:Sl w A n c xs bs) (u:Bw w w') {k:Nat} (T:k<n) :
  ∃ (b off:Nat) (x:TRat) (A1:Option AH) (n1 c1:Nat) (A2:Option AH) (n2 c2:Nat) (fs:List Nat),A=QL ⟨b,off,I⟩/\b<w.1.size/\xs[k]?=QL x/\w'.cell? ⟨b,off+k*3,I⟩=QL (AC x.1.1)/\w'.cell? ⟨b,off+k*3+1,I⟩=QL (S A1 n1 c1)/\w'.cell? ⟨b,off+k*3+2,I⟩=QL (S A2 n2 c2)/\Agg w' (AM #[AC x.1.1,S A1 n1 c1,S A2 n2 c2]) x fs/\∀ g∈fs,g<w.1.size:=by
 obtain⟨b,off,x,A1,n1,c1,X,A2,n2,c2,Y,rfl,D,W,G,H,O,E⟩:=TRat.elemA h T;exact⟨b,off,x,A1,n1,c1,A2,n2,c2,X++Y,rfl,D,W,(u.cell (p:=⟨b,_,I⟩) D).trans G,(u.cell (p:=⟨b,_,I⟩) D).trans H,(u.cell (p:=⟨b,_,I⟩) D).trans O,E.below u,E.lt⟩
structure OutSt (w U:J) (ga gb:Nat) (E:Option AH) (nf cE:Nat) (es:List TEdge) (eb:List Nat) (lx:TRat) (P1:Option AH) (p1 q1:Nat) (P2:Option AH) (p2 q2:Nat) (rl:List Nat) (rx:TRat) (Q1:Option AH) (k1 l1:Nat) (Q2:Option AH) (k2 l2:Nat) (rr:List Nat):Prop where
 bl:Bw w U
 ra:RBox U ga lx P1 p1 q1 P2 p2 q2
 rb:RBox U gb rx Q1 k1 l1 Q2 k2 l2
 al:Agg U (AM #[AC lx.1.1,S P1 p1 q1,S P2 p2 q2]) lx rl
 ar:Agg U (AM #[AC rx.1.1,S Q1 k1 l1,S Q2 k2 l2]) rx rr
 dl:∀ b∈rl,b≠ga/\b≠gb
 dr:∀ b∈rr,b≠ga/\b≠gb
 se:Sl U E nf cE es eb
 de:∀ b∈eb,b≠ga/\b≠gb
 res:U.1[w.1.size+1]?=QL (AK #[AC AF,S I 0 0,S I 0 0] 35)
 na:w.1.size+2<=ga
 nb:w.1.size+2<=gb
 ne:ga≠gb
theorem OutSt.below {w U U':J} {ga gb:Nat} {E:Option AH} {nf cE:Nat} {es:List TEdge} {eb:List Nat} {lx:TRat} {P1:Option AH} {p1 q1:Nat} {P2:Option AH} {p2 q2:Nat} {rl:List Nat} {rx:TRat} {Q1:Option AH} {k1 l1:Nat} {Q2:Option AH} {k2 l2:Nat} {rr:List Nat}
  (h:OutSt w U ga gb E nf cE es eb lx P1 p1 q1 P2 p2 q2 rl rx Q1 k1 l1 Q2 k2 l2 rr) (hb:Bw U U'):OutSt w U' ga gb E nf cE es eb lx P1 p1 q1 P2 p2 q2 rl rx Q1 k1 l1 Q2 k2 l2 rr :=
 ⟨AI h.bl hb,h.ra.below hb,h.rb.below hb,h.al.below hb,h.ar.below hb,h.dl,h.dr,h.se.below hb,h.de,O_ h.res hb,h.na,h.nb,h.ne⟩
theorem OutSt.setL {w U:J} {ga gb:Nat} {E:Option AH} {T G:Nat} {es:List TEdge} {H:List Nat} {lx:TRat} {P1:Option AH} {p1 q1:Nat} {P2:Option AH} {p2 q2:Nat} {rl:List Nat} {rx:TRat} {Q1:Option AH} {k1 l1:Nat} {Q2:Option AH} {k2 l2:Nat} {rr:List Nat}
  (h:OutSt w U ga gb E T G es H lx P1 p1 q1 P2 p2 q2 rl rx Q1 k1 l1 Q2 k2 l2 rr) {y:TRat} {O1:Option AH} {o1 u1:Nat} {O2:Option AH} {o2 u2:Nat} {ry:List Nat}
  (W:Agg U (AM #[AC y.1.1,S O1 o1 u1,S O2 o2 u2]) y ry) (O:∀ b∈ry,b≠ga/\b≠gb) :
  OutSt w (((U.setCell ⟨ga,0,I⟩ (AC y.1.1)).setCell ⟨ga,1,I⟩ (S O1 o1 u1)).setCell ⟨ga,2,I⟩ (S O2 o2 u2)) ga gb E T G es H y O1 o1 u1 O2 o2 u2 ry rx Q1 k1 l1 Q2 k2 l2 rr:=by
 have D:w.1.size<=ga:=by have:=h.na;omega
 exact⟨((h.bl.setCell (p:=⟨ga,0,I⟩) D _).setCell (p:=⟨ga,1,I⟩) D _).setCell (p:=⟨ga,2,I⟩) D _,h.ra.set,h.rb.keep (A0p gb h.ne.symm) sI,W.keep (λb u=>A0p b (O b u).1),h.ar.keep (λb u=>A0p b (h.dr b u).1),O,h.dr,h.se.keep (λb u=>A0p b (h.de b u).1),h.de,(A0p _ (by have:=h.na;omega)).trans h.res,h.na,h.nb,h.ne⟩
theorem OutSt.setR {w U:J} {ga gb:Nat} {E:Option AH} {T G:Nat} {es:List TEdge} {H:List Nat} {lx:TRat} {P1:Option AH} {p1 q1:Nat} {P2:Option AH} {p2 q2:Nat} {rl:List Nat} {rx:TRat} {Q1:Option AH} {k1 l1:Nat} {Q2:Option AH} {k2 l2:Nat} {rr:List Nat}
  (h:OutSt w U ga gb E T G es H lx P1 p1 q1 P2 p2 q2 rl rx Q1 k1 l1 Q2 k2 l2 rr) {y:TRat} {O1:Option AH} {o1 u1:Nat} {O2:Option AH} {o2 u2:Nat} {ry:List Nat}
  (W:Agg U (AM #[AC y.1.1,S O1 o1 u1,S O2 o2 u2]) y ry) (O:∀ b∈ry,b≠ga/\b≠gb) :
  OutSt w (((U.setCell ⟨gb,0,I⟩ (AC y.1.1)).setCell ⟨gb,1,I⟩ (S O1 o1 u1)).setCell ⟨gb,2,I⟩ (S O2 o2 u2)) ga gb E T G es H lx P1 p1 q1 P2 p2 q2 rl y O1 o1 u1 O2 o2 u2 ry:=by
 have D:w.1.size<=gb:=by have:=h.nb;omega
 exact⟨((h.bl.setCell (p:=⟨gb,0,I⟩) D _).setCell (p:=⟨gb,1,I⟩) D _).setCell (p:=⟨gb,2,I⟩) D _,h.ra.keep (A0p ga h.ne) sI,h.rb.set,h.al.keep (λb u=>A0p b (h.dl b u).2),W.keep (λb u=>A0p b (O b u).2),h.dl,O,h.se.keep (λb u=>A0p b (h.de b u).2),h.de,(A0p _ (by have:=h.nb;omega)).trans h.res,h.na,h.nb,h.ne⟩

theorem D1a (v:AJ) (m:TMesh) (b:List Nat) (B:Option AH) (X d:Nat) (u:List TRat) (cI:List Nat) (t:Nat) (w:J) (bv:Agg w v m b) (b4:m.triangles.length<=48) (a9:Sl w B X d u cI) (b3:u.length=(P_ m.triangles).length) :
  AR prog 135 #[v,S B X d,N K t] w (A0c w (D1y (P_ m.triangles) u t)):=by
 have cz:=A_ bv;have cp:=A_ a9;have cs:=A_ b4;obtain⟨bE,cg,bR,dG,bF,n1,bS,dH,rfl,rfl,c2,c4⟩:=TMesh.agg bv;have a3:=A_ (by rw[<-b3,a9.1]:(P_ m.triangles).length=X);obtain⟨h,a8⟩:∃ h,P_ m.triangles=h:=⟨_,rfl⟩
 rw[a8]at a3 ⊢;have co:=A_ a8;have dd:=A_ a9.1;have dt:X<=144:=by rw[<-a3.o,<-a8];unfold P_;have:=A5z m.triangles m.triangles.length;omega
 have du:(X:Int)<=144:=oS;clear c2 c4 bv b4 a9 b3 a8;go_enter func135,ntmps135;go_wp2_with fail;refine(A0l 0 _ oO).mono ?_;rintro _ wa ⟨dJ,bD,rfl,bp,b5,ao⟩;obtain⟨P1,p1,q1,bT,P2,p2,q2,bU,rfl,c5,_,_⟩:=BK bp;have bH:=A_ bp;have de:=A_ b5;clear bp b5 c5;obtain⟨cU,cW⟩:=F_ ao;have dw:w.1.size<wa.1.size:=ltg ao;have dy:w.1.size+1<wa.1.size:=ltg ao;have cm:=A_ (show Bw w wa from Below.go);have ct:=A_ (show wa.1[w.1.size+1]?=QL (AK #[AC AF,S I 0 0,S I 0 0] 35)from by refine(ao.block _ sI).trans ?_;have:=CF (w.alloc (AK #[S bE cg bR,S bF n1 bS] 26)) (AK #[AC AF,S I 0 0,S I 0 0] 35);rw[EW]at this;exact this);have c8:wa.cell? ⟨w.1.size,0,I⟩=QL (S bE cg bR):=oD;have m1:wa.cell? ⟨w.1.size,1,I⟩=QL (S bF n1 bS):=oD;clear cU cW;go_wp2_with fail;refine(A0l 0 wa oO).mono ?_;rintro _ wb ⟨dL,sb,rfl,bq,b6,aC⟩;obtain⟨Q1,k1,l1,bV,Q2,k2,l2,di,rfl,c6,_,_⟩:=BK bq;have bI:=A_ bq;have df:=A_ b6;have H:=A_ (AI cm aC);have cu:=A_ (O_ ct aC);obtain⟨cV,cX⟩:=F_ aC;have ck:=A_ (bH.below aC);have dv:=aC.size;have dx:w.1.size<wb.1.size:=oS;have dz:w.1.size+2<=wb.1.size:=by have:=ao.size;simp at this;omega
 have cv:=A_ (show ∀ b∈bD,b<wb.1.size from λb E=>by have:=bH.lt b E;omega);have cw:=A_ (show ∀ b∈sb,b<wb.1.size from λb E=>bI.lt b E);clear bq b6 c6 aC ao;have cD:=A_ (show RBox ((wb.alloc (AK #[AC (U_ 0).1.1,S P1 p1 q1,S P2 p2 q2] 35)).alloc (AK #[AC (U_ 0).1.1,S Q1 k1 l1,S Q2 k2 l2] 35)) wb.1.size (U_ 0) P1 p1 q1 P2 p2 q2 from⟨oR,⟨oD,oD,oD⟩,⟨oD,oD,oD⟩⟩);have cF:=A_ (show RBox ((wb.alloc (AK #[AC (U_ 0).1.1,S P1 p1 q1,S P2 p2 q2] 35)).alloc (AK #[AC (U_ 0).1.1,S Q1 k1 l1,S Q2 k2 l2] 35)) (wb.1.size+1) (U_ 0) Q1 k1 l1 Q2 k2 l2 from⟨sI,⟨oD,oD,oD⟩,⟨oD,oD,oD⟩⟩);obtain⟨aY,aP⟩:∃ W,(wb.alloc (AK #[AC (U_ 0).1.1,S P1 p1 q1,S P2 p2 q2] 35)).alloc (AK #[AC (U_ 0).1.1,S Q1 k1 l1,S Q2 k2 l2] 35)=W:=⟨_,rfl⟩
 have a4:=A_ (by rw[<-aP];exact(AV _).alloc sI _:Bw wb aY);have bJ:=A_ (AI H a4);have cE:=A_ (by rw[<-aP];exact cD:RBox aY wb.1.size (U_ 0) P1 p1 q1 P2 p2 q2);have cG:=A_ (by rw[<-aP];exact cF:RBox aY (wb.1.size+1) (U_ 0) Q1 k1 l1 Q2 k2 l2);have cx:=A_ (by rw[<-aP];simp:aY.1.size=wb.1.size+1+1);have cy:=A_ aP;clear aP;go_wp2_with fail;rw[cy.o];refine(A7q _ m _ aY (cz.below bJ) cs).mono ?_;rintro _ db ⟨bG,c9,aN,aO,rfl,be,b7,aB⟩;rw[co.o]at be;obtain rfl:X=c9:=by rw[<-a3.o];exact be.1
 have bP:=A_ (show OutSt w db wb.1.size (wb.1.size+1) bG X aN h aO (A1e h u t 0) P1 p1 q1 P2 p2 q2 bD (A1i h u t 0) Q1 k1 l1 Q2 k2 l2 sb from
  ⟨AI bJ aB,cE.below aB,cG.below aB,(ck.below a4).below aB,(bI.below a4).below aB,λb E=>by have:=cv b E;omega,λb E=>by have:=cw.o b E;omega,be,λb E=>by have:=(b7.2 b E).1;have:=cx.o;omega,O_ (O_ cu.o a4.o) aB,oS,oS,oS⟩)
 clear be b7 aB c8 m1 cV cX;generalize cZ:wb.1.size=ga at *;generalize c0:ga+1=gb at *;clear cZ c0;go_wp2_with fail;go_loopg [16] X (λg s wr=>∃ (k:Nat) (P1:Option AH) (p1 q1:Nat) (P2:Option AH) (p2 q2:Nat) (rl:List Nat) (Q1:Option AH) (k1 l1:Nat) (Q2:Option AH) (k2 l2:Nat) (rr:List Nat),k+g=X/\s=N K k/\Hid (OutSt w wr ga gb bG X aN h aO (A1e h u t k) P1 p1 q1 P2 p2 q2 rl (A1i h u t k) Q1 k1 l1 Q2 k2 l2 rr));case atStart=>exact⟨0,P1,p1,q1,P2,p2,q2,bD,Q1,k1,l1,Q2,k2,l2,sb,oS,rfl,bP.o⟩
 case round =>
  clear bP;obtain⟨k,P1,p1,q1,P2,p2,q2,rl,Q1,k1,l1,Q2,k2,l2,rr,b0,rfl,Y⟩:=hrel;have dq:=Y.ra.1;have dr:=Y.rb.1;rcases BN k X with aX|aX
  ·have c1:(k:Int)<X:=oS
   have ds:(0:Int)<=k:=oS;obtain⟨g,rfl⟩:∃ g,gk=g+1:=⟨gk - 1,oS⟩
   have bd:=A_ (by omega:k+1+g=X);obtain⟨dh,dD,x,cN,dk,b9,cJ,bT,bU,bV,cQ⟩:=TEdge.elemA Y.se aX;obtain⟨O,aT,r,bl,bz,bn,bm,bA,bo,bW,cO,dl,b8,cK,cL,cM,bY,cY⟩:=E0m cp Y.bl aX;subst cN;subst cO;have cq:=A_ cY;have bK:=A_ bY;have au:=A_ (by rw[DY,b9];rfl:h.getD k A4o=x);have a5:=A_ (by rw[DY,b8];rfl:u.getD k A0h=r);have T:=A_ (Y.below (AV (AK #[N K x.a,N K x.b,N K x.left,N K x.right] 190)));have dg:(wr.alloc (AK #[N K x.a,N K x.b,N K x.left,N K x.right] 190)).cell? ⟨wr.1.size,2,I⟩=QL (N K x.left):=oD;have ap:(wr.alloc (AK #[N K x.a,N K x.b,N K x.left,N K x.right] 190)).cell? ⟨wr.1.size,3,I⟩=QL (N K x.right):=oD;have aq:wr.1.size<(wr.alloc (AK #[N K x.a,N K x.b,N K x.left,N K x.right] 190)).1.size:=sI;have cP:wr.1.size≠ga:=oS;have dj:O<wr.1.size:=by have:=Y.bl.size;omega
   have bN:=A_ Y.na;have bO:=A_ Y.nb;have ao:O≠ga:=by have:=bN.o;omega
   have aC:O≠gb:=by have:=bO.o;omega
   have cj:=A_ (show ∀ b∈bW,b≠ga/\b≠gb from λb E=>by have:=cq b E;have:=bN.o;have:=bO.o;omega);obtain⟨aQ,aR,aS⟩:(wr.alloc (AK #[N K x.a,N K x.b,N K x.left,N K x.right] 190)).cell? ⟨O,aT+k*3,I⟩=QL (AC r.1.1)/\(wr.alloc (AK #[N K x.a,N K x.b,N K x.left,N K x.right] 190)).cell? ⟨O,aT+k*3+1,I⟩=QL (S bl bz bn)/\(wr.alloc (AK #[N K x.a,N K x.b,N K x.left,N K x.right] 190)).cell? ⟨O,aT+k*3+2,I⟩=QL (S bm bA bo):=⟨oD,oD,oD⟩
   have aw:O<(wr.alloc (AK #[N K x.a,N K x.b,N K x.left,N K x.right] 190)).1.size:=oR;have al:=A_ (bK.below (AV (AK #[N K x.a,N K x.b,N K x.left,N K x.right] 190)));clear b0 aX b9 b8 cQ bY Y;go_upto_region 5 with fail;clear cJ bT bU bV cK cL cM bK;generalize wr.alloc (AK #[N K x.a,N K x.b,N K x.left,N K x.right] 190)=U at *;generalize wr.1.size=ai at *;by_cases an:x.left=(t:Int)
   ·by_cases aj:x.right=(t:Int)
    ·skip
     have ay:=A_ (by rw[A1e,au.o,if_pos an,a5.o]:A1e h u t (k+1)=A0k (A1e h u t k) r);have aV:(x.left==(t:Int))=AD:=by simp[an]
     have az:=A_ (by rw[A1i,au.o,if_pos aj,a5.o]:A1i h u t (k+1)=A0k (A1i h u t k) r);have aW:(x.right==(t:Int))=AD:=by simp[aj]
     clear an aj;go_wp2_with fail;obtain⟨ba,⟨u0,u1,u2⟩,⟨ax,v1,v2⟩⟩:=T.ra;refine X_ sI ?_;dsimp only[DJ,DK,DI];iterate 5 refine C_ _ ?_
     refine D_ (BP (A0k (A1e h u t k) r)) ?_ ?_;·intro aM ab aK aa G;obtain⟨bs,bt⟩:=F_ aa;simp at G;refine G_ ?_;exact H_ (A0x _ _ (A1e h u t k) r _ _ aK (T.al.below Below.go) (al.below Below.go))
     intro aM ab wb aa G aD;clear aD;simp at G;have aJ:=G.2.2.2.2.2;obtain⟨⟨D,aE⟩,ak⟩:=aJ;rw[<-ay.o]at D;obtain⟨ac,ag,ae,bf,ad,ah,af,bg,aL,aI,_,_⟩:=BK D;rw[aL]at D;have H:=A_ (show Bw U wb from Below.go);have ar:=A_ D;have aH:=H.size;have aF:=T.ra.1;have aG:=T.rb.1;have aA:=A_ (show ∀ b∈ab 5,b≠ga/\b≠gb from λb E=>by have:=(ak b E).1;(try simp at this);omega);have Z:=A_ (T.below H);have am:=A_ (Z.setL ar aA);obtain⟨_,⟨aZ,a1,a2⟩,⟨bh,bi,bj⟩⟩:=Z.ra;have aU:=(H.cell (p:=⟨ai,3,I⟩) aq).trans ap;have a6:ai<wb.1.size:=oS;have ca:=(H.cell (p:=⟨O,_,I⟩) aw).trans aQ;have cc:=(H.cell (p:=⟨O,_,I⟩) aw).trans aR;have ce:=(H.cell (p:=⟨O,_,I⟩) aw).trans aS;have cR:O<wb.1.size:=oS;have bL:=A_ (al.below H);generalize ab 5=bB at *;clear G aE ak aI D aa u0 u1 u2 ax v1 v2 ap aQ aR aS aq aw al T aH aF aG ba Z;go_wp2_with fail;have bQ:(((wb.setCell ⟨ga,0,I⟩ (AC (A1e h u t (k+1)).1.1)).setCell ⟨ga,1,I⟩ (S ac ag ae)).setCell ⟨ga,2,I⟩ (S ad ah af)).cell? ⟨ai,3,I⟩=QL (N K x.right):=(JF (a:=⟨ai,3,I⟩) (A0p ai cP)).trans aU;have cb:(((wb.setCell ⟨ga,0,I⟩ (AC (A1e h u t (k+1)).1.1)).setCell ⟨ga,1,I⟩ (S ac ag ae)).setCell ⟨ga,2,I⟩ (S ad ah af)).cell? ⟨O,aT+k*3,I⟩=QL (AC r.1.1):=(JF (a:=⟨O,_,I⟩) (A0p O ao)).trans ca;have cd:(((wb.setCell ⟨ga,0,I⟩ (AC (A1e h u t (k+1)).1.1)).setCell ⟨ga,1,I⟩ (S ac ag ae)).setCell ⟨ga,2,I⟩ (S ad ah af)).cell? ⟨O,aT+k*3+1,I⟩=QL (S bl bz bn):=(JF (a:=⟨O,_,I⟩) (A0p O ao)).trans cc;have cf:(((wb.setCell ⟨ga,0,I⟩ (AC (A1e h u t (k+1)).1.1)).setCell ⟨ga,1,I⟩ (S ac ag ae)).setCell ⟨ga,2,I⟩ (S ad ah af)).cell? ⟨O,aT+k*3+2,I⟩=QL (S bm bA bo):=(JF (a:=⟨O,_,I⟩) (A0p O ao)).trans ce;have bM:=A_ (show Agg (((wb.setCell ⟨ga,0,I⟩ (AC (A1e h u t (k+1)).1.1)).setCell ⟨ga,1,I⟩ (S ac ag ae)).setCell ⟨ga,2,I⟩ (S ad ah af)) (AM #[AC r.1.1,S bl bz bn,S bm bA bo]) r bW from bL.keep (λb E=>A0p b (cj b E).1));have bX:ai<(((wb.setCell ⟨ga,0,I⟩ (AC (A1e h u t (k+1)).1.1)).setCell ⟨ga,1,I⟩ (S ac ag ae)).setCell ⟨ga,2,I⟩ (S ad ah af)).1.size:=oR;have bZ:O<(((wb.setCell ⟨ga,0,I⟩ (AC (A1e h u t (k+1)).1.1)).setCell ⟨ga,1,I⟩ (S ac ag ae)).setCell ⟨ga,2,I⟩ (S ad ah af)).1.size:=oR;clear aU ca cc ce bL a6 cR aZ a1 a2 bh bi bj ar H;generalize (((wb.setCell ⟨ga,0,I⟩ (AC (A1e h u t (k+1)).1.1)).setCell ⟨ga,1,I⟩ (S ac ag ae)).setCell ⟨ga,2,I⟩ (S ad ah af))=V at *;have ap:=bQ;have aQ:=cb;have aR:=cd;have aS:=cf;have al:=bM;have aq:=bX;have aw:=bZ;clear bQ cb cd cf bM bX bZ;obtain⟨bc,⟨u0,u1,u2⟩,⟨ax,v1,v2⟩⟩:=am.rb;refine X_ sI ?_;dsimp only[DJ,DK,DI];iterate 5 refine C_ _ ?_
     refine D_ (BP (A0k (A1i h u t k) r)) ?_ ?_;·intro aM ab aK aa G;obtain⟨bs,bt⟩:=F_ aa;simp at G;refine G_ ?_;exact H_ (A0x _ _ (A1i h u t k) r _ _ aK (am.ar.below Below.go) (al.below Below.go))
     intro aM ab wb aa G aD;clear aD;simp at G;have aJ:=G.2.2.2.2.2;obtain⟨⟨D,aE⟩,ak⟩:=aJ;rw[<-az.o]at D;obtain⟨ac,ag,ae,bf,ad,ah,af,bg,aL,aI,_,_⟩:=BK D;rw[aL]at D;have H:=A_ (show Bw V wb from Below.go);have ar:=A_ D;have aH:=H.size;have aF:=am.ra.1;have aG:=am.rb.1;have aA:=A_ (show ∀ b∈ab 5,b≠ga/\b≠gb from λb E=>by have:=(ak b E).1;(try simp at this);omega);have Z:=A_ (am.below H);have cH:=A_ (Z.setR ar aA);obtain⟨_,⟨aZ,a1,a2⟩,⟨bh,bi,bj⟩⟩:=Z.rb;have aU:=(H.cell (p:=⟨ai,3,I⟩) aq).trans ap;have a6:ai<wb.1.size:=oS;generalize ab 5=bB at *;clear G aE ak aI D aa u0 u1 u2 ax v1 v2 ap aQ aR aS aq aw al am aH aF aG bc Z;go_wp2_with fail;go_roundg g;case measure=>omega
     case rel=>exact⟨k+1,_,_,_,_,_,_,_,_,_,_,_,_,_,_,bd,gN,(show OutSt w _ ga gb _ X aN h aO (A1e h u t (k+1)) _ _ _ _ _ _ _ (A1i h u t (k+1)) _ _ _ _ _ _ _ from cH)⟩
    skip;have ay:=A_ (by rw[A1e,au.o,if_pos an,a5.o]:A1e h u t (k+1)=A0k (A1e h u t k) r);have aV:(x.left==(t:Int))=AD:=by simp[an]
    have az:=A_ (by rw[A1i,au.o,if_neg aj]:A1i h u t (k+1)=A1i h u t k);have aW:(x.right==(t:Int))=AF:=by simp[aj]
    clear an aW;go_wp2_with fail;obtain⟨ba,⟨u0,u1,u2⟩,⟨ax,v1,v2⟩⟩:=T.ra;refine X_ sI ?_;dsimp only[DJ,DK,DI];iterate 5 refine C_ _ ?_
    refine D_ (BP (A0k (A1e h u t k) r)) ?_ ?_;·intro aM ab aK aa G;obtain⟨bs,bt⟩:=F_ aa;simp at G;refine G_ ?_;exact H_ (A0x _ _ (A1e h u t k) r _ _ aK (T.al.below Below.go) (al.below Below.go))
    intro aM ab wb aa G aD;clear aD;simp at G;have aJ:=G.2.2.2.2.2;obtain⟨⟨D,aE⟩,ak⟩:=aJ;rw[<-ay.o]at D;obtain⟨ac,ag,ae,bf,ad,ah,af,bg,aL,aI,_,_⟩:=BK D;rw[aL]at D;have H:=A_ (show Bw U wb from Below.go);have ar:=A_ D;have aH:=H.size;have aF:=T.ra.1;have aG:=T.rb.1;have aA:=A_ (show ∀ b∈ab 5,b≠ga/\b≠gb from λb E=>by have:=(ak b E).1;(try simp at this);omega);have Z:=A_ (T.below H);have am:=A_ (Z.setL ar aA);obtain⟨_,⟨aZ,a1,a2⟩,⟨bh,bi,bj⟩⟩:=Z.ra;have aU:=(H.cell (p:=⟨ai,3,I⟩) aq).trans ap;have a6:ai<wb.1.size:=oS;generalize ab 5=bB at *;clear G aE ak aI D aa u0 u1 u2 ax v1 v2 ap aQ aR aS aq aw al T aH aF aG ba Z;go_wp2_with fail;go_roundg g;case measure=>omega
    case rel=>exact⟨k+1,_,_,_,_,_,_,_,_,_,_,_,_,_,_,bd.o,gN,(show OutSt w _ ga gb _ X aN h aO (A1e h u t (k+1)) _ _ _ _ _ _ _ (A1i h u t (k+1)) _ _ _ _ _ _ _ from by rw[az.o];exact am)⟩
   by_cases aj:x.right=(t:Int)
   ·skip
    have ay:=A_ (by rw[A1e,au.o,if_neg an]:A1e h u t (k+1)=A1e h u t k);have aV:(x.left==(t:Int))=AF:=by simp[an]
    have az:=A_ (by rw[A1i,au.o,if_pos aj,a5.o]:A1i h u t (k+1)=A0k (A1i h u t k) r);have aW:(x.right==(t:Int))=AD:=by simp[aj]
    clear aV aj;go_wp2_with fail;obtain⟨bc,⟨u0,u1,u2⟩,⟨ax,v1,v2⟩⟩:=T.rb;refine X_ sI ?_;dsimp only[DJ,DK,DI];iterate 5 refine C_ _ ?_
    refine D_ (BP (A0k (A1i h u t k) r)) ?_ ?_;·intro aM ab aK aa G;obtain⟨bs,bt⟩:=F_ aa;simp at G;refine G_ ?_;exact H_ (A0x _ _ (A1i h u t k) r _ _ aK (T.ar.below Below.go) (al.below Below.go))
    intro aM ab wb aa G aD;clear aD;simp at G;have aJ:=G.2.2.2.2.2;obtain⟨⟨D,aE⟩,ak⟩:=aJ;rw[<-az.o]at D;obtain⟨ac,ag,ae,bf,ad,ah,af,bg,aL,aI,_,_⟩:=BK D;rw[aL]at D;have H:=A_ (show Bw U wb from Below.go);have ar:=A_ D;have aH:=H.size;have aF:=T.ra.1;have aG:=T.rb.1;have aA:=A_ (show ∀ b∈ab 5,b≠ga/\b≠gb from λb E=>by have:=(ak b E).1;(try simp at this);omega);have Z:=A_ (T.below H);have am:=A_ (Z.setR ar aA);obtain⟨_,⟨aZ,a1,a2⟩,⟨bh,bi,bj⟩⟩:=Z.rb;have aU:=(H.cell (p:=⟨ai,3,I⟩) aq).trans ap;have a6:ai<wb.1.size:=oS;generalize ab 5=bB at *;clear G aE ak aI D aa u0 u1 u2 ax v1 v2 ap aQ aR aS aq aw al T aH aF aG bc Z;go_wp2_with fail;go_roundg g;case measure=>omega
    case rel=>exact⟨k+1,_,_,_,_,_,_,_,_,_,_,_,_,_,_,bd.o,gN,(show OutSt w _ ga gb _ X aN h aO (A1e h u t (k+1)) _ _ _ _ _ _ _ (A1i h u t (k+1)) _ _ _ _ _ _ _ from by rw[ay.o];exact am)⟩
   skip;have ay:=A_ (by rw[A1e,au.o,if_neg an]:A1e h u t (k+1)=A1e h u t k);have aV:(x.left==(t:Int))=AF:=by simp[an]
   have az:=A_ (by rw[A1i,au.o,if_neg aj]:A1i h u t (k+1)=A1i h u t k);have aW:(x.right==(t:Int))=AF:=by simp[aj]
   clear aV aW;go_wp2_with fail;go_roundg g;case measure=>omega
   case rel=>exact⟨k+1,_,_,_,_,_,_,_,_,_,_,_,_,_,_,bd.o,gN,(show OutSt w _ ga gb _ X aN h aO (A1e h u t (k+1)) _ _ _ _ _ _ _ (A1i h u t (k+1)) _ _ _ _ _ _ _ from by rw[ay.o,az.o];exact T)⟩
  obtain rfl:k=X:=oS;have c1:¬ ((k:Int)<k):=oS;have ci:=A_ (by unfold D1y;rw[a3.o]:A3t (A1e h u t k) (A1i h u t k)=D1y h u t);obtain⟨ba,⟨u0,u1,u2⟩,⟨ax,v1,v2⟩⟩:=Y.ra;obtain⟨bc,⟨aZ,a1,a2⟩,⟨dM,dN,dO⟩⟩:=Y.rb;obtain⟨r0,dF,dB⟩:=bx Y.res;have cn:=A_ Y.bl;clear b0 aX;go_wp2_with fail;refine(A5b _ _ (A1e h u t k) (A1i h u t k) _ _ wr Y.al Y.ar).mono ?_;rintro _ dc ⟨dI,da,rfl,a7,bu,br⟩;rw[ci.o]at a7;obtain⟨ac,ag,ae,bf,ad,ah,af,bg,rfl,c7,_,_⟩:=BK a7;have ch:=A_ a7;have cA:=A_ bu;obtain⟨dn,dp⟩:=F_ br;have dA:w.1.size+1<dc.1.size:=by have:=br.size;omega
  have cB:=A_ (show ∀ b∈da,w.1.size+2<=b from λb E=>by have:=(bu.2 b E).1;omega);have dm:=AI cn br;clear a7 bu c7 Y;go_wp2;refine BI (v:=AM #[AC (D1y h u t).1.1,S ac ag ae,S ad ah af]) (by simp[BO,results135,go_sem, *]) rfl ?_;refine A1s (lo:=w.1.size+2) ch.o cA.o.free cB.o oS ?_ ?_;·exact Above.go
  exact Below.go
end Go.Proofs.YtbkilakncnlebaaGreatDoor.X
