/- A part of the proof. -/
import Derived.Test.YtbhemnidcleaiaaGreatY13
import Derived.Test.YtbhemnidcleaiaaGreatY12
set_option linter.constructorNameAsVariable false
set_option maxHeartbeats 16000000
set_option maxRecDepth 10000
namespace Go.Proofs.YtbhemnidcleaiaaGreat.X
open Go.RowKit Go.XB Go.XN Proofs.Tryz
attribute [local go_sem] L_ opAt N_ M_ Region.wanted yielded ix0 ix1 ix2
attribute [local simp] N_ M_ MP.eq MP.agg MP.sl A0r
def A8k (us:List Bool) (t:TTri):Nat->List Bool
 |0=>us
 |1=>us.set t.a.toNat true
 |2=>(us.set t.a.toNat true).set t.b.toNat true
 |_=>((us.set t.a.toNat true).set t.b.toNat true).set t.c.toNat true
def A4t (n:Nat) (ts:List TTri):Nat->List Bool
 |0=>List.replicate n false
 |k+1=>A8k (A4t n ts k) (ts.getD k ⟨0,0,0,0,0⟩) 3
theorem B1y (us:List Bool) (t:TTri) (i:Nat):(A8k us t i).length=us.length:=by
 unfold A8k;split<;>simp
theorem B3u (n:Nat) (ts:List TTri):∀ k,(A4t n ts k).length=n
 |0=>by simp[A4t]
 |k+1=>by rw[A4t,B1y,B3u]
structure MeshI (m:TMesh) (xs ys:List Int):Prop where
 pts:E5p m.1 xs ys
 sx:A6a xs
 sy:A6a ys
 n3:3<=m.1.length
 n40:m.1.length<=40
 ok:m.1.all A1b=true
 nd:m.1.Nodup
 t1:1<=m.triangles.length
 t48:m.triangles.length<=48
 tri:∀ t∈m.triangles,A5v m.1.length t/\inB 0 t.4 2=true/\inB 0 t.5 60=true/\0<A5u xs ys t.a t.b t.c
 sep:∀ (k:Nat) (t:TTri) (j:Nat) (s:TTri),m.triangles[k]?=some t->j<k->m.triangles[j]?=some s->B9s xs ys s t=true\/B9s xs ys t s=true
 used:A4t m.1.length m.triangles m.triangles.length=List.replicate m.1.length true
 noin:∀ t∈m.triangles,E9p xs ys m.1.length t
theorem D1p:(prog.info? 4).map (λi=>(i.zero,i.size,i.bytes))=some (some (.bool false),1,1):=kR
def BRow (w:World) (base g n:Nat) (fs:List Bool):Prop:=w.ownsRow base 4 1 (.slice (some ⟨g,0,none⟩) n n) n (fs.map .bool)
theorem B6q (n:Nat):(madeCells (Value.bool false).cells (n*1)).toList=(List.replicate n false).map .bool:=by
 rw[List.map_replicate];refine List.eq_replicate_iff.2 ⟨by simp[size_madeCells],λh b=>?_⟩;simp only[madeCells,Array.toList_map,List.mem_map]at b;obtain⟨a,_,rfl⟩:=b;have:(Value.bool false).cells=#[.bool false]:=rfl;simp[this,Nat.mod_one]
theorem BRow.cell {w:World} {base g n:Nat} {b:List Bool} (h:BRow w base g n b) {j:Nat} {f:Bool} (u:b[j]?=some f):w.cell? ⟨g,j,none⟩=some (.bool f)/\w.frozen? ⟨g,j,none⟩=false:=by
 have D:=(List.getElem?_eq_some_iff.1 u).1;have E:b.length=n*1:=by have:=h.1;simpa using this
 exact⟨by rw[World.ownsRow.cellAt h j oM,List.getElem?_map,u];rfl,World.ownsRow.frozenAt h j⟩
theorem BRow.lt {w:World} {base g n:Nat} {fs:List Bool} (h:BRow w base g n fs):g<w.1.size:=(World.ownsRow.lt h _ rfl).2
theorem BRow.set {w:World} {base g n:Nat} {b:List Bool} (h:BRow w base g n b) (j:Nat) (f:Bool):BRow (w.setCell ⟨g,j,none⟩ (.bool f)) base g n (b.set j f):=by
 unfold BRow;rw[List.map_set];exact(World.ownsRow.stored h j _).1
theorem BRow.below {w w':World} {base g n:Nat} {fs:List Bool} (h:BRow w base g n fs) (hb:Bw w w'):BRow w' base g n fs:=I_ h hb

theorem D6i (g n:Nat) (w:World) (h:∀ j,j<n->w.cell? ⟨g,j,none⟩=some (.bool true)) (I:g<w.1.size) (K:n<=40) :
  Calls prog 142 #[.slice (some ⟨g,0,none⟩) n n,.bool false] w (A0b w (.int .i64 (-1))):=by
 have D:=A_ h;clear h;go_enter func142,ntmps142;go_wp2_with fail;go_loopg [8] n (λg s wr=>∃ k:Nat,k+g=n/\s=.int .i64 k/\wr=w);case atStart=>exact⟨0,oM,rfl,rfl⟩
 case round =>
  obtain⟨k,u,rfl,rfl⟩:=hrel;rcases Nat.lt_or_ge k n with b|b
  ·have G:(k:Int)<n:=oM
   have J:(k:Int)<=40:=oM;have H:=D k b;obtain⟨g,rfl⟩:∃ g,gk=g+1:=⟨gk - 1,oM⟩
   have E:=A_ (by omega:k+1+g=n);clear u b;go_wp2_with fail;go_roundg g;case measure=>omega
   case rel=>exact⟨k+1,E,gN,rfl⟩
  obtain rfl:k=n:=oM;have G:¬ ((k:Int)<k):=oM;clear u b;go_wp2;go_ret;exact⟨rfl,Below.refl _ _⟩
theorem C8y (g n:Nat) (w:World) (b:∀ j,j<n->w.cell? ⟨g,j,none⟩=some (.bool true)) (u:g<w.1.size) (D:n<=40) :
  Calls prog 96 #[.slice (some ⟨g,0,none⟩) n n,.bool false] w (A0b w (.bool false)):=by
 have C:=A_ (D6i g n w b u D);clear b;go_enter func96,ntmps96;go_wp2_with fail;refine C.mono ?_;rintro _ E ⟨rfl,h⟩;go_wp2;go_ret;exact⟨rfl,h⟩

theorem B1u (v:Value) (m:TMesh) (b:List Nat) (xs ys:List Int) (w:World) (bz:Agg w v m b) (aj:MeshI m xs ys):Calls prog 39 #[v] w (A0b w (.bool true)):=by
 obtain⟨ab,h,af,bB,aB,n1,X,cu,rfl,rfl,aV,H⟩:=TMesh.agg bz;have bj:=A_ aV;have aQ:=A_ H;have u:=A_ aj;have aJ:=aV.1;have aK:=H.1;have ar:=A_ aJ;have bM:=A_ aK;have cg:3<=h:=by rw[<-aJ];exact aj.n3
 have aA:h<=40:=by rw[<-aJ];exact aj.n40
 have cN:1<=n1:=by rw[<-aK];exact aj.t1
 have cf:n1<=48:=by rw[<-aK];exact aj.t48
 have cQ:n1<=X:=H.2.1;have cP:(h:Int)<=40:=oM;have cO:(n1:Int)<=48:=oM;have bR:=A_ (by unfold inB;simp;omega:inB 1 n1 48=true);obtain⟨bA,ca,cm,cn,co⟩:=info_parts D1p;have b2:=A_ (by rw[co];omega:bA.bytes*h<=281474976710656);have bS:=A_ (by unfold maxLen;omega:h<=maxLen);clear bz aV H aj aJ aK;go_enter func39,ntmps39;go_wp2_with fail;refine(C4p ab h af m.1 bB _ (bj.below Below.go) u.ok u.nd cg aA).mono ?_;rintro _ a7 ⟨rfl,aT⟩;obtain⟨bY,b5⟩:=F_ aT;have c5:w.1.size<a7.1.size:=ltg aT;have bJ:=A_ (show Bw w a7 from Below.go);go_wp2_with fail;have C:=A0s n1 1 48 a7;rw[bR.o]at C;refine C.mono ?_;clear C;rintro _ bF ⟨rfl,G⟩;obtain⟨bZ,b6⟩:=F_ G;have c6:w.1.size<bF.1.size:=ltg G;have be:=A_ (Below.next bJ G);go_wp2_with fail;refine(D4p ab h af m.1 bB xs ys bF (bj.o.below be.o) u.o.pts u.o.sx u.o.sy aA oM).mono ?_;rintro _ w3 ⟨df,rfl,bu,Z⟩;have aP:=A_ bu;obtain⟨A,ag,ad,am,ah,ae,an,ai,cw,cx,rfl,bW,bX⟩:=bu;clear bW bX;obtain⟨b0,b7⟩:=F_ Z;have al:w.1.size<w3.1.size:=ltg Z;have W:=A_ (Below.next be Z);have a1:w3.cell? ⟨w.1.size,0,none⟩=some (.slice ab h af):=gS;have k1:w3.cell? ⟨w.1.size,1,none⟩=some (.slice aB n1 X):=gS;clear bY b5 bZ b6 b0 b7 aT G Z;go_upto_region 4 with fail;have ck:w.1.size<=(w3.alloc (.cells #[.slice A h ag,.slice (some ⟨ad,am,none⟩) h ah,.slice (some ⟨ae,an,none⟩) h ai] 127)).1.size:=sO;go_upto_region 5 with(at_make;(refine wpList_make_full _ rfl _ _ 129 rfl w.1.size 4 bA (.bool false) 1 underlying129 ca cm cn .i64 .i64 _ _ h rfl rfl rfl rfl b2 bS ck ?_);intro O aL br)
 rw[B6q]at aL;rw[World.size_alloc]at aL;have aw:=(Below.refl (w3.1.size+1) (w3.alloc (.cells #[.slice A h ag,.slice (some ⟨ad,am,none⟩) h ah,.slice (some ⟨ae,an,none⟩) h ai] 127))).grown br sI (by intro k aH;cases aH);have a8:=A_ (show BRow O w.1.size (w3.1.size+1) h (A4t h m.triangles 0)from aL);have aO:=A_ (show Bw w3 O from(Below.box _).trans (aw.mono oM));have K:O.cell? ⟨w3.1.size,0,none⟩=some (.slice A h ag):=(aw.cell (p:=⟨w3.1.size,0,none⟩) (Nat.lt_succ_self _)).trans gS;have p1:O.cell? ⟨w3.1.size,1,none⟩=some (.slice (some ⟨ad,am,none⟩) h ah):=(aw.cell (p:=⟨w3.1.size,1,none⟩) (Nat.lt_succ_self _)).trans gS;have p2:O.cell? ⟨w3.1.size,2,none⟩=some (.slice (some ⟨ae,an,none⟩) h ai):=(aw.cell (p:=⟨w3.1.size,2,none⟩) (Nat.lt_succ_self _)).trans gS;have aY:O.cell? ⟨w.1.size,0,none⟩=some (.slice ab h af):=(aO.cell (p:=⟨w.1.size,0,none⟩) al).trans a1;have aZ:O.cell? ⟨w.1.size,1,none⟩=some (.slice aB n1 X):=(aO.cell (p:=⟨w.1.size,1,none⟩) al).trans k1;have c2:w3.1.size+1<O.1.size:=a8.lt;have db:w.1.size<O.1.size:=oM;clear aL br aw;go_wp2_with fail;go_loopg [32] n1 (λg s wr=>∃ k:Nat,k+g=n1/\s=.int .i64 k/\Hid (BRow wr w.1.size (w3.1.size+1) h (A4t h m.triangles k))/\Bw w3 wr/\(wr.cell? ⟨w3.1.size,0,none⟩=some (.slice A h ag)/\wr.cell? ⟨w3.1.size,1,none⟩=some (.slice (some ⟨ad,am,none⟩) h ah)/\wr.cell? ⟨w3.1.size,2,none⟩=some (.slice (some ⟨ae,an,none⟩) h ai)));case atStart=>exact⟨0,oM,rfl,a8.o,aO.o,⟨K,p1,p2⟩⟩
 case round =>
  clear K p1 p2 aY aZ;obtain⟨k,aH,rfl,ay,Y,⟨K,p1,p2⟩⟩:=hrel;have bI:=A_ Y;have bh:=A_ (Below.next W Y);have bi:=A_ (aP.below Y);have aY:wr.cell? ⟨w.1.size,0,none⟩=some (.slice ab h af):=(Y.cell (p:=⟨w.1.size,0,none⟩) al).trans a1;have aZ:wr.cell? ⟨w.1.size,1,none⟩=some (.slice aB n1 X):=(Y.cell (p:=⟨w.1.size,1,none⟩) al).trans k1;have c4:w3.1.size+1<wr.1.size:=ay.lt;have c9:w.1.size<wr.1.size:=oM;have da:w3.1.size<wr.1.size:=oM;rcases Nat.lt_or_ge k n1 with aI|aI
  ·rename World=>D
   have ce:(k:Int)<n1:=oM;have cM:(0:Int)<=k:=oM;have cK:(k:Int)<=48:=oM;have cL:(k:Int)<=X:=oM;obtain⟨bT,cs,t,bU,cG,aM,cz,cA,cB,cE,cF,aS⟩:=TTri.elemA (aQ.below bh) aI;subst bU;have ba:=A_ aS;have bd:=A_ (show ∀ bm:World,Agg bm (.agg #[.int .i64 t.a,.int .i64 t.b,.int .i64 t.c,.int .i64 t.4,.int .i64 t.5]) t []from λbm=>by obtain⟨_,_,cp,i2,cq,i4,i5⟩:=TTri.agg aS;exact TTri.mkAgg cp i2 cq i4 i5);have bP:=A_ aM;have aC:=A_ (u.tri t (List.mem_of_getElem? aM));have I:=A_ (by have:=aC.1;rwa [ar.o]at this:A5v h t);have bQ:=A_ (show A8k (A4t h m.triangles k) t 3=A4t h m.triangles (k+1) by rw[A4t,List.getD_eq_getElem?_getD,aM];rfl);obtain⟨g,rfl⟩:∃ g,gk=g+1:=⟨gk - 1,oM⟩
   have cd:=A_ (by omega:k+1+g=n1);clear aH aI aM aS Y;go_wp2_with fail;refine(C3j _ h xs ys _ t _ (D.alloc (.cells #[.int .i64 t.a,.int .i64 t.b,.int .i64 t.c,.int .i64 t.4,.int .i64 t.5] 93)) (bi.below (Below.box _)) u.sx u.sy aA (ba.below (Below.box _)) I aC.2.1 aC.2.2.1 aC.2.2.2).mono ?_;rintro _ S ⟨rfl,J⟩;obtain⟨bp,bq⟩:=F_ J;have ap:=A_ (show Bw D S from Below.trans (Below.box _) (J.mono sI));have cU:D.1.size<S.1.size:=by have:=J.size;simp at this;omega
   go_wp2_with fail;refine(A2g _ t _ S (ba.below ap)).mono ?_;rintro _ aN ⟨rfl,ax⟩;obtain⟨b3,b8⟩:=F_ ax;have bf:=A_ (Below.next ap ax);have ci:D.1.size<aN.1.size:=by have:=ax.size;omega
   have cX:w.1.size<aN.1.size:=oM;have cY:w3.1.size<aN.1.size:=oM;have cV:w.1.size<S.1.size:=oM;have cW:w3.1.size<S.1.size:=oM;go_wp2_with fail;go_loopg [43] 3 (λg s wr=>∃ i:Nat,i+g=3/\s=.int .i64 i/\Hid (BRow wr w.1.size (w3.1.size+1) h (A8k (A4t h m.triangles k) t i))/\Bw w3 wr/\D.1.size<wr.1.size/\(wr.cell? ⟨w3.1.size,0,none⟩=some (.slice A h ag)/\wr.cell? ⟨w3.1.size,1,none⟩=some (.slice (some ⟨ad,am,none⟩) h ah)/\wr.cell? ⟨w3.1.size,2,none⟩=some (.slice (some ⟨ae,an,none⟩) h ai)/\wr.cell? ⟨D.1.size,0,none⟩=some (.int .i64 t.a)/\wr.cell? ⟨D.1.size,1,none⟩=some (.int .i64 t.b)/\wr.cell? ⟨D.1.size,2,none⟩=some (.int .i64 t.c)/\wr.cell? ⟨D.1.size,3,none⟩=some (.int .i64 t.4)/\wr.cell? ⟨D.1.size,4,none⟩=some (.int .i64 t.5)));case atStart=>exact⟨0,rfl,rfl,ay.below bf,Below.next bI bf,ci,⟨gS,gS,gS,gS,gS,gS,gS,gS⟩⟩
   case round =>
   clear bp bq b3 b8 K p1 p2;obtain⟨i,aE,rfl,E,G,ak,⟨K,p1,p2,a2,a3,a4,a5,a6⟩⟩:=hrel;have bK:=A_ G;obtain rfl|rfl|rfl|rfl:i=0\/i=1\/i=2\/i=3:=oM
   ·obtain rfl:gk=2+1:=oM
    have bn:=I.1.1;have au:=I.1.2;have az:=E.cell (j:=t.a.toNat) (f:=(A8k (A4t h m.triangles k) t 0).getD t.a.toNat false) (by rw[List.getD_eq_getElem?_getD,List.getElem?_eq_getElem (by rw[B1y,B3u];omega)];rfl);obtain⟨bD,bE⟩:=az;have ao:=A_ (show BRow (wr.setCell ⟨w3.1.size+1,t.a.toNat,none⟩ (.bool true)) w.1.size (w3.1.size+1) h (A8k (A4t h m.triangles k) t (0+1))from E.set _ _);have W:=A_ (show Bw w3 (wr.setCell ⟨w3.1.size+1,t.a.toNat,none⟩ (.bool true))from G.setCell (p:=⟨w3.1.size+1,t.a.toNat,none⟩) (by omega:w3.1.size<=w3.1.size+1) _);have bt:=E.lt;clear aE;go_wp2_with fail;go_roundg 2;case measure=>omega
    case rel=>exact⟨0+1,rfl,gN,ao.o,W.o,by simpa using ak,⟨gS,gS,gS,gS,gS,gS,gS,gS⟩⟩
   ·obtain rfl:gk=1+1:=oM
    have bn:=I.2.1.1;have au:=I.2.1.2;have az:=E.cell (j:=t.b.toNat) (f:=(A8k (A4t h m.triangles k) t 1).getD t.b.toNat false) (by rw[List.getD_eq_getElem?_getD,List.getElem?_eq_getElem (by rw[B1y,B3u];omega)];rfl);obtain⟨bD,bE⟩:=az;have ao:=A_ (show BRow (wr.setCell ⟨w3.1.size+1,t.b.toNat,none⟩ (.bool true)) w.1.size (w3.1.size+1) h (A8k (A4t h m.triangles k) t (1+1))from E.set _ _);have W:=A_ (show Bw w3 (wr.setCell ⟨w3.1.size+1,t.b.toNat,none⟩ (.bool true))from G.setCell (p:=⟨w3.1.size+1,t.b.toNat,none⟩) (by omega:w3.1.size<=w3.1.size+1) _);have bt:=E.lt;clear aE;go_wp2_with fail;go_roundg 1;case measure=>omega
    case rel=>exact⟨1+1,rfl,gN,ao.o,W.o,by simpa using ak,⟨gS,gS,gS,gS,gS,gS,gS,gS⟩⟩
   ·obtain rfl:gk=0+1:=oM
    have bn:=I.2.2.1;have au:=I.2.2.2;have az:=E.cell (j:=t.c.toNat) (f:=(A8k (A4t h m.triangles k) t 2).getD t.c.toNat false) (by rw[List.getD_eq_getElem?_getD,List.getElem?_eq_getElem (by rw[B1y,B3u];omega)];rfl);obtain⟨bD,bE⟩:=az;have ao:=A_ (show BRow (wr.setCell ⟨w3.1.size+1,t.c.toNat,none⟩ (.bool true)) w.1.size (w3.1.size+1) h (A8k (A4t h m.triangles k) t (2+1))from E.set _ _);have W:=A_ (show Bw w3 (wr.setCell ⟨w3.1.size+1,t.c.toNat,none⟩ (.bool true))from G.setCell (p:=⟨w3.1.size+1,t.c.toNat,none⟩) (by omega:w3.1.size<=w3.1.size+1) _);have bt:=E.lt;clear aE;go_wp2_with fail;go_roundg 0;case measure=>omega
    case rel=>exact⟨2+1,rfl,gN,ao.o,W.o,by simpa using ak,⟨gS,gS,gS,gS,gS,gS,gS,gS⟩⟩
   clear aE;have ct:wr.cell? ⟨w.1.size,0,none⟩=some (.slice ab h af):=(G.cell (p:=⟨w.1.size,0,none⟩) al).trans a1;have q1:wr.cell? ⟨w.1.size,1,none⟩=some (.slice (some ⟨bT,cs,none⟩) n1 X):=(G.cell (p:=⟨w.1.size,1,none⟩) al).trans k1;have ch:w.1.size<wr.1.size:=by have:=E.lt;omega
   have bG:=A_ (by rw[<-bQ.o];exact E:BRow wr w.1.size (w3.1.size+1) h (A4t h m.triangles (k+1)));clear aY aZ ay E;go_wp2_with fail;go_loopg [55] k (λg s wr=>∃ j:Nat,j+g=k/\s=.int .i64 j/\Hid (BRow wr w.1.size (w3.1.size+1) h (A4t h m.triangles (k+1)))/\Bw w3 wr/\D.1.size<wr.1.size/\(wr.cell? ⟨w3.1.size,0,none⟩=some (.slice A h ag)/\wr.cell? ⟨w3.1.size,1,none⟩=some (.slice (some ⟨ad,am,none⟩) h ah)/\wr.cell? ⟨w3.1.size,2,none⟩=some (.slice (some ⟨ae,an,none⟩) h ai)/\wr.cell? ⟨D.1.size,0,none⟩=some (.int .i64 t.a)/\wr.cell? ⟨D.1.size,1,none⟩=some (.int .i64 t.b)/\wr.cell? ⟨D.1.size,2,none⟩=some (.int .i64 t.c)/\wr.cell? ⟨D.1.size,3,none⟩=some (.int .i64 t.4)/\wr.cell? ⟨D.1.size,4,none⟩=some (.int .i64 t.5)));case atStart=>exact⟨0,oM,rfl,bG.o,bK.o,ak,⟨K,p1,p2,a2,a3,a4,a5,a6⟩⟩
   case round =>
    clear K p1 p2 a2 a3 a4 a5 a6 ct q1 ch ak;obtain⟨j,aF,rfl,aD,Z,ak,⟨K,p1,p2,a2,a3,a4,a5,a6⟩⟩:=hrel;have aq:=A_ Z;have bL:=A_ (Below.next W Z);have cR:w3.1.size<wr.1.size:=by have:=aD.lt;omega
    rcases Nat.lt_or_ge j k with aG|aG
    ·have cb:(j:Int)<k:=oM
     have cc:j<n1:=oM;obtain⟨cy,dc,s,bV,cH,aX,u0,u1,u2,dd,de,bo⟩:=TTri.elemA (aQ.below bL) cc;cases bV;have bc:=A_ bo;have bN:=A_ (u.sep k t j s bP aG aX);have bk:=A_ (by have:=(u.tri s (List.mem_of_getElem? aX)).1;rwa [ar.o]at this:A5v h s);obtain⟨g',rfl⟩:∃ g',gk=g'+1:=⟨gk - 1,oM⟩
     have bs:=A_ (by omega:j+1+g'=k);have bv:=B5a _ h xs ys (.agg #[.int .i64 s.a,.int .i64 s.b,.int .i64 s.c,.int .i64 s.4,.int .i64 s.5]) (.agg #[.int .i64 t.a,.int .i64 t.b,.int .i64 t.c,.int .i64 t.4,.int .i64 t.5]) s t _ _ (wr.alloc (.cells #[.int .i64 s.a,.int .i64 s.b,.int .i64 s.c,.int .i64 s.4,.int .i64 s.5] 93)) ((aP.below aq).below (Below.box _)) u.sx u.sy (bc.below (Below.box _)) (bd _) bk I;have bl:=A_ bv;clear aF aG aX bo bv;cases H:B9s xs ys s t
     ·have aR:=A_ H
      have bO:=A_ (show B9s xs ys t s=true from(bN.o).resolve_left (by rw[H];simp));clear H;go_wp2_with fail;have C:=bl.o;rw[aR.o]at C;refine C.mono ?_;clear C;rintro _ T ⟨rfl,aa⟩;obtain⟨b4,b9⟩:=F_ aa;have ac:=A_ (show Bw wr T from Below.trans (Below.box _) (aa.mono sI));have cj:wr.1.size<T.1.size:=by have:=aa.size;simp at this;omega
      have cZ:w3.1.size<T.1.size:=oM;have c0:D.1.size<T.1.size:=oM;go_wp2_with fail;have C:=B5a _ h xs ys (.agg #[.int .i64 t.a,.int .i64 t.b,.int .i64 t.c,.int .i64 t.4,.int .i64 t.5]) (.agg #[.int .i64 s.a,.int .i64 s.b,.int .i64 s.c,.int .i64 s.4,.int .i64 s.5]) t s _ _ T ((aP.below aq).below ac) u.sx u.sy (bd _) (bc.below ac) I bk;rw[bO.o]at C;refine C.mono ?_;clear C;rintro _ cv ⟨rfl,aU⟩;obtain⟨cI,cJ⟩:=F_ aU;have bg:=A_ (Below.next ac aU);have c1:T.1.size<=cv.1.size:=aU.size;go_wp2_with fail;go_roundg g';case measure=>omega
      case rel=>exact⟨j+1,bs.o,gN,aD.o.below bg.o,Below.next aq.o bg.o,oM,⟨gS,gS,gS,gS,gS,gS,gS,gS⟩⟩
     have aR:=A_ H;clear H;go_wp2_with fail;have C:=bl.o;rw[aR.o]at C;refine C.mono ?_;clear C;rintro _ T ⟨rfl,aa⟩;obtain⟨b4,b9⟩:=F_ aa;have ac:=A_ (show Bw wr T from Below.trans (Below.box _) (aa.mono sI));have cj:wr.1.size<T.1.size:=by have:=aa.size;simp at this;omega
     go_wp2_with fail;go_roundg g';case measure=>omega
     case rel=>exact⟨j+1,bs.o,gN,aD.o.below ac.o,Below.next aq.o ac.o,oM,⟨gS,gS,gS,gS,gS,gS,gS,gS⟩⟩
    obtain rfl:j=k:=oM;have cb:¬ ((j:Int)<j):=oM;clear aF aG;go_wp2_with fail;go_roundg g;case measure=>omega
    case rel=>exact⟨j+1,cd,gN,aD,aq,⟨K,p1,p2⟩⟩
  obtain rfl:k=n1:=oM;have ce:¬ ((k:Int)<k):=oM;have a9:=A_ (show BRow wr w.1.size (w3.1.size+1) h (List.replicate h true) by have au:=u.used;rw[ar.o,bM.o]at au;rw[<-au];exact ay);have bH:=A_ (C8y (w3.1.size+1) h wr (λj aF=>(a9.o.cell (j:=j) (f:=true) (by rw[List.getElem?_replicate,if_pos aF])).1) a9.o.lt aA);clear aH aI Y ay;go_wp2_with fail;refine bH.mono ?_;rintro _ S ⟨rfl,J⟩;obtain⟨bp,bq⟩:=F_ J;have c7:w.1.size<S.1.size:=by have:=J.size;omega
  have c8:w3.1.size<S.1.size:=by have:=J.size;omega
  have ap:=A_ (Below.next bh J);go_wp2_with fail;refine(C6x _ h xs ys aB k X m.triangles cu S (bi.below J) u.sx u.sy aA (aQ.below ap) cf (λt aW=>by have:=(u.tri t aW).1;rwa [ar.o]at this) (λt aW=>by have:=u.o.noin t aW;rwa [ar.o]at this)).mono ?_;rintro _ aN ⟨rfl,ax⟩;go_wp2;go_ret;exact⟨rfl,Below.next ap ax⟩
section
section
variable {α:Type} [Dat α]
theorem E1t {w wr wa D:World} {gB g' k:Nat} {cells cs:List Value} {fss:List (List Nat)} {ps:List α} {S:α} {z:List Nat} (ae:Filled wr cells ps fss) (X:ps.length=k) (ad:cells.length=k*Dat.sz α) (H:Own w wr fss.flatten) (Y:gB∉fss.flatten) (K:Bw w wr) (ag:gB<wr.1.size) (ac:w.1.size<=gB)
  (J:Bw wr wa) (T:Dat.at_ wa cs S z) (W:Free wa z) (I:∀ b∈z,wr.1.size<=b) (O:wa.grownBy D (some gB)) (Z:g'=gB\/g'=wa.1.size) :
  Filled D (cells++cs) (ps++[S]) (fss++[z])/\Own w D (fss++[z]).flatten/\g'∉(fss++[z]).flatten/\Bw w D/\(ps++[S]).length=k+1:=by
 have ah:=J.size;have ab:∀ b∈z,b<wa.1.size:=Dat.lt T;have G:∀ b∈fss.flatten,b<wr.1.size:=H.lt;have k1:∀ b∈fss.flatten,D.1[b]?=wr.1[b]?:=λb h=>(O.block b (by have:=G b h;omega) (by intro e;injection e with e;exact Y (e ▸ h))).trans (J.block b (G b h));have k2:∀ b∈z,D.1[b]?=wa.1[b]?:=λb h=>O.block b (ab b h) (by intro e;injection e with e;have:=I b h;omega);have aa:(fss++[z]).flatten=fss.flatten++z:=sI;refine⟨Filled.push (ae.keep k1) (by rw[ad,X]) (Dat.keep T k2),?_,?_,?_,by simp[X]⟩;·rw[aa];refine Own.append ⟨H.1,λb h=>⟨(H.2 b h).1,by obtain⟨cs,t,e⟩:=(H.2 b h).2;exact⟨cs,t,(k1 b h).trans e⟩⟩⟩ ⟨W.1,λb h=>⟨by have:=I b h;have:=K.size;omega,by obtain⟨cs,t,e⟩:=W.2 b h;exact⟨cs,t,(k2 b h).trans e⟩⟩⟩ ?_;exact A9o G I
 ·rw[aa]
  intro u;rcases List.mem_append.1 u with u|u
  ·rcases Z with E|E
   ·exact Y (E ▸ u)
   have:=G _ u;omega
  rcases Z with E|E;·have:=I _ u;omega
  have:=ab _ u;omega
 exact(Below.next K J).grown O (by have:=K.size;omega) (λk2 af=>by injection af with u;subst u;exact ac)
theorem D7z {w wr:World} {base gB k cap:Nat} {e:TypeId} {cells:List Value} {fss:List (List Nat)} {ps:List α} (X:wr.ownsRow base e (Dat.sz α) (.slice (some ⟨gB,0,none⟩) k cap) k cells) (J:w.1.size<=base) (K:Filled wr cells ps fss) (S:ps.length=k) (W:Own w wr fss.flatten) (T:gB∉fss.flatten) (I:Bw w wr):A0w w ps (.returned (.slice (some ⟨gB,0,none⟩) k cap)) wr:=by
 obtain⟨h,c',u,Z,Y,b⟩:=K.sl (α:=α) X S;refine⟨h,k,c',u,by rw[<-Z],Y,B7v (n:=k) (fss:=fss) ?_ W,I⟩;rcases b with b|⟨g,D,E,G,H⟩;·exact .inl b
 refine .inr ⟨g,E,Nat.le_trans J G,H,λO=>?_⟩;have e:gB=g:=by simpa[Value.ownBlock]using D
 exact T (e ▸ O)
end
end
end Go.Proofs.YtbhemnidcleaiaaGreat.X
namespace Go.XB
open Go.RowKit Go.Proofs.YtbhemnidcleaiaaGreat.X
section
variable {α:Type} [Dat α]
def Pend (w wb:World) (e:TypeId) (wr:World) (gB i cap:Nat) (ps:List α):Prop :=
 ∃ cells fss,wr.ownsRow wb.1.size e (Dat.sz α) (.slice (some ⟨gB,0,none⟩) i cap) i cells/\Filled wr cells ps fss/\ps.length=i/\Own w wr fss.flatten/\gB∉fss.flatten/\w.1.size<=wb.1.size/\Bw w wr/\Bw wb wr
variable {w wb wr wa:World} {e:TypeId} {gB i cap:Nat} {ps:List α}
theorem Pend.start (hw:Bw w wb):Pend (α:=α) w wb e (wb.alloc (.cells #[] e)) wb.1.size 0 0 [] :=
 ⟨[],[],World.ownsRow_made wb #[] 0 (Nat.le_refl _) (Nat.zero_le _) sI,Filled.nil _ _,rfl,Own.nil _ _,sI,hw.size,Below.next hw (Below.box _),Below.box _⟩
theorem Pend.below (h:Pend w wb e wr gB i cap ps) (b:Bw wr wa):Pend w wb e wa gB i cap ps:=by
 obtain⟨cells,fss,D,E,G,H,I,J,K,u⟩:=h;exact⟨cells,fss,I_ D b,E.below b,G,H.below b,I,J,Below.next K b,Below.trans u (b.mono u.size)⟩
theorem Pend.bw (h:Pend w wb e wr gB i cap ps):Bw w wr:=by obtain⟨_,_,_,_,_,_,_,_,h,_⟩:=h;exact h
theorem Pend.bb (h:Pend w wb e wr gB i cap ps):Bw wb wr:=by obtain⟨_,_,_,_,_,_,_,_,_,h⟩:=h;exact h
theorem Pend.lt (h:Pend w wb e wr gB i cap ps):wb.1.size<=gB/\gB<wr.1.size:=by
 obtain⟨cells,fss,b,_⟩:=h;exact World.ownsRow.lt b _ rfl
theorem Pend.done (h:Pend w wb e wr gB i cap ps):A0w w ps (.returned (.slice (some ⟨gB,0,none⟩) i cap)) wr:=by
 obtain⟨cells,fss,b,u,D,E,G,H,I,J⟩:=h;exact D7z b H u D E G I
theorem Sl.pushed {β:Type} [Dat β] {A:Option Addr} {n c:Nat} {xs:List β} {bs:List Nat} {w8:World} {g':Nat} (h:Sl wr A n c xs bs) (hC:Bw wr wa) (hg:wa.grownBy w8 (some gB)) (hor:g'=gB\/g'=wa.1.size) (hn:gB∉bs):Sl w8 A n c xs bs/\g'∉bs :=
 ⟨(h.below hC).keep (λb hb=>hg.block b (by have:=h.lt b hb;have:=hC.size;omega) (by intro e;injection e with e;exact hn (e ▸ hb))),λhb=>hor.elim (λe=>hn (e ▸ hb)) (λe=>by have:=h.lt _ hb;have:=hC.size;omega)⟩
end
end Go.XB
namespace Go
open Go.RowKit Go.XB Go.Proofs.YtbhemnidcleaiaaGreat.X
theorem A1v {P:Program} {α:Type} [Dat α] {w wb wr wa:World} {gB k cap:Nat} {ps:List α} {Y:Array Oper} {rest:List Oper} {o:Oper} {a:Act} {Q:Exit->Act->World->Prop} (aj:o.guard=none) (s x:Operand) (t:TypeId)
  (am:o.op=.call { callee:=.builtin .append,args:=#[s,x],argTypes:=#[t,t] })
  (e:TypeId) (i:TypeInfo) (z:Value) (G:Nat) (au:P.underlying t=some (.slice e)) (hi:P.info? e=some i) (ax:i.zero=some z)
  (ar:i.size=Dat.sz α) (ag:i.bytes=G) (ay:z.cells.size=Dat.sz α) (ao:Pend w wb e wr gB k cap ps) (D:Bw wr wa) (aq:a.eval s=.slice (some ⟨gB,0,none⟩) k cap)
  (E:Addr) (c:Nat) (cs:List Value) (Z:α) (S:List Nat) (aw:a.eval x=.slice (some E) 1 c) (al:∀ j u,cs[j]?=some u->wa.cell? (E.add j)=some u)
  (J:Dat.at_ wa cs Z S) (ai:Free wa S) (ap:∀ b∈S,wr.1.size<=b) (ae:k+1<=maxLen) (ah:(k+1)*G<=140737488355328)
  (h:∀ g' cap' w8,Pend w wb e w8 g' (k+1) cap' (ps++[Z])->wa.grownBy w8 (some gB)->(g'=gB\/g'=wa.1.size)->wpList P Y Q rest (a.put o.dst (.slice (some ⟨g',0,none⟩) (k+1) cap')) w8):wpList P Y Q (o::rest) a wa:=by
 obtain⟨cells,fss,H,aa,ab,ac,ad,T,af,I⟩:=ao;have O:=World.ownsRow.lt H _ rfl;have aC:=D.size;have X:wb.1.size<=wa.1.size:=by have:=I.size;omega
 refine A1m aj s x t am wb.1.size e i z (Dat.sz α) G au hi ax ar ag ay Dat.pos gB k cap cells aq (I_ H D) E 1 c cs aw (by rw[Nat.one_mul];exact Dat.len J) al (Dat.one J) ae ah X ?_;intro g' cap' w8 an K W;refine h g' cap' w8 ?_ K W;obtain⟨p1,p2,az,aA,aB⟩:=E1t (w:=w) (g':=g') aa ab H.1 ac ad af O.2 (Nat.le_trans T O.1) D J ai ap K W;exact⟨_,_,an,p1,aB,p2,az,T,aA,(I.trans (D.mono I.size)).grown K X (λk2 ak=>by injection ak with h;subst h;exact O.1)⟩
theorem C7w {P:Program} {α:Type} [Dat α] {w wb wr wa:World} {gB k cap:Nat} {ps:List α} {J:Array Oper} {rest:List Oper} {o:Oper} {a:Act} {Q:Exit->Act->World->Prop} {s x:Operand} {t e:TypeId} {z:Value} {G:Nat} {E:Addr} {cs:List Value} {H:α} {D:List Nat}
  (Y:o.guard=none) (ab:o.op=.call { callee:=.builtin .append,args:=#[s,x],argTypes:=#[t,t] }) (af:P.underlying t=some (.slice e)) (T:(P.info? e).map (λi=>(i.zero,i.size,i.bytes))=some (some z,Dat.sz α,G)) (ac:Pend w wb e wr gB k cap ps) (S:Bw wr wa)
  (aa:∀ j u,cs[j]?=some u->wa.cell? (E.add j)=some u) (W:Dat.at_ wa cs H D) (X:Free wa D) (ad:∀ b∈D,wr.1.size<=b) (I:k+1<=maxLen/\(k+1)*G<=140737488355328)
  (h:∀ g' cap' w8,Hid (Pend w wb e w8 g' (k+1) cap' (ps++[H]))->Hid (wa.grownBy w8 (some gB))->Hid (g'=gB\/g'=wa.1.size)->wpList P J Q rest (a.put o.dst (.slice (some ⟨g',0,none⟩) (k+1) cap')) w8)
  (ae:a.eval s=.slice (some ⟨gB,0,none⟩) k cap:=by go_simp;done) (ag:a.eval x=.slice (some E) 1 1:=by go_simp;done)
  (ai:z.cells.size=Dat.sz α:=by rfl):wpList P J Q (o::rest) a wa:=by
 obtain⟨i,Z,ah,K,O⟩:=info_parts T;exact A1v Y s x t ab e i z G af Z ah K O ai ac S ae E 1 cs H D ag aa W X ad I.1 I.2 h
end Go

namespace Go.Proofs.YtbhemnidcleaiaaGreat.X
open Go.RowKit Go.XB Go.XN Proofs.Tryz
def pt0:TPoint:=⟨A0h,A0h⟩
def Z_ (ps:List TPoint) (i:Int):TPoint:=ps.getD i.toNat pt0
def B5j (ps:List TPoint) (t:TTri):List TPoint:=[Z_ ps t.a,Z_ ps t.b,Z_ ps t.c]
attribute [local go_sem] L_ opAt N_ M_ Region.wanted yielded
attribute [local simp] N_ M_ MP.eq MP.agg MP.sl A0r
theorem E6o:(prog.info? 38).map (λi=>(i.zero,i.size,i.bytes))=some (some (.agg #[.bool false,.slice none 0 0,.slice none 0 0,.bool false,.slice none 0 0,.slice none 0 0]),6,112):=kR
theorem E4r {ps:List TPoint} {i:Nat} {x:TPoint} (h:ps[i]?=some x) {j:Int} (b:j.toNat=i):Z_ ps j=x:=by
 unfold Z_;rw[b];simp[List.getD,h]

theorem D3y (ps:List TPoint) (t:TTri) {i:Nat} (h:i<3):(B5j ps t).take (i+1)=(B5j ps t).take i++[Z_ ps (cnr t i)]:=by
 obtain rfl|rfl|rfl:i=0\/i=1\/i=2:=oM;all_goals rfl
theorem E8j {n:Nat} {t:TTri} (h:A5v n t):∀ i,0<=cnr t i/\cnr t i<n
 |0=>h.1
 |1=>h.2.1
 |_+2=>h.2.2
theorem A6s (v:Value) (m:TMesh) (b:List Nat) (k:Nat) (t:TTri) (w:World) (an:Agg w v m b) (T:m.triangles[k]?=some t) (ao:A5v m.1.length t) (ai:m.1.all A1b=true) (ad:m.1.length<=40) (ae:m.triangles.length<=48) :
  Calls prog 90 #[v,.int .i64 k] w (A0w w (B5j m.1 t)):=by
 obtain⟨bg,h,bn,bU,bh,n1,bo,bV,rfl,rfl,G,H⟩:=TMesh.agg an;have aG:=A_ G;have a4:k<n1:=by rw[<-H.1];exact(List.getElem?_eq_some_iff.1 T).1
 have bI:h<=40:=by rw[<-G.1];exact ad
 have bK:n1<=48:=by rw[<-H.1];exact ae
 have aI:=A_ (by rw[<-G.1];exact ao:A5v h t);have au:=A_ ai;obtain⟨aN,bS,be,rfl,bA,X,aT,aU,aV,aW,aX,ag⟩:=TTri.elemA H a4;obtain rfl:t=be:=by rw[T]at X;exact Option.some.inj X
 have aB:=A_ ag;have bH:(k:Int)<n1:=oM;have bG:(n1:Int)<=48:=oM;have bJ:(h:Int)<=40:=oM;have aM:=A_ (by unfold inB;simp;omega:inB 0 (k:Int) ((n1:Int) - 1)=true);clear an T ao ai ad ae G H ag X;go_enter func90,ntmps90;go_wp2_with fail;refine Calls.new λw0 K=>?_;have C:=A0s k 0 ((n1:Int) - 1) w0;rw[aM.o]at C;refine C.mono ?_;clear C;rintro _ I ⟨rfl,S⟩;have ab:=A_ (A0z K.k S);have u:=A_ (Below.next K.b S);have bB:aN<I.1.size:=by have:=u.size;omega
 obtain⟨k1,-,l1⟩:=bx ab;obtain⟨aZ,a2⟩:=F_ u;clear S K;go_wp2_with fail;have ac:=A_ (Pend.start (α:=TPoint) (e:=38) u);refine(A2g _ t _ (I.alloc (.cells #[] 38)) (aB.below (u.alloc u.size _))).mono ?_;rintro _ bZ ⟨rfl,aj⟩;have P2:=A_ (ac.below aj);clear aj ac aZ a2 k1 aT aU aV aW aX;go_wp2_with fail;go_loopg [5,22] 3 (λg s5 s wr=>∃ (i gB cap:Nat),i+g=3/\s=.int .i64 i/\s5=.slice (some ⟨gB,0,none⟩) i cap/\Hid (Pend w I 38 wr gB i cap ((B5j m.1 t).take i)));case atStart=>exact⟨0,I.1.size,0,rfl,rfl,rfl,P2⟩
 case round =>
  clear P2;obtain⟨i,gB,cap,al,rfl,rfl,D⟩:=hrel;obtain⟨k2,-,l2⟩:=bx (A0z ab D.bb);rcases Nat.lt_or_ge i 3 with O|O
  ·obtain⟨gk,rfl⟩:∃ g,gk=g+1:=⟨gk - 1,oM⟩
   have aE:=A_ (by omega:i+1+gk=3);have bE:(i:Int)<3:=oM;have bF:=λw=>ixn t O w;have aL:=A_ (D3y m.1 t O);obtain⟨bL,bM⟩:=E8j aI i;generalize cnr t i=a at *;have aH:=A_ (by unfold inB;simp;omega:inB 0 a ((h:Int) - 1)=true);obtain⟨bm,bT,x,bi,bO,bp,bt,bj,bP,bq,bu,bk,bQ,br,bv,bl,bR,bs,bz,rfl,bD,Y,a9,p1,p2,ba,bc,bd,ah⟩:=TPoint.elemA (aG.o.below D.o.bw) (by omega:a.toNat<h);have aC:=A_ ah;have aK:=A_ (E4r Y rfl);have aJ:=A_ (show A1b x=true from List.all_eq_true.1 au x (List.mem_of_getElem? Y));have aw:=A_ (by unfold maxLen;omega:i+1<=maxLen/\(i+1)*112<=140737488355328);clear al Y ah;go_wp2_with fail;have C:=A0s a 0 ((h:Int) - 1) wr;rw[aH.o]at C;refine C.mono ?_;clear C;rintro _ w3 ⟨rfl,E⟩;obtain⟨a1,a3⟩:=F_ E;have bN:w.1.size<w3.1.size:=by have:=E.size;omega
   have J:=A_ E;go_wp2_with fail;refine(B5c _ x _ w3 (aC.below J) aJ).mono ?_;rintro _ bf ⟨bY,ar,rfl,af,W,ak⟩;obtain⟨ax,a5,aO,u1,ay,a6,aP,u2,az,a7,aQ,bW,aA,a8,aR,bX,rfl,z4,q1,q2,ap,aq⟩:=TPoint.agg af;have Z:=A_ (by rw[z4];exact TPoint.shut q1 q2 ap aq:Dat.at_ bf [.bool x.x.1.1,.slice ax a5 aO,.slice ay a6 aP,.bool x.y.1.1,.slice az a7 aQ,.slice aA a8 aR] x ar);have aD:=A_ W.free;have aF:=A_ (show ∀ b∈ar,wr.1.size<=b from λb aY=>Nat.le_trans J.size (W.2 b aY).1);have aa:=A_ (Below.next J ak);clear a1 a3 E af W ak z4 q1 q2 ap aq a9 p1 p2 ba bc bd k2;go_wp2_with (at_builtin;refine C7w rfl rfl underlying23 E6o D (aa.alloc aa.size _) (A0a (heap_alloc_new _ _)) (Dat.keep Z (λg hg=>Below.heap_alloc _ _ _ (Dat.lt Z g hg))) (aD.below (Below.box _)) aF aw ?_;intro g' aS b0 am _ _);rw[<-aK.o,<-aL.o]at am;go_wp2_with fail;go_roundg gk;case measure=>omega
   case rel=>exact⟨i+1,g',aS,aE,gN,rfl,am⟩
  obtain rfl:i=3:=oM;clear al k2;go_wp2;go_ret;exact D.done
def A3l (l:List TPoint) (fs:List TRat) (z:TPoint):Nat->TPoint
 |0=>ptI 0 0
 |k+1=>A3y (A3l l fs z k) (A0v (fs.getD k A0h) (A4a z (l.getD k pt0)))
def A2q (a b c:TPoint) (fs:List TRat) (z:TPoint):TPoint:=A0v (A3u (U_ 1) (A2y a b c)) (A3l [a,b,c] fs z 3)
theorem O_ {w w':World} {b:Nat} {o:Obj} (h:w.1[b]?=some o) (hb:Bw w w'):w'.1[b]?=some o:=(hb.block b (E_ h)).trans h
theorem E1v:J_ (U_ 1)=true:=ratOkB_iff.2 (D6r dE dE)

theorem D6l (A:Option Addr) (c:Nat) (h b1 u:TPoint) (b0:List Nat) (B:Option Addr) (d:Nat) (G:List TRat) (b8:List Nat) (bo:Value) (z:TPoint) (b3:List Nat) (w:World) (bf:Sl w A 3 c [h,b1,u] b0) (a7:Sl w B 3 d G b8) (aM:Agg w bo z b3)
  (a5:J_ (A2y h b1 u)=true) (a6:(A2y h b1 u).1.2≠[]) :
  Calls prog 216 #[.slice A 3 c,.slice B 3 d,bo] w (A0c w (A2q h b1 u G z)):=by
 have az:=A_ bf;have bz:=A_ a7;have bE:=A_ aM;have bu:=A_ a5;have bv:=A_ a6;obtain⟨aT,bi,aX,cw,aU,bj,aY,cx,aV,bk,aZ,cy,aW,bl,a1,cz,rfl,rfl,aA,ch,ci,cj⟩:=TPoint.agg aM;clear aA ch ci cj bf a7 aM a5 a6;go_enter func216,ntmps216;go_wp2_with fail;refine(B9v 0 0 _ cD cD).mono ?_;rintro _ b ⟨v1,cA,rfl,aI,bd,an⟩;obtain⟨O1,cp,b4,o1,O2,cq,b5,o2,bM,cs,b6,ep,bN,ct,b7,er,rfl,co,_,_,_,_⟩:=TPoint.agg aI;have bq:=A_ aI;have aS:=A_ bd;clear aI bd co;obtain⟨cc,ce⟩:=F_ an;have d0:w.1.size<b.1.size:=ltg an;have d1:w.1.size+1<b.1.size:=ltg an;have aR:=A_ (show Bw w b from Below.go);have T:=A_ (by have:=an.size;simp at this;omega:w.1.size+2<=b.1.size);have bD:=A_ (show b.1[w.1.size+1]?=some (.cells #[.bool false,.slice none 0 0,.slice none 0 0,.bool false,.slice none 0 0,.slice none 0 0] 38)from by refine(an.block _ sI).trans ?_;have:=heap_alloc_new (w.alloc (.cells #[.bool z.x.1.1,.slice aT bi aX,.slice aU bj aY,.bool z.y.1.1,.slice aV bk aZ,.slice aW bl a1] 38)) (.cells #[.bool false,.slice none 0 0,.slice none 0 0,.bool false,.slice none 0 0,.slice none 0 0] 38);rw[World.size_alloc]at this;exact this);have d4:w.1.size<b.1.size:=by have:=T.o;omega
 go_wp2_with fail;go_loopg [13] 3 (λg s wr=>∃ (k:Nat) (P1:Option Addr) (n1 m1:Nat) (P2:Option Addr) (n2 m2:Nat) (aG:Option Addr) (aP aN:Nat) (aH:Option Addr) (aQ aO:Nat) (aB:List Nat),k+g=3/\s=.int .i64 k/\Hid (Agg wr (.agg #[.bool (A3l [h,b1,u] G z k).x.1.1,.slice P1 n1 m1,.slice P2 n2 m2,.bool (A3l [h,b1,u] G z k).y.1.1,.slice aG aP aN,.slice aH aQ aO]) (A3l [h,b1,u] G z k) aB)/\Hid (Free wr aB/\∀ D∈aB,w.1.size+2<=D/\D≠b.1.size)/\Bw w wr/\Hid (wr.1[w.1.size+1]?=some (.cells #[.bool false,.slice none 0 0,.slice none 0 0,.bool false,.slice none 0 0,.slice none 0 0] 38))/\b.1.size<wr.1.size/\(wr.cell? ⟨w.1.size,0,none⟩=some (.bool z.x.1.1)/\wr.cell? ⟨w.1.size,1,none⟩=some (.slice aT bi aX)/\wr.cell? ⟨w.1.size,2,none⟩=some (.slice aU bj aY)/\wr.cell? ⟨w.1.size,3,none⟩=some (.bool z.y.1.1)/\wr.cell? ⟨w.1.size,4,none⟩=some (.slice aV bk aZ)/\wr.cell? ⟨w.1.size,5,none⟩=some (.slice aW bl a1))/\(wr.cell? ⟨b.1.size,0,none⟩=some (.bool (A3l [h,b1,u] G z k).x.1.1)/\wr.cell? ⟨b.1.size,1,none⟩=some (.slice P1 n1 m1)/\wr.cell? ⟨b.1.size,2,none⟩=some (.slice P2 n2 m2)/\wr.cell? ⟨b.1.size,3,none⟩=some (.bool (A3l [h,b1,u] G z k).y.1.1)/\wr.cell? ⟨b.1.size,4,none⟩=some (.slice aG aP aN)/\wr.cell? ⟨b.1.size,5,none⟩=some (.slice aH aQ aO))/\(wr.frozen? ⟨b.1.size,0,none⟩=false/\wr.frozen? ⟨b.1.size,1,none⟩=false/\wr.frozen? ⟨b.1.size,2,none⟩=false/\wr.frozen? ⟨b.1.size,3,none⟩=false/\wr.frozen? ⟨b.1.size,4,none⟩=false/\wr.frozen? ⟨b.1.size,5,none⟩=false));case atStart =>
  refine⟨0,O1,cp,b4,O2,cq,b5,bM,cs,b6,bN,ct,b7,cA,rfl,rfl,bq.below (Below.box _),⟨aS.free.below (Below.box _),λD H=>by have:=aS.range D H;simp at this;omega⟩,aR.o.alloc aR.o.size _,O_ bD.o (Below.box _),sI,⟨?_,?_,?_,?_,?_,?_⟩,⟨?_,?_,?_,?_,?_,?_⟩,⟨?_,?_,?_,?_,?_,?_⟩⟩;all_goals (try unfold A3l)
  all_goals go_simp
 case round =>
  clear cc ce;obtain⟨k,P1,n1,m1,P2,n2,m2,aG,aP,aN,aH,aQ,aO,aB,bc,rfl,a2,aK,H,be,dZ,⟨eF,eG,eH,eI,z4,eJ⟩,⟨ex,p1,p2,ey,ez,eA⟩,⟨dD,dF,dG,dH,dI,dJ⟩⟩:=hrel;have aF:=A_ H;have d2:w.1.size<wr.1.size:=by have:=T.o;omega
  rcases Nat.lt_or_ge k 3 with Z|Z
  ·have dU:(k:Int)<3:=oM
   have dV:(0:Int)<=k:=oM;obtain⟨g,rfl⟩:∃ g,gk=g+1:=⟨gk - 1,oM⟩
   have cg:=A_ (by omega:k+1+g=3);have dT:k+1<=3:=Z;obtain⟨c2,es,x,cH,d7,c9,ds,cI,d8,da,dt,cJ,d9,db,du,cK,ea,dc,dv,al,dO,aq,dw,dx,dy,dz,dA,dB,a4⟩:=TPoint.elemA (az.below H) Z;obtain⟨c7,ew,r,cL,eb,dd,aC,cM,ec,de,bn,am,dR,aA,dL,dM,dN,a3⟩:=TRat.elemA (bz.below H) Z;subst al;subst am;have bL:=A_ (show A3y (A3l [h,b1,u] G z k) (A0v r (A4a z x))=A3l [h,b1,u] G z (k+1) by rw[A3l,List.getD_eq_getElem?_getD,List.getD_eq_getElem?_getD,aA,aq];rfl);have bB:=A_ a4;have bA:=A_ a3;generalize A3l [h,b1,u] G z k=ay at *;clear bc Z aq aA a4 a3 H;go_wp2_with fail;refine X_ sI ?_;dsimp only[List.dropLast,List.getLast,List.length];iterate 7 refine C_ _ ?_
   refine D_ (MP.agg (A4a z x)) ?_ ?_;·intro W K J I E;obtain⟨X,Y⟩:=F_ I;simp at E;refine G_ ?_;exact H_ (A1u _ _ z x _ _ J ((bE.below aF).below Below.go) (bB.below Below.go))
   refine D_ (MP.agg (A0v r (A4a z x))) ?_ ?_;·intro W K J I E;obtain⟨X,Y⟩:=F_ I;simp at E;refine G_ ?_;obtain⟨_,t,_⟩:=E;exact H_ (A1n _ _ r (A4a z x) _ _ J (bA.below Below.go) t)
   refine D_ (MP.agg (A3y ay (A0v r (A4a z x)))) ?_ ?_;·intro W K J I E;obtain⟨X,Y⟩:=F_ I;simp at E;refine G_ ?_;obtain⟨_,t,_⟩:=E;exact H_ (A4x _ _ ay (A0v r (A4a z x)) _ _ J (a2.below Below.go) t)
   intro W K wa I E (aJ:Hid _);simp at E;have cv:=E.2.2.2.2.2.2.2.2.2;obtain⟨⟨O,ao⟩,ap⟩:=cv;rw[bL.o]at O;obtain⟨ab,ar,ag,u1,ac,au,ah,u2,ad,aw,ai,cB,ae,ax,aj,cE,cG,cn,_,_,_,_⟩:=TPoint.agg O;rw[cG]at O;have S:=A_ (show Bw wr wa from Below.go);have aD:=A_ O;have aE:=A_ ao;have af:=A_ (show ∀ D∈K 9,w.1.size+2<=D/\D≠b.1.size from λD H=>by have:=(ap D H).1;(try simp at this);have:=T.o;omega);obtain⟨cd,cf⟩:=F_ S;have dY:b.1.size<wa.1.size:=by have:=S.size;omega
   have ck:w.1.size<wa.1.size:=oM;generalize K 9=bm at *;clear E aJ O ao ap cn I;have dW:b.1.size≠w.1.size:=by have:=T.o;omega
   have dX:w.1.size≠b.1.size:=by have:=T.o;omega
   go_wp2_with fail;go_roundg g;case measure=>omega
   case rel =>
    have aL:∀ D,D≠b.1.size->((((((wa.setCell ⟨b.1.size,0,none⟩ (.bool (A3l [h,b1,u] G z (k+1)).x.1.1)).setCell ⟨b.1.size,1,none⟩ (.slice ab ar ag)).setCell ⟨b.1.size,2,none⟩ (.slice ac au ah)).setCell ⟨b.1.size,3,none⟩ (.bool (A3l [h,b1,u] G z (k+1)).y.1.1)).setCell ⟨b.1.size,4,none⟩ (.slice ad aw ai)).setCell ⟨b.1.size,5,none⟩ (.slice ae ax aj)).1[D]?=wa.1[D]? :=
     λD ak=>A0m b.1.size [.bool (A3l [h,b1,u] G z (k+1)).x.1.1,.slice ab ar ag,.slice ac au ah,.bool (A3l [h,b1,u] G z (k+1)).y.1.1,.slice ad aw ai,.slice ae ax aj] wa 0 D ak
    have aa:w.1.size<=b.1.size:=by have:=T.o;omega
    refine⟨k+1,ab,ar,ag,ac,au,ah,ad,aw,ai,ae,ax,aj,bm,cg,gN,?_,⟨aE.keep λD H=>aL D (af D H).2,af⟩,((((((Below.next aF S).setCell (p:=⟨b.1.size,0,none⟩) aa _).setCell (p:=⟨b.1.size,1,none⟩) aa _).setCell (p:=⟨b.1.size,2,none⟩) aa _).setCell (p:=⟨b.1.size,3,none⟩) aa _).setCell (p:=⟨b.1.size,4,none⟩) aa _).setCell (p:=⟨b.1.size,5,none⟩) aa _,(aL (w.1.size+1) (by have:=T.o;omega)).trans (O_ be.o S.o),sO,⟨?_,?_,?_,?_,?_,?_⟩,⟨?_,?_,?_,?_,?_,?_⟩,⟨?_,?_,?_,?_,?_,?_⟩⟩;·exact aD.keep λD H=>aL D (af D H).2
    all_goals go_simp
  obtain rfl:k=3:=oM;have cO:=A_ aK.1;have cN:=A_ aK.2;obtain⟨c4,et,c1,cP,ed,df,l1,cQ,ee,dg,l2,cR,ef,dh,d5,cU,eg,di,d6,b9,dQ,bg,bF,bG,bH,bI,bJ,bK,a8⟩:=TPoint.elemA (az.below H) (by decide:0<3);obtain⟨c5,eu,b2,Q1,eh,dj,q1,Q2,ei,dk,q2,cV,ej,dl,eB,cW,ek,dm,eC,al,ca,aq,bO,bP,bQ,bR,bS,bT,a9⟩:=TPoint.elemA (az.below H) (by decide:1<3);obtain⟨c6,ev,c8,cX,el,dn,cw,cY,em,dp,cx,cZ,en,dq,cy,c0,eo,dr,cz,am,cb,bh,bU,bV,bW,bX,bY,bZ,ba⟩:=TPoint.elemA (az.below H) (by decide:2<3);subst b9;injection al with al;injection al with ak h2 _;subst ak;subst h2;injection am with am;injection am with ak h2 _;subst ak;subst h2;simp at bg aq bh;subst bg;subst aq;subst bh;simp at bF bG bH bI bJ bK bO bP bQ bR bS bT bU bV bW bX bY bZ;have br:=A_ a8;have bs:=A_ a9;have bt:=A_ ba;have bp:=A_ (show A0v (A3u (U_ 1) (A2y h b1 u)) (A3l [h,b1,u] G z 3)=A2q h b1 u G z from rfl);generalize A3l [h,b1,u] G z 3=ay at *;obtain⟨eE,eD,d3⟩:=bx be;clear bc Z ca cb a8 a9 ba H aK;go_wp2_with fail;refine X_ sI ?_;dsimp only[List.dropLast,List.getLast,List.length];refine D_ (MP.agg (U_ 1)) ?_ ?_;·intro W K J I E;obtain⟨X,Y⟩:=F_ I;simp at E;refine G_ ?_;exact H_ (A0l 1 J cD)
  iterate 9 refine C_ _ ?_
  refine D_ (MP.agg (A2y h b1 u)) ?_ ?_;·intro W K J I E;obtain⟨X,Y⟩:=F_ I;simp at E;refine G_ ?_;exact H_ (A7l _ _ _ h b1 u _ _ _ J (br.below Below.go) (bs.below Below.go) (bt.below Below.go))
  refine D_ (MP.agg (A3u (U_ 1) (A2y h b1 u))) ?_ ?_;·intro W K J I E;obtain⟨X,Y⟩:=F_ I;simp at E;refine G_ ?_;obtain⟨aC,bn,_⟩:=E;exact H_ (A9z _ _ (U_ 1) (A2y h b1 u) _ _ J aC.1 bn E1v bu bv)
  refine C_ _ ?_;refine D_ (MP.agg (A0v (A3u (U_ 1) (A2y h b1 u)) ay)) ?_ ?_;·intro W K J I E;obtain⟨X,Y⟩:=F_ I;simp at E;refine G_ ?_;obtain⟨aC,_⟩:=E;exact H_ (A1n _ _ (A3u (U_ 1) (A2y h b1 u)) ay _ _ J aC.1 (a2.below Below.go))
  intro W K wa I E (aJ:Hid _);simp at E;have cu:=E.2.2.2.2.2.2.2.2.2.2.2.2.2;obtain⟨⟨O,ao⟩,ap⟩:=cu;rw[bp.o]at O;obtain⟨ab,ar,ag,u1,ac,au,ah,u2,ad,aw,ai,cB,ae,ax,aj,cE,cF,cm,_,_,_,_⟩:=TPoint.agg O;rw[cF]at O;have S:=A_ (show Bw wr wa from Below.go);have aD:=A_ O;have aE:=A_ ao;have af:=A_ (show ∀ D∈K 13,w.1.size+2<=D from λD H=>by have:=(ap D H).1;(try simp at this);have:=T.o;omega);obtain⟨cd,cf⟩:=F_ S;have ck:w.1.size+1<wa.1.size:=by have:=S.size;omega
  have dS:=Below.next aF S;generalize K 13=bm at *;clear E aJ O ao ap cm I;go_wp2;refine bodyPost_ret (v:=.agg #[.bool (A2q h b1 u G z).x.1.1,.slice ab ar ag,.slice ac au ah,.bool (A2q h b1 u G z).y.1.1,.slice ad aw ai,.slice ae ax aj]) (by simp[results,results216,go_sem, *]) rfl ?_;refine A1s (lo:=w.1.size+2) aD.o aE.o af.o oM ?_ ?_;·exact Above.go
  exact Below.go
def D0y (r:TRat):TRat:=⟨A0f (-R_ r),r.2⟩
def B4m (es:List TEdge) (fs:List TRat) (k a b:Int):TRat:=if (es.getD (A3z es (A2i a b)) A4o).left=k then fs.getD (A3z es (A2i a b)) A0h else D0y (fs.getD (A3z es (A2i a b)) A0h)
def A7o (es:List TEdge) (fs:List TRat) (k:Int) (t:TTri):List TRat:=[B4m es fs k t.b t.c,B4m es fs k t.c t.a,B4m es fs k t.a t.b]
def D1h (es:List TEdge) (t:TTri):Prop:=A6o es (A2i t.b t.c)=true/\A6o es (A2i t.c t.a)=true/\A6o es (A2i t.a t.b)=true
theorem B9y {es:List TEdge} {e:TEdge} (h:A6o es e=true):A3z es e<es.length:=by
 unfold A6o at h;simp at h;exact h.1
theorem A3x {w:World} {y:TRat} {u0 u1 u2:Value} {b:List Nat} (h:Agg w (.agg #[u0,u1,u2]) y b):Dat.at_ w [u0,u1,u2] y b:=by
 obtain⟨u,G,E⟩:=h;have D:u=[u0,u1,u2]:=by have:=congrArg (λv=>match v with | .agg c=>c.toList|_=>[]) G;simpa using this.symm
 rw[<-D];exact E
theorem B2r:(prog.info? 35).map (λi=>(i.zero,i.size,i.bytes))=some (some (.agg #[.bool false,.slice none 0 0,.slice none 0 0]),3,56):=kR
theorem C7n (v:Value) (x:TRat) (b:List Nat) (w:World) (I:Agg w v x b) (ok:A2j x.1=true) :
  Calls prog 30 #[v] w (λe w'=>∃ v',e=.returned v'/\Agg w' v' (D0y x) b/\Bw w w'):=by
 obtain⟨D,n1,E,ag,J,n2,T,ah,rfl,rfl,G,H⟩:=TRat.agg I;have O:=A_ G;have S:=A_ H;have K:=A_ (show D0y x=⟨⟨!x.num.neg&&decide (0<n1),x.1.2⟩,x.2⟩ by unfold D0y R_;rw[B9l ok,<-G.1];cases x.1.2<;>simp);clear G H I;go_enter func30,ntmps30;go_wp2_with fail;refine X_ sI ?_;dsimp only[List.dropLast,List.getLast,List.length];iterate 7 refine C_ _ ?_
 refine D_ (MP.eq (.agg #[.bool (!x.num.neg&&decide (0<n1)),.slice D n1 E])) ?_ ?_;·intro Y Z X h u;obtain⟨ab,ad⟩:=F_ h;simp at u;refine G_ ?_;exact A0i (A3s (!x.num.neg) D n1 E X)
 iterate 3 refine C_ _ ?_
 intro Y Z wa h u (W:Hid _);simp at u;go_simp;clear u W;obtain⟨aa,ac⟩:=F_ h;have ae:w.1.size<wa.1.size:=ltg h;have af:w.1.size+1<wa.1.size:=ltg h;go_wp2;refine bodyPost_ret (v:=.agg #[.bool (!x.num.neg&&decide (0<n1)),.slice D n1 E,.slice J n2 T]) (by simp[results,results30,go_sem, *]) rfl ?_;refine⟨_,rfl,?_,Below.go⟩;rw[K.o];exact TRat.mkAgg (x:=⟨⟨!x.num.neg&&decide (0<n1),x.1.2⟩,x.2⟩) (Sl.below O Below.go) (Sl.below S Below.go)

theorem D8k (es:List TEdge) (b:List TRat) (k:Int) (t:TTri) {i:Nat} (h:i<3):(A7o es b k t).take (i+1)=(A7o es b k t).take i++[B4m es b k (cnr t ((i+1) % 3)) (cnr t ((i+2) % 3))]:=by
 obtain rfl|rfl|rfl:i=0\/i=1\/i=2:=oM;all_goals rfl
theorem E5c {es:List TEdge} {t:TTri} (b:D1h es t) {i:Nat} (h:i<3):A6o es (A2i (cnr t ((i+1) % 3)) (cnr t ((i+2) % 3)))=true:=by
 obtain rfl|rfl|rfl:i=0\/i=1\/i=2:=oM;·exact b.1
 ·exact b.2.1
 exact b.2.2
theorem C8a (v:Value) (m:TMesh) (b:List Nat) (B:Option Addr) (u d:Nat) (G:List TRat) (bF:List Nat) (k:Nat) (t:TTri) (w:World) (O:Agg w v m b) (az:m.triangles.length<=48) (T:Sl w B u d G bF) (h:G.length=(P_ m.triangles).length)
  (W:m.triangles[k]?=some t) (a5:D1h (P_ m.triangles) t) (a3:G.all J_=true) :
  Calls prog 164 #[v,.slice B u d,.int .i64 k] w (A0w w (A7o (P_ m.triangles) G k t)):=by
 have bs:=A_ O;have bk:=A_ T;have bp:=A_ az;have bq:=A_ a3;have aO:=A_ a5;obtain⟨ba,cf,bz,dc,al,n1,bA,dd,rfl,rfl,b8,ah⟩:=TMesh.agg O;have Z:=A_ (by rw[<-h,T.1]:(P_ m.triangles).length=u);obtain⟨E,af⟩:∃ E,P_ m.triangles=E:=⟨_,rfl⟩
 rw[af]at Z aO ⊢;have bj:=A_ af;have cY:u<=144:=by rw[<-Z.o,<-af];unfold P_;have:=A5z m.triangles m.triangles.length;omega
 have cZ:(u:Int)<=144:=oM;have b5:k<n1:=by rw[<-ah.1];exact(List.getElem?_eq_some_iff.1 W).1
 have cX:n1<=48:=by rw[<-ah.1];exact az
 obtain⟨aU,ch,ci,bS,cL,S,bG,bH,bI,bJ,bK,aZ⟩:=TTri.elemA ah b5;subst bS;obtain rfl:t=ci:=by rw[W]at S;exact Option.some.inj S
 have aJ:=A_ aZ;have aP:=A_ (show I64 t.a/\I64 t.b/\I64 t.c from by obtain⟨_,_,ca,i2,cb,_,_⟩:=TTri.agg aJ;exact⟨ca,i2,cb⟩);have cV:(k:Int)<n1:=oM;have cW:(0:Int)<=k:=oM;have cU:(n1:Int)<=48:=oM;clear b8 ah O az T h af W a5 a3 S aZ;go_enter func164,ntmps164;go_wp2_with fail;refine(A7q _ m _ (w.alloc (.cells #[.slice ba cf bz,.slice (some ⟨aU,ch,none⟩) n1 bA] 26)) (bs.below (Below.box _)) bp).mono ?_;rintro _ ak ⟨cv,cg,bD,bL,rfl,ai,b7,aw⟩;rw[bj.o]at ai;obtain rfl:u=cg:=by rw[<-Z.o];exact ai.1
 have aN:=A_ ai;obtain⟨bY,b4⟩:=F_ aw;have c1:w.1.size<ak.1.size:=ltg aw;have an:=A_ (show Bw w ak from Below.go);have cM:aU<ak.1.size:=by have:=an.size;omega
 clear ai b7;go_wp2_with fail;refine(A2g _ t _ ak (aJ.below an)).mono ?_;rintro _ cj ⟨rfl,ax⟩;have bf:=A_ ax;have bg:=A_ (Below.next an ax);clear bY b4 aw ax bG bH bI bJ bK;go_upto_region 3 with fail;refine Code.new λw3 aa=>?_;have bh:=A_ (Below.next bg aa.b);have aK:=A_ (Below.next bf aa.b);have c5:cj.1.size<w3.1.size:=E_ aa.k;go_wp2_with fail;go_loopg [9,22] 3 (λg s9 s wr=>∃ (i gB cap:Nat),i+g=3/\s=.int .i64 i/\s9=.slice (some ⟨gB,0,none⟩) i cap/\Hid (Pend w w3 35 wr gB i cap ((A7o E G k t).take i)));case atStart=>exact⟨0,w3.1.size,0,rfl,rfl,rfl,Pend.start bh⟩
 case round =>
  obtain⟨i,gB,cap,a2,rfl,rfl,J⟩:=hrel;obtain⟨k2,-,l2⟩:=bx (A0z aa.k J.bb);have bi:=A_ J.bw;rcases Nat.lt_or_ge i 3 with ab|ab
  ·obtain⟨gk,rfl⟩:∃ g,gk=g+1:=⟨gk - 1,oM⟩
   have bn:=A_ (by omega:i+1+gk=3);have cR:(i:Int)<3:=oM;have aT:=A_ (D8k E G k t ab);have aS:=A_ (E5c aO ab);obtain⟨⟨m1,m2⟩,cc,cd⟩:=F1e ab;have q1:=C7j (t:=t) ⟨k2 0,k2 1,k2 2⟩ cc;have q2:=C7j (t:=t) ⟨k2 0,k2 1,k2 2⟩ cd;have bt:=A_ (C3u aP ((i+1) % 3));have bu:=A_ (C3u aP ((i+2) % 3));generalize cnr t ((i+1) % 3)=a at *;generalize cnr t ((i+2) % 3)=b at *;generalize (i+1) % 3=j at *;generalize (i+2) % 3=l at *;have c2:(j:Int)<3:=oM;have c4:(l:Int)<3:=oM;obtain⟨p,ag⟩:∃ p,A3z E (A2i a b)=p:=⟨_,rfl⟩
   have P:=A_ ag;have aB:p<u:=by rw[<-Z.o,<-ag];exact B9y aS
   obtain⟨H,aj,x,bQ,cN,S,cm,cn,co,cp,bT⟩:=TEdge.elemA (aN.below (Below.next aK J.bb)) aB;subst bQ;obtain⟨bv,db,r,cy,c9,cF,de,cz,da,cG,df,bR,cO,aC,bN,bO,bP,a1⟩:=TRat.elemA (bk.below bi) aB;subst bR;have bm:=A_ a1;have c0:(p:Int)<u:=oM;have ar:=A_ (ratOkB_iff.1 (List.all_eq_true.1 bq r (List.mem_of_getElem? aC)));have aF:=A_ (by unfold B4m;rw[ag,List.getD_eq_getElem?_getD,S,List.getD_eq_getElem?_getD,aC];rfl:B4m E G k a b=if x.left=(k:Int)then r else D0y r);have bc:=A_ (by unfold maxLen;omega:i+1<=maxLen/\(i+1)*56<=140737488355328);clear a2 ag S aC bT a1 aB k2;go_wp2_with fail;refine X_ sI ?_;dsimp only[List.dropLast,List.getLast,List.length];iterate 11 refine C_ _ ?_
   refine D_ (MP.eq (.int .i64 p)) ?_ ?_;·intro cs cu ck I ae;obtain⟨cP,cQ⟩:=F_ I;simp at ae;refine G_ ?_;exact A0i (by have C:=A2t (some ⟨H,aj,none⟩) u bD E bL a b ck ((aN.o.below (Below.next aK.o J.o.bb)).below Below.go) oM bt.o bu.o aS.o;rw[P.o]at C;exact C)
   intro cs cu aD I ae (bZ:Hid _);simp at ae;go_simp;have ao:=A_ I;obtain⟨bW,b0⟩:=F_ I;have cK:bv<aD.1.size:=by have:=I.size;omega
   have cJ:H<aD.1.size:=by have:=I.size;omega
   clear ae bZ I q1 q2 m1 m2;go_wp2_with fail;refine(A3n _ r _ aD (bm.below ao) (by have:=ar.num24;omega) (by have:=ar.o.den24;omega)).mono ?_;rintro _ Y ⟨dg,X,rfl,ac,aA,ad⟩;obtain⟨cw,c7,cB,u1,cx,c8,cE,u2,rfl,ct,_,_⟩:=TRat.agg ac;have bd:=A_ ac;have bl:=A_ aA.free;have bo:=A_ (show ∀ b∈X,b<Y.1.size from ac.lt);have br:=A_ (show ∀ b∈X,wr.1.size<=b from λb K=>Nat.le_trans ao.size (aA.2 b K).1);have aL:=A_ (Below.next ao ad);obtain⟨bX,b3⟩:=F_ ad;have bU:H<Y.1.size:=by have:=ad.size;omega
   clear ac aA ad ct;go_upto_region 9 with fail;have a9:Y.cell? ⟨H,aj+p*4+2,none⟩=some (.int .i64 x.left):=gS;refine Code.new λaE D=>?_;have cq:aE.cell? ⟨H,aj+p*4+2,none⟩=some (.int .i64 x.left):=(D.b.cell (p:=⟨H,aj+p*4+2,none⟩) bU).trans a9;have bV:H<aE.1.size:=by have:=D.b.size;omega
   clear bW b0 bX b3 cm cn co cp a9 bN bO bP;go_upto_if 48 with fail;go_cut [] (λwx=>∃ (y:TRat) (al:Option Addr) (m1 d1:Nat) (A2:Option Addr) (m2 d2:Nat),Hid (B4m E G k a b=y)/\Hid (wx.1[Y.1.size]?=some (.cells #[.bool y.1.1,.slice al m1 d1,.slice A2 m2 d2] 35))/\Hid (Agg wx (.agg #[.bool y.1.1,.slice al m1 d1,.slice A2 m2 d2]) y X)/\Hid (Free wx X)/\Hid (Bw wr wx));case first =>
    have ap:=A_ (Below.next aL D.b);have aI:=A_ (bd.below D.b);have aM:=A_ (bl.below D.b);obtain⟨bB,bM,ce⟩:=bx D.k;by_cases h:x.left=(k:Int)
    ·have b6:(x.left != (k:Int))=false:=by simp[h]
     have am:=A_ (aF.trans (if_pos h));clear h;go_wp2_with fail;go_meet;exact⟨r,_,_,_,_,_,_,am,D.k,aI,aM,ap⟩
    have b6:(x.left != (k:Int))=true:=by simp[h]
    have am:=A_ (aF.trans (if_neg h));clear h;go_wp2_with fail;refine(C7n _ r _ aE aI ar.1).mono ?_;rintro _ a8 ⟨dh,rfl,au,ay⟩;obtain⟨aG,a6,aV,dj,aH,a7,aW,dk,rfl,-,-,-⟩:=TRat.agg au;have be:=A_ au;have aq:=A_ ay;have aQ:=A_ (A0z D.k ay);clear au ay bB bM ce;obtain⟨cA,cI,c6⟩:=bx aQ;go_wp2_with fail;go_meet;have aR:=λb (K:b∈X)=>A0m Y.1.size [.bool (D0y r).1.1,.slice aG a6 aV,.slice aH a7 aW] a8 0 b (by have:=bo b K;omega);exact⟨D0y r,_,_,_,_,_,_,am,B9q (B9q (B9q aQ)),be.keep aR,(aM.below aq).keep aR,(Below.next ap aq).grown (A5y (A5y (A5y (B3a a8 _)))) (Below.next ap aq).size (λx O=>by injection O with O;have:=aL.size;omega)⟩
   case rest =>
   obtain⟨y,aG,a6,aV,aH,a7,aW,b9,W,aY,T,K⟩:=hcut;rename World=>wx;rename (∀ (a:Act) (w:World),Code.wp _ _ _ a w->_)=>aX;refine aX _ _ ?_;clear aX cq bV;obtain⟨cH,-,lx⟩:=bx W;rw[b9.o]at aT;go_wp2_with (at_builtin;refine C7w rfl rfl underlying27 B2r J (K.alloc K.size _) (A0a (heap_alloc_new _ _)) (Dat.keep (A3x aY) (λg hg=>Below.heap_alloc _ _ _ (Dat.lt (A3x aY) g hg))) (T.below (Below.box _)) br bc ?_;intro g' bE di a4 _ _);rw[<-aT.o]at a4;go_wp2_with fail;go_roundg gk;case measure=>omega
   case rel=>exact⟨i+1,g',bE,bn,gN,rfl,a4⟩
  obtain rfl:i=3:=oM;clear a2 k2;go_wp2;go_ret;exact J.done
attribute [local simp] MP.slbox
theorem C1r:A4f 81:=λa w=>kR
def A2e (x:TRat):Bool:=x.2.isEmpty
theorem C3l (v:Value) (x:TRat) (b:List Nat) (w:World) (h:Agg w v x b):Calls prog 81 #[v] w (A0b w (.bool (A2e x))):=by
 have u:=A_ h;obtain⟨G,n1,I,O,H,n2,J,S,rfl,rfl,D,E⟩:=TRat.agg h;clear D E h;go_enter func81,ntmps81;go_wp2_with fail;refine(A2p _ x _ _ (Agg.below u Below.go)).mono ?_;rintro _ T ⟨rfl,K⟩;go_wp2;go_ret;exact⟨by unfold A2e;simp,Below.go⟩
theorem A5p (A:Option Addr) (n c:Nat) (xs:List TRat) (b:List Nat) (w:World) (u:Sl w A n c xs b) (h:xs.any A2e=false) :
  Calls prog 35 #[.slice A n c] w (A0b w (.slice A n c)):=by
 have E:=A_ u;have D:=A_ h;clear u h;go_enter func35,ntmps35;go_wp2_with fail;have C:=A7e 81 C1r A n c xs b w A2e E (λv x G w _ H=>C3l v x G w H);rw[D.o]at C;refine C.mono ?_;clear C;rintro _ J ⟨rfl,I⟩;go_wp2;go_ret;exact⟨rfl,I⟩
def A1e (es:List TEdge) (fs:List TRat) (t:Int):Nat->TRat
 |0=>U_ 0
 |k+1=>if (es.getD k A4o).left=t then A0k (A1e es fs t k) (fs.getD k A0h)else A1e es fs t k
def A1i (es:List TEdge) (fs:List TRat) (t:Int):Nat->TRat
 |0=>U_ 0
 |k+1=>if (es.getD k A4o).right=t then A0k (A1i es fs t k) (fs.getD k A0h)else A1i es fs t k
def D1y (es:List TEdge) (fs:List TRat) (t:Int):TRat:=A3t (A1e es fs t es.length) (A1i es fs t es.length)
theorem A0p {w:World} {g:Nat} {v0 v1 v2:Value} (b:Nat) (h:b≠g):(((w.setCell ⟨g,0,none⟩ v0).setCell ⟨g,1,none⟩ v1).setCell ⟨g,2,none⟩ v2).1[b]?=w.1[b]?:=A0m g [v0,v1,v2] w 0 b h
def RBox (w:World) (g:Nat) (x:TRat) (P1:Option Addr) (n1 m1:Nat) (P2:Option Addr) (n2 m2:Nat):Prop:=g<w.1.size/\(w.cell? ⟨g,0,none⟩=some (.bool x.1.1)/\w.cell? ⟨g,1,none⟩=some (.slice P1 n1 m1)/\w.cell? ⟨g,2,none⟩=some (.slice P2 n2 m2))/\(w.frozen? ⟨g,0,none⟩=false/\w.frozen? ⟨g,1,none⟩=false/\w.frozen? ⟨g,2,none⟩=false)
theorem RBox.keep {w w':World} {g:Nat} {x:TRat} {P1:Option Addr} {n1 m1:Nat} {P2:Option Addr} {n2 m2:Nat} (h:RBox w g x P1 n1 m1 P2 n2 m2) (b:w'.1[g]?=w.1[g]?) (K:w.1.size<=w'.1.size):RBox w' g x P1 n1 m1 P2 n2 m2:=by
 obtain⟨J,⟨u,D,E⟩,⟨G,H,I⟩⟩:=h;exact⟨oM,⟨(World.cell?_of_block b).trans u,(World.cell?_of_block b).trans D,(World.cell?_of_block b).trans E⟩,⟨(World.frozen?_of_block b).trans G,(World.frozen?_of_block b).trans H,(World.frozen?_of_block b).trans I⟩⟩
theorem RBox.below {w w':World} {g:Nat} {x:TRat} {P1:Option Addr} {n1 m1:Nat} {P2:Option Addr} {n2 m2:Nat} (h:RBox w g x P1 n1 m1 P2 n2 m2) (hb:Bw w w'):RBox w' g x P1 n1 m1 P2 n2 m2:=h.keep (hb.block g h.1) hb.size
theorem RBox.set {w:World} {g:Nat} {x y:TRat} {P1:Option Addr} {n1 m1:Nat} {P2:Option Addr} {n2 m2:Nat} {Q1:Option Addr} {k1 l1:Nat} {Q2:Option Addr} {k2 l2:Nat} (h:RBox w g x P1 n1 m1 P2 n2 m2) :
  RBox (((w.setCell ⟨g,0,none⟩ (.bool y.1.1)).setCell ⟨g,1,none⟩ (.slice Q1 k1 l1)).setCell ⟨g,2,none⟩ (.slice Q2 k2 l2)) g y Q1 k1 l1 Q2 k2 l2:=by
 obtain⟨b,⟨u,D,E⟩,⟨G,H,I⟩⟩:=h;exact⟨by simpa using b,⟨gS,gS,gS⟩,⟨gS,gS,gS⟩⟩

theorem E0m {w w':World} {A:Option Addr} {n c:Nat} {xs:List TRat} {G:List Nat} (h:Sl w A n c xs G) (u:Bw w w') {k:Nat} (K:k<n) :
  ∃ (b off:Nat) (x:TRat) (A1:Option Addr) (n1 c1:Nat) (A2:Option Addr) (n2 c2:Nat) (fs:List Nat),A=some ⟨b,off,none⟩/\b<w.1.size/\xs[k]?=some x/\w'.cell? ⟨b,off+k*3,none⟩=some (.bool x.1.1)/\w'.cell? ⟨b,off+k*3+1,none⟩=some (.slice A1 n1 c1)/\w'.cell? ⟨b,off+k*3+2,none⟩=some (.slice A2 n2 c2)/\Agg w' (.agg #[.bool x.1.1,.slice A1 n1 c1,.slice A2 n2 c2]) x fs/\∀ g∈fs,g<w.1.size:=by
 obtain⟨b,off,x,A1,n1,c1,S,A2,n2,c2,T,rfl,D,O,H,I,J,E⟩:=TRat.elemA h K;exact⟨b,off,x,A1,n1,c1,A2,n2,c2,S++T,rfl,D,O,(u.cell (p:=⟨b,_,none⟩) D).trans H,(u.cell (p:=⟨b,_,none⟩) D).trans I,(u.cell (p:=⟨b,_,none⟩) D).trans J,E.below u,E.lt⟩
structure OutSt (w U:World) (ga gb:Nat) (E:Option Addr) (nf cE:Nat) (es:List TEdge) (eb:List Nat) (lx:TRat) (P1:Option Addr) (p1 q1:Nat) (P2:Option Addr) (p2 q2:Nat) (rl:List Nat) (rx:TRat) (Q1:Option Addr) (k1 l1:Nat) (Q2:Option Addr) (k2 l2:Nat) (rr:List Nat):Prop where
 bl:Bw w U
 ra:RBox U ga lx P1 p1 q1 P2 p2 q2
 rb:RBox U gb rx Q1 k1 l1 Q2 k2 l2
 al:Agg U (.agg #[.bool lx.1.1,.slice P1 p1 q1,.slice P2 p2 q2]) lx rl
 ar:Agg U (.agg #[.bool rx.1.1,.slice Q1 k1 l1,.slice Q2 k2 l2]) rx rr
 dl:∀ b∈rl,b≠ga/\b≠gb
 dr:∀ b∈rr,b≠ga/\b≠gb
 se:Sl U E nf cE es eb
 de:∀ b∈eb,b≠ga/\b≠gb
 res:U.1[w.1.size+1]?=some (.cells #[.bool false,.slice none 0 0,.slice none 0 0] 35)
 na:w.1.size+2<=ga
 nb:w.1.size+2<=gb
 ne:ga≠gb
theorem OutSt.below {w U U':World} {ga gb:Nat} {E:Option Addr} {nf cE:Nat} {es:List TEdge} {eb:List Nat} {lx:TRat} {P1:Option Addr} {p1 q1:Nat} {P2:Option Addr} {p2 q2:Nat} {rl:List Nat} {rx:TRat} {Q1:Option Addr} {k1 l1:Nat} {Q2:Option Addr} {k2 l2:Nat} {rr:List Nat}
  (h:OutSt w U ga gb E nf cE es eb lx P1 p1 q1 P2 p2 q2 rl rx Q1 k1 l1 Q2 k2 l2 rr) (hb:Bw U U'):OutSt w U' ga gb E nf cE es eb lx P1 p1 q1 P2 p2 q2 rl rx Q1 k1 l1 Q2 k2 l2 rr :=
 ⟨Below.next h.bl hb,h.ra.below hb,h.rb.below hb,h.al.below hb,h.ar.below hb,h.dl,h.dr,h.se.below hb,h.de,O_ h.res hb,h.na,h.nb,h.ne⟩
theorem OutSt.setL {w U:World} {ga gb:Nat} {E:Option Addr} {J G:Nat} {es:List TEdge} {H:List Nat} {lx:TRat} {P1:Option Addr} {p1 q1:Nat} {P2:Option Addr} {p2 q2:Nat} {rl:List Nat} {rx:TRat} {Q1:Option Addr} {k1 l1:Nat} {Q2:Option Addr} {k2 l2:Nat} {rr:List Nat}
  (h:OutSt w U ga gb E J G es H lx P1 p1 q1 P2 p2 q2 rl rx Q1 k1 l1 Q2 k2 l2 rr) {y:TRat} {O1:Option Addr} {o1 u1:Nat} {O2:Option Addr} {o2 u2:Nat} {ry:List Nat}
  (K:Agg U (.agg #[.bool y.1.1,.slice O1 o1 u1,.slice O2 o2 u2]) y ry) (I:∀ b∈ry,b≠ga/\b≠gb) :
  OutSt w (((U.setCell ⟨ga,0,none⟩ (.bool y.1.1)).setCell ⟨ga,1,none⟩ (.slice O1 o1 u1)).setCell ⟨ga,2,none⟩ (.slice O2 o2 u2)) ga gb E J G es H y O1 o1 u1 O2 o2 u2 ry rx Q1 k1 l1 Q2 k2 l2 rr:=by
 have D:w.1.size<=ga:=by have:=h.na;omega
 exact⟨((h.bl.setCell (p:=⟨ga,0,none⟩) D _).setCell (p:=⟨ga,1,none⟩) D _).setCell (p:=⟨ga,2,none⟩) D _,h.ra.set,h.rb.keep (A0p gb h.ne.symm) sI,K.keep (λb u=>A0p b (I b u).1),h.ar.keep (λb u=>A0p b (h.dr b u).1),I,h.dr,h.se.keep (λb u=>A0p b (h.de b u).1),h.de,(A0p _ (by have:=h.na;omega)).trans h.res,h.na,h.nb,h.ne⟩
theorem OutSt.setR {w U:World} {ga gb:Nat} {E:Option Addr} {J G:Nat} {es:List TEdge} {H:List Nat} {lx:TRat} {P1:Option Addr} {p1 q1:Nat} {P2:Option Addr} {p2 q2:Nat} {rl:List Nat} {rx:TRat} {Q1:Option Addr} {k1 l1:Nat} {Q2:Option Addr} {k2 l2:Nat} {rr:List Nat}
  (h:OutSt w U ga gb E J G es H lx P1 p1 q1 P2 p2 q2 rl rx Q1 k1 l1 Q2 k2 l2 rr) {y:TRat} {O1:Option Addr} {o1 u1:Nat} {O2:Option Addr} {o2 u2:Nat} {ry:List Nat}
  (K:Agg U (.agg #[.bool y.1.1,.slice O1 o1 u1,.slice O2 o2 u2]) y ry) (I:∀ b∈ry,b≠ga/\b≠gb) :
  OutSt w (((U.setCell ⟨gb,0,none⟩ (.bool y.1.1)).setCell ⟨gb,1,none⟩ (.slice O1 o1 u1)).setCell ⟨gb,2,none⟩ (.slice O2 o2 u2)) ga gb E J G es H lx P1 p1 q1 P2 p2 q2 rl y O1 o1 u1 O2 o2 u2 ry:=by
 have D:w.1.size<=gb:=by have:=h.nb;omega
 exact⟨((h.bl.setCell (p:=⟨gb,0,none⟩) D _).setCell (p:=⟨gb,1,none⟩) D _).setCell (p:=⟨gb,2,none⟩) D _,h.ra.keep (A0p ga h.ne) sI,h.rb.set,h.al.keep (λb u=>A0p b (h.dl b u).2),K.keep (λb u=>A0p b (I b u).2),h.dl,I,h.se.keep (λb u=>A0p b (h.de b u).2),h.de,(A0p _ (by have:=h.nb;omega)).trans h.res,h.na,h.nb,h.ne⟩

theorem D1a (v:Value) (m:TMesh) (b:List Nat) (B:Option Addr) (K d:Nat) (u:List TRat) (cG:List Nat) (t:Nat) (w:World) (bs:Agg w v m b) (bZ:m.triangles.length<=48) (a5:Sl w B K d u cG) (bY:u.length=(P_ m.triangles).length) :
  Calls prog 161 #[v,.slice B K d,.int .i64 t] w (A0c w (D1y (P_ m.triangles) u t)):=by
 have cw:=A_ bs;have cm:=A_ a5;have co:=A_ bZ;obtain⟨bA,cd,bO,dG,bB,n1,bP,dH,rfl,rfl,c0,c1⟩:=TMesh.agg bs;have aY:=A_ (by rw[<-bY,a5.1]:(P_ m.triangles).length=K);obtain⟨h,a4⟩:∃ h,P_ m.triangles=h:=⟨_,rfl⟩
 rw[a4]at aY ⊢;have ck:=A_ a4;have db:=A_ a5.1;have dt:K<=144:=by rw[<-aY.o,<-a4];unfold P_;have:=A5z m.triangles m.triangles.length;omega
 have du:(K:Int)<=144:=oM;clear c0 c1 bs bZ a5 bY a4;go_enter func161,ntmps161;go_wp2_with fail;refine(A0l 0 _ cD).mono ?_;rintro _ wa ⟨dJ,bz,rfl,bm,b0,ak⟩;obtain⟨P1,p1,q1,bQ,P2,p2,q2,bR,rfl,c2,_,_⟩:=TRat.agg bm;have bE:=A_ bm;have dc:=A_ b0;clear bm b0 c2;obtain⟨cQ,cU⟩:=F_ ak;have dw:w.1.size<wa.1.size:=ltg ak;have dy:w.1.size+1<wa.1.size:=ltg ak;have ci:=A_ (show Bw w wa from Below.go);have cp:=A_ (show wa.1[w.1.size+1]?=some (.cells #[.bool false,.slice none 0 0,.slice none 0 0] 35)from by refine(ak.block _ sI).trans ?_;have:=heap_alloc_new (w.alloc (.cells #[.slice bA cd bO,.slice bB n1 bP] 26)) (.cells #[.bool false,.slice none 0 0,.slice none 0 0] 35);rw[World.size_alloc]at this;exact this);have c6:wa.cell? ⟨w.1.size,0,none⟩=some (.slice bA cd bO):=gS;have m1:wa.cell? ⟨w.1.size,1,none⟩=some (.slice bB n1 bP):=gS;clear cQ cU;go_wp2_with fail;refine(A0l 0 wa cD).mono ?_;rintro _ wb ⟨dL,sb,rfl,bn,b3,ay⟩;obtain⟨Q1,k1,l1,bS,Q2,k2,l2,dg,rfl,c4,_,_⟩:=TRat.agg bn;have bF:=A_ bn;have dd:=A_ b3;have H:=A_ (Below.next ci ay);have cq:=A_ (O_ cp ay);obtain⟨cR,cV⟩:=F_ ay;have ch:=A_ (bE.below ay);have dv:=ay.size;have dx:w.1.size<wb.1.size:=oM;have dz:w.1.size+2<=wb.1.size:=by have:=ak.size;simp at this;omega
 have cs:=A_ (show ∀ b∈bz,b<wb.1.size from λb E=>by have:=bE.lt b E;omega);have ct:=A_ (show ∀ b∈sb,b<wb.1.size from λb E=>bF.lt b E);clear bn b3 c4 ay ak;have cz:=A_ (show RBox ((wb.alloc (.cells #[.bool (U_ 0).1.1,.slice P1 p1 q1,.slice P2 p2 q2] 35)).alloc (.cells #[.bool (U_ 0).1.1,.slice Q1 k1 l1,.slice Q2 k2 l2] 35)) wb.1.size (U_ 0) P1 p1 q1 P2 p2 q2 from⟨sO,⟨gS,gS,gS⟩,⟨gS,gS,gS⟩⟩);have cB:=A_ (show RBox ((wb.alloc (.cells #[.bool (U_ 0).1.1,.slice P1 p1 q1,.slice P2 p2 q2] 35)).alloc (.cells #[.bool (U_ 0).1.1,.slice Q1 k1 l1,.slice Q2 k2 l2] 35)) (wb.1.size+1) (U_ 0) Q1 k1 l1 Q2 k2 l2 from⟨sI,⟨gS,gS,gS⟩,⟨gS,gS,gS⟩⟩);obtain⟨aU,aM⟩:∃ W,(wb.alloc (.cells #[.bool (U_ 0).1.1,.slice P1 p1 q1,.slice P2 p2 q2] 35)).alloc (.cells #[.bool (U_ 0).1.1,.slice Q1 k1 l1,.slice Q2 k2 l2] 35)=W:=⟨_,rfl⟩
 have aZ:=A_ (by rw[<-aM];exact(Below.box _).alloc sI _:Bw wb aU);have bG:=A_ (Below.next H aZ);have cA:=A_ (by rw[<-aM];exact cz:RBox aU wb.1.size (U_ 0) P1 p1 q1 P2 p2 q2);have cE:=A_ (by rw[<-aM];exact cB:RBox aU (wb.1.size+1) (U_ 0) Q1 k1 l1 Q2 k2 l2);have cu:=A_ (by rw[<-aM];simp:aU.1.size=wb.1.size+1+1);have cv:=A_ aM;clear aM;go_wp2_with fail;rw[cv.o];refine(A7q _ m _ aU (cw.below bG) co).mono ?_;rintro _ c9 ⟨bD,c7,aJ,aK,rfl,bc,b4,ax⟩;rw[ck.o]at bc;obtain rfl:K=c7:=by rw[<-aY.o];exact bc.1
 have bM:=A_ (show OutSt w c9 wb.1.size (wb.1.size+1) bD K aJ h aK (A1e h u t 0) P1 p1 q1 P2 p2 q2 bz (A1i h u t 0) Q1 k1 l1 Q2 k2 l2 sb from
  ⟨Below.next bG ax,cA.below ax,cE.below ax,(ch.below aZ).below ax,(bF.below aZ).below ax,λb E=>by have:=cs b E;omega,λb E=>by have:=ct.o b E;omega,bc,λb E=>by have:=(b4.2 b E).1;have:=cu.o;omega,O_ (O_ cq.o aZ.o) ax,oM,oM,oM⟩)
 clear bc b4 ax c6 m1 cR cV;generalize cX:wb.1.size=ga at *;generalize cY:ga+1=gb at *;clear cX cY;go_wp2_with fail;go_loopg [16] K (λg s wr=>∃ (k:Nat) (P1:Option Addr) (p1 q1:Nat) (P2:Option Addr) (p2 q2:Nat) (rl:List Nat) (Q1:Option Addr) (k1 l1:Nat) (Q2:Option Addr) (k2 l2:Nat) (rr:List Nat),k+g=K/\s=.int .i64 k/\Hid (OutSt w wr ga gb bD K aJ h aK (A1e h u t k) P1 p1 q1 P2 p2 q2 rl (A1i h u t k) Q1 k1 l1 Q2 k2 l2 rr));case atStart=>exact⟨0,P1,p1,q1,P2,p2,q2,bz,Q1,k1,l1,Q2,k2,l2,sb,oM,rfl,bM.o⟩
 case round =>
  clear bM;obtain⟨k,P1,p1,q1,P2,p2,q2,rl,Q1,k1,l1,Q2,k2,l2,rr,bX,rfl,O⟩:=hrel;have dp:=O.ra.1;have dq:=O.rb.1;rcases Nat.lt_or_ge k K with aL|aL
  ·have cZ:(k:Int)<K:=oM
   have ds:(0:Int)<=k:=oM;have dr:k+1<=K:=aL;obtain⟨g,rfl⟩:∃ g,gk=g+1:=⟨gk - 1,oM⟩
   have ba:=A_ (by omega:k+1+g=K);obtain⟨df,dD,x,cL,dj,b6,cH,bQ,bR,bS,cO⟩:=TEdge.elemA O.se aL;obtain⟨I,aQ,r,bi,bt,bk,bj,bu,bl,bT,cM,dk,b5,cI,cJ,cK,bV,cW⟩:=E0m cm O.bl aL;subst cL;subst cM;have cn:=A_ cW;have bH:=A_ bV;have ao:=A_ (by rw[List.getD_eq_getElem?_getD,b6];rfl:h.getD k A4o=x);have a1:=A_ (by rw[List.getD_eq_getElem?_getD,b5];rfl:u.getD k A0h=r);have J:=A_ (O.below (Below.box (.cells #[.int .i64 x.a,.int .i64 x.b,.int .i64 x.left,.int .i64 x.right] 70)));have de:(wr.alloc (.cells #[.int .i64 x.a,.int .i64 x.b,.int .i64 x.left,.int .i64 x.right] 70)).cell? ⟨wr.1.size,2,none⟩=some (.int .i64 x.left):=gS;have al:(wr.alloc (.cells #[.int .i64 x.a,.int .i64 x.b,.int .i64 x.left,.int .i64 x.right] 70)).cell? ⟨wr.1.size,3,none⟩=some (.int .i64 x.right):=gS;have am:wr.1.size<(wr.alloc (.cells #[.int .i64 x.a,.int .i64 x.b,.int .i64 x.left,.int .i64 x.right] 70)).1.size:=sI;have cN:wr.1.size≠ga:=oM;have di:I<wr.1.size:=by have:=O.bl.size;omega
   have bK:=A_ O.na;have bL:=A_ O.nb;have ak:I≠ga:=by have:=bK.o;omega
   have ay:I≠gb:=by have:=bL.o;omega
   have cg:=A_ (show ∀ b∈bT,b≠ga/\b≠gb from λb E=>by have:=cn b E;have:=bK.o;have:=bL.o;omega);have dh:wr.1.size≠gb:=oM;obtain⟨aN,aO,aP⟩:(wr.alloc (.cells #[.int .i64 x.a,.int .i64 x.b,.int .i64 x.left,.int .i64 x.right] 70)).cell? ⟨I,aQ+k*3,none⟩=some (.bool r.1.1)/\(wr.alloc (.cells #[.int .i64 x.a,.int .i64 x.b,.int .i64 x.left,.int .i64 x.right] 70)).cell? ⟨I,aQ+k*3+1,none⟩=some (.slice bi bt bk)/\(wr.alloc (.cells #[.int .i64 x.a,.int .i64 x.b,.int .i64 x.left,.int .i64 x.right] 70)).cell? ⟨I,aQ+k*3+2,none⟩=some (.slice bj bu bl):=⟨gS,gS,gS⟩
   have ap:I<(wr.alloc (.cells #[.int .i64 x.a,.int .i64 x.b,.int .i64 x.left,.int .i64 x.right] 70)).1.size:=sO;have ah:=A_ (bH.below (Below.box (.cells #[.int .i64 x.a,.int .i64 x.b,.int .i64 x.left,.int .i64 x.right] 70)));clear bX aL b6 b5 cO bV O;go_upto_region 5 with fail;clear cH bQ bR bS cI cJ cK bH;generalize wr.alloc (.cells #[.int .i64 x.a,.int .i64 x.b,.int .i64 x.left,.int .i64 x.right] 70)=U at *;generalize wr.1.size=ae at *;by_cases aj:x.left=(t:Int)
   ·by_cases af:x.right=(t:Int)
    ·skip
     have ar:=A_ (by rw[A1e,ao.o,if_pos aj,a1.o]:A1e h u t (k+1)=A0k (A1e h u t k) r);have aS:(x.left==(t:Int))=true:=by simp[aj]
     have au:=A_ (by rw[A1i,ao.o,if_pos af,a1.o]:A1i h u t (k+1)=A0k (A1i h u t k) r);have aT:(x.right==(t:Int))=true:=by simp[af]
     clear aj af;go_wp2_with fail;obtain⟨a6,⟨u0,u1,u2⟩,⟨aq,v1,v2⟩⟩:=J.ra;refine X_ sI ?_;dsimp only[List.dropLast,List.getLast,List.length];iterate 5 refine C_ _ ?_
     refine D_ (MP.agg (A0k (A1e h u t k) r)) ?_ ?_;·intro aI X aG T G;obtain⟨bp,bq⟩:=F_ T;simp at G;refine G_ ?_;exact H_ (A0x _ _ (A1e h u t k) r _ _ aG (J.al.below Below.go) (ah.below Below.go))
     intro aI X wb T G (az:Hid _);simp at G;have aF:=G.2.2.2.2.2;obtain⟨⟨D,aA⟩,ag⟩:=aF;rw[<-ar.o]at D;obtain⟨Y,ac,aa,bd,Z,ad,ab,be,aH,aE,_,_⟩:=TRat.agg D;rw[aH]at D;have H:=A_ (show Bw U wb from Below.go);have an:=A_ D;have aD:=H.size;have aB:=J.ra.1;have aC:=J.rb.1;have aw:=A_ (show ∀ b∈X 5,b≠ga/\b≠gb from λb E=>by have:=(ag b E).1;(try simp at this);omega);have S:=A_ (J.below H);have ai:=A_ (S.setL an aw);obtain⟨_,⟨aV,aW,aX⟩,⟨bf,bg,bh⟩⟩:=S.ra;have aR:=(H.cell (p:=⟨ae,3,none⟩) am).trans al;have a2:ae<wb.1.size:=oM;have a8:ga<wb.1.size:=oM;have a9:gb<wb.1.size:=oM;have b7:=(H.cell (p:=⟨I,_,none⟩) ap).trans aN;have b9:=(H.cell (p:=⟨I,_,none⟩) ap).trans aO;have cb:=(H.cell (p:=⟨I,_,none⟩) ap).trans aP;have cP:I<wb.1.size:=oM;have bI:=A_ (ah.below H);generalize X 5=bv at *;clear G az aA ag aE D T u0 u1 u2 aq v1 v2 al aN aO aP am ap ah J aD aB aC a6 S;go_wp2_with fail;have bN:(((wb.setCell ⟨ga,0,none⟩ (.bool (A1e h u t (k+1)).1.1)).setCell ⟨ga,1,none⟩ (.slice Y ac aa)).setCell ⟨ga,2,none⟩ (.slice Z ad ab)).cell? ⟨ae,3,none⟩=some (.int .i64 x.right):=(World.cell?_of_block (a:=⟨ae,3,none⟩) (A0p ae cN)).trans aR;have b8:(((wb.setCell ⟨ga,0,none⟩ (.bool (A1e h u t (k+1)).1.1)).setCell ⟨ga,1,none⟩ (.slice Y ac aa)).setCell ⟨ga,2,none⟩ (.slice Z ad ab)).cell? ⟨I,aQ+k*3,none⟩=some (.bool r.1.1):=(World.cell?_of_block (a:=⟨I,_,none⟩) (A0p I ak)).trans b7;have ca:(((wb.setCell ⟨ga,0,none⟩ (.bool (A1e h u t (k+1)).1.1)).setCell ⟨ga,1,none⟩ (.slice Y ac aa)).setCell ⟨ga,2,none⟩ (.slice Z ad ab)).cell? ⟨I,aQ+k*3+1,none⟩=some (.slice bi bt bk):=(World.cell?_of_block (a:=⟨I,_,none⟩) (A0p I ak)).trans b9;have cc:(((wb.setCell ⟨ga,0,none⟩ (.bool (A1e h u t (k+1)).1.1)).setCell ⟨ga,1,none⟩ (.slice Y ac aa)).setCell ⟨ga,2,none⟩ (.slice Z ad ab)).cell? ⟨I,aQ+k*3+2,none⟩=some (.slice bj bu bl):=(World.cell?_of_block (a:=⟨I,_,none⟩) (A0p I ak)).trans cb;have bJ:=A_ (show Agg (((wb.setCell ⟨ga,0,none⟩ (.bool (A1e h u t (k+1)).1.1)).setCell ⟨ga,1,none⟩ (.slice Y ac aa)).setCell ⟨ga,2,none⟩ (.slice Z ad ab)) (.agg #[.bool r.1.1,.slice bi bt bk,.slice bj bu bl]) r bT from bI.keep (λb E=>A0p b (cg b E).1));have bU:ae<(((wb.setCell ⟨ga,0,none⟩ (.bool (A1e h u t (k+1)).1.1)).setCell ⟨ga,1,none⟩ (.slice Y ac aa)).setCell ⟨ga,2,none⟩ (.slice Z ad ab)).1.size:=sO;have bW:I<(((wb.setCell ⟨ga,0,none⟩ (.bool (A1e h u t (k+1)).1.1)).setCell ⟨ga,1,none⟩ (.slice Y ac aa)).setCell ⟨ga,2,none⟩ (.slice Z ad ab)).1.size:=sO;clear aR b7 b9 cb bI a2 cP a8 a9 aV aW aX bf bg bh an H;generalize (((wb.setCell ⟨ga,0,none⟩ (.bool (A1e h u t (k+1)).1.1)).setCell ⟨ga,1,none⟩ (.slice Y ac aa)).setCell ⟨ga,2,none⟩ (.slice Z ad ab))=V at *;have al:=bN;have aN:=b8;have aO:=ca;have aP:=cc;have ah:=bJ;have am:=bU;have ap:=bW;clear bN b8 ca cc bJ bU bW;obtain⟨a7,⟨u0,u1,u2⟩,⟨aq,v1,v2⟩⟩:=ai.rb;refine X_ sI ?_;dsimp only[List.dropLast,List.getLast,List.length];iterate 5 refine C_ _ ?_
     refine D_ (MP.agg (A0k (A1i h u t k) r)) ?_ ?_;·intro aI X aG T G;obtain⟨bp,bq⟩:=F_ T;simp at G;refine G_ ?_;exact H_ (A0x _ _ (A1i h u t k) r _ _ aG (ai.ar.below Below.go) (ah.below Below.go))
     intro aI X wb T G (az:Hid _);simp at G;have aF:=G.2.2.2.2.2;obtain⟨⟨D,aA⟩,ag⟩:=aF;rw[<-au.o]at D;obtain⟨Y,ac,aa,bd,Z,ad,ab,be,aH,aE,_,_⟩:=TRat.agg D;rw[aH]at D;have H:=A_ (show Bw V wb from Below.go);have an:=A_ D;have aD:=H.size;have aB:=ai.ra.1;have aC:=ai.rb.1;have aw:=A_ (show ∀ b∈X 5,b≠ga/\b≠gb from λb E=>by have:=(ag b E).1;(try simp at this);omega);have S:=A_ (ai.below H);have cF:=A_ (S.setR an aw);obtain⟨_,⟨aV,aW,aX⟩,⟨bf,bg,bh⟩⟩:=S.rb;have aR:=(H.cell (p:=⟨ae,3,none⟩) am).trans al;have a2:ae<wb.1.size:=oM;have a8:ga<wb.1.size:=oM;have a9:gb<wb.1.size:=oM;generalize X 5=bv at *;clear G az aA ag aE D T u0 u1 u2 aq v1 v2 al aN aO aP am ap ah ai aD aB aC a7 S;go_wp2_with fail;go_roundg g;case measure=>omega
     case rel=>exact⟨k+1,_,_,_,_,_,_,_,_,_,_,_,_,_,_,ba,gN,(show OutSt w _ ga gb _ K aJ h aK (A1e h u t (k+1)) _ _ _ _ _ _ _ (A1i h u t (k+1)) _ _ _ _ _ _ _ from cF)⟩
    skip;have ar:=A_ (by rw[A1e,ao.o,if_pos aj,a1.o]:A1e h u t (k+1)=A0k (A1e h u t k) r);have aS:(x.left==(t:Int))=true:=by simp[aj]
    have au:=A_ (by rw[A1i,ao.o,if_neg af]:A1i h u t (k+1)=A1i h u t k);have aT:(x.right==(t:Int))=false:=by simp[af]
    clear aj aT;go_wp2_with fail;obtain⟨a6,⟨u0,u1,u2⟩,⟨aq,v1,v2⟩⟩:=J.ra;refine X_ sI ?_;dsimp only[List.dropLast,List.getLast,List.length];iterate 5 refine C_ _ ?_
    refine D_ (MP.agg (A0k (A1e h u t k) r)) ?_ ?_;·intro aI X aG T G;obtain⟨bp,bq⟩:=F_ T;simp at G;refine G_ ?_;exact H_ (A0x _ _ (A1e h u t k) r _ _ aG (J.al.below Below.go) (ah.below Below.go))
    intro aI X wb T G (az:Hid _);simp at G;have aF:=G.2.2.2.2.2;obtain⟨⟨D,aA⟩,ag⟩:=aF;rw[<-ar.o]at D;obtain⟨Y,ac,aa,bd,Z,ad,ab,be,aH,aE,_,_⟩:=TRat.agg D;rw[aH]at D;have H:=A_ (show Bw U wb from Below.go);have an:=A_ D;have aD:=H.size;have aB:=J.ra.1;have aC:=J.rb.1;have aw:=A_ (show ∀ b∈X 5,b≠ga/\b≠gb from λb E=>by have:=(ag b E).1;(try simp at this);omega);have S:=A_ (J.below H);have ai:=A_ (S.setL an aw);obtain⟨_,⟨aV,aW,aX⟩,⟨bf,bg,bh⟩⟩:=S.ra;have aR:=(H.cell (p:=⟨ae,3,none⟩) am).trans al;have a2:ae<wb.1.size:=oM;have a8:ga<wb.1.size:=oM;have a9:gb<wb.1.size:=oM;generalize X 5=bv at *;clear G az aA ag aE D T u0 u1 u2 aq v1 v2 al aN aO aP am ap ah J aD aB aC a6 S;go_wp2_with fail;go_roundg g;case measure=>omega
    case rel=>exact⟨k+1,_,_,_,_,_,_,_,_,_,_,_,_,_,_,ba.o,gN,(show OutSt w _ ga gb _ K aJ h aK (A1e h u t (k+1)) _ _ _ _ _ _ _ (A1i h u t (k+1)) _ _ _ _ _ _ _ from by rw[au.o];exact ai)⟩
   by_cases af:x.right=(t:Int)
   ·skip
    have ar:=A_ (by rw[A1e,ao.o,if_neg aj]:A1e h u t (k+1)=A1e h u t k);have aS:(x.left==(t:Int))=false:=by simp[aj]
    have au:=A_ (by rw[A1i,ao.o,if_pos af,a1.o]:A1i h u t (k+1)=A0k (A1i h u t k) r);have aT:(x.right==(t:Int))=true:=by simp[af]
    clear aS af;go_wp2_with fail;obtain⟨a7,⟨u0,u1,u2⟩,⟨aq,v1,v2⟩⟩:=J.rb;refine X_ sI ?_;dsimp only[List.dropLast,List.getLast,List.length];iterate 5 refine C_ _ ?_
    refine D_ (MP.agg (A0k (A1i h u t k) r)) ?_ ?_;·intro aI X aG T G;obtain⟨bp,bq⟩:=F_ T;simp at G;refine G_ ?_;exact H_ (A0x _ _ (A1i h u t k) r _ _ aG (J.ar.below Below.go) (ah.below Below.go))
    intro aI X wb T G (az:Hid _);simp at G;have aF:=G.2.2.2.2.2;obtain⟨⟨D,aA⟩,ag⟩:=aF;rw[<-au.o]at D;obtain⟨Y,ac,aa,bd,Z,ad,ab,be,aH,aE,_,_⟩:=TRat.agg D;rw[aH]at D;have H:=A_ (show Bw U wb from Below.go);have an:=A_ D;have aD:=H.size;have aB:=J.ra.1;have aC:=J.rb.1;have aw:=A_ (show ∀ b∈X 5,b≠ga/\b≠gb from λb E=>by have:=(ag b E).1;(try simp at this);omega);have S:=A_ (J.below H);have ai:=A_ (S.setR an aw);obtain⟨_,⟨aV,aW,aX⟩,⟨bf,bg,bh⟩⟩:=S.rb;have aR:=(H.cell (p:=⟨ae,3,none⟩) am).trans al;have a2:ae<wb.1.size:=oM;have a8:ga<wb.1.size:=oM;have a9:gb<wb.1.size:=oM;generalize X 5=bv at *;clear G az aA ag aE D T u0 u1 u2 aq v1 v2 al aN aO aP am ap ah J aD aB aC a7 S;go_wp2_with fail;go_roundg g;case measure=>omega
    case rel=>exact⟨k+1,_,_,_,_,_,_,_,_,_,_,_,_,_,_,ba.o,gN,(show OutSt w _ ga gb _ K aJ h aK (A1e h u t (k+1)) _ _ _ _ _ _ _ (A1i h u t (k+1)) _ _ _ _ _ _ _ from by rw[ar.o];exact ai)⟩
   skip;have ar:=A_ (by rw[A1e,ao.o,if_neg aj]:A1e h u t (k+1)=A1e h u t k);have aS:(x.left==(t:Int))=false:=by simp[aj]
   have au:=A_ (by rw[A1i,ao.o,if_neg af]:A1i h u t (k+1)=A1i h u t k);have aT:(x.right==(t:Int))=false:=by simp[af]
   clear aS aT;go_wp2_with fail;go_roundg g;case measure=>omega
   case rel=>exact⟨k+1,_,_,_,_,_,_,_,_,_,_,_,_,_,_,ba.o,gN,(show OutSt w _ ga gb _ K aJ h aK (A1e h u t (k+1)) _ _ _ _ _ _ _ (A1i h u t (k+1)) _ _ _ _ _ _ _ from by rw[ar.o,au.o];exact J)⟩
  obtain rfl:k=K:=oM;have cZ:¬ ((k:Int)<k):=oM;have cf:=A_ (by unfold D1y;rw[aY.o]:A3t (A1e h u t k) (A1i h u t k)=D1y h u t);obtain⟨a6,⟨u0,u1,u2⟩,⟨aq,v1,v2⟩⟩:=O.ra;obtain⟨a7,⟨aV,aW,aX⟩,⟨dM,dN,dO⟩⟩:=O.rb;obtain⟨r0,dF,dB⟩:=bx O.res;have cj:=A_ O.bl;clear bX aL;go_wp2_with fail;refine(A5b _ _ (A1e h u t k) (A1i h u t k) _ _ wr O.al O.ar).mono ?_;rintro _ da ⟨dI,c8,rfl,a3,br,bo⟩;rw[cf.o]at a3;obtain⟨Y,ac,aa,bd,Z,ad,ab,be,rfl,c5,_,_⟩:=TRat.agg a3;have ce:=A_ a3;have cx:=A_ br;obtain⟨dm,dn⟩:=F_ bo;have dA:w.1.size+1<da.1.size:=by have:=bo.size;omega
  have cy:=A_ (show ∀ b∈c8,w.1.size+2<=b from λb E=>by have:=(br.2 b E).1;omega);have dl:=Below.next cj bo;clear a3 br c5 O;go_wp2;refine bodyPost_ret (v:=.agg #[.bool (D1y h u t).1.1,.slice Y ac aa,.slice Z ad ab]) (by simp[results,results161,go_sem, *]) rfl ?_;refine A1s (lo:=w.1.size+2) ce.o cx.o.free cy.o oM ?_ ?_;·exact Above.go
  exact Below.go
end Go.Proofs.YtbhemnidcleaiaaGreat.X
