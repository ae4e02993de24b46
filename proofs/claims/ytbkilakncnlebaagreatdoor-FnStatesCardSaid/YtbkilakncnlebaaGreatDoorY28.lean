/- A part of the proof. -/
import Derived.Test.YtbkilakncnlebaaGreatDoorY27
import Derived.Great.BuildSlice
set_option linter.constructorNameAsVariable false
set_option maxHeartbeats 16000000
set_option maxRecDepth 10000
open Bool renaming false→AF,true→AD
open Go renaming Addr→AH,Value→AJ,World→J,bodyPost_ret→BI,heap_alloc_new→CF,maxLen→BG,results→BO
open Go.Obj renaming cells→AK
open Go.RowKit.Below renaming heap_setCell→DQ,refl→CG
open Go.Value renaming agg→AM,bool→AC,int→QS,slice→S
open Go.World renaming size_alloc→EW
open Go.XB.Below renaming box→AV,next→AI
open Go.XB.TRat renaming agg→BK
open List renaming drop_succ_cons→GG,drop_zero→EH,getElem?_append_right→JO,getElem?_eq_none→LV,getElem?_map→IE,length_map→KU,length_take→GH,map_nil→LJ,mem_map→FM,mem_of_getElem?→CH,size_toArray→MA,take_succ_cons→GE,take_zero→ET
open Nat renaming le_refl→BH,lt_or_ge→BN
open Option renaming none→I,some→QL
namespace Go.Proofs.YtbkilakncnlebaaGreatDoor.X
open Go.RowKit Go.XB Go.XN
theorem D4d:∀ (vs us b:List AJ) (i:Nat),i=b.length->us.length=vs.length->(vs.zipIdx i).foldl (fun(cs:Array AJ) (x:AJ×Nat)=>cs.setIfInBounds (0+x.2) x.1) (b++us).toArray=(b++vs).toArray
 | [],us,b,i,_,hl=>by
  obtain rfl:us=[]:=List.eq_nil_of_length_eq_zero hl
  rfl
 |v::vs,[],b,i,_,hl=>by simp at hl
 |v::vs,u::us,b,i,hi,hl=>by
  rw[List.zipIdx_cons,List.foldl_cons]
  have e:(b++u::us).toArray.setIfInBounds (0+i) v=((b++[v])++us).toArray:=by
   subst hi;simp
  simp only[e]
  rw[D4d vs us (b++[v]) (i+1) (by simp[hi]) (by simpa using hl)]
  simp
theorem A5l {n:Nat} {L:List AJ} (u:L.length=n) {cells:Array AJ} (h:cells.size=n):Instr.fill (λi=>QL (i*n,n)) cells [(0,AM L.toArray)]=QL L.toArray:=by
 have b:=D4d L cells.toList [] 0 rfl (by simp[h,u]);simp only[List.nil_append]at b;unfold Instr.fill;simp only[Nat.zero_mul,Value.cells,MA,u,h];rw[if_neg sI];unfold Instr.fill;rw[<-Array.foldl_toList];simp only[Array.toList_zipIdx]at *;exact congrArg QL (by simpa using b)
end Go.Proofs.YtbkilakncnlebaaGreatDoor.X
namespace Go
open Go.RowKit Go.XB Go.Proofs.YtbkilakncnlebaaGreatDoor.X
theorem D3u {P:Program} {D:Array Oper} {rest:List Oper} {o:Oper} {a:Act} {w:J} {Q:Exit->Act->J->Prop} (E:o.guard=I) (t e:TypeId) (x:Operand) (H:o.op=.buildSlice t 1 #[(0,x)])
  (L:List AJ) (b:TypeInfo) (z:AJ) (O:P.underlying t=QL (.slice e)) (G:P.info? e=QL b) (W:b.zero=QL z) (u:b.size=L.length) (X:0<L.length) (Y:L.length<=1000)
  (T:a.eval x=AM L.toArray)
  (h:wpList P D Q rest (a.put o.dst (S (QL ⟨w.1.size,0,I⟩) 1 1)) (w.alloc (AK L.toArray e))):wpList P D Q (o::rest) a w:=by
 refine wpList_buildSlice E t e 1 _ H _ b z O G W (by rw[u];omega) (by rw[u];omega) ?_ h;rw[u];simp only[List.map_toArray,List.map_cons,LJ,T];exact A5l rfl sI
end Go

namespace Go.Proofs.YtbkilakncnlebaaGreatDoor.X
open Go.RowKit Go.XB Go.XN Proofs.Tryz
theorem E7z:(prog.info? 293).map (λi=>(i.zero,i.size,i.bytes))=QL (QL (AM (S I 0 0::AC AF::S I 0 0::S I 0 0::AC AF::S I 0 0::S I 0 0::AC AF::S I 0 0::S I 0 0::AC AF::S I 0 0::S I 0 0::AC AF::S I 0 0::S I 0 0::AC AF::S I 0 0::S I 0 0::AC AF::S I 0 0::S I 0 0::AC AF::S I 0 0::S I 0 0::AC AF::S I 0 0::S I 0 0::AC AF::S I 0 0::S I 0 0::AC AF::S I 0 0::S I 0 0::[]).toArray),34,640):=kR
attribute [local go_sem] L_ Go.XB.opAt N_ M_ Region.wanted yielded
attribute [local simp] N_ M_ MP.eq MP.agg MP.aggB MP.aggN MP.sl MP.box MP.slrow A0r
theorem C8p {p:TProblem} {us:List TRat} {f:TFan} {v:Int} {i:Nat} {k:Int} {t:TTri} (h:f.triangles[i]?=QL k) (b:p.1.triangles[k.toNat]?=QL t) :
  (A1h p us f v).take (i+1)=(A1h p us f v).take i++[A5g p us t v]:=by
 have e:(A1h p us f v)[i]?=QL (A5g p us t v):=by unfold A1h;rw[IE,h];simp[List.getD_eq_getElem?_getD,b]
 rw[List.take_add_one,e];rfl
theorem C2u (v:AJ) (p:TProblem) (b:List Nat) (xs ys:List Int) (B:Option AH) (n d:Nat) (us:List TRat) (aQ:List Nat) (bv:AJ) (f:TFan) (bV:List Nat) (q:Int) (w:J) (aU:Agg w v p b) (aT:Sl w B n d us aQ) (ak:Agg w bv f bV) (bo:ProbI p xs ys) (an:LinD p us) (T:p.3.length=3)
  (bl:∀ k∈f.triangles,0<=k/\k<p.1.triangles.length/\B6x (p.1.triangles.getD k.toNat A4p) q=AD) (bj:f.triangles.length<=48) :
  Calls prog 190 #[v,S B n d,bv,QS .i64 q] w (λe w'=>∃ A c bs,e=.returned (.tuple #[S A f.triangles.length c,AC AD])/\Sl w' A f.triangles.length c (A1h p us f q) bs/\Bw w w'):=by
 have aI:=A_ aU;have a9:=A_ aT;have a7:=A_ an;have bH:=A_ bo;have bL:=A_ T;have bE:=A_ bl;have bG:=A_ (by rw[<-an.ul];exact aT.1.symm:n=p.1.1.length);obtain⟨az,aW,aL,cy,aA,n1,aM,cz,aB,n2,aN,cA,aC,aX,c3,cB,rfl,rfl,cb,ao,cc,cd⟩:=TProblem.agg aU;have bM:=A_ ao.1;have bK:=A_ ao;obtain⟨aG,u,aO,cm,aH,aY,aP,cn,rfl,rfl,aj,b4⟩:=TFan.agg ak;have bD:=A_ aj;have a5:=A_ aj.1;have cu:u<=48:=by rw[<-aj.1];exact bj
 have cv:(u:Int)<=48:=oS;have ct:n1<=48:=by rw[<-ao.1];exact an.t48
 rw[a5.o];obtain⟨bu,bn,br,bt,cg⟩:=info_parts E7z;clear cb ao cc cd aU aT an bo T bl aj b4 ak bj;go_enter func190,ntmps190;go_upto_region 1 with fail;obtain⟨O,ab⟩:∃ O,O=(w.alloc (AK #[S az aW aL,S aA n1 aM,S aB n2 aN,S aC aX c3] 29)).alloc (AK #[S aG u aO,S aH aY aP,AC f.closed] 187):=⟨_,rfl⟩
 have aE:=A_ (by rw[ab];exact(AV _).alloc sI _:Bw w O);have Y:=A_ (by rw[ab];exact K_ (CF w _) (AV _):O.1[w.1.size]?=QL (AK #[S az aW aL,S aA n1 aM,S aB n2 aN,S aC aX c3] 29));have bO:=A_ (show O.1[w.1.size+1]?=QL (AK #[S aG u aO,S aH aY aP,AC f.closed] 187) by rw[ab];have:=CF (w.alloc (AK #[S az aW aL,S aA n1 aM,S aB n2 aN,S aC aX c3] 29)) (AK #[S aG u aO,S aH aY aP,AC f.closed] 187);rwa [EW]at this);rw[<-ab];clear ab;obtain⟨h,-⟩:=B_ Y (j:=0) rfl;obtain⟨D,-⟩:=B_ Y (j:=1) rfl;obtain⟨Z,-⟩:=B_ Y (j:=2) rfl;obtain⟨aa,-⟩:=B_ Y (j:=3) rfl;simp at h D Z aa;go_wp2_with fail;refine(C8z _ p _ xs ys B n d us aQ O (aI.below aE) bH (a9.below aE) a7.uo bG).mono ?_;rintro _ ay ⟨rfl,ai⟩;have a1:=A_ (AI aE ai);have bN:=A_ (K_ Y ai);have bc:=A_ (K_ bO ai);have be:=A_ (PendS.start (α:=TPiece) (e:=293) a1);clear ai h D Z aa;have ba:=A_ (K_ bc (AV (w:=ay) (AK #[] 293)));obtain⟨h,-⟩:=B_ ba (j:=0) rfl;simp at h;have bJ:=A_ (by rw[A1h,KU,a5.o]:(A1h p us f q).length=u);go_wp2_with fail;go_loopg [10,24] u (λg s10 s24 wr=>∃ (i gB cap:Nat),i+g=u/\s24=QS .i64 i/\s10=S (QL ⟨gB,0,I⟩) i cap/\Hid (PendS w ay 293 wr gB i cap ((A1h p us f q).take i)));case atStart=>exact⟨0,ay.1.size,0,oS,rfl,rfl,be.o⟩
 case round =>
  clear be ba h;obtain⟨i,gB,cap,bm,rfl,rfl,H⟩:=hrel;have G:=A_ H.bw;have a4:=A_ H.bb;rcases BN i u with am|am
  ·have b7:(i:Int)<u:=oS
   have co:(0:Int)<=i:=oS;obtain⟨g,rfl⟩:∃ g,gk=g+1:=⟨gk - 1,oS⟩
   have b6:=A_ (by omega:i+1+g=u);have bz:=A_ (by unfold BG;omega:i+1<=BG);have bA:=A_ (by omega:(i+1)*640<=140737488355328);obtain⟨ck,cw,x,rfl,bY,aV,b3,b8⟩:=B9i (bD.below G) am;obtain⟨ce,cf,al⟩:=bE x (CH aV);obtain⟨E,rfl⟩:∃ E:Nat,x=(E:Int):=⟨x.toNat,oS⟩
   rw[Int.toNat_natCast]at al;have b9:E<n1:=by rw[<-bM.o];omega
   obtain⟨bf,cx,t,rfl,bZ,ap,aq,ar,au,aw,ax,bh⟩:=TTri.elemA (bK.below G) b9;rw[A0e ap]at al;have bF:=A_ ap;have a6:=A_ al;have bB:=A_ bh;have bQ:=A_ aq;have bR:=A_ ar;have bS:=A_ au;have bT:=A_ aw;have bU:=A_ ax;have bP:=A_ (C8p (us:=us) (v:=q) aV (by rw[Int.toNat_natCast];exact ap));have cq:(E:Int)<n1:=oS;have cp:(0:Int)<=E:=oS;have aF:=A0s (E:Int) 0 ((n1:Int) - 1) wr;rw[show inB 0 (E:Int) ((n1:Int) - 1)=AD by unfold inB;simp;omega]at aF;have aJ:=A_ (K_ bN a4);have cj:=A_ (K_ bc a4);obtain⟨h,-⟩:=B_ aJ (j:=0) rfl;obtain⟨D,-⟩:=B_ aJ (j:=1) rfl;simp at h D;clear bm am aV ce cf al ap bh b8;go_wp2_with fail;refine aF.mono ?_;clear aF;rintro _ wa ⟨rfl,aR⟩;have X:=A_ aR;have ae:=A_ (K_ aJ aR);clear aR h D aq ar au aw ax b3 bY;obtain⟨h,-⟩:=B_ ae (j:=0) rfl;obtain⟨D,-⟩:=B_ ae (j:=1) rfl;simp at h D;have ch:=λo=>X.cell (p:=⟨bf,o,I⟩) bZ;have aq:=bQ.o;have ar:=bR.o;have au:=bS.o;have aw:=bT.o;have ax:=bU.o;have b0:bf<wa.1.size:=by have:=X.size;omega
   go_wp2_with fail;refine(B5z _ t [] q wa (bB.below X) a6).mono ?_;rintro _ wb ⟨rfl,aS⟩;have aD:=A_ (AI X aS);have af:=A_ (K_ ae aS);clear aS h D aq ar au aw ax b0 X ae ch;obtain⟨h,-⟩:=B_ af (j:=0) rfl;obtain⟨D,-⟩:=B_ af (j:=1) rfl;obtain⟨Z,-⟩:=B_ af (j:=2) rfl;obtain⟨aa,-⟩:=B_ af (j:=3) rfl;simp at h D Z aa;have a3:=A_ (AI G aD);go_wp2_with fail;refine(D8g _ p _ B n d us aQ E q t wb (aI.below a3) (a9.below a3) a7 bL bF a6).mono ?_;rintro _ W ⟨ac,s,rfl,bW,bq,bi⟩;obtain⟨L,rfl,ah⟩:=bW;have aK:=A_ (show L.length=34 from Dat.len ah);have aZ:=A_ (show Dat.at_ (W.alloc (AK L.toArray 293)) L (A5g p us t q) s from Dat.keep ah λb bX=>(AV _).block b (Dat.lt ah b bX));have a2:=A_ (show Bw wr (W.alloc (AK L.toArray 293))from AI (AI aD bi) (AV _))
   have bd:=A_ (show gB∉s from λak=>by
    have cs:=H.lt;rcases bq gB ak with ag|ag
    ·have:=aI.lt gB ag;have:=a1.size;omega
    have:=aD.size;omega)
   have a8:=A_ (show ∀ j ac,L[j]?=QL ac->(W.alloc (AK L.toArray 293)).cell? ((⟨W.1.size,0,I⟩:AH).add j)=QL ac from λj ac ag=>A0a (CF W _) j ac (by simpa using ag));clear ah bq bi h D Z aa;go_wp2_with (first|(refine D3u rfl 237 293 _ rfl L bu _ underlying237 bn br (by rw[aK.o];exact bt) (by rw[aK.o];decide) (by rw[aK.o];decide) gD ?_)|(at_builtin;refine D2w rfl _ _ 237 rfl 293 bu _ 640 underlying237 bn br bt cg rfl H a2 gD ⟨W.1.size,0,I⟩ 1 L (A5g p us t q) s gD a8 aZ bd bz bA ?_;intro g' bg ci bp b5 ca));have bI:=A_ (by rw[bP.o];exact bp:PendS w ay 293 ci g' (i+1) bg ((A1h p us f q).take (i+1)));clear bp b5 ca aZ bd a8 a2 H;go_wp2_with fail;go_roundg g;case measure=>omega
   case rel=>exact⟨i+1,g',bg,b6,gN,rfl,bI⟩
  obtain rfl:i=u:=oS;have b7:¬ ((i:Int)<i):=oS;obtain⟨bs,T⟩:=H.sl;rw[List.take_of_length_le (by rw[bJ.o];exact BH _)]at T;have ad:=A_ T;clear bm am T;go_wp2;refine BI (v:=.tuple #[S (QL ⟨gB,0,I⟩) i cap,AC AD]) (by simp[BO,results190,go_sem, *]) rfl ?_;first|exact⟨_,_,_,rfl,ad.o,G.o⟩|exact⟨_,_,rfl,⟨_,ad.o⟩,G.o⟩|exact⟨_,_,⟨rfl,rfl⟩,⟨_,ad.o⟩,G.o⟩|exact⟨_,_,⟨_,ad.o⟩,G.o⟩|trace_state
end Go.Proofs.YtbkilakncnlebaaGreatDoor.X

namespace Go.XB
open Go.RowKit
def MP.agg2 {α β:Type} [Dat α] [Dat β] (x:α) (y:β):MP:=⟨λv bs w=>∃ v1 v2 s1 s2,v=.tuple #[v1,v2]/\bs=s1++s2/\Agg w v1 x s1/\Agg w v2 y s2,λ_ _ _ _ hb h=>by
 obtain⟨v1,v2,s1,s2,e,z,h1,h2⟩:=h;exact⟨v1,v2,s1,s2,e,z,h1.below hb,h2.below hb⟩⟩
def MP.tup (u:AJ):MP:=⟨λv bs _=>v=u/\bs=[]/\∃ a b,v=.tuple #[a,b],λ_ _ _ _ _ h=>h⟩
def MP.tupL (y:AJ):MP:=⟨λv bs _=>bs=[]/\∃ b,y=.tuple #[v,b],λ_ _ _ _ _ h=>h⟩
def MP.tupR (y:AJ):MP:=⟨λv bs _=>bs=[]/\∃ a,y=.tuple #[a,v],λ_ _ _ _ _ h=>h⟩
end Go.XB
namespace Go.Proofs.YtbkilakncnlebaaGreatDoor.X
open Go.RowKit Go.XB Go.XN Proofs.Tryz
theorem E8p {bad:Nat->Prop} {w:J} {u0 u1 u2:AJ} {y:TRat} {s:List Nat} (h:Agg w (AM #[u0,u1,u2]) y s) (E:∀ b∈s,¬ bad b) (H:bad w.1.size):RR bad (w.alloc (AK #[u0,u1,u2] 35)) w.1.size 1 1 [y]:=by
 have G:=A3x h;refine⟨[u0,u1,u2],[s],⟨rfl,.inr ⟨w.1.size,1,#[u0,u1,u2],rfl,Nat.zero_le _,CF w _,BH _,dE,rfl,rfl⟩⟩,⟨rfl,BH _,λk x O D u=>?_⟩,rfl,by simpa using E,H⟩;match k,D,u with
 |0,D,u =>
  simp at D u
  subst D;subst u
  exact Dat.keep G λb E=>(AV _).block b (Dat.lt G b E)
theorem D8z {w:J} {g:Nat} {x:TRat} {P1:Option AH} {n1 m1:Nat} {P2:Option AH} {n2 m2:Nat} {t:TypeId} (h:w.1[g]?=QL (AK #[AC x.1.1,S P1 n1 m1,S P2 n2 m2] t)):RBox w g x P1 n1 m1 P2 n2 m2 :=
 ⟨E_ h,⟨(B_ h (j:=0) rfl).1,(B_ h (j:=1) rfl).1,(B_ h (j:=2) rfl).1⟩,⟨(B_ h (j:=0) rfl).2,(B_ h (j:=1) rfl).2,(B_ h (j:=2) rfl).2⟩⟩
theorem E4n {α:Type} [Dat α] {w:J} {L:List AJ} {x:α} {s:List Nat} (h:Agg w (AM L.toArray) x s):Dat.at_ w L x s:=by
 obtain⟨b,e,u⟩:=h;have:b=L:=by simpa using e.symm
 rwa [this]at u
theorem B8k (w:J) (r:Option Nat):w.grownBy w r:=⟨rfl,rfl,rfl,BH _,λ_ _ _=>rfl⟩
theorem A8f {X w w':J} {r:Option Nat} (h:X.grownBy w r) (hb:Bw w w'):X.grownBy w' r :=
 ⟨hb.os.trans h.os,hb.tape.trans h.tape,hb.output.trans h.output,Nat.le_trans h.size hb.size,λk hk hn=>(hb.block k (Nat.lt_of_lt_of_le hk h.size)).trans (h.block k hk hn)⟩
theorem C4f {X w:J} {g i j k:Nat} {v0 v1 v2:AJ} (h:X.grownBy w (QL g)):X.grownBy (((w.setCell ⟨g,i,I⟩ v0).setCell ⟨g,j,I⟩ v1).setCell ⟨g,k,I⟩ v2) (QL g) :=
 ⟨h.os,h.tape,h.output,by simpa using h.size,λb hb hn=>by
  have hne:b≠g:=λe=>hn (by rw[e])
  exact(DQ _ _ _ b (by simpa using hne)).trans ((DQ _ _ _ b (by simpa using hne)).trans ((DQ _ _ _ b (by simpa using hne)).trans (h.block b hb hn)))⟩
theorem RR.cap {bad:Nat->Prop} {w:J} {g n cap:Nat} {xs:List TRat} (h:RR bad w g n cap xs):n<=cap:=by
 obtain⟨cells,fss,⟨_,u⟩,_⟩:=h;rcases u with⟨b,_⟩|⟨g',E,G,b,_,_,D,_⟩;·cases b
 injection b with _ _ e3;rw[e3];exact D
def C3q (f:TRat->TRat) (O:List TRat) (i:Nat):List TRat:=(O.take i).map f++O.drop i
theorem E2q (f:TRat->TRat) (O:List TRat) (i:Nat):(C3q f O i).length=O.length:=by
 unfold C3q;simp;omega
theorem C6z (f:TRat->TRat) (b:List TRat) (i j:Nat):(C3q f b i)[j]?=if j<i then(b[j]?).map f else b[j]?:=by
 unfold C3q;by_cases h:j<i
 ·rw[if_pos h]
  by_cases u:j<b.length;·rw[List.getElem?_append_left oR,IE,List.getElem?_take,if_pos h]
  rw[JO oR,LV oR,LV oS];rfl
 rw[if_neg h,JO oR,List.getElem?_drop];by_cases u:i<=b.length;·rw[KU,GH,Nat.min_eq_left u];congr 1;omega
 rw[LV oR,LV oS]
theorem E4z {f:TRat->TRat} {b:List TRat} {i:Nat} {y:TRat} (h:b[i]?=QL y):(C3q f b i).set i (f y)=C3q f b (i+1):=by
 apply List.ext_getElem?;intro j;rw[List.getElem?_set,C6z,C6z,E2q];have E:=(List.getElem?_eq_some_iff.1 h).1;by_cases D:i=j;·subst D;rw[if_pos rfl,if_pos E,if_pos oS,h];rfl
 rw[if_neg D];by_cases u:j<i;·rw[if_pos u,if_pos oS]
 rw[if_neg u,if_neg oS]
theorem E4o (f:TRat->TRat) (O:List TRat):C3q f O O.length=O.map f:=by
 unfold C3q;simp
attribute [local go_sem] L_ Go.XB.opAt N_ M_ Region.wanted yielded
attribute [local simp] N_ M_ MP.eq MP.agg MP.aggB MP.aggN MP.sl MP.box MP.slbox MP.slrow MP.agg2 MP.tup MP.tupL MP.tupR A0r
theorem C7q (A:Option AH) (n c:Nat) (xs:List TPiece) (bs:List Nat) (cl:Bool) (w:J) (cs:Sl w A n c xs bs) (gj:n<=48) (gm:1<=n) (d1:∀ x∈xs,∃ a b c,x.list=[a,b,c]/\A7m [a,b,c]=AD)
  (dW:cl=AD->J_ ((A2h xs n).getD n A0h)=AD/\A2v ((A2h xs n).getD n A0h)=0) (d8:(A9c xs cl).any A2e=AF) :
  Calls prog 191 #[S A n c,AC cl] w (λe w'=>∃ F m cF bF,e=.returned (.tuple #[S F m cF,AC AD])/\Sl w' F m cF (A9c xs cl) bF/\Bw w w'):=by
 have eI:=A_ cs;have eC:=A_ d1;have eB:=A_ dW;have eE:=A_ d8;have eJ:=A_ cs.1;obtain⟨fs,fm,fr,aw,cw⟩:=info_parts B2r;clear cs d1 dW d8;go_enter func191,ntmps191;go_wp2_with fail;refine(A0l 0 w oO).mono ?_;rintro _ aJ ⟨v1,a8,rfl,cb,d3,dL⟩;obtain⟨O1,fw,e6,_,O2,fx,e7,_,rfl,-,_,_⟩:=BK cb;have bT:=A_ cb;have c5:=A_ dL;have eG:=A_ (show ∀ b∈a8,w.1.size<=b from λb u=>(d3.2 b u).1);clear cb d3 dL;go_upto_region 2 with fail;obtain⟨aA,a2⟩:∃ y,y=aJ.alloc (AK #[AC (U_ 0).1.1,S O1 fw e6,S O2 fx e7] 35):=⟨_,rfl⟩
 have bX:=A_ (show RR (λb=>b=aJ.1.size) aA aJ.1.size 1 1 [U_ 0] by rw[a2];exact E8p bT (λb u e=>by have:=bT.lt b u;omega) rfl);have cV:=A_ (by rw[a2];exact AV _:Bw aJ aA);have b3:=A_ (by rw[a2];simp:aA.1.size=aJ.1.size+1);rw[<-a2];clear a2;obtain⟨b9,bE⟩:∃ y,aJ.1.size=y:=⟨_,rfl⟩
 have c0:=A_ (by rw[<-bE];exact c5.size:w.1.size<=b9);have cX:=A_ (AI c5 cV);rw[bE]at bX b3;simp only[bE];clear bE cV;go_wp2_with fail;refine(A0l 0 aA oO).mono ?_;rintro _ w2 ⟨v2,ax,rfl,bA,d4,dM⟩;obtain⟨P1,p1,q1,_,P2,p2,q2,_,rfl,-,_,_⟩:=BK bA;have c2:=A_ bA;have aP:=A_ dM;have c9:=A_ (show ∀ b∈ax,aA.1.size<=b/\b<w2.1.size from λb u=>⟨(d4.2 b u).1,bA.lt b u⟩);clear bA d4 dM;go_wp2_with fail;refine(A0l 0 w2 oO).mono ?_;rintro _ w3 ⟨gu,cz,rfl,bB,d5,dN⟩;obtain⟨Q1,k1,l1,_,Q2,k2,l2,_,rfl,-,_,_⟩:=BK bB;have c4:=A_ bB;have aQ:=A_ dN;have da:=A_ (show ∀ b∈cz,aA.1.size<=b/\b<w3.1.size from λb u=>⟨by have:=(d5.2 b u).1;have:=aP.size;omega,bB.lt b u⟩);clear bB d5 dN;go_upto_region 3 with fail;obtain⟨bo,a3⟩:∃ y,y=(w3.alloc (AK #[AC (U_ 0).1.1,S P1 p1 q1,S P2 p2 q2] 35)).alloc (AK #[AC (U_ 0).1.1,S Q1 k1 l1,S Q2 k2 l2] 35):=⟨_,rfl⟩
 have aM:=A_ (by rw[a3];exact(AV _).alloc sI _:Bw w3 bo);have de:=A_ (by rw[a3];exact K_ (CF w3 _) (AV _):bo.1[w3.1.size]?=QL (AK #[AC (U_ 0).1.1,S P1 p1 q1,S P2 p2 q2] 35));have df:=A_ (show bo.1[w3.1.size+1]?=QL (AK #[AC (U_ 0).1.1,S Q1 k1 l1,S Q2 k2 l2] 35) by rw[a3];have:=CF (w3.alloc (AK #[AC (U_ 0).1.1,S P1 p1 q1,S P2 p2 q2] 35)) (AK #[AC (U_ 0).1.1,S Q1 k1 l1,S Q2 k2 l2] 35);rwa [EW]at this);rw[<-a3];clear a3;have bY:=A_ (show FlSt w bo w3.1.size (w3.1.size+1) b9 1 1 (A2h xs 0) (B3x xs 0) P1 p1 q1 P2 p2 q2 ax (B2i xs 0) Q1 k1 l1 Q2 k2 l2 cz from by
  have gE:=b3.o;have gF:=aP.size;have gG:=aQ.size;have f2:=c0.o
  refine⟨AI (AI (AI cX aP) aQ) aM,D8z de,D8z df,(c2.below aQ).below aM,c4.below aM,
   (((bX.o.weaken (λb u E=>?_) (.inl rfl)).below aP.o).below aQ.o).below aM.o,λb u=>?_,λb u=>?_,oS,oS,f2,oS,oS,oS⟩
  ·rcases E with E|E|E
   ·exact E
   ·omega
   omega
  ·have:=c9 b u;omega
  have:=da b u;omega)
 obtain⟨ga,aH⟩:∃ y,w3.1.size=y:=⟨_,rfl⟩
 obtain⟨gb,aI⟩:∃ y,ga+1=y:=⟨_,rfl⟩
 rw[aH,aI]at bY;simp only[aH,aI];clear bT eG bX c2 c9 c4 da de df aM aQ aP aH aI b3 c0 cX;go_wp2_with fail;go_loopg [6,23] n (λg s6 s23 wr=>∃ (i gr cr:Nat) (lx rx:TRat) (P1:Option AH) (p1 q1:Nat) (P2:Option AH) (p2 q2:Nat) (rl:List Nat) (Q1:Option AH) (k1 l1:Nat) (Q2:Option AH) (k2 l2:Nat) (rr:List Nat),i+g=n/\s23=QS .i64 i/\s6=S (QL ⟨gr,0,I⟩) (i+1) cr/\Hid (lx=B3x xs i/\rx=B2i xs i)/\Hid (FlSt w wr ga gb gr (i+1) cr (A2h xs i) lx P1 p1 q1 P2 p2 q2 rl rx Q1 k1 l1 Q2 k2 l2 rr));case atStart=>exact⟨0,b9,1,_,_,P1,p1,q1,P2,p2,q2,ax,Q1,k1,l1,Q2,k2,l2,cz,oS,rfl,rfl,⟨rfl,rfl⟩,bY.o⟩
 case round =>
  clear bY;obtain⟨i,gr,cr,lx,rx,P1,p1,q1,P2,p2,q2,rl,Q1,k1,l1,Q2,k2,l2,rr,dZ,rfl,rfl,bi,W⟩:=hrel;rcases BN i n with bH|bH
  ·have fn:(i:Int)<n:=oS
   have gg:(0:Int)<=i:=oS;obtain⟨g,rfl⟩:∃ g,gk=g+1:=⟨gk - 1,oS⟩
   have fl:=A_ (by omega:i+1+g=n);have eu:=A_ (by unfold BG;omega:i+1+1<=BG);have ev:=A_ (by omega:(i+1+1)*56<=140737488355328);obtain⟨dt,fA,x,L,gt,rfl,dS,ct,ee,cd,dB⟩:=TPiece.elemL eI bH;obtain⟨e3,b1,e5,d2,ea⟩:=eC x (CH ct);have eD:=A_ d2;have eF:=A_ ea;have az:=A_ dB;have cM:=A_ cd;have eN:=A_ (show ∀ v∈L,v.oneCell'=AD from Dat.one (E4n cd));have ds:=A_ (show xs.getD i pc0=x from A0e ct);have dj:=A_ (B5q ee dS W.bl);have f8:dt<wr.1.size:=by have:=W.bl.size;omega
   have eQ:=A_ (by rw[A2h,ds.o]:A2h xs (i+1)=A2h xs i++[A0k ((A2h xs i).getD i A0h) (C1f x)]);clear dZ bH ct cd ee d2 ea dB dS;go_upto_region 6 with(first|(refine wpList_load_mid rfl 293 _ rfl dt (fA+i*34) gD L _ dj.o underlying293 rfl (by rw[az.o];exact A7z) ?_)|(refine wpList_store_mid rfl 293 _ _ rfl wr.1.size 0 L.toArray gD gD (C5j (CF wr _) (by rw[MA,az.o];exact BH _)) (by rw[MA,az.o];exact A7z) (all_oneCell_toArray eN) ?_))
   obtain⟨dr,dH,aD,-,au,-⟩:=C0o (vs:=L) (CF wr (AK (S I 0 0::AC AF::S I 0 0::S I 0 0::AC AF::S I 0 0::S I 0 0::AC AF::S I 0 0::S I 0 0::AC AF::S I 0 0::S I 0 0::AC AF::S I 0 0::S I 0 0::AC AF::S I 0 0::S I 0 0::AC AF::S I 0 0::S I 0 0::AC AF::S I 0 0::S I 0 0::AC AF::S I 0 0::S I 0 0::AC AF::S I 0 0::S I 0 0::AC AF::S I 0 0::S I 0 0::[]).toArray 293)) (by rw[az.o];rfl) (AV _) (BH _);rw[dH];have bf:=A_ aD;have es:=A_ au;have bV:=A_ (B9e aD);have aS:=A_ (W.below au);have cN:=A_ (cM.below aS.bl);obtain⟨bx,a4⟩:∃ y,wr.1.size=y:=⟨_,rfl⟩
   have cZ:=A_ (show w.1.size<=bx/\gr<bx/\ga<bx/\gb<bx by rw[<-a4];exact⟨W.bl.size,W.ro.lt,W.ra.1,W.rb.1⟩);have cQ:=A_ (by rw[<-a4];exact au.size:bx<=dr.1.size);rw[a4]at bf bV;simp only[a4];clear dH aD au W dj es a4;obtain⟨y,bZ,cx,b4,b0,cy,b5,dx,ab,aK,aL,ac,-,-,-,aj,-,bG⟩:=aS.o.ro.elem (by omega:i<i+1);have e2:=A_ (show(A2h xs i).getD i A0h=y from A0e ab);have an:=A_ aj;have dU:bx<dr.1.size:=E_ bf;clear ab aj;go_wp2_with fail;refine W_ 9 kR kR kR kR kR ?_;simp only[GE,ET,GG,EH];iterate 5 refine C_ _ ?_
   refine C2a L 293 _ rfl _ underlying293 rfl (by rw[az.o];exact A7z) ?_ ?_;·intro H O G D h;obtain⟨aE,aF⟩:=F_ D;simp at h;exact⟨gD,bx,0,gD,B5q bV dU D⟩
   refine D_ (MP.agg (C1f x)) ?_ ?_;·intro H O G D h;obtain⟨aE,aF⟩:=F_ D;simp at h;refine G_ ?_;exact H_ (C0z _ x _ G (cN.below D))
   refine D_ (MP.agg (A0k y (C1f x))) ?_ ?_;·intro H O G D h;obtain⟨aE,aF⟩:=F_ D;simp at h;refine G_ ?_;obtain⟨_,t⟩:=h;exact H_ (A0x _ _ y (C1f x) _ _ G (an.o.below D) (by first|exact t.1|exact t.1.1))
   refine A1d (λY=>MP.slbox (Y 7).cells 35) (by intro y Y E;simp[N_,M_]at E;simp[E]) ?_ ?_;·intro H O G D h;simp at h;obtain⟨ae,al,ah,bq,af,am,ai,br,aB,_,_,_⟩:=BK h.1;refine⟨gD,S (QL ⟨G.1.size,0,I⟩) 1 1,G.alloc (AK (H 7).cells 35),?_,AV _,[G.1.size],⟨G.1.size,rfl,rfl,CF G _⟩,sI⟩;rw[aB];go_simp
   intro H O wa D h (ak:Hid _);simp at h;have bJ:=h.1;have fJ:=h.2.2.2.2.2.2.2.1;have fI:=h.2.2.2.2.2.2.2.2;obtain⟨⟨bz,-⟩,eb⟩:=fJ;obtain⟨ae,al,ah,bq,af,am,ai,br,ej,-,_,_⟩:=BK bz;obtain⟨⟨fg,Z,f3,ch⟩,-⟩:=fI;rw[ej]at ch bz;have cL:=A_ (A3x bz);have dg:=A_ (show ∀ b∈O 7,¬ (b=gr\/(b=ga\/b=gb))from λb u E=>by have:=(eb b u).1;have:=cZ.o;have:=cQ.o;omega);have c8:=A_ ch;have aR:=A_ D;have fX:H 0=S (QL ⟨gr,0,I⟩) (i+1) cr:=by first|exact bJ.1.1|exact bJ.1|exact bJ
   generalize O 7=fM at *;clear h ak bz eb ch f3 D bJ aK aL ac bG;go_upto_region 7 with(at_builtin;refine E1y rfl _ _ 27 rfl fs (AM #[AC AF,S I 0 0,S I 0 0]) 56 underlying27 fm fr aw cw rfl aS.ro aR gD ⟨fg,0,I⟩ 1 [AC (A0k y (C1f x)).1.1,S ae al ah,S af am ai] (A0k y (C1f x)) fM gD (A0a c8) cL dg eu ev ?_;intro g' dw bN ec ci d9)
   have aT:=A_ (show FlSt w bN ga gb g' (i+1+1) dw (A2h xs (i+1)) lx P1 p1 q1 P2 p2 q2 rl rx Q1 k1 l1 Q2 k2 l2 rr from by rw[eQ.o,e2.o];exact(aS.below aR).push ec ci d9)
   have bU:=A_ (show bN.1[bx]?=QL (AK L.toArray 293)from
    (ci.block bx (by have:=aR.size;omega) (by intro e;injection e with e;have:=cZ.o;omega)).trans (K_ bf.o aR.o))
   have cO:=A_ (cM.below aT.bl);clear ec ci d9 ej Z fX cL dg c8 aR aS cN an bf bV cQ dU;obtain⟨ad,bZ,cx,b4,b0,cy,b5,f5,eg,a0,aV,aW,-,-,-,dI,-,bG⟩:=aT.o.ro.elem (by omega:i<i+1+1);obtain⟨Z,eV,fy,e8,eW,fz,e9,f6,eh,aX,aY,b2,-,-,-,dJ,-,-⟩:=aT.o.ro.elem (by omega:i+1<i+1+1);have e0:=A_ (show(A2h xs (i+1)).getD i A0h=ad from A0e eg);have e1:=A_ (show(A2h xs (i+1)).getD (i+1) A0h=Z from A0e eh);have eo:=A_ dI;have ep:=A_ dJ;have dV:bx<bN.1.size:=E_ bU;have dk:=A_ (B9e bU);have gh:(i:Int)+1<(i:Int)+1+1:=oS;clear eg eh dI dJ;go_wp2_with fail;refine B8f 16 13 _ rfl kR kR kR kR kR ?_;simp only[GE,ET,GG,EH];refine C2a L 293 _ rfl _ underlying293 rfl (by rw[az.o];exact A7z) ?_ ?_;·intro H O G D h;obtain⟨aE,aF⟩:=F_ D;simp at h;exact⟨gD,bx,0,gD,B5q dk dV D⟩
   iterate 9 refine C_ _ ?_
   refine D_ (MP.agg2 (B0i x ad Z) (B3c x)) ?_ ?_
   ·intro H O G D h
    obtain⟨aE,aF⟩:=F_ D;simp at h;refine G_ ?_;have aa:=D8f (AM L.toArray) _ _ x ad Z _ _ _ e3 b1 e5 G (cO.below D) (eo.below D) (ep.below D) eD eF
    exact aa.mono λe w' ⟨v1,v2,a8,ax,he,ar,X,h3,h4⟩=>⟨_,he,h4,a8++ax,⟨v1,v2,a8,ax,rfl,rfl,ar,X⟩,λb u=>⟨h3 b u,by
     rcases List.mem_append.1 u with E|E;·exact ar.lt b E
     exact X.lt b E⟩⟩
   refine A1d (λY=>MP.tup (Y 10)) (by intro y Y E;simp[N_,M_]at E;simp[E]) ?_ ?_;·intro H O G D h;simp at h;obtain⟨v1,v2,bt,a8,ax,a9,ar,X⟩:=h;refine⟨gD,.tuple #[v1,v2],G,oD,CG _ _,[],⟨bt.symm,rfl,v1,v2,rfl⟩,sI⟩
   refine A1d (λY=>MP.tupL (Y 11)) (by intro y Y E;simp[N_,M_]at E;simp[E]) ?_ ?_;·intro H O G D h;simp at h;obtain⟨b6,-,bL,bM,b7⟩:=h;clear b6;refine⟨gD,bL,G,?_,CG _ _,[],⟨rfl,bM,b7⟩,sI⟩;go_simp
   refine A1d (λY=>MP.tupR (Y 11)) (by intro y Y E;simp[N_,M_]at E;simp[E]) ?_ ?_;·intro H O G D h;simp at h;obtain⟨b6,-,bL,bM,b7⟩:=h;clear b6;refine⟨gD,bM,G,?_,CG _ _,[],⟨rfl,bL,b7⟩,sI⟩;go_simp
   refine A1p #[AC AF,S I 0 0,S I 0 0] 35 ?_ ?_;·intro H O G D h;refine⟨gD,?_⟩;go_simp
   refine A1p #[AC AF,S I 0 0,S I 0 0] 35 ?_ ?_;·intro H O G D h;refine⟨gD,?_⟩;go_simp
   intro H O wb D h (ak:Hid _);simp at h;have fB:=h.2.2.2.2.2.2.2.2.2.2.1;have fC:=h.2.2.2.2.2.2.2.2.2.2.2.1;have fD:=h.2.2.2.2.2.2.2.2.2.2.2.2.1;have fE:=h.2.2.2.2.2.2.2.2.2.2.2.2.2.1;have fF:=h.2.2.2.2.2.2.2.2.2.2.2.2.2.2.1;have fG:=h.2.2.2.2.2.2.2.2.2.2.2.2.2.2.2;obtain⟨⟨v1,v2,bt,cA,sb,a9,ar,X⟩,ck⟩:=fB;obtain⟨⟨b8,-,-⟩,-⟩:=fC;rw[bt]at b8;obtain⟨⟨-,bM,bu⟩,-⟩:=fD;obtain⟨⟨-,bL,aB⟩,-⟩:=fE;rw[b8]at bu aB;have fY:H 12=v1:=by simp at bu;exact bu.1.symm
   have fZ:H 13=v2:=by simp at aB;exact aB.2.symm
   obtain⟨ae,al,ah,_,af,am,ai,_,rfl,-,_,_⟩:=BK ar;obtain⟨aN,a6,aZ,_,aO,a7,a1,_,rfl,-,_,_⟩:=BK X;obtain⟨⟨aq,f0,bP,aG⟩,cm⟩:=fF;obtain⟨⟨aC,f1,bQ,dX⟩,cn⟩:=fG;rw[bP]at cm;rw[bQ]at cn;rw[a9]at ck;have ft:=(cm aq sI).1;have fu:=(cn aC sI).1;have dh:aq≠aC:=λe=>by have:=ak.o 14 15 dE dE dE aq (by rw[bP];simp);rw[bQ]at this;simp[e]at this
   have ba:=A_ (show ∀ b∈cA++sb,b≠aq/\b≠aC from λb u=>⟨λe=>by have:=ak.o 10 14 dE dE dE b (by rw[a9];exact u);rw[bP]at this;simp[e]at this,λe=>by have:=ak.o 10 15 dE dE dE b (by rw[a9];exact u);rw[bQ]at this;simp[e]at this⟩);have bm:=A_ (show ∀ b∈cA++sb,bN.1.size<=b from λb u=>(ck b u).1);obtain⟨dp,dF,dA,bg,dy,-⟩:=D1j (AC (B0i x ad Z).1.1) (S ae al ah) (S af am ai) aG D ft;have ay:=A_ ((bg aC dh.symm).trans dX);obtain⟨cB,cD⟩:=B_ aG (j:=0) rfl;obtain⟨cE,cG⟩:=B_ aG (j:=1) rfl;obtain⟨cH,cI⟩:=B_ aG (j:=2) rfl;have cu:aq<wb.1.size:=E_ aG;have dc:=A_ dF;have cP:=A_ dy;have cJ:=A_ (ar.keep λb u=>bg b (ba.o b (by simp[u])).1);have cK:=A_ (X.keep λb u=>bg b (ba.o b (by simp[u])).1);have dd:=A_ dA;clear h ak bt a9 ar X ck bu aB bP aG cm bQ dX cn dF dy dA bg D a0 aV aW aX aY b2 bG;refine⟨dp,?_,?_⟩;·rw[<-dc.o];go_simp
   clear cB cD cE cG cH cI cu dc;obtain⟨cB,cD⟩:=B_ ay (j:=0) rfl;obtain⟨cE,cG⟩:=B_ ay (j:=1) rfl;obtain⟨cH,cI⟩:=B_ ay (j:=2) rfl;have cv:aC<dp.1.size:=E_ ay;go_upto_region 8 with fail;obtain⟨dq,dG,aD,bh,au,-⟩:=D1j (AC (B3c x).1.1) (S aN a6 aZ) (S aO a7 a1) ay cP fu;rw[dG];have el:=A_ (cJ.o.keep λb u=>bh b (ba.o b (by simp[u])).2);have em:=A_ (cK.o.keep λb u=>bh b (ba.o b (by simp[u])).2);have bd:=A_ ((bh aq dh).trans dd);have be:=A_ aD;have ap:=A_ (aT.below au);clear dG bh au aD cB cD cE cG cH cI cv fY fZ f0 f1 b8 cJ cK dd ay cP aT cO bU dk dV;obtain⟨aH,⟨a0,aV,aW⟩,-⟩:=ap.ra;obtain⟨aI,⟨aX,aY,b2⟩,-⟩:=ap.rb;obtain⟨ag,-⟩:=B_ bd (j:=0) rfl;obtain⟨du,-⟩:=B_ bd (j:=1) rfl;obtain⟨dv,-⟩:=B_ bd (j:=2) rfl;obtain⟨bp,-⟩:=B_ be (j:=0) rfl;obtain⟨bq,-⟩:=B_ be (j:=1) rfl;obtain⟨br,-⟩:=B_ be (j:=2) rfl;simp at ag du dv bp bq br;have cu:aq<dq.1.size:=E_ bd;have cv:aC<dq.1.size:=E_ be;go_wp2_with fail;refine W_ 6 kR kR kR kR kR ?_;simp only[GE,ET,GG,EH];iterate 2 refine C_ _ ?_
   refine D_ (MP.agg (A0k lx (B0i x ad Z))) ?_ ?_;·intro H O G D h;obtain⟨aE,aF⟩:=F_ D;simp at h;refine G_ ?_;exact H_ (A0x _ _ lx (B0i x ad Z) _ _ G (ap.al.below D) (el.below D))
   iterate 2 refine C_ _ ?_
   refine D_ (MP.agg (A0k rx (B3c x))) ?_ ?_;·intro H O G D h;obtain⟨aE,aF⟩:=F_ D;simp at h;refine G_ ?_;exact H_ (A0x _ _ rx (B3c x) _ _ G (ap.ar.below D) (em.below D))
   intro H O fS D h (ak:Hid _);simp at h;have q2:=h.2.2.1;have fH:=h.2.2.2.2.2;obtain⟨⟨X,-⟩,ed⟩:=q2;obtain⟨⟨bv,-⟩,co⟩:=fH;obtain⟨ae,al,ah,_,af,am,ai,_,ac,-,_,_⟩:=BK X;obtain⟨aN,a6,aZ,_,aO,a7,a1,_,ei,-,_,_⟩:=BK bv;rw[ac]at X;rw[ei]at bv;have aU:=ap.below D;have dY:=ap.ro.lt;have dn:=A_ ((aU.setL X (λb u=>by have:=(ed b u).1;refine⟨?_,?_,?_⟩<;>omega)).setR (bv.keep λb u=>A0p b (by have:=(co b u).1;omega)) (λb u=>by have:=(co b u).1;refine⟨?_,?_,?_⟩<;>omega));obtain⟨fj,⟨u0,fP,u2⟩,⟨fa,fb,fc⟩⟩:=aU.ra;obtain⟨fk,⟨fQ,fR,v2⟩,⟨fd,fe,ff⟩⟩:=aU.rb;have gn:=aU.ne;clear h ak X bv ed co D aU ap a0 aV aW aX aY b2 ag du dv bp bq br cu cv aH aI dY;generalize O 2=fK at *;generalize O 5=fL at *;go_upto_region 9 with fail;obtain⟨f4,ca⟩:∃ y,y=(((((fS.setCell ⟨ga,0,I⟩ (AC (A0k lx (B0i x ad Z)).1.1)).setCell ⟨ga,1,I⟩ (S ae al ah)).setCell ⟨ga,2,I⟩ (S af am ai)).setCell ⟨gb,0,I⟩ (AC (A0k rx (B3c x)).1.1)).setCell ⟨gb,1,I⟩ (S aN a6 aZ)).setCell ⟨gb,2,I⟩ (S aO a7 a1):=⟨_,rfl⟩
   rw[<-ca]at dn;rw[<-ca];have eO:=A_ (show A0k lx (B0i x ad Z)=B3x xs (i+1)/\A0k rx (B3c x)=B2i xs (i+1) by rw[B3x,B2i,ds.o,e0.o,e1.o,<-bi.o.1,<-bi.o.2];exact⟨rfl,rfl⟩);clear ca u0 fP u2 fQ fR v2 fa fb fc fd fe ff fj fk ac ei;generalize A0k lx (B0i x ad Z)=fv at *;generalize A0k rx (B3c x)=fN at *;go_wp2_with fail;go_roundg g;case measure=>omega
   case rel=>exact⟨i+1,g',dw,fv,fN,ae,al,ah,af,am,ai,fK,aN,a6,aZ,aO,a7,a1,fL,fl,gN,rfl,eO,dn⟩
  obtain rfl:n=i:=oS;have fn:¬ ((n:Int)<n):=oS;clear dZ bH;go_upto_if 59 with fail;go_cut [6] (λs6 wx=>∃ N:Nat,s6=S (QL ⟨gr,0,I⟩) N cr/\Hid (N=(if cl then n else n+1))/\N<=n+1/\Hid (FlSt w wx ga gb gr (n+1) cr (A2h xs n) lx P1 p1 q1 P2 p2 q2 rl rx Q1 k1 l1 Q2 k2 l2 rr));case first =>
   cases cl;·go_wp2_with fail;go_meet;exact⟨n+1,rfl,rfl,BH _,W⟩
   obtain⟨y,bZ,cx,b4,b0,cy,b5,dx,ab,aK,aL,ac,-,-,-,aj,-,dY⟩:=W.o.ro.elem (by omega:n<n+1);obtain⟨bI,cj⟩:=eB rfl;rw[A0e ab]at bI cj;have V:=ratOkB_iff.1 bI;have an:=A_ aj;have eP:=A_ (show NegOk y.1 from(bigOkB_iff.1 V.1).2);have ew:=A_ V.mag;have ex:=A_ (C6v bI);have eU:=A_ cj;have gp:(n:Int)<(n:Int)+1:=oS;have gl:(0:Int)<=n:=oS;clear ab aj bI cj V;go_upto_region 12 with fail;refine Code.new λeY bj=>?_;obtain⟨ag,-,aw⟩:=bx bj.k;have aa:=A2p _ y _ eY (an.below bj.b);rw[ex.o]at aa;go_wp2_with fail;refine aa.mono ?_;clear aa aK aL ac ag aw;rintro _ fV ⟨rfl,cf⟩;have cU:=A_ (AI bj.b cf);obtain⟨ag,-,aw⟩:=bx (A0z bj.k cf);have aa:=A7y _ y _ fV (an.below cU) ew eP;rw[eU.o]at aa;go_wp2_with fail;refine aa.mono ?_;clear aa cf;rintro _ bO ⟨rfl,dT⟩;have T:=A_ ((W.below cU).below dT);have fi:=T.ro.cap;have f9:(n:Int)<=(cr:Int):=oS;have gc:¬ (cr=0):=oS;clear dT ag aw W fi;go_wp2_with fail;go_meet;exact⟨n,rfl,rfl,Nat.le_succ _,T⟩
  case rest =>
  obtain⟨N,rfl,dD,fh,ef⟩:=hcut;rename J=>bO;rename (∀ (a:Act) (w:J),Code.wp _ _ _ a w->_)=>dz;refine dz _ _ ?_;clear dz W;have T:=A_ ef.o;have bW:=A_ (show RR (λb=>b=gr) bO gr N cr ((A2h xs n).take N)from(T.ro.take fh).weaken (bad':=λb=>b=gr) (λb _ E=>.inl E) rfl);obtain⟨-,⟨a0,aV,aW⟩,-⟩:=T.ra;obtain⟨-,⟨aX,aY,b2⟩,-⟩:=T.rb;have aH:=T.ra.1;have aI:=T.rb.1;clear ef;go_wp2_with fail;refine(A8m _ _ lx rx _ _ bO T.al T.ar).mono ?_;rintro _ fT ⟨gw,gq,rfl,cg,-,dQ⟩;obtain⟨ae,al,ah,_,af,am,ai,_,rfl,-,_,_⟩:=BK cg;have c6:=A_ cg;have bR:=A_ dQ;clear cg dQ a0 aV aW aX aY b2;go_wp2_with fail;refine(D3c _ (A3u lx rx) _ fT c6).mono ?_;rintro _ fU ⟨gx,fO,rfl,bD,d7,dR⟩;obtain⟨aN,a6,aZ,_,aO,a7,a1,_,rfl,-,_,_⟩:=BK bD;obtain⟨bK,cp⟩:∃ y,C3m (A3u lx rx)=y:=⟨_,rfl⟩
  rw[cp]at bD ⊢;have ez:=A_ (show A9c xs cl=((A2h xs n).take N).map (λr=>A0k r bK) by unfold A9c D7a;rw[eJ.o,<-bi.o.1,<-bi.o.2,cp,dD.o]);have c7:=A_ bD;have bS:=A_ (AI bR dR);have eT:=A_ (show ∀ b∈fO,bO.1.size<=b from λb u=>by have:=(d7.2 b u).1;have:=bR.size;omega);clear bD d7 dR cp c6 bR;go_upto_region 16 with fail;refine Code.new λeX bl=>?_;have cY:=A_ (AI bS bl.b);have eM:=A_ bl.k;have en:=A_ (c7.below bl.b);have eA:=A_ bS.size;generalize fU.1.size=gs at *;have dm:=A_ (bW.below cY);have cW:=A_ (AI T.bl cY);have eR:=A_ T.nr;have c1:=A_ T.ro.lt;have eS:=A_ (show((A2h xs n).take N).length=N from bW.len);generalize (A2h xs n).take N=di at *;have f7:N<=49:=oS;clear T bW c7 bS bl dD;go_wp2_with fail;go_loopg [83] N (λg s w2=>∃ j:Nat,j+g=N/\s=QS .i64 j/\Hid (RR (λb=>b=gr) w2 gr N cr (C3q (λr=>A0k r bK) di j))/\Hid (eX.grownBy w2 (QL gr)));case atStart=>exact⟨0,oS,rfl,by rw[show C3q _ _ 0=_ by unfold C3q;rw[ET,LJ,EH,List.nil_append]];exact dm,B3a _ _⟩
  case round =>
   clear dm;obtain⟨j,d0,rfl,bn,bc⟩:=hrel;rename J=>w2;have bG:=bn.lt;have eL:=A_ (B8b eM bc (by have:=eA.o;have:=c1.o;omega));have ek:=A_ (en.keepG bc (λE=>by have:=eT _ E;have:=c1.o;omega));have er:=A_ (cW.grown bc cW.size (λk fq=>by injection fq with E;subst E;exact eR));rcases BN j N with a5|a5
   ·have fp:(j:Int)<(N:Int):=oS
    have gi:(0:Int)<=j:=oS;obtain⟨g,rfl⟩:∃ g,gk=g+1:=⟨gk - 1,oS⟩
    have fo:=A_ (by omega:j+1+g=N);obtain⟨y,bZ,cx,b4,b0,cy,b5,dx,ab,aK,aL,ac,-,-,-,aj,-,-⟩:=bn.elem a5;rw[C6z,if_neg oS]at ab;have eK:=A_ ab;have an:=A_ aj;clear d0 ab aj;go_upto_region 19 with fail;refine Code.new λeZ ao=>?_;obtain⟨ag,-,aw⟩:=bx ao.k;obtain⟨bp,-,cw⟩:=bx (A0z eL ao.b);clear aK aL ac;go_wp2_with fail;refine(A0x _ _ y bK _ _ eZ (an.below ao.b) (ek.below ao.b)).mono ?_;rintro _ wa ⟨gv,cA,rfl,cc,d6,dO⟩;obtain⟨eV,fy,e8,_,eW,fz,e9,_,rfl,-,_,_⟩:=BK cc;have cR:=A_ (AI ao.b dO);have bm:=bn.below cR;obtain⟨_,_,_,_,_,_,_,_,-,aK,aL,ac,gz,gA,gC,-,-,gd⟩:=bm.elem a5;have dl:=A_ (bm.set a5 cc (λb u e=>by have:=(d6.2 b u).1;have:=ao.b.size;omega));rw[E4z eK.o]at dl;clear cc d6 dO ag bp aw cw bm ao;go_wp2_with fail;go_roundg g;case measure=>omega
    case rel=>exact⟨j+1,fo,gN,dl,A5y (A5y (A5y (E1s bc cR)))⟩
   obtain rfl:N=j:=oS;have fp:¬ ((N:Int)<(N:Int)):=oS;have ey:=A_ (by rw[ez.o,<-E4o,eS.o]:C3q (λr=>A0k r bK) di N=A9c xs cl);obtain⟨e4,cq,-⟩:=bn.sl;rw[ey.o]at cq;have db:=A_ cq;clear d0 a5 cq;go_wp2_with fail;refine(B4r _ _ cr (A9c xs cl) e4 w2 db.o oS eE.o).mono ?_;rintro _ gy ⟨rfl,ce⟩;have eH:=A_ (db.below ce);have et:=A_ (AI er ce);clear ce;go_wp2;refine BI (v:=.tuple #[S (QL ⟨gr,0,I⟩) N cr,AC AD]) (by simp[BO,results191,go_sem, *]) rfl ?_;exact⟨_,_,_,_,rfl,eH,et⟩
structure FanD (p:TProblem) (us:List TRat) (q:Int) (f:TFan):Prop where
 tr:∀ k∈f.triangles,0<=k/\k<p.1.triangles.length/\B6x (p.1.triangles.getD k.toNat A4p) q=AD
 tl:f.triangles.length<=48
 t1:1<=f.triangles.length
 sn:f.spokes.length=f.triangles.length+(if f.closed then 0 else 1)
 si:∀ i∈f.spokes,0<=i/\i<(P_ p.1.triangles).length
 cl:f.closed=AD->J_ ((A2h (A1h p us f q) f.triangles.length).getD f.triangles.length A0h)=AD/\A2v ((A2h (A1h p us f q) f.triangles.length).getD f.triangles.length A0h)=0
 ok:(A6f p us f q).any A2e=AF
def D9x (w:J) (xs:List TRat) (e:Ending) (w':J):Prop:=∃ F m cF bF,e=.returned (.tuple #[S F m cF,AC AD])/\Sl w' F m cF xs bF/\(∀ b∈bF,w.1.size<=b)/\Bw w w'
theorem D0j (p:TProblem) (us:List TRat) (f:TFan) (q:Int):∀ x∈A6f p us f q,B4q x:=by
 intro x b;unfold A6f A9c at b;obtain⟨r,_,rfl⟩:=FM.1 b;exact C9z _ _
theorem D0p (p:TProblem) (us:List TRat) (f:TFan) (q:Int):(A6f p us f q).length<=f.triangles.length+1:=by
 unfold A6f A9c;rw[KU,GH,B7o];have:(A1h p us f q).length=f.triangles.length:=by rw[A1h,KU]
 omega
theorem D6q {p:TProblem} {us:List TRat} {f:TFan} {q:Int} (E:LinD p us) (u:∀ k∈f.triangles,0<=k/\k<p.1.triangles.length/\B6x (p.1.triangles.getD k.toNat A4p) q=AD):∀ x∈A1h p us f q,∃ a b c,x.list=[a,b,c]/\A7m [a,b,c]=AD:=by
 intro x h;unfold A1h at h;obtain⟨k,D,rfl⟩:=FM.1 h;obtain⟨G,H,_⟩:=u k D;exact⟨_,_,_,rfl,(E.tri _ (B9b oS)).2.2.pr⟩
theorem C9c (v:AJ) (p:TProblem) (b:List Nat) (xs ys:List Int) (B:Option AH) (n d:Nat) (us:List TRat) (aU:List Nat) (bh:AJ) (f:TFan) (bi:List Nat) (q:Int) (w:J) (a2:Agg w v p b) (bg:Sl w B n d us aU) (aY:Agg w bh f bi) (bf:ProbI p xs ys) (aZ:LinD p us) (O:p.3.length=3) (Y:FanD p us q f) :
  Calls prog 128 #[v,S B n d,bh,QS .i64 q] w (D9x w (A6f p us f q)):=by
 have ba:=A_ a2;have a9:=A_ bg;have a5:=A_ aZ;have a6:=A_ bf;have a8:=A_ O;have af:=A_ Y;have aJ:=A_ aY;obtain⟨Z,am,ag,br,aa,n1,ah,bs,ab,n2,ai,bt,ac,an,c3,bu,rfl,rfl,bj,bl,bm,bn⟩:=TProblem.agg a2;obtain⟨ad,h,aj,bp,ae,aE,ak,bq,rfl,rfl,al,bc⟩:=TFan.agg aY;have aD:=A_ al.1;have bd:h<=48:=by rw[<-al.1];exact Y.tl
 have be:1<=h:=by rw[<-al.1];exact Y.t1
 have ay:aE=h+(if f.closed then 0 else 1):=by rw[<-al.1,<-bc.1];exact Y.sn
 obtain⟨cl,ax⟩:∃ c,f.closed=c:=⟨_,rfl⟩
 have a7:=A_ (D6q aZ Y.tr);have aB:=A_ (by rw[<-ax,<-al.1];exact Y.cl:cl=AD->J_ ((A2h (A1h p us f q) h).getD h A0h)=AD/\A2v ((A2h (A1h p us f q) h).getD h A0h)=0);have aC:=A_ (by rw[A6f,ax]:A6f p us f q=A9c (A1h p us f q) cl);have bo:=A_ ax;rw[ax]at ay aJ ⊢;clear bj bl bm bn a2 bg aZ bf O Y al bc aY ax;cases cl
 ·obtain rfl:aE=h+1:=by simpa using ay
  clear ay;go_enter func128,ntmps128;go_upto_region 1 with fail;obtain⟨u,D⟩:∃ u,u=(w.alloc (AK #[S Z am ag,S aa n1 ah,S ab n2 ai,S ac an c3] 29)).alloc (AK #[S ad h aj,S ae (h+1) ak,AC AF] 187):=⟨_,rfl⟩
  have E:=A_ (by rw[D];exact(AV _).alloc sI _:Bw w u);have aN:=A_ (by rw[D];exact K_ (CF w _) (AV _):u.1[w.1.size]?=QL (AK #[S Z am ag,S aa n1 ah,S ab n2 ai,S ac an c3] 29));have ap:=A_ (show u.1[w.1.size+1]?=QL (AK #[S ad h aj,S ae (h+1) ak,AC AF] 187) by rw[D];have:=CF (w.alloc (AK #[S Z am ag,S aa n1 ah,S ab n2 ai,S ac an c3] 29)) (AK #[S ad h aj,S ae (h+1) ak,AC AF] 187);rwa [EW]at this);rw[<-D];clear D;obtain⟨aV,-,-⟩:=bx aN;obtain⟨G,-,-⟩:=bx ap;have T:=C2u _ p _ xs ys B n d us aU _ f _ q u (ba.below E) (a9.below E) (aJ.below E) a6 a5 a8 af.tr af.tl;rw[aD.o]at T;go_wp2_with fail;refine T.mono ?_;clear T;rintro _ a3 ⟨A,c,aR,rfl,O,X⟩;have aF:=A_ (AI E X);have W:=A_ (K_ ap X);have aK:=A_ O;clear O X aV G;obtain⟨G,-⟩:=B_ W (j:=0) rfl;obtain⟨aq,-⟩:=B_ W (j:=1) rfl;obtain⟨ar,-⟩:=B_ W (j:=2) rfl;simp at G aq ar;go_wp2_with fail;refine(C7q A h c (A1h p us f q) aR AF a3 aK.o bd be a7.o (λaW=>by first|exact aB.o aW|exact aB.o trivial) (by rw[<-aC.o];exact af.ok)).mono ?_;rintro _ a4 ⟨aH,m,aS,aP,rfl,H,au⟩;rw[<-aC.o]at H;have aL:=A_ H;have ao:=A_ (AI aF au);have a1:m<=144:=by rw[<-H.1];have:=D0p p us f q;rw[aD.o]at this;omega
  clear H au G aq ar;go_wp2_with fail;refine(A2l aH m aS (A6f p us f q) aP a4 aL a1 (D0j p us f q)).mono ?_;rintro _ w3 ⟨aI,k,aT,aQ,rfl,aA,az,aw⟩;have aM:=A_ aA;have aG:=A_ (AI ao aw);have aO:=A_ (show ∀ b∈aQ,w.1.size<=b from λb aX=>by have:=(az.2 b aX).1;have:=ao.size;omega);clear aA az aw;go_wp2;refine BI (v:=.tuple #[S aI k aT,AC AD]) (by simp[BO,results128,go_sem, *]) rfl ?_;exact⟨_,_,_,_,rfl,aM,aO,aG⟩
 obtain rfl:h=aE:=by have:aE=h:=(by simpa using ay);exact this.symm
 clear ay;go_enter func128,ntmps128;go_upto_region 1 with fail;obtain⟨u,D⟩:∃ u,u=(w.alloc (AK #[S Z am ag,S aa n1 ah,S ab n2 ai,S ac an c3] 29)).alloc (AK #[S ad h aj,S ae h ak,AC AD] 187):=⟨_,rfl⟩
 have E:=A_ (by rw[D];exact(AV _).alloc sI _:Bw w u);have aN:=A_ (by rw[D];exact K_ (CF w _) (AV _):u.1[w.1.size]?=QL (AK #[S Z am ag,S aa n1 ah,S ab n2 ai,S ac an c3] 29));have ap:=A_ (show u.1[w.1.size+1]?=QL (AK #[S ad h aj,S ae h ak,AC AD] 187) by rw[D];have:=CF (w.alloc (AK #[S Z am ag,S aa n1 ah,S ab n2 ai,S ac an c3] 29)) (AK #[S ad h aj,S ae h ak,AC AD] 187);rwa [EW]at this);rw[<-D];clear D;obtain⟨aV,-,-⟩:=bx aN;obtain⟨G,-,-⟩:=bx ap;have T:=C2u _ p _ xs ys B n d us aU _ f _ q u (ba.below E) (a9.below E) (aJ.below E) a6 a5 a8 af.tr af.tl;rw[aD.o]at T;go_wp2_with fail;refine T.mono ?_;clear T;rintro _ a3 ⟨A,c,aR,rfl,O,X⟩;have aF:=A_ (AI E X);have W:=A_ (K_ ap X);have aK:=A_ O;clear O X aV G;obtain⟨G,-⟩:=B_ W (j:=0) rfl;obtain⟨aq,-⟩:=B_ W (j:=1) rfl;obtain⟨ar,-⟩:=B_ W (j:=2) rfl;simp at G aq ar;go_wp2_with fail;refine(C7q A h c (A1h p us f q) aR AD a3 aK.o bd be a7.o (λaW=>by first|exact aB.o aW|exact aB.o trivial) (by rw[<-aC.o];exact af.ok)).mono ?_;rintro _ a4 ⟨aH,m,aS,aP,rfl,H,au⟩;rw[<-aC.o]at H;have aL:=A_ H;have ao:=A_ (AI aF au);have a1:m<=144:=by rw[<-H.1];have:=D0p p us f q;rw[aD.o]at this;omega
 clear H au G aq ar;go_wp2_with fail;refine(A2l aH m aS (A6f p us f q) aP a4 aL a1 (D0j p us f q)).mono ?_;rintro _ w3 ⟨aI,k,aT,aQ,rfl,aA,az,aw⟩;have aM:=A_ aA;have aG:=A_ (AI ao aw);have aO:=A_ (show ∀ b∈aQ,w.1.size<=b from λb aX=>by have:=(az.2 b aX).1;have:=ao.size;omega);clear aA az aw;go_wp2;refine BI (v:=.tuple #[S aI k aT,AC AD]) (by simp[BO,results128,go_sem, *]) rfl ?_;exact⟨_,_,_,_,rfl,aM,aO,aG⟩
end Go.Proofs.YtbkilakncnlebaaGreatDoor.X
