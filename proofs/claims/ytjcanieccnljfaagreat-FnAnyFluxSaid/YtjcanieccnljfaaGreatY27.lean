/- A part of the proof. -/
import Derived.Test.YtjcanieccnljfaaGreatY26
import Derived.Great.BuildSlice
set_option linter.constructorNameAsVariable false
set_option maxHeartbeats 16000000
set_option maxRecDepth 10000
open Bool renaming false→AH,true→AF
open Go renaming Addr→AJ,Value→AU,World→AD,bodyPost_ret→CK,heap_alloc_new→DB,maxLen→BS,results→CO
open Go.Obj renaming cells→BG
open Go.RowKit.Below renaming heap_setCell→GA,refl→DI
open Go.Value renaming agg→BJ,bool→J,int→RH,slice→S
open Go.World renaming size_alloc→FU
open Go.XB.Below renaming box→BP,next→BH
open Go.XB.TRat renaming agg→CF
open List renaming drop_succ_cons→GU,drop_zero→FF,getElem?_append_right→MC,getElem?_eq_none→ML,getElem?_map→IR,length_map→JV,length_take→JO,map_nil→NH,mem_map→JX,mem_of_getElem?→DH,size_toArray→PQ,take_succ_cons→GT,take_zero→FM
open Nat renaming le_refl→CE,lt_or_ge→CG
open Option renaming none→I,some→QZ
namespace Go.Proofs.YtjcanieccnljfaaGreat.X
open Go.RowKit Go.XB Go.XN
theorem D4d:∀ (vs us b:List AU) (i:Nat),i=b.length->us.length=vs.length->(vs.zipIdx i).foldl (fun(cs:Array AU) (x:AU×Nat)=>cs.setIfInBounds (0+x.2) x.1) (b++us).toArray=(b++vs).toArray
 | [],us,b,i,_,hl=>by
  obtain rfl:us=[]:=List.eq_nil_of_length_eq_zero hl
  rfl
 |v::vs,[],b,i,_,hl=>by simp at hl
 |v::vs,u::us,b,i,hi,hl=>by
  rw[List.zipIdx_cons,List.foldl_cons]
  have e:(b++u::us).toArray.setIfInBounds (0+i) v=((b++[v])++us).toArray:=by
   subst hi;simp
  simp only[e]
  rw[D4d vs us (b++[v]) (i+1) (by simp[hi]) (by simpa using hl)]
  simp
theorem A5l {n:Nat} {L:List AU} (u:L.length=n) {cells:Array AU} (h:cells.size=n):Instr.fill (λi=>QZ (i*n,n)) cells [(0,BJ L.toArray)]=QZ L.toArray:=by
 have b:=D4d L cells.toList [] 0 rfl (by simp[h,u]);simp only[List.nil_append]at b;unfold Instr.fill;simp only[Nat.zero_mul,Value.cells,PQ,u,h];rw[if_neg sI];unfold Instr.fill;rw[<-Array.foldl_toList];simp only[Array.toList_zipIdx]at *;exact congrArg QZ (by simpa using b)
end Go.Proofs.YtjcanieccnljfaaGreat.X
namespace Go
open Go.RowKit Go.XB Go.Proofs.YtjcanieccnljfaaGreat.X
theorem D3u {P:Program} {D:Array Oper} {rest:List Oper} {o:Oper} {a:Act} {w:AD} {Q:Exit->Act->AD->Prop} (E:o.guard=I) (t e:TypeId) (x:Operand) (H:o.op=.buildSlice t 1 #[(0,x)])
  (L:List AU) (b:TypeInfo) (z:AU) (O:P.underlying t=QZ (.slice e)) (G:P.info? e=QZ b) (W:b.zero=QZ z) (u:b.size=L.length) (X:0<L.length) (Y:L.length<=1000)
  (T:a.eval x=BJ L.toArray)
  (h:wpList P D Q rest (a.put o.dst (S (QZ ⟨w.1.size,0,I⟩) 1 1)) (w.alloc (BG L.toArray e))):wpList P D Q (o::rest) a w:=by
 refine wpList_buildSlice E t e 1 _ H _ b z O G W (by rw[u];omega) (by rw[u];omega) ?_ h;rw[u];simp only[List.map_toArray,List.map_cons,NH,T];exact A5l rfl sI
end Go

namespace Go.Proofs.YtjcanieccnljfaaGreat.X
open Go.RowKit Go.XB Go.XN Proofs.Tryz
theorem E7z:(prog.info? 215).map (λi=>(i.zero,i.size,i.bytes))=QZ (QZ (BJ (S I 0 0::J AH::S I 0 0::S I 0 0::J AH::S I 0 0::S I 0 0::J AH::S I 0 0::S I 0 0::J AH::S I 0 0::S I 0 0::J AH::S I 0 0::S I 0 0::J AH::S I 0 0::S I 0 0::J AH::S I 0 0::S I 0 0::J AH::S I 0 0::S I 0 0::J AH::S I 0 0::S I 0 0::J AH::S I 0 0::S I 0 0::J AH::S I 0 0::S I 0 0::[]).toArray),34,640):=kR
attribute [local go_sem] L_ Go.XB.opAt N_ M_ Region.wanted yielded
attribute [local simp] N_ M_ MP.eq MP.agg MP.aggB MP.aggN MP.sl MP.box MP.slrow A0r
theorem C8p {p:TProblem} {us:List TRat} {f:TFan} {v:Int} {i:Nat} {k:Int} {t:TTri} (h:f.triangles[i]?=QZ k) (b:p.1.triangles[k.toNat]?=QZ t) :
  (A1h p us f v).take (i+1)=(A1h p us f v).take i++[A5g p us t v]:=by
 have e:(A1h p us f v)[i]?=QZ (A5g p us t v):=by unfold A1h;rw[IR,h];simp[List.getD_eq_getElem?_getD,b]
 rw[List.take_add_one,e];rfl
theorem C2u (v:AU) (p:TProblem) (b:List Nat) (xs ys:List Int) (B:Option AJ) (n d:Nat) (us:List TRat) (aR:List Nat) (bu:AU) (f:TFan) (bU:List Nat) (q:Int) (w:AD) (aV:Agg w v p b) (aU:Sl w B n d us aR) (an:Agg w bu f bU) (bn:ProbI p xs ys) (aq:LinD p us) (X:p.3.length=3)
  (bk:∀ k∈f.triangles,0<=k/\k<p.1.triangles.length/\B6x (p.1.triangles.getD k.toNat A4p) q=AF) (bj:f.triangles.length<=48) :
  Calls prog 132 #[v,S B n d,bu,RH .i64 q] w (λe w'=>∃ A c bs,e=.returned (.tuple #[S A f.triangles.length c,J AF])/\Sl w' A f.triangles.length c (A1h p us f q) bs/\Bw w w'):=by
 have aK:=A_ aV;have ba:=A_ aU;have a8:=A_ aq;have bG:=A_ bn;have bK:=A_ X;have bD:=A_ bk;have bF:=A_ (by rw[<-aq.ul];exact aU.1.symm:n=p.1.1.length);obtain⟨aB,aX,aN,cz,aC,n1,aO,cA,aD,n2,aP,cB,aE,aY,c3,cD,rfl,rfl,ca,ar,cb,cc⟩:=TProblem.agg aV;have bL:=A_ ar.1;have bJ:=A_ ar;obtain⟨aI,u,cf,cm,aJ,aZ,aQ,cn,rfl,rfl,am,b3⟩:=TFan.agg an;have bB:=A_ am;have a6:=A_ am.1;have cv:u<=48:=by rw[<-am.1];exact bj
 have cw:(u:Int)<=48:=oS;have ct:n1<=48:=by rw[<-ar.1];exact aq.t48
 have cu:(n1:Int)<=48:=oS;rw[a6.o];obtain⟨bt,bm,bq,br,cg⟩:=info_parts E7z;clear ca ar cb cc aV aU aq bn X bk am b3 an bj;go_enter func132,ntmps132;go_upto_region 1 with fail;obtain⟨O,ae⟩:∃ O,O=(w.alloc (BG #[S aB aX aN,S aC n1 aO,S aD n2 aP,S aE aY c3] 29)).alloc (BG #[S aI u cf,S aJ aZ aQ,J f.closed] 100):=⟨_,rfl⟩
 have aG:=A_ (by rw[ae];exact(BP _).alloc sI _:Bw w O);have W:=A_ (by rw[ae];exact K_ (DB w _) (BP _):O.1[w.1.size]?=QZ (BG #[S aB aX aN,S aC n1 aO,S aD n2 aP,S aE aY c3] 29));have bN:=A_ (show O.1[w.1.size+1]?=QZ (BG #[S aI u cf,S aJ aZ aQ,J f.closed] 100) by rw[ae];have:=DB (w.alloc (BG #[S aB aX aN,S aC n1 aO,S aD n2 aP,S aE aY c3] 29)) (BG #[S aI u cf,S aJ aZ aQ,J f.closed] 100);rwa [FU]at this);rw[<-ae];clear ae;obtain⟨h,-⟩:=B_ W (j:=0) rfl;obtain⟨D,-⟩:=B_ W (j:=1) rfl;obtain⟨ac,-⟩:=B_ W (j:=2) rfl;obtain⟨ad,-⟩:=B_ W (j:=3) rfl;simp at h D ac ad;have E:w.1.size<O.1.size:=E_ W;go_wp2_with fail;refine(C8z _ p _ xs ys B n d us aR O (aK.below aG) bG (ba.below aG) a8.uo bF).mono ?_;rintro _ ag ⟨rfl,al⟩;have a2:=A_ (BH aG al);have bM:=A_ (K_ W al);have bc:=A_ (K_ bN al);have be:=A_ (PendS.start (α:=TPiece) (e:=215) a2);clear al h D ac ad E;have aL:=A_ (K_ bc (BP (w:=ag) (BG #[] 215)));obtain⟨h,-⟩:=B_ aL (j:=0) rfl;simp at h;have E:w.1.size+1<(ag.alloc (BG #[] 215)).1.size:=E_ aL;have bI:=A_ (by rw[A1h,JV,a6.o]:(A1h p us f q).length=u);go_wp2_with fail;go_loopg [10,24] u (λg s10 s24 wr=>∃ (i gB cap:Nat),i+g=u/\s24=RH .i64 i/\s10=S (QZ ⟨gB,0,I⟩) i cap/\Hid (PendS w ag 215 wr gB i cap ((A1h p us f q).take i)));case atStart=>exact⟨0,ag.1.size,0,oS,rfl,rfl,be.o⟩
 case round =>
  clear be aL h E;obtain⟨i,gB,cap,bl,rfl,rfl,T⟩:=hrel;have H:=A_ T.bw;have a5:=A_ T.bb;rcases CG i u with ap|ap
  ·have b6:(i:Int)<u:=oS
   have co:(0:Int)<=i:=oS;obtain⟨g,rfl⟩:∃ g,gk=g+1:=⟨gk - 1,oS⟩
   have b5:=A_ (by omega:i+1+g=u);have bv:=A_ (by unfold BS;omega:i+1<=BS);have bz:=A_ (by omega:(i+1)*640<=140737488355328);obtain⟨ck,cx,x,rfl,bX,aW,b0,b7⟩:=B9i (bB.below H) ap;obtain⟨cd,ce,ao⟩:=bD x (DH aW);obtain⟨G,rfl⟩:∃ G:Nat,x=(G:Int):=⟨x.toNat,oS⟩
   rw[Int.toNat_natCast]at ao;have b8:G<n1:=by rw[<-bL.o];omega
   obtain⟨bf,cy,t,rfl,bY,au,aw,ax,ay,az,aA,bh⟩:=TTri.elemA (bJ.below H) b8;rw[A0e au]at ao;have bE:=A_ au;have a7:=A_ ao;have bA:=A_ bh;have bP:=A_ aw;have bQ:=A_ ax;have bR:=A_ ay;have bS:=A_ az;have bT:=A_ aA;have bO:=A_ (C8p (us:=us) (v:=q) aW (by rw[Int.toNat_natCast];exact au));have cq:(G:Int)<n1:=oS;have cp:(0:Int)<=G:=oS;have aH:=A0s (G:Int) 0 ((n1:Int) - 1) wr;rw[show inB 0 (G:Int) ((n1:Int) - 1)=AF by unfold inB;simp;omega]at aH;have ai:=A_ (K_ bM a5);have cj:=A_ (K_ bc a5);obtain⟨h,-⟩:=B_ ai (j:=0) rfl;obtain⟨D,-⟩:=B_ ai (j:=1) rfl;simp at h D;have E:w.1.size<wr.1.size:=E_ ai;clear bl ap aW cd ce ao au bh b7;go_wp2_with fail;refine aH.mono ?_;clear aH;rintro _ wa ⟨rfl,aS⟩;have Z:=A_ aS;have aa:=A_ (K_ ai aS);clear aS h D E aw ax ay az aA b0 bX;obtain⟨h,-⟩:=B_ aa (j:=0) rfl;obtain⟨D,-⟩:=B_ aa (j:=1) rfl;simp at h D;have E:w.1.size<wa.1.size:=E_ aa;have ch:=λo=>Z.cell (p:=⟨bf,o,I⟩) bY;have aw:=bP.o;have ax:=bQ.o;have ay:=bR.o;have az:=bS.o;have aA:=bT.o;have bZ:bf<wa.1.size:=by have:=Z.size;omega
   go_wp2_with fail;refine(B5z _ t [] q wa (bA.below Z) a7).mono ?_;rintro _ wb ⟨rfl,aT⟩;have aF:=A_ (BH Z aT);have ab:=A_ (K_ aa aT);clear aT h D E aw ax ay az aA bZ Z aa ch;obtain⟨h,-⟩:=B_ ab (j:=0) rfl;obtain⟨D,-⟩:=B_ ab (j:=1) rfl;obtain⟨ac,-⟩:=B_ ab (j:=2) rfl;obtain⟨ad,-⟩:=B_ ab (j:=3) rfl;simp at h D ac ad;have E:w.1.size<wb.1.size:=E_ ab;have a4:=A_ (BH H aF);go_wp2_with fail;refine(D8g _ p _ B n d us aR G q t wb (aK.below a4) (ba.below a4) a8 bK bE a7).mono ?_;rintro _ Y ⟨af,s,rfl,bV,bp,bi⟩;obtain⟨L,rfl,ak⟩:=bV;have aM:=A_ (show L.length=34 from Dat.len ak);have a1:=A_ (show Dat.at_ (Y.alloc (BG L.toArray 215)) L (A5g p us t q) s from Dat.keep ak λb bW=>(BP _).block b (Dat.lt ak b bW));have a3:=A_ (show Bw wr (Y.alloc (BG L.toArray 215))from BH (BH aF bi) (BP _))
   have bd:=A_ (show gB∉s from λan=>by
    have cs:=T.lt;rcases bp gB an with aj|aj
    ·have:=aK.lt gB aj;have:=a2.size;omega
    have:=aF.size;omega)
   have a9:=A_ (show ∀ j af,L[j]?=QZ af->(Y.alloc (BG L.toArray 215)).cell? ((⟨Y.1.size,0,I⟩:AJ).add j)=QZ af from λj af aj=>A0a (DB Y _) j af (by simpa using aj));clear ak bp bi h D ac ad E;go_wp2_with (first|(refine D3u rfl 170 215 _ rfl L bt _ underlying170 bm bq (by rw[aM.o];exact br) (by rw[aM.o];decide) (by rw[aM.o];decide) gD ?_)|(at_builtin;refine D2w rfl _ _ 170 rfl 215 bt _ 640 underlying170 bm bq br cg rfl T a3 gD ⟨Y.1.size,0,I⟩ 1 L (A5g p us t q) s gD a9 a1 bd bv bz ?_;intro g' bg ci bo b4 b9));have bH:=A_ (by rw[bO.o];exact bo:PendS w ag 215 ci g' (i+1) bg ((A1h p us f q).take (i+1)));clear bo b4 b9 a1 bd a9 a3 T;go_wp2_with fail;go_roundg g;case measure=>omega
   case rel=>exact⟨i+1,g',bg,b5,gN,rfl,bH⟩
  obtain rfl:i=u:=oS;have b6:¬ ((i:Int)<i):=oS;obtain⟨bs,X⟩:=T.sl;rw[List.take_of_length_le (by rw[bI.o];exact CE _)]at X;have ah:=A_ X;clear bl ap X;go_wp2;refine CK (v:=.tuple #[S (QZ ⟨gB,0,I⟩) i cap,J AF]) (by simp[CO,results132,go_sem, *]) rfl ?_;first|exact⟨_,_,_,rfl,ah.o,H.o⟩|exact⟨_,_,rfl,⟨_,ah.o⟩,H.o⟩|exact⟨_,_,⟨rfl,rfl⟩,⟨_,ah.o⟩,H.o⟩|exact⟨_,_,⟨_,ah.o⟩,H.o⟩|trace_state
end Go.Proofs.YtjcanieccnljfaaGreat.X

namespace Go.XB
open Go.RowKit
def MP.agg2 {α β:Type} [Dat α] [Dat β] (x:α) (y:β):MP:=⟨λv bs w=>∃ v1 v2 s1 s2,v=.tuple #[v1,v2]/\bs=s1++s2/\Agg w v1 x s1/\Agg w v2 y s2,λ_ _ _ _ hb h=>by
 obtain⟨v1,v2,s1,s2,e,z,h1,h2⟩:=h;exact⟨v1,v2,s1,s2,e,z,h1.below hb,h2.below hb⟩⟩
def MP.tup (u:AU):MP:=⟨λv bs _=>v=u/\bs=[]/\∃ a b,v=.tuple #[a,b],λ_ _ _ _ _ h=>h⟩
def MP.tupL (y:AU):MP:=⟨λv bs _=>bs=[]/\∃ b,y=.tuple #[v,b],λ_ _ _ _ _ h=>h⟩
def MP.tupR (y:AU):MP:=⟨λv bs _=>bs=[]/\∃ a,y=.tuple #[a,v],λ_ _ _ _ _ h=>h⟩
end Go.XB
namespace Go.Proofs.YtjcanieccnljfaaGreat.X
open Go.RowKit Go.XB Go.XN Proofs.Tryz
theorem E8p {bad:Nat->Prop} {w:AD} {u0 u1 u2:AU} {y:TRat} {s:List Nat} (h:Agg w (BJ #[u0,u1,u2]) y s) (E:∀ b∈s,¬ bad b) (H:bad w.1.size):RR bad (w.alloc (BG #[u0,u1,u2] 39)) w.1.size 1 1 [y]:=by
 have G:=A3x h;refine⟨[u0,u1,u2],[s],⟨rfl,.inr ⟨w.1.size,1,#[u0,u1,u2],rfl,Nat.zero_le _,DB w _,CE _,dE,rfl,rfl⟩⟩,⟨rfl,CE _,λk x O D u=>?_⟩,rfl,by simpa using E,H⟩;match k,D,u with
 |0,D,u =>
  simp at D u
  subst D;subst u
  exact Dat.keep G λb E=>(BP _).block b (Dat.lt G b E)
theorem D8z {w:AD} {g:Nat} {x:TRat} {P1:Option AJ} {n1 m1:Nat} {P2:Option AJ} {n2 m2:Nat} {t:TypeId} (h:w.1[g]?=QZ (BG #[J x.1.1,S P1 n1 m1,S P2 n2 m2] t)):RBox w g x P1 n1 m1 P2 n2 m2 :=
 ⟨E_ h,⟨(B_ h (j:=0) rfl).1,(B_ h (j:=1) rfl).1,(B_ h (j:=2) rfl).1⟩,⟨(B_ h (j:=0) rfl).2,(B_ h (j:=1) rfl).2,(B_ h (j:=2) rfl).2⟩⟩
theorem E4n {α:Type} [Dat α] {w:AD} {L:List AU} {x:α} {s:List Nat} (h:Agg w (BJ L.toArray) x s):Dat.at_ w L x s:=by
 obtain⟨b,e,u⟩:=h;have:b=L:=by simpa using e.symm
 rwa [this]at u
theorem B8k (w:AD) (r:Option Nat):w.grownBy w r:=⟨rfl,rfl,rfl,CE _,λ_ _ _=>rfl⟩
theorem A8f {X w w':AD} {r:Option Nat} (h:X.grownBy w r) (hb:Bw w w'):X.grownBy w' r :=
 ⟨hb.os.trans h.os,hb.tape.trans h.tape,hb.output.trans h.output,Nat.le_trans h.size hb.size,λk hk hn=>(hb.block k (Nat.lt_of_lt_of_le hk h.size)).trans (h.block k hk hn)⟩
theorem C4f {X w:AD} {g i j k:Nat} {v0 v1 v2:AU} (h:X.grownBy w (QZ g)):X.grownBy (((w.setCell ⟨g,i,I⟩ v0).setCell ⟨g,j,I⟩ v1).setCell ⟨g,k,I⟩ v2) (QZ g) :=
 ⟨h.os,h.tape,h.output,by simpa using h.size,λb hb hn=>by
  have hne:b≠g:=λe=>hn (by rw[e])
  exact(GA _ _ _ b (by simpa using hne)).trans ((GA _ _ _ b (by simpa using hne)).trans ((GA _ _ _ b (by simpa using hne)).trans (h.block b hb hn)))⟩
theorem RR.cap {bad:Nat->Prop} {w:AD} {g n cap:Nat} {xs:List TRat} (h:RR bad w g n cap xs):n<=cap:=by
 obtain⟨cells,fss,⟨_,u⟩,_⟩:=h;rcases u with⟨b,_⟩|⟨g',E,G,b,_,_,D,_⟩;·cases b
 injection b with _ _ e3;rw[e3];exact D
def C3q (f:TRat->TRat) (O:List TRat) (i:Nat):List TRat:=(O.take i).map f++O.drop i
theorem E2q (f:TRat->TRat) (O:List TRat) (i:Nat):(C3q f O i).length=O.length:=by
 unfold C3q;simp;omega
theorem C6z (f:TRat->TRat) (b:List TRat) (i j:Nat):(C3q f b i)[j]?=if j<i then(b[j]?).map f else b[j]?:=by
 unfold C3q;by_cases h:j<i
 ·rw[if_pos h]
  by_cases u:j<b.length;·rw[List.getElem?_append_left oR,IR,List.getElem?_take,if_pos h]
  rw[MC oR,ML oR,ML oS];rfl
 rw[if_neg h,MC oR,List.getElem?_drop];by_cases u:i<=b.length;·rw[JV,JO,Nat.min_eq_left u];congr 1;omega
 rw[ML oR,ML oS]
theorem E4z {f:TRat->TRat} {b:List TRat} {i:Nat} {y:TRat} (h:b[i]?=QZ y):(C3q f b i).set i (f y)=C3q f b (i+1):=by
 apply List.ext_getElem?;intro j;rw[List.getElem?_set,C6z,C6z,E2q];have E:=(List.getElem?_eq_some_iff.1 h).1;by_cases D:i=j;·subst D;rw[if_pos rfl,if_pos E,if_pos oS,h];rfl
 rw[if_neg D];by_cases u:j<i;·rw[if_pos u,if_pos oS]
 rw[if_neg u,if_neg oS]
theorem E4o (f:TRat->TRat) (O:List TRat):C3q f O O.length=O.map f:=by
 unfold C3q;simp
attribute [local go_sem] L_ Go.XB.opAt N_ M_ Region.wanted yielded
attribute [local simp] N_ M_ MP.eq MP.agg MP.aggB MP.aggN MP.sl MP.box MP.slbox MP.slrow MP.agg2 MP.tup MP.tupL MP.tupR A0r
theorem C7q (A:Option AJ) (n c:Nat) (xs:List TPiece) (bs:List Nat) (cl:Bool) (w:AD) (cv:Sl w A n c xs bs) (gn:n<=48) (gq:1<=n) (d2:∀ x∈xs,∃ a b c,x.list=[a,b,c]/\A7m [a,b,c]=AF)
  (dX:cl=AF->J_ ((A2h xs n).getD n A0h)=AF/\A2v ((A2h xs n).getD n A0h)=0) (d9:(A9c xs cl).any A2e=AH) :
  Calls prog 133 #[S A n c,J cl] w (λe w'=>∃ F m cF bF,e=.returned (.tuple #[S F m cF,J AF])/\Sl w' F m cF (A9c xs cl) bF/\Bw w w'):=by
 have eJ:=A_ cv;have eC:=A_ d2;have eB:=A_ dX;have eE:=A_ d9;have eK:=A_ cv.1;have gu:(n:Int)<=48:=oS;obtain⟨ft,fn,fs,aw,cz⟩:=info_parts B2r;clear cv d2 dX d9;go_enter func133,ntmps133;go_wp2_with fail;refine(A0l 0 w oG).mono ?_;rintro _ aK ⟨v1,a8,rfl,cb,d4,dM⟩;obtain⟨O1,fx,e7,_,O2,fy,e8,_,rfl,-,_,_⟩:=CF cb;have bT:=A_ cb;have c7:=A_ dM;have eH:=A_ (show ∀ b∈a8,w.1.size<=b from λb u=>(d4.2 b u).1);clear cb d4 dM;go_upto_region 2 with fail;obtain⟨aB,a2⟩:∃ y,y=aK.alloc (BG #[J (U_ 0).1.1,S O1 fx e7,S O2 fy e8] 39):=⟨_,rfl⟩
 have bX:=A_ (show RR (λb=>b=aK.1.size) aB aK.1.size 1 1 [U_ 0] by rw[a2];exact E8p bT (λb u e=>by have:=bT.lt b u;omega) rfl);have cY:=A_ (by rw[a2];exact BP _:Bw aK aB);have b3:=A_ (by rw[a2];simp:aB.1.size=aK.1.size+1);rw[<-a2];clear a2;obtain⟨b9,bD⟩:∃ y,aK.1.size=y:=⟨_,rfl⟩
 have c2:=A_ (by rw[<-bD];exact c7.size:w.1.size<=b9);have c0:=A_ (BH c7 cY);rw[bD]at bX b3;simp only[bD];clear bD cY;go_wp2_with fail;refine(A0l 0 aB oG).mono ?_;rintro _ w2 ⟨v2,ax,rfl,bz,d5,dN⟩;obtain⟨P1,p1,q1,_,P2,p2,q2,_,rfl,-,_,_⟩:=CF bz;have c5:=A_ bz;have aQ:=A_ dN;have db:=A_ (show ∀ b∈ax,aB.1.size<=b/\b<w2.1.size from λb u=>⟨(d5.2 b u).1,bz.lt b u⟩);clear bz d5 dN;go_wp2_with fail;refine(A0l 0 w2 oG).mono ?_;rintro _ w3 ⟨gy,cD,rfl,bA,d6,dO⟩;obtain⟨Q1,k1,l1,_,Q2,k2,l2,_,rfl,-,_,_⟩:=CF bA;have c6:=A_ bA;have aR:=A_ dO;have dc:=A_ (show ∀ b∈cD,aB.1.size<=b/\b<w3.1.size from λb u=>⟨by have:=(d6.2 b u).1;have:=aQ.size;omega,bA.lt b u⟩);clear bA d6 dO;go_upto_region 3 with fail;obtain⟨bn,a3⟩:∃ y,y=(w3.alloc (BG #[J (U_ 0).1.1,S P1 p1 q1,S P2 p2 q2] 39)).alloc (BG #[J (U_ 0).1.1,S Q1 k1 l1,S Q2 k2 l2] 39):=⟨_,rfl⟩
 have aN:=A_ (by rw[a3];exact(BP _).alloc sI _:Bw w3 bn);have dg:=A_ (by rw[a3];exact K_ (DB w3 _) (BP _):bn.1[w3.1.size]?=QZ (BG #[J (U_ 0).1.1,S P1 p1 q1,S P2 p2 q2] 39));have dh:=A_ (show bn.1[w3.1.size+1]?=QZ (BG #[J (U_ 0).1.1,S Q1 k1 l1,S Q2 k2 l2] 39) by rw[a3];have:=DB (w3.alloc (BG #[J (U_ 0).1.1,S P1 p1 q1,S P2 p2 q2] 39)) (BG #[J (U_ 0).1.1,S Q1 k1 l1,S Q2 k2 l2] 39);rwa [FU]at this);rw[<-a3];clear a3;have bY:=A_ (show FlSt w bn w3.1.size (w3.1.size+1) b9 1 1 (A2h xs 0) (B3x xs 0) P1 p1 q1 P2 p2 q2 ax (B2i xs 0) Q1 k1 l1 Q2 k2 l2 cD from by
  have gI:=b3.o;have gJ:=aQ.size;have gK:=aR.size;have f2:=c2.o
  refine⟨BH (BH (BH c0 aQ) aR) aN,D8z dg,D8z dh,(c5.below aR).below aN,c6.below aN,
   (((bX.o.weaken (λb u E=>?_) (.inl rfl)).below aQ.o).below aR.o).below aN.o,λb u=>?_,λb u=>?_,oS,oS,f2,oS,oS,oS⟩
  ·rcases E with E|E|E
   ·exact E
   ·omega
   omega
  ·have:=db b u;omega
  have:=dc b u;omega)
 obtain⟨ga,aI⟩:∃ y,w3.1.size=y:=⟨_,rfl⟩
 obtain⟨gb,aJ⟩:∃ y,ga+1=y:=⟨_,rfl⟩
 rw[aI,aJ]at bY;simp only[aI,aJ];clear bT eH bX c5 db c6 dc dg dh aN aR aQ aI aJ b3 c2 c0;go_wp2_with fail;go_loopg [6,23] n (λg s6 s23 wr=>∃ (i gr cr:Nat) (lx rx:TRat) (P1:Option AJ) (p1 q1:Nat) (P2:Option AJ) (p2 q2:Nat) (rl:List Nat) (Q1:Option AJ) (k1 l1:Nat) (Q2:Option AJ) (k2 l2:Nat) (rr:List Nat),i+g=n/\s23=RH .i64 i/\s6=S (QZ ⟨gr,0,I⟩) (i+1) cr/\Hid (lx=B3x xs i/\rx=B2i xs i)/\Hid (FlSt w wr ga gb gr (i+1) cr (A2h xs i) lx P1 p1 q1 P2 p2 q2 rl rx Q1 k1 l1 Q2 k2 l2 rr));case atStart=>exact⟨0,b9,1,_,_,P1,p1,q1,P2,p2,q2,ax,Q1,k1,l1,Q2,k2,l2,cD,oS,rfl,rfl,⟨rfl,rfl⟩,bY.o⟩
 case round =>
  clear bY;obtain⟨i,gr,cr,lx,rx,P1,p1,q1,P2,p2,q2,rl,Q1,k1,l1,Q2,k2,l2,rr,d0,rfl,rfl,bi,W⟩:=hrel;rcases CG i n with bG|bG
  ·have fo:(i:Int)<n:=oS
   have gj:(0:Int)<=i:=oS;obtain⟨g,rfl⟩:∃ g,gk=g+1:=⟨gk - 1,oS⟩
   have fm:=A_ (by omega:i+1+g=n);have eu:=A_ (by unfold BS;omega:i+1+1<=BS);have ev:=A_ (by omega:(i+1+1)*56<=140737488355328);obtain⟨du,fB,x,L,gx,rfl,dT,cw,ed,cd,dD⟩:=TPiece.elemL eJ bG;obtain⟨e4,b1,e6,d3,ea⟩:=eC x (DH cw);have eD:=A_ d3;have eF:=A_ ea;have aA:=A_ dD;have cP:=A_ cd;have eO:=A_ (show ∀ v∈L,v.oneCell'=AF from Dat.one (E4n cd));have dt:=A_ (show xs.getD i pc0=x from A0e cw);have dl:=A_ (B5q ed dT W.bl);have gc:du<wr.1.size:=by have:=W.bl.size;omega
   have eR:=A_ (by rw[A2h,dt.o]:A2h xs (i+1)=A2h xs i++[A0k ((A2h xs i).getD i A0h) (C1f x)]);clear d0 bG cw cd ed d3 ea dD dT;go_upto_region 6 with(first|(refine wpList_load_mid rfl 215 _ rfl du (fB+i*34) gD L _ dl.o underlying215 rfl (by rw[aA.o];exact A7z) ?_)|(refine wpList_store_mid rfl 215 _ _ rfl wr.1.size 0 L.toArray gD gD (C5j (DB wr _) (by rw[PQ,aA.o];exact CE _)) (by rw[PQ,aA.o];exact A7z) (all_oneCell_toArray eO) ?_))
   obtain⟨X5,dI,aE,-,aj,-⟩:=C0o (vs:=L) (DB wr (BG (S I 0 0::J AH::S I 0 0::S I 0 0::J AH::S I 0 0::S I 0 0::J AH::S I 0 0::S I 0 0::J AH::S I 0 0::S I 0 0::J AH::S I 0 0::S I 0 0::J AH::S I 0 0::S I 0 0::J AH::S I 0 0::S I 0 0::J AH::S I 0 0::S I 0 0::J AH::S I 0 0::S I 0 0::J AH::S I 0 0::S I 0 0::J AH::S I 0 0::S I 0 0::[]).toArray 215)) (by rw[aA.o];rfl) (BP _) (CE _);rw[dI];have bf:=A_ aE;have es:=A_ aj;have bV:=A_ (B9e aE);have aS:=A_ (W.below aj);have cQ:=A_ (cP.below aS.bl);obtain⟨bx,a4⟩:∃ y,wr.1.size=y:=⟨_,rfl⟩
   have bS:=A_ (show w.1.size<=bx/\gr<bx/\ga<bx/\gb<bx by rw[<-a4];exact⟨W.bl.size,W.ro.lt,W.ra.1,W.rb.1⟩);have cV:=A_ (by rw[<-a4];exact aj.size:bx<=X5.1.size);rw[a4]at bf bV;simp only[a4];clear dI aE aj W dl es a4;obtain⟨y,bZ,cA,b4,b0,cB,b5,dy,ab,aL,aM,ac,-,-,-,ak,-,bE⟩:=aS.o.ro.elem (by omega:i<i+1);have e3:=A_ (show(A2h xs i).getD i A0h=y from A0e ab);have ao:=A_ ak;have dV:bx<X5.1.size:=E_ bf;clear ab ak;go_wp2_with fail;refine W_ 9 kR kR kR kR kR ?_;simp only[GT,FM,GU,FF];iterate 5 refine C_ _ ?_
   refine C2a L 215 _ rfl _ underlying215 rfl (by rw[aA.o];exact A7z) ?_ ?_;·intro O H G D h;obtain⟨aF,aG⟩:=F_ D;simp at h;exact⟨gD,bx,0,gD,B5q bV dV D⟩
   refine D_ (MP.agg (C1f x)) ?_ ?_;·intro O H G D h;obtain⟨aF,aG⟩:=F_ D;simp at h;refine G_ ?_;exact H_ (C0z _ x _ G (cQ.below D))
   refine D_ (MP.agg (A0k y (C1f x))) ?_ ?_;·intro O H G D h;obtain⟨aF,aG⟩:=F_ D;simp at h;refine G_ ?_;obtain⟨_,t⟩:=h;exact H_ (A0x _ _ y (C1f x) _ _ G (ao.o.below D) (by first|exact t.1|exact t.1.1))
   refine A1d (λY=>MP.slbox (Y 7).cells 39) (by intro y Y E;simp[N_,M_]at E;simp[E]) ?_ ?_;·intro O H G D h;simp at h;obtain⟨ae,am,ah,bp,af,an,ai,bq,aC,_,_,_⟩:=CF h.1;refine⟨gD,S (QZ ⟨G.1.size,0,I⟩) 1 1,G.alloc (BG (O 7).cells 39),?_,BP _,[G.1.size],⟨G.1.size,rfl,rfl,DB G _⟩,sI⟩;rw[aC];go_simp
   intro O H wa D h (al:Hid _);simp at h;have bI:=h.1;have fK:=h.2.2.2.2.2.2.2.1;have fJ:=h.2.2.2.2.2.2.2.2;obtain⟨⟨bv,-⟩,cn⟩:=fK;obtain⟨ae,am,ah,bp,af,an,ai,bq,ej,-,_,_⟩:=CF bv;obtain⟨⟨fh,Z,f3,ci⟩,-⟩:=fJ;rw[ej]at ci bv;have cO:=A_ (A3x bv);have eG:=A_ (show ∀ b∈H 7,X5.1.size<=b from λb u=>(cn b u).1);have di:=A_ (show ∀ b∈H 7,¬ (b=gr\/(b=ga\/b=gb))from λb u E=>by have:=(cn b u).1;have:=bS.o;have:=cV.o;omega);have da:=A_ ci;have ay:=A_ D;have fX:O 0=S (QZ ⟨gr,0,I⟩) (i+1) cr:=by first|exact bI.1.1|exact bI.1|exact bI
   generalize H 7=fN at *;clear h al bv cn ci f3 D bI aL aM ac bE;go_upto_region 7 with(at_builtin;refine E1y rfl _ _ 27 rfl ft (BJ #[J AH,S I 0 0,S I 0 0]) 56 underlying27 fn fs aw cz rfl aS.ro ay gD ⟨fh,0,I⟩ 1 [J (A0k y (C1f x)).1.1,S ae am ah,S af an ai] (A0k y (C1f x)) fN gD (A0a da) cO di eu ev ?_;intro g' dx bM eb cj cm)
   have aT:=A_ (show FlSt w bM ga gb g' (i+1+1) dx (A2h xs (i+1)) lx P1 p1 q1 P2 p2 q2 rl rx Q1 k1 l1 Q2 k2 l2 rr from by rw[eR.o,e3.o];exact(aS.below ay).push eb cj cm)
   have bU:=A_ (show bM.1[bx]?=QZ (BG L.toArray 215)from
    (cj.block bx (by have:=ay.size;omega) (by intro e;injection e with e;have:=bS.o;omega)).trans (K_ bf.o ay.o))
   have cR:=A_ (cP.below aT.bl);have f5:=A_ (show g'≠bx by have:=bS.o;have:=ay.size;rcases cm with E|E<;>omega);clear eb cj cm ej Z fX cO eG di da ay aS cQ ao bf bV cV dV;obtain⟨ad,bZ,cA,b4,b0,cB,b5,f7,ef,a0,aV,aW,-,-,-,dJ,-,bE⟩:=aT.o.ro.elem (by omega:i<i+1+1);obtain⟨Z,eW,fz,e9,eX,fA,fa,f8,eg,aX,aY,b2,-,-,-,dL,-,-⟩:=aT.o.ro.elem (by omega:i+1<i+1+1);have e1:=A_ (show(A2h xs (i+1)).getD i A0h=ad from A0e ef);have e2:=A_ (show(A2h xs (i+1)).getD (i+1) A0h=Z from A0e eg);have eo:=A_ dJ;have ep:=A_ dL;have dW:bx<bM.1.size:=E_ bU;have dm:=A_ (B9e bU);have gl:(i:Int)+1<(i:Int)+1+1:=oS;clear ef eg dJ dL;go_wp2_with fail;refine B8f 16 13 _ rfl kR kR kR kR kR ?_;simp only[GT,FM,GU,FF];refine C2a L 215 _ rfl _ underlying215 rfl (by rw[aA.o];exact A7z) ?_ ?_;·intro O H G D h;obtain⟨aF,aG⟩:=F_ D;simp at h;exact⟨gD,bx,0,gD,B5q dm dW D⟩
   iterate 9 refine C_ _ ?_
   refine D_ (MP.agg2 (B0i x ad Z) (B3c x)) ?_ ?_
   ·intro O H G D h
    obtain⟨aF,aG⟩:=F_ D;simp at h;refine G_ ?_;have aa:=D8f (BJ L.toArray) _ _ x ad Z _ _ _ e4 b1 e6 G (cR.below D) (eo.below D) (ep.below D) eD eF
    exact aa.mono λe w' ⟨v1,v2,a8,ax,he,au,X,h3,h4⟩=>⟨_,he,h4,a8++ax,⟨v1,v2,a8,ax,rfl,rfl,au,X⟩,λb u=>⟨h3 b u,by
     rcases List.mem_append.1 u with E|E;·exact au.lt b E
     exact X.lt b E⟩⟩
   refine A1d (λY=>MP.tup (Y 10)) (by intro y Y E;simp[N_,M_]at E;simp[E]) ?_ ?_;·intro O H G D h;simp at h;obtain⟨v1,v2,br,a8,ax,a9,au,X⟩:=h;refine⟨gD,.tuple #[v1,v2],G,oD,DI _ _,[],⟨br.symm,rfl,v1,v2,rfl⟩,sI⟩
   refine A1d (λY=>MP.tupL (Y 11)) (by intro y Y E;simp[N_,M_]at E;simp[E]) ?_ ?_;·intro O H G D h;simp at h;obtain⟨b6,-,bK,bL,b7⟩:=h;clear b6;refine⟨gD,bK,G,?_,DI _ _,[],⟨rfl,bL,b7⟩,sI⟩;go_simp
   refine A1d (λY=>MP.tupR (Y 11)) (by intro y Y E;simp[N_,M_]at E;simp[E]) ?_ ?_;·intro O H G D h;simp at h;obtain⟨b6,-,bK,bL,b7⟩:=h;clear b6;refine⟨gD,bL,G,?_,DI _ _,[],⟨rfl,bK,b7⟩,sI⟩;go_simp
   refine A1p #[J AH,S I 0 0,S I 0 0] 39 ?_ ?_;·intro O H G D h;refine⟨gD,?_⟩;go_simp
   refine A1p #[J AH,S I 0 0,S I 0 0] 39 ?_ ?_;·intro O H G D h;refine⟨gD,?_⟩;go_simp
   intro O H wb D h (al:Hid _);simp at h;have fC:=h.2.2.2.2.2.2.2.2.2.2.1;have fD:=h.2.2.2.2.2.2.2.2.2.2.2.1;have fE:=h.2.2.2.2.2.2.2.2.2.2.2.2.1;have fF:=h.2.2.2.2.2.2.2.2.2.2.2.2.2.1;have fG:=h.2.2.2.2.2.2.2.2.2.2.2.2.2.2.1;have fH:=h.2.2.2.2.2.2.2.2.2.2.2.2.2.2.2;obtain⟨⟨v1,v2,br,cE,eh,a9,au,X⟩,co⟩:=fC;obtain⟨⟨b8,-,-⟩,-⟩:=fD;rw[br]at b8;obtain⟨⟨-,bL,bt⟩,-⟩:=fE;obtain⟨⟨-,bK,aC⟩,-⟩:=fF;rw[b8]at bt aC;have fY:O 12=v1:=by simp at bt;exact bt.1.symm
   have fZ:O 13=v2:=by simp at aC;exact aC.2.symm
   obtain⟨ae,am,ah,_,af,an,ai,_,rfl,-,_,_⟩:=CF au;obtain⟨aO,a6,aZ,_,aP,a7,a1,_,rfl,-,_,_⟩:=CF X;obtain⟨⟨ar,f0,bO,aH⟩,cp⟩:=fG;obtain⟨⟨aD,f1,bP,dY⟩,cq⟩:=fH;rw[bO]at cp;rw[bP]at cq;rw[a9]at co;have fu:=(cp ar sI).1;have fv:=(cq aD sI).1;have dj:ar≠aD:=λe=>by have:=al.o 14 15 dE dE dE ar (by rw[bO];simp);rw[bP]at this;simp[e]at this
   have ba:=A_ (show ∀ b∈cE++eh,b≠ar/\b≠aD from λb u=>⟨λe=>by have:=al.o 10 14 dE dE dE b (by rw[a9];exact u);rw[bO]at this;simp[e]at this,λe=>by have:=al.o 10 15 dE dE dE b (by rw[a9];exact u);rw[bP]at this;simp[e]at this⟩);have bl:=A_ (show ∀ b∈cE++eh,bM.1.size<=b from λb u=>(co b u).1);obtain⟨dr,dG,dB,bg,dz,-⟩:=D1j (J (B0i x ad Z).1.1) (S ae am ah) (S af an ai) aH D fu;have az:=A_ ((bg aD dj.symm).trans dY);obtain⟨cG,cH⟩:=B_ aH (j:=0) rfl;obtain⟨cI,cJ⟩:=B_ aH (j:=1) rfl;obtain⟨cK,cL⟩:=B_ aH (j:=2) rfl;have cx:ar<wb.1.size:=E_ aH;have de:=A_ dG;have cU:=A_ dz;have cM:=A_ (au.keep λb u=>bg b (ba.o b (by simp[u])).1);have cN:=A_ (X.keep λb u=>bg b (ba.o b (by simp[u])).1);have df:=A_ dB;clear h al br a9 au X co bt aC bO aH cp bP dY cq dG dz dB bg D a0 aV aW aX aY b2 bE;refine⟨dr,?_,?_⟩;·rw[<-de.o];go_simp
   clear cG cH cI cJ cK cL cx de;obtain⟨cG,cH⟩:=B_ az (j:=0) rfl;obtain⟨cI,cJ⟩:=B_ az (j:=1) rfl;obtain⟨cK,cL⟩:=B_ az (j:=2) rfl;have cy:aD<dr.1.size:=E_ az;go_upto_region 8 with fail;obtain⟨ds,dH,aE,bh,aj,-⟩:=D1j (J (B3c x).1.1) (S aO a6 aZ) (S aP a7 a1) az cU fv;rw[dH];have el:=A_ (cM.o.keep λb u=>bh b (ba.o b (by simp[u])).2);have em:=A_ (cN.o.keep λb u=>bh b (ba.o b (by simp[u])).2);have bd:=A_ ((bh ar dj).trans df);have be:=A_ aE;have aq:=A_ (aT.below aj);have f4:=A_ aj.size;clear dH bh aj aE cG cH cI cJ cK cL cy fY fZ f0 f1 b8 cM cN df az cU aT cR bU dm dW;obtain⟨aI,⟨a0,aV,aW⟩,-⟩:=aq.ra;obtain⟨aJ,⟨aX,aY,b2⟩,-⟩:=aq.rb;obtain⟨ag,-⟩:=B_ bd (j:=0) rfl;obtain⟨dv,-⟩:=B_ bd (j:=1) rfl;obtain⟨dw,-⟩:=B_ bd (j:=2) rfl;obtain⟨bo,-⟩:=B_ be (j:=0) rfl;obtain⟨bp,-⟩:=B_ be (j:=1) rfl;obtain⟨bq,-⟩:=B_ be (j:=2) rfl;simp at ag dv dw bo bp bq;have cx:ar<ds.1.size:=E_ bd;have cy:aD<ds.1.size:=E_ be;go_wp2_with fail;refine W_ 6 kR kR kR kR kR ?_;simp only[GT,FM,GU,FF];iterate 2 refine C_ _ ?_
   refine D_ (MP.agg (A0k lx (B0i x ad Z))) ?_ ?_;·intro O H G D h;obtain⟨aF,aG⟩:=F_ D;simp at h;refine G_ ?_;exact H_ (A0x _ _ lx (B0i x ad Z) _ _ G (aq.al.below D) (el.below D))
   iterate 2 refine C_ _ ?_
   refine D_ (MP.agg (A0k rx (B3c x))) ?_ ?_;·intro O H G D h;obtain⟨aF,aG⟩:=F_ D;simp at h;refine G_ ?_;exact H_ (A0x _ _ rx (B3c x) _ _ G (aq.ar.below D) (em.below D))
   intro O H fT D h (al:Hid _);simp at h;have q2:=h.2.2.1;have fI:=h.2.2.2.2.2;obtain⟨⟨X,-⟩,ec⟩:=q2;obtain⟨⟨bu,-⟩,cs⟩:=fI;obtain⟨ae,am,ah,_,af,an,ai,_,ac,-,_,_⟩:=CF X;obtain⟨aO,a6,aZ,_,aP,a7,a1,_,ei,-,_,_⟩:=CF bu;rw[ac]at X;rw[ei]at bu;have aU:=aq.below D;have dZ:=aq.ro.lt;have dq:=A_ ((aU.setL X (λb u=>by have:=(ec b u).1;refine⟨?_,?_,?_⟩<;>omega)).setR (bu.keep λb u=>A0p b (by have:=(cs b u).1;omega)) (λb u=>by have:=(cs b u).1;refine⟨?_,?_,?_⟩<;>omega));obtain⟨fk,⟨u0,fQ,u2⟩,⟨fb,fc,fd⟩⟩:=aU.ra;obtain⟨fl,⟨fR,fS,v2⟩,⟨fe,ff,fg⟩⟩:=aU.rb;have gt:=aU.ne;clear h al X bu ec cs D aU aq a0 aV aW aX aY b2 ag dv dw bo bp bq cx cy aI aJ dZ;generalize H 2=fL at *;generalize H 5=fM at *;go_upto_region 9 with fail;obtain⟨f6,ca⟩:∃ y,y=(((((fT.setCell ⟨ga,0,I⟩ (J (A0k lx (B0i x ad Z)).1.1)).setCell ⟨ga,1,I⟩ (S ae am ah)).setCell ⟨ga,2,I⟩ (S af an ai)).setCell ⟨gb,0,I⟩ (J (A0k rx (B3c x)).1.1)).setCell ⟨gb,1,I⟩ (S aO a6 aZ)).setCell ⟨gb,2,I⟩ (S aP a7 a1):=⟨_,rfl⟩
   rw[<-ca]at dq;rw[<-ca];have eP:=A_ (show A0k lx (B0i x ad Z)=B3x xs (i+1)/\A0k rx (B3c x)=B2i xs (i+1) by rw[B3x,B2i,dt.o,e1.o,e2.o,<-bi.o.1,<-bi.o.2];exact⟨rfl,rfl⟩);clear ca u0 fQ u2 fR fS v2 fb fc fd fe ff fg fk fl ac ei;generalize A0k lx (B0i x ad Z)=fw at *;generalize A0k rx (B3c x)=fO at *;go_wp2_with fail;go_roundg g;case measure=>omega
   case rel=>exact⟨i+1,g',dx,fw,fO,ae,am,ah,af,an,ai,fL,aO,a6,aZ,aP,a7,a1,fM,fm,gN,rfl,eP,dq⟩
  obtain rfl:n=i:=oS;have fo:¬ ((n:Int)<n):=oS;clear d0 bG;go_upto_if 59 with fail;go_cut [6] (λs6 wx=>∃ N:Nat,s6=S (QZ ⟨gr,0,I⟩) N cr/\Hid (N=(if cl then n else n+1))/\N<=n+1/\Hid (FlSt w wx ga gb gr (n+1) cr (A2h xs n) lx P1 p1 q1 P2 p2 q2 rl rx Q1 k1 l1 Q2 k2 l2 rr));case first =>
   cases cl;·go_wp2_with fail;go_meet;exact⟨n+1,rfl,rfl,CE _,W⟩
   obtain⟨y,bZ,cA,b4,b0,cB,b5,dy,ab,aL,aM,ac,-,-,-,ak,-,dZ⟩:=W.o.ro.elem (by omega:n<n+1);obtain⟨bH,ck⟩:=eB rfl;rw[A0e ab]at bH ck;have V:=ratOkB_iff.1 bH;have ao:=A_ ak;have eQ:=A_ (show NegOk y.1 from(bigOkB_iff.1 V.1).2);have ew:=A_ V.mag;have ex:=A_ (C6v bH);have eV:=A_ ck;have gv:(n:Int)<(n:Int)+1:=oS;have gp:(0:Int)<=n:=oS;clear ab ak bH ck V;go_upto_region 12 with fail;refine Code.new λeZ bj=>?_;obtain⟨ag,-,aw⟩:=bx bj.k;have aa:=A2p _ y _ eZ (ao.below bj.b);rw[ex.o]at aa;go_wp2_with fail;refine aa.mono ?_;clear aa aL aM ac ag aw;rintro _ fW ⟨rfl,cg⟩;have cX:=A_ (BH bj.b cg);obtain⟨ag,-,aw⟩:=bx (A0z bj.k cg);have aa:=A7y _ y _ fW (ao.below cX) ew eQ;rw[eV.o]at aa;go_wp2_with fail;refine aa.mono ?_;clear aa cg;rintro _ bN ⟨rfl,dU⟩;have T:=A_ ((W.below cX).below dU);have fj:=T.ro.cap;have gd:¬ ((cr:Int)<(n:Int)):=oS;have gg:(n:Int)<=(cr:Int):=oS;have gh:¬ (cr=0):=oS;clear dU ag aw W fj;go_wp2_with fail;go_meet;exact⟨n,rfl,rfl,Nat.le_succ _,T⟩
  case rest =>
  obtain⟨N,rfl,dF,fi,ee⟩:=hcut;rename AD=>bN;rename (∀ (a:Act) (w:AD),Code.wp _ _ _ a w->_)=>dA;refine dA _ _ ?_;clear dA W;have T:=A_ ee.o;have bW:=A_ (show RR (λb=>b=gr) bN gr N cr ((A2h xs n).take N)from(T.ro.take fi).weaken (bad':=λb=>b=gr) (λb _ E=>.inl E) rfl);obtain⟨-,⟨a0,aV,aW⟩,-⟩:=T.ra;obtain⟨-,⟨aX,aY,b2⟩,-⟩:=T.rb;have aI:=T.ra.1;have aJ:=T.rb.1;clear ee;go_wp2_with fail;refine(A8m _ _ lx rx _ _ bN T.al T.ar).mono ?_;rintro _ fU ⟨gA,gw,rfl,ch,-,dR⟩;obtain⟨ae,am,ah,_,af,an,ai,_,rfl,-,_,_⟩:=CF ch;have c8:=A_ ch;have bQ:=A_ dR;clear ch dR a0 aV aW aX aY b2;go_wp2_with fail;refine(D3c _ (A3u lx rx) _ fU c8).mono ?_;rintro _ fV ⟨gC,fP,rfl,bB,d8,dS⟩;obtain⟨aO,a6,aZ,_,aP,a7,a1,_,rfl,-,_,_⟩:=CF bB;obtain⟨bJ,ct⟩:∃ y,C3m (A3u lx rx)=y:=⟨_,rfl⟩
  rw[ct]at bB ⊢;have ez:=A_ (show A9c xs cl=((A2h xs n).take N).map (λr=>A0k r bJ) by unfold A9c D7a;rw[eK.o,<-bi.o.1,<-bi.o.2,ct,dF.o]);have c9:=A_ bB;have bR:=A_ (BH bQ dS);have eU:=A_ (show ∀ b∈fP,bN.1.size<=b from λb u=>by have:=(d8.2 b u).1;have:=bQ.size;omega);clear bB d8 dS ct c8 bQ;go_upto_region 16 with fail;refine Code.new λeY bk=>?_;have c1:=A_ (BH bR bk.b);have eN:=A_ bk.k;have en:=A_ (c9.below bk.b);have eA:=A_ bR.size;generalize fV.1.size=gs at *;have dp:=A_ (bW.below c1);have cZ:=A_ (BH T.bl c1);have eS:=A_ T.nr;have c4:=A_ T.ro.lt;have eT:=A_ (show((A2h xs n).take N).length=N from bW.len);generalize (A2h xs n).take N=dk at *;have f9:N<=49:=oS;clear T bW c9 bR bk dF;go_wp2_with fail;go_loopg [83] N (λg s w2=>∃ j:Nat,j+g=N/\s=RH .i64 j/\Hid (RR (λb=>b=gr) w2 gr N cr (C3q (λr=>A0k r bJ) dk j))/\Hid (eY.grownBy w2 (QZ gr)));case atStart=>exact⟨0,oS,rfl,by rw[show C3q _ _ 0=_ by unfold C3q;rw[FM,NH,FF,List.nil_append]];exact dp,B3a _ _⟩
  case round =>
   clear dp;obtain⟨j,d1,rfl,bm,bc⟩:=hrel;rename AD=>w2;have bE:=bm.lt;have eM:=A_ (B8b eN bc (by have:=eA.o;have:=c4.o;omega));have ek:=A_ (en.keepG bc (λE=>by have:=eU _ E;have:=c4.o;omega));have er:=A_ (cZ.grown bc cZ.size (λk fr=>by injection fr with E;subst E;exact eS));rcases CG j N with a5|a5
   ·have fq:(j:Int)<(N:Int):=oS
    have gm:(0:Int)<=j:=oS;obtain⟨g,rfl⟩:∃ g,gk=g+1:=⟨gk - 1,oS⟩
    have fp:=A_ (by omega:j+1+g=N);obtain⟨y,bZ,cA,b4,b0,cB,b5,dy,ab,aL,aM,ac,-,-,-,ak,-,-⟩:=bm.elem a5;rw[C6z,if_neg oS]at ab;have eL:=A_ ab;have ao:=A_ ak;clear d1 ab ak;go_upto_region 19 with fail;refine Code.new λe0 ap=>?_;obtain⟨ag,-,aw⟩:=bx ap.k;obtain⟨bo,-,cz⟩:=bx (A0z eM ap.b);clear aL aM ac;go_wp2_with fail;refine(A0x _ _ y bJ _ _ e0 (ao.below ap.b) (ek.below ap.b)).mono ?_;rintro _ wa ⟨gz,cE,rfl,cc,d7,dQ⟩;obtain⟨eW,fz,e9,_,eX,fA,fa,_,rfl,-,_,_⟩:=CF cc;have cW:=A_ (BH ap.b dQ);have bl:=bm.below cW;obtain⟨_,_,_,_,_,_,_,_,-,aL,aM,ac,gF,gG,gH,-,-,gi⟩:=bl.elem a5;have dn:=A_ (bl.set a5 cc (λb u e=>by have:=(d7.2 b u).1;have:=ap.b.size;omega));rw[E4z eL.o]at dn;clear cc d7 dQ ag bo aw cz bl ap;go_wp2_with fail;go_roundg g;case measure=>omega
    case rel=>exact⟨j+1,fp,gN,dn,A5y (A5y (A5y (E1s bc cW)))⟩
   obtain rfl:N=j:=oS;have fq:¬ ((N:Int)<(N:Int)):=oS;have ey:=A_ (by rw[ez.o,<-E4o,eT.o]:C3q (λr=>A0k r bJ) dk N=A9c xs cl);obtain⟨e5,cu,-⟩:=bm.sl;rw[ey.o]at cu;have dd:=A_ cu;clear d1 a5 cu;go_wp2_with fail;refine(B4r _ _ cr (A9c xs cl) e5 w2 dd.o oS eE.o).mono ?_;rintro _ gE ⟨rfl,ce⟩;have eI:=A_ (dd.below ce);have et:=A_ (BH er ce);clear ce;go_wp2;refine CK (v:=.tuple #[S (QZ ⟨gr,0,I⟩) N cr,J AF]) (by simp[CO,results133,go_sem, *]) rfl ?_;exact⟨_,_,_,_,rfl,eI,et⟩
structure FanD (p:TProblem) (us:List TRat) (q:Int) (f:TFan):Prop where
 tr:∀ k∈f.triangles,0<=k/\k<p.1.triangles.length/\B6x (p.1.triangles.getD k.toNat A4p) q=AF
 tl:f.triangles.length<=48
 t1:1<=f.triangles.length
 sn:f.spokes.length=f.triangles.length+(if f.closed then 0 else 1)
 si:∀ i∈f.spokes,0<=i/\i<(P_ p.1.triangles).length
 cl:f.closed=AF->J_ ((A2h (A1h p us f q) f.triangles.length).getD f.triangles.length A0h)=AF/\A2v ((A2h (A1h p us f q) f.triangles.length).getD f.triangles.length A0h)=0
 ok:(A6f p us f q).any A2e=AH
def D9x (w:AD) (xs:List TRat) (e:Ending) (w':AD):Prop:=∃ F m cF bF,e=.returned (.tuple #[S F m cF,J AF])/\Sl w' F m cF xs bF/\(∀ b∈bF,w.1.size<=b)/\Bw w w'
theorem D0j (p:TProblem) (us:List TRat) (f:TFan) (q:Int):∀ x∈A6f p us f q,B4q x:=by
 intro x b;unfold A6f A9c at b;obtain⟨r,_,rfl⟩:=JX.1 b;exact C9z _ _
theorem D0p (p:TProblem) (us:List TRat) (f:TFan) (q:Int):(A6f p us f q).length<=f.triangles.length+1:=by
 unfold A6f A9c;rw[JV,JO,B7o];have:(A1h p us f q).length=f.triangles.length:=by rw[A1h,JV]
 omega
theorem D6q {p:TProblem} {us:List TRat} {f:TFan} {q:Int} (E:LinD p us) (u:∀ k∈f.triangles,0<=k/\k<p.1.triangles.length/\B6x (p.1.triangles.getD k.toNat A4p) q=AF):∀ x∈A1h p us f q,∃ a b c,x.list=[a,b,c]/\A7m [a,b,c]=AF:=by
 intro x h;unfold A1h at h;obtain⟨k,D,rfl⟩:=JX.1 h;obtain⟨G,H,_⟩:=u k D;exact⟨_,_,_,rfl,(E.tri _ (B9b oS)).2.2.pr⟩
theorem C9c (v:AU) (p:TProblem) (b:List Nat) (xs ys:List Int) (B:Option AJ) (n d:Nat) (us:List TRat) (aT:List Nat) (bg:AU) (f:TFan) (bh:List Nat) (q:Int) (w:AD) (a1:Agg w v p b) (bf:Sl w B n d us aT) (aX:Agg w bg f bh) (be:ProbI p xs ys) (aY:LinD p us) (T:p.3.length=3) (Z:FanD p us q f) :
  Calls prog 61 #[v,S B n d,bg,RH .i64 q] w (D9x w (A6f p us f q)):=by
 have a9:=A_ a1;have a8:=A_ bf;have a4:=A_ aY;have a5:=A_ be;have a7:=A_ T;have ah:=A_ Z;have aK:=A_ aX;obtain⟨ab,am,ai,bt,ac,n1,aj,bu,ad,n2,ak,bv,ae,an,c3,bz,rfl,rfl,bi,bj,bk,bl⟩:=TProblem.agg a1;obtain⟨af,h,cf,bo,ag,aF,al,bp,rfl,rfl,aa,ba⟩:=TFan.agg aX;have aE:=A_ aa.1;have bc:h<=48:=by rw[<-aa.1];exact Z.tl
 have bd:1<=h:=by rw[<-aa.1];exact Z.t1
 have bq:(h:Int)<=48:=oS;have br:¬ ((h:Int)=0):=oS;have ay:aF=h+(if f.closed then 0 else 1):=by rw[<-aa.1,<-ba.1];exact Z.sn
 obtain⟨cl,ax⟩:∃ c,f.closed=c:=⟨_,rfl⟩
 have a6:=A_ (D6q aY Z.tr);have bn:=A_ (by rw[A1h,JV,aa.1]:(A1h p us f q).length=h);have aC:=A_ (by rw[<-ax,<-aa.1];exact Z.cl:cl=AF->J_ ((A2h (A1h p us f q) h).getD h A0h)=AF/\A2v ((A2h (A1h p us f q) h).getD h A0h)=0);have aD:=A_ (by rw[A6f,ax]:A6f p us f q=A9c (A1h p us f q) cl);have bm:=A_ ax;rw[ax]at ay aK ⊢;clear bi bj bk bl a1 bf aY be T Z aa ba aX ax;cases cl
 ·obtain rfl:aF=h+1:=by simpa using ay
  clear ay;go_enter func61,ntmps61;go_upto_region 1 with fail;obtain⟨u,D⟩:∃ u,u=(w.alloc (BG #[S ab am ai,S ac n1 aj,S ad n2 ak,S ae an c3] 29)).alloc (BG #[S af h cf,S ag (h+1) al,J AH] 100):=⟨_,rfl⟩
  have E:=A_ (by rw[D];exact(BP _).alloc sI _:Bw w u);have ap:=A_ (by rw[D];exact K_ (DB w _) (BP _):u.1[w.1.size]?=QZ (BG #[S ab am ai,S ac n1 aj,S ad n2 ak,S ae an c3] 29));have X:=A_ (show u.1[w.1.size+1]?=QZ (BG #[S af h cf,S ag (h+1) al,J AH] 100) by rw[D];have:=DB (w.alloc (BG #[S ab am ai,S ac n1 aj,S ad n2 ak,S ae an c3] 29)) (BG #[S af h cf,S ag (h+1) al,J AH] 100);rwa [FU]at this);rw[<-D];clear D;obtain⟨aU,-,-⟩:=bx ap;obtain⟨H,-,-⟩:=bx X;have a2:w.1.size<u.1.size:=E_ ap;have l1:w.1.size+1<u.1.size:=E_ X;have W:=C2u _ p _ xs ys B n d us aT _ f _ q u (a9.below E) (a8.below E) (aK.below E) a5 a4 a7 ah.tr ah.tl;rw[aE.o]at W;go_wp2_with fail;refine W.mono ?_;clear W;rintro _ aB ⟨A,c,bs,rfl,T,Y⟩;have aG:=A_ (BH E Y);have G:=A_ (K_ X Y);have aL:=A_ T;clear T Y aU H a2 l1;obtain⟨H,-⟩:=B_ G (j:=0) rfl;obtain⟨aq,-⟩:=B_ G (j:=1) rfl;obtain⟨ar,-⟩:=B_ G (j:=2) rfl;simp at H aq ar;have l1:w.1.size+1<aB.1.size:=E_ G;go_wp2_with fail;refine(C7q A h c (A1h p us f q) bs AH aB aL.o bc bd a6.o (λaV=>by first|exact aC.o aV|exact aC.o trivial) (by rw[<-aD.o];exact ah.ok)).mono ?_;rintro _ a3 ⟨aI,m,aR,aP,rfl,O,au⟩;rw[<-aD.o]at O;have aM:=A_ O;have ao:=A_ (BH aG au);have aZ:m<=144:=by rw[<-O.1];have:=D0p p us f q;rw[aE.o]at this;omega
  clear O au H aq ar l1;go_wp2_with fail;refine(A2l aI m aR (A6f p us f q) aP a3 aM aZ (D0j p us f q)).mono ?_;rintro _ w3 ⟨aJ,k,aS,aQ,rfl,aA,az,aw⟩;have aN:=A_ aA;have aH:=A_ (BH ao aw);have aO:=A_ (show ∀ b∈aQ,w.1.size<=b from λb aW=>by have:=(az.2 b aW).1;have:=ao.size;omega);clear aA az aw;go_wp2;refine CK (v:=.tuple #[S aJ k aS,J AF]) (by simp[CO,results61,go_sem, *]) rfl ?_;exact⟨_,_,_,_,rfl,aN,aO,aH⟩
 obtain rfl:h=aF:=by have:aF=h:=(by simpa using ay);exact this.symm
 clear ay;go_enter func61,ntmps61;go_upto_region 1 with fail;obtain⟨u,D⟩:∃ u,u=(w.alloc (BG #[S ab am ai,S ac n1 aj,S ad n2 ak,S ae an c3] 29)).alloc (BG #[S af h cf,S ag h al,J AF] 100):=⟨_,rfl⟩
 have E:=A_ (by rw[D];exact(BP _).alloc sI _:Bw w u);have ap:=A_ (by rw[D];exact K_ (DB w _) (BP _):u.1[w.1.size]?=QZ (BG #[S ab am ai,S ac n1 aj,S ad n2 ak,S ae an c3] 29));have X:=A_ (show u.1[w.1.size+1]?=QZ (BG #[S af h cf,S ag h al,J AF] 100) by rw[D];have:=DB (w.alloc (BG #[S ab am ai,S ac n1 aj,S ad n2 ak,S ae an c3] 29)) (BG #[S af h cf,S ag h al,J AF] 100);rwa [FU]at this);rw[<-D];clear D;obtain⟨aU,-,-⟩:=bx ap;obtain⟨H,-,-⟩:=bx X;have a2:w.1.size<u.1.size:=E_ ap;have l1:w.1.size+1<u.1.size:=E_ X;have W:=C2u _ p _ xs ys B n d us aT _ f _ q u (a9.below E) (a8.below E) (aK.below E) a5 a4 a7 ah.tr ah.tl;rw[aE.o]at W;go_wp2_with fail;refine W.mono ?_;clear W;rintro _ aB ⟨A,c,bs,rfl,T,Y⟩;have aG:=A_ (BH E Y);have G:=A_ (K_ X Y);have aL:=A_ T;clear T Y aU H a2 l1;obtain⟨H,-⟩:=B_ G (j:=0) rfl;obtain⟨aq,-⟩:=B_ G (j:=1) rfl;obtain⟨ar,-⟩:=B_ G (j:=2) rfl;simp at H aq ar;have l1:w.1.size+1<aB.1.size:=E_ G;go_wp2_with fail;refine(C7q A h c (A1h p us f q) bs AF aB aL.o bc bd a6.o (λaV=>by first|exact aC.o aV|exact aC.o trivial) (by rw[<-aD.o];exact ah.ok)).mono ?_;rintro _ a3 ⟨aI,m,aR,aP,rfl,O,au⟩;rw[<-aD.o]at O;have aM:=A_ O;have ao:=A_ (BH aG au);have aZ:m<=144:=by rw[<-O.1];have:=D0p p us f q;rw[aE.o]at this;omega
 clear O au H aq ar l1;go_wp2_with fail;refine(A2l aI m aR (A6f p us f q) aP a3 aM aZ (D0j p us f q)).mono ?_;rintro _ w3 ⟨aJ,k,aS,aQ,rfl,aA,az,aw⟩;have aN:=A_ aA;have aH:=A_ (BH ao aw);have aO:=A_ (show ∀ b∈aQ,w.1.size<=b from λb aW=>by have:=(az.2 b aW).1;have:=ao.size;omega);clear aA az aw;go_wp2;refine CK (v:=.tuple #[S aJ k aS,J AF]) (by simp[CO,results61,go_sem, *]) rfl ?_;exact⟨_,_,_,_,rfl,aN,aO,aH⟩
end Go.Proofs.YtjcanieccnljfaaGreat.X
