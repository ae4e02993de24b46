/- A part of the proof. -/
import Derived.Test.YtbhemnidcleaiaaGreatY31
import Derived.Great.BuildSlice
set_option linter.constructorNameAsVariable false
set_option maxHeartbeats 16000000
set_option maxRecDepth 10000
namespace Go.Proofs.YtbhemnidcleaiaaGreat.X
open Go.RowKit Go.XB Go.XN
theorem D4d:∀ (vs us b:List Value) (i:Nat),i=b.length->us.length=vs.length->(vs.zipIdx i).foldl (fun(cs:Array Value) (x:Value×Nat)=>cs.setIfInBounds (0+x.2) x.1) (b++us).toArray=(b++vs).toArray
 | [],us,b,i,_,hl=>by
  obtain rfl:us=[]:=List.eq_nil_of_length_eq_zero hl
  rfl
 |v::vs,[],b,i,_,hl=>by simp at hl
 |v::vs,u::us,b,i,hi,hl=>by
  rw[List.zipIdx_cons,List.foldl_cons]
  have e:(b++u::us).toArray.setIfInBounds (0+i) v=((b++[v])++us).toArray:=by
   subst hi;simp
  simp only[e]
  rw[D4d vs us (b++[v]) (i+1) (by simp[hi]) (by simpa using hl)]
  simp
theorem A5l {n:Nat} {L:List Value} (u:L.length=n) {cells:Array Value} (h:cells.size=n):Instr.fill (λi=>some (i*n,n)) cells [(0,.agg L.toArray)]=some L.toArray:=by
 have b:=D4d L cells.toList [] 0 rfl (by simp[h,u]);simp only[List.nil_append]at b;unfold Instr.fill;simp only[Nat.zero_mul,Value.cells,List.size_toArray,u,h];rw[if_neg sI];unfold Instr.fill;rw[<-Array.foldl_toList];simp only[Array.toList_zipIdx]at *;exact congrArg some (by simpa using b)
end Go.Proofs.YtbhemnidcleaiaaGreat.X
namespace Go
open Go.RowKit Go.XB Go.Proofs.YtbhemnidcleaiaaGreat.X
theorem D3u {P:Program} {D:Array Oper} {rest:List Oper} {o:Oper} {a:Act} {w:World} {Q:Exit->Act->World->Prop} (E:o.guard=none) (t e:TypeId) (x:Operand) (H:o.op=.buildSlice t 1 #[(0,x)])
  (L:List Value) (b:TypeInfo) (z:Value) (I:P.underlying t=some (.slice e)) (G:P.info? e=some b) (K:b.zero=some z) (u:b.size=L.length) (O:0<L.length) (S:L.length<=1000)
  (J:a.eval x=.agg L.toArray)
  (h:wpList P D Q rest (a.put o.dst (.slice (some ⟨w.1.size,0,none⟩) 1 1)) (w.alloc (.cells L.toArray e))):wpList P D Q (o::rest) a w:=by
 refine wpList_buildSlice E t e 1 _ H _ b z I G K (by rw[u];omega) (by rw[u];omega) ?_ h;rw[u];simp only[List.map_toArray,List.map_cons,List.map_nil,J];exact A5l rfl sI
end Go

namespace Go.Proofs.YtbhemnidcleaiaaGreat.X
open Go.RowKit Go.XB Go.XN Proofs.Tryz
theorem E7z:(prog.info? 262).map (λi=>(i.zero,i.size,i.bytes))=some (some (.agg (.slice none 0 0::.bool false::.slice none 0 0::.slice none 0 0::.bool false::.slice none 0 0::.slice none 0 0::.bool false::.slice none 0 0::.slice none 0 0::.bool false::.slice none 0 0::.slice none 0 0::.bool false::.slice none 0 0::.slice none 0 0::.bool false::.slice none 0 0::.slice none 0 0::.bool false::.slice none 0 0::.slice none 0 0::.bool false::.slice none 0 0::.slice none 0 0::.bool false::.slice none 0 0::.slice none 0 0::.bool false::.slice none 0 0::.slice none 0 0::.bool false::.slice none 0 0::.slice none 0 0::[]).toArray),34,640):=kR
attribute [local go_sem] L_ Go.XB.opAt N_ M_ Region.wanted yielded
attribute [local simp] N_ M_ MP.eq MP.agg MP.aggB MP.aggN MP.sl MP.box MP.slrow A0r
theorem C8p {p:TProblem} {us:List TRat} {f:TFan} {v:Int} {i:Nat} {k:Int} {t:TTri} (h:f.triangles[i]?=some k) (b:p.1.triangles[k.toNat]?=some t) :
  (A1h p us f v).take (i+1)=(A1h p us f v).take i++[A5g p us t v]:=by
 have e:(A1h p us f v)[i]?=some (A5g p us t v):=by unfold A1h;rw[List.getElem?_map,h];simp[List.getD_eq_getElem?_getD,b]
 rw[List.take_add_one,e];rfl
theorem C2u (v:Value) (p:TProblem) (b:List Nat) (xs ys:List Int) (B:Option Addr) (n d:Nat) (us:List TRat) (aO:List Nat) (bq:Value) (f:TFan) (bR:List Nat) (q:Int) (w:World) (aS:Agg w v p b) (aR:Sl w B n d us aO) (aj:Agg w bq f bR) (bk:ProbI p xs ys) (am:LinD p us) (O:p.3.length=3)
  (bh:∀ k∈f.triangles,0<=k/\k<p.1.triangles.length/\B6x (p.1.triangles.getD k.toNat A4p) q=true) (bg:f.triangles.length<=48) :
  Calls prog 213 #[v,.slice B n d,bq,.int .i64 q] w (λe w'=>∃ A c bs,e=.returned (.tuple #[.slice A f.triangles.length c,.bool true])/\Sl w' A f.triangles.length c (A1h p us f q) bs/\Bw w w'):=by
 have aG:=A_ aS;have a7:=A_ aR;have a5:=A_ am;have bD:=A_ bk;have bH:=A_ O;have bz:=A_ bh;have bB:=A_ (by rw[<-am.ul];exact aR.1.symm:n=p.1.1.length);obtain⟨ax,aU,aJ,cv,ay,n1,aK,cw,az,n2,aL,cx,aA,aV,c3,cy,rfl,rfl,b7,an,b8,b9⟩:=TProblem.agg aS;have bI:=A_ an.1;have bG:=A_ an;obtain⟨aE,u,aM,ch,aF,aW,aN,ci,rfl,rfl,ai,bY⟩:=TFan.agg aj;have bv:=A_ ai;have a3:=A_ ai.1;have cq:u<=48:=by rw[<-ai.1];exact bg
 have cs:(u:Int)<=48:=oM;have co:n1<=48:=by rw[<-an.1];exact am.t48
 have cp:(n1:Int)<=48:=oM;rw[a3.o];obtain⟨bp,bj,bn,bo,cc⟩:=info_parts E7z;clear b7 an b8 b9 aS aR am bk O bh ai bY aj bg;go_enter func213,ntmps213;go_upto_region 1 with fail;obtain⟨I,aa⟩:∃ I,I=(w.alloc (.cells #[.slice ax aU aJ,.slice ay n1 aK,.slice az n2 aL,.slice aA aV c3] 29)).alloc (.cells #[.slice aE u aM,.slice aF aW aN,.bool f.closed] 178):=⟨_,rfl⟩
 have aC:=A_ (by rw[aa];exact(Below.box _).alloc sI _:Bw w I);have K:=A_ (by rw[aa];exact K_ (heap_alloc_new w _) (Below.box _):I.1[w.1.size]?=some (.cells #[.slice ax aU aJ,.slice ay n1 aK,.slice az n2 aL,.slice aA aV c3] 29));have bK:=A_ (show I.1[w.1.size+1]?=some (.cells #[.slice aE u aM,.slice aF aW aN,.bool f.closed] 178) by rw[aa];have:=heap_alloc_new (w.alloc (.cells #[.slice ax aU aJ,.slice ay n1 aK,.slice az n2 aL,.slice aA aV c3] 29)) (.cells #[.slice aE u aM,.slice aF aW aN,.bool f.closed] 178);rwa [World.size_alloc]at this);rw[<-aa];clear aa;obtain⟨h,-⟩:=B_ K (j:=0) rfl;obtain⟨D,-⟩:=B_ K (j:=1) rfl;obtain⟨Y,-⟩:=B_ K (j:=2) rfl;obtain⟨Z,-⟩:=B_ K (j:=3) rfl;simp at h D Y Z;have E:w.1.size<I.1.size:=E_ K;go_wp2_with fail;refine(C8z _ p _ xs ys B n d us aO I (aG.below aC) bD (a7.below aC) a5.uo bB).mono ?_;rintro _ ac ⟨rfl,ah⟩;have aY:=A_ (Below.next aC ah);have bJ:=A_ (K_ K ah);have a8:=A_ (K_ bK ah);have ba:=A_ (PendS.start (α:=TPiece) (e:=262) aY);clear ah h D Y Z E;have aH:=A_ (K_ a8 (Below.box (w:=ac) (.cells #[] 262)));obtain⟨h,-⟩:=B_ aH (j:=0) rfl;simp at h;have E:w.1.size+1<(ac.alloc (.cells #[] 262)).1.size:=E_ aH;have bF:=A_ (by rw[A1h,List.length_map,a3.o]:(A1h p us f q).length=u);go_wp2_with fail;go_loopg [10,24] u (λg s10 s24 wr=>∃ (i gB cap:Nat),i+g=u/\s24=.int .i64 i/\s10=.slice (some ⟨gB,0,none⟩) i cap/\Hid (PendS w ac 262 wr gB i cap ((A1h p us f q).take i)));case atStart=>exact⟨0,ac.1.size,0,oM,rfl,rfl,ba.o⟩
 case round =>
  clear ba aH h E;obtain⟨i,gB,cap,bi,rfl,rfl,J⟩:=hrel;have H:=A_ J.bw;have a2:=A_ J.bb;rcases Nat.lt_or_ge i u with al|al
  ·have b3:(i:Int)<u:=oM
   have cj:(0:Int)<=i:=oM;obtain⟨g,rfl⟩:∃ g,gk=g+1:=⟨gk - 1,oM⟩
   have b0:=A_ (by omega:i+1+g=u);have br:=A_ (by unfold maxLen;omega:i+1<=maxLen);have bt:=A_ (by omega:(i+1)*640<=140737488355328);obtain⟨cg,ct,x,rfl,bU,aT,bX,b4⟩:=B9i (bv.below H) al;obtain⟨ca,cb,ak⟩:=bz x (List.mem_of_getElem? aT);obtain⟨G,rfl⟩:∃ G:Nat,x=(G:Int):=⟨x.toNat,oM⟩
   rw[Int.toNat_natCast]at ak;have b5:G<n1:=by rw[<-bI.o];omega
   obtain⟨bc,cu,t,rfl,bV,ao,ap,aq,ar,au,aw,be⟩:=TTri.elemA (bG.below H) b5;rw[A0e ao]at ak;have bA:=A_ ao;have a4:=A_ ak;have bu:=A_ be;have bM:=A_ ap;have bN:=A_ aq;have bO:=A_ ar;have bP:=A_ au;have bQ:=A_ aw;have bL:=A_ (C8p (us:=us) (v:=q) aT (by rw[Int.toNat_natCast];exact ao));have cm:(G:Int)<n1:=oM;have ck:(0:Int)<=G:=oM;have aD:=A0s (G:Int) 0 ((n1:Int) - 1) wr;rw[show inB 0 (G:Int) ((n1:Int) - 1)=true by unfold inB;simp;omega]at aD;have ae:=A_ (K_ bJ a2);have cf:=A_ (K_ a8 a2);obtain⟨h,-⟩:=B_ ae (j:=0) rfl;obtain⟨D,-⟩:=B_ ae (j:=1) rfl;simp at h D;have E:w.1.size<wr.1.size:=E_ ae;clear bi al aT ca cb ak ao be b4;go_wp2_with fail;refine aD.mono ?_;clear aD;rintro _ wa ⟨rfl,aP⟩;have T:=A_ aP;have W:=A_ (K_ ae aP);clear aP h D E ap aq ar au aw bX bU;obtain⟨h,-⟩:=B_ W (j:=0) rfl;obtain⟨D,-⟩:=B_ W (j:=1) rfl;simp at h D;have E:w.1.size<wa.1.size:=E_ W;have cd:=λo=>T.cell (p:=⟨bc,o,none⟩) bV;have ap:=bM.o;have aq:=bN.o;have ar:=bO.o;have au:=bP.o;have aw:=bQ.o;have bW:bc<wa.1.size:=by have:=T.size;omega
   go_wp2_with fail;refine(B5z _ t [] q wa (bu.below T) a4).mono ?_;rintro _ wb ⟨rfl,aQ⟩;have aB:=A_ (Below.next T aQ);have X:=A_ (K_ W aQ);clear aQ h D E ap aq ar au aw bW T W cd;obtain⟨h,-⟩:=B_ X (j:=0) rfl;obtain⟨D,-⟩:=B_ X (j:=1) rfl;obtain⟨Y,-⟩:=B_ X (j:=2) rfl;obtain⟨Z,-⟩:=B_ X (j:=3) rfl;simp at h D Y Z;have E:w.1.size<wb.1.size:=E_ X;have a1:=A_ (Below.next H aB);go_wp2_with fail;refine(D8g _ p _ B n d us aO G q t wb (aG.below a1) (a7.below a1) a5 bH bA a4).mono ?_;rintro _ S ⟨ab,s,rfl,bS,bm,bf⟩;obtain⟨L,rfl,ag⟩:=bS;have aI:=A_ (show L.length=34 from Dat.len ag);have aX:=A_ (show Dat.at_ (S.alloc (.cells L.toArray 262)) L (A5g p us t q) s from Dat.keep ag λb bT=>(Below.box _).block b (Dat.lt ag b bT));have aZ:=A_ (show Bw wr (S.alloc (.cells L.toArray 262))from Below.next (Below.next aB bf) (Below.box _))
   have a9:=A_ (show gB∉s from λaj=>by
    have cn:=J.lt;rcases bm gB aj with af|af
    ·have:=aG.lt gB af;have:=aY.size;omega
    have:=aB.size;omega)
   have a6:=A_ (show ∀ j ab,L[j]?=some ab->(S.alloc (.cells L.toArray 262)).cell? ((⟨S.1.size,0,none⟩:Addr).add j)=some ab from λj ab af=>A0a (heap_alloc_new S _) j ab (by simpa using af));clear ag bm bf h D Y Z E;go_wp2_with (first|(refine D3u rfl 212 262 _ rfl L bp _ underlying212 bj bn (by rw[aI.o];exact bo) (by rw[aI.o];decide) (by rw[aI.o];decide) gD ?_)|(at_builtin;refine D2w rfl _ _ 212 rfl 262 bp _ 640 underlying212 bj bn bo cc rfl J aZ gD ⟨S.1.size,0,none⟩ 1 L (A5g p us t q) s gD a6 aX a9 br bt ?_;intro g' bd ce bl bZ b6));have bE:=A_ (by rw[bL.o];exact bl:PendS w ac 262 ce g' (i+1) bd ((A1h p us f q).take (i+1)));clear bl bZ b6 aX a9 a6 aZ J;go_wp2_with fail;go_roundg g;case measure=>omega
   case rel=>exact⟨i+1,g',bd,b0,gN,rfl,bE⟩
  obtain rfl:i=u:=oM;have b3:¬ ((i:Int)<i):=oM;obtain⟨bs,O⟩:=J.sl;rw[List.take_of_length_le (by rw[bF.o];exact Nat.le_refl _)]at O;have ad:=A_ O;clear bi al O;go_wp2;refine bodyPost_ret (v:=.tuple #[.slice (some ⟨gB,0,none⟩) i cap,.bool true]) (by simp[results,results213,go_sem, *]) rfl ?_;first|exact⟨_,_,_,rfl,ad.o,H.o⟩|exact⟨_,_,rfl,⟨_,ad.o⟩,H.o⟩|exact⟨_,_,⟨rfl,rfl⟩,⟨_,ad.o⟩,H.o⟩|exact⟨_,_,⟨_,ad.o⟩,H.o⟩|trace_state
end Go.Proofs.YtbhemnidcleaiaaGreat.X

namespace Go.XB
open Go.RowKit
def MP.agg2 {α β:Type} [Dat α] [Dat β] (x:α) (y:β):MP:=⟨λv bs w=>∃ v1 v2 s1 s2,v=.tuple #[v1,v2]/\bs=s1++s2/\Agg w v1 x s1/\Agg w v2 y s2,λ_ _ _ _ hb h=>by
 obtain⟨v1,v2,s1,s2,e,z,h1,h2⟩:=h;exact⟨v1,v2,s1,s2,e,z,h1.below hb,h2.below hb⟩⟩
def MP.tup (u:Value):MP:=⟨λv bs _=>v=u/\bs=[]/\∃ a b,v=.tuple #[a,b],λ_ _ _ _ _ h=>h⟩
def MP.tupL (y:Value):MP:=⟨λv bs _=>bs=[]/\∃ b,y=.tuple #[v,b],λ_ _ _ _ _ h=>h⟩
def MP.tupR (y:Value):MP:=⟨λv bs _=>bs=[]/\∃ a,y=.tuple #[a,v],λ_ _ _ _ _ h=>h⟩
end Go.XB
namespace Go.Proofs.YtbhemnidcleaiaaGreat.X
open Go.RowKit Go.XB Go.XN Proofs.Tryz
theorem E8p {bad:Nat->Prop} {w:World} {u0 u1 u2:Value} {y:TRat} {s:List Nat} (h:Agg w (.agg #[u0,u1,u2]) y s) (E:∀ b∈s,¬ bad b) (H:bad w.1.size):RR bad (w.alloc (.cells #[u0,u1,u2] 35)) w.1.size 1 1 [y]:=by
 have G:=A3x h;refine⟨[u0,u1,u2],[s],⟨rfl,.inr ⟨w.1.size,1,#[u0,u1,u2],rfl,Nat.zero_le _,heap_alloc_new w _,Nat.le_refl _,dE,rfl,rfl⟩⟩,⟨rfl,Nat.le_refl _,λk x I D u=>?_⟩,rfl,by simpa using E,H⟩;match k,D,u with
 |0,D,u =>
  simp at D u
  subst D;subst u
  exact Dat.keep G λb E=>(Below.box _).block b (Dat.lt G b E)
theorem D8z {w:World} {g:Nat} {x:TRat} {P1:Option Addr} {n1 m1:Nat} {P2:Option Addr} {n2 m2:Nat} {t:TypeId} (h:w.1[g]?=some (.cells #[.bool x.1.1,.slice P1 n1 m1,.slice P2 n2 m2] t)):RBox w g x P1 n1 m1 P2 n2 m2 :=
 ⟨E_ h,⟨(B_ h (j:=0) rfl).1,(B_ h (j:=1) rfl).1,(B_ h (j:=2) rfl).1⟩,⟨(B_ h (j:=0) rfl).2,(B_ h (j:=1) rfl).2,(B_ h (j:=2) rfl).2⟩⟩
theorem E4n {α:Type} [Dat α] {w:World} {L:List Value} {x:α} {s:List Nat} (h:Agg w (.agg L.toArray) x s):Dat.at_ w L x s:=by
 obtain⟨b,e,u⟩:=h;have:b=L:=by simpa using e.symm
 rwa [this]at u
theorem B8k (w:World) (r:Option Nat):w.grownBy w r:=⟨rfl,rfl,rfl,Nat.le_refl _,λ_ _ _=>rfl⟩
theorem A8f {X w w':World} {r:Option Nat} (h:X.grownBy w r) (hb:Bw w w'):X.grownBy w' r :=
 ⟨hb.os.trans h.os,hb.tape.trans h.tape,hb.output.trans h.output,Nat.le_trans h.size hb.size,λk hk hn=>(hb.block k (Nat.lt_of_lt_of_le hk h.size)).trans (h.block k hk hn)⟩
theorem C4f {X w:World} {g i j k:Nat} {v0 v1 v2:Value} (h:X.grownBy w (some g)):X.grownBy (((w.setCell ⟨g,i,none⟩ v0).setCell ⟨g,j,none⟩ v1).setCell ⟨g,k,none⟩ v2) (some g) :=
 ⟨h.os,h.tape,h.output,by simpa using h.size,λb hb hn=>by
  have hne:b≠g:=λe=>hn (by rw[e])
  exact(Below.heap_setCell _ _ _ b (by simpa using hne)).trans ((Below.heap_setCell _ _ _ b (by simpa using hne)).trans ((Below.heap_setCell _ _ _ b (by simpa using hne)).trans (h.block b hb hn)))⟩
theorem RR.cap {bad:Nat->Prop} {w:World} {g n cap:Nat} {xs:List TRat} (h:RR bad w g n cap xs):n<=cap:=by
 obtain⟨cells,fss,⟨_,u⟩,_⟩:=h;rcases u with⟨b,_⟩|⟨g',E,G,b,_,_,D,_⟩;·cases b
 injection b with _ _ e3;rw[e3];exact D
def C3q (f:TRat->TRat) (O:List TRat) (i:Nat):List TRat:=(O.take i).map f++O.drop i
theorem E2q (f:TRat->TRat) (O:List TRat) (i:Nat):(C3q f O i).length=O.length:=by
 unfold C3q;simp;omega
theorem C6z (f:TRat->TRat) (b:List TRat) (i j:Nat):(C3q f b i)[j]?=if j<i then(b[j]?).map f else b[j]?:=by
 unfold C3q;by_cases h:j<i
 ·rw[if_pos h]
  by_cases u:j<b.length;·rw[List.getElem?_append_left sO,List.getElem?_map,List.getElem?_take,if_pos h]
  rw[List.getElem?_append_right sO,List.getElem?_eq_none sO,List.getElem?_eq_none oM];rfl
 rw[if_neg h,List.getElem?_append_right sO,List.getElem?_drop];by_cases u:i<=b.length;·rw[List.length_map,List.length_take,Nat.min_eq_left u];congr 1;omega
 rw[List.getElem?_eq_none sO,List.getElem?_eq_none oM]
theorem E4z {f:TRat->TRat} {b:List TRat} {i:Nat} {y:TRat} (h:b[i]?=some y):(C3q f b i).set i (f y)=C3q f b (i+1):=by
 apply List.ext_getElem?;intro j;rw[List.getElem?_set,C6z,C6z,E2q];have E:=(List.getElem?_eq_some_iff.1 h).1;by_cases D:i=j;·subst D;rw[if_pos rfl,if_pos E,if_pos oM,h];rfl
 rw[if_neg D];by_cases u:j<i;·rw[if_pos u,if_pos oM]
 rw[if_neg u,if_neg oM]
theorem E4o (f:TRat->TRat) (O:List TRat):C3q f O O.length=O.map f:=by
 unfold C3q;simp
attribute [local go_sem] L_ Go.XB.opAt N_ M_ Region.wanted yielded
attribute [local simp] N_ M_ MP.eq MP.agg MP.aggB MP.aggN MP.sl MP.box MP.slbox MP.slrow MP.agg2 MP.tup MP.tupL MP.tupR A0r
theorem C7q (A:Option Addr) (n c:Nat) (xs:List TPiece) (e1:List Nat) (cl:Bool) (w:World) (cp:Sl w A n c xs e1) (gi:n<=48) (gl:1<=n) (dY:∀ x∈xs,∃ a b c,x.list=[a,b,c]/\A7m [a,b,c]=true)
  (dT:cl=true->J_ ((A2h xs n).getD n A0h)=true/\A2v ((A2h xs n).getD n A0h)=0) (d5:(A9c xs cl).any A2e=false) :
  Calls prog 214 #[.slice A n c,.bool cl] w (λe w'=>∃ F m cF bF,e=.returned (.tuple #[.slice F m cF,.bool true])/\Sl w' F m cF (A9c xs cl) bF/\Bw w w'):=by
 have eE:=A_ cp;have ex:=A_ dY;have ew:=A_ dT;have ez:=A_ d5;have eF:=A_ cp.1;have gn:(n:Int)<=48:=oM;obtain⟨fp,fj,fo,ap,cu⟩:=info_parts B2r;clear cp dY dT d5;go_enter func214,ntmps214;go_wp2_with fail;refine(A0l 0 w cD).mono ?_;rintro _ aG ⟨v1,a4,rfl,b7,d0,dH⟩;obtain⟨O1,ft,e3,_,O2,fu,e4,_,rfl,-,_,_⟩:=TRat.agg b7;have bO:=A_ b7;have c2:=A_ dH;have eC:=A_ (show ∀ b∈a4,w.1.size<=b from λb u=>(d0.2 b u).1);clear b7 d0 dH;go_upto_region 2 with fail;obtain⟨ax,aX⟩:∃ y,y=aG.alloc (.cells #[.bool (U_ 0).1.1,.slice O1 ft e3,.slice O2 fu e4] 35):=⟨_,rfl⟩
 have bS:=A_ (show RR (λb=>b=aG.1.size) ax aG.1.size 1 1 [U_ 0] by rw[aX];exact E8p bO (λb u e=>by have:=bO.lt b u;omega) rfl);have cU:=A_ (by rw[aX];exact Below.box _:Bw aG ax);have bX:=A_ (by rw[aX];simp:ax.1.size=aG.1.size+1);rw[<-aX];clear aX;obtain⟨b5,bu⟩:∃ y,aG.1.size=y:=⟨_,rfl⟩
 have cY:=A_ (by rw[<-bu];exact c2.size:w.1.size<=b5);have cW:=A_ (Below.next c2 cU);rw[bu]at bS bX;simp only[bu];clear bu cU;go_wp2_with fail;refine(A0l 0 ax cD).mono ?_;rintro _ w2 ⟨v2,aq,rfl,br,d1,dI⟩;obtain⟨P1,p1,q1,_,P2,p2,q2,_,rfl,-,_,_⟩:=TRat.agg br;have c0:=A_ br;have aM:=A_ dI;have c7:=A_ (show ∀ b∈aq,ax.1.size<=b/\b<w2.1.size from λb u=>⟨(d1.2 b u).1,br.lt b u⟩);clear br d1 dI;go_wp2_with fail;refine(A0l 0 w2 cD).mono ?_;rintro _ w3 ⟨gu,cx,rfl,bs,d2,dJ⟩;obtain⟨Q1,k1,l1,_,Q2,k2,l2,_,rfl,-,_,_⟩:=TRat.agg bs;have c1:=A_ bs;have aN:=A_ dJ;have c8:=A_ (show ∀ b∈cx,ax.1.size<=b/\b<w3.1.size from λb u=>⟨by have:=(d2.2 b u).1;have:=aM.size;omega,bs.lt b u⟩);clear bs d2 dJ;go_upto_region 3 with fail;obtain⟨bj,aY⟩:∃ y,y=(w3.alloc (.cells #[.bool (U_ 0).1.1,.slice P1 p1 q1,.slice P2 p2 q2] 35)).alloc (.cells #[.bool (U_ 0).1.1,.slice Q1 k1 l1,.slice Q2 k2 l2] 35):=⟨_,rfl⟩
 have aJ:=A_ (by rw[aY];exact(Below.box _).alloc sI _:Bw w3 bj);have dc:=A_ (by rw[aY];exact K_ (heap_alloc_new w3 _) (Below.box _):bj.1[w3.1.size]?=some (.cells #[.bool (U_ 0).1.1,.slice P1 p1 q1,.slice P2 p2 q2] 35));have dd:=A_ (show bj.1[w3.1.size+1]?=some (.cells #[.bool (U_ 0).1.1,.slice Q1 k1 l1,.slice Q2 k2 l2] 35) by rw[aY];have:=heap_alloc_new (w3.alloc (.cells #[.bool (U_ 0).1.1,.slice P1 p1 q1,.slice P2 p2 q2] 35)) (.cells #[.bool (U_ 0).1.1,.slice Q1 k1 l1,.slice Q2 k2 l2] 35);rwa [World.size_alloc]at this);rw[<-aY];clear aY;have bT:=A_ (show FlSt w bj w3.1.size (w3.1.size+1) b5 1 1 (A2h xs 0) (B3x xs 0) P1 p1 q1 P2 p2 q2 aq (B2i xs 0) Q1 k1 l1 Q2 k2 l2 cx from by
  have gE:=bX.o;have gF:=aM.size;have gG:=aN.size;have fY:=cY.o
  refine⟨Below.next (Below.next (Below.next cW aM) aN) aJ,D8z dc,D8z dd,(c0.below aN).below aJ,c1.below aJ,
   (((bS.o.weaken (λb u E=>?_) (.inl rfl)).below aM.o).below aN.o).below aJ.o,λb u=>?_,λb u=>?_,oM,oM,fY,oM,oM,oM⟩
  ·rcases E with E|E|E
   ·exact E
   ·omega
   omega
  ·have:=c7 b u;omega
  have:=c8 b u;omega)
 obtain⟨ga,aE⟩:∃ y,w3.1.size=y:=⟨_,rfl⟩
 obtain⟨gb,aF⟩:∃ y,ga+1=y:=⟨_,rfl⟩
 rw[aE,aF]at bT;simp only[aE,aF];clear bO eC bS c0 c7 c1 c8 dc dd aJ aN aM aE aF bX cY cW;go_wp2_with fail;go_loopg [6,23] n (λg s6 s23 wr=>∃ (i gr cr:Nat) (lx rx:TRat) (P1:Option Addr) (p1 q1:Nat) (P2:Option Addr) (p2 q2:Nat) (rl:List Nat) (Q1:Option Addr) (k1 l1:Nat) (Q2:Option Addr) (k2 l2:Nat) (rr:List Nat),i+g=n/\s23=.int .i64 i/\s6=.slice (some ⟨gr,0,none⟩) (i+1) cr/\Hid (lx=B3x xs i/\rx=B2i xs i)/\Hid (FlSt w wr ga gb gr (i+1) cr (A2h xs i) lx P1 p1 q1 P2 p2 q2 rl rx Q1 k1 l1 Q2 k2 l2 rr));case atStart=>exact⟨0,b5,1,_,_,P1,p1,q1,P2,p2,q2,aq,Q1,k1,l1,Q2,k2,l2,cx,oM,rfl,rfl,⟨rfl,rfl⟩,bT.o⟩
 case round =>
  clear bT;obtain⟨i,gr,cr,lx,rx,P1,p1,q1,P2,p2,q2,rl,Q1,k1,l1,Q2,k2,l2,rr,dW,rfl,rfl,be,K⟩:=hrel;rcases Nat.lt_or_ge i n with bz|bz
  ·have fk:(i:Int)<n:=oM
   have gd:(0:Int)<=i:=oM;obtain⟨g,rfl⟩:∃ g,gk=g+1:=⟨gk - 1,oM⟩
   have fi:=A_ (by omega:i+1+g=n);have eo:=A_ (by unfold maxLen;omega:i+1+1<=maxLen);have ep:=A_ (by omega:(i+1+1)*56<=140737488355328);obtain⟨dq,fx,x,L,gt,rfl,dO,cq,d9,b9,dy⟩:=TPiece.elemL eE bz;obtain⟨eZ,b1,e2,dZ,d6⟩:=ex x (List.mem_of_getElem? cq);have ey:=A_ dZ;have eA:=A_ d6;have aw:=A_ dy;have cL:=A_ b9;have eJ:=A_ (show ∀ v∈L,v.oneCell'=true from Dat.one (E4n b9));have dp:=A_ (show xs.getD i pc0=x from A0e cq);have dh:=A_ (B5q d9 dO K.bl);have f6:dq<wr.1.size:=by have:=K.bl.size;omega
   have eM:=A_ (by rw[A2h,dp.o]:A2h xs (i+1)=A2h xs i++[A0k ((A2h xs i).getD i A0h) (C1f x)]);clear dW bz cq b9 d9 dZ d6 dy dO;go_upto_region 6 with(first|(refine wpList_load_mid rfl 262 _ rfl dq (fx+i*34) gD L _ dh.o underlying262 rfl (by rw[aw.o];exact A7z) ?_)|(refine wpList_store_mid rfl 262 _ _ rfl wr.1.size 0 L.toArray gD gD (C5j (heap_alloc_new wr _) (by rw[List.size_toArray,aw.o];exact Nat.le_refl _)) (by rw[List.size_toArray,aw.o];exact A7z) (all_oneCell_toArray eJ) ?_))
   obtain⟨bW,dD,aA,-,af,-⟩:=C0o (vs:=L) (heap_alloc_new wr (.cells (.slice none 0 0::.bool false::.slice none 0 0::.slice none 0 0::.bool false::.slice none 0 0::.slice none 0 0::.bool false::.slice none 0 0::.slice none 0 0::.bool false::.slice none 0 0::.slice none 0 0::.bool false::.slice none 0 0::.slice none 0 0::.bool false::.slice none 0 0::.slice none 0 0::.bool false::.slice none 0 0::.slice none 0 0::.bool false::.slice none 0 0::.slice none 0 0::.bool false::.slice none 0 0::.slice none 0 0::.bool false::.slice none 0 0::.slice none 0 0::.bool false::.slice none 0 0::.slice none 0 0::[]).toArray 262)) (by rw[aw.o];rfl) (Below.box _) (Nat.le_refl _);rw[dD];have ba:=A_ aA;have em:=A_ af;have bQ:=A_ (B9e aA);have aO:=A_ (K.below af);have cM:=A_ (cL.below aO.bl);obtain⟨bx,aZ⟩:∃ y,wr.1.size=y:=⟨_,rfl⟩
   have bN:=A_ (show w.1.size<=bx/\gr<bx/\ga<bx/\gb<bx by rw[<-aZ];exact⟨K.bl.size,K.ro.lt,K.ra.1,K.rb.1⟩);have cP:=A_ (by rw[<-aZ];exact af.size:bx<=bW.1.size);rw[aZ]at ba bQ;simp only[aZ];clear dD aA af K dh em aZ;obtain⟨y,bU,cv,bY,bV,cw,bZ,du,X,aH,aI,Y,-,-,-,ag,-,bv⟩:=aO.o.ro.elem (by omega:i<i+1);have eY:=A_ (show(A2h xs i).getD i A0h=y from A0e X);have ak:=A_ ag;have dR:bx<bW.1.size:=E_ ba;clear X ag;go_wp2_with fail;refine W_ 9 kR kR kR kR kR ?_;simp only[List.take_succ_cons,List.take_zero,List.drop_succ_cons,List.drop_zero];iterate 5 refine C_ _ ?_
   refine C2a L 262 _ rfl _ underlying262 rfl (by rw[aw.o];exact A7z) ?_ ?_;·intro I H G D h;obtain⟨aB,aC⟩:=F_ D;simp at h;exact⟨gD,bx,0,gD,B5q bQ dR D⟩
   refine D_ (MP.agg (C1f x)) ?_ ?_;·intro I H G D h;obtain⟨aB,aC⟩:=F_ D;simp at h;refine G_ ?_;exact H_ (C0z _ x _ G (cM.below D))
   refine D_ (MP.agg (A0k y (C1f x))) ?_ ?_;·intro I H G D h;obtain⟨aB,aC⟩:=F_ D;simp at h;refine G_ ?_;obtain⟨_,t⟩:=h;exact H_ (A0x _ _ y (C1f x) _ _ G (ak.o.below D) (by first|exact t.1|exact t.1.1))
   refine A1d (λS=>MP.slbox (S 7).cells 35) (by intro y S E;simp[N_,M_]at E;simp[E]) ?_ ?_;·intro I H G D h;simp at h;obtain⟨aa,ai,ad,bl,ab,aj,ae,bm,ay,_,_,_⟩:=TRat.agg h.1;refine⟨gD,.slice (some ⟨G.1.size,0,none⟩) 1 1,G.alloc (.cells (I 7).cells 35),?_,Below.box _,[G.1.size],⟨G.1.size,rfl,rfl,heap_alloc_new G _⟩,sI⟩;rw[ay];go_simp
   intro I H wa D h (ah:Hid _);simp at h;have bB:=h.1;have fG:=h.2.2.2.2.2.2.2.1;have fF:=h.2.2.2.2.2.2.2.2;obtain⟨⟨bq,-⟩,ch⟩:=fG;obtain⟨aa,ai,ad,bl,ab,aj,ae,bm,ee,-,_,_⟩:=TRat.agg bq;obtain⟨⟨fd,T,fZ,cd⟩,-⟩:=fF;rw[ee]at cd bq;have cK:=A_ (A3x bq);have eB:=A_ (show ∀ b∈H 7,bW.1.size<=b from λb u=>(ch b u).1);have de:=A_ (show ∀ b∈H 7,¬ (b=gr\/(b=ga\/b=gb))from λb u E=>by have:=(ch b u).1;have:=bN.o;have:=cP.o;omega);have c6:=A_ cd;have ar:=A_ D;have fT:I 0=.slice (some ⟨gr,0,none⟩) (i+1) cr:=by first|exact bB.1.1|exact bB.1|exact bB
   generalize H 7=fJ at *;clear h ah bq ch cd fZ D bB aH aI Y bv;go_upto_region 7 with(at_builtin;refine E1y rfl _ _ 27 rfl fp (.agg #[.bool false,.slice none 0 0,.slice none 0 0]) 56 underlying27 fj fo ap cu rfl aO.ro ar gD ⟨fd,0,none⟩ 1 [.bool (A0k y (C1f x)).1.1,.slice aa ai ad,.slice ab aj ae] (A0k y (C1f x)) fJ gD (A0a c6) cK de eo ep ?_;intro g' dt bH d7 ce cg)
   have aP:=A_ (show FlSt w bH ga gb g' (i+1+1) dt (A2h xs (i+1)) lx P1 p1 q1 P2 p2 q2 rl rx Q1 k1 l1 Q2 k2 l2 rr from by rw[eM.o,eY.o];exact(aO.below ar).push d7 ce cg)
   have bP:=A_ (show bH.1[bx]?=some (.cells L.toArray 262)from
    (ce.block bx (by have:=ar.size;omega) (by intro e;injection e with e;have:=bN.o;omega)).trans (K_ ba.o ar.o))
   have cN:=A_ (cL.below aP.bl);have f1:=A_ (show g'≠bx by have:=bN.o;have:=ar.size;rcases cg with E|E<;>omega);clear d7 ce cg ee T fT cK eB de c6 ar aO cM ak ba bQ cP dR;obtain⟨Z,bU,cv,bY,bV,cw,bZ,f3,eb,a0,aR,aS,-,-,-,dF,-,bv⟩:=aP.o.ro.elem (by omega:i<i+1+1);obtain⟨T,eR,fv,e5,eS,fw,e6,f4,ec,aT,aU,b2,-,-,-,dG,-,-⟩:=aP.o.ro.elem (by omega:i+1<i+1+1);have eW:=A_ (show(A2h xs (i+1)).getD i A0h=Z from A0e eb);have eX:=A_ (show(A2h xs (i+1)).getD (i+1) A0h=T from A0e ec);have ej:=A_ dF;have ek:=A_ dG;have dS:bx<bH.1.size:=E_ bP;have di:=A_ (B9e bP);have gg:(i:Int)+1<(i:Int)+1+1:=oM;clear eb ec dF dG;go_wp2_with fail;refine B8f 16 13 _ rfl kR kR kR kR kR ?_;simp only[List.take_succ_cons,List.take_zero,List.drop_succ_cons,List.drop_zero];refine C2a L 262 _ rfl _ underlying262 rfl (by rw[aw.o];exact A7z) ?_ ?_;·intro I H G D h;obtain⟨aB,aC⟩:=F_ D;simp at h;exact⟨gD,bx,0,gD,B5q di dS D⟩
   iterate 9 refine C_ _ ?_
   refine D_ (MP.agg2 (B0i x Z T) (B3c x)) ?_ ?_
   ·intro I H G D h
    obtain⟨aB,aC⟩:=F_ D;simp at h;refine G_ ?_;have W:=D8f (.agg L.toArray) _ _ x Z T _ _ _ eZ b1 e2 G (cN.below D) (ej.below D) (ek.below D) ey eA
    exact W.mono λe w' ⟨v1,v2,a4,aq,he,ao,O,h3,h4⟩=>⟨_,he,h4,a4++aq,⟨v1,v2,a4,aq,rfl,rfl,ao,O⟩,λb u=>⟨h3 b u,by
     rcases List.mem_append.1 u with E|E;·exact ao.lt b E
     exact O.lt b E⟩⟩
   refine A1d (λS=>MP.tup (S 10)) (by intro y S E;simp[N_,M_]at E;simp[E]) ?_ ?_;·intro I H G D h;simp at h;obtain⟨v1,v2,bn,a4,aq,a5,ao,O⟩:=h;refine⟨gD,.tuple #[v1,v2],G,gS,Below.refl _ _,[],⟨bn.symm,rfl,v1,v2,rfl⟩,sI⟩
   refine A1d (λS=>MP.tupL (S 11)) (by intro y S E;simp[N_,M_]at E;simp[E]) ?_ ?_;·intro I H G D h;simp at h;obtain⟨b0,-,bE,bG,b3⟩:=h;clear b0;refine⟨gD,bE,G,?_,Below.refl _ _,[],⟨rfl,bG,b3⟩,sI⟩;go_simp
   refine A1d (λS=>MP.tupR (S 11)) (by intro y S E;simp[N_,M_]at E;simp[E]) ?_ ?_;·intro I H G D h;simp at h;obtain⟨b0,-,bE,bG,b3⟩:=h;clear b0;refine⟨gD,bG,G,?_,Below.refl _ _,[],⟨rfl,bE,b3⟩,sI⟩;go_simp
   refine A1p #[.bool false,.slice none 0 0,.slice none 0 0] 35 ?_ ?_;·intro I H G D h;refine⟨gD,?_⟩;go_simp
   refine A1p #[.bool false,.slice none 0 0,.slice none 0 0] 35 ?_ ?_;·intro I H G D h;refine⟨gD,?_⟩;go_simp
   intro I H wb D h (ah:Hid _);simp at h;have fy:=h.2.2.2.2.2.2.2.2.2.2.1;have fz:=h.2.2.2.2.2.2.2.2.2.2.2.1;have fA:=h.2.2.2.2.2.2.2.2.2.2.2.2.1;have fB:=h.2.2.2.2.2.2.2.2.2.2.2.2.2.1;have fC:=h.2.2.2.2.2.2.2.2.2.2.2.2.2.2.1;have fD:=h.2.2.2.2.2.2.2.2.2.2.2.2.2.2.2;obtain⟨⟨v1,v2,bn,cy,sb,a5,ao,O⟩,ci⟩:=fy;obtain⟨⟨b4,-,-⟩,-⟩:=fz;rw[bn]at b4;obtain⟨⟨-,bG,bo⟩,-⟩:=fA;obtain⟨⟨-,bE,ay⟩,-⟩:=fB;rw[b4]at bo ay;have fU:I 12=v1:=by simp at bo;exact bo.1.symm
   have fV:I 13=v2:=by simp at ay;exact ay.2.symm
   obtain⟨aa,ai,ad,_,ab,aj,ae,_,rfl,-,_,_⟩:=TRat.agg ao;obtain⟨aK,a2,aV,_,aL,a3,aW,_,rfl,-,_,_⟩:=TRat.agg O;obtain⟨⟨an,fW,bJ,aD⟩,cj⟩:=fC;obtain⟨⟨az,fX,bK,dU⟩,ck⟩:=fD;rw[bJ]at cj;rw[bK]at ck;rw[a5]at ci;have fq:=(cj an sI).1;have fr:=(ck az sI).1;have df:an≠az:=λe=>by have:=ah.o 14 15 dE dE dE an (by rw[bJ];simp);rw[bK]at this;simp[e]at this
   have a6:=A_ (show ∀ b∈cy++sb,b≠an/\b≠az from λb u=>⟨λe=>by have:=ah.o 10 14 dE dE dE b (by rw[a5];exact u);rw[bJ]at this;simp[e]at this,λe=>by have:=ah.o 10 15 dE dE dE b (by rw[a5];exact u);rw[bK]at this;simp[e]at this⟩);have bh:=A_ (show ∀ b∈cy++sb,bH.1.size<=b from λb u=>(ci b u).1);obtain⟨dm,dA,dx,bc,dv,-⟩:=D1j (.bool (B0i x Z T).1.1) (.slice aa ai ad) (.slice ab aj ae) aD D fq;have au:=A_ ((bc az df.symm).trans dU);obtain⟨cz,cA⟩:=B_ aD (j:=0) rfl;obtain⟨cB,cE⟩:=B_ aD (j:=1) rfl;obtain⟨cG,cH⟩:=B_ aD (j:=2) rfl;have cs:an<wb.1.size:=E_ aD;have da:=A_ dA;have cO:=A_ dv;have cI:=A_ (ao.keep λb u=>bc b (a6.o b (by simp[u])).1);have cJ:=A_ (O.keep λb u=>bc b (a6.o b (by simp[u])).1);have db:=A_ dx;clear h ah bn a5 ao O ci bo ay bJ aD cj bK dU ck dA dv dx bc D a0 aR aS aT aU b2 bv;refine⟨dm,?_,?_⟩;·rw[<-da.o];go_simp
   clear cz cA cB cE cG cH cs da;obtain⟨cz,cA⟩:=B_ au (j:=0) rfl;obtain⟨cB,cE⟩:=B_ au (j:=1) rfl;obtain⟨cG,cH⟩:=B_ au (j:=2) rfl;have ct:az<dm.1.size:=E_ au;go_upto_region 8 with fail;obtain⟨dn,dB,aA,bd,af,-⟩:=D1j (.bool (B3c x).1.1) (.slice aK a2 aV) (.slice aL a3 aW) au cO fr;rw[dB];have eg:=A_ (cI.o.keep λb u=>bd b (a6.o b (by simp[u])).2);have eh:=A_ (cJ.o.keep λb u=>bd b (a6.o b (by simp[u])).2);have a8:=A_ ((bd an df).trans db);have a9:=A_ aA;have am:=A_ (aP.below af);have f0:=A_ af.size;clear dB bd af aA cz cA cB cE cG cH ct fU fV fW fX b4 cI cJ db au cO aP cN bP di dS;obtain⟨aE,⟨a0,aR,aS⟩,-⟩:=am.ra;obtain⟨aF,⟨aT,aU,b2⟩,-⟩:=am.rb;obtain⟨ac,-⟩:=B_ a8 (j:=0) rfl;obtain⟨dr,-⟩:=B_ a8 (j:=1) rfl;obtain⟨ds,-⟩:=B_ a8 (j:=2) rfl;obtain⟨bk,-⟩:=B_ a9 (j:=0) rfl;obtain⟨bl,-⟩:=B_ a9 (j:=1) rfl;obtain⟨bm,-⟩:=B_ a9 (j:=2) rfl;simp at ac dr ds bk bl bm;have cs:an<dn.1.size:=E_ a8;have ct:az<dn.1.size:=E_ a9;go_wp2_with fail;refine W_ 6 kR kR kR kR kR ?_;simp only[List.take_succ_cons,List.take_zero,List.drop_succ_cons,List.drop_zero];iterate 2 refine C_ _ ?_
   refine D_ (MP.agg (A0k lx (B0i x Z T))) ?_ ?_;·intro I H G D h;obtain⟨aB,aC⟩:=F_ D;simp at h;refine G_ ?_;exact H_ (A0x _ _ lx (B0i x Z T) _ _ G (am.al.below D) (eg.below D))
   iterate 2 refine C_ _ ?_
   refine D_ (MP.agg (A0k rx (B3c x))) ?_ ?_;·intro I H G D h;obtain⟨aB,aC⟩:=F_ D;simp at h;refine G_ ?_;exact H_ (A0x _ _ rx (B3c x) _ _ G (am.ar.below D) (eh.below D))
   intro I H fP D h (ah:Hid _);simp at h;have q2:=h.2.2.1;have fE:=h.2.2.2.2.2;obtain⟨⟨O,-⟩,d8⟩:=q2;obtain⟨⟨bp,-⟩,cm⟩:=fE;obtain⟨aa,ai,ad,_,ab,aj,ae,_,Y,-,_,_⟩:=TRat.agg O;obtain⟨aK,a2,aV,_,aL,a3,aW,_,ed,-,_,_⟩:=TRat.agg bp;rw[Y]at O;rw[ed]at bp;have aQ:=am.below D;have dV:=am.ro.lt;have dl:=A_ ((aQ.setL O (λb u=>by have:=(d8 b u).1;refine⟨?_,?_,?_⟩<;>omega)).setR (bp.keep λb u=>A0p b (by have:=(cm b u).1;omega)) (λb u=>by have:=(cm b u).1;refine⟨?_,?_,?_⟩<;>omega));obtain⟨fg,⟨u0,fM,u2⟩,⟨e7,e8,e9⟩⟩:=aQ.ra;obtain⟨fh,⟨fN,fO,v2⟩,⟨fa,fb,fc⟩⟩:=aQ.rb;have gm:=aQ.ne;clear h ah O bp d8 cm D aQ am a0 aR aS aT aU b2 ac dr ds bk bl bm cs ct aE aF dV;generalize H 2=fH at *;generalize H 5=fI at *;go_upto_region 9 with fail;obtain⟨f2,b6⟩:∃ y,y=(((((fP.setCell ⟨ga,0,none⟩ (.bool (A0k lx (B0i x Z T)).1.1)).setCell ⟨ga,1,none⟩ (.slice aa ai ad)).setCell ⟨ga,2,none⟩ (.slice ab aj ae)).setCell ⟨gb,0,none⟩ (.bool (A0k rx (B3c x)).1.1)).setCell ⟨gb,1,none⟩ (.slice aK a2 aV)).setCell ⟨gb,2,none⟩ (.slice aL a3 aW):=⟨_,rfl⟩
   rw[<-b6]at dl;rw[<-b6];have eK:=A_ (show A0k lx (B0i x Z T)=B3x xs (i+1)/\A0k rx (B3c x)=B2i xs (i+1) by rw[B3x,B2i,dp.o,eW.o,eX.o,<-be.o.1,<-be.o.2];exact⟨rfl,rfl⟩);clear b6 u0 fM u2 fN fO v2 e7 e8 e9 fa fb fc fg fh Y ed;generalize A0k lx (B0i x Z T)=fs at *;generalize A0k rx (B3c x)=fK at *;go_wp2_with fail;go_roundg g;case measure=>omega
   case rel=>exact⟨i+1,g',dt,fs,fK,aa,ai,ad,ab,aj,ae,fH,aK,a2,aV,aL,a3,aW,fI,fi,gN,rfl,eK,dl⟩
  obtain rfl:n=i:=oM;have fk:¬ ((n:Int)<n):=oM;clear dW bz;go_upto_if 59 with fail;go_cut [6] (λs6 wx=>∃ N:Nat,s6=.slice (some ⟨gr,0,none⟩) N cr/\Hid (N=(if cl then n else n+1))/\N<=n+1/\Hid (FlSt w wx ga gb gr (n+1) cr (A2h xs n) lx P1 p1 q1 P2 p2 q2 rl rx Q1 k1 l1 Q2 k2 l2 rr));case first =>
   cases cl;·go_wp2_with fail;go_meet;exact⟨n+1,rfl,rfl,Nat.le_refl _,K⟩
   obtain⟨y,bU,cv,bY,bV,cw,bZ,du,X,aH,aI,Y,-,-,-,ag,-,dV⟩:=K.o.ro.elem (by omega:n<n+1);obtain⟨bA,cf⟩:=ew rfl;rw[A0e X]at bA cf;have V:=ratOkB_iff.1 bA;have ak:=A_ ag;have eL:=A_ (show NegOk y.1 from(bigOkB_iff.1 V.1).2);have er:=A_ V.mag;have es:=A_ (C6v bA);have eQ:=A_ cf;have gp:(n:Int)<(n:Int)+1:=oM;have gj:(0:Int)<=n:=oM;clear X ag bA cf V;go_upto_region 12 with fail;refine Code.new λeU bf=>?_;obtain⟨ac,-,ap⟩:=bx bf.k;have W:=A2p _ y _ eU (ak.below bf.b);rw[es.o]at W;go_wp2_with fail;refine W.mono ?_;clear W aH aI Y ac ap;rintro _ fS ⟨rfl,cb⟩;have cR:=A_ (Below.next bf.b cb);obtain⟨ac,-,ap⟩:=bx (A0z bf.k cb);have W:=A7y _ y _ fS (ak.below cR) er eL;rw[eQ.o]at W;go_wp2_with fail;refine W.mono ?_;clear W cb;rintro _ bI ⟨rfl,dQ⟩;have J:=A_ ((K.below cR).below dQ);have ff:=J.ro.cap;have f7:¬ ((cr:Int)<(n:Int)):=oM;have f8:(n:Int)<=(cr:Int):=oM;have f9:¬ (cr=0):=oM;clear dQ ac ap K ff;go_wp2_with fail;go_meet;exact⟨n,rfl,rfl,Nat.le_succ _,J⟩
  case rest =>
  obtain⟨N,rfl,dz,fe,ea⟩:=hcut;rename World=>bI;rename (∀ (a:Act) (w:World),Code.wp _ _ _ a w->_)=>dw;refine dw _ _ ?_;clear dw K;have J:=A_ ea.o;have bR:=A_ (show RR (λb=>b=gr) bI gr N cr ((A2h xs n).take N)from(J.ro.take fe).weaken (bad':=λb=>b=gr) (λb _ E=>.inl E) rfl);obtain⟨-,⟨a0,aR,aS⟩,-⟩:=J.ra;obtain⟨-,⟨aT,aU,b2⟩,-⟩:=J.rb;have aE:=J.ra.1;have aF:=J.rb.1;clear ea;go_wp2_with fail;refine(A8m _ _ lx rx _ _ bI J.al J.ar).mono ?_;rintro _ fQ ⟨gw,gq,rfl,cc,-,dM⟩;obtain⟨aa,ai,ad,_,ab,aj,ae,_,rfl,-,_,_⟩:=TRat.agg cc;have c4:=A_ cc;have bL:=A_ dM;clear cc dM a0 aR aS aT aU b2;go_wp2_with fail;refine(D3c _ (A3u lx rx) _ fQ c4).mono ?_;rintro _ fR ⟨gx,fL,rfl,bt,d4,dN⟩;obtain⟨aK,a2,aV,_,aL,a3,aW,_,rfl,-,_,_⟩:=TRat.agg bt;obtain⟨bD,cn⟩:∃ y,C3m (A3u lx rx)=y:=⟨_,rfl⟩
  rw[cn]at bt ⊢;have eu:=A_ (show A9c xs cl=((A2h xs n).take N).map (λr=>A0k r bD) by unfold A9c D7a;rw[eF.o,<-be.o.1,<-be.o.2,cn,dz.o]);have c5:=A_ bt;have bM:=A_ (Below.next bL dN);have eP:=A_ (show ∀ b∈fL,bI.1.size<=b from λb u=>by have:=(d4.2 b u).1;have:=bL.size;omega);clear bt d4 dN cn c4 bL;go_upto_region 16 with fail;refine Code.new λeT bg=>?_;have cX:=A_ (Below.next bM bg.b);have eI:=A_ bg.k;have ei:=A_ (c5.below bg.b);have ev:=A_ bM.size;generalize fR.1.size=gs at *;have dk:=A_ (bR.below cX);have cV:=A_ (Below.next J.bl cX);have eN:=A_ J.nr;have cZ:=A_ J.ro.lt;have eO:=A_ (show((A2h xs n).take N).length=N from bR.len);generalize (A2h xs n).take N=dg at *;have f5:N<=49:=oM;clear J bR c5 bM bg dz;go_wp2_with fail;go_loopg [83] N (λg s w2=>∃ j:Nat,j+g=N/\s=.int .i64 j/\Hid (RR (λb=>b=gr) w2 gr N cr (C3q (λr=>A0k r bD) dg j))/\Hid (eT.grownBy w2 (some gr)));case atStart=>exact⟨0,oM,rfl,by rw[show C3q _ _ 0=_ by unfold C3q;rw[List.take_zero,List.map_nil,List.drop_zero,List.nil_append]];exact dk,B3a _ _⟩
  case round =>
   clear dk;obtain⟨j,dX,rfl,bi,a7⟩:=hrel;rename World=>w2;have bv:=bi.lt;have eH:=A_ (B8b eI a7 (by have:=ev.o;have:=cZ.o;omega));have ef:=A_ (ei.keepG a7 (λE=>by have:=eP _ E;have:=cZ.o;omega));have el:=A_ (cV.grown a7 cV.size (λk fn=>by injection fn with E;subst E;exact eN));rcases Nat.lt_or_ge j N with a1|a1
   ·have fm:(j:Int)<(N:Int):=oM
    have gh:(0:Int)<=j:=oM;obtain⟨g,rfl⟩:∃ g,gk=g+1:=⟨gk - 1,oM⟩
    have fl:=A_ (by omega:j+1+g=N);obtain⟨y,bU,cv,bY,bV,cw,bZ,du,X,aH,aI,Y,-,-,-,ag,-,-⟩:=bi.elem a1;rw[C6z,if_neg oM]at X;have eG:=A_ X;have ak:=A_ ag;clear dX X ag;go_upto_region 19 with fail;refine Code.new λeV al=>?_;obtain⟨ac,-,ap⟩:=bx al.k;obtain⟨bk,-,cu⟩:=bx (A0z eH al.b);clear aH aI Y;go_wp2_with fail;refine(A0x _ _ y bD _ _ eV (ak.below al.b) (ef.below al.b)).mono ?_;rintro _ wa ⟨gv,cy,rfl,b8,d3,dL⟩;obtain⟨eR,fv,e5,_,eS,fw,e6,_,rfl,-,_,_⟩:=TRat.agg b8;have cQ:=A_ (Below.next al.b dL);have bh:=bi.below cQ;obtain⟨_,_,_,_,_,_,_,_,-,aH,aI,Y,gz,gA,gC,-,-,gc⟩:=bh.elem a1;have dj:=A_ (bh.set a1 b8 (λb u e=>by have:=(d3.2 b u).1;have:=al.b.size;omega));rw[E4z eG.o]at dj;clear b8 d3 dL ac bk ap cu bh al;go_wp2_with fail;go_roundg g;case measure=>omega
    case rel=>exact⟨j+1,fl,gN,dj,A5y (A5y (A5y (E1s a7 cQ)))⟩
   obtain rfl:N=j:=oM;have fm:¬ ((N:Int)<(N:Int)):=oM;have et:=A_ (by rw[eu.o,<-E4o,eO.o]:C3q (λr=>A0k r bD) dg N=A9c xs cl);obtain⟨e0,co,-⟩:=bi.sl;rw[et.o]at co;have c9:=A_ co;clear dX a1 co;go_wp2_with fail;refine(B4r _ _ cr (A9c xs cl) e0 w2 c9.o oM ez.o).mono ?_;rintro _ gy ⟨rfl,ca⟩;have eD:=A_ (c9.below ca);have en:=A_ (Below.next el ca);clear ca;go_wp2;refine bodyPost_ret (v:=.tuple #[.slice (some ⟨gr,0,none⟩) N cr,.bool true]) (by simp[results,results214,go_sem, *]) rfl ?_;exact⟨_,_,_,_,rfl,eD,en⟩
structure FanD (p:TProblem) (us:List TRat) (q:Int) (f:TFan):Prop where
 tr:∀ k∈f.triangles,0<=k/\k<p.1.triangles.length/\B6x (p.1.triangles.getD k.toNat A4p) q=true
 tl:f.triangles.length<=48
 t1:1<=f.triangles.length
 sn:f.spokes.length=f.triangles.length+(if f.closed then 0 else 1)
 si:∀ i∈f.spokes,0<=i/\i<(P_ p.1.triangles).length
 cl:f.closed=true->J_ ((A2h (A1h p us f q) f.triangles.length).getD f.triangles.length A0h)=true/\A2v ((A2h (A1h p us f q) f.triangles.length).getD f.triangles.length A0h)=0
 ok:(A6f p us f q).any A2e=false
def D9x (w:World) (xs:List TRat) (e:Ending) (w':World):Prop:=∃ F m cF bF,e=.returned (.tuple #[.slice F m cF,.bool true])/\Sl w' F m cF xs bF/\(∀ b∈bF,w.1.size<=b)/\Bw w w'
theorem D0j (p:TProblem) (us:List TRat) (f:TFan) (q:Int):∀ x∈A6f p us f q,B4q x:=by
 intro x b;unfold A6f A9c at b;obtain⟨r,_,rfl⟩:=List.mem_map.1 b;exact C9z _ _
theorem D0p (p:TProblem) (us:List TRat) (f:TFan) (q:Int):(A6f p us f q).length<=f.triangles.length+1:=by
 unfold A6f A9c;rw[List.length_map,List.length_take,B7o];have:(A1h p us f q).length=f.triangles.length:=by rw[A1h,List.length_map]
 omega
theorem D6q {p:TProblem} {us:List TRat} {f:TFan} {q:Int} (E:LinD p us) (u:∀ k∈f.triangles,0<=k/\k<p.1.triangles.length/\B6x (p.1.triangles.getD k.toNat A4p) q=true):∀ x∈A1h p us f q,∃ a b c,x.list=[a,b,c]/\A7m [a,b,c]=true:=by
 intro x h;unfold A1h at h;obtain⟨k,D,rfl⟩:=List.mem_map.1 h;obtain⟨G,H,_⟩:=u k D;exact⟨_,_,_,rfl,(E.tri _ (B9b oM)).2.2.pr⟩
theorem C9c (v:Value) (p:TProblem) (b:List Nat) (xs ys:List Int) (B:Option Addr) (n d:Nat) (us:List TRat) (aR:List Nat) (be:Value) (f:TFan) (bf:List Nat) (q:Int) (w:World) (aY:Agg w v p b) (bd:Sl w B n d us aR) (aV:Agg w be f bf) (bc:ProbI p xs ys) (aW:LinD p us) (J:p.3.length=3) (T:FanD p us q f) :
  Calls prog 158 #[v,.slice B n d,be,.int .i64 q] w (D9x w (A6f p us f q)):=by
 have a7:=A_ aY;have a6:=A_ bd;have a2:=A_ aW;have a3:=A_ bc;have a5:=A_ J;have ad:=A_ T;have aH:=A_ aV;obtain⟨X,aj,ae,bq,Y,n1,af,br,Z,n2,ag,bs,aa,ak,c3,bt,rfl,rfl,bg,bh,bi,bj⟩:=TProblem.agg aY;obtain⟨ab,h,ah,bm,ac,aC,ai,bn,rfl,rfl,W,a8⟩:=TFan.agg aV;have aB:=A_ W.1;have a9:h<=48:=by rw[<-W.1];exact T.tl
 have ba:1<=h:=by rw[<-W.1];exact T.t1
 have bo:(h:Int)<=48:=oM;have bp:¬ ((h:Int)=0):=oM;have au:aC=h+(if f.closed then 0 else 1):=by rw[<-W.1,<-a8.1];exact T.sn
 obtain⟨cl,ar⟩:∃ c,f.closed=c:=⟨_,rfl⟩
 have a4:=A_ (D6q aW T.tr);have bl:=A_ (by rw[A1h,List.length_map,W.1]:(A1h p us f q).length=h);have az:=A_ (by rw[<-ar,<-W.1];exact T.cl:cl=true->J_ ((A2h (A1h p us f q) h).getD h A0h)=true/\A2v ((A2h (A1h p us f q) h).getD h A0h)=0);have aA:=A_ (by rw[A6f,ar]:A6f p us f q=A9c (A1h p us f q) cl);have bk:=A_ ar;rw[ar]at au aH ⊢;clear bg bh bi bj aY bd aW bc J T W a8 aV ar;cases cl
 ·obtain rfl:aC=h+1:=by simpa using au
  clear au;go_enter func158,ntmps158;go_upto_region 1 with fail;obtain⟨u,D⟩:∃ u,u=(w.alloc (.cells #[.slice X aj ae,.slice Y n1 af,.slice Z n2 ag,.slice aa ak c3] 29)).alloc (.cells #[.slice ab h ah,.slice ac (h+1) ai,.bool false] 178):=⟨_,rfl⟩
  have E:=A_ (by rw[D];exact(Below.box _).alloc sI _:Bw w u);have am:=A_ (by rw[D];exact K_ (heap_alloc_new w _) (Below.box _):u.1[w.1.size]?=some (.cells #[.slice X aj ae,.slice Y n1 af,.slice Z n2 ag,.slice aa ak c3] 29));have O:=A_ (show u.1[w.1.size+1]?=some (.cells #[.slice ab h ah,.slice ac (h+1) ai,.bool false] 178) by rw[D];have:=heap_alloc_new (w.alloc (.cells #[.slice X aj ae,.slice Y n1 af,.slice Z n2 ag,.slice aa ak c3] 29)) (.cells #[.slice ab h ah,.slice ac (h+1) ai,.bool false] 178);rwa [World.size_alloc]at this);rw[<-D];clear D;obtain⟨aS,-,-⟩:=bx am;obtain⟨H,-,-⟩:=bx O;have aZ:w.1.size<u.1.size:=E_ am;have l1:w.1.size+1<u.1.size:=E_ O;have K:=C2u _ p _ xs ys B n d us aR _ f _ q u (a7.below E) (a6.below E) (aH.below E) a3 a2 a5 ad.tr ad.tl;rw[aB.o]at K;go_wp2_with fail;refine K.mono ?_;clear K;rintro _ ay ⟨A,c,aO,rfl,J,S⟩;have aD:=A_ (Below.next E S);have G:=A_ (K_ O S);have aI:=A_ J;clear J S aS H aZ l1;obtain⟨H,-⟩:=B_ G (j:=0) rfl;obtain⟨an,-⟩:=B_ G (j:=1) rfl;obtain⟨ao,-⟩:=B_ G (j:=2) rfl;simp at H an ao;have l1:w.1.size+1<ay.1.size:=E_ G;go_wp2_with fail;refine(C7q A h c (A1h p us f q) aO false ay aI.o a9 ba a4.o (λaT=>by first|exact az.o aT|exact az.o trivial) (by rw[<-aA.o];exact ad.ok)).mono ?_;rintro _ a1 ⟨aF,m,aP,aM,rfl,I,ap⟩;rw[<-aA.o]at I;have aJ:=A_ I;have al:=A_ (Below.next aD ap);have aX:m<=144:=by rw[<-I.1];have:=D0p p us f q;rw[aB.o]at this;omega
  clear I ap H an ao l1;go_wp2_with fail;refine(A2l aF m aP (A6f p us f q) aM a1 aJ aX (D0j p us f q)).mono ?_;rintro _ w3 ⟨aG,k,aQ,aN,rfl,ax,aw,aq⟩;have aK:=A_ ax;have aE:=A_ (Below.next al aq);have aL:=A_ (show ∀ b∈aN,w.1.size<=b from λb aU=>by have:=(aw.2 b aU).1;have:=al.size;omega);clear ax aw aq;go_wp2;refine bodyPost_ret (v:=.tuple #[.slice aG k aQ,.bool true]) (by simp[results,results158,go_sem, *]) rfl ?_;exact⟨_,_,_,_,rfl,aK,aL,aE⟩
 obtain rfl:h=aC:=by have:aC=h:=(by simpa using au);exact this.symm
 clear au;go_enter func158,ntmps158;go_upto_region 1 with fail;obtain⟨u,D⟩:∃ u,u=(w.alloc (.cells #[.slice X aj ae,.slice Y n1 af,.slice Z n2 ag,.slice aa ak c3] 29)).alloc (.cells #[.slice ab h ah,.slice ac h ai,.bool true] 178):=⟨_,rfl⟩
 have E:=A_ (by rw[D];exact(Below.box _).alloc sI _:Bw w u);have am:=A_ (by rw[D];exact K_ (heap_alloc_new w _) (Below.box _):u.1[w.1.size]?=some (.cells #[.slice X aj ae,.slice Y n1 af,.slice Z n2 ag,.slice aa ak c3] 29));have O:=A_ (show u.1[w.1.size+1]?=some (.cells #[.slice ab h ah,.slice ac h ai,.bool true] 178) by rw[D];have:=heap_alloc_new (w.alloc (.cells #[.slice X aj ae,.slice Y n1 af,.slice Z n2 ag,.slice aa ak c3] 29)) (.cells #[.slice ab h ah,.slice ac h ai,.bool true] 178);rwa [World.size_alloc]at this);rw[<-D];clear D;obtain⟨aS,-,-⟩:=bx am;obtain⟨H,-,-⟩:=bx O;have aZ:w.1.size<u.1.size:=E_ am;have l1:w.1.size+1<u.1.size:=E_ O;have K:=C2u _ p _ xs ys B n d us aR _ f _ q u (a7.below E) (a6.below E) (aH.below E) a3 a2 a5 ad.tr ad.tl;rw[aB.o]at K;go_wp2_with fail;refine K.mono ?_;clear K;rintro _ ay ⟨A,c,aO,rfl,J,S⟩;have aD:=A_ (Below.next E S);have G:=A_ (K_ O S);have aI:=A_ J;clear J S aS H aZ l1;obtain⟨H,-⟩:=B_ G (j:=0) rfl;obtain⟨an,-⟩:=B_ G (j:=1) rfl;obtain⟨ao,-⟩:=B_ G (j:=2) rfl;simp at H an ao;have l1:w.1.size+1<ay.1.size:=E_ G;go_wp2_with fail;refine(C7q A h c (A1h p us f q) aO true ay aI.o a9 ba a4.o (λaT=>by first|exact az.o aT|exact az.o trivial) (by rw[<-aA.o];exact ad.ok)).mono ?_;rintro _ a1 ⟨aF,m,aP,aM,rfl,I,ap⟩;rw[<-aA.o]at I;have aJ:=A_ I;have al:=A_ (Below.next aD ap);have aX:m<=144:=by rw[<-I.1];have:=D0p p us f q;rw[aB.o]at this;omega
 clear I ap H an ao l1;go_wp2_with fail;refine(A2l aF m aP (A6f p us f q) aM a1 aJ aX (D0j p us f q)).mono ?_;rintro _ w3 ⟨aG,k,aQ,aN,rfl,ax,aw,aq⟩;have aK:=A_ ax;have aE:=A_ (Below.next al aq);have aL:=A_ (show ∀ b∈aN,w.1.size<=b from λb aU=>by have:=(aw.2 b aU).1;have:=al.size;omega);clear ax aw aq;go_wp2;refine bodyPost_ret (v:=.tuple #[.slice aG k aQ,.bool true]) (by simp[results,results158,go_sem, *]) rfl ?_;exact⟨_,_,_,_,rfl,aK,aL,aE⟩
end Go.Proofs.YtbhemnidcleaiaaGreat.X
