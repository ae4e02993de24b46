/- A part of the proof. -/
import Derived.Test.YtbhemnidcleaiaaGreatY28
import Derived.Test.YtbhemnidcleaiaaGreatY18
set_option linter.constructorNameAsVariable false
set_option maxHeartbeats 16000000
set_option maxRecDepth 10000
namespace Go.Proofs.YtbhemnidcleaiaaGreat.X
open Go.RowKit Go.XB Go.XN Proofs.Tryz
section
def D6x:Option TRat->TFactor
 |none=>⟨[],[]⟩
 |some r=>⟨[[]],[r]⟩
def D1z (w:World) (o:Option TRat) (e:Ending) (w':World):Prop:=∃ v s,e=.returned (.tuple #[v,.bool true])/\Agg w' v (D6x o) s/\(∀ b∈s,w.1.size<=b)/\Bw w w'
attribute [local go_sem] L_ Go.XB.opAt N_ M_ Region.wanted yielded
attribute [local go_sem] D2s
attribute [local simp] N_ M_ MP.eq MP.agg MP.aggS MP.sl MP.slbox A0r
theorem E6d:(prog.info? 27).map (λi=>(i.zero,i.size,i.bytes))=some (some (.slice none 0 0),1,24):=kR
theorem D3q (u:Option Addr) (W J:Nat) (D:Option Addr) (n1 K:Nat) (b:Value) (r:TRat) (I:List Nat) (B:Option Addr) (d:Nat) (E:Option Addr) (T:Nat) (w:World) (h:Agg w b r I) :
  Calls prog 291 #[.agg #[.slice u W J,.slice D n1 K],b,.slice B 0 d,.slice E 0 T] w (A0b w b):=by
 obtain⟨G,X,O,Z,H,Y,S,aa,rfl,rfl,_,_⟩:=TRat.agg h;clear h;go_enter func291,ntmps291;go_wp2_with fail;refine wp_loop_rounds 1 ?_;rw[rounds_succ];go_wp2;refine bodyPost_ret (v:=.agg #[.bool r.1.1,.slice G X O,.slice H Y S]) (by simp[results,results291,go_sem, *]) rfl ?_;exact⟨rfl,Below.go⟩
theorem D1t (v:Value) (s:List Nat) (w:World) (h:Agg w v (B4o none) s):Calls prog 254 #[v] w (D1z w none):=by
 have G:=A_ h;obtain⟨A,n,c,W,rfl,rfl,D⟩:=TMatrix.agg h;obtain rfl:0=n:=by rw[<-D.1];rfl
 clear h D;go_enter func254,ntmps254;go_wp2_with fail;refine(B3d _ none _ ((w.alloc (.cells #[.slice A 0 c] 203)).alloc (.cells #[.slice none 0 0,.slice none 0 0] 247)) (G.below Below.go) trivial).mono ?_;rintro _ u ⟨rfl,b⟩;obtain⟨K,O⟩:=F_ b;have S:w.1.size<u.1.size:=ltg b;have T:w.1.size+1<u.1.size:=ltg b;have E:=A_ (show Bw w u from Below.go);go_wp2_with fail;refine wp_loop_rounds 1 ?_;rw[rounds_succ];go_wp2;refine bodyPost_ret (v:=.tuple #[.agg #[.slice none 0 0,.slice none 0 0],.bool true]) (by simp[results,results254,go_sem, *]) rfl ?_;have J:=E.o;exact⟨_,[],rfl,TFactor.mkAgg (x:=D6x none) (Sl.nil _) (Sl.nil _),(λI H=>by simp at H),Below.go⟩
theorem D3e (v:Value) (r:TRat) (s:List Nat) (w:World) (a1:Agg w v (B4o (some r)) s) (ok:Ok1 (some r)) (bp:0<R_ r):Calls prog 254 #[v] w (D1z w (some r)):=by
 have bU:=A_ a1;have aQ:=A_ ok;have bY:=A_ (by unfold A9m;rw[if_pos ok.1];unfold A2v sgn;rw[if_neg oM,if_pos bp]:A9m r=1);obtain⟨g,o,c,bf,o1,b6,aB,o2,b7,dk,⟨rfl,aF,bg,aR,aW,bi,br⟩⟩:=at1 a1;obtain⟨cu,cc,ce,cf,cg⟩:=info_parts E6d;obtain⟨i2,ck,co,cp,ct⟩:=info_parts B2r;obtain⟨X,n1,aa,Y,n2,ab,c2,ap,u0,u1,u2,bh⟩:=Sl.ratAt br (k:=0) rfl;simp at u0 u1 u2;have aJ:=A_ bh
 have bI:=A_ (show ∀ aj:World,Bw w aj->Calls prog 292 #[.agg #[.slice (some ⟨g,o,none⟩) 1 c],.int .i64 0,.int .i64 0] aj (A0b aj (.agg #[.bool r.1.1,.slice X n1 aa,.slice Y n2 ab]))from λaj W =>
  C2r r aj g o c bf o1 b6 aB o2 b7 X n1 aa Y n2 ab (Nat.lt_of_lt_of_le aF W.size) ((W.cell (p:=⟨g,o,none⟩) aF).trans bg) ((W.cell (p:=⟨g,o+1,none⟩) aF).trans aR) (Nat.lt_of_lt_of_le aW W.size) ((W.cell (p:=⟨bf,o1,none⟩) aW).trans bi) (Nat.lt_of_lt_of_le ap W.size) ((W.cell (p:=⟨aB,o2,none⟩) ap).trans u0) ((W.cell (p:=⟨aB,o2+1,none⟩) ap).trans u1) ((W.cell (p:=⟨aB,o2+2,none⟩) ap).trans u2))
 clear a1 ok bp bg aR bi br aW aF ap u0 u1 u2 bh;go_enter func254,ntmps254;go_wp2_with fail;refine(B3d _ (some r) _ ((w.alloc (.cells #[.slice (some ⟨g,o,none⟩) 1 c] 203)).alloc (.cells #[.slice none 0 0,.slice none 0 0] 247)) (bU.below Below.go) aQ).mono ?_;rintro _ G ⟨rfl,aS⟩;have ar:=A_ (show Bw w G from Below.go);have bc:=A_ (show G.1[w.1.size]?=some (.cells #[.slice (some ⟨g,o,none⟩) 1 c] 203)from O_ (A1y [_,_] w 0 _ rfl) (aS.mono (Nat.le_refl _)));have bd:=A_ (show G.1[w.1.size+1]?=some (.cells #[.slice none 0 0,.slice none 0 0] 247)from O_ (A1y [_,_] w 1 _ rfl) (aS.mono (Nat.le_refl _)));have cs:=lt_of_block bd;have cq:w.1.size<G.1.size:=oM;obtain⟨cv,_⟩:=B_ bc (j:=0) rfl;simp at cv;clear aS;go_wp2_with fail;refine wp_loop_rounds 2 ?_;rw[rounds_succ];go_wp2_with fail;refine wp_loop_rounds 1 ?_;rw[rounds_succ];go_wp2_with fail;obtain⟨S,an⟩:∃ S,S=(G.alloc (.cells #[.slice none 0 0,.slice none 0 0] 247)).alloc (.cells #[] 35):=⟨_,rfl⟩
 obtain⟨h,ah⟩:∃ h,G.1.size=h:=⟨_,rfl⟩
 have au:=A_ (by rw[an];exact B3z [_,_] G:Bw G S);have aA:=A_ (by rw[an,<-ah];exact A1y [_,_] G 0 _ rfl:S.1[h]?=some (.cells #[.slice none 0 0,.slice none 0 0] 247));have bX:=A_ (by rw[an,<-ah];exact A1y [_,_] G 1 _ rfl:S.1[h+1]?=some (.cells #[] 35));rw[<-an,ah];rw[ah]at cs cq;have bR:=A_ ah;clear an ah;have de:=lt_of_block bX;have df:h<S.1.size:=oM;have dc:w.1.size<S.1.size:=oM;obtain⟨af,_⟩:=B_ aA (j:=0) rfl;obtain⟨am,_⟩:=B_ aA (j:=1) rfl;obtain⟨bs,_⟩:=B_ (O_ bc au) (j:=0) rfl;simp at af am bs;have aM:=A_ (Below.next ar au);refine X_ sI ?_;dsimp only[List.dropLast,List.getLast,List.length];iterate 4 refine C_ _ ?_
 refine D_ (MP.eq (.agg #[.bool r.1.1,.slice X n1 aa,.slice Y n2 ab])) ?_ ?_;·intro ai aq J E D;obtain⟨bj,bk⟩:=F_ E;simp at D;refine G_ ?_;exact A0i (bI J (Below.next aM E))
 iterate 2 refine C_ _ ?_
 refine D_ (MP.eq (.agg #[.bool r.1.1,.slice X n1 aa,.slice Y n2 ab])) ?_ ?_;·intro ai aq J E D;obtain⟨bj,bk⟩:=F_ E;simp at D;refine G_ ?_;exact A0i (D3q none 0 0 none 0 0 _ r _ (some ⟨h+1,0,none⟩) 0 (some ⟨h+1,0,none⟩) 0 J (aJ.below (Below.next aM E)))
 refine A1p #[.bool false,.slice none 0 0,.slice none 0 0] 35 ?_ ?_;·intro ai aq J E D;refine⟨gD,?_⟩;go_simp
 intro ai aq wa E D (aV:Hid _);simp at D;have bt:=D.2.2.2.2.2.2.2.1;have cA:=D.2.2.2.2.2.2.2.2;have c0:=bt.1.1;obtain⟨⟨O,c1,z8,aG⟩,aZ⟩:=cA;rw[z8]at aZ;have aX:S.1.size<=O:=(aZ O sI).1;have ci:=E_ aG;obtain⟨a2,p1,-⟩:=bx aG;obtain⟨ak,aC⟩:∃ ak,ak=(((wa.setCell ⟨O,0,none⟩ (.bool r.1.1)).setCell ⟨O,1,none⟩ (.slice X n1 aa)).setCell ⟨O,2,none⟩ (.slice Y n2 ab)):=⟨_,rfl⟩
 have bT:=A_ aC;have a6:=A_ (show Bw S ak by rw[aC];exact((E.setCell (p:=⟨O,0,none⟩) aX _).setCell (p:=⟨O,1,none⟩) aX _).setCell (p:=⟨O,2,none⟩) aX _);have be:=A_ (show ak.1[O]?=some (.cells #[.bool r.1.1,.slice X n1 aa,.slice Y n2 ab] 35) by rw[aC];exact A0u (A0u (A0u aG)));clear D aV bt aZ aG E z8 aC af am bs;go_upto_region 14 with fail;rw[<-bT.o];clear a2 p1 ci;have bP:=A_ (Below.next aM a6);have bH:=A_ (aJ.below bP);obtain⟨a2,-,-⟩:=bx be;go_wp2_with fail;have C:=B8u _ r _ ak bH;rw[bY.o]at C;refine C.mono ?_;clear C;rintro _ bz ⟨rfl,aT⟩;have bM:=A_ aT;have bO:=A_ (Below.next a6 aT);clear aT a2;go_wp2_with fail;have b3:=A_ (show Sl bz (some ⟨h+1,0,none⟩) 0 0 ([]:List TRat) []from⟨rfl,Nat.le_refl _,dE,λ_=>rfl,λag=>absurd ag dE⟩);refine(A5p _ 0 0 [] [] bz b3 rfl).mono ?_;rintro _ ae ⟨rfl,aU⟩;have bN:=A_ (Below.next bM aU);have aL:=A_ (Below.next bO aU);have bW:=A_ (O_ aA aL);have dd:=aL.size;have dg:h<ae.1.size:=oM;obtain⟨af,am⟩:=B_ bW (j:=0) rfl;simp at af;clear aU;go_wp2_with (at_builtin;refine A8l rfl _ _ 245 rfl 27 cu (.slice none 0 0) 1 24 underlying245 cc ce cf cg rfl dE gD ⟨ae.1.size,0,none⟩ 1 [.slice (some ⟨h+1,0,none⟩) 0 0] gD rfl (A0a (heap_alloc_new ae _)) (by simp[Value.oneCell']) dE ?_;intro I Z a5 bn aE bl;have cO:=(aE.cell (p:=⟨h,0,none⟩) sO).trans (((Below.box (w:=ae) (.cells #[.slice (some ⟨h+1,0,none⟩) 0 0] 27)).cell (p:=⟨h,0,none⟩) sO).trans af);have cP:=(aE.frozen (p:=⟨h,0,none⟩) sO).trans (((Below.box (w:=ae) (.cells #[.slice (some ⟨h+1,0,none⟩) 0 0] 27)).frozen (p:=⟨h,0,none⟩) sO).trans am));obtain⟨H,ad⟩:∃ H,H=a5.setCell ⟨h,0,none⟩ (.slice (some ⟨I,0,none⟩) 1 Z):=⟨_,rfl⟩
 have a7:=A_ (show Bw ae a5 from Below.next (Below.box _) aE);have c6:ae.1.size<I:=by simp at bl;omega
 have aK:=A_ (Below.next aL a7);have bm:G.1.size<=h:=by rw[bR.o];exact Nat.le_refl _
 have ay:=A_ (by rw[ad];exact A0u (O_ aA aK):H.1[h]?=some (.cells #[.slice (some ⟨I,0,none⟩) 1 Z,.slice none 0 0] 247));have az:=A_ (by rw[ad];exact(Below.heap_setCell _ _ _ _ sO).trans (O_ be.o (Below.next bN.o a7.o)):H.1[O]?=some (.cells #[.bool r.1.1,.slice X n1 aa,.slice Y n2 ab] 35));have bV:=A_ (by rw[ad];exact(Below.heap_setCell _ _ _ _ sO).trans (O_ (O_ bd.o au.o) aK.o):H.1[w.1.size+1]?=some (.cells #[.slice none 0 0,.slice none 0 0] 247));have b4:=A_ (show Dat.at_ a5 [.slice (some ⟨h+1,0,none⟩) 0 0] ([]:List TRat) []from⟨_,_,_,rfl,⟨rfl,Nat.le_refl _,dE,λ_=>rfl,λag=>absurd ag dE⟩⟩);have bZ:=A_ (show Sl H (some ⟨I,0,none⟩) 1 Z [([]:List TRat)] [I] by rw[ad];exact(B5e (α:=List TRat) bn b4.o).keep (λu b=>Below.heap_setCell _ _ _ _ (by simp at b;subst b;simp;omega)));have a8:=A_ (by rw[ad];exact(Below.next au aK).setCell (p:=⟨h,0,none⟩) bm _:Bw G H);have c7:h<H.1.size:=lt_of_block ay;have c8:O<H.1.size:=lt_of_block az;rw[<-ad];clear ad bn aE bl cO cP af am;obtain⟨aH,bF⟩:=B_ ay (j:=1) rfl;obtain⟨bA,cH⟩:=B_ az (j:=0) rfl;obtain⟨bB,cI⟩:=B_ az (j:=1) rfl;obtain⟨bD,cJ⟩:=B_ az (j:=2) rfl;simp at aH bA bB bD;have bQ:=A_ (Below.next ar a8);refine W_ 5 kR kR kR kR kR ?_;simp only[List.take_succ_cons,List.take_zero,List.drop_succ_cons,List.drop_zero];iterate 3 refine C_ _ ?_
 refine D_ (MP.agg r) ?_ ?_;·intro ai aq J E D;obtain⟨bj,bk⟩:=F_ E;simp at D;refine G_ ?_;exact H_ (A3n _ _ _ J (aJ.below (Below.next bQ E)) (Nat.le_trans (B1b aQ.1).1 dE) (Nat.le_trans (B1b aQ.1).2 dE))
 refine A1d (λbE=>MP.slbox (bE 3).cells 35) (by intro y bE ag;simp[N_,M_]at ag;simp[ag]) ?_ ?_;·intro ai aq J E D;simp at D;obtain⟨cQ,di,cU,cW,cR,dj,cV,cZ,ca,_,_,_⟩:=TRat.agg D.1;refine⟨gD,.slice (some ⟨J.1.size,0,none⟩) 1 1,J.alloc (.cells (ai 3).cells 35),?_,Below.box _,[J.1.size],⟨J.1.size,rfl,rfl,heap_alloc_new J _⟩,sI⟩;rw[ca];go_simp
 intro cL bG wb E D (aV:Hid _);simp at D;have q1:=D.2.1;have cy:=D.2.2.2.1;have cz:=D.2.2.2.2;obtain⟨⟨aD,ch⟩,bq⟩:=cy;obtain⟨bJ,cw,b8,c4,bK,cx,b9,c5,cb,cM,m1,m2⟩:=TRat.agg aD;obtain⟨⟨cd,cY,cN,aY⟩,cn⟩:=cz;rw[cb]at aY aD;have aI:=A_ (A3x aD);have ba:=A_ (show ∀ u∈bG 3,H.1.size<=u from λu b=>(bq u b).1);have ax:=A_ E;have bS:=A_ aY;have cX:cL 1=.slice none 0 0:=q1.1.1;generalize bG 3=a3 at *;clear D aV aD ch bq cM m1 m2 aY cn cN q1 E;obtain⟨a4,bu⟩:=B_ (O_ ay ax) (j:=1) rfl;simp at a4;have cm:h<wb.1.size:=by have:=ax.size;omega
 go_wp2_with (at_builtin;refine A8l rfl _ _ 27 rfl 35 i2 (.agg #[.bool false,.slice none 0 0,.slice none 0 0]) 3 56 underlying27 ck co cp ct rfl dE gD ⟨cd,0,none⟩ 1 [.bool r.1.1,.slice bJ cw b8,.slice bK cx b9] gD rfl (A0a bS) (Dat.one aI) dE ?_;intro T al bv bo ao cj;have cB:=(ao.cell (p:=⟨h,1,none⟩) sO).trans a4;have cE:=(ao.frozen (p:=⟨h,1,none⟩) sO).trans bu);obtain⟨K,ac⟩:∃ K,K=bv.setCell ⟨h,1,none⟩ (.slice (some ⟨T,0,none⟩) 1 al):=⟨_,rfl⟩
 have aw:=A_ (show Bw H bv from Below.next ax ao);have c9:H.1.size<=T:=by have:=ax.size;omega
 have aP:=A_ (by rw[ac];exact A0u (O_ ay aw):K.1[h]?=some (.cells #[.slice (some ⟨I,0,none⟩) 1 Z,.slice (some ⟨T,0,none⟩) 1 al] 247));have aO:=A_ (by rw[ac];exact(Below.heap_setCell _ _ _ _ sO).trans (O_ bV.o aw.o):K.1[w.1.size+1]?=some (.cells #[.slice none 0 0,.slice none 0 0] 247));have b5:=A_ (show Sl K (some ⟨T,0,none⟩) 1 al [r] (T::a3) by
  rw[ac]
  exact(B5e (α:=TRat) bo (Dat.keep aI (λu b=>ao.block u (Dat.lt aI u b)))).keep (λu b=>Below.heap_setCell _ _ _ _ (by
   simp;rcases List.mem_cons.1 b with rfl|b
   ·omega
   have:=ba u b;omega)))
 have b0:=A_ (show Sl K (some ⟨I,0,none⟩) 1 Z [([]:List TRat)] [I] by rw[ac];exact(bZ.o.below aw.o).keep (λu b=>Below.heap_setCell _ _ _ _ (by simp at b;subst b;simp;omega)));have bL:=A_ (by rw[ac];exact(Below.next a8 aw).setCell (p:=⟨h,1,none⟩) bm _:Bw G K);have da:w.1.size+1<K.1.size:=lt_of_block aO;have db:h<K.1.size:=lt_of_block aP;have dh:=ar.size;rw[<-ac];clear ac bo ao cj cB cE a4 bu aH bF bA cH bB cI bD cJ cm;obtain⟨cK,dn⟩:=B_ aP (j:=0) rfl;obtain⟨aH,bF⟩:=B_ aP (j:=1) rfl;obtain⟨cF,dl⟩:=B_ aO (j:=0) rfl;obtain⟨cG,dm⟩:=B_ aO (j:=1) rfl;simp at cK aH cF cG;rw[rounds_succ];go_wp2;refine bodyPost_ret (v:=.tuple #[.agg #[.slice (some ⟨I,0,none⟩) 1 Z,.slice (some ⟨T,0,none⟩) 1 al],.bool true]) (by simp[results,results254,go_sem, *]) rfl ?_
 have aN:=A_ (show ∀ u∈[I]++(T::a3),w.1.size+1<u from λu b=>by
   rcases List.mem_append.1 b with b|b;·simp at b;subst b;omega
   rcases List.mem_cons.1 b with rfl|b;·omega
   have aR:=ba u b;omega)
 have a9:=A_ (show ∀ u∈[I]++(T::a3),((K.setCell ⟨w.1.size+1,0,none⟩ (.slice (some ⟨I,0,none⟩) 1 Z)).setCell ⟨w.1.size+1,1,none⟩ (.slice (some ⟨T,0,none⟩) 1 al)).1[u]?=K.1[u]? from λu b=>(Below.heap_setCell _ _ _ _ (by have:=aN u b;simp;omega)).trans (Below.heap_setCell _ _ _ _ (by have:=aN.o u b;simp;omega)));exact⟨_,_,rfl,TFactor.mkAgg (x:=D6x (some r)) (b0.keep (λu b=>a9 u (List.mem_append_left _ b))) (b5.keep (λu b=>a9 u (List.mem_append_right _ b))),(λu b=>by have:=aN u b;omega),(((Below.next ar.o bL.o)).setCell (p:=⟨w.1.size+1,0,none⟩) sI _).setCell (p:=⟨w.1.size+1,1,none⟩) sI _⟩
end
theorem E8s {h:World} {g o c:Nat} {r:TRat} {b1:List Nat} {u0 u1 u2:Value} (O:Agg h (.agg #[u0,u1,u2]) r b1) (S:g<h.1.size) (D:1<=c/\c<=maxLen)
  (H:h.cell? ⟨g,o,none⟩=some u0) (I:h.cell? ⟨g,o+1,none⟩=some u1) (J:h.cell? ⟨g,o+2,none⟩=some u2):Sl h (some ⟨g,o,none⟩) 1 c [r] (g::b1):=by
 have G:=A3x O;refine⟨rfl,D.1,D.2,λK=>absurd K dE,λ_=>⟨g,o,[b1],rfl,sI,rfl,S,λk x T u E=>?_⟩⟩;obtain rfl:k=0:=by have:=(List.getElem?_eq_some_iff.1 u).1;simp at this;exact this
 simp at u E;subst u;subst E;refine⟨_,λj W b=>?_,G⟩;match j,b with
 |0,b=>simp at b;subst b;simpa using H
 |1,b=>simp at b;subst b;simpa using I
 |2,b=>simp at b;subst b;simpa using J
theorem C6t {w0 w:World} {u:List Nat} (h:Own w0 w u) {b:Nat} (D:b∈u) (o:Nat):w.frozen? ⟨b,o,none⟩=false:=by
 obtain⟨E,t,e⟩:=(h.2 b D).2;unfold World.frozen?;rw[e];simp
def A7r:Option TRat->List TRat->List TRat
 |some r,y::_=>[A3u y r]
 |_,_=>[]
def B7y (w:World) (xs:List TRat) (e:Ending) (w':World):Prop:=∃ A n c bs,e=.returned (.tuple #[.slice A n c,.bool true])/\Sl w' A n c xs bs/\Own w w' bs/\Bw w w'
attribute [local go_sem] L_ Go.XB.opAt N_ M_ Region.wanted yielded
attribute [local simp] N_ M_ MP.eq MP.agg MP.aggS MP.sl MP.slbox A0r
theorem D4y (v:Value) (s:List Nat) (B:Option Addr) (d:Nat) (K:List Nat) (w:World) (b:Agg w v (D6x none) s) (O:Sl w B 0 d ([]:List TRat) K):Calls prog 255 #[v,.slice B 0 d] w (A0w w ([]:List TRat)):=by
 have af:=A_ b;have Z:=A_ O;obtain⟨ad,ab,ag,al,ae,n1,ah,am,rfl,rfl,W,X⟩:=TFactor.agg b;obtain rfl:0=ab:=by rw[<-W.1];rfl
 obtain rfl:0=n1:=by rw[<-X.1];rfl
 clear b O W X;go_enter func255,ntmps255;go_wp2_with fail;refine(A2l B 0 d [] K _ (Z.o.below Below.go) dE (λx b=>by simp at b)).mono ?_;rintro _ E ⟨G,ac,J,I,rfl,D,T,u⟩;obtain rfl:0=ac:=by rw[<-D.1];rfl
 obtain⟨ai,aj⟩:=F_ u;have ak:w.1.size<E.1.size:=ltg u;have Y:=A_ (show Bw w E from Below.go);have H:=A_ D;have aa:=A_ (T.older (w0:=w) sI);clear D T u;go_wp2_with fail;refine wp_loop_rounds 1 ?_;rw[rounds_succ];go_wp2_with fail;refine wp_loop_rounds 1 ?_;rw[rounds_succ];go_wp2_with fail;refine wp_loop_rounds 1 ?_;rw[rounds_succ];go_wp2_with fail;refine(A5p G 0 J [] I E H rfl).mono ?_;rintro _ an ⟨rfl,S⟩;have h:=A_ S;clear S;go_wp2;go_ret;exact⟨G,0,J,I,rfl,H.below h,aa.below h,Below.next Y h⟩
theorem D3p (v:Value) (r y:TRat) (s:List Nat) (B:Option Addr) (d:Nat) (aX:List Nat) (w:World) (Y:Agg w v (D6x (some r)) s) (u:Sl w B 1 d [y] aX) (a8:J_ r=true) (aI:J_ y=true) (aZ:r.1.2≠[]) (ok:A2e (A3u y r)=false) :
  Calls prog 255 #[v,.slice B 1 d] w (A0w w [A3u y r]):=by
 have b6:=A_ Y;have bj:=A_ u;have bp:=A_ a8;have bq:=A_ aI;have bf:=A_ aZ;have bo:=A_ ok;obtain⟨bZ,bN,aV,cu,b0,n1,aW,cv,rfl,rfl,aE,an⟩:=TFactor.agg Y;obtain rfl:1=bN:=by rw[<-aE.1];rfl
 obtain rfl:1=n1:=by rw[<-an.1];rfl
 obtain⟨ac,ao,cq,be,bR,cl,ce,rfl,bJ,a5,az,a6,_⟩:=Sl.elemS aE (by decide:0<1);simp[D6x]at a5;subst a5;obtain rfl:0=bR:=by rw[<-a6.1];rfl
 obtain⟨I,S,_,rfl,_⟩:=an.2.2.2.2 dE;obtain⟨P1,aG,ar,P2,aH,au,cf,aB,aJ,p1,p2,a1⟩:=Sl.ratAt an (k:=0) rfl;simp at az aJ p1 p2;have bg:=A_ a1;have bm:=A_ (B1b aI);clear Y u aE an a6 a8 aI aZ ok a1;go_enter func255,ntmps255;go_wp2_with fail;refine(A2l B 1 d [y] aX _ (bj.o.below Below.go) dE (λx Y=>by simp at Y;subst Y;exact bm)).mono ?_;rintro _ G ⟨b3,bO,ab,bz,rfl,O,aC,ag⟩;obtain rfl:1=bO:=by rw[<-O.1];rfl
 obtain⟨b,h,b9,rfl,a4,_⟩:=O.2.2.2.2 dE;have T:b∈bz:=by rw[a4];exact List.mem_cons_self ..
 obtain⟨bG,bI⟩:=F_ ag;have cp:w.1.size<G.1.size:=ltg ag;have W:=A_ (show Bw w G from Below.go);have bk:=A_ (by have:=(aC.2 b T).1;simp at this;omega:w.1.size<b);have b5:=A_ O;have Z:=A_ (aC.older (w0:=w) sI);have bF:=A_ (show 1<=ab/\ab<=maxLen from⟨O.2.1,O.2.2.1⟩);have aR:=A_ (show G.1[w.1.size]?=some (.cells #[.slice (some ⟨ac,ao,none⟩) 1 aV,.slice (some ⟨I,S,none⟩) 1 aW] 247)from O_ (heap_alloc_new w _) ag);have aN:=C6t Z T h;have aO:=C6t Z T (h+1);have aP:=C6t Z T (h+2);have aj:=O.lt b T;have al:=(Z.2 b T).1;obtain⟨b7,cs,cb,b8,ct,cc,cg,_,aK,aL,aM,a2⟩:=Sl.ratAt O (k:=0) rfl;simp at aK aL aM;have bh:=A_ a2;have bS:G.cell? ⟨ac,ao,none⟩=some (.slice be 0 cl):=(W.cell (p:=⟨ac,ao,none⟩) bJ).trans az;have q1:G.cell? ⟨I,S,none⟩=some (.bool r.1.1):=(W.cell (p:=⟨I,S,none⟩) aB).trans aJ;have q2:G.cell? ⟨I,S+1,none⟩=some (.slice P1 aG ar):=(W.cell (p:=⟨I,S+1,none⟩) aB).trans p1;have bT:G.cell? ⟨I,S+2,none⟩=some (.slice P2 aH au):=(W.cell (p:=⟨I,S+2,none⟩) aB).trans p2;obtain⟨a7,-,-⟩:=bx aR;have cn:=W.size;have bK:ac<G.1.size:=oM;have bL:I<G.1.size:=oM;clear O aC ag a2 a4 bG bI az aJ p1 p2;go_wp2_with fail;refine wp_loop_rounds 2 ?_;rw[rounds_succ];go_wp2_with fail;refine wp_loop_rounds 1 ?_;rw[rounds_succ];go_wp2_with fail;rw[rounds_succ];go_wp2_with fail;refine wp_loop_rounds 2 ?_;rw[rounds_succ];go_wp2_with fail;obtain⟨aa,af⟩:∃ aa,aa=G.alloc (.cells #[.bool r.1.1,.slice P1 aG ar,.slice P2 aH au] 35):=⟨_,rfl⟩
 obtain⟨ay,ai⟩:∃ ay,G.1.size=ay:=⟨_,rfl⟩
 have J:=A_ (by rw[af];exact Below.box _:Bw G aa);have aT:=A_ (by rw[af,<-ai];exact heap_alloc_new G _:aa.1[ay]?=some (.cells #[.bool r.1.1,.slice P1 aG ar,.slice P2 aH au] 35));rw[<-af,ai];have b4:=A_ ai;clear af a7 bS q1 q2 bT bK bL;obtain⟨r0,-,-⟩:=bx aT;have cj:=lt_of_block aT;have ak:b<aa.1.size:=oM;have bW:=λo=>J.cell (p:=⟨b,o,none⟩) aj;have ba:=aK;have bc:=aL;have bd:=aM;have aQ:=A_ (Below.next W J);refine X_ sI ?_;dsimp only[List.dropLast,List.getLast,List.length];iterate 7 refine C_ _ ?_
 refine D_ (MP.agg (A3u y r)) ?_ ?_;·intro bY ae bX E X;obtain⟨ch,ci⟩:=F_ E;simp at X;refine G_ ?_;exact H_ (A9z _ _ y r _ _ bX ((bh.below J).below E) (bg.below (Below.next aQ E)) bq bp bf)
 refine C_ _ ?_;intro bY ae wa E X (bH:Hid _);simp at X;have bU:=X.2.2.2.2.2.2.2.1;have a9:=X.2.2.2.2.2.2.2.2;have cd:=a9.1.1;obtain⟨⟨ad,aA⟩,aD⟩:=bU;obtain⟨z,aF⟩:∃ z,A3u y r=z:=⟨_,rfl⟩
 rw[aF]at ad;obtain⟨br,bP,bA,cx,bs,bQ,bB,cy,bD,bM,_,_⟩:=TRat.agg ad;rw[bD]at ad;have ah:b∉ae 7:=λbE=>by have:=(aD _ bE).1;omega
 have cm:=E.size;have ck:b<wa.1.size:=oM;have bV:=λo=>E.cell (p:=⟨b,o,none⟩) ak;have a0:=ba;have bt:=bc;have bu:=bd;have bv:=(E.frozen (p:=⟨b,h,none⟩) ak).trans ((J.frozen (p:=⟨b,h,none⟩) aj).trans aN);have b1:=(E.frozen (p:=⟨b,h+1,none⟩) ak).trans ((J.frozen (p:=⟨b,h+1,none⟩) aj).trans aO);have b2:=(E.frozen (p:=⟨b,h+2,none⟩) ak).trans ((J.frozen (p:=⟨b,h+2,none⟩) aj).trans aP);obtain⟨H,K⟩:∃ H,H=(((wa.setCell ⟨b,h,none⟩ (.bool z.1.1)).setCell ⟨b,h+1,none⟩ (.slice br bP bA)).setCell ⟨b,h+2,none⟩ (.slice bs bQ bB)):=⟨_,rfl⟩
 have bl:=A_ K;have am:∀ D,D≠b->H.1[D]?=wa.1[D]?:=λD u=>by rw[K];exact(Below.heap_setCell _ _ _ D (by simpa using u)).trans ((Below.heap_setCell _ _ _ D (by simpa using u)).trans (Below.heap_setCell _ _ _ D (by simpa using u)))
 obtain⟨ca,cw,aY⟩:=(Z.2 b T).2;have ax:∃ aw t,H.1[b]?=some (.cells aw t (0,0)):=by rw[K];exact⟨_,_,A0u (A0u (A0u (O_ (O_ aY J) E)))⟩
 have bi:=A_ (show Bw w H by rw[K];exact(((Below.next aQ E).setCell (p:=⟨b,h,none⟩) al _).setCell (p:=⟨b,h+1,none⟩) al _).setCell (p:=⟨b,h+2,none⟩) al _)
 have aU:=A_ (show Sl H (some ⟨b,h,none⟩) 1 ab [z] (b::ae 7)from
  E8s (ad.keep (λD u=>am D (λe=>ah (e ▸ u)))) (by obtain⟨_,_,e⟩:=ax;exact lt_of_block e) bF.o (by rw[K];go_simp) (by rw[K];go_simp) (by rw[K];go_simp))
 have bn:=A_ (show Own w H (b::ae 7)from⟨List.nodup_cons.2 ⟨ah,aA.1⟩,λD u=>by
  rcases List.mem_cons.1 u with rfl|u;·exact⟨al,ax⟩
  refine⟨by have:=(aD D u).1;omega,?_⟩;obtain⟨aw,t,e⟩:=aA.2 D u;exact⟨aw,t,(am D (λe=>ah (e ▸ u))).trans e⟩⟩)
 have aS:=A_ (show H.1[w.1.size]?=some (.cells #[.slice (some ⟨ac,ao,none⟩) 1 aV,.slice (some ⟨I,S,none⟩) 1 aW] 247)from(am _ (by have:=bk.o;omega)).trans (O_ (O_ aR.o J.o) E));have aq:=A_ aF;generalize ae 7=cA at *;clear X bH a9 ad aA aD bM E K ah aF ax aY am ai;go_upto_region 15 with fail;rw[aq.o,<-bl.o];clear a0 bt bu bv b1 b2 ba bc bd aK aL aM aN aO aP r0 bW bV;obtain⟨a7,-,-⟩:=bx aS;have co:=lt_of_block aS;go_wp2_with fail;rw[rounds_succ];go_wp2_with fail;refine wp_loop_rounds 2 ?_;rw[rounds_succ];go_wp2_with fail;refine wp_loop_rounds 1 ?_;rw[rounds_succ];go_wp2_with fail;rw[rounds_succ];go_wp2_with fail;refine(A5p _ 1 ab [z] _ H aU (by have:=bo.o;rw[aq.o]at this;simp[this])).mono ?_;rintro _ cz ⟨rfl,a3⟩;have ap:=A_ a3;clear a3;go_wp2;go_ret;rw[aq.o];exact⟨_,1,ab,_,rfl,aU.below ap,bn.below ap,Below.next bi ap⟩
theorem B8s (v:Value) (q:Option TRat) (s:List Nat) (w:World) (b:Agg w v (B4o q) s) (ok:Ok1 q) (h:∀ r,q=some r->0<R_ r):Calls prog 254 #[v] w (D1z w q):=by
 cases q with
 |none=>exact D1t v s w b
 |some r=>exact D3e v r s w b ok (h r rfl)
theorem D7t (v:Value) (q:Option TRat) (xs:List TRat) (s:List Nat) (B:Option Addr) (n d:Nat) (h:List Nat) (w:World) (D:Agg w v (D6x q) s) (b:Sl w B n d xs h) (u:n=B6w q) (E:Ok1 q) (H:xs.all J_=true) (ok:(A7r q xs).any A2e=false) :
  Calls prog 255 #[v,.slice B n d] w (A0w w (A7r q xs)):=by
 cases q with
 |none =>
  obtain rfl:n=0:=u
  obtain rfl:xs=[]:=List.eq_nil_of_length_eq_zero b.1
  exact D4y v s B d h w D b
 |some r =>
  obtain rfl:n=1:=u
  obtain⟨y,rfl⟩:∃ y,xs=[y]:=by
   have:=b.1;match xs,this with
   | [y],_=>exact⟨y,rfl⟩
  refine D3p v r y s B d h w D b E.1 (by simpa using H) (λG=>?_) (by simpa[A7r]using ok)
  have:=E.2
  apply this
  unfold R_ A0q
  rw[G]
  simp[val]
theorem C1q (v:Value) (q:Option TRat) (xs:List TRat) (s:List Nat) (B:Option Addr) (n d:Nat) (H:List Nat) (w:World) (S:Agg w v (B4o q) s) (ae:Sl w B n d xs H) (D:n=B6w q) (ak:Ok1 q) (ah:∀ r,q=some r->0<R_ r) (al:xs.all J_=true) (ok:(A7r q xs).any A2e=false) :
  Calls prog 204 #[v,.slice B n d] w (B7y w (A7r q xs)):=by
 have aw:=A_ S;have G:=A_ ae;have Z:=A_ ak;have ar:=A_ ah;have aa:=A_ al;have ay:=A_ ok;have Y:=A_ D;have aL:n<=1:=by rw[D];cases q<;>simp[B6w]
 have aM:(n:Int)<=1:=oM;obtain⟨A,aI,c,aR,rfl,rfl,ad⟩:=TMatrix.agg S;obtain rfl:n=aI:=by rw[<-ad.1,D];cases q<;>rfl
 clear S ae ad ak ah al ok D;go_enter func204,ntmps204;go_wp2_with fail;refine(B8s _ q _ (w.alloc (.cells #[.slice A n c] 203)) (aw.below Below.go) Z ar).mono ?_;rintro _ h ⟨aT,aS,rfl,J,aE,K⟩;obtain⟨T,ai,ab,aP,W,aj,ac,aQ,rfl,rfl,aF,aG⟩:=TFactor.agg J;obtain⟨aC,aD⟩:=F_ K;have aN:w.1.size<h.1.size:=ltg K;have ao:=A_ J;have X:=A_ (show Bw w h from Below.go);have aO:w.1.size<h.1.size+1:=oM;clear J aE aF aG K;go_wp2_with fail;refine(A5n B n d xs H (h.alloc (.cells #[.slice T ai ab,.slice W aj ac] 247)) (G.below (Below.next X (Below.box _))) aa).mono ?_;rintro _ aK ⟨rfl,u⟩;have E:=A_ (Below.next (Below.next X (Below.box _)) u);have an:=A_ ((ao.below (Below.box _)).below u);have ax:=A_ (O_ (heap_alloc_new h (.cells #[.slice T ai ab,.slice W aj ac] 247)) u);obtain⟨aH,-,-⟩:=bx ax;clear u aC aD;go_wp2_with fail;refine(D7t _ q xs _ B n d H aK an (G.below E) Y Z aa ay).mono ?_;rintro _ w3 ⟨am,aJ,aA,az,rfl,O,ag,af⟩;obtain rfl:n=aJ:=by
  have aB:=O.1;have b:=G.1;have I:=Y.o;rw[<-aB];cases q with
  |none=>simpa[A7r,B6w]using I
  |some r=>match xs,b with
   |y::ys,b=>simpa[A7r,B6w]using I
   | [],b=>rw[I]at b;simp[B6w]at b
 have au:=A_ O;have aq:=A_ (ag.older (w0:=w) E.size);have ap:=A_ (Below.next E af);clear O ag af aH;go_wp2;go_ret2;exact⟨am,n,aA,az,rfl,au,aq,ap⟩
def A8o (u:List TRat) (i:Int):TRat:=bif decide (0<=i)then u.getD i.toNat A0h else U_ 0
def B4j (m:TMesh) (u:List TRat):List TRat:=(B1i m).map (A8o u)
def E8x (u:List TRat) (i:Int):TRat:=u.getD i.toNat A0h
def D7i (m:TMesh) (u:List TRat):List TRat:=(A3f m false).map (E8x u)
theorem D6b (v:Value) (m:TMesh) (b:List Nat) (B:Option Addr) (ag d:Nat) (us:List TRat) (bQ:List Nat) (w:World) (aT:Agg w v m b) (aB:m.1.length<=40) (a7:m.triangles.length<=48) (a9:B8e m) (bg:Sl w B ag d us bQ) (aR:ag=(A3f m false).length) (be:∀ x∈us,B4q x) :
  Calls prog 208 #[v,.slice B ag d] w (A0w w (B4j m us)):=by
 have bM:=A_ aT;have bu:=A_ aB;have bv:=A_ a7;have bE:=A_ a9;have bJ:=A_ bg;have bG:=A_ be;obtain⟨bo,u,bN,cx,bp,n1,bO,cy,rfl,rfl,aS,b4⟩:=TMesh.agg aT;have cn:u<=40:=by rw[<-aS.1];exact aB
 have co:(u:Int)<=40:=oM;have cp:ag<=40:=by rw[aR];exact Nat.le_trans (B3t m false) aB
 have cq:(ag:Int)<=40:=oM;obtain⟨h,aA⟩:∃ h,B1i m=h:=⟨_,rfl⟩
 have bI:=A_ aA;have aK:=A_ (by rw[<-aA,C0l,aS.1]:h.length=u);have bH:=A_ (by rw[<-aA,aR];exact C1e:∀ x∈h,-1<=x/\x<ag);have bs:=A_ (by rw[B4j,aA]:B4j m us=h.map (A8o us));obtain⟨bk,ba,bh,bi,bj⟩:=info_parts B2r;clear aT aB a7 a9 bg be aS b4 aA aR;go_enter func208,ntmps208;go_wp2_with fail;have C:=B5v _ m _ (w.alloc (.cells #[.slice bo u bN,.slice bp n1 bO] 26)) (bM.below Below.go) bu bv bE;rw[bI.o]at C;refine C.mono ?_;clear C;rintro _ ah ⟨gr,nr,aV,rfl,aF,b0,bV⟩;obtain rfl:u=nr:=by rw[<-aF.1];exact aK.symm
 have a4:=A_ (aF.below (Below.box (.cells #[] 35)));have bA:=A_ (show Bw w ah from Below.go);have a2:=A_ (show Pend w ah 35 (ah.alloc (.cells #[] 35)) ah.1.size 0 0 ((h.map (A8o us)).take 0)from Pend.start bA);have a1:=A_ (show ah.1.size∉aV from λaN=>by have:=aF.lt _ aN;omega);clear aF b0 bV;go_wp2_with fail;go_loopg [7,19] u (λg s3 s wr=>∃ (i gB cap:Nat),i+g=u/\s=.int .i64 i/\s3=.slice (some ⟨gB,0,none⟩) i cap/\Hid (Pend w ah 35 wr gB i cap ((h.map (A8o us)).take i))/\Hid (Sl wr (some ⟨gr,0,none⟩) u u h aV/\gB∉aV));case atStart=>exact⟨0,ah.1.size,0,oM,rfl,rfl,a2.o,a4.o,a1.o⟩
 case round =>
  clear a2 a4 a1;obtain⟨i,gB,cap,bd,rfl,rfl,al,S⟩:=hrel;rename World=>wr;have bD:=A_ al.bw;rcases Nat.lt_or_ge i u with ax|ax
  ·have bY:(i:Int)<u:=oM
   obtain⟨g,rfl⟩:∃ g,gk=g+1:=⟨gk - 1,oM⟩
   have bc:=A_ (by omega:i+1+g=u);have cm:i+1<=u:=ax;have aY:=A_ (by unfold maxLen;omega:i+1<=maxLen);have aZ:=A_ (by omega:(i+1)*56<=140737488355328);obtain⟨q,aE⟩:∃ q,h[i]?=some q:=⟨_,List.getElem?_eq_getElem (by rw[aK.o];exact ax)⟩
   obtain⟨ch,ck⟩:=Sl.intAt S.1 aE;obtain⟨b3,cs⟩:=bH q (List.mem_of_getElem? aE);have a3:=A_ aE;clear bd ax aE;go_wp2_with fail;refine(A0l 0 wr (by constructor<;>decide)).mono ?_;rintro _ wa ⟨b6,aG,rfl,ab,J,D⟩;obtain⟨K,ac,X,ci,O,ad,Y,cj,rfl,aX,_,_⟩:=TRat.agg ab;obtain⟨G,am⟩:∃ G,G=wa.alloc (.cells #[.bool (U_ 0).1.1,.slice K ac X,.slice O ad Y] 35):=⟨_,rfl⟩
   obtain⟨g8,aC⟩:∃ g8,wa.1.size=g8:=⟨_,rfl⟩
   have aH:=A_ (by rw[am];exact Below.next D (Below.box _):Bw wr G);have I:=A_ (by rw[am,<-aC];exact heap_alloc_new wa _:G.1[g8]?=some (.cells #[.bool (U_ 0).1.1,.slice K ac X,.slice O ad Y] 35));have bq:=A_ (by rw[am];exact ab.below (Below.box _):Agg G (.agg #[.bool (U_ 0).1.1,.slice K ac X,.slice O ad Y]) (U_ 0) aG);have a6:=A_ (by rw[am];exact J.below (Below.box _):Own wr G aG);have aO:wr.1.size<=g8:=by rw[<-aC];exact D.size
   have bK:=A_ am;have bF:=A_ aC;clear ab J D aX am aC;go_upto_region 7 with fail;rw[<-bK.o,bF.o];have aD:=lt_of_block I;by_cases bf:q<0
   ·obtain rfl:q = -1:=oM
    have aM:=A_ (show(h.map (A8o us)).take (i+1)=(h.map (A8o us)).take i++[U_ 0]from take_step (by rw[List.getElem?_map,a3.o];rfl));obtain⟨ai,_⟩:=B_ I (j:=0) rfl;obtain⟨aj,_⟩:=B_ I (j:=1) rfl;obtain⟨ak,_⟩:=B_ I (j:=2) rfl;simp at ai aj ak;have an:=A_ (A3x (bq.below (Below.box (.cells #[.bool (U_ 0).1.1,.slice K ac X,.slice O ad Y] 35))));have ap:=A_ ((a6.below (Below.box (.cells #[.bool (U_ 0).1.1,.slice K ac X,.slice O ad Y] 35))).free);have aq:=A_ (show ∀ b∈aG,wr.1.size<=b from λb H=>(a6.2 b H).1);have ao:=A_ (show Bw wr (G.alloc (.cells #[.bool (U_ 0).1.1,.slice K ac X,.slice O ad Y] 35))from Below.next aH (Below.box _));clear bf;go_wp2_with (at_builtin;refine A1v rfl _ _ 27 rfl 35 bk (.agg #[.bool false,.slice none 0 0,.slice none 0 0]) 56 underlying27 ba bh bi bj rfl al ao gD ⟨G.1.size,0,none⟩ 1 [.bool (U_ 0).1.1,.slice K ac X,.slice O ad Y] (U_ 0) aG gD (A0a (heap_alloc_new G _)) an ap aq aY aZ ?_;intro g' ar aW az aw ay);have aJ:=A_ (by rw[aM.o];exact az:Pend w _ 35 aW g' (i+1) ar ((h.map (A8o us)).take (i+1)));have aI:=A_ (Sl.pushed S.1 ao aw ay S.2);clear az aw ay an ap aq al S;go_wp2_with fail;go_roundg g;case measure=>omega
    case rel=>exact⟨i+1,g',ar,bc,gN,rfl,aJ,aI⟩
   obtain⟨k,rfl⟩:∃ k:Nat,q=k:=⟨q.toNat,oM⟩
   have bZ:k<ag:=oM;obtain⟨cf,cw,x,cd,cu,c3,s3,ce,cv,cg,cz,rfl,bW,aU,bS,bT,bU,a8⟩:=TRat.elemA (bJ.below (Below.next bD aH)) bZ;have bz:=A_ a8;have a5:=A_ (bG x (List.mem_of_getElem? aU));have aM:=A_ (show(h.map (A8o us)).take (i+1)=(h.map (A8o us)).take i++[x]from take_step (by rw[List.getElem?_map,a3.o];simp[A8o,aU,List.getD]));obtain⟨ai,bl⟩:=B_ I (j:=0) rfl;obtain⟨aj,bm⟩:=B_ I (j:=1) rfl;obtain⟨ak,bn⟩:=B_ I (j:=2) rfl;simp at ai aj ak;clear a8 aU bf b3;go_wp2_with fail;refine(A3n _ x _ G bz (Nat.le_trans a5.1 dE) (Nat.le_trans a5.2 dE)).mono ?_;rintro _ wb ⟨b6,sb,rfl,ab,J,D⟩;obtain⟨T,ae,Z,v1,W,af,aa,v2,rfl,aX,_,_⟩:=TRat.agg ab;obtain⟨E,au⟩:∃ E,E=(((wb.setCell ⟨g8,0,none⟩ (.bool x.1.1)).setCell ⟨g8,1,none⟩ (.slice T ae Z)).setCell ⟨g8,2,none⟩ (.slice W af aa)):=⟨_,rfl⟩
   have bL:=A_ au;have aP:g8∉sb:=λaN=>by have:=(J.2 _ aN).1;omega
   have aQ:∀ b,b≠g8->E.1[b]?=wb.1[b]?:=λb H=>by rw[au];exact A0p b H
   have bB:=A_ (show Bw wr E by rw[au];exact(((Below.next aH D).setCell (p:=⟨g8,0,none⟩) aO _).setCell (p:=⟨g8,1,none⟩) aO _).setCell (p:=⟨g8,2,none⟩) aO _);have aL:=A_ (by rw[au];exact A0u (A0u (A0u (O_ I D))):E.1[g8]?=some (.cells #[.bool x.1.1,.slice T ae Z,.slice W af aa] 35));have br:=A_ (show Agg E (.agg #[.bool x.1.1,.slice T ae Z,.slice W af aa]) x sb from ab.keep (λb H=>aQ b (λe=>aP (e ▸ H))));have bt:=A_ (show Free E sb from⟨J.1,λb H=>by obtain⟨bP,t,e⟩:=(J.2 b H).2;exact⟨bP,t,(aQ b (λbR=>aP (bR ▸ H))).trans e⟩⟩);have aq:=A_ (show ∀ b∈sb,wr.1.size<=b from λb H=>by have:=(J.2 b H).1;omega);have ct:=D.size;have bX:g8<wb.1.size:=oM;have b5:=λo=>D.cell (p:=⟨g8,o,none⟩) aD;have b7:=ai;have b9:=aj;have cb:=ak;have b8:=(D.frozen (p:=⟨g8,0,none⟩) aD).trans bl;have ca:=(D.frozen (p:=⟨g8,1,none⟩) aD).trans bm;have cc:=(D.frozen (p:=⟨g8,2,none⟩) aD).trans bn;clear ab J D aX au aP aQ ai aj ak bl bm bn;go_upto_region 9 with fail;rw[<-bL.o];clear b7 b9 cb b8 ca cc bS bT bU bW bX b5;obtain⟨ai,_⟩:=B_ aL (j:=0) rfl;obtain⟨aj,_⟩:=B_ aL (j:=1) rfl;obtain⟨ak,_⟩:=B_ aL (j:=2) rfl;simp at ai aj ak;have an:=A_ (A3x (br.below (Below.box (.cells #[.bool x.1.1,.slice T ae Z,.slice W af aa] 35))));have ap:=A_ (bt.below (Below.box (w:=E) (.cells #[.bool x.1.1,.slice T ae Z,.slice W af aa] 35)));have ao:=A_ (show Bw wr (E.alloc (.cells #[.bool x.1.1,.slice T ae Z,.slice W af aa] 35))from Below.next bB (Below.box _));go_wp2_with (at_builtin;refine A1v rfl _ _ 27 rfl 35 bk (.agg #[.bool false,.slice none 0 0,.slice none 0 0]) 56 underlying27 ba bh bi bj rfl al ao gD ⟨E.1.size,0,none⟩ 1 [.bool x.1.1,.slice T ae Z,.slice W af aa] x sb gD (A0a (heap_alloc_new E _)) an ap aq aY aZ ?_;intro g' ar aW az aw ay);have aJ:=A_ (by rw[aM.o];exact az:Pend w _ 35 aW g' (i+1) ar ((h.map (A8o us)).take (i+1)));have aI:=A_ (Sl.pushed S.1 ao aw ay S.2);clear az aw ay an ap aq al S;go_wp2_with fail;go_roundg g;case measure=>omega
   case rel=>exact⟨i+1,g',ar,bc,gN,rfl,aJ,aI⟩
  obtain rfl:i=u:=oM;have bY:¬ ((i:Int)<i):=oM;clear bd ax;go_wp2;go_ret;rw[bs.o];have:=al.done;rwa [List.take_of_length_le (by rw[List.length_map,aK.o];exact Nat.le_refl _)]at this
end Go.Proofs.YtbhemnidcleaiaaGreat.X

namespace Go.XB
open Go.RowKit
def MP.aggV {α:Type} [Dat α] (x:α):MP:=⟨λv bs w=>Agg w v x bs,λ_ _ _ _ hb h=>h.below hb⟩
def MP.tupS (xs:List TRat):MP:=⟨λv bs w=>∃ A n c,v=.tuple #[.slice A n c,.bool true]/\Sl w A n c xs bs,λ_ _ _ _ hb h=>by
 obtain⟨A,n,c,e,h⟩:=h;exact⟨A,n,c,e,h.below hb⟩⟩
def MP.tupB (y:Value):MP:=⟨λv bs _=>bs=[]/\v=y/\∃ A n c,v=.tuple #[.slice A n c,.bool true],λ_ _ _ _ _ h=>h⟩
def MP.tupC (y:Value):MP:=⟨λv bs _=>bs=[]/\(∃ A n c,v=.slice A n c)/\y=.tuple #[v,.bool true],λ_ _ _ _ _ h=>h⟩
end Go.XB
namespace Go.Proofs.YtbhemnidcleaiaaGreat.X
open Go.RowKit Go.XB Go.XN Proofs.Tryz
structure SolD (p:TProblem) (xs ys:List Int) (os:Option TRat):Prop where
 md:MeshD p.1 xs ys
 pr:ProbI p xs ys
 hs:C0y p.1 (A9s p)=B7m os
 oks:Ok1 os
 pos:∀ r,os=some r->0<R_ r
 lo:(A6v p).all J_=true
 ld:(A6v p).any A2e=false
 so:(A7r os (A6v p)).all J_=true
 sd:(A7r os (A6v p)).any A2e=false
 nl:(A6v p).length=B6w os
 nm:(A3f p.1 false).length=B6w os
def A8r (p:TProblem) (os:Option TRat):List TRat:=B4j p.1 (A7r os (A6v p))
theorem D7p {b:Option TRat} {xs:List TRat} (h:xs.length=B6w b):(A7r b xs).length=B6w b:=by
 cases b with
 |none=>rfl
 |some r=>match xs,h with
  |y::ys,_=>rfl
attribute [local go_sem] L_ Go.XB.opAt N_ M_ Region.wanted yielded
attribute [local simp] N_ M_ MP.eq MP.agg MP.aggV MP.tupS MP.tupB MP.tupC MP.sl MP.box A0r
theorem C8t (v:Value) (p:TProblem) (b:List Nat) (xs ys:List Int) (W:Option TRat) (w:World) (am:Agg w v p b) (h:SolD p xs ys W) :
  Calls prog 155 #[v] w (B7y w (A8r p W)):=by
 have aQ:=A_ am;have D:=A_ h;obtain⟨a4,bi,a9,bl,a5,n1,ba,bm,a6,n2,bc,bn,a7,bj,c3,bo,rfl,rfl,aG,aH,aY,aZ⟩:=TProblem.agg am;have aq:=A_ (TMesh.mkAgg (x:=p.1) aG aH);clear aG aH aY aZ am h;go_enter func155,ntmps155;go_upto_region 1 with fail;refine Code.new λaT ai=>?_;have ap:=A_ ai.b;have X:=A_ ai.k;clear ai;obtain⟨Y,-⟩:=B_ X (j:=0) rfl;obtain⟨ax,-⟩:=B_ X (j:=1) rfl;obtain⟨ay,-⟩:=B_ X (j:=2) rfl;obtain⟨az,-⟩:=B_ X (j:=3) rfl;simp at Y ax ay az;have Z:w.1.size<aT.1.size:=E_ X;have au:=A_ (aQ.below ap);refine A0g ?_;refine C_ _ ?_;refine D_ (MP.aggV (B4o W)) ?_ ?_;·intro G J H E h;obtain⟨ak,al⟩:=F_ E;simp at h;refine G_ ?_;exact(C6n _ p _ xs ys W H (au.below E) D.md D.pr.dl D.hs D.oks).mono λ_ _ ⟨u,s,he,ha,hn,I⟩=>⟨u,he,I,s,ha,λb I=>⟨hn b I,ha.lt b I⟩⟩
 refine C_ _ ?_;refine D_ (MP.sl (A6v p)) ?_ ?_;·intro G J H E h;obtain⟨ak,al⟩:=F_ E;simp at h;refine G_ ?_;exact A1c (E1j _ p _ xs ys H (au.below E) D.md D.pr.sl D.ld)
 refine D_ (MP.tupS (A7r W (A6v p))) ?_ ?_;·intro G J H E h;obtain⟨ak,al⟩:=F_ E;simp at h;obtain⟨aV,⟨⟨K,S,cD,bg,aB⟩,_⟩⟩:=h;refine G_ ?_;exact(C1q _ W (A6v p) _ K S cD _ H aV aB (by rw[<-aB.1];exact D.nl) D.oks D.pos D.lo D.sd).mono λ_ _ ⟨A,n,c,bs,he,hs,ho,I⟩=>⟨_,he,I,bs,⟨A,n,c,rfl,hs⟩,λb I=>⟨(ho.2 b I).1,hs.lt b I⟩⟩
 refine A1d (λT=>MP.tupB (T 4)) (by intro y T O;simp[N_,M_]at O;simp[O]) ?_ ?_;·intro G J H E h;simp at h;obtain⟨K,S,cD,ac,_⟩:=h;refine⟨gD,G 4,H,?_,Below.refl _ _,[],⟨rfl,rfl,K,S,cD,ac⟩,sI⟩;go_simp
 refine A1d (λT=>MP.tupC (T 5)) (by intro y T O;simp[N_,M_]at O;simp[O]) ?_ ?_;·intro G J H E h;simp at h;obtain⟨_,Y,K,S,cD,ad⟩:=h;clear Y;refine⟨gD,.slice K S cD,H,?_,Below.refl _ _,[],⟨rfl,⟨K,S,cD,rfl⟩,ad⟩,sI⟩;go_simp
 refine A2b (.bool true) ?_ ?_;·intro G J H E h;simp at h;obtain⟨_,Y,K,S,cD,ad⟩:=h;clear Y;refine⟨gD,?_⟩;go_simp
 refine A9h (λT=>T 6) (by intro y T O;simp[N_,M_]at O;simp[O]) ?_ ?_;·intro G J H E h;obtain⟨ak,al⟩:=F_ E;simp at h;obtain⟨_,⟨K,S,cD,aA⟩,_⟩:=h;refine⟨gD,?_⟩;go_simp;try simp[*,Value.cells]
 refine A2b (.bool true) ?_ ?_;·intro G J H E h;simp at h;refine⟨gD,?_⟩;go_simp
 intro G J aL E h (aW:Hid _);simp at h;have a2:=h.2.2.2.2.1;have aJ:=h.2.2.2.2.2.1;have aK:=h.2.2.2.2.2.2.1;have af:=h.2.2.2.2.2.2.2.2.1;have ag:=h.2.2.2.2.2.2.2.2.2;obtain⟨⟨ab,aa,cS,ac,aj⟩,aX⟩:=a2;have ad:G 5=.tuple #[.slice ab aa cS,.bool true]:=by rw[<-ac];exact aJ.1.2.1
 have aA:G 6=.slice ab aa cS:=by have:=aK.1.2.2;rw[ad]at this;simpa using this.symm
 have be:G 8=.slice ab aa cS:=by rw[<-aA];first|exact af.1.1|exact af.1|exact af
 have bf:G 9=.bool true:=by first|exact ag.1.1|exact ag.1|exact ag
 have aN:=A_ aj;have ar:=A_ (by rw[D.o.nm,<-aj.1];exact D7p D.nl:aa=(A3f p.1 false).length);have ao:=A_ (Below.next ap E);have aw:=A_ (K_ X E);generalize J 4=bk at *;clear h aW aJ aK af ag aj aX E Y ax ay az Z ac;obtain⟨an,-,Z⟩:=bx aw;have l1:w.1.size<aL.1.size:=Z;go_wp2_with fail;refine(B6y _ p.1 _ false aL (aq.below ao) D.md.1.n40 D.md.1.t48 D.md.es).mono ?_;rintro _ a3 ⟨a8,aI,bd,bh,rfl,aC,-,ae⟩;obtain rfl:aI=aa:=by rw[ar.o,aC.1]
 have ah:=A_ (Below.next ao ae);have aR:=A_ (K_ aw ae);have aO:=A_ (aN.below ae);clear aC ae an Z l1;obtain⟨an,-,Z⟩:=bx aR;go_wp2_with fail;refine(D6b _ p.1 _ ab aI cS (A7r W (A6v p)) _ a3 (aq.below ah) D.md.1.n40 D.md.1.t48 D.md.es aO ar (B6l D.so)).mono ?_;rintro _ w3 ⟨U,a1,aU,bp,rfl,aD,aF,aE⟩;have aP:=A_ aD;have aM:=A_ (Below.next ah aE);have aS:=A_ (aF.older (w0:=w) ah.size);clear aD aF aE an Z;go_wp2;refine bodyPost_ret (v:=.tuple #[.slice U a1 aU,.bool true]) (by simp[results,results155,go_sem, *]) rfl ?_;exact⟨_,_,_,_,rfl,aP,aS,aM⟩
theorem B9m (v:Value) (p:TProblem) (b:List Nat) (xs ys:List Int) (I:Option TRat) (w:World) (G:Agg w v p b) (X:SolD p xs ys I) :
  Calls prog 106 #[v] w (B7y w (A8r p I)):=by
 have O:=A_ G;have K:=A_ X;obtain⟨al,au,ap,ax,am,n1,aq,ay,an,n2,ar,az,ao,aw,c3,aA,rfl,rfl,af,ag,ah,ai⟩:=TProblem.agg G;clear af ag ah ai G X;go_enter func106,ntmps106;go_upto_region 1 with fail;refine Code.new λad u=>?_;have J:=A_ u.b;have S:=A_ u.k;clear u;obtain⟨D,-,H⟩:=bx S;go_wp2_with fail;refine(B5t _ p _ xs ys ad (O.below J) K.pr).mono ?_;rintro _ ak ⟨rfl,E⟩;have h:=A_ (Below.next J E);have ab:=A_ (K_ S E);clear E D H;obtain⟨D,-,H⟩:=bx ab;go_wp2_with fail;refine(C8t _ p _ xs ys I ak (O.below h) K).mono ?_;rintro _ aC ⟨U,aj,ae,aB,rfl,T,Y,W⟩;have aa:=A_ T;have Z:=A_ (Below.next h W);have ac:=A_ (Y.older (w0:=w) h.size);clear T Y W D H;go_wp2;refine bodyPost_ret (v:=.tuple #[.slice U aj ae,.bool true]) (by simp[results,results106,go_sem, *]) rfl ?_;exact⟨_,_,_,_,rfl,aa,ac,Z⟩
end Go.Proofs.YtbhemnidcleaiaaGreat.X

namespace Go
open Go.RowKit Go.XB Go.Proofs.YtbhemnidcleaiaaGreat.X
def E3t (w:World) (r r':Option Nat):Prop:=r'=r\/∀ g,r'=some g->w.1.size<=g
theorem D2y {P:Program} {w:World} {am:Array Oper} {rest:List Oper} {o:Oper} {a:Act} {Q:Exit->Act->World->Prop} (aa:o.guard=none) (s x:Operand) (t:TypeId)
  (ae:o.op=.call { callee:=.builtin .append,args:=#[s,x],argTypes:=#[t,t] })
  (base:Nat) (e:TypeId) (i:TypeInfo) (z:Value) (size G:Nat) (ai:P.underlying t=some (.slice e)) (hi:P.info? e=some i) (ak:i.zero=some z)
  (ag:i.size=size) (X:i.bytes=G) (al:z.cells.size=size) (ah:0<size)
  (v:Value) (n:Nat) (xs:List Value) (af:a.eval s=v) (J:w.ownsRow base e size v n xs)
  (E:Addr) (c:Nat) (b:List Value) (aj:a.eval x=.slice (some E) 1 c) (ab:b.length=1*size) (ad:∀ j u,b[j]?=some u->w.cell? (E.add j)=some u) (O:∀ u∈b,u.oneCell'=true)
  (T:n+1<=maxLen) (Y:(n+1)*G<=140737488355328) (W:base<=w.1.size)
  (h:∀ g' cap' w',w'.ownsRow base e size (.slice (some ⟨g',0,none⟩) (n+1) cap') (n+1) (xs++b)->w.grownBy w' v.ownBlock->E3t w v.ownBlock (some g')->wpList P am Q rest (a.put o.dst (.slice (some ⟨g',0,none⟩) (n+1) cap')) w'):wpList P am Q (o::rest) a w:=by
 rcases J.2 with⟨K,ac⟩|⟨g,cap,ao,K,aq,I,aw,ar,au,ax⟩
 ·have an:xs=[]:=by
   have:=J.1
   rw[ac,Nat.zero_mul]at this
   exact List.eq_nil_of_length_eq_zero this
  subst ac;subst an
  refine wpList_append_own w aa s x t ae w.1.size e i z size G ai hi ak ag X al ah v 0 [] af (by rw[K];exact World.ownsRow_nil w _ e size) E 1 c b aj ab ad O T Y (Nat.le_refl _) ?_
  intro ay w' D H S
  obtain⟨g',c',rfl⟩:=C5p D oM
  exact h g' c' w' (A9f D W) H (.inr λg I=>by have:=(World.ownsRow.lt D g' rfl).1;injection I with I;omega)
 ·subst K
  refine A1m aa s x t ae base e i z size G ai hi ak ag X al ah g n cap xs af J E 1 c b aj ab ad O T Y W ?_;intro g' cap' w' D H S;refine h _ _ w' D H ?_;rcases S with rfl|rfl
  ·exact .inl rfl
  exact .inr λap Z=>by injection Z with Z;omega
end Go
namespace Go.XB
open Go.RowKit Go.Proofs.YtbhemnidcleaiaaGreat.X
section
variable {α:Type} [Dat α]
def PV (L:Nat) (e:TypeId) (wr:World) (v:Value) (i:Nat) (ps:List α) (zs:List Nat):Prop :=
 ∃ cells fss,wr.ownsRow L e (Dat.sz α) v i cells/\Filled wr cells ps fss/\ps.length=i/\zs=fss.flatten/\(∀ g,v.ownBlock=some g->g∉zs)/\∀ b∈zs,L<=b
variable {L i:Nat} {wr wa:World} {e:TypeId} {v:Value} {ps:List α} {zs:List Nat}
theorem PV.nil (L:Nat) (e:TypeId) (wr:World):PV (α:=α) L e wr (.slice none 0 0) 0 [] []:=⟨[],[],World.ownsRow_nil wr L e _,Filled.nil _ _,rfl,rfl,sI,sI⟩
theorem PV.lt (h:PV L e wr v i ps zs):∀ g,v.ownBlock=some g->L<=g/\g<wr.1.size:=by obtain⟨_,_,h1,_⟩:=h;exact λg hg=>World.ownsRow.lt h1 g hg
theorem PV.len (h:PV L e wr v i ps zs):ps.length=i:=by obtain⟨_,_,_,_,h,_⟩:=h;exact h
theorem PV.zlt (h:PV L e wr v i ps zs):∀ b∈zs,L<=b/\b<wr.1.size:=by
 obtain⟨cells,fss,G,D,H,rfl,I,E⟩:=h;exact λb u=>⟨E b u,D.lt b u⟩
theorem PV.keep (h:PV L e wr v i ps zs) {x:Nat} (E:wr.grownBy wa (some x)) (K:v.ownBlock≠some x) (O:x∉zs):PV L e wa v i ps zs:=by
 obtain⟨cells,fss,G,u,H,rfl,I,J⟩:=h;exact⟨cells,fss,G.kept E (.inr K),u.keep (λb D=>E.block b (u.lt b D) (by intro e;injection e with e;exact O (e ▸ D))),H,rfl,I,J⟩
theorem PV.below (h:PV L e wr v i ps zs) (b:Bw wr wa):PV L e wa v i ps zs:=by
 obtain⟨cells,fss,u,D,E,G,H,I⟩:=h;exact⟨cells,fss,I_ u b,D.below b,E,G,H,I⟩
theorem PV.sl (h:PV L e wr v i ps zs):∃ A c bs,v=.slice A i c/\Sl wr A i c ps bs/\∀ b∈bs,v.ownBlock=some b\/b∈zs:=by
 obtain⟨cells,fss,E,G,H,rfl,O,S⟩:=h;obtain⟨A,c,bs,K,J,I⟩:=G.sl (α:=α) E H;refine⟨A,c,bs,K,J,λb u=>?_⟩;rcases I with⟨_,rfl⟩|⟨g',D,rfl,T,_⟩;·simp at u
 rcases List.mem_cons.1 u with rfl|u;·exact .inl D
 exact .inr u
end
end Go.XB
namespace Go
open Go.RowKit Go.XB Go.Proofs.YtbhemnidcleaiaaGreat.X
theorem D0k {P:Program} {α:Type} [Dat α] {L:Nat} {wr:World} {v:Value} {k:Nat} {ps:List α} {zs:List Nat} {ac:Array Oper} {rest:List Oper} {o:Oper} {a:Act} {Q:Exit->Act->World->Prop} (aj:o.guard=none) (s x:Operand) (t:TypeId)
  (al:o.op=.call { callee:=.builtin .append,args:=#[s,x],argTypes:=#[t,t] })
  (e:TypeId) (i:TypeInfo) (z:Value) (K:Nat) (ap:P.underlying t=some (.slice e)) (hi:P.info? e=some i) (au:i.zero=some z)
  (ao:i.size=Dat.sz α) (ah:i.bytes=K) (aw:z.cells.size=Dat.sz α) (Z:PV L e wr v k ps zs) (aq:L<=wr.1.size) (an:a.eval s=v)
  (J:Addr) (c:Nat) (cs:List Value) (ad:α) (G:List Nat) (ar:a.eval x=.slice (some J) 1 c) (ak:∀ j u,cs[j]?=some u->wr.cell? (J.add j)=some u)
  (I:Dat.at_ wr cs ad G) (T:∀ b∈G,L<=b/\v.ownBlock≠some b) (ag:k+1<=maxLen) (ai:(k+1)*K<=140737488355328)
  (h:∀ g' cap' w8,PV L e w8 (.slice (some ⟨g',0,none⟩) (k+1) cap') (k+1) (ps++[ad]) (zs++G)->wr.grownBy w8 v.ownBlock->E3t wr v.ownBlock (some g')->wpList P ac Q rest (a.put o.dst (.slice (some ⟨g',0,none⟩) (k+1) cap')) w8):wpList P ac Q (o::rest) a wr:=by
 have ab:=Z.zlt;obtain⟨cells,fss,W,ae,X,rfl,Y,af⟩:=Z;refine D2y aj s x t al L e i z (Dat.sz α) K ap hi au ao ah aw Dat.pos v k cells an W J c cs ar (by rw[Nat.one_mul];exact Dat.len I) ak (Dat.one I) ag ai aq ?_;intro g' cap' w8 am O E;refine h g' cap' w8 ?_ O E;have aa:∀ b∈G,b<wr.1.size:=Dat.lt I;have k1:∀ b∈fss.flatten,w8.1[b]?=wr.1[b]?:=λb H=>O.block b (ab b H).2 (λe=>Y b e.symm H);have k2:∀ b∈G,w8.1[b]?=wr.1[b]?:=λb H=>O.block b (aa b H) (λe=>(T b H).2 e.symm);refine⟨_,fss++[G],am,Filled.push (ae.keep k1) (by rw[W.1,X]) (Dat.keep I k2),by simp[X],sI,?_,?_⟩
 ·intro g S D
  injection S with S;subst S;rcases List.mem_append.1 D with D|D
  ·rcases E with E|E
   ·exact Y _ E.symm D
   have:=(ab _ D).2;have:=E _ rfl;simp only at *;omega
  rcases E with E|E;·exact(T _ D).2 E.symm
  have:=aa _ D;have:=E _ rfl;simp only at *;omega
 intro b D;rcases List.mem_append.1 D with D|D
 ·exact af b D
 exact(T b D).1
end Go
namespace Go.Proofs.YtbhemnidcleaiaaGreat.X
open Go.RowKit Go.XB Go.XN Proofs.Tryz
theorem C6a:∀ (l:List TTri) (k:Nat) (x:TTri),l[k]?=some x->((l.flatMap A7h).drop (k*5)).take 5=A7h x:=λl=>by
 induction l with
 |nil=>intro k x hx;simp at hx
 |cons y ys ih =>
  intro k x hx
  cases k with
  |zero =>
   simp at hx;subst hx
   rw[List.flatMap_cons,Nat.zero_mul,List.drop_zero,List.take_append_of_le_length (by simp[A7h])]
   rfl
  |succ k =>
   rw[show(k+1)*5=(A7h y).length+k*5 by simp[A7h];omega,List.flatMap_cons,List.drop_length_add_append]
   exact ih k x (by simpa using hx)
def TrRow (w:World) (base:Nat) (v:Value) (ts:List TTri):Prop:=w.ownsRow base 93 5 v ts.length (ts.flatMap A7h)/\∀ t∈ts,C2c t
theorem TrRow.below {w w':World} {base:Nat} {v:Value} {ts:List TTri} (h:TrRow w base v ts) (hb:Bw w w'):TrRow w' base v ts:=⟨I_ h.1 hb,h.2⟩
theorem TrRow.kept {w w':World} {base x:Nat} {v:Value} {ts:List TTri} (h:TrRow w base v ts) (hk:w.grownBy w' (some x)) (hx:v.ownBlock≠some x):TrRow w' base v ts:=⟨h.1.kept hk (.inr hx),h.2⟩
theorem TrRow.sl {w:World} {base:Nat} {v:Value} {ts:List TTri} (h:TrRow w base v ts):∃ A c bs,v=.slice A ts.length c/\Sl w A ts.length c ts bs/\∀ b∈bs,v.ownBlock=some b:=by
 have S:Filled w (ts.flatMap A7h) ts (List.replicate ts.length []):=by
  refine⟨sI,by rw[B3l];exact Nat.le_refl _,λk x G D E=>?_⟩;have X:=(List.getElem?_eq_some_iff.1 D).1;have T:G=[]:=by rw[List.getElem?_replicate,if_pos X]at E;exact(Option.some.inj E).symm
  subst T;obtain⟨H,I,J,K,O⟩:=h.2 x (List.mem_of_getElem? D);show Dat.at_ w (((ts.flatMap A7h).drop (k*5)).take 5) x [];rw[C6a ts k x D];exact TTri.shut H I J K O
 obtain⟨A,c,bs,aa,Z,Y⟩:=S.sl (α:=TTri) (base:=base) (n:=ts.length) h.1 rfl;refine⟨A,c,bs,aa,Z,λb u=>?_⟩;rcases Y with⟨_,rfl⟩|⟨g',W,rfl,_⟩;·cases u
 simp at u;subst u;exact W
theorem Sl.cellsTr {w:World} {a:Addr} {n c:Nat} {ts:List TTri} {K:List Nat} (h:Sl w (some a) n c ts K):(∀ j u,(ts.flatMap A7h)[j]?=some u->w.cell? (a.add j)=some u)/\∀ t∈ts,C2c t:=by
 constructor
 ·intro j u J
  have ak:j<ts.length*5:=by have:=(List.getElem?_eq_some_iff.1 J).1;rwa [B3l]at this
  have D:j / 5<n:=by rw[<-h.1];omega
  obtain⟨G,H,t,ae,aj,E,O,S,T,W,X,I⟩:=TTri.elemA h D;obtain rfl:=Option.some.inj ae;have e:=C6a ts (j / 5) t E;have ah:j % 5<5:=Nat.mod_lt _ dE;have b:(A7h t)[j % 5]?=some u:=by rw[<-e,List.getElem?_take,if_pos ah,List.getElem?_drop,<-J];congr 1;omega
  have Y:(⟨G,H,none⟩:Addr).add j=⟨G,H+j,none⟩:=by unfold Addr.add;split<;>simp_all
  rw[Y];have af:j=j / 5*5+j % 5:=oM;unfold A7h at b;generalize j % 5=r at *;generalize j / 5=q at *;subst af;rcases r with _|_|_|_|_|r
  ·simp at b;subst b;simpa[Nat.add_assoc]using O
  ·simp at b;subst b;simpa[Nat.add_assoc]using S
  ·simp at b;subst b;simpa[Nat.add_assoc]using T
  ·simp at b;subst b;simpa[Nat.add_assoc]using W
  ·simp at b;subst b;simpa[Nat.add_assoc]using X
  omega
 intro t ai;obtain⟨k,D⟩:=List.mem_iff_getElem?.1 ai;have ag:k<n:=by rw[<-h.1];exact(List.getElem?_eq_some_iff.1 D).1
 obtain⟨G,H,al,_,_,E,_,_,_,_,_,I⟩:=TTri.elemA h ag;rw[D]at E;obtain rfl:=Option.some.inj E;obtain⟨_,_,Z,aa,ab,ac,ad⟩:=TTri.agg I;exact⟨Z,aa,ab,ac,ad⟩
attribute [local go_sem] L_ Go.XB.opAt N_ M_ Region.wanted yielded
attribute [local simp] N_ M_ MP.eq MP.agg MP.sl MP.slbox MP.box A0r
theorem E0v (A:Option Addr) (n c:Nat) (ts:List TTri) (W:List Nat) (w:World) (h:Sl w A n c ts W) (I:n<=1000) :
  Calls prog 170 #[.slice A n c] w (λe w'=>∃ v',e=.returned v'/\TrRow w' w.1.size v' ts/\Bw w w'):=by
 obtain⟨aa,H,J,K,O⟩:=info_parts D2e;cases A with
 |none =>
  have G:n=0:=by
   rcases Nat.eq_zero_or_pos n with D|D;·exact D
   obtain⟨_,_,_,e,_⟩:=h.2.2.2.2 D;cases e
  have Z:ts=[]:=List.eq_nil_of_length_eq_zero (h.1.trans G)
  clear h H J K O I
  subst G;subst Z
  have q1:∀ (w:World) (a:Option Addr) (n c b c':Nat),(binOp .eql 24 (.slice a n c) (.slice none b c')).run prog w=.ok (.bool a.isNone) w:=λw a n c b c'=>Lib.run_eql_slice_nil w _ _ a n c b c' underlying24
  go_enter func170,ntmps170
  go_wp2
  go_ret
  exact⟨_,rfl,⟨World.ownsRow_nil _ _ _ _,sI⟩,Below.refl _ _⟩
 |some a =>
  have S:=A_ (by unfold maxLen;omega:0+n<=maxLen)
  have T:=A_ (by omega:(0+n)*40<=140737488355328)
  have u:=A_ h
  clear h I
  have q1:∀ (w:World) (a:Option Addr) (n c b c':Nat),(binOp .eql 24 (.slice a n c) (.slice none b c')).run prog w=.ok (.bool a.isNone) w:=λw a n c b c'=>Lib.run_eql_slice_nil w _ _ a n c b c' underlying24
  go_enter func170,ntmps170
  go_wp2_with (at_builtin;(refine wpList_append_own _ rfl _ _ 24 rfl w.1.size 93 aa (.agg #[.int .i64 0,.int .i64 0,.int .i64 0,.int .i64 0,.int .i64 0]) 5 40 underlying24 H J K O rfl dE _ 0 [] rfl (World.ownsRow_made w #[] 0 (Nat.le_refl _) (Nat.zero_le _) rfl) a n c (ts.flatMap A7h) rfl (by rw[B3l,u.o.1]) (Sl.cellsTr (Sl.below u.o Below.go)).1 C1s S.o T.o (A1a (Nat.le_refl _) _) ?_);intro v' w3 E Y ab)
  have X:Bw w w3:=((Below.refl _ w).alloc (Nat.le_refl _) _).grown Y (A1a (Nat.le_refl _) _) (B0b (World.ownsRow_made (e:=24) (size:=5) w #[] 0 (Nat.le_refl _) (Nat.zero_le _) rfl))
  go_wp2
  go_ret
  have e:0+n=n:=Nat.zero_add n
  rw[e]at E
  rw[<-u.o.1]at E
  exact⟨_,rfl,⟨E,(Sl.cellsTr u).2⟩,X⟩
theorem A3p (w:World) (r:Option Nat):w.grownBy w r:=⟨rfl,rfl,rfl,Nat.le_refl _,λ_ _ _=>rfl⟩
theorem B4p {w w1 w2:World} {r:Option Nat} (h:w.grownBy w1 r) (hb:Bw w1 w2):w.grownBy w2 r :=
 ⟨hb.os.trans h.os,hb.tape.trans h.tape,hb.output.trans h.output,Nat.le_trans h.size hb.size,λk hk hne=>(hb.block k (Nat.lt_of_lt_of_le hk h.size)).trans (h.block k hk hne)⟩
theorem B9u {w w1 w2:World} {r r2:Option Nat} (h:w.grownBy w1 r) (h2:w1.grownBy w2 r2) (hx:∀ x,r2=some x->w.1.size<=x):w.grownBy w2 r :=
 ⟨h2.os.trans h.os,h2.tape.trans h.tape,h2.output.trans h.output,Nat.le_trans h.size h2.size,λk hk hne=>(h2.block k (Nat.lt_of_lt_of_le hk h.size) (by intro e;have:=hx k e.symm;omega)).trans (h.block k hk hne)⟩
theorem A1f {X w:World} {g i:Nat} {v0:Value} (h:X.grownBy w (some g)):X.grownBy (w.setCell ⟨g,i,none⟩ v0) (some g) :=
 ⟨h.os,h.tape,h.output,by simpa using h.size,λk hk hne=>(Below.heap_setCell _ _ _ k (by intro e;exact hne (by rw[e]))).trans (h.block k hk hne)⟩
def CMesh (w:World) (lo L:Nat) (vP vT:Value) (m:TMesh) (zs:List Nat):Prop :=
 PV L 38 w vP m.1.length m.1 zs/\TrRow w lo vT m.triangles/\(∀ g,vT.ownBlock=some g->g<L)/\lo<=L/\L<=w.1.size
theorem B7i (v:Value) (m:TMesh) (b:List Nat) (w:World) (af:Agg w v m b) (ok:∀ p∈m.1,A1b p=true) (a9:m.1.length<=144) (bc:m.triangles.length<=1000) :
  Calls prog 113 #[v] w (λe w'=>∃ L vP vT zs,e=.returned (.agg #[vP,vT])/\CMesh w' w.1.size L vP vT m zs/\Bw w w'):=by
 have cA:=A_ af;have bJ:=A_ ok;obtain⟨cv,E,cH,dj,bk,n1,bT,cs,rfl,rfl,az,aT⟩:=TMesh.agg af;have bB:=A_ az;have bD:=A_ aT;have c4:E<=144:=by rw[<-az.1];exact a9
 have c5:(E:Int)<=144:=oM;have aX:=A_ az.1;have bE:=A_ (by rw[<-aT.1];exact bc:n1<=1000);obtain⟨cb,cc,cd,ce,cf⟩:=info_parts D1n;clear az aT af ok a9 bc;go_enter func113,ntmps113;go_upto_region 1 with fail;refine Code.new2 λa5 al=>?_;have ag:=A_ al.b;have aj:=A_ al.k;have am:=A_ al.l;clear al;obtain⟨K,-⟩:=B_ aj (j:=1) rfl;simp at K;have aV:w.1.size<a5.1.size:=E_ aj;go_wp2_with fail;refine(E0v bk n1 bT m.triangles cs a5 (bD.below ag) bE).mono ?_;rintro _ aB ⟨vT,rfl,ay,ae⟩;have bm:=A_ (Below.next ag ae);have aY:=A_ (K_ aj ae);have Q1:=A_ (K_ am ae);have bO:=A_ (show ∀ g,vT.ownBlock=some g->w.1.size+1<g from λg S=>by have:=(World.ownsRow.lt ay.1 g S).1;have:=E_ am;omega);have ao:=A_ (show TrRow aB w.1.size vT m.triangles from⟨A9f ay.1 ag.size,ay.2⟩);obtain⟨Y,ab,b2,rfl,-,-⟩:=ao.sl;have aG:=A_ (by have:=ae.size;have:=E_ am;omega:w.1.size+1<aB.1.size);clear ay ae K aV;go_upto_region 2 with fail;refine Code.new λI W=>?_;have aD:=A_ (Below.next bm W.b);have aZ:=A_ (K_ aY W.b);have an:=A_ (K_ Q1 W.b);have bN:=A_ (ao.below W.b);have aE:=A_ W.k;have a2:=A_ (show ∀ g,(Value.slice Y m.triangles.length ab).ownBlock=some g->g<aB.1.size from λg S=>(World.ownsRow.lt ao.1 g S).2);clear ao aY Q1 W;clear ag aj am;generalize aB.1.size=u at *;have a1:=A_ (E_ aE);obtain⟨J,-⟩:=B_ aZ (j:=0) rfl;simp at J;have aV:w.1.size<I.1.size:=E_ aZ;go_wp2_with fail;go_loopg [13] E (λg s wr=>∃ (i:Nat) (A:Option Addr) (c:Nat) (zs:List Nat),i+g=E/\s=.int .i64 i/\Hid (wr.1[u]?=some (.cells #[.slice A i c,.slice Y m.triangles.length ab] 26))/\Hid (PV I.1.size 38 wr (.slice A i c) i (m.1.take i) zs)/\Hid (I.grownBy wr (some u)));case atStart=>exact⟨0,none,0,[],oM,rfl,aE.o,PV.nil _ _ _,A3p _ _⟩
 case round =>
  clear aE J aV;obtain⟨i,A,c,zs,b6,rfl,aa,Z,G⟩:=hrel;have aW:=A_ (aD.grown G aD.size (λk b7=>by injection b7 with h;subst h;have:=aG.o;omega));rcases Nat.lt_or_ge i E with a8|a8
  ·have c2:(i:Int)<E:=oM
   obtain⟨g,rfl⟩:∃ g,gk=g+1:=⟨gk - 1,oM⟩
   have b5:=A_ (by omega:i+1+g=E);have bo:=A_ (by unfold maxLen;omega:i+1<=maxLen);have bp:=A_ (by omega:(i+1)*112<=140737488355328);obtain⟨cG,dg,p,P1,dc,cM,p1,P2,dd,cN,p2,cE,de,cO,dh,cF,df,cP,di,rfl,cZ,aU,J,K,ap,aq,ar,au,a7⟩:=TPoint.elemA (bB.below aW) a8;have bI:=A_ (take_step aU);have bK:=A_ (bJ p (List.mem_of_getElem? aU));have bz:=A_ a7;clear b6 a7 aU;go_upto_region 5 with fail;refine Code.new λaL aH=>?_;have ah:=A_ aH.b;have H:=A_ aH.k;clear J K ap aq ar au aH;have aF:=A_ (K_ aa ah);obtain⟨O,-⟩:=B_ aF (j:=0) rfl;obtain⟨aw,-⟩:=B_ aF (j:=1) rfl;obtain⟨J,-⟩:=B_ H (j:=0) rfl;obtain⟨K,-⟩:=B_ H (j:=1) rfl;obtain⟨ap,-⟩:=B_ H (j:=2) rfl;obtain⟨aq,-⟩:=B_ H (j:=3) rfl;obtain⟨ar,-⟩:=B_ H (j:=4) rfl;obtain⟨au,-⟩:=B_ H (j:=5) rfl;simp at O aw J K ap aq ar au;have l1:wr.1.size<aL.1.size:=E_ H;have lx:u<aL.1.size:=E_ aF;refine W_ 5 kR kR kR kR kR ?_;simp only[List.take_succ_cons,List.take_zero,List.drop_succ_cons,List.drop_zero];iterate 3 refine C_ _ ?_
   refine D_ (MP.agg p) ?_ ?_;·intro aC bj T X D;obtain⟨c0,c1⟩:=F_ X;simp at D;refine G_ ?_;exact H_ (B5c _ p _ T ((bz.below ah).below X) bK)
   refine A1d (λbg=>MP.slbox (bg 3).cells 38) (by intro y bg h;simp[N_,M_]at h;simp[h]) ?_ ?_;·intro aC bj T X D;simp at D;obtain⟨cw,c8,cI,cQ,cx,c9,cJ,cR,cy,da,cK,cU,cz,db,cL,cV,bY,_,_,_,_,_⟩:=TPoint.agg D.1;refine⟨gD,.slice (some ⟨T.1.size,0,none⟩) 1 1,T.alloc (.cells (aC 3).cells 38),?_,Below.box _,[T.1.size],⟨T.1.size,rfl,rfl,heap_alloc_new T _⟩,sI⟩;rw[bY];go_simp
   intro aC bj wa X D (b3:Hid _);simp at D;have q1:=D.2.1;have cm:=D.2.2.2.1;have cn:=D.2.2.2.2;obtain⟨⟨a6,b4⟩,ba⟩:=cm;obtain⟨bq,ch,bU,aM,br,ci,bV,aN,bs,cj,bW,aO,bt,ck,bX,aP,bh,bi,k1,k2,bd,be⟩:=TPoint.agg a6;obtain⟨⟨b0,dl,z4,aR⟩,ca⟩:=cn;rw[bh]at aR;have dk:aC 1=.slice A i c:=q1.1.1;have bl:=A_ (TPoint.shut (x:=p) k1 k2 bd be);have bR:=A_ (show ∀ b∈aM++(aN++(aO++aP)),aL.1.size<=b from λb aQ=>(ba b (by rw[bi];exact aQ)).1);have bA:=A_ aR;have ai:=A_ (Below.next ah X);have aI:=A_ (Z.below ai);have ak:=A_ (K_ aa ai);have bH:=A_ (show I.1.size<=wa.1.size from Nat.le_trans G.size ai.size);have bS:=A_ (show ∀ b∈aM++(aN++(aO++aP)),I.1.size<=b/\(Value.slice A i c).ownBlock≠some b from λb aQ=>by have cW:=bR b aQ;have cX:=G.size;have cY:=ah.size;refine⟨oM,λh=>?_⟩;have:=(Z.lt b h).2;omega);have cB:u<I.1.size:=a1.o;clear D b3 a6 b4 ba k1 k2 bd be aR ca z4 bi q1 X J K ap aq ar au O aw l1 lx bh;obtain⟨O,bZ⟩:=B_ ak (j:=0) rfl;simp at O;have lx:u<wa.1.size:=E_ ak;go_wp2_with (at_builtin;refine D0k rfl _ _ 23 rfl 38 cb (.agg #[.bool false,.slice none 0 0,.slice none 0 0,.bool false,.slice none 0 0,.slice none 0 0]) 112 underlying23 cc cd ce cf rfl aI bH gD ⟨b0,0,none⟩ 1 [.bool p.x.1.1,.slice bq ch bU,.slice br ci bV,.bool p.y.1.1,.slice bs cj bW,.slice bt ck bX] p _ gD (A0a bA) bl bS bo bp ?_;intro ad ac ct ax aS b9;have b8:(Value.slice A i c).ownBlock≠some u:=(λh=>by have:=(aI.lt u h).1;omega);have aA:=(aS.block u (E_ ak) (λe=>b8 e.symm)).trans ak;obtain⟨bf,cu⟩:=B_ aA (j:=0) rfl;simp at bf;have cg:=E_ aA;have bF:=A_ aA;clear aA O bZ lx);have bG:=A_ (A3g (i:=0) (v:=.slice (some ⟨ad,0,none⟩) (i+1) ac) bF);have a3:∀ g,(Value.slice (some ⟨ad,0,none⟩) (i+1) ac).ownBlock=some g->g≠u:=λg S=>by have:=(ax.lt g S).1;omega
   have a4:u∉zs++(aM++(aN++(aO++aP))):=λh=>by have:=(ax.zlt u h).1;omega
   have bL:=A_ (ax.keep (A1f (i:=0) (v0:=.slice (some ⟨ad,0,none⟩) (i+1) ac) (A3p ct (some u))) (λh=>a3 u h rfl) a4);have bu:=A_ (A1f (i:=0) (v0:=.slice (some ⟨ad,0,none⟩) (i+1) ac) (B9u (B4p G ai) aS (λx af=>(aI.lt x af).1)));clear ax aS b9 a3 a4 bf cu cg;go_roundg g;case measure=>omega
   case rel=>exact⟨i+1,some ⟨ad,0,none⟩,ac,_,b5.o,gN,bG.o,by rw[bI.o];exact bL,bu⟩
  obtain rfl:i=E:=oM;have aJ:=A_ (show wr.1[w.1.size+1]?=some (.cells #[.slice none 0 0,.slice none 0 0] 26)from(G.block _ (E_ an) (by intro e;injection e with e;have:=aG.o;omega)).trans an.o);obtain⟨O,-⟩:=B_ aa (j:=0) rfl;obtain⟨aw,-⟩:=B_ aa (j:=1) rfl;obtain⟨r0,co⟩:=B_ aJ (j:=0) rfl;obtain⟨cp,cq⟩:=B_ aJ (j:=1) rfl;simp at O aw r0 cp co cq;have lx:u<wr.1.size:=E_ aa;have c7:w.1.size+1<wr.1.size:=E_ aJ;have c6:w.1.size+1≠u:=by have:=aG.o;omega
  go_wp2;have aK:=A_ (A1f (i:=1) (v0:=.slice Y m.triangles.length ab) (A1f (i:=0) (v0:=.slice A i c) (A3p wr (some (w.1.size+1)))));have bM:=A_ (Z.keep aK (λh=>by have:=(Z.lt _ h).1;have:=E_ an;omega) (λh=>by have:=(Z.o.zlt _ h).1;have:=E_ an;omega));have bQ:=A_ (((bN.kept (B4p G (Below.refl _ _)) (λh=>by have:=a2 _ h;omega))).kept aK.o (λh=>by have:=bO.o _ h;omega));have bn:=A_ ((aW.setCell (p:=⟨w.1.size+1,0,none⟩) (Nat.le_succ _) (.slice A i c)).setCell (p:=⟨w.1.size+1,1,none⟩) (Nat.le_succ _) (.slice Y m.triangles.length ab));have bP:=A_ (aK.size);have bv:=A_ (G.size);refine bodyPost_ret (v:=.agg #[.slice A i c,.slice Y m.triangles.length ab]) (by simp[results,results113,go_sem, *]) rfl ?_;refine⟨I.1.size,_,_,zs,rfl,⟨?_,bQ,λg S=>Nat.lt_trans (a2 g S) a1,aD.size,Nat.le_trans bv bP⟩,bn⟩;have h:=bM.o;rw[<-aX.o,List.take_length]at h;rw[aX.o]at h ⊢;exact h
section
theorem E7e {w:World} {base g n c:Nat} {zs:List Int} (h:w.ownsRow base 3 1 (.slice (some ⟨g,0,none⟩) n c) n (zs.map (.int .i64))) (hi:∀ x∈zs,I64 x):∃ bs,Sl w (some ⟨g,0,none⟩) n c zs bs/\∀ b∈bs,b=g:=by
 obtain⟨bs,G⟩:=A7v h hi;refine⟨bs,G,λb u=>?_⟩;obtain⟨ab,ac,ad,I,J⟩:=G;rcases Nat.eq_zero_or_pos n with D|D;·rw[I D]at u;cases u
 obtain⟨Z,af,H,K,rfl,X,ae,S⟩:=J D;cases K;have T:H.flatten=[]:=by
  rw[List.flatten_eq_nil_iff];intro l W;obtain⟨q,E⟩:=List.mem_iff_getElem?.1 W;have Y:q<zs.length:=by rw[<-X];exact(List.getElem?_eq_some_iff.1 E).1
  obtain⟨aa,_,O⟩:=S q _ l (List.getElem?_eq_getElem Y) E;exact O.2.1
 rw[T]at u;simpa using u
structure BiI (w3 wr:World) (L gO gM g8 n:Nat) (A:Option Addr) (k c:Nat) (ps:List TPoint) (zs:List Nat) (ms:List Int):Prop where
 bl:Bw w3 wr
 kO:wr.1[gO]?=some (.cells #[.slice A k c,.slice none 0 0] 26)
 k8:wr.1[g8]?=some (.cells #[.slice (some ⟨gM,0,none⟩) n n] 31)
 mr:wr.ownsRow w3.1.size 3 1 (.slice (some ⟨gM,0,none⟩) n n) n (ms.map (.int .i64))
 mi:∀ x∈ms,I64 x
 pv:PV L 38 wr (.slice A k c) k ps zs
 lo:w3.1.size<=L/\L<=wr.1.size/\w3.1.size<=gO/\w3.1.size<=gM/\w3.1.size<=g8
 dX:gO≠gM/\gO≠g8/\gM≠g8
 dB:∀ g,(Value.slice A k c).ownBlock=some g->g≠gO/\g≠gM/\g≠g8
 dZ:∀ b∈zs,b≠gO/\b≠gM/\b≠g8
section
variable {w3 wr wa:World} {L gO gM g8 n:Nat} {A:Option Addr} {k c:Nat} {ps:List TPoint} {zs:List Nat} {ms:List Int}
theorem BiI.below (h:BiI w3 wr L gO gM g8 n A k c ps zs ms) (hb:Bw wr wa):BiI w3 wa L gO gM g8 n A k c ps zs ms :=
 ⟨Below.next h.bl hb,K_ h.kO hb,K_ h.k8 hb,I_ h.mr hb,h.mi,h.pv.below hb,⟨h.lo.1,Nat.le_trans h.lo.2.1 hb.size,h.lo.2.2⟩,h.dX,h.dB,h.dZ⟩
theorem BiI.lims (h:BiI w3 wr L gO gM g8 n A k c ps zs ms):gO<wr.1.size/\gM<wr.1.size/\g8<wr.1.size/\ms.length=n :=
 ⟨E_ h.kO,(World.ownsRow.lt h.mr _ rfl).2,E_ h.k8,by have:=h.mr.1;simpa using this⟩
theorem BiI.mcell (h:BiI w3 wr L gO gM g8 n A k c ps zs ms) {i:Nat} (hi:i<n):∃ x,wr.cell? ⟨gM,i,none⟩=some (.int .i64 x)/\wr.frozen? ⟨gM,i,none⟩=false:=by
 have b:i<ms.length:=by rw[h.lims.2.2.2];exact hi
 refine⟨ms[i],?_,World.ownsRow.frozenAt h.mr i⟩;rw[World.ownsRow.cellAt h.mr i oM,List.getElem?_map,List.getElem?_eq_getElem b];rfl
theorem BiI.setM (h:BiI w3 wr L gO gM g8 n A k c ps zs ms) (i:Nat) {x:Int} (I:I64 x):BiI w3 (wr.setCell ⟨gM,i,none⟩ (.int .i64 x)) L gO gM g8 n A k c ps zs (ms.set i x):=by
 have D:wr.grownBy (wr.setCell ⟨gM,i,none⟩ (.int .i64 x)) (some gM):=A1f (A3p wr _);have G:∀ {b:Nat} {o:Obj},b≠gM->wr.1[b]?=some o->(wr.setCell ⟨gM,i,none⟩ (.int .i64 x)).1[b]?=some o:=λH E=>(D.block _ (E_ E) (by intro e;injection e with e;exact H e)).trans E;refine⟨h.bl.setCell (p:=⟨gM,i,none⟩) h.lo.2.2.2.1 _,G h.dX.1 h.kO,G (Ne.symm h.dX.2.2) h.k8,?_,?_,h.pv.keep D (λe=>(h.dB _ e).2.1 rfl) (λe=>(h.dZ _ e).2.1 rfl),⟨h.lo.1,by simpa using h.lo.2.1,h.lo.2.2⟩,h.dX,h.dB,h.dZ⟩;·rw[List.map_set];exact(World.ownsRow.stored h.mr i _).1
 intro y u;rcases List.mem_or_eq_of_mem_set u with u|rfl
 ·exact h.mi y u
 exact I
theorem BiI.pushP (h:BiI w3 wr L gO gM g8 n A k c ps zs ms) {E G:Nat} {q:TPoint} {J:List Nat} (Z:PV L 38 wa (.slice (some ⟨E,0,none⟩) (k+1) G) (k+1) (ps++[q]) (zs++J)) (u:wr.grownBy wa (Value.slice A k c).ownBlock) (D:E3t wr (Value.slice A k c).ownBlock (some E)) (ab:∀ b∈J,b≠gO/\b≠gM/\b≠g8) :
  BiI w3 (wa.setCell ⟨gO,0,none⟩ (.slice (some ⟨E,0,none⟩) (k+1) G)) L gO gM g8 n (some ⟨E,0,none⟩) (k+1) G (ps++[q]) (zs++J) ms:=by
 obtain⟨l1,l2,ad,ae⟩:=h.lims;have T:∀ {b:Nat} {o:Obj},(∀ g,(Value.slice A k c).ownBlock=some g->g≠b)->wr.1[b]?=some o->wa.1[b]?=some o:=λY D=>(u.block _ (E_ D) (λe=>Y _ e.symm rfl)).trans D;have ac:=T (λg u=>(h.dB g u).1) h.kO;have S:=T (λg u=>(h.dB g u).2.2) h.k8
 have K:∀ g,(Value.slice (some ⟨E,0,none⟩) (k+1) G).ownBlock=some g->g≠gO/\g≠gM/\g≠g8:=λg e=>by
  rcases D with D|D;·exact h.dB g (by rw[<-D];exact e)
  have:=D g e;omega
 have O:∀ b∈zs++J,b≠gO/\b≠gM/\b≠g8:=λb H=>by
  rcases List.mem_append.1 H with H|H;·exact h.dZ b H
  exact ab b H
 have I:wa.grownBy (wa.setCell ⟨gO,0,none⟩ (.slice (some ⟨E,0,none⟩) (k+1) G)) (some gO):=A1f (A3p wa _);have W:Bw w3 wa:=h.bl.grown u h.bl.size (λx aa=>Nat.le_trans h.lo.1 (h.pv.lt x aa).1);refine⟨W.setCell (p:=⟨gO,0,none⟩) h.lo.2.2.1 _,A3g ac,?_,?_,h.mi,Z.keep I (λe=>(K _ e).1 rfl) (λe=>(O _ e).1 rfl),⟨h.lo.1,Nat.le_trans h.lo.2.1 (Nat.le_trans u.size I.size),h.lo.2.2⟩,h.dX,K,O⟩;·exact(I.block _ (E_ S) (by intro e;injection e with e;exact h.dX.2.1 e.symm)).trans S
 ·exact(h.mr.kept u (by
   cases X:(Value.slice A k c).ownBlock with
   |none=>exact .inr (λe=>by cases e)
   |some g=>exact .inr (λe=>(h.dB g X).2.1 (by injection e with e;exact e.symm)))).kept I (.inr (λe=>by injection e with e;exact h.dX.1 e.symm))
end
end
end Go.Proofs.YtbhemnidcleaiaaGreat.X
