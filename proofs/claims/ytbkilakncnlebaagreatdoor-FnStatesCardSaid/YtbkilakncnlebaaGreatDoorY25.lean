/- A part of the proof. -/
import Derived.Test.YtbkilakncnlebaaGreatDoorY24
import Derived.LoopN
set_option linter.constructorNameAsVariable false
set_option maxHeartbeats 16000000
set_option maxRecDepth 10000
open Array renaming getElem?_eq_getElem→MW
open Bool renaming false→AF,true→AD
open Go renaming Addr→AH,Calls→AR,TypeId→BS,Value→AJ,World→J,bodyPost_ret→BI,heap_alloc_new→CF,info_parts→DW,lt_of_block→GU,results→BO,rounds_succ→FH,wp_loop_rounds→IG
open Go.IntKind renaming i64→K
open Go.Obj renaming cells→AK
open Go.RowKit.Below renaming heap_setCell→DQ,refl→CG
open Go.Value renaming agg→AM,bool→AC,int→N,slice→S
open Go.World renaming size_alloc→EW
open Go.XB.Below renaming box→AV,next→AI
open Go.XB.MP renaming agg→BP
open Go.XB.TMatrix renaming agg→NQ
open Go.XB.TRat renaming agg→BK
open Int renaming lt_or_le→EO,toNat_natCast→OE
open List renaming dropLast→DJ,drop_succ_cons→GG,drop_zero→EH,getElem?_eq_getElem→CV,getElem?_eq_some_iff→CQ,getLast→DK,length→DI,mem_append→CO,mem_cons→EM,mem_of_getElem?→CH,replicate→CJ,take_succ_cons→GE,take_zero→ET
open Nat renaming le_refl→BH,le_trans→BM,lt_of_lt_of_le→JB,lt_or_ge→BN
open Option renaming none→I,some→QL
namespace Go
open Go.RowKit Go.XB
def B7r (w:J):List Obj->J
 | []=>w
 |o::os=>B7r (w.alloc o) os
theorem B3z:∀ (os:List Obj) (w:J),Bw w (B7r w os)
 | [],_=>CG _ _
 |o::os,w=>AI (AV o) (B3z os (w.alloc o))
theorem C2o:∀ (os:List Obj) (w:J),(B7r w os).1.size=w.1.size+os.length
 | [],w=>rfl
 |o::os,w=>by rw[B7r,C2o os,EW,List.length_cons];omega
theorem A1y:∀ (os:List Obj) (w:J) (k:Nat) (o:Obj),os[k]?=QL o->(B7r w os).1[w.1.size+k]?=QL o
 | [],w,k,o,h=>by simp at h
 |p::os,w,0,o,h=>by
  simp at h;subst h
  rw[B7r,Nat.add_zero,(B3z os (w.alloc p)).block w.1.size sI]
  exact CF w p
 |p::os,w,k+1,o,h=>by
  have:=A1y os (w.alloc p) k o (by simpa using h)
  rw[EW]at this
  rw[B7r,show w.1.size+(k+1)=w.1.size+1+k by omega]
  exact this
theorem A8l {P:Program} {w:J} {O:Array Oper} {rest:List Oper} {o:Oper} {a:Act} {Q:Exit->Act->J->Prop} (Y:o.guard=I) (s x:Operand) (t:BS)
  (ad:o.op=.call { callee:=.builtin .append,args:=#[s,x],argTypes:=#[t,t] })
  (e:BS) (i:TypeInfo) (z:AJ) (size E:Nat) (ah:P.underlying t=QL (.slice e)) (hi:P.info? e=QL i) (aj:i.zero=QL z)
  (af:i.size=size) (X:i.bytes=E) (ak:z.cells.size=size) (ag:0<size) (ae:a.eval s=S I 0 0)
  (D:AH) (c:Nat) (b:List AJ) (ai:a.eval x=S (QL D) 1 c) (an:b.length=size) (ab:∀ j u,b[j]?=QL u->w.cell? (D.add j)=QL u) (T:∀ u∈b,u.oneCell'=AD)
  (am:E<=140737488355328)
  (h:∀ g' cap' w',w'.ownsRow w.1.size e size (S (QL ⟨g',0,I⟩) 1 cap') 1 b->Bw w w'->w.1.size<=g'->wpList P O Q rest (a.put o.dst (S (QL ⟨g',0,I⟩) 1 cap')) w'):wpList P O Q (o::rest) a w:=by
 refine wpList_append_own w Y s x t ad w.1.size e i z size E ah hi aj af X ak ag (S I 0 0) 0 [] ae (World.ownsRow_nil w _ e size) D 1 c b ai oS ab T (by unfold maxLen;omega) oS (BH _) ?_;intro ap w' G Z ac;rw[List.nil_append,Nat.zero_add]at G;rcases G.2 with⟨H,_⟩|⟨g,cap,al,H,W,ao⟩
 ·exact absurd (ac.1 H).2 dE
 subst H;exact h g cap w' G ((CG w.1.size w).grown Z (BH _) (by intro k aa;cases aa)) W
end Go
namespace Go.Proofs.YtbkilakncnlebaaGreatDoor.X
open Go.RowKit Go.XB Go.XN Proofs.Tryz
def B4o:Option TRat->TMatrix
 |none=>⟨[]⟩
 |some r=>⟨[⟨[0],[r]⟩]⟩
def B7m:Option TRat->List (List TRat)
 |none=>[]
 |some r=>[[r]]
def B6w:Option TRat->Nat
 |none=>0
 |some _=>1
def Ok1:Option TRat->Prop
 |none=>True
 |some r=>J_ r=AD/\R_ r≠0
def D1u (w:J) (o:Option TRat) (e:Ending) (w':J):Prop:=∃ v s,e=.returned (.tuple #[v,AC AD])/\Agg w' v (B4o o) s/\(∀ b∈s,w.1.size<=b)/\Bw w w'
def D9k (w:J) (o:Option TRat) (e:Ending) (w':J):Prop:=∃ v s,e=.returned v/\Agg w' v (B4o o) s/\(∀ b∈s,w.1.size<=b)/\Bw w w'
theorem E5a (w:J):Agg w (AM #[S I 0 0]) (B4o I) []:=TMatrix.mkAgg (x:=B4o I) (Sl.nil w)
theorem A0u {w:J} {b j:Nat} {cs:Array AJ} {t:BS} {v:AJ} (h:w.1[b]?=QL (AK cs t)):(w.setCell ⟨b,j,I⟩ v).1[b]?=QL (AK (cs.setIfInBounds j v) t):=by
 have u:=GU h;have D:w.1[b]=AK cs t (0,0):=by simpa[MW u]using h
 show(w.1.modify b _)[b]?=_;rw[MW (by simpa using u),Array.getElem_modify_self,D];rfl
theorem B5e {α:Type} [Dat α] {b:J} {base g cap:Nat} {e:BS} {cs:List AJ} {x:α} {u:List Nat} (h:b.ownsRow base e (Dat.sz α) (S (QL ⟨g,0,I⟩) 1 cap) 1 cs) (G:Dat.at_ b cs x u):Sl b (QL ⟨g,0,I⟩) 1 cap [x] (g::u):=by
 have T:=Dat.len G
 have O:Filled b cs [x] [u]:=⟨rfl,by simp[T],λk y gs D H=>by
  obtain rfl:k=0:=by have:=(CQ.1 D).1;simp at this;exact this
  simp at D H;subst D;subst H;rw[Nat.zero_mul,EH,List.take_of_length_le oS];exact G⟩
 obtain⟨A,c,Z,Y,X,W⟩:=O.sl (α:=α) h rfl;cases Y;rcases W with⟨aa,_⟩|⟨g',E,rfl,_⟩;·omega
 simp[Value.ownBlock]at E;subst E;simpa using X
attribute [local go_sem] L_ Go.XB.opAt N_ M_ Region.wanted yielded
attribute [local simp] N_ M_ MP.eq MP.agg MP.aggS MP.sl MP.slbox A0r
theorem D2m (A:Option AH) (c:Nat) (w:J):AR prog 286 #[S A 0 c] w (D1u w I):=by
 go_enter func286,ntmps286;go_wp2_with fail;refine IG 1 ?_;rw[FH];go_wp2;refine BI (v:=.tuple #[AM #[S I 0 0],AC AD]) (by simp[BO,results286,go_sem, *]) rfl ?_;exact⟨_,[],rfl,E5a _,(λh b=>by simp at b),AI (AV _) (AV _)⟩
theorem E8o:(prog.info? 334).map (λi=>(i.zero,i.size,i.bytes))=QL (QL (AM #[S I 0 0,S I 0 0]),2,48):=kR
theorem D3h (A:Option AH) (c:Nat) (r:TRat) (bs:List Nat) (w:J) (aT:Sl w A 1 c [[r]] bs) (ok:J_ r=AD) (b3:R_ r≠0):AR prog 286 #[S A 1 c] w (D1u w (QL r)):=by
 have cK:=A_ aT;have a8:=A_ (ratOkB_iff.1 ok);have aL:=A_ ok;have dd:((A2v r:Int)==0)=AF:=by
  unfold A2v sgn;simp;split;·omega
  split<;>omega
 obtain⟨bO,dg,r0,cH,n1,cL,cW,rfl,c1,ao,b6,aS,_⟩:=Sl.elemS aT (by decide:0<1);simp at ao;subst ao;obtain rfl:1=n1:=by rw[<-aS.1];rfl
 obtain⟨a9,dh,x,aH,aU,aP,cO,aI,aV,aQ,cP,rfl,c4,bj,bT,bU,bV,bc⟩:=TRat.elemA aS (by decide:0<1);simp at bj;subst bj;simp at b6 bT bU bV;have c2:bO<w.1.size+1:=oS;have cZ:a9<w.1.size+1:=oS;have c0:a9<w.1.size+1+1:=oS;have aJ:=A_ bc;obtain⟨cn,bW,bY,bZ,b0⟩:=DW A6b;obtain⟨i2,b9,cj,ck,cm⟩:=DW B2r;obtain⟨co,cp,cq,cs,ct⟩:=DW E8o;clear aT ok b3 aS bc;go_enter func286,ntmps286;go_wp2_with fail;refine IG 2 ?_;rw[FH];go_wp2_with fail;refine IG 2 ?_;rw[FH];go_wp2_with fail;obtain⟨O,Z⟩:∃ O,O=((((w.alloc (AK #[S I 0 0] 225)).alloc (AK #[S I 0 0] 225)).alloc (AK #[S I 0 0,S I 0 0] 334)).alloc (AK #[AC r.1.1,S aH aU aP,S aI aV aQ] 35)):=⟨_,rfl⟩
 have aK:=A_ (by rw[Z];exact AI (AI (AI (AV _) (AV _)) (AV _)) (AV _):Bw w O);have db:O.1.size=w.1.size+1+1+1+1:=by rw[Z];exact C2o [_,_,_,_] w
 have bG:=A_ (by rw[Z];exact A1y [_,_,_,_] w 0 _ rfl:O.1[w.1.size]?=QL (AK #[S I 0 0] 225));have bH:=A_ (by rw[Z];exact A1y [_,_,_,_] w 1 _ rfl:O.1[w.1.size+1]?=QL (AK #[S I 0 0] 225));have aN:=A_ (by rw[Z];exact A1y [_,_,_,_] w 2 _ rfl:O.1[w.1.size+1+1]?=QL (AK #[S I 0 0,S I 0 0] 334));have ax:=A_ (by rw[Z];exact A1y [_,_,_,_] w 3 _ rfl:O.1[w.1.size+1+1+1]?=QL (AK #[AC r.1.1,S aH aU aP,S aI aV aQ] 35));rw[<-Z];clear Z;have C:=A2p _ r _ O (aJ.below aK);rw[C6v aL.o]at C;refine C.mono ?_;clear C;rintro _ bp ⟨rfl,ai⟩;have a3:=A_ ai;obtain⟨aW,aX⟩:=B_ (O_ ax ai) (j:=0) rfl;obtain⟨aY,aZ⟩:=B_ (O_ ax ai) (j:=1) rfl;obtain⟨a1,a2⟩:=B_ (O_ ax ai) (j:=2) rfl;have cg:w.1.size+1+1+1<bp.1.size:=by have:=ai.size;omega
 clear ai;go_wp2_with fail;refine(A7y _ r _ bp (aJ.below (AI aK a3)) a8.mag (A4h a8.1)).mono ?_;rintro _ ae ⟨rfl,bd⟩;have W:=A_ (AI a3 bd);have dc:=W.size;obtain⟨aj,ak⟩:=B_ (O_ aN W) (j:=0) rfl;obtain⟨ap,aq⟩:=B_ (O_ aN W) (j:=1) rfl;have ca:w.1.size+1+1<ae.1.size:=oS;clear aW aX aY aZ a1 a2 cg bd;go_wp2_with (at_builtin;refine A8l rfl _ _ 31 rfl 3 cn (N K 0) 1 8 underlying31 bW bY bZ b0 rfl dE gD ⟨ae.1.size,0,I⟩ 1 [N K 0] gD rfl (A0a (CF ae _)) (by simp[Value.oneCell']) dE ?_;intro D T bq bg aC be;have cF:=(aC.cell (p:=⟨w.1.size+1+1,0,I⟩) oR).trans ((AV (w:=ae) (AK #[N K 0] 3)).cell (p:=⟨w.1.size+1+1,0,I⟩) oR |>.trans aj);have cG:=(aC.frozen (p:=⟨w.1.size+1+1,0,I⟩) oR).trans ((AV (w:=ae) (AK #[N K 0] 3)).frozen (p:=⟨w.1.size+1+1,0,I⟩) oR |>.trans ak));obtain⟨E,aa⟩:∃ E,E=bq.setCell ⟨w.1.size+1+1,0,I⟩ (S (QL ⟨D,0,I⟩) 1 T):=⟨_,rfl⟩
 have al:=A_ (show Bw ae bq from AI (AV _) aC);have c7:ae.1.size<D:=by simp at be;omega
 have aw:=A_ (by rw[aa];exact A0u (O_ (O_ aN W) al):E.1[w.1.size+1+1]?=QL (AK #[S (QL ⟨D,0,I⟩) 1 T,S I 0 0] 334));have bE:=A_ (by rw[aa];exact(DQ _ _ _ _ oR).trans (O_ (O_ bG.o W.o) al.o):E.1[w.1.size]?=QL (AK #[S I 0 0] 225));have bF:=A_ (by rw[aa];exact(DQ _ _ _ _ sI).trans (O_ (O_ bH.o W.o) al.o):E.1[w.1.size+1]?=QL (AK #[S I 0 0] 225));have X:=A_ (by rw[aa];exact(DQ _ _ _ _ sI).trans (O_ (O_ ax.o W.o) al.o):E.1[w.1.size+1+1+1]?=QL (AK #[AC r.1.1,S aH aU aP,S aI aV aQ] 35));have bK:=A_ (show Sl E (QL ⟨D,0,I⟩) 1 T [(0:Int)] [D] by rw[aa];exact(B5e (α:=Int) bg ⟨rfl,rfl,oO⟩).keep (λh b=>DQ _ _ _ _ (by simp at b;subst b;simp;omega)));have a4:=A_ (by rw[aa];exact(AI (AI aK.o W.o) al.o).setCell (p:=⟨w.1.size+1+1,0,I⟩) oR _:Bw w E);have ch:w.1.size+1+1+1<E.1.size:=GU X;have ci:w.1.size+1+1<E.1.size:=oS;rw[<-aa];clear aa bg aC be cF cG aj ak ap aq ca;obtain⟨aj,ak⟩:=B_ aw (j:=0) rfl;obtain⟨ap,aq⟩:=B_ aw (j:=1) rfl;obtain⟨aW,aX⟩:=B_ X (j:=0) rfl;obtain⟨aY,aZ⟩:=B_ X (j:=1) rfl;obtain⟨a1,a2⟩:=B_ X (j:=2) rfl;refine W_ 5 kR kR kR kR kR ?_;simp only[GE,ET,GG,EH];iterate 3 refine C_ _ ?_
 refine D_ (BP r) ?_ ?_;·intro aE aF af ag H;obtain⟨c5,c6⟩:=F_ ag;simp at H;refine G_ ?_;exact H_ (A3n _ _ _ af (aJ.below (AI a4 ag)) (BM (B1b aL).1 dE) (BM (B1b aL).2 dE))
 refine A1d (λbu=>MP.slbox (bu 3).cells 35) (by intro y bu ba;simp[N_,M_]at ba;simp[ba]) ?_ ?_;·intro aE aF af ag H;simp at H;obtain⟨cI,de,cM,cQ,cJ,df,cN,cV,bR,_,_,_⟩:=BK H.1;refine⟨gD,S (QL ⟨af.1.size,0,I⟩) 1 1,af.alloc (AK (aE 3).cells 35),?_,AV _,[af.1.size],⟨af.1.size,rfl,rfl,CF af _⟩,sI⟩;rw[bR];go_simp
 intro aE aF wa ag H b5;clear b5;simp at H;have q1:=H.2.1;have cw:=H.2.2.2.1;have cx:=H.2.2.2.2;obtain⟨⟨aA,b7⟩,ao⟩:=cw;obtain⟨bv,cu,bP,cX,bz,cv,bQ,cY,bS,cD,m1,m2⟩:=BK aA;obtain⟨⟨bX,cU,cE,aR⟩,cc⟩:=cx;rw[bS]at aR aA;have aG:=A_ (A3x aA);have aM:=A_ (show ∀ h∈aF 3,E.1.size<=h from λh b=>(ao h b).1);have au:=A_ ag;have bD:=A_ aR;have cR:aE 1=S I 0 0:=q1.1.1;generalize aF 3=aD at *;clear H aA b7 ao cD m1 m2 aR cc cE q1 ag;obtain⟨bl,bm⟩:=B_ (O_ aw au) (j:=1) rfl;have cb:w.1.size+1+1<wa.1.size:=by have:=au.size;omega
 go_wp2_with (at_builtin;refine A8l rfl _ _ 27 rfl 35 i2 (AM #[AC AF,S I 0 0,S I 0 0]) 3 56 underlying27 b9 cj ck cm rfl dE gD ⟨bX,0,I⟩ 1 [AC r.1.1,S bv cu bP,S bz cv bQ] gD rfl (A0a bD) (Dat.one aG) dE ?_;intro G ac bn bi an b8;have cA:=(an.cell (p:=⟨w.1.size+1+1,1,I⟩) oR).trans bl;have cB:=(an.frozen (p:=⟨w.1.size+1+1,1,I⟩) oR).trans bm);obtain⟨u,Y⟩:∃ u,u=bn.setCell ⟨w.1.size+1+1,1,I⟩ (S (QL ⟨G,0,I⟩) 1 ac):=⟨_,rfl⟩
 have am:=A_ (show Bw E bn from AI au an);have c9:E.1.size<=G:=by have:=au.size;omega
 have ay:=A_ (by rw[Y];exact A0u (O_ aw am):u.1[w.1.size+1+1]?=QL (AK #[S (QL ⟨D,0,I⟩) 1 T,S (QL ⟨G,0,I⟩) 1 ac] 334));have bI:=A_ (by rw[Y];exact(DQ _ _ _ _ oR).trans (O_ bE.o am.o):u.1[w.1.size]?=QL (AK #[S I 0 0] 225));have a6:=A_ (by rw[Y];exact(DQ _ _ _ _ sI).trans (O_ bF.o am.o):u.1[w.1.size+1]?=QL (AK #[S I 0 0] 225));have bN:=A_ (show Sl u (QL ⟨G,0,I⟩) 1 ac [r] (G::aD) by
  rw[Y]
  exact(B5e (α:=TRat) bi (Dat.keep aG (λh b=>an.block h (Dat.lt aG h b)))).keep (λh b=>DQ _ _ _ _ (by
   simp;rcases EM.1 b with rfl|b
   ·omega
   have:=aM h b;omega)))
 have bL:=A_ (show Sl u (QL ⟨D,0,I⟩) 1 T [(0:Int)] [D] by rw[Y];exact(bK.o.below am.o).keep (λh b=>DQ _ _ _ _ (by simp at b;subst b;simp;omega)));have aO:=A_ (show Dat.at_ u [S (QL ⟨D,0,I⟩) 1 T,S (QL ⟨G,0,I⟩) 1 ac] (⟨[0],[r]⟩:TRow) ([D]++(G::aD))from TRow.shut (x:=⟨[0],[r]⟩) bL bN);have bA:=A_ (by rw[Y];exact(AI a4.o am.o).setCell (p:=⟨w.1.size+1+1,1,I⟩) oR _:Bw w u);have cd:w.1.size+1+1<u.1.size:=GU ay;have ce:w.1.size+1<u.1.size:=oS;have cf:w.1.size<u.1.size:=oS;rw[<-Y];clear Y bi an b8 cA cB bl bm aj ak ap aq aW aX aY aZ a1 a2 ch ci cb;obtain⟨aj,ak⟩:=B_ ay (j:=0) rfl;obtain⟨ap,aq⟩:=B_ ay (j:=1) rfl;obtain⟨br,bt⟩:=B_ a6 (j:=0) rfl;rw[FH];go_wp2_with (at_builtin;refine A8l rfl _ _ 223 rfl 334 co (AM #[S I 0 0,S I 0 0]) 2 48 underlying223 cp cq cs ct rfl dE gD ⟨u.1.size,0,I⟩ 1 [S (QL ⟨D,0,I⟩) 1 T,S (QL ⟨G,0,I⟩) 1 ac] gD rfl (A0a (CF u _)) (Dat.one aO) dE ?_;intro ad az bo bh aB bf;have cy:=(aB.cell (p:=⟨w.1.size+1,0,I⟩) oR).trans (((AV (w:=u) (AK #[S (QL ⟨D,0,I⟩) 1 T,S (QL ⟨G,0,I⟩) 1 ac] 334)).cell (p:=⟨w.1.size+1,0,I⟩) oR).trans br);have cz:=(aB.frozen (p:=⟨w.1.size+1,0,I⟩) oR).trans (((AV (w:=u) (AK #[S (QL ⟨D,0,I⟩) 1 T,S (QL ⟨G,0,I⟩) 1 ac] 334)).frozen (p:=⟨w.1.size+1,0,I⟩) oR).trans bt));obtain⟨ab,ah⟩:∃ ab,ab=bo.setCell ⟨w.1.size+1,0,I⟩ (S (QL ⟨ad,0,I⟩) 1 az):=⟨_,rfl⟩
 have ar:=A_ (show Bw u bo from AI (AV _) aB);have c8:u.1.size<ad:=by simp at bf;omega
 have bJ:=A_ (by rw[ah];exact(DQ _ _ _ _ sI).trans (O_ bI.o ar.o):ab.1[w.1.size]?=QL (AK #[S I 0 0] 225));have a7:=A_ (by rw[ah];exact A0u (O_ a6 ar):ab.1[w.1.size+1]?=QL (AK #[S (QL ⟨ad,0,I⟩) 1 az] 225));have bM:=A_ (show Sl ab (QL ⟨ad,0,I⟩) 1 az [(⟨[0],[r]⟩:TRow)] (ad::([D]++(G::aD))) by
  rw[ah]
  exact(B5e (α:=TRow) bh (Dat.keep aO (λh b=>ar.block h (Dat.lt aO h b)))).keep (λh b=>DQ _ _ _ _ (by
   simp;rcases EM.1 b with rfl|b
   ·omega
   rcases CO.1 b with b|b;·simp at b;subst b;omega
   rcases EM.1 b with rfl|b;·have:=GU X;omega
   have b4:=aM h b;have:=GU X;omega)))
 have bB:=A_ (by rw[ah];exact(AI bA.o ar.o).setCell (p:=⟨w.1.size+1,0,I⟩) sI _:Bw w ab);have da:w.1.size+1<ab.1.size:=GU a7;rw[<-ah];clear ah bh aB bf cy cz aj ak ap aq br bt cd ce cf;obtain⟨dk,dl⟩:=B_ a7 (j:=0) rfl;obtain⟨di,dj⟩:=B_ bJ (j:=0) rfl;rw[FH];go_wp2;refine BI (v:=.tuple #[AM #[S (QL ⟨ad,0,I⟩) 1 az],AC AD]) (by simp[BO,results286,go_sem, *]) rfl ?_
 have a5:=A_ (show ∀ h∈ad::([D]++(G::aD)),w.1.size<h from λh b=>by
   rcases EM.1 b with rfl|b;·have:=GU ay;omega
   rcases CO.1 b with b|b;·simp at b;subst b;omega
   rcases EM.1 b with rfl|b;·have:=GU X;omega
   have b4:=aM h b;have:=GU X;omega)
 exact⟨_,_,rfl,TMatrix.mkAgg (x:=B4o (QL r)) (bM.keep (λh b=>DQ _ _ _ _ (by have:=a5 h b;simp;omega))),(λh b=>Nat.le_of_lt (a5.o h b)),bB.o.setCell (p:=⟨w.1.size,0,I⟩) sI _⟩
section
def at3 (a b c:Int):Nat->Int
 |0=>a
 |1=>b
 |_=>c
theorem ixs (a b c:Int) (i:Nat) (h:i<3) (w:J):Sem.run prog (Instr.index 174 (AM #[N K a,N K b,N K c]) (N K (i:Int))) w=.ok (N K (at3 a b c i)) w:=by
 obtain rfl|rfl|rfl:i=0\/i=1\/i=2:=oS;·exact ix0 a b c w
 ·exact ix1 a b c w
 exact ix2 a b c w
theorem D6z {n:Nat} {t:TTri} (h:A5v n t) (i:Nat):0<=at3 t.a t.b t.c i/\at3 t.a t.b t.c i<n:=by
 obtain⟨⟨_,_⟩,⟨_,_⟩,⟨_,_⟩⟩:=h;match i with
 |0=>exact⟨by assumption,by assumption⟩
 |1=>exact⟨by assumption,by assumption⟩
 |_+2=>exact⟨by assumption,by assumption⟩
def B2c (rows:List Int) (p q:Int) (x:TRat) (M:List (List TRat)):List (List TRat) :=
 bif decide (0<=rows.getD p.toNat (-1))&&decide (0<=rows.getD q.toNat (-1))then
  M.set (rows.getD p.toNat (-1)).toNat ((M.getD (rows.getD p.toNat (-1)).toNat []).set (rows.getD q.toNat (-1)).toNat (A0k ((M.getD (rows.getD p.toNat (-1)).toNat []).getD (rows.getD q.toNat (-1)).toNat A0h) x))
 else M
def A6j (rows:List Int) (t:TTri) (L:List (List TRat)) (i:Nat) (M:List (List TRat)):Nat->List (List TRat)
 |0=>M
 |j+1=>B2c rows (at3 t.a t.b t.c i) (at3 t.a t.b t.c j) ((L.getD i []).getD j A0h) (A6j rows t L i M j)
def A7x (rows:List Int) (t:TTri) (L:List (List TRat)) (M:List (List TRat)):Nat->List (List TRat)
 |0=>M
 |i+1=>A6j rows t L i (A7x rows t L M i) 3
def A6h (m:TMesh) (rows:List Int) (n:Nat) (loc:Nat->List (List TRat)):Nat->List (List TRat)
 |0=>CJ n (CJ n (U_ 0))
 |k+1=>A7x rows (m.triangles.getD k ⟨0,0,0,0,0⟩) (loc k) (A6h m rows n loc k) 3
def C0y (m:TMesh) (loc:Nat->List (List TRat)):List (List TRat):=A6h m (B1i m) (A3f m AF).length loc m.triangles.length
theorem B4c {b:List Int} {p q:Int} {x:TRat} {M:List (List TRat)} (h:b.getD p.toNat (-1)<0\/b.getD q.toNat (-1)<0):B2c b p q x M=M:=by
 unfold B2c;have e:(decide (0<=b.getD p.toNat (-1))&&decide (0<=b.getD q.toNat (-1)))=AF:=by
  rcases h with h|h;·rw[decide_eq_false oS];rfl
  rw[decide_eq_false (p:=0<=b.getD q.toNat (-1)) oS,Bool.and_false]
 rw[e];rfl
theorem C3d {rows:List Int} {t:TTri} {L:List (List TRat)} {i:Nat} {M:List (List TRat)} (h:rows.getD (at3 t.a t.b t.c i).toNat (-1)<0):∀ j,A6j rows t L i M j=M
 |0=>rfl
 |j+1=>by rw[A6j,C3d h j,B4c (.inl h)]
theorem C2y {rows:List Int} {t:TTri} {L:List (List TRat)} {M:List (List TRat)} (h:∀ i,rows.getD (at3 t.a t.b t.c i).toNat (-1)<0):∀ i,A7x rows t L M i=M
 |0=>rfl
 |i+1=>by rw[A7x,C2y h i,C3d (h i)]
theorem C1e {m:TMesh}:∀ x∈B1i m,-1<=x/\x<(A3f m AF).length:=λx h=>C0v _ _ _ x h
theorem C0l (m:TMesh):(B1i m).length=m.1.length:=B8c _ _ _
theorem E3v {w:J} {A:Option AH} {n c:Nat} {M:List (List TRat)} {o:Option TRat} {bs:List Nat} (h:Sl w A n c M bs) (b:M=B7m o):n=B6w o:=by
 have:=h.1;cases o<;>simp_all [B7m,B6w]
theorem D4j (A:Option AH) (n c:Nat) (M:List (List TRat)) (bs:List Nat) (o:Option TRat) (w:J) (h:Sl w A n c M bs) (b:M=B7m o) (ok:Ok1 o):AR prog 286 #[S A n c] w (D1u w o):=by
 obtain rfl:=E3v h b;subst b;cases o with
 |none=>exact D2m A c w
 |some r=>exact D3h A c r bs w h ok.1 ok.2
theorem Sl.intAt {w:J} {g n c:Nat} {xs:List Int} {bs:List Nat} (h:Sl w (QL ⟨g,0,I⟩) n c xs bs) {k:Nat} {x:Int} (b:xs[k]?=QL x):w.cell? ⟨g,k,I⟩=QL (N K x)/\g<w.1.size:=by
 have G:k<n:=by rw[<-h.1];exact(CQ.1 b).1
 obtain⟨H,O,y,e,E,u,_,D⟩:=Sl.getInt h G;rw[b]at u;injection e with e;injection e with e1 e2 _;subst e1;subst e2;rw[Option.some.inj u];exact⟨by simpa using D,E⟩
def Tel (c:Bool) (P:Prop):Prop:=(c=AD->P)/\(P->c=AD)
structure Kp (bad:List Nat) (w w':J):Prop where
 sz:w.1.size<=w'.1.size
 kp:∀ b,b<w.1.size->b∉bad->w'.1[b]?=w.1[b]?
theorem Kp.refl (bad:List Nat) (w:J):Kp bad w w:=⟨BH _,λ_ _ _=>rfl⟩
theorem Kp.below {bad:List Nat} {w w' w2:J} (h:Kp bad w w') (hb:Bw w' w2):Kp bad w w2 :=
 ⟨BM h.sz hb.size,λb hl hn=>(hb.block b (JB hl h.sz)).trans (h.kp b hl hn)⟩
theorem Kp.set {bad:List Nat} {w w':J} (h:Kp bad w w') {g:Nat} (hg:g∈bad) (o1 o2 o3:Nat) (v1 v2 v3:AJ):Kp bad w (((w'.setCell ⟨g,o1,I⟩ v1).setCell ⟨g,o2,I⟩ v2).setCell ⟨g,o3,I⟩ v3) :=
 ⟨by simpa[World.setCell]using h.sz,λb hl hn=>by
  have hne:b≠g:=λe=>hn (e ▸ hg)
  exact(DQ _ _ _ b (by simpa using hne)).trans ((DQ _ _ _ b (by simpa using hne)).trans ((DQ _ _ _ b (by simpa using hne)).trans (h.kp b hl hn)))⟩
theorem Kp.sl {α:Type} [Dat α] {bad:List Nat} {w w':J} {A:Option AH} {n c:Nat} {xs:List α} {bs:List Nat} (h:Kp bad w w') (hs:Sl w A n c xs bs) (hd:∀ b∈bs,b∉bad):Sl w' A n c xs bs:=hs.keep λb hb=>h.kp b (hs.lt b hb) (hd b hb)
theorem Kp.cell {bad:List Nat} {w w':J} {b:Nat} {o:Obj} (h:Kp bad w w') (hc:w.1[b]?=QL o) (hd:b∉bad):w'.1[b]?=QL o:=(h.kp b (E_ hc) hd).trans hc
theorem D3d {b:List Int} {p q:Int} {y z:Nat} {x a:TRat} {r:List TRat} {M:List (List TRat)} (u:b[p.toNat]?=QL (y:Int)) (D:b[q.toNat]?=QL (z:Int)) (E:M[y]?=QL r) (h:r[z]?=QL a):B2c b p q x M=M.set y (r.set z (A0k a x)):=by
 unfold B2c;rw[A0e u,A0e D];simp only[OE,A0e E,A0e h];rw[decide_eq_true oS,decide_eq_true (p:=(0:Int)<=z) oS];rfl
attribute [local go_sem] ixs D2h
set_option maxRecDepth 20000 in
theorem C6b (f:Nat) (dM:A4f f) (b5:AJ) (v:AJ) (m:TMesh) (b:List Nat) (D:Nat->List (List TRat)) (o:Option TRat) (w:J) (br:Agg w v m b) (aM:m.1.length<=40) (bc:m.triangles.length<=48) (ce:B8e m) (ai:∀ t∈m.triangles,A5v m.1.length t)
  (cj:∀ (k:Nat) (W:J),k<m.triangles.length->Bw w W->AR prog f #[N K k,b5] W (D5i W (D k)))
  (az:∀ k,k<m.triangles.length->(D k).length=3/\∀ r∈D k,r.length=3)
  (be:C0y m D=B7m o) (ok:Ok1 o) :
  AR prog 232 #[v,.func (.func f) #[] #[b5]] w (D9k w o):=by
 unfold A4f at dM;have dq:=A_ br;have c0:=A_ bc;have cZ:=A_ aM;have c9:=A_ ce;have db:=A_ ai;have df:=A_ cj;have de:=A_ az;have ei:=A_ be;have du:=A_ ok;obtain⟨bE,ak,bY,fg,bF,n1,bZ,fh,rfl,rfl,aV,aE⟩:=TMesh.agg br;have dl:=A_ aE;have dc:=A_ aV.1;have dd:=A_ aE.1;have eO:ak<=40:=by rw[<-aV.1];exact aM
 have eP:n1<=48:=by rw[<-aE.1];exact bc
 have eQ:(n1:Int)<=48:=oS;obtain⟨n,aA⟩:∃ n,(A3f m AF).length=n:=⟨_,rfl⟩
 have dV:n<=40:=by rw[<-aA];exact BM (B3t m AF) aM
 have dh:=A_ aA;obtain⟨h,aD⟩:∃ h,B1i m=h:=⟨_,rfl⟩
 have dk:=A_ aD;have bM:=A_ (by rw[<-aD,C0l,aV.1]:h.length=ak);have bN:=A_ (by rw[<-aD,<-aA];exact C1e:∀ x∈h,-1<=x/\x<n);have c6:=A_ (by rw[<-be,C0y,aD,aA,aE.1]:A6h m h n D n1=B7m o);clear br aM bc ce ai cj az be ok aV aE aA aD;go_enter func232,ntmps232;go_wp2_with fail;have C:=B5v _ m _ ((w.alloc (AK #[S bE ak bY,S bF n1 bZ] 26)).alloc (AK #[S I 0 0] 225)) (dq.below Below.go) cZ c0 c9;rw[dk.o,dh.o]at C;refine C.mono ?_;clear C;rintro _ G ⟨gr,nr,d9,rfl,bp,dW,ao⟩;obtain rfl:ak=nr:=by rw[<-bp.1];exact bM.symm
 obtain⟨dJ,dO⟩:=F_ ao;have eX:w.1.size<G.1.size:=ltg ao;have eY:w.1.size+1<G.1.size:=ltg ao;have bO:=A_ bp;have c7:=A_ (show Bw w G from Below.go);have bQ:=A_ (show G.1[w.1.size]?=QL (AK #[S bE ak bY,S bF n1 bZ] 26)from O_ (A1y [_,_] w 0 _ rfl) (ao.mono (BH _)));have dr:=A_ (show G.1[w.1.size+1]?=QL (AK #[S I 0 0] 225)from O_ (A1y [_,_] w 1 _ rfl) (ao.mono (BH _)));clear bp dW ao dJ dO;go_wp2_with fail;refine(D6v n _ dV).mono ?_;rintro _ eb ⟨E,cap,gs,rfl,bq⟩;have bP:=A_ bq;have aR:=bq.bl;obtain⟨d4,_⟩:=B_ (O_ bQ aR) (j:=0) rfl;obtain⟨d5,_⟩:=B_ (O_ bQ aR) (j:=1) rfl;have d2:w.1.size<eb.1.size:=by have:=aR.size;omega
 clear bq aR;go_wp2_with fail;go_loopg [28] n1 (λg s wr=>∃ k:Nat,k+g=n1/\s=N K k/\Hid (MSt G wr E n cap n gs (A6h m h n D k)));case atStart=>exact⟨0,oS,rfl,bP.o⟩
 case round =>
  clear bP d4 d5 d2;obtain⟨k,ch,rfl,O⟩:=hrel;rename J=>wr;have a1:=A_ (AI c7 O.bl);have eW:=O.bl.size;rcases BN k n1 with ay|ay
  ·have eM:(k:Int)<n1:=oS
   have eN:(0:Int)<=k:=oS;obtain⟨g,rfl⟩:∃ g,gk=g+1:=⟨gk - 1,oS⟩
   have ci:=A_ (by omega:k+1+g=n1);obtain⟨em,ff,t,rfl,eB,bs,dD,a9,ba,dF,dG,ca⟩:=TTri.elemA (dl.below a1) ay;have c5:=A_ ca;have T:=A_ (by rw[<-dc.o];exact db t (CH bs):A5v ak t);have a2:=A_ (by rw[A6h,A0e bs]:A6h m h n D (k+1)=A7x h t (D k) (A6h m h n D k) 3);have bI:=A_ (by rw[dd.o];exact ay:k<m.triangles.length);have dn:=A_ (bO.below O.bl);have aC:=A_ (show ∀ p:Int,0<=p->p<ak->∃ x,h[p.toNat]?=QL x by intro p ew ab;exact⟨_,CV (by rw[bM.o];omega)⟩);obtain⟨bu,cw⟩:=aC t.a T.1.1 T.1.2;obtain⟨bv,cx⟩:=aC t.b T.2.1.1 T.2.1.2;obtain⟨bz,cy⟩:=aC t.c T.2.2.1 T.2.2.2;obtain⟨e0,e1⟩:=T.1;obtain⟨e2,e3⟩:=T.2.1;obtain⟨e4,e5⟩:=T.2.2;have a3:=A_ cw;have a4:=A_ cx;have a5:=A_ cy;clear ch ay bs ca cw cx cy;go_wp2_with fail;refine(A2g _ t _ (wr.alloc (AK #[N K t.a,N K t.b,N K t.c,N K t.4,N K t.5] 122)) (c5.below (AV _))).mono ?_;rintro _ w3 ⟨rfl,cd⟩;have bH:=A_ (show Bw wr w3 from AI (AV _) cd);clear cd;go_upto_region 7 with fail;obtain⟨ae,aO⟩:∃ ae,ae=w3.alloc (AK #[N K t.a,N K t.b,N K t.c] 174):=⟨_,rfl⟩
   obtain⟨an,aQ⟩:∃ an,w3.1.size=an:=⟨_,rfl⟩
   have au:=A_ (by rw[aO];exact AI bH (AV _):Bw wr ae);have aw:=A_ (by rw[aO,<-aQ];exact CF w3 _:ae.1[an]?=QL (AK #[N K t.a,N K t.b,N K t.c] 174));have eA:wr.1.size<=an:=by rw[<-aQ];exact bH.size
   rw[<-aO,aQ];clear aO aQ;have ax:=A_ (dn.below au);obtain⟨bB,_⟩:=B_ aw (j:=0) rfl;obtain⟨bD,_⟩:=B_ aw (j:=1) rfl;obtain⟨cP,_⟩:=B_ aw (j:=2) rfl;simp at bB bD cP;obtain⟨cN,_⟩:=Sl.intAt ax a3;obtain⟨cO,_⟩:=Sl.intAt ax a4;obtain⟨ed,_⟩:=Sl.intAt ax a5;go_cut [56] (λsb wx=>(∃ c:Bool,sb=AC c/\Tel c (bu<0/\bv<0/\bz<0))/\wx=ae);case first =>
    rcases EO bu 0 with ab|ab
    ·rcases EO bv 0 with ac|ac
     ·rcases EO bz 0 with aL|aL
      ·go_wp2_with fail;go_meet;exact⟨⟨AD,rfl,λ_=>⟨ab,ac,aL⟩,λ_=>rfl⟩,rfl⟩
      have ez:¬ (bz<0):=oS;go_wp2_with fail;go_meet;exact⟨⟨AF,rfl,(λY=>by cases Y),λY=>by have:=Y.2.2;omega⟩,rfl⟩
     have ey:¬ (bv<0):=oS;go_wp2_with fail;go_meet;exact⟨⟨AF,rfl,(λY=>by cases Y),λY=>by have:=Y.2.1;omega⟩,rfl⟩
    have ex:¬ (bu<0):=oS;go_wp2_with fail;go_meet;exact⟨⟨AF,rfl,(λY=>by cases Y),λY=>by have:=Y.1;omega⟩,rfl⟩
   case rest =>
   obtain⟨⟨dB,rfl,cA⟩,cB⟩:=hcut;obtain rfl:ae=wc:=cB.symm;have bU:=A_ cA;clear cA cB cN cO ed bB bD cP dD a9 ba dF dG;cases dB
   ·go_wp2_with fail
    refine(df k ae bI (AI a1 au)).mono ?_;obtain⟨L,aN⟩:∃ L,D k=L:=⟨_,rfl⟩
    rw[aN];have bJ:=A_ aN;obtain⟨az,cv⟩:L.length=3/\∀ r∈L,r.length=3:=by rw[<-aN];exact de k bI
    have di:=A_ cv;rintro _ aX ⟨ef,d6,en,dI,rfl,aW,cm,aS⟩;obtain rfl:3=d6:=by rw[<-aW.1];exact az.symm
    obtain⟨ej,fc,_,rfl,_⟩:=aW.2.2.2.2 dE;have dm:=A_ aW;have dg:=A_ cm;have ah:=A_ (show MSt G aX E n cap n gs (A7x h t L (A6h m h n D k) 0)from(O.below au).below aS);have dx:=A_ (ax.below aS);have am:=A_ (O_ aw aS);have bK:=A_ O.ltAll;have eV:=au.size;have cW:=A_ (show ∀ b∈d9,b∉E::gs.map (·.1)from λb Z aj=>by have ab:=bO.lt b Z;have ac:=O.lo b aj;omega);have cV:=A_ (show ∀ b∈dI,b∉E::gs.map (·.1)from λb Z aj=>by have ab:=dg b Z;have ac:=bK b aj;omega);have aZ:=A_ (show an∉E::gs.map (·.1)from λaj=>by have ac:=bK an aj;omega);have bR:=A_ (by rw[a2.o,bJ.o]:A6h m h n D (k+1)=A7x h t L (A6h m h n D k) 3);have cU:=A_ (show(A6h m h n D k).length=n from O.ml);obtain⟨ad,b6⟩:∃ ad,A6h m h n D k=ad:=⟨_,rfl⟩
    rw[b6]at ah bR cU;clear aW cm aS az cv aN O b6 a2 bJ ax aw bU a3 a4 a5;obtain⟨aG,_⟩:=B_ am (j:=0) rfl;obtain⟨aH,_⟩:=B_ am (j:=1) rfl;obtain⟨aI,_⟩:=B_ am (j:=2) rfl;simp at aG aH aI;go_wp2_with fail;go_loopg [64] 3 (λg2 s wr2=>∃ i:Nat,i+g2=3/\s=N K i/\Hid (MSt G wr2 E n cap n gs (A7x h t L ad i))/\Hid (Kp (E::gs.map (·.1)) aX wr2));case atStart=>exact⟨0,oS,rfl,ah.o,Kp.refl _ _⟩
    case round =>
     clear ah aG aH aI;obtain⟨i,cf,rfl,aJ,al⟩:=hrel;rename J=>aY;rcases BN i 3 with ai|ai
     ·have dT:(i:Int)<3:=oS
      have eJ:(0:Int)<=i:=oS;have dS:i<3:=ai;obtain⟨g2,rfl⟩:∃ g2,gk=g2+1:=⟨gk - 1,oS⟩
      have dR:=A_ (by omega:i+1+g2=3);obtain⟨aG,_⟩:=B_ (al.cell am aZ) (j:=0) rfl;obtain⟨aH,_⟩:=B_ (al.cell am aZ) (j:=1) rfl;obtain⟨aI,_⟩:=B_ (al.cell am aZ) (j:=2) rfl;simp at aG aH aI;obtain⟨co,cp⟩:=D6z T i;obtain⟨p,cn⟩:∃ p,at3 t.a t.b t.c i=p:=⟨_,rfl⟩
      rw[cn]at co cp;have dv:=A_ cn;obtain⟨ar,bm⟩:=aC p co cp;have a6:=A_ bm;have dX:=bN ar (CH bm);obtain⟨eT,eU⟩:=dX;have bV:=A_ (show A7x h t L ad (i+1)=A6j h t L i (A7x h t L ad i) 3 from rfl);have ah:=A_ (show MSt G aY E n cap n gs (A6j h t L i (A7x h t L ad i) 0)from aJ);obtain⟨aa,b7⟩:∃ aa,A7x h t L ad i=aa:=⟨_,rfl⟩
      rw[b7]at bV ah;clear cf ai bm aJ b7;go_wp2_with fail;go_loopg [69] 3 (λg3 s wr3=>∃ j:Nat,j+g3=3/\s=N K j/\Hid (MSt G wr3 E n cap n gs (A6j h t L i aa j))/\Hid (Kp (E::gs.map (·.1)) aX wr3));case atStart=>exact⟨0,oS,rfl,ah.o,al.o⟩
      case round =>
       clear ah aG aH aI al;obtain⟨j,cg,rfl,X,af⟩:=hrel;rename J=>bA;rcases BN j 3 with aU|aU
       ·have eK:(j:Int)<3:=oS
        have eL:(0:Int)<=j:=oS;have dU:j<3:=aU;obtain⟨g3,rfl⟩:∃ g3,gk=g3+1:=⟨gk - 1,oS⟩
        have bh:=A_ (by omega:j+1+g3=3);obtain⟨cs,ct⟩:=D6z T j;obtain⟨q,cq⟩:∃ q,at3 t.a t.b t.c j=q:=⟨_,rfl⟩
        rw[cq]at cs ct;have dw:=A_ cq;obtain⟨aF,bn⟩:=aC q cs ct;have a7:=A_ bn;obtain⟨dY,dZ⟩:=bN aF (CH bn);have aK:=A_ (by rw[A6j,dv.o,dw.o]:A6j h t L i aa (j+1)=B2c h p q ((L.getD i []).getD j A0h) (A6j h t L i aa j));have bS:=A_ (af.sl dx cW);obtain⟨cN,eI⟩:=Sl.intAt bS a6;obtain⟨cO,_⟩:=Sl.intAt bS a7;clear cg aU bn;by_cases bi:ar<0
        ·obtain rfl:ar = -1:=oS
         have ag:=A_ (show MSt G bA E n cap n gs (A6j h t L i aa (j+1)) by rw[aK.o,B4c (.inl (by rw[A0e a6.o];decide))];exact X);clear X bi;go_wp2_with fail;go_roundg g3;case measure=>omega
         case rel=>exact⟨j+1,bh,gN,ag,af⟩
        by_cases cu:aF<0
        ·obtain rfl:aF = -1:=oS
         have ag:=A_ (show MSt G bA E n cap n gs (A6j h t L i aa (j+1)) by rw[aK.o,B4c (.inr (by rw[A0e a7.o];decide))];exact X);have eS:0≤ar:=by omega
         clear X bi cu;go_wp2_with fail;go_roundg g3;case measure=>omega
         case rel=>exact⟨j+1,bh,gN,ag,af⟩
        obtain⟨y,rfl⟩:∃ y:Nat,ar=y:=⟨ar.toNat,oS⟩
        obtain⟨z,rfl⟩:∃ z:Nat,aF=z:=⟨aF.toNat,oS⟩
        have d1:y<n:=oS;have cE:z<n:=oS;have dy:=A_ (af.sl dm cV);obtain⟨ek,fd,cI,bG,bt,b0,eu,bd,eC,aB,eG,bo,_⟩:=Sl.elemS dy dS;injection bd with bd;injection bd with hA7 hA8 _;subst hA7;subst hA8;obtain rfl:3=bt:=by rw[<-bo.1];exact(di cI (CH aB)).symm
        obtain⟨el,fe,x,eg,fa,eo,er,eh,fb,ep,es,rfl,eD,cD,u0,u1,u2,cb⟩:=TRat.elemA bo dU;obtain⟨u,dA,d8,bg,bj,eE,eR,b8,_⟩:=X.row d1;obtain⟨a,cX,m1,a9,cY,m2,ba,ev,b9,cJ,v1,v2,cK,cL,cM,cc,_,aq⟩:=b8.elem cE;have dt:=A_ (show A6j h t L i aa (j+1)=(A6j h t L i aa j).set y (d8.set z (A0k a x)) by rw[aK.o,A0e aB,A0e cD];exact D3d a6 a7 bj b9);have c2:=A_ cb;have c4:=A_ cc;have da:=A_ bg;have dj:=A_ bj;have dQ:=A_ (show u∈E::gs.map (·.1)from List.mem_cons_of_mem _ (List.mem_map.2 ⟨(u,dA),CH bg,rfl⟩));clear aB cD b9 bg bj bo b8 cb cc bi cu dY dZ aK;go_wp2_with fail;refine X_ sI ?_;dsimp only[DJ,DK,DI];iterate 31 refine C_ _ ?_
        refine D_ (BP (A0k a x)) ?_ ?_;·intro ee cQ ec H ap;obtain ⟨eF,eH⟩:=F_ H;simp at ap;refine G_ ?_;exact H_ (A0x _ _ a x _ _ ec (c4.below H) (c2.below H))
        refine C_ _ ?_;intro ee cQ wa H ap dL;clear dL;simp at ap;have d7:=ap.2.2.2.2.2.2.2.2.2.2.2.2.2.2.2.2.2.2.2.2.2.2.2.2.2.2.2.2.2.2.2.1;have cH:=ap.2.2.2.2.2.2.2.2.2.2.2.2.2.2.2.2.2.2.2.2.2.2.2.2.2.2.2.2.2.2.2.2;have et:=cH.1.1;obtain⟨⟨aP,dN⟩,bl⟩:=d7;obtain⟨bW,cF,b3,fi,bX,cG,b4,fj,dH,d3,_,_⟩:=BK aP;rw[dH]at aP;have d0:=H.size
        obtain⟨e6,k1,k2,e7,e8,e9⟩:wa.cell? ⟨u,z*3,I⟩=QL (AC a.1.1)/\wa.cell? ⟨u,z*3+1,I⟩=QL (S cX m1 a9)/\wa.cell? ⟨u,z*3+2,I⟩=QL (S cY m2 ba)/\wa.frozen? ⟨u,z*3,I⟩=AF/\wa.frozen? ⟨u,z*3+1,I⟩=AF/\wa.frozen? ⟨u,z*3+2,I⟩=AF :=
         ⟨(H.cell (p:=⟨u,_,I⟩) aq).trans cJ,(H.cell (p:=⟨u,_,I⟩) aq).trans v1,(H.cell (p:=⟨u,_,I⟩) aq).trans v2,(H.frozen (p:=⟨u,_,I⟩) aq).trans cK,(H.frozen (p:=⟨u,_,I⟩) aq).trans cL,(H.frozen (p:=⟨u,_,I⟩) aq).trans cM⟩
        have ag:=A_ (show MSt G (((wa.setCell ⟨u,z*3,I⟩ (AC (A0k a x).1.1)).setCell ⟨u,z*3+1,I⟩ (S bW cF b3)).setCell ⟨u,z*3+2,I⟩ (S bX cG b4)) E n cap n gs (A6j h t L i aa (j+1)) by
         rw[dt.o]
         exact (X.below H).set da dj (j:=z) cE aP (fun b Z aj=>by
          have ab:=(bl b Z).1;have ac:=X.ltAll b aj;omega) (fun b Z=>by
          have ab:=(bl b Z).1;have ac:=X.bl.size;omega))
        have ds:=A_ (show Kp (E::gs.map (·.1)) aX (((wa.setCell ⟨u,z*3,I⟩ (AC (A0k a x).1.1)).setCell ⟨u,z*3+1,I⟩ (S bW cF b3)).setCell ⟨u,z*3+2,I⟩ (S bX cG b4))from(af.below H).set dQ _ _ _ _ _ _);generalize cQ 31=fl at *;clear ap cH aP dN bl d3 H X af cJ v1 v2 cK cL cM d0 u0 u1 u2;go_wp2_with fail;go_roundg g3;case measure=>omega
        case rel=>exact⟨j+1,bh,gN,ag,ds⟩
       obtain rfl:j=3:=oS;have a8:=A_ (by rw[bV.o];exact X:MSt G bA E n cap n gs (A7x h t L ad (i+1)));clear cg aU X;go_wp2_with fail;go_roundg g2;case measure=>omega
       case rel=>exact⟨i+1,dR,gN,a8,af⟩
     obtain rfl:i=3:=oS;have a8:=A_ (by rw[bR.o];exact aJ:MSt G aY E n cap n gs (A6h m h n D (k+1)));clear cf ai aJ al;go_wp2_with fail;go_roundg g;case measure=>omega
     case rel=>exact⟨k+1,ci,gN,a8⟩
   have bT:=A_ (show A6h m h n D (k+1)=A6h m h n D k by
    rw[a2.o];obtain⟨ab,ac,aL⟩:=bU.1 rfl;refine C2y (λi=>?_) 3;match i with
    |0=>show h.getD t.a.toNat (-1)<0;rw[A0e a3.o];exact ab
    |1=>show h.getD t.b.toNat (-1)<0;rw[A0e a4.o];exact ac
    |_+2=>show h.getD t.c.toNat (-1)<0;rw[A0e a5.o];exact aL)
   have ag:=A_ (by rw[bT.o];exact O.below au:MSt G ae E n cap n gs (A6h m h n D (k+1)));clear O bT;go_wp2_with fail;go_roundg g;case measure=>omega
   case rel=>exact⟨k+1,ci,gN,ag⟩
  obtain rfl:k=n1:=oS;have dT:¬ ((k:Int)<k):=oS;obtain⟨dz,cz,_⟩:=O.sl;have dp:=A_ cz;have cR:=A_ (show A6h m h n D k=B7m o from c6);clear ch ay cz;go_wp2_with fail;refine(D4j _ n cap _ dz o wr dp cR du).mono ?_;rintro _ aY ⟨fk,ea,rfl,bf,ck,aT⟩;obtain⟨bG,bt,b0,cI,rfl,rfl,aB⟩:=NQ bf;have c1:=A_ bf;have bL:=A_ ck;have c8:=A_ (AI a1 aT);obtain⟨bB,bD⟩:=B_ (O_ (O_ dr O.bl) aT) (j:=0) rfl;have eZ:w.1.size+1<aY.1.size:=by have:=aT.size;omega
  clear bf aB aT ck;go_wp2;refine BI (v:=AM #[S bG bt b0]) (by simp[BO,results232,go_sem, *]) rfl ?_;exact⟨_,ea,rfl,(c1.keep (λb Z=>DQ _ _ _ _ (by have:=bL b Z;simp;omega))).below (AV _),(λb Z=>by have:=bL.o b Z;omega),AI (c8.o.setCell (p:=⟨w.1.size+1,0,I⟩) sI _) (AV _)⟩
end
def D6n:TTri:=⟨0,0,0,0,0⟩
structure MeshD (m:TMesh) (xs ys:List Int):Prop where
 mesh:MeshI m xs ys
 es:B8e m
 tri:∀ t∈m.triangles,TriOk m t
 grad:∀ t∈m.triangles,GradOk (Z_ m.1 t.a) (Z_ m.1 t.b) (Z_ m.1 t.c)
 massd:∀ t∈m.triangles,∀ r∈E3h m t,r.any A2e=AF
 stiffd:∀ t∈m.triangles,∀ r∈B6b m t,r.any A2e=AF
def C3x (m:TMesh) (k:Nat):List (List TRat):=E3h m (m.triangles.getD k D6n)
def A9s (p:TProblem) (k:Nat):List (List TRat):=A9r (p.2.getD (p.1.triangles.getD k D6n).4.toNat A0h) (B6b p.1 (p.1.triangles.getD k D6n)) 3
theorem C9v {d:TRat} {M:List (List TRat)} (h:∀ r∈M,r.length=3) (hl:M.length=3):∀ i,i<=3->∀ r∈A9r d M i,r.length=3
 |0,_,r,hr=>h r hr
 |i+1,hi,r,hr=>by
  rw[A9r]at hr
  rcases List.mem_or_eq_of_mem_set hr with hr|rfl
  ·exact C9v h hl i oS r hr
  rw[C9x]
  obtain⟨x,hx⟩:∃ x,M[i]?=QL x:=⟨_,CV oS⟩
  rw[A0e hx]
  exact h x (CH hx)
theorem C6n (v:AJ) (p:TProblem) (b:List Nat) (xs ys:List Int) (o:Option TRat) (w:J) (ah:Agg w v p b) (ar:MeshD p.1 xs ys) (ap:p.2.length=3) (ao:C0y p.1 (A9s p)=B7m o) (ok:Ok1 o) :
  AR prog 179 #[v] w (D9k w o):=by
 have aF:=A_ ah;have h:=A_ ar;have aD:=A_ ao;have aG:=A_ ok;have aB:=A_ ap;obtain⟨X,ak,ac,aT,Y,n1,ad,aU,Z,n2,ae,aV,aa,al,c3,aW,rfl,rfl,aw,ax,aL,aM⟩:=TProblem.agg ah;have aC:=A_ (TMesh.mkAgg (x:=p.1) aw ax);clear ah ar ao ok aw ax aL aM ap;go_enter func179,ntmps179;obtain⟨u,G⟩:∃ u,u=((w.alloc (AK #[S X ak ac,S Y n1 ad,S Z n2 ae,S aa al c3] 29)).alloc (AK #[S I 0 0] 225)):=⟨_,rfl⟩
 have ab:=A_ (by rw[G];exact AI (AV _) (AV _):Bw w u);have O:=A_ (by rw[G];exact A1y [_,_] w 0 _ rfl:u.1[w.1.size]?=QL (AK #[S X ak ac,S Y n1 ad,S Z n2 ae,S aa al c3] 29));have an:=A_ (by rw[G];exact A1y [_,_] w 1 _ rfl:u.1[w.1.size+1]?=QL (AK #[S I 0 0] 225));have aE:=A_ G;clear G;go_wp2_with fail;rw[<-aE.o];have aQ:=GU an;have H:w.1.size<u.1.size:=oS;obtain⟨ai,_⟩:=B_ O (j:=0) rfl;obtain⟨k1,_⟩:=B_ O (j:=1) rfl;obtain⟨k2,_⟩:=B_ O (j:=2) rfl;obtain⟨aj,_⟩:=B_ O (j:=3) rfl;simp at ai k1 k2 aj;refine(C6b 233 B9j (.pointer (QL ⟨w.1.size,0,I⟩)) _ p.1 _ (A9s p) o u (aC.below ab) h.1.n40 h.1.t48 h.es (λt E=>(h.1.tri t E).1) (λk aH aq D=>?_) (λk aq=>⟨?_,?_⟩) aD aG).mono ?_
 ·obtain⟨t,E⟩:∃ t,p.1.triangles[k]?=QL t:=⟨_,CV aq⟩
  have W:=CH E;have aK:0<=t.4/\t.4<3:=by have:=(h.1.tri t W).2.1;unfold inB at this;simp at this;omega
  rw[A9s,A0e E];exact C1g k w.1.size X ak ac Y n1 ad Z n2 ae aa al c3 p _ t aH ((aF.below ab).below D) ((D.cell (p:=⟨w.1.size,0,I⟩) H).trans ai) ((D.cell (p:=⟨w.1.size,1,I⟩) H).trans k1) ((D.cell (p:=⟨w.1.size,2,I⟩) H).trans k2) ((D.cell (p:=⟨w.1.size,3,I⟩) H).trans aj) (JB H D.size) E (h.tri t W) (h.grad t W) h.1.ok h.1.n40 h.1.t48 (h.stiffd t W) aB aK
 ·rw[A9s,B6k];exact B1z _ _ _ 3
 ·exact C9v (B2a _ _ _ 3) (B1z _ _ _ 3) 3 (BH _)
 rintro _ aP ⟨aX,aO,rfl,af,au,T⟩;obtain⟨ay,aN,aI,aS,rfl,rfl,aJ⟩:=NQ af;have az:=A_ af;have am:=A_ au;have aA:=A_ (AI ab T);obtain⟨aY,aZ⟩:=B_ (O_ an T) (j:=0) rfl;have aR:w.1.size+1<aP.1.size:=by have:=T.size;omega
 clear af aJ T au ai k1 k2 aj;go_wp2;refine BI (v:=AM #[S ay aN aI]) (by simp[BO,results179,go_sem, *]) rfl ?_;exact⟨_,aO,rfl,az.keep (λb ag=>DQ _ _ _ _ (by have:=am b ag;simp;omega)),(λb ag=>by have:=am.o b ag;omega),aA.o.setCell (p:=⟨w.1.size+1,0,I⟩) sI _⟩
section
def A7c (rows:List Int) (p:Int) (x:TRat) (V:List TRat):List TRat :=
 bif decide (0<=rows.getD p.toNat (-1))then V.set (rows.getD p.toNat (-1)).toNat (A0k (V.getD (rows.getD p.toNat (-1)).toNat A0h) x)else V
def A7n (rows:List Int) (t:TTri) (x:TRat) (V:List TRat):Nat->List TRat
 |0=>V
 |i+1=>A7c rows (at3 t.a t.b t.c i) x (A7n rows t x V i)
def C6e (p:TProblem) (t:TTri):TRat:=A0d (p.3.getD t.4.toNat A0h) (A0d (mkR 1 3) (A6c (Z_ p.1.1 t.a) (Z_ p.1.1 t.b) (Z_ p.1.1 t.c)))
def A4v (p:TProblem) (rows:List Int) (n:Nat):Nat->List TRat
 |0=>CJ n (U_ 0)
 |k+1=>A7n rows (p.1.triangles.getD k D6n) (C6e p (p.1.triangles.getD k D6n)) (A4v p rows n k) 3
def A6v (p:TProblem):List TRat:=A4v p (B1i p.1) (A3f p.1 AF).length p.1.triangles.length
theorem C9b {b:List Int} {p:Int} {x:TRat} {V:List TRat} (h:b.getD p.toNat (-1)<0):A7c b p x V=V:=by
 unfold A7c;rw[decide_eq_false oS];rfl
theorem C8k {b:List Int} {p:Int} {y:Nat} {x a:TRat} {V:List TRat} (u:b[p.toNat]?=QL (y:Int)) (h:V[y]?=QL a):A7c b p x V=V.set y (A0k a x):=by
 unfold A7c;rw[A0e u];simp only[OE,A0e h];rw[decide_eq_true oS];rfl
theorem D0z {P:TRat->Prop} (E:∀ a b,P (A0k a b)) {D:List Int} {p:Int} {x:TRat} {V:List TRat} (h:∀ v∈V,P v):∀ v∈A7c D p x V,P v:=by
 unfold A7c;cases decide (0<=D.getD p.toNat (-1));·exact h
 intro v u;rcases List.mem_or_eq_of_mem_set u with u|rfl
 ·exact h v u
 exact E _ _
theorem C6r {P:TRat->Prop} (hr:∀ a b,P (A0k a b)) {rows:List Int} {t:TTri} {x:TRat} {V:List TRat} (h:∀ v∈V,P v):∀ i,∀ v∈A7n rows t x V i,P v
 |0=>h
 |i+1=>D0z hr (C6r hr h i)
theorem C7x {P:TRat->Prop} (hr:∀ a b,P (A0k a b)) (h0:P (U_ 0)) (p:TProblem) (rows:List Int) (n:Nat):∀ k,∀ v∈A4v p rows n k,P v
 |0,v,hv=>by rw[List.eq_of_mem_replicate (show v∈CJ n (U_ 0)from hv)];exact h0
 |k+1,v,hv=>C6r hr (C7x hr h0 p rows n k) 3 v hv
attribute [local go_sem] ixs
set_option maxRecDepth 20000 in
theorem E1j (v:AJ) (p:TProblem) (b:List Nat) (xs ys:List Int) (w:J) (bv:Agg w v p b) (Z:MeshD p.1 xs ys) (cw:p.3.length=3) (cn:(A6v p).any A2e=AF) :
  AR prog 180 #[v] w (A0w w (A6v p)):=by
 have dh:=A_ bv;have ad:=A_ Z;have dc:=A_ cw;have c6:=A_ cn;obtain⟨bG,am,bZ,ez,bH,n1,b0,eA,bI,n2,b3,eB,bJ,cz,c3,eC,rfl,rfl,aD,au,dT,ct⟩:=TProblem.agg bv;have bT:=A_ (TMesh.mkAgg (x:=p.1) aD au);have db:=A_ au;have c2:=A_ aD.1;have d4:=A_ au.1;have el:am<=40:=by rw[<-aD.1];exact Z.1.n40
 have em:n1<=48:=by rw[<-au.1];exact Z.1.t48
 have en:(n1:Int)<=48:=oS;obtain⟨n,aA⟩:∃ n,(A3f p.1 AF).length=n:=⟨_,rfl⟩
 have dM:n<=40:=by rw[<-aA];exact BM (B3t p.1 AF) Z.1.n40
 have c4:=A_ aA;obtain⟨E,aC⟩:∃ E,B1i p.1=E:=⟨_,rfl⟩
 have da:=A_ aC;have bW:=A_ (by rw[<-aC,C0l,aD.1]:E.length=am);have c8:=A_ (by rw[<-aC,<-aA];exact C1e:∀ x∈E,-1<=x/\x<n);have bS:=A_ (by rw[A6v,aC,aA,au.1]:A6v p=A4v p E n n1);clear bv Z cw cn aD au dT ct aA aC;go_enter func180,ntmps180;go_wp2_with fail;have C:=B5v _ p.1 _ (w.alloc (AK #[S bG am bZ,S bH n1 b0,S bI n2 b3,S bJ cz c3] 29)) (bT.below Below.go) ad.1.n40 ad.1.t48 ad.es;rw[da.o,c4.o]at C;refine C.mono ?_;clear C;rintro _ O ⟨gr,nr,cH,rfl,af,dN,cb⟩;obtain rfl:am=nr:=by rw[<-af.1];exact bW.symm
 have dd:=A_ af;have cZ:=A_ (show Bw w O from Below.go);have aj:=A_ (show O.1[w.1.size]?=QL (AK #[S bG am bZ,S bH n1 b0,S bI n2 b3,S bJ cz c3] 29)from O_ (A1y [_] w 0 _ rfl) (cb.mono (BH _)));have es:=GU aj;have c9:=A_ (show ∀ b∈cH,b<O.1.size from af.lt);clear af dN cb;go_wp2_with fail;refine(A0l 0 O oO).mono ?_;rintro _ wa ⟨eG,d0,rfl,al,ck,ce⟩;obtain⟨aI,cB,b5,ea,aJ,cD,b6,g2,rfl,d2,_,_⟩:=BK al;have aF:=A_ (A3x (al.below (AV (AK #[AC (U_ 0).1.1,S aI cB b5,S aJ cD b6] 35))));have bU:=A_ (show ∀ b∈d0,O.1.size<=b/\b<wa.1.size from λb H=>⟨(ck.2 b H).1,al.lt b H⟩);have bP:=A_ ce;clear al ck d2 ce;go_wp2_with fail;refine(C1n wa.1.size n [AC (U_ 0).1.1,S aI cB b5,S aJ cD b6] _ (CF wa _) rfl (Dat.one aF) dM).mono ?_;rintro _ wb ⟨rfl,bs,bo⟩;rw[EW]at bs;have ep:=bP.size
 have bV:=A_ (show RR (λb=>b<O.1.size\/b=wa.1.size+1) wb (wa.1.size+1) n n (A4v p E n 0)from
  ⟨_,_,B0o bs,C0s (Dat.keep aF.o (λb H=>bo.block b (Dat.lt aF.o b H))),by simp[A4v],λb H bn=>by have ec:=bU b (B0m H);rcases bn with dF|dF<;>omega,.inr rfl⟩)
 have aL:=A_ (AI (AI bP (AV _)) bo);obtain⟨h,cf⟩:∃ h,wa.1.size+1=h:=⟨_,rfl⟩
 have br:O.1.size<=h:=oS;simp only[EW,cf]at *;clear bs bo aF bU cf;obtain⟨bA,_⟩:=B_ (O_ aj aL) (j:=0) rfl;obtain⟨k1,_⟩:=B_ (O_ aj aL) (j:=1) rfl;have dV:w.1.size<wb.1.size:=by have:=aL.size;omega
 simp at bA k1;go_wp2_with fail;go_loopg [25] n1 (λg s wr=>∃ k:Nat,k+g=n1/\s=N K k/\Hid (RR (λb=>b<O.1.size\/b=h) wr h n n (A4v p E n k))/\Hid (Bw O wr));case atStart=>exact⟨0,oS,rfl,bV.o,aL.o⟩
 case round =>
  clear bV bA k1 dV;obtain⟨k,cj,rfl,aN,ah⟩:=hrel;rename J=>wr;have az:=A_ (AI cZ ah);have er:=ah.size;have ed:=aN.lt;rcases BN k n1 with aV|aV
  ·have ej:(k:Int)<n1:=oS
   have ek:(0:Int)<=k:=oS;obtain⟨g,rfl⟩:∃ g,gk=g+1:=⟨gk - 1,oS⟩
   have dL:=A_ (by omega:k+1+g=n1);obtain⟨d5,ey,t,rfl,ee,aX,dt,bi,bj,du,dv,b9⟩:=TTri.elemA (db.below az) aV;have cW:=A_ b9;have bR:=A_ (show p.1.triangles[k]?=QL t from aX);have cx:=CH aX;have bQ:=A_ (show A5v p.1.1.length t from(ad.1.tri t cx).1);have c1:=A_ (by rw[<-c2.o];exact bQ:A5v am t);have c7:=A_ (show 0<=t.4/\t.4<3 by have:=(ad.1.tri t cx).2.1;unfold inB at this;simp at this;omega);have a4:=A_ (by rw[A4v,A0e aX]:A4v p E n (k+1)=A7n E t (C6e p t) (A4v p E n k) 3);obtain⟨aw,af⟩:∃ aw,p.3.getD t.4.toNat A0h=aw:=⟨_,rfl⟩
   obtain⟨ae,bm⟩:∃ ae,A6c (Z_ p.1.1 t.a) (Z_ p.1.1 t.b) (Z_ p.1.1 t.c)=ae:=⟨_,rfl⟩
   have de:=A_ af;have cY:=A_ bm;have dm:=A_ (by rw[C6e,af,bm]:C6e p t=A0d aw (A0d (mkR 1 3) ae));obtain⟨cE,_⟩:=B_ (O_ aj ah) (j:=0) rfl;obtain⟨q1,_⟩:=B_ (O_ aj ah) (j:=1) rfl;obtain⟨q2,_⟩:=B_ (O_ aj ah) (j:=2) rfl;obtain⟨cG,_⟩:=B_ (O_ aj ah) (j:=3) rfl;simp at cE q1 q2 cG;have et:w.1.size<wr.1.size:=oS;have dQ:=A_ (show ∀ p:Int,0<=p->p<am->∃ x,E[p.toNat]?=QL x by intro p eb bl;exact⟨_,CV (by rw[bW.o];omega)⟩);clear cj aV aX b9 af bm;obtain⟨ag,aW⟩:∃ ag,ag=wr.alloc (AK #[N K t.a,N K t.b,N K t.c,N K t.4,N K t.5] 122):=⟨_,rfl⟩
   have dg:=A_ aW;have aM:=A_ (by rw[aW];exact AV _:Bw wr ag);have a3:=A_ (by rw[aW];exact CF wr _:ag.1[wr.1.size]?=QL (AK #[N K t.a,N K t.b,N K t.c,N K t.4,N K t.5] 122));have eo:wr.1.size<ag.1.size:=GU a3;have eu:w.1.size<ag.1.size:=oS;clear aW;go_upto_region 6 with fail;rw[<-dg.o];obtain⟨dH,dI⟩:=F_ aM;refine X_ sI ?_;dsimp only[DJ,DK,DI];iterate 2 refine C_ _ ?_
   refine D_ (MP.aggS aw) ?_ ?_;·intro ac W T u D;obtain⟨ap,aq⟩:=F_ u;simp at D;refine G_ ?_;have C:=C1w _ p _ k t T (dh.below (AI az (AI aM u))) bR dc c7;rw[de.o]at C;exact A7t C
   refine D_ (BP (mkR 1 3)) ?_ ?_;·intro ac W T u D;obtain⟨ap,aq⟩:=F_ u;simp at D;refine G_ ?_;exact H_ (A7u 1 3 T oO oO dE)
   iterate 3 refine C_ _ ?_
   refine D_ (MP.sl (B5j p.1.1 t)) ?_ ?_;·intro ac W T u D;obtain⟨ap,aq⟩:=F_ u;simp at D;refine G_ ?_;exact A1c (A6s _ p.1 _ k t T (bT.below (AI az (AI aM u))) bR bQ ad.1.ok ad.1.n40 ad.1.t48)
   refine D_ (BP ae) ?_ ?_;·intro ac W T u D;obtain⟨ap,aq⟩:=F_ u;simp at D;obtain⟨⟨C,dW,cC,d8,b7⟩,_⟩:=D;obtain rfl:3=dW:=b7.1;refine G_ ?_;have C:=B3h C cC _ _ _ _ T b7;rw[cY.o]at C;exact H_ C
   refine D_ (BP (A0d (mkR 1 3) ae)) ?_ ?_;·intro ac W T u D;obtain⟨ap,aq⟩:=F_ u;simp at D;refine G_ ?_;obtain⟨ax,ay,_⟩:=D;exact H_ (A0n _ _ (mkR 1 3) ae _ _ T ax.1 ay)
   refine D_ (BP (A0d aw (A0d (mkR 1 3) ae))) ?_ ?_;·intro ac W T u D;obtain⟨ap,aq⟩:=F_ u;simp at D;refine G_ ?_;obtain⟨⟨_,eD,ax⟩,ay,_⟩:=D;exact H_ (A0n _ _ aw (A0d (mkR 1 3) ae) _ _ T ax ay)
   refine A1p #[AC AF,S I 0 0,S I 0 0] 35 ?_ ?_;·intro ac W T u D;refine⟨gD,?_⟩;go_simp
   intro ac W wa u D (aS:Hid _);simp at D;have dX:=D.2.2.2.2.2.2.2.2.2.2.1;have dY:=D.2.2.2.2.2.2.2.2.2.2.2;obtain⟨⟨Y,bq⟩,aB⟩:=dX;obtain⟨⟨X,d6,d1,aT⟩,bt⟩:=dY;rw[<-dm.o]at Y;obtain⟨G,dO⟩:∃ G,C6e p t=G:=⟨_,rfl⟩
   rw[dO]at Y a4;obtain⟨a9,bB,be,v1,bc,bE,bg,v2,dw,bz,_,_⟩:=BK Y;rw[dw]at Y;have bp:=aS 10 11 dE dE dE;rw[d1]at bp bt;have ef:ag.1.size<=X:=(bt X sI).1;have cg:X∉W 10:=λdB=>bp X dB sI;obtain⟨aO,dy⟩:=B_ aT (j:=0) rfl;obtain⟨aP,dz⟩:=B_ aT (j:=1) rfl;obtain⟨aQ,dA⟩:=B_ aT (j:=2) rfl;obtain⟨ak,ao⟩:∃ ak,ak=(((wa.setCell ⟨X,0,I⟩ (AC G.1.1)).setCell ⟨X,1,I⟩ (S a9 bB be)).setCell ⟨X,2,I⟩ (S bc bE bg)):=⟨_,rfl⟩
   have bN:=A_ (show Bw wr ak by rw[ao];exact((((AI aM.o u)).setCell (p:=⟨X,0,I⟩) oR _).setCell (p:=⟨X,1,I⟩) oR _).setCell (p:=⟨X,2,I⟩) oR _);have bL:=A_ (show Agg ak (AM #[AC G.1.1,S a9 bB be,S bc bE bg]) G (W 10) by rw[ao];exact Y.keep (λb H=>A0p b (λe=>cg (e ▸ H))));have bO:=A_ (show ak.1[X]?=QL (AK #[AC G.1.1,S a9 bB be,S bc bE bg] 35) by rw[ao];exact A0u (A0u (A0u aT)));have an:=A_ (show ak.1[wr.1.size]?=QL (AK #[N K t.a,N K t.b,N K t.c,N K t.4,N K t.5] 122) by rw[ao];exact(A0p _ oS).trans (O_ a3.o u));have dl:=A_ (show ∀ b∈W 10,ag.1.size<=b from λb H=>(aB b H).1);have dG:=A_ ao;generalize W 10=d3 at *;clear D aS Y bq aB bt bp bz u ao cg dH dI;go_upto_region 7 with fail;rw[<-dG.o];obtain⟨cI,_⟩:=B_ an (j:=0) rfl;obtain⟨ax,_⟩:=B_ an (j:=1) rfl;obtain⟨ay,_⟩:=B_ an (j:=2) rfl;obtain⟨cJ,_⟩:=B_ an (j:=3) rfl;obtain⟨cK,_⟩:=B_ an (j:=4) rfl;simp at cI ax ay cJ cK;go_wp2_with fail;refine(A2g _ t _ ak (cW.below bN)).mono ?_;rintro _ w3 ⟨rfl,aR⟩;have a1:=A_ (AI bN aR);have aG:=A_ (O_ bO aR);have bM:=A_ (bL.below aR);have a6:=A_ (show RR (λb=>b<O.1.size\/b=h) w3 h n n (A7n E t G (A4v p E n k) 0)from aN.below a1);have aZ:=A_ (AI ah a1);have dp:=A_ (dd.below aZ);have ct:=a1.size;have cU:=A_ (show ∀ b∈cH,b∉[h]from λb H Z=>by have bl:=c9 b H;simp at Z;omega);have DP:=A_ (show ∀ b∈d3,b∉[h]from λb H Z=>by have bl:=dl b H;simp at Z;omega);have aH:=A_ (show X∉[h]from λZ=>by simp at Z;omega);obtain⟨ab,b8⟩:∃ ab,A4v p E n k=ab:=⟨_,rfl⟩
   rw[b8]at a6 a4;clear aR aN b8 bO bL a3 an cI ax ay cJ cK dt bi bj du dv aO dy aP dz aQ dA cE q1 q2 cG;go_wp2_with fail;go_loopg [43] 3 (λg2 s wr2=>∃ i:Nat,i+g2=3/\s=N K i/\Hid (RR (λb=>b<O.1.size\/b=h) wr2 h n n (A7n E t G ab i))/\Hid (Kp [h] w3 wr2)/\Hid (Bw O wr2));case atStart=>exact⟨0,oS,rfl,a6.o,Kp.refl _ _,aZ.o⟩
   case round =>
    clear a6 aZ;obtain⟨i,ci,rfl,ai,aa,aK⟩:=hrel;rename J=>aY;rcases BN i 3 with aU|aU
    ·have dJ:(i:Int)<3:=oS
     have ei:i<3:=aU;obtain⟨g2,rfl⟩:∃ g2,gk=g2+1:=⟨gk - 1,oS⟩
     have ch:=A_ (by omega:i+1+g2=3);obtain⟨cp,cq⟩:=D6z c1 i;obtain⟨q,co⟩:∃ q,at3 t.a t.b t.c i=q:=⟨_,rfl⟩
     rw[co]at cp cq;have dn:=A_ co;obtain⟨aE,bu⟩:=dQ q cp cq;have a7:=A_ bu;obtain⟨dR,dS⟩:=c8 aE (CH bu);have a5:=A_ (by rw[A7n,dn.o]:A7n E t G ab (i+1)=A7c E q G (A7n E t G ab i));have dq:=A_ (aa.sl dp cU);obtain⟨eI,eh⟩:=Sl.intAt dq a7;clear ci aU bu;by_cases cs:aE<0
     ·obtain rfl:aE = -1:=oS
      have a8:=A_ (show RR (λb=>b<O.1.size\/b=h) aY h n n (A7n E t G ab (i+1)) by rw[a5.o,C9b (by rw[A0e a7.o];decide)];exact ai);clear ai cs;go_wp2_with fail;go_roundg g2;case measure=>omega
      case rel=>exact⟨i+1,ch,gN,a8,aa,aK⟩
     obtain⟨z,rfl⟩:∃ z:Nat,aE=z:=⟨aE.toNat,oS⟩
     have cy:z<n:=oS;obtain⟨a,aI,m1,bi,aJ,m2,bj,d9,al,cO,cP,cQ,cL,cM,cN,ca,_,ar⟩:=ai.elem cy;have dk:=A_ (show A7n E t G ab (i+1)=(A7n E t G ab i).set z (A0k a G) by rw[a5.o];exact C8k a7 al);have cV:=A_ ca;have cX:=A_ (bM.keep (λb H=>aa.kp b (bM.lt b H) (DP b H)));obtain⟨aO,_⟩:=B_ (aa.cell aG aH) (j:=0) rfl;obtain⟨aP,_⟩:=B_ (aa.cell aG aH) (j:=1) rfl;obtain⟨aQ,_⟩:=B_ (aa.cell aG aH) (j:=2) rfl;have eg:=GU (aa.cell aG aH);simp at aO aP aQ;clear al ca cs dR dS a5;go_wp2_with fail;refine X_ sI ?_;dsimp only[DJ,DK,DI];iterate 13 refine C_ _ ?_
     refine D_ (BP (A0k a G)) ?_ ?_;·intro ac W T u D;obtain⟨ap,aq⟩:=F_ u;simp at D;refine G_ ?_;exact H_ (A0x _ _ a G _ _ T (cV.below u) (cX.below u))
     refine C_ _ ?_;intro ac W wa u D (aS:Hid _);simp at D;have dZ:=D.2.2.2.2.2.2.2.2.2.2.2.2.2.1;have cF:=D.2.2.2.2.2.2.2.2.2.2.2.2.2.2;have d7:=cF.1.1;obtain⟨⟨Y,bq⟩,aB⟩:=dZ;obtain⟨ba,bD,bf,eE,bd,bF,bh,eF,dx,bz,_,_⟩:=BK Y;rw[dx]at Y;have dU:=u.size
     obtain⟨bA,k1,k2,ev,ew,ex⟩:wa.cell? ⟨h,z*3,I⟩=QL (AC a.1.1)/\wa.cell? ⟨h,z*3+1,I⟩=QL (S aI m1 bi)/\wa.cell? ⟨h,z*3+2,I⟩=QL (S aJ m2 bj)/\wa.frozen? ⟨h,z*3,I⟩=AF/\wa.frozen? ⟨h,z*3+1,I⟩=AF/\wa.frozen? ⟨h,z*3+2,I⟩=AF :=
      ⟨(u.cell (p:=⟨h,_,I⟩) ar).trans cO,(u.cell (p:=⟨h,_,I⟩) ar).trans cP,(u.cell (p:=⟨h,_,I⟩) ar).trans cQ,(u.frozen (p:=⟨h,_,I⟩) ar).trans cL,(u.frozen (p:=⟨h,_,I⟩) ar).trans cM,(u.frozen (p:=⟨h,_,I⟩) ar).trans cN⟩
     have a8:=A_ (show RR (λb=>b<O.1.size\/b=h) (((wa.setCell ⟨h,z*3,I⟩ (AC (A0k a G).1.1)).setCell ⟨h,z*3+1,I⟩ (S ba bD bf)).setCell ⟨h,z*3+2,I⟩ (S bd bF bh)) h n n (A7n E t G ab (i+1)) by rw[dk.o];exact(ai.below u).set cy Y (λb H bn=>by have bl:=(aB b H).1;rcases bn with dD|dD<;>omega));have di:=A_ (show Kp [h] w3 (((wa.setCell ⟨h,z*3,I⟩ (AC (A0k a G).1.1)).setCell ⟨h,z*3+1,I⟩ (S ba bD bf)).setCell ⟨h,z*3+2,I⟩ (S bd bF bh))from(aa.o.below u).set sI _ _ _ _ _ _);have cR:=A_ (show Bw O (((wa.setCell ⟨h,z*3,I⟩ (AC (A0k a G).1.1)).setCell ⟨h,z*3+1,I⟩ (S ba bD bf)).setCell ⟨h,z*3+2,I⟩ (S bd bF bh))from(((AI aK u).setCell (p:=⟨h,_,I⟩) br _).setCell (p:=⟨h,_,I⟩) br _).setCell (p:=⟨h,_,I⟩) br _);generalize W 13=eJ at *;clear D aS cF Y bq aB bz u ai aa aK cO cP cQ cL cM cN dU aO aP aQ;go_wp2_with fail;go_roundg g2;case measure=>omega
     case rel=>exact⟨i+1,ch,gN,a8,di,cR⟩
    obtain rfl:i=3:=oS;have dr:=A_ (by rw[a4.o];exact ai:RR (λb=>b<O.1.size\/b=h) aY h n n (A4v p E n (k+1)));clear ci aU ai aa;go_wp2_with fail;go_roundg g;case measure=>omega
    case rel=>exact⟨k+1,dL,gN,dr,aK⟩
  obtain rfl:k=n1:=oS;have dJ:¬ ((k:Int)<k):=oS;obtain⟨ds,cv,_⟩:=aN.sl;have df:=A_ cv;have dj:=A_ (show ∀ x∈A4v p E n k,B4q x from C7x (P:=B4q) C9z (D5e 0 1) p E n k);clear cj aV cv;go_wp2_with fail;refine(A2l _ n n _ ds wr df.o oS dj.o).mono ?_;rintro _ aY ⟨bK,cA,b4,bY,rfl,cu,cm,cc⟩;have bX:=A_ cu;have c5:=A_ cm;have c0:=A_ (AI az cc);clear cu cm cc;go_wp2_with fail;refine(A5p bK cA b4 _ bY aY bX.o (by rw[<-bS.o];exact c6)).mono ?_;rintro _ eH ⟨rfl,cd⟩;have a2:=A_ cd;clear cd;go_wp2;go_ret;rw[bS.o];exact⟨bK,cA,b4,bY,rfl,bX.below a2,(c5.older az.size).below a2,AI c0 a2⟩
end
theorem Sl.ratAt {w:J} {g c:Nat} {n o:Nat} {xs:List TRat} {bs:List Nat} (h:Sl w (QL ⟨g,o,I⟩) n c xs bs) {k:Nat} {x:TRat} (b:xs[k]?=QL x) :
  ∃ (A1:Option AH) (n1 c1:Nat) (A2:Option AH) (n2 c2:Nat) (fs:List Nat),g<w.1.size/\w.cell? ⟨g,o+k*3,I⟩=QL (AC x.1.1)/\w.cell? ⟨g,o+k*3+1,I⟩=QL (S A1 n1 c1)/\w.cell? ⟨g,o+k*3+2,I⟩=QL (S A2 n2 c2)/\Agg w (AM #[AC x.1.1,S A1 n1 c1,S A2 n2 c2]) x fs:=by
 have O:k<n:=by rw[<-h.1];exact(CQ.1 b).1
 obtain⟨W,X,y,A1,n1,c1,Y,A2,n2,c2,Z,e,H,T,u,D,E,G⟩:=TRat.elemA h O;injection e with e;injection e with ea eb _;subst ea;subst eb;obtain rfl:y=x:=by rw[T]at b;exact Option.some.inj b
 exact⟨A1,n1,c1,A2,n2,c2,_,H,u,D,E,G⟩
structure At1 (w:J) (v:AJ) (r:TRat) (g o c g1 o1 c1 g2 o2 c2:Nat) (s2:List Nat):Prop where
 v:v=AM #[S (QL ⟨g,o,I⟩) 1 c]
 gl:g<w.1.size
 h0:w.cell? ⟨g,o,I⟩=QL (S (QL ⟨g1,o1,I⟩) 1 c1)
 h1:w.cell? ⟨g,o+1,I⟩=QL (S (QL ⟨g2,o2,I⟩) 1 c2)
 g1l:g1<w.1.size
 hc:w.cell? ⟨g1,o1,I⟩=QL (N K 0)
 sl:Sl w (QL ⟨g2,o2,I⟩) 1 c2 [r] s2
theorem at1 {w:J} {v:AJ} {r:TRat} {s:List Nat} (h:Agg w v (B4o (QL r)) s):∃ g o c g1 o1 c1 g2 o2 c2 s2,At1 w v r g o c g1 o1 c1 g2 o2 c2 s2:=by
 obtain⟨A,n,c,Z,rfl,rfl,b⟩:=NQ h;obtain rfl:1=n:=by rw[<-b.1];rfl
 obtain⟨g,o,x,X,n1,c1,aa,Y,n2,c2,W,rfl,O,u,E,G,k1,k2,_⟩:=TRow.elem b (by decide:0<1);simp[B4o]at u;subst u;obtain rfl:1=n1:=by rw[<-k1.1];rfl
 obtain rfl:1=n2:=by rw[<-k2.1];rfl
 obtain⟨g1,o1,y,rfl,T,D,_,H⟩:=Sl.getInt k1 (by decide:0<1);simp at D;subst D;obtain⟨g2,o2,_,rfl,_⟩:=k2.2.2.2.2 dE;exact⟨g,o,c,g1,o1,c1,g2,o2,c2,W,rfl,O,by simpa using E,by simpa using G,T,by simpa using H,k2⟩
theorem C0t:A4f 309:=λa w=>kR
theorem E1x {r:TRat} (b:R_ r≠0):(A2v r==0)=AF:=by
 unfold A2v sgn;simp;split;·omega
 split<;>omega
theorem C3f (v:AJ) (x:TRat) (b:List Nat) (w:J) (h:Agg w v x b) (D:J_ x=AD) (E:R_ x≠0):AR prog 309 #[v] w (A0b w (AC AF)):=by
 have H:=A_ h;have u:=A_ (ratOkB_iff.1 D);have Z:=E1x E;obtain⟨X,n1,aa,ad,Y,n2,ab,ae,rfl,rfl,O,T⟩:=BK h;clear O T h D E;go_enter func309,ntmps309;go_wp2_with fail;refine(A7y _ x _ _ (H.below Below.go) u.mag (A4h u.1)).mono ?_;rintro _ W ⟨rfl,ac⟩;have G:=A_ (show Bw w W from Below.go);go_wp2;go_ret;exact⟨rfl,G⟩
theorem C5k (v:AJ) (s:List Nat) (w:J) (h:Agg w v (B4o I) s):AR prog 303 #[v] w (A0b w (AC AD)):=by
 obtain⟨A,n,c,u,rfl,rfl,b⟩:=NQ h;obtain rfl:0=n:=by rw[<-b.1];rfl
 clear h b;go_enter func303,ntmps303;go_wp2_with fail;refine IG 1 ?_;rw[FH];go_wp2;go_ret;exact⟨rfl,Below.go⟩
theorem C7g (v:AJ) (r:TRat) (s:List Nat) (w:J) (Y:Agg w v (B4o (QL r)) s) (ok:Ok1 (QL r)):AR prog 303 #[v] w (A0b w (AC AD)):=by
 have D:=A_ ok;obtain⟨g,o,c,E,o1,ag,ah,o2,O,Z,⟨rfl,ap,ai,aj,aq,ak,X⟩⟩:=at1 Y;have H:=A_ X;have ar:E<w.1.size+1:=oS;have au:E<w.1.size+1+1:=oS;clear Y ok X;go_enter func303,ntmps303;go_wp2_with fail;refine IG 2 ?_;rw[FH];go_wp2_with fail;refine(A5n _ 1 O [r] Z _ (H.o.below Below.go) (by simp;exact D.1)).mono ?_;rintro _ b ⟨rfl,h⟩;obtain⟨al,an⟩:=F_ h;have ax:w.1.size<b.1.size:=ltg h;have ay:w.1.size+1<b.1.size:=ltg h;have G:=A_ (show Bw w b from Below.go);clear h;go_wp2_with fail;have C:=A7e 309 C0t _ 1 O [r] Z b (λ_=>AF) (H.below G) (λv x ae ad W af=>by simp at W;subst W;exact C3f v x ae ad af D.1 D.2);rw[show [r].any (λ_=>AF)=AF from rfl]at C;refine C.mono ?_;clear C;rintro _ aa ⟨rfl,u⟩;obtain⟨am,ao⟩:=F_ u;have az:w.1.size+1<aa.1.size:=by have:=u.size;omega
 have aw:E<b.1.size:=oS;have ab:=A_ (AI G u);clear u;go_wp2_with fail;refine IG 2 ?_;rw[FH];go_wp2_with fail;refine(A0s 0 0 0 aa).mono ?_;rw[show inB 0 0 0=AD from rfl];rintro _ w3 ⟨rfl,T⟩;have ac:=A_ (AI ab T);clear T;go_wp2_with fail;rw[FH];go_wp2_with fail;rw[FH];go_wp2;go_ret;exact⟨rfl,ac⟩
theorem B7c (v:AJ) (q:Option TRat) (s:List Nat) (w:J) (b:Agg w v (B4o q) s) (ok:Ok1 q):AR prog 303 #[v] w (A0b w (AC AD)):=by
 cases q with
 |none=>exact C5k v s w b
 |some r=>exact C7g v r s w b ok
theorem C2r (r:TRat) (w:J) (g o c h o1 T b o2 Y:Nat) (D:Option AH) (n1 G:Nat) (E:Option AH) (n2 H:Nat) (ag:g<w.1.size) (aa:w.cell? ⟨g,o,I⟩=QL (S (QL ⟨h,o1,I⟩) 1 T)) (ab:w.cell? ⟨g,o+1,I⟩=QL (S (QL ⟨b,o2,I⟩) 1 Y)) (ah:h<w.1.size) (ad:w.cell? ⟨h,o1,I⟩=QL (N K 0)) (al:b<w.1.size)
  (u0:w.cell? ⟨b,o2,I⟩=QL (AC r.1.1)) (u1:w.cell? ⟨b,o2+1,I⟩=QL (S D n1 G)) (u2:w.cell? ⟨b,o2+2,I⟩=QL (S E n2 H)):AR prog 284 #[AM #[S (QL ⟨g,o,I⟩) 1 c],N K 0,N K 0] w (A0b w (AM #[AC r.1.1,S D n1 G,S E n2 H])):=by
 have aj:g<w.1.size+1:=oS;have ak:g<w.1.size+1+1:=oS;have ai:h<w.1.size+1:=oS;have am:b<w.1.size+1:=oS;have an:b<w.1.size+1+1:=oS;go_enter func284,ntmps284;go_wp2_with fail;refine(E7f h o1 1 T [0] 0 _ sI dE (λj Z=>?_) sI).mono ?_
 ·obtain rfl:j=0:=by simpa using Z
  go_simp
 rintro _ O ⟨rfl,q,W⟩;have u:=Go.XB.below_drewN ((w.alloc (AK #[S (QL ⟨g,o,I⟩) 1 c] 225)).alloc (AK #[AC AF,S I 0 0,S I 0 0] 35)) q;rw[<-W]at u;clear W;rw[show((List.countP (λx=>decide (x<(0:Int))) (List.take 1 [0]):Nat):Int)=0 from rfl,show(List.take 1 [(0:Int)]).contains 0=AD from rfl];obtain⟨ae,af⟩:=F_ u;have ao:w.1.size<O.1.size:=ltg u;have ap:w.1.size+1<O.1.size:=ltg u;have X:=A_ (show Bw w O from Below.go);clear u;go_wp2;refine BI (v:=AM #[AC r.1.1,S D n1 G,S E n2 H]) (by simp[BO,results284,go_sem, *]) rfl ?_;have ac:=X.o;exact⟨rfl,Below.go⟩
theorem D8i (v:AJ) (r:TRat) (s:List Nat) (w:J) (ae:Agg w v (B4o (QL r)) s):AR prog 284 #[v,N K 0,N K 0] w (C4o w r):=by
 obtain⟨g,o,c,O,o1,u,T,o2,D,af,⟨rfl,aa,W,X,ab,Z,ad⟩⟩:=at1 ae;obtain⟨b,n1,E,h,n2,G,H,ac,u0,u1,u2,Y⟩:=Sl.ratAt ad (k:=0) rfl;simp at u0 u1 u2;exact(C2r r w g o c O o1 u T o2 D b n1 E h n2 G aa W X ab Z ac u0 u1 u2).mono λ_ _ ⟨he,hb⟩=>⟨_,H,he,Y.below hb,hb⟩
theorem C0a (v:AJ) (s:List Nat) (w:J) (h:Agg w v (B4o I) s):AR prog 282 #[v] w (A0b w (AC AD)):=by
 have G:=A_ h;obtain⟨A,n,c,W,rfl,rfl,u⟩:=NQ h;obtain rfl:0=n:=by rw[<-u.1];rfl
 clear h u;go_enter func282,ntmps282;go_wp2_with fail;refine(B7c _ I _ _ (G.below Below.go) trivial).mono ?_;rintro _ D ⟨rfl,b⟩;obtain⟨H,O⟩:=F_ b;have T:w.1.size<D.1.size:=ltg b;have E:=A_ (show Bw w D from Below.go);clear b;go_wp2_with fail;refine IG 1 ?_;rw[FH];go_wp2;go_ret;exact⟨rfl,E⟩
theorem B9r (v:AJ) (r:TRat) (s:List Nat) (w:J) (O:Agg w v (B4o (QL r)) s) (ok:Ok1 (QL r)):AR prog 282 #[v] w (A0b w (AC AD)):=by
 have Z:=A_ O;have al:=A_ ok;obtain⟨g,o,c,G,o1,ab,ad,o2,ac,aN,⟨rfl,aD,am,an,aE,ao,af⟩⟩:=at1 O;have ak:=A_ af;have aH:g<w.1.size+1:=oS;have aF:G<w.1.size+1:=oS;clear O ok af;go_enter func282,ntmps282;go_wp2_with fail;refine(B7c _ (QL r) _ _ (Z.below Below.go) al).mono ?_;rintro _ u ⟨rfl,H⟩;obtain⟨ap,au⟩:=F_ H;have aK:w.1.size<u.1.size:=ltg H;have W:=A_ (show Bw w u from Below.go);have aG:G<u.1.size:=oS;clear H;go_wp2_with fail;refine IG 2 ?_;rw[FH];go_wp2_with fail;refine IG 2 ?_;rw[FH];go_wp2_with fail;obtain⟨D,E⟩:∃ D,D=u.alloc (AK #[S (QL ⟨G,o1,I⟩) 1 ab,S (QL ⟨ad,o2,I⟩) 1 ac] 334):=⟨_,rfl⟩
 have X:=A_ (by rw[E];exact AV _:Bw u D);have aa:=A_ (by rw[E];exact CF u _:D.1[u.1.size]?=QL (AK #[S (QL ⟨G,o1,I⟩) 1 ab,S (QL ⟨ad,o2,I⟩) 1 ac] 334));have aL:=GU aa;have aM:D.cell? ⟨w.1.size,0,I⟩=QL (S (QL ⟨g,o,I⟩) 1 c):=by rw[E];go_simp
 have aJ:w.1.size<D.1.size:=oS;rw[<-E];clear E ap au;obtain⟨p2,_⟩:=B_ aa (j:=1) rfl;simp at p2;obtain⟨ay,n1,aA,az,n2,aB,aC,aI,u0,u1,u2,ae⟩:=Sl.ratAt ((ak.below W).below X) (k:=0) rfl;simp at u0 u1 u2;have ai:=A_ ae;clear ae am an ao;have Y:=A_ (AI W X);refine A0g ?_;iterate 8 refine C_ _ ?_
 refine D_ (MP.aggS r) ?_ ?_;·intro ag ah T b h;obtain⟨aq,aw⟩:=F_ b;simp at h;refine G_ ?_;exact A7t (D8i _ r _ T (Z.below (AI Y b)))
 refine D_ (MP.eq (AC AD)) ?_ ?_;·intro ag ah T b h;obtain⟨aq,aw⟩:=F_ b;simp at h;refine G_ ?_;obtain⟨aP,_,aO,ax⟩:=h;exact A0i (by have C:=A2s _ _ r r _ _ T (ai.below b) ax;rw[decide_eq_true rfl]at C;exact C)
 refine C_ _ ?_;intro ag ah wa b h ar;clear ar;simp at h;go_simp;have aj:=A_ (AI Y b);clear h;go_wp2_with fail;rw[FH];go_wp2_with fail;rw[FH];go_wp2;go_ret;exact⟨rfl,aj⟩
theorem B3d (v:AJ) (q:Option TRat) (s:List Nat) (w:J) (b:Agg w v (B4o q) s) (ok:Ok1 q):AR prog 282 #[v] w (A0b w (AC AD)):=by
 cases q with
 |none=>exact C0a v s w b
 |some r=>exact B9r v r s w b ok
section
def D6x:Option TRat->TFactor
 |none=>⟨[],[]⟩
 |some r=>⟨[[]],[r]⟩
def D1z (w:J) (o:Option TRat) (e:Ending) (w':J):Prop:=∃ v s,e=.returned (.tuple #[v,AC AD])/\Agg w' v (D6x o) s/\(∀ b∈s,w.1.size<=b)/\Bw w w'
attribute [local go_sem] D2s
theorem E6d:(prog.info? 27).map (λi=>(i.zero,i.size,i.bytes))=QL (QL (S I 0 0),1,24):=kR
theorem D3q (u:Option AH) (aa T:Nat) (D:Option AH) (n1 W:Nat) (b:AJ) (r:TRat) (O:List Nat) (B:Option AH) (d:Nat) (E:Option AH) (Z:Nat) (w:J) (h:Agg w b r O) :
  AR prog 283 #[AM #[S u aa T,S D n1 W],b,S B 0 d,S E 0 Z] w (A0b w b):=by
 obtain⟨G,ab,X,ad,H,ac,Y,ae,rfl,rfl,_,_⟩:=BK h;clear h;go_enter func283,ntmps283;go_wp2_with fail;refine IG 1 ?_;rw[FH];go_wp2;refine BI (v:=AM #[AC r.1.1,S G ab X,S H ac Y]) (by simp[BO,results283,go_sem, *]) rfl ?_;exact⟨rfl,Below.go⟩
theorem D1t (v:AJ) (s:List Nat) (w:J) (h:Agg w v (B4o I) s):AR prog 230 #[v] w (D1z w I):=by
 have G:=A_ h;obtain⟨A,n,c,aa,rfl,rfl,D⟩:=NQ h;obtain rfl:0=n:=by rw[<-D.1];rfl
 clear h D;go_enter func230,ntmps230;go_wp2_with fail;refine(B3d _ I _ ((w.alloc (AK #[S A 0 c] 225)).alloc (AK #[S I 0 0,S I 0 0] 273)) (G.below Below.go) trivial).mono ?_;rintro _ u ⟨rfl,b⟩;obtain⟨W,X⟩:=F_ b;have Y:w.1.size<u.1.size:=ltg b;have Z:w.1.size+1<u.1.size:=ltg b;have E:=A_ (show Bw w u from Below.go);go_wp2_with fail;refine IG 1 ?_;rw[FH];go_wp2;refine BI (v:=.tuple #[AM #[S I 0 0,S I 0 0],AC AD]) (by simp[BO,results230,go_sem, *]) rfl ?_;have T:=E.o;exact⟨_,[],rfl,TFactor.mkAgg (x:=D6x I) (Sl.nil _) (Sl.nil _),(λO H=>by simp at H),Below.go⟩
theorem D3e (v:AJ) (r:TRat) (s:List Nat) (w:J) (a3:Agg w v (B4o (QL r)) s) (ok:Ok1 (QL r)) (bu:0<R_ r):AR prog 230 #[v] w (D1z w (QL r)):=by
 have bZ:=A_ a3;have aR:=A_ ok;have b5:=A_ (by unfold A9m;rw[if_pos ok.1];unfold A2v sgn;rw[if_neg oS,if_pos bu]:A9m r=1);obtain⟨g,o,c,bj,o1,cb,aE,o2,cc,dk,⟨rfl,aI,bl,aS,aX,bn,bz⟩⟩:=at1 a3;obtain⟨cy,ch,cj,ck,cm⟩:=DW E6d;obtain⟨i2,cp,ct,cu,cx⟩:=DW B2r;obtain⟨ab,n1,ae,ac,n2,af,c6,aw,u0,u1,u2,bm⟩:=Sl.ratAt bz (k:=0) rfl;simp at u0 u1 u2;have aL:=A_ bm
 have bN:=A_ (show ∀ an:J,Bw w an->AR prog 284 #[AM #[S (QL ⟨g,o,I⟩) 1 c],N K 0,N K 0] an (A0b an (AM #[AC r.1.1,S ab n1 ae,S ac n2 af]))from λan aa =>
  C2r r an g o c bj o1 cb aE o2 cc ab n1 ae ac n2 af (JB aI aa.size) ((aa.cell (p:=⟨g,o,I⟩) aI).trans bl) ((aa.cell (p:=⟨g,o+1,I⟩) aI).trans aS) (JB aX aa.size) ((aa.cell (p:=⟨bj,o1,I⟩) aX).trans bn) (JB aw aa.size) ((aa.cell (p:=⟨aE,o2,I⟩) aw).trans u0) ((aa.cell (p:=⟨aE,o2+1,I⟩) aw).trans u1) ((aa.cell (p:=⟨aE,o2+2,I⟩) aw).trans u2))
 clear a3 ok bu bl aS bn bz aX aI aw u0 u1 u2 bm;go_enter func230,ntmps230;go_wp2_with fail;refine(B3d _ (QL r) _ ((w.alloc (AK #[S (QL ⟨g,o,I⟩) 1 c] 225)).alloc (AK #[S I 0 0,S I 0 0] 273)) (bZ.below Below.go) aR).mono ?_;rintro _ G ⟨rfl,aT⟩;have aM:=A_ (show Bw w G from Below.go);have be:=A_ (show G.1[w.1.size]?=QL (AK #[S (QL ⟨g,o,I⟩) 1 c] 225)from O_ (A1y [_,_] w 0 _ rfl) (aT.mono (BH _)));have bf:=A_ (show G.1[w.1.size+1]?=QL (AK #[S I 0 0,S I 0 0] 273)from O_ (A1y [_,_] w 1 _ rfl) (aT.mono (BH _)));have cw:=GU bf;have cv:w.1.size<G.1.size:=oS;obtain⟨cz,_⟩:=B_ be (j:=0) rfl;simp at cz;clear aT;go_wp2_with fail;refine IG 2 ?_;rw[FH];go_wp2_with fail;refine IG 1 ?_;rw[FH];go_wp2_with fail;obtain⟨Y,ar⟩:∃ Y,Y=(G.alloc (AK #[S I 0 0,S I 0 0] 273)).alloc (AK #[] 35):=⟨_,rfl⟩
 obtain⟨h,al⟩:∃ h,G.1.size=h:=⟨_,rfl⟩
 have ay:=A_ (by rw[ar];exact B3z [_,_] G:Bw G Y);have aD:=A_ (by rw[ar,<-al];exact A1y [_,_] G 0 _ rfl:Y.1[h]?=QL (AK #[S I 0 0,S I 0 0] 273));have b4:=A_ (by rw[ar,<-al];exact A1y [_,_] G 1 _ rfl:Y.1[h+1]?=QL (AK #[] 35));rw[<-ar,al];rw[al]at cw cv;have bW:=A_ al;clear ar al;have df:=GU b4;have dg:h<Y.1.size:=oS;have dd:w.1.size<Y.1.size:=oS;obtain⟨aj,_⟩:=B_ aD (j:=0) rfl;obtain⟨aq,_⟩:=B_ aD (j:=1) rfl;obtain⟨bA,_⟩:=B_ (O_ be ay) (j:=0) rfl;simp at aj aq bA;have aP:=A_ (AI aM ay);refine X_ sI ?_;dsimp only[DJ,DK,DI];iterate 4 refine C_ _ ?_
 refine D_ (MP.eq (AM #[AC r.1.1,S ab n1 ae,S ac n2 af])) ?_ ?_;·intro am ax T E D;obtain⟨bo,bp⟩:=F_ E;simp at D;refine G_ ?_;exact A0i (bN T (AI aP E))
 iterate 2 refine C_ _ ?_
 refine D_ (MP.eq (AM #[AC r.1.1,S ab n1 ae,S ac n2 af])) ?_ ?_;·intro am ax T E D;obtain⟨bo,bp⟩:=F_ E;simp at D;refine G_ ?_;exact A0i (D3q I 0 0 I 0 0 _ r _ (QL ⟨h+1,0,I⟩) 0 (QL ⟨h+1,0,I⟩) 0 T (aL.below (AI aP E)))
 refine A1p #[AC AF,S I 0 0,S I 0 0] 35 ?_ ?_;·intro am ax T E D;refine⟨gD,?_⟩;go_simp
 intro am ax wa E D aW;clear aW;simp at D;have bB:=D.2.2.2.2.2.2.2.1;have cF:=D.2.2.2.2.2.2.2.2;have c4:=bB.1.1;obtain⟨⟨W,c5,z8,aY⟩,a2⟩:=cF;rw[z8]at a2;have aZ:Y.1.size<=W:=(a2 W sI).1;obtain⟨a4,p1,-⟩:=bx aY;obtain⟨ao,aF⟩:∃ ao,ao=(((wa.setCell ⟨W,0,I⟩ (AC r.1.1)).setCell ⟨W,1,I⟩ (S ab n1 ae)).setCell ⟨W,2,I⟩ (S ac n2 af)):=⟨_,rfl⟩
 have bY:=A_ aF;have a8:=A_ (show Bw Y ao by rw[aF];exact((E.setCell (p:=⟨W,0,I⟩) aZ _).setCell (p:=⟨W,1,I⟩) aZ _).setCell (p:=⟨W,2,I⟩) aZ _);have bg:=A_ (show ao.1[W]?=QL (AK #[AC r.1.1,S ab n1 ae,S ac n2 af] 35) by rw[aF];exact A0u (A0u (A0u aY)));clear D bB a2 aY E z8 aF aj aq bA;go_upto_region 14 with fail;rw[<-bY.o];clear a4 p1;have bU:=A_ (AI aP a8);have bM:=A_ (aL.below bU);obtain⟨a4,-,-⟩:=bx bg;go_wp2_with fail;have C:=B8u _ r _ ao bM;rw[b5.o]at C;refine C.mono ?_;clear C;rintro _ bF ⟨rfl,aU⟩;have bR:=A_ aU;have bT:=A_ (AI a8 aU);clear aU a4;go_wp2_with fail;have b8:=A_ (show Sl bF (QL ⟨h+1,0,I⟩) 0 0 ([]:List TRat) []from⟨rfl,BH _,dE,λ_=>rfl,λak=>absurd ak dE⟩);refine(A5p _ 0 0 [] [] bF b8 rfl).mono ?_;rintro _ ai ⟨rfl,aV⟩;have bS:=A_ (AI bR aV);have aO:=A_ (AI bT aV);have b3:=A_ (O_ aD aO);have de:=aO.size;have dh:h<ai.1.size:=oS;obtain⟨aj,aq⟩:=B_ b3 (j:=0) rfl;simp at aj;clear aV;go_wp2_with (at_builtin;refine A8l rfl _ _ 271 rfl 27 cy (S I 0 0) 1 24 underlying271 ch cj ck cm rfl dE gD ⟨ai.1.size,0,I⟩ 1 [S (QL ⟨h+1,0,I⟩) 0 0] gD rfl (A0a (CF ai _)) (by simp[Value.oneCell']) dE ?_;intro O ad a7 bs aH bq;have cR:=(aH.cell (p:=⟨h,0,I⟩) oR).trans (((AV (w:=ai) (AK #[S (QL ⟨h+1,0,I⟩) 0 0] 27)).cell (p:=⟨h,0,I⟩) oR).trans aj);have cU:=(aH.frozen (p:=⟨h,0,I⟩) oR).trans (((AV (w:=ai) (AK #[S (QL ⟨h+1,0,I⟩) 0 0] 27)).frozen (p:=⟨h,0,I⟩) oR).trans aq));obtain⟨H,ah⟩:∃ H,H=a7.setCell ⟨h,0,I⟩ (S (QL ⟨O,0,I⟩) 1 ad):=⟨_,rfl⟩
 have a9:=A_ (show Bw ai a7 from AI (AV _) aH);have c9:ai.1.size<O:=by simp at bq;omega
 have aN:=A_ (AI aO a9);have br:G.1.size<=h:=by rw[bW.o];exact BH _
 have aB:=A_ (by rw[ah];exact A0u (O_ aD aN):H.1[h]?=QL (AK #[S (QL ⟨O,0,I⟩) 1 ad,S I 0 0] 273));have aC:=A_ (by rw[ah];exact(DQ _ _ _ _ oR).trans (O_ bg.o (AI bS.o a9.o)):H.1[W]?=QL (AK #[AC r.1.1,S ab n1 ae,S ac n2 af] 35));have b0:=A_ (by rw[ah];exact(DQ _ _ _ _ oR).trans (O_ (O_ bf.o ay.o) aN.o):H.1[w.1.size+1]?=QL (AK #[S I 0 0,S I 0 0] 273));have b9:=A_ (show Dat.at_ a7 [S (QL ⟨h+1,0,I⟩) 0 0] ([]:List TRat) []from⟨_,_,_,rfl,⟨rfl,BH _,dE,λ_=>rfl,λak=>absurd ak dE⟩⟩);have b6:=A_ (show Sl H (QL ⟨O,0,I⟩) 1 ad [([]:List TRat)] [O] by rw[ah];exact(B5e (α:=List TRat) bs b9.o).keep (λu b=>DQ _ _ _ _ (by simp at b;subst b;simp;omega)));have ba:=A_ (by rw[ah];exact(AI ay aN).setCell (p:=⟨h,0,I⟩) br _:Bw G H);have da:h<H.1.size:=GU aB;have db:W<H.1.size:=GU aC;rw[<-ah];clear ah bs aH bq cR cU aj aq;obtain⟨aJ,bK⟩:=B_ aB (j:=1) rfl;obtain⟨bG,cK⟩:=B_ aC (j:=0) rfl;obtain⟨bH,cL⟩:=B_ aC (j:=1) rfl;obtain⟨bI,cM⟩:=B_ aC (j:=2) rfl;simp at aJ bG bH bI;have bV:=A_ (AI aM ba);refine W_ 5 kR kR kR kR kR ?_;simp only[GE,ET,GG,EH];iterate 3 refine C_ _ ?_
 refine D_ (BP r) ?_ ?_;·intro am ax T E D;obtain⟨bo,bp⟩:=F_ E;simp at D;refine G_ ?_;exact H_ (A3n _ _ _ T (aL.below (AI bV E)) (BM (B1b aR.1).1 dE) (BM (B1b aR.1).2 dE))
 refine A1d (λbJ=>MP.slbox (bJ 3).cells 35) (by intro y bJ ak;simp[N_,M_]at ak;simp[ak]) ?_ ?_;·intro am ax T E D;simp at D;obtain⟨cV,di,cX,cZ,cW,dj,cY,c2,cf,_,_,_⟩:=BK D.1;refine⟨gD,S (QL ⟨T.1.size,0,I⟩) 1 1,T.alloc (AK (am 3).cells 35),?_,AV _,[T.1.size],⟨T.1.size,rfl,rfl,CF T _⟩,sI⟩;rw[cf];go_simp
 intro cO bL wb E D aW;clear aW;simp at D;have q1:=D.2.1;have cD:=D.2.2.2.1;have cE:=D.2.2.2.2;obtain⟨⟨aG,cn⟩,bv⟩:=cD;obtain⟨bO,cA,cd,c7,bP,cB,ce,c8,cg,cP,m1,m2⟩:=BK aG;obtain⟨⟨ci,c1,cQ,a1⟩,cs⟩:=cE;rw[cg]at a1 aG;have aK:=A_ (A3x aG);have bd:=A_ (show ∀ u∈bL 3,H.1.size<=u from λu b=>(bv u b).1);have aA:=A_ E;have bX:=A_ a1;have c0:cO 1=S I 0 0:=q1.1.1;generalize bL 3=a5 at *;clear D aG cn bv cP m1 m2 a1 cs cQ q1 E;obtain⟨a6,bD⟩:=B_ (O_ aB aA) (j:=1) rfl;simp at a6;have cq:h<wb.1.size:=by have:=aA.size;omega
 go_wp2_with (at_builtin;refine A8l rfl _ _ 27 rfl 35 i2 (AM #[AC AF,S I 0 0,S I 0 0]) 3 56 underlying27 cp ct cu cx rfl dE gD ⟨ci,0,I⟩ 1 [AC r.1.1,S bO cA cd,S bP cB ce] gD rfl (A0a bX) (Dat.one aK) dE ?_;intro Z ap bE bt au co;have cG:=(au.cell (p:=⟨h,1,I⟩) oR).trans a6;have cH:=(au.frozen (p:=⟨h,1,I⟩) oR).trans bD);obtain⟨X,ag⟩:∃ X,X=bE.setCell ⟨h,1,I⟩ (S (QL ⟨Z,0,I⟩) 1 ap):=⟨_,rfl⟩
 have az:=A_ (show Bw H bE from AI aA au);have dc:H.1.size<=Z:=by have:=aA.size;omega
 have bi:=A_ (by rw[ag];exact A0u (O_ aB az):X.1[h]?=QL (AK #[S (QL ⟨O,0,I⟩) 1 ad,S (QL ⟨Z,0,I⟩) 1 ap] 273));have bh:=A_ (by rw[ag];exact(DQ _ _ _ _ oR).trans (O_ b0.o az.o):X.1[w.1.size+1]?=QL (AK #[S I 0 0,S I 0 0] 273));have ca:=A_ (show Sl X (QL ⟨Z,0,I⟩) 1 ap [r] (Z::a5) by
  rw[ag]
  exact(B5e (α:=TRat) bt (Dat.keep aK (λu b=>au.block u (Dat.lt aK u b)))).keep (λu b=>DQ _ _ _ _ (by
   simp;rcases EM.1 b with rfl|b
   ·omega
   have:=bd u b;omega)))
 have b7:=A_ (show Sl X (QL ⟨O,0,I⟩) 1 ad [([]:List TRat)] [O] by rw[ag];exact(b6.o.below az.o).keep (λu b=>DQ _ _ _ _ (by simp at b;subst b;simp;omega)));have bQ:=A_ (by rw[ag];exact(AI ba az).setCell (p:=⟨h,1,I⟩) br _:Bw G X);rw[<-ag];clear ag bt au co cG cH a6 bD aJ bK bG cK bH cL bI cM cq;obtain⟨cN,dn⟩:=B_ bi (j:=0) rfl;obtain⟨aJ,bK⟩:=B_ bi (j:=1) rfl;obtain⟨cI,dl⟩:=B_ bh (j:=0) rfl;obtain⟨cJ,dm⟩:=B_ bh (j:=1) rfl;simp at cN aJ cI cJ;rw[FH];go_wp2;refine BI (v:=.tuple #[AM #[S (QL ⟨O,0,I⟩) 1 ad,S (QL ⟨Z,0,I⟩) 1 ap],AC AD]) (by simp[BO,results230,go_sem, *]) rfl ?_
 have aQ:=A_ (show ∀ u∈[O]++(Z::a5),w.1.size+1<u from λu b=>by
   rcases CO.1 b with b|b;·simp at b;subst b;omega
   rcases EM.1 b with rfl|b;·omega
   have aS:=bd u b;omega)
 have bc:=A_ (show ∀ u∈[O]++(Z::a5),((X.setCell ⟨w.1.size+1,0,I⟩ (S (QL ⟨O,0,I⟩) 1 ad)).setCell ⟨w.1.size+1,1,I⟩ (S (QL ⟨Z,0,I⟩) 1 ap)).1[u]?=X.1[u]? from λu b=>(DQ _ _ _ _ (by have:=aQ u b;simp;omega)).trans (DQ _ _ _ _ (by have:=aQ.o u b;simp;omega)));exact⟨_,_,rfl,TFactor.mkAgg (x:=D6x (QL r)) (b7.keep (λu b=>bc u (List.mem_append_left _ b))) (ca.keep (λu b=>bc u (List.mem_append_right _ b))),(λu b=>by have:=aQ u b;omega),(((AI aM.o bQ.o)).setCell (p:=⟨w.1.size+1,0,I⟩) sI _).setCell (p:=⟨w.1.size+1,1,I⟩) sI _⟩
end
end Go.Proofs.YtbkilakncnlebaaGreatDoor.X
