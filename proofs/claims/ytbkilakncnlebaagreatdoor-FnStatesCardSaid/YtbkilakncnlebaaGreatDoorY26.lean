/- A part of the proof. -/
import Derived.Test.YtbkilakncnlebaaGreatDoorY25
import Derived.Test.YtbkilakncnlebaaGreatDoorY18
set_option linter.constructorNameAsVariable false
set_option maxHeartbeats 16000000
set_option maxRecDepth 10000
open Bool renaming false→AF,true→AD
open Go renaming Addr→AH,Calls→AR,Oper→BU,Program→DZ,TypeId→BS,Value→AJ,World→J,bodyPost_ret→BI,heap_alloc_new→CF,info_parts→DW,lt_of_block→GU,maxLen→BG,results→BO,rounds_succ→FH,wpList→FF,wpList_append_own→IU,wp_loop_rounds→IG
open Go.Obj renaming cells→AK
open Go.RowKit.Below renaming heap_setCell→DQ,refl→CG
open Go.Value renaming agg→AM,bool→AC,int→N,slice→QH
open Go.World renaming ownsRow_made→IW,ownsRow_nil→MO
open Go.World.ownsRow renaming lt→EU
open Go.XB.Below renaming box→AV,next→AI
open Go.XB.Dat renaming sz→DL
open List renaming drop_succ_cons→GG,drop_zero→EH,eq_nil_of_length_eq_zero→IF,flatMap_cons→JK,getElem?_eq_some_iff→CQ,getElem?_map→IE,mem_append→CO,mem_cons→EM,mem_of_getElem?→CH,take_succ_cons→GE,take_zero→ET
open Nat renaming add_assoc→MQ,le_refl→BH,le_succ→JU,le_trans→BM,lt_of_lt_of_le→JB,lt_or_ge→BN,one_mul→KE,zero_le→DV
open Option renaming none→QJ,some→QL
open Option.some renaming inj→FR
namespace Go.Proofs.YtbkilakncnlebaaGreatDoor.X
open Go.RowKit Go.XB Go.XN Proofs.Tryz
theorem E8s {h:J} {g o c:Nat} {r:TRat} {b1:List Nat} {u0 u1 u2:AJ} (X:Agg h (AM #[u0,u1,u2]) r b1) (Y:g<h.1.size) (D:1<=c/\c<=BG)
  (H:h.cell? ⟨g,o,QJ⟩=QL u0) (O:h.cell? ⟨g,o+1,QJ⟩=QL u1) (T:h.cell? ⟨g,o+2,QJ⟩=QL u2):Sl h (QL ⟨g,o,QJ⟩) 1 c [r] (g::b1):=by
 have G:=A3x X;refine⟨rfl,D.1,D.2,λW=>absurd W dE,λ_=>⟨g,o,[b1],rfl,sI,rfl,Y,λk x Z u E=>?_⟩⟩;obtain rfl:k=0:=by have:=(CQ.1 u).1;simp at this;exact this
 simp at u E;subst u;subst E;refine⟨_,λj aa b=>?_,G⟩;match j,b with
 |0,b=>simp at b;subst b;simpa using H
 |1,b=>simp at b;subst b;simpa using O
 |2,b=>simp at b;subst b;simpa using T
theorem C6t {w0 w:J} {bs:List Nat} (h:Own w0 w bs) {b:Nat} (u:b∈bs) (o:Nat):w.frozen? ⟨b,o,QJ⟩=AF:=by
 obtain⟨D,t,e⟩:=(h.2 b u).2;unfold World.frozen?;rw[e];simp
def A7r:Option TRat->List TRat->List TRat
 |some r,y::_=>[A3u y r]
 |_,_=>[]
def B7y (w:J) (xs:List TRat) (e:Ending) (w':J):Prop:=∃ A n c bs,e=.returned (.tuple #[QH A n c,AC AD])/\Sl w' A n c xs bs/\Own w w' bs/\Bw w w'
attribute [local go_sem] L_ Go.XB.opAt N_ M_ Region.wanted yielded
attribute [local simp] N_ M_ MP.eq MP.agg MP.aggS MP.sl MP.slbox A0r
theorem D4y (v:AJ) (s:List Nat) (B:Option AH) (d:Nat) (W:List Nat) (w:J) (b:Agg w v (D6x QJ) s) (X:Sl w B 0 d ([]:List TRat) W):AR prog 231 #[v,QH B 0 d] w (A0w w ([]:List TRat)):=by
 have aj:=A_ b;have ad:=A_ X;obtain⟨ah,af,ak,ap,ai,n1,al,aq,rfl,rfl,aa,ab⟩:=TFactor.agg b;obtain rfl:0=af:=by rw[<-aa.1];rfl
 obtain rfl:0=n1:=by rw[<-ab.1];rfl
 clear b X aa ab;go_enter func231,ntmps231;go_wp2_with fail;refine(A2l B 0 d [] W _ (ad.o.below Below.go) dE (λx b=>by simp at b)).mono ?_;rintro _ E ⟨G,ag,T,O,rfl,D,Z,u⟩;obtain rfl:0=ag:=by rw[<-D.1];rfl
 obtain⟨am,an⟩:=F_ u;have ao:w.1.size<E.1.size:=ltg u;have ac:=A_ (show Bw w E from Below.go);have H:=A_ D;have ae:=A_ (Z.older (w0:=w) sI);clear D Z u;go_wp2_with fail;refine IG 1 ?_;rw[FH];go_wp2_with fail;refine IG 1 ?_;rw[FH];go_wp2_with fail;refine IG 1 ?_;rw[FH];go_wp2_with fail;refine(A5p G 0 T [] O E H rfl).mono ?_;rintro _ ar ⟨rfl,Y⟩;have h:=A_ Y;clear Y;go_wp2;go_ret;exact⟨G,0,T,O,rfl,H.below h,ae.below h,AI ac h⟩
theorem D3p (v:AJ) (r y:TRat) (s:List Nat) (B:Option AH) (d:Nat) (a1:List Nat) (w:J) (ab:Agg w v (D6x (QL r)) s) (u:Sl w B 1 d [y] a1) (bc:J_ r=AD) (aM:J_ y=AD) (a3:r.1.2≠[]) (ok:A2e (A3u y r)=AF) :
  AR prog 231 #[v,QH B 1 d] w (A0w w [A3u y r]):=by
 have b8:=A_ ab;have bn:=A_ u;have bu:=A_ bc;have bv:=A_ aM;have bi:=A_ a3;have bt:=A_ ok;obtain⟨b4,bQ,aY,cu,b5,n1,aZ,cv,rfl,rfl,aI,aq⟩:=TFactor.agg ab;obtain rfl:1=bQ:=by rw[<-aI.1];rfl
 obtain rfl:1=n1:=by rw[<-aq.1];rfl
 obtain⟨ai,ar,cq,bh,bU,cl,cg,rfl,bO,a8,aC,a9,_⟩:=Sl.elemS aI (by decide:0<1);simp[D6x]at a8;subst a8;obtain rfl:0=bU:=by rw[<-a9.1];rfl
 obtain⟨T,Y,_,rfl,_⟩:=aq.2.2.2.2 dE;obtain⟨P1,aK,ax,P2,aL,ay,ch,aE,aN,p1,p2,a4⟩:=Sl.ratAt aq (k:=0) rfl;simp at aC aN p1 p2;have bj:=A_ a4;have br:=A_ (B1b aM);clear ab u aI aq a9 bc aM a3 ok a4;go_enter func231,ntmps231;go_wp2_with fail;refine(A2l B 1 d [y] a1 _ (bn.o.below Below.go) dE (λx ab=>by simp at ab;subst ab;exact br)).mono ?_;rintro _ G ⟨b6,bR,af,bF,rfl,X,aG,ak⟩;obtain rfl:1=bR:=by rw[<-X.1];rfl
 obtain⟨b,h,cb,rfl,a7,_⟩:=X.2.2.2.2 dE;have Z:b∈bF:=by rw[a7];exact List.mem_cons_self ..
 obtain⟨bL,bN⟩:=F_ ak;have cp:w.1.size<G.1.size:=ltg ak;have ac:=A_ (show Bw w G from Below.go);have bo:=A_ (by have:=(aG.2 b Z).1;simp at this;omega:w.1.size<b);have b7:=A_ X;have ad:=A_ (aG.older (w0:=w) sI);have bK:=A_ (show 1<=af/\af<=BG from⟨X.2.1,X.2.2.1⟩);have aV:=A_ (show G.1[w.1.size]?=QL (AK #[QH (QL ⟨ai,ar,QJ⟩) 1 aY,QH (QL ⟨T,Y,QJ⟩) 1 aZ] 273)from O_ (CF w _) ak);have aR:=C6t ad Z h;have aS:=C6t ad Z (h+1);have aT:=C6t ad Z (h+2);have am:=X.lt b Z;have ao:=(ad.2 b Z).1;obtain⟨b9,cs,cd,ca,ct,ce,ci,_,aO,aP,aQ,a5⟩:=Sl.ratAt X (k:=0) rfl;simp at aO aP aQ;have bl:=A_ a5;have bV:G.cell? ⟨ai,ar,QJ⟩=QL (QH bh 0 cl):=(ac.cell (p:=⟨ai,ar,QJ⟩) bO).trans aC;have q1:G.cell? ⟨T,Y,QJ⟩=QL (AC r.1.1):=(ac.cell (p:=⟨T,Y,QJ⟩) aE).trans aN;have q2:G.cell? ⟨T,Y+1,QJ⟩=QL (QH P1 aK ax):=(ac.cell (p:=⟨T,Y+1,QJ⟩) aE).trans p1;have bW:G.cell? ⟨T,Y+2,QJ⟩=QL (QH P2 aL ay):=(ac.cell (p:=⟨T,Y+2,QJ⟩) aE).trans p2;obtain⟨ba,-,-⟩:=bx aV;clear X aG ak a5 a7 bL bN aC aN p1 p2;go_wp2_with fail;refine IG 2 ?_;rw[FH];go_wp2_with fail;refine IG 1 ?_;rw[FH];go_wp2_with fail;rw[FH];go_wp2_with fail;refine IG 2 ?_;rw[FH];go_wp2_with fail;obtain⟨ae,aj⟩:∃ ae,ae=G.alloc (AK #[AC r.1.1,QH P1 aK ax,QH P2 aL ay] 35):=⟨_,rfl⟩
 obtain⟨aB,aF⟩:∃ aB,G.1.size=aB:=⟨_,rfl⟩
 have O:=A_ (by rw[aj];exact AV _:Bw G ae);have aW:=A_ (by rw[aj,<-aF];exact CF G _:ae.1[aB]?=QL (AK #[AC r.1.1,QH P1 aK ax,QH P2 aL ay] 35));rw[<-aj,aF];clear aj ba bV q1 q2 bW;obtain⟨r0,-,-⟩:=bx aW;have cm:=GU aW;have an:b<ae.1.size:=oS;have bZ:=λo=>O.cell (p:=⟨b,o,QJ⟩) am;have be:=aO;have bf:=aP;have bg:=aQ;have aU:=A_ (AI ac O);refine X_ sI ?_;dsimp only[List.dropLast,List.getLast,List.length];iterate 7 refine C_ _ ?_
 refine D_ (MP.agg (A3u y r)) ?_ ?_;·intro b3 ah b0 E aa;obtain⟨cj,ck⟩:=F_ E;simp at aa;refine G_ ?_;exact H_ (A9z _ _ y r _ _ b0 ((bl.below O).below E) (bj.below (AI aU E)) bv bu bi)
 refine C_ _ ?_;intro b3 ah wa E aa bM;clear bM;simp at aa;have bX:=aa.2.2.2.2.2.2.2.1;have bd:=aa.2.2.2.2.2.2.2.2;have cf:=bd.1.1;obtain⟨⟨ag,aD⟩,aH⟩:=bX;obtain⟨z,aJ⟩:∃ z,A3u y r=z:=⟨_,rfl⟩
 rw[aJ]at ag;obtain⟨bz,bS,bG,cx,bA,bT,bH,cy,bI,bP,_,_⟩:=TRat.agg ag;rw[bI]at ag;have al:b∉ah 7:=λbJ=>by have:=(aH _ bJ).1;omega
 have co:=E.size;have cn:b<wa.1.size:=oS;have bY:=λo=>E.cell (p:=⟨b,o,QJ⟩) an;have a0:=be;have bB:=bf;have bD:=bg;have bE:=(E.frozen (p:=⟨b,h,QJ⟩) an).trans ((O.frozen (p:=⟨b,h,QJ⟩) am).trans aR);have b1:=(E.frozen (p:=⟨b,h+1,QJ⟩) an).trans ((O.frozen (p:=⟨b,h+1,QJ⟩) am).trans aS);have b2:=(E.frozen (p:=⟨b,h+2,QJ⟩) an).trans ((O.frozen (p:=⟨b,h+2,QJ⟩) am).trans aT);obtain⟨H,W⟩:∃ H,H=(((wa.setCell ⟨b,h,QJ⟩ (AC z.1.1)).setCell ⟨b,h+1,QJ⟩ (QH bz bS bG)).setCell ⟨b,h+2,QJ⟩ (QH bA bT bH)):=⟨_,rfl⟩
 have bp:=A_ W;have ap:∀ D,D≠b->H.1[D]?=wa.1[D]?:=λD u=>by rw[W];exact(DQ _ _ _ D (by simpa using u)).trans ((DQ _ _ _ D (by simpa using u)).trans (DQ _ _ _ D (by simpa using u)))
 obtain⟨cc,cw,a2⟩:=(ad.2 b Z).2;have aA:∃ az t,H.1[b]?=QL (AK az t (0,0)):=by rw[W];exact⟨_,_,A0u (A0u (A0u (O_ (O_ a2 O) E)))⟩
 have bm:=A_ (show Bw w H by rw[W];exact(((AI aU E).setCell (p:=⟨b,h,QJ⟩) ao _).setCell (p:=⟨b,h+1,QJ⟩) ao _).setCell (p:=⟨b,h+2,QJ⟩) ao _)
 have aX:=A_ (show Sl H (QL ⟨b,h,QJ⟩) 1 af [z] (b::ah 7)from
  E8s (ag.keep (λD u=>ap D (λe=>al (e ▸ u)))) (by obtain⟨_,_,e⟩:=aA;exact GU e) bK.o (by rw[W];go_simp) (by rw[W];go_simp) (by rw[W];go_simp))
 have bs:=A_ (show Own w H (b::ah 7)from⟨List.nodup_cons.2 ⟨al,aD.1⟩,λD u=>by
  rcases EM.1 u with rfl|u;·exact⟨ao,aA⟩
  refine⟨by have:=(aH D u).1;omega,?_⟩;obtain⟨az,t,e⟩:=aD.2 D u;exact⟨az,t,(ap D (λe=>al (e ▸ u))).trans e⟩⟩)
 have bq:=A_ (show H.1[w.1.size]?=QL (AK #[QH (QL ⟨ai,ar,QJ⟩) 1 aY,QH (QL ⟨T,Y,QJ⟩) 1 aZ] 273)from(ap _ (by have:=bo.o;omega)).trans (O_ (O_ aV.o O.o) E));have aw:=A_ aJ;generalize ah 7=cA at *;clear aa bd ag aD aH bP E W al aJ aA a2 ap aF;go_upto_region 15 with fail;rw[aw.o,<-bp.o];clear a0 bB bD bE b1 b2 be bf bg aO aP aQ aR aS aT r0 bZ bY;obtain⟨ba,-,-⟩:=bx bq;go_wp2_with fail;rw[FH];go_wp2_with fail;refine IG 2 ?_;rw[FH];go_wp2_with fail;refine IG 1 ?_;rw[FH];go_wp2_with fail;rw[FH];go_wp2_with fail;refine(A5p _ 1 af [z] _ H aX (by have:=bt.o;rw[aw.o]at this;simp[this])).mono ?_;rintro _ cz ⟨rfl,a6⟩;have au:=A_ a6;clear a6;go_wp2;go_ret;rw[aw.o];exact⟨_,1,af,_,rfl,aX.below au,bs.below au,AI bm au⟩
theorem B8s (v:AJ) (q:Option TRat) (s:List Nat) (w:J) (b:Agg w v (B4o q) s) (ok:Ok1 q) (h:∀ r,q=QL r->0<R_ r):AR prog 230 #[v] w (D1z w q):=by
 cases q with
 |none=>exact D1t v s w b
 |some r=>exact D3e v r s w b ok (h r rfl)
theorem D7t (v:AJ) (q:Option TRat) (xs:List TRat) (s:List Nat) (B:Option AH) (n d:Nat) (h:List Nat) (w:J) (D:Agg w v (D6x q) s) (b:Sl w B n d xs h) (u:n=B6w q) (E:Ok1 q) (H:xs.all J_=AD) (ok:(A7r q xs).any A2e=AF) :
  AR prog 231 #[v,QH B n d] w (A0w w (A7r q xs)):=by
 cases q with
 |none =>
  obtain rfl:n=0:=u
  obtain rfl:xs=[]:=IF b.1
  exact D4y v s B d h w D b
 |some r =>
  obtain rfl:n=1:=u
  obtain⟨y,rfl⟩:∃ y,xs=[y]:=by
   have:=b.1;match xs,this with
   | [y],_=>exact⟨y,rfl⟩
  refine D3p v r y s B d h w D b E.1 (by simpa using H) (λG=>?_) (by simpa[A7r]using ok)
  have:=E.2
  apply this
  unfold R_ A0q
  rw[G]
  simp[val]
theorem C1q (v:AJ) (q:Option TRat) (xs:List TRat) (s:List Nat) (B:Option AH) (n d:Nat) (H:List Nat) (w:J) (Y:Agg w v (B4o q) s) (ai:Sl w B n d xs H) (u:n=B6w q) (ao:Ok1 q) (al:∀ r,q=QL r->0<R_ r) (ap:xs.all J_=AD) (ok:(A7r q xs).any A2e=AF) :
  AR prog 178 #[v,QH B n d] w (B7y w (A7r q xs)):=by
 have aA:=A_ Y;have G:=A_ ai;have ad:=A_ ao;have ay:=A_ al;have ae:=A_ ap;have aC:=A_ ok;have ac:=A_ u;have aP:n<=1:=by rw[u];cases q<;>simp[B6w]
 obtain⟨A,aM,c,aT,rfl,rfl,ah⟩:=TMatrix.agg Y;obtain rfl:n=aM:=by rw[<-ah.1,u];cases q<;>rfl
 clear Y ai ah ao al ap ok u;go_enter func178,ntmps178;go_wp2_with fail;refine(B8s _ q _ (w.alloc (AK #[QH A n c] 225)) (aA.below Below.go) ad ay).mono ?_;rintro _ D ⟨aV,aU,rfl,T,aI,W⟩;obtain⟨Z,am,af,aR,aa,an,ag,aS,rfl,rfl,aJ,aK⟩:=TFactor.agg T;obtain⟨aG,aH⟩:=F_ W;have aQ:w.1.size<D.1.size:=ltg W;have au:=A_ T;have ab:=A_ (show Bw w D from Below.go);clear T aI aJ aK W;go_wp2_with fail;refine(A5n B n d xs H (D.alloc (AK #[QH Z am af,QH aa an ag] 273)) (G.below (AI ab (AV _))) ae).mono ?_;rintro _ aO ⟨rfl,h⟩;have E:=A_ (AI (AI ab (AV _)) h);have ar:=A_ ((au.below (AV _)).below h);have aB:=A_ (O_ (CF D (AK #[QH Z am af,QH aa an ag] 273)) h);obtain⟨aL,-,-⟩:=bx aB;clear h aG aH;go_wp2_with fail;refine(D7t _ q xs _ B n d H aO ar (G.below E) ac ad ae aC).mono ?_;rintro _ w3 ⟨aq,aN,aE,aD,rfl,X,ak,aj⟩;obtain rfl:n=aN:=by
  have aF:=X.1;have b:=G.1;have O:=ac.o;rw[<-aF];cases q with
  |none=>simpa[A7r,B6w]using O
  |some r=>match xs,b with
   |y::ys,b=>simpa[A7r,B6w]using O
   | [],b=>rw[O]at b;simp[B6w]at b
 have az:=A_ X;have ax:=A_ (ak.older (w0:=w) E.size);have aw:=A_ (AI E aj);clear X ak aj aL;go_wp2;go_ret2;exact⟨aq,n,aE,aD,rfl,az,ax,aw⟩
def A8o (u:List TRat) (i:Int):TRat:=bif decide (0<=i)then u.getD i.toNat A0h else U_ 0
def B4j (m:TMesh) (u:List TRat):List TRat:=(B1i m).map (A8o u)
def E8x (u:List TRat) (i:Int):TRat:=u.getD i.toNat A0h
def D7i (m:TMesh) (u:List TRat):List TRat:=(A3f m AF).map (E8x u)
theorem D6b (v:AJ) (m:TMesh) (b:List Nat) (B:Option AH) (aq d:Nat) (us:List TRat) (bV:List Nat) (w:J) (aX:Agg w v m b) (aE:m.1.length<=40) (bc:m.triangles.length<=48) (be:B8e m) (bl:Sl w B aq d us bV) (aV:aq=(A3f m AF).length) (bi:∀ x∈us,B4q x) :
  AR prog 182 #[v,QH B aq d] w (A0w w (B4j m us)):=by
 have bR:=A_ aX;have bD:=A_ aE;have bE:=A_ bc;have bJ:=A_ be;have bO:=A_ bl;have bL:=A_ bi;obtain⟨bt,u,bS,cz,bu,n1,bT,cA,rfl,rfl,aW,b8⟩:=TMesh.agg aX;have cq:u<=40:=by rw[<-aW.1];exact aE
 have cs:(u:Int)<=40:=oS;have ct:aq<=40:=by rw[aV];exact BM (B3t m AF) aE
 obtain⟨h,aD⟩:∃ h,B1i m=h:=⟨_,rfl⟩
 have bN:=A_ aD;have aO:=A_ (by rw[<-aD,C0l,aW.1]:h.length=u);have bM:=A_ (by rw[<-aD,aV];exact C1e:∀ x∈h,-1<=x/\x<aq);have bA:=A_ (by rw[B4j,aD]:B4j m us=h.map (A8o us));obtain⟨bp,bf,bm,bn,bo⟩:=DW B2r;clear aX aE bc be bl bi aW b8 aD aV;go_enter func182,ntmps182;go_wp2_with fail;have C:=B5v _ m _ (w.alloc (AK #[QH bt u bS,QH bu n1 bT] 26)) (bR.below Below.go) bD bE bJ;rw[bN.o]at C;refine C.mono ?_;clear C;rintro _ ak ⟨gr,nr,aZ,rfl,aJ,b6,b0⟩;obtain rfl:u=nr:=by rw[<-aJ.1];exact aO.symm
 have a8:=A_ (aJ.below (AV (AK #[] 35)));have bG:=A_ (show Bw w ak from Below.go);have a6:=A_ (show Pend w ak 35 (ak.alloc (AK #[] 35)) ak.1.size 0 0 ((h.map (A8o us)).take 0)from Pend.start bG);have a5:=A_ (show ak.1.size∉aZ from λaR=>by have:=aJ.lt _ aR;omega);clear aJ b6 b0;go_wp2_with fail;go_loopg [7,19] u (λg s3 s wr=>∃ (i gB cap:Nat),i+g=u/\s=N .i64 i/\s3=QH (QL ⟨gB,0,QJ⟩) i cap/\Hid (Pend w ak 35 wr gB i cap ((h.map (A8o us)).take i))/\Hid (Sl wr (QL ⟨gr,0,QJ⟩) u u h aZ/\gB∉aZ));case atStart=>exact⟨0,ak.1.size,0,oS,rfl,rfl,a6.o,a8.o,a5.o⟩
 case round =>
  clear a6 a8 a5;obtain⟨i,gB,cap,bh,rfl,rfl,ao,Y⟩:=hrel;rename J=>wr;have bI:=A_ ao.bw;rcases BN i u with aH|aH
  ·have b4:(i:Int)<u:=oS
   obtain⟨g,rfl⟩:∃ g,gk=g+1:=⟨gk - 1,oS⟩
   have bg:=A_ (by omega:i+1+g=u);have a3:=A_ (by unfold BG;omega:i+1<=BG);have a4:=A_ (by omega:(i+1)*56<=140737488355328);obtain⟨q,aI⟩:∃ q,h[i]?=QL q:=⟨_,List.getElem?_eq_getElem (by rw[aO.o];exact aH)⟩
   obtain⟨cm,cp⟩:=Sl.intAt Y.1 aI;obtain⟨b7,cu⟩:=bM q (CH aI);have a7:=A_ aI;clear bh aH aI;go_wp2_with fail;refine(A0l 0 wr oO).mono ?_;rintro _ wa ⟨ca,aK,rfl,af,T,D⟩;obtain⟨W,ag,ab,cn,X,ah,ac,co,rfl,a2,_,_⟩:=TRat.agg af;obtain⟨G,ap⟩:∃ G,G=wa.alloc (AK #[AC (U_ 0).1.1,QH W ag ab,QH X ah ac] 35):=⟨_,rfl⟩
   obtain⟨g8,aF⟩:∃ g8,wa.1.size=g8:=⟨_,rfl⟩
   have aL:=A_ (by rw[ap];exact AI D (AV _):Bw wr G);have O:=A_ (by rw[ap,<-aF];exact CF wa _:G.1[g8]?=QL (AK #[AC (U_ 0).1.1,QH W ag ab,QH X ah ac] 35));have bv:=A_ (by rw[ap];exact af.below (AV _):Agg G (AM #[AC (U_ 0).1.1,QH W ag ab,QH X ah ac]) (U_ 0) aK);have ba:=A_ (by rw[ap];exact T.below (AV _):Own wr G aK);have aS:wr.1.size<=g8:=by rw[<-aF];exact D.size
   have bP:=A_ ap;have bK:=A_ aF;clear af T D a2 ap aF;go_upto_region 7 with fail;rw[<-bP.o,bK.o];have aG:=GU O;by_cases bj:q<0
   ·obtain rfl:q = -1:=oS
    have aQ:=A_ (show(h.map (A8o us)).take (i+1)=(h.map (A8o us)).take i++[U_ 0]from take_step (by rw[IE,a7.o];rfl));obtain⟨al,_⟩:=B_ O (j:=0) rfl;obtain⟨am,_⟩:=B_ O (j:=1) rfl;obtain⟨an,_⟩:=B_ O (j:=2) rfl;simp at al am an;have ar:=A_ (A3x (bv.below (AV (AK #[AC (U_ 0).1.1,QH W ag ab,QH X ah ac] 35))));have aw:=A_ ((ba.below (AV (AK #[AC (U_ 0).1.1,QH W ag ab,QH X ah ac] 35))).free);have ax:=A_ (show ∀ b∈aK,wr.1.size<=b from λb H=>(ba.2 b H).1);have au:=A_ (show Bw wr (G.alloc (AK #[AC (U_ 0).1.1,QH W ag ab,QH X ah ac] 35))from AI aL (AV _));clear bj;go_wp2_with (at_builtin;refine A1v rfl _ _ 27 rfl 35 bp (AM #[AC AF,QH QJ 0 0,QH QJ 0 0]) 56 underlying27 bf bm bn bo rfl ao au gD ⟨G.1.size,0,QJ⟩ 1 [AC (U_ 0).1.1,QH W ag ab,QH X ah ac] (U_ 0) aK gD (A0a (CF G _)) ar aw ax a3 a4 ?_;intro g' ay a1 aC aA aB);have aN:=A_ (by rw[aQ.o];exact aC:Pend w _ 35 a1 g' (i+1) ay ((h.map (A8o us)).take (i+1)));have aM:=A_ (Sl.pushed Y.1 au aA aB Y.2);clear aC aA aB ar aw ax ao Y;go_wp2_with fail;go_roundg g;case measure=>omega
    case rel=>exact⟨i+1,g',ay,bg,gN,rfl,aN,aM⟩
   obtain⟨k,rfl⟩:∃ k:Nat,q=k:=⟨q.toNat,oS⟩
   have b5:k<aq:=oS;obtain⟨cj,cy,x,ch,cw,c3,s3,ci,cx,ck,cB,rfl,b3,aY,bX,bY,bZ,bd⟩:=TRat.elemA (bO.below (AI bI aL)) b5;have bF:=A_ bd;have a9:=A_ (bL x (CH aY));have aQ:=A_ (show(h.map (A8o us)).take (i+1)=(h.map (A8o us)).take i++[x]from take_step (by rw[IE,a7.o];simp[A8o,aY,List.getD]));obtain⟨al,bq⟩:=B_ O (j:=0) rfl;obtain⟨am,br⟩:=B_ O (j:=1) rfl;obtain⟨an,bs⟩:=B_ O (j:=2) rfl;simp at al am an;clear bd aY bj b7;go_wp2_with fail;refine(A3n _ x _ G bF (BM a9.1 dE) (BM a9.2 dE)).mono ?_;rintro _ wb ⟨ca,sb,rfl,af,T,D⟩;obtain⟨Z,ai,ad,v1,aa,aj,ae,v2,rfl,a2,_,_⟩:=TRat.agg af;obtain⟨E,az⟩:∃ E,E=(((wb.setCell ⟨g8,0,QJ⟩ (AC x.1.1)).setCell ⟨g8,1,QJ⟩ (QH Z ai ad)).setCell ⟨g8,2,QJ⟩ (QH aa aj ae)):=⟨_,rfl⟩
   have bQ:=A_ az;have aT:g8∉sb:=λaR=>by have:=(T.2 _ aR).1;omega
   have aU:∀ b,b≠g8->E.1[b]?=wb.1[b]?:=λb H=>by rw[az];exact A0p b H
   have bH:=A_ (show Bw wr E by rw[az];exact(((AI aL D).setCell (p:=⟨g8,0,QJ⟩) aS _).setCell (p:=⟨g8,1,QJ⟩) aS _).setCell (p:=⟨g8,2,QJ⟩) aS _);have aP:=A_ (by rw[az];exact A0u (A0u (A0u (O_ O D))):E.1[g8]?=QL (AK #[AC x.1.1,QH Z ai ad,QH aa aj ae] 35));have bz:=A_ (show Agg E (AM #[AC x.1.1,QH Z ai ad,QH aa aj ae]) x sb from af.keep (λb H=>aU b (λe=>aT (e ▸ H))));have bB:=A_ (show Free E sb from⟨T.1,λb H=>by obtain⟨bU,t,e⟩:=(T.2 b H).2;exact⟨bU,t,(aU b (λbW=>aT (bW ▸ H))).trans e⟩⟩);have ax:=A_ (show ∀ b∈sb,wr.1.size<=b from λb H=>by have:=(T.2 b H).1;omega);have cv:=D.size;have b9:=λo=>D.cell (p:=⟨g8,o,QJ⟩) aG;have cb:=al;have cd:=am;have cf:=an;have cc:=(D.frozen (p:=⟨g8,0,QJ⟩) aG).trans bq;have ce:=(D.frozen (p:=⟨g8,1,QJ⟩) aG).trans br;have cg:=(D.frozen (p:=⟨g8,2,QJ⟩) aG).trans bs;clear af T D a2 az aT aU al am an bq br bs;go_upto_region 9 with fail;rw[<-bQ.o];clear cb cd cf cc ce cg bX bY bZ b3 b9;obtain⟨al,_⟩:=B_ aP (j:=0) rfl;obtain⟨am,_⟩:=B_ aP (j:=1) rfl;obtain⟨an,_⟩:=B_ aP (j:=2) rfl;simp at al am an;have ar:=A_ (A3x (bz.below (AV (AK #[AC x.1.1,QH Z ai ad,QH aa aj ae] 35))));have aw:=A_ (bB.below (AV (w:=E) (AK #[AC x.1.1,QH Z ai ad,QH aa aj ae] 35)));have au:=A_ (show Bw wr (E.alloc (AK #[AC x.1.1,QH Z ai ad,QH aa aj ae] 35))from AI bH (AV _));go_wp2_with (at_builtin;refine A1v rfl _ _ 27 rfl 35 bp (AM #[AC AF,QH QJ 0 0,QH QJ 0 0]) 56 underlying27 bf bm bn bo rfl ao au gD ⟨E.1.size,0,QJ⟩ 1 [AC x.1.1,QH Z ai ad,QH aa aj ae] x sb gD (A0a (CF E _)) ar aw ax a3 a4 ?_;intro g' ay a1 aC aA aB);have aN:=A_ (by rw[aQ.o];exact aC:Pend w _ 35 a1 g' (i+1) ay ((h.map (A8o us)).take (i+1)));have aM:=A_ (Sl.pushed Y.1 au aA aB Y.2);clear aC aA aB ar aw ax ao Y;go_wp2_with fail;go_roundg g;case measure=>omega
   case rel=>exact⟨i+1,g',ay,bg,gN,rfl,aN,aM⟩
  obtain rfl:i=u:=oS;have b4:¬ ((i:Int)<i):=oS;clear bh aH;go_wp2;go_ret;rw[bA.o];have:=ao.done;rwa [List.take_of_length_le (by rw[List.length_map,aO.o];exact BH _)]at this
end Go.Proofs.YtbkilakncnlebaaGreatDoor.X

namespace Go.XB
open Go.RowKit
def MP.aggV {α:Type} [Dat α] (x:α):MP:=⟨λv bs w=>Agg w v x bs,λ_ _ _ _ hb h=>h.below hb⟩
def MP.tupS (xs:List TRat):MP:=⟨λv bs w=>∃ A n c,v=.tuple #[QH A n c,AC AD]/\Sl w A n c xs bs,λ_ _ _ _ hb h=>by
 obtain⟨A,n,c,e,h⟩:=h;exact⟨A,n,c,e,h.below hb⟩⟩
def MP.tupB (y:AJ):MP:=⟨λv bs _=>bs=[]/\v=y/\∃ A n c,v=.tuple #[QH A n c,AC AD],λ_ _ _ _ _ h=>h⟩
def MP.tupC (y:AJ):MP:=⟨λv bs _=>bs=[]/\(∃ A n c,v=QH A n c)/\y=.tuple #[v,AC AD],λ_ _ _ _ _ h=>h⟩
end Go.XB
namespace Go.Proofs.YtbkilakncnlebaaGreatDoor.X
open Go.RowKit Go.XB Go.XN Proofs.Tryz
structure SolD (p:TProblem) (xs ys:List Int) (os:Option TRat):Prop where
 md:MeshD p.1 xs ys
 pr:ProbI p xs ys
 hs:C0y p.1 (A9s p)=B7m os
 oks:Ok1 os
 pos:∀ r,os=QL r->0<R_ r
 lo:(A6v p).all J_=AD
 ld:(A6v p).any A2e=AF
 so:(A7r os (A6v p)).all J_=AD
 sd:(A7r os (A6v p)).any A2e=AF
 nl:(A6v p).length=B6w os
 nm:(A3f p.1 AF).length=B6w os
def A8r (p:TProblem) (os:Option TRat):List TRat:=B4j p.1 (A7r os (A6v p))
theorem D7p {os:Option TRat} {xs:List TRat} (h:xs.length=B6w os):(A7r os xs).length=B6w os:=by
 cases os with
 |none=>rfl
 |some r=>match xs,h with
  |y::ys,_=>rfl
attribute [local go_sem] L_ Go.XB.opAt N_ M_ Region.wanted yielded
attribute [local simp] N_ M_ MP.eq MP.agg MP.aggV MP.tupS MP.tupB MP.tupC MP.sl MP.box A0r
theorem C8t (v:AJ) (p:TProblem) (b:List Nat) (xs ys:List Int) (os:Option TRat) (w:J) (ap:Agg w v p b) (h:SolD p xs ys os) :
  AR prog 124 #[v] w (B7y w (A8r p os)):=by
 have aS:=A_ ap;have D:=A_ h;obtain⟨a7,bl,bc,bo,a8,n1,bd,bp,a9,n2,be,bq,ba,bm,c3,br,rfl,rfl,aJ,aK,a1,a2⟩:=TProblem.agg ap;have aw:=A_ (TMesh.mkAgg (x:=p.1) aJ aK);clear aJ aK a1 a2 ap h;go_enter func124,ntmps124;go_upto_region 1 with fail;refine Code.new λaV al=>?_;have au:=A_ al.b;have ab:=A_ al.k;clear al;obtain⟨ac,-⟩:=B_ ab (j:=0) rfl;obtain⟨aA,-⟩:=B_ ab (j:=1) rfl;obtain⟨aB,-⟩:=B_ ab (j:=2) rfl;obtain⟨aC,-⟩:=B_ ab (j:=3) rfl;simp at ac aA aB aC;have ad:w.1.size<aV.1.size:=E_ ab;have ay:=A_ (aS.below au);refine A0g ?_;refine C_ _ ?_;refine D_ (MP.aggV (B4o os)) ?_ ?_;·intro G T H E h;obtain⟨an,ao⟩:=F_ E;simp at h;refine G_ ?_;exact(C6n _ p _ xs ys os H (ay.below E) D.md D.pr.dl D.hs D.oks).mono λ_ _ ⟨u,s,he,ha,hn,O⟩=>⟨u,he,O,s,ha,λb O=>⟨hn b O,ha.lt b O⟩⟩
 refine C_ _ ?_;refine D_ (MP.sl (A6v p)) ?_ ?_;·intro G T H E h;obtain⟨an,ao⟩:=F_ E;simp at h;refine G_ ?_;exact A1c (E1j _ p _ xs ys H (ay.below E) D.md D.pr.sl D.ld)
 refine D_ (MP.tupS (A7r os (A6v p))) ?_ ?_;·intro G T H E h;obtain⟨an,ao⟩:=F_ E;simp at h;obtain⟨aX,⟨⟨W,Z,X,bi,aE⟩,_⟩⟩:=h;refine G_ ?_;exact(C1q _ os (A6v p) _ W Z X _ H aX aE (by rw[<-aE.1];exact D.nl) D.oks D.pos D.lo D.sd).mono λ_ _ ⟨A,n,c,bs,he,hs,ho,O⟩=>⟨_,he,O,bs,⟨A,n,c,rfl,hs⟩,λb O=>⟨(ho.2 b O).1,hs.lt b O⟩⟩
 refine A1d (λaa=>MP.tupB (aa 4)) (by intro y aa Y;simp[N_,M_]at Y;simp[Y]) ?_ ?_;·intro G T H E h;simp at h;obtain⟨W,Z,X,af,_⟩:=h;refine⟨gD,G 4,H,?_,CG _ _,[],⟨rfl,rfl,W,Z,X,af⟩,sI⟩;go_simp
 refine A1d (λaa=>MP.tupC (aa 5)) (by intro y aa Y;simp[N_,M_]at Y;simp[Y]) ?_ ?_;·intro G T H E h;simp at h;obtain⟨_,ac,W,Z,X,ag⟩:=h;clear ac;refine⟨gD,QH W Z X,H,?_,CG _ _,[],⟨rfl,⟨W,Z,X,rfl⟩,ag⟩,sI⟩;go_simp
 refine A2b (AC AD) ?_ ?_;·intro G T H E h;simp at h;obtain⟨_,ac,W,Z,X,ag⟩:=h;clear ac;refine⟨gD,?_⟩;go_simp
 refine A9h (λaa=>aa 6) (by intro y aa Y;simp[N_,M_]at Y;simp[Y]) ?_ ?_;·intro G T H E h;obtain⟨an,ao⟩:=F_ E;simp at h;obtain⟨_,⟨W,Z,X,aD⟩,_⟩:=h;refine⟨gD,?_⟩;go_simp;try simp[*,Value.cells]
 refine A2b (AC AD) ?_ ?_;·intro G T H E h;simp at h;refine⟨gD,?_⟩;go_simp
 intro G T a5 E h aY;clear aY;simp at h;have a4:=h.2.2.2.2.1;have aM:=h.2.2.2.2.2.1;have aN:=h.2.2.2.2.2.2.1;have ai:=h.2.2.2.2.2.2.2.2.1;have aj:=h.2.2.2.2.2.2.2.2.2;obtain⟨⟨S,ae,cS,af,am⟩,aZ⟩:=a4;have ag:G 5=.tuple #[QH S ae cS,AC AD]:=by rw[<-af];exact aM.1.2.1
 have aD:G 6=QH S ae cS:=by have:=aN.1.2.2;rw[ag]at this;simpa using this.symm
 have bg:G 8=QH S ae cS:=by rw[<-aD];first|exact ai.1.1|exact ai.1|exact ai
 have bh:G 9=AC AD:=by first|exact aj.1.1|exact aj.1|exact aj
 have aP:=A_ am;have ax:=A_ (by rw[D.o.nm,<-am.1];exact D7p D.nl:ae=(A3f p.1 AF).length);have ar:=A_ (AI au E);have az:=A_ (K_ ab E);generalize T 4=bn at *;clear h aM aN ai aj am aZ E ac aA aB aC ad af;obtain⟨aq,-,ad⟩:=bx az;go_wp2_with fail;refine(B6y _ p.1 _ AF a5 (aw.below ar) D.md.1.n40 D.md.1.t48 D.md.es).mono ?_;rintro _ a6 ⟨I,aL,bf,bj,rfl,aF,-,ah⟩;obtain rfl:aL=ae:=by rw[ax.o,aF.1]
 have ak:=A_ (AI ar ah);have aT:=A_ (K_ az ah);have aQ:=A_ (aP.below ah);clear aF ah aq ad;obtain⟨aq,-,ad⟩:=bx aT;go_wp2_with fail;refine(D6b _ p.1 _ S aL cS (A7r os (A6v p)) _ a6 (aw.below ak) D.md.1.n40 D.md.1.t48 D.md.es aQ ax (B6l D.so)).mono ?_;rintro _ w3 ⟨U,a3,aW,bt,rfl,aG,aI,aH⟩;have aR:=A_ aG;have aO:=A_ (AI ak aH);have aU:=A_ (aI.older (w0:=w) ak.size);clear aG aI aH aq ad;go_wp2;refine BI (v:=.tuple #[QH U a3 aW,AC AD]) (by simp[BO,results124,go_sem, *]) rfl ?_;exact⟨_,_,_,_,rfl,aR,aU,aO⟩
theorem B9m (v:AJ) (p:TProblem) (b:List Nat) (xs ys:List Int) (os:Option TRat) (w:J) (G:Agg w v p b) (aa:SolD p xs ys os) :
  AR prog 77 #[v] w (B7y w (A8r p os)):=by
 have W:=A_ G;have T:=A_ aa;obtain⟨ao,ay,au,aA,ap,n1,aw,aB,aq,n2,ax,aC,ar,az,c3,aD,rfl,rfl,ai,aj,ak,al⟩:=TProblem.agg G;clear ai aj ak al G aa;go_enter func77,ntmps77;go_upto_region 1 with fail;refine Code.new λag u=>?_;have O:=A_ u.b;have X:=A_ u.k;clear u;obtain⟨D,-,H⟩:=bx X;go_wp2_with fail;refine(B5t _ p _ xs ys ag (W.below O) T.pr).mono ?_;rintro _ an ⟨rfl,E⟩;have h:=A_ (AI O E);have ae:=A_ (K_ X E);clear E D H;obtain⟨D,-,H⟩:=bx ae;go_wp2_with fail;refine(C8t _ p _ xs ys os an (W.below h) T).mono ?_;rintro _ aF ⟨U,am,ah,aE,rfl,Y,ab,Z⟩;have ad:=A_ Y;have ac:=A_ (AI h Z);have af:=A_ (ab.older (w0:=w) h.size);clear Y ab Z D H;go_wp2;refine BI (v:=.tuple #[QH U am ah,AC AD]) (by simp[BO,results77,go_sem, *]) rfl ?_;exact⟨_,_,_,_,rfl,ad,af,ac⟩
end Go.Proofs.YtbkilakncnlebaaGreatDoor.X

namespace Go
open Go.RowKit Go.XB Go.Proofs.YtbkilakncnlebaaGreatDoor.X
def E3t (w:J) (r r':Option Nat):Prop:=r'=r\/∀ g,r'=QL g->w.1.size<=g
theorem D2y {P:DZ} {w:J} {aq:Array BU} {rest:List BU} {o:BU} {a:Act} {Q:Exit->Act->J->Prop} (ae:o.guard=QJ) (s x:Operand) (t:BS)
  (ai:o.op=.call { callee:=.builtin .append,args:=#[s,x],argTypes:=#[t,t] })
  (base:Nat) (e:BS) (i:TypeInfo) (z:AJ) (size G:Nat) (am:P.underlying t=QL (.slice e)) (hi:P.info? e=QL i) (ao:i.zero=QL z)
  (ak:i.size=size) (ab:i.bytes=G) (ap:z.cells.size=size) (al:0<size)
  (v:AJ) (n:Nat) (xs:List AJ) (aj:a.eval s=v) (T:w.ownsRow base e size v n xs)
  (E:AH) (c:Nat) (b:List AJ) (an:a.eval x=QH (QL E) 1 c) (af:b.length=1*size) (ah:∀ j u,b[j]?=QL u->w.cell? (E.add j)=QL u) (X:∀ u∈b,u.oneCell'=AD)
  (Z:n+1<=BG) (ac:(n+1)*G<=140737488355328) (aa:base<=w.1.size)
  (h:∀ g' cap' w',w'.ownsRow base e size (QH (QL ⟨g',0,QJ⟩) (n+1) cap') (n+1) (xs++b)->w.grownBy w' v.ownBlock->E3t w v.ownBlock (QL g')->FF P aq Q rest (a.put o.dst (QH (QL ⟨g',0,QJ⟩) (n+1) cap')) w'):FF P aq Q (o::rest) a w:=by
 rcases T.2 with⟨W,ag⟩|⟨g,cap,au,W,ax,O,aA,ay,az,aB⟩
 ·have ar:xs=[]:=by
   have:=T.1
   rw[ag,Nat.zero_mul]at this
   exact IF this
  subst ag;subst ar
  refine IU w ae s x t ai w.1.size e i z size G am hi ao ak ab ap al v 0 [] aj (by rw[W];exact MO w _ e size) E 1 c b an af ah X Z ac (BH _) ?_
  intro aC w' D H Y
  obtain⟨g',c',rfl⟩:=C5p D oS
  exact h g' c' w' (A9f D aa) H (.inr λg O=>by have:=(EU D g' rfl).1;injection O with O;omega)
 ·subst W
  refine A1m ae s x t ai base e i z size G am hi ao ak ab ap al g n cap xs aj T E 1 c b an af ah X Z ac aa ?_;intro g' cap' w' D H Y;refine h _ _ w' D H ?_;rcases Y with rfl|rfl
  ·exact .inl rfl
  exact .inr λaw ad=>by injection ad with ad;omega
end Go
namespace Go.XB
open Go.RowKit Go.Proofs.YtbkilakncnlebaaGreatDoor.X
section
variable {α:Type} [Dat α]
def PV (L:Nat) (e:BS) (wr:J) (v:AJ) (i:Nat) (ps:List α) (zs:List Nat):Prop :=
 ∃ cells fss,wr.ownsRow L e (DL α) v i cells/\Filled wr cells ps fss/\ps.length=i/\zs=fss.flatten/\(∀ g,v.ownBlock=QL g->g∉zs)/\∀ b∈zs,L<=b
variable {L i:Nat} {wr wa:J} {e:BS} {v:AJ} {ps:List α} {zs:List Nat}
theorem PV.nil (L:Nat) (e:BS) (wr:J):PV (α:=α) L e wr (QH QJ 0 0) 0 [] []:=⟨[],[],MO wr L e _,Filled.nil _ _,rfl,rfl,sI,sI⟩
theorem PV.lt (h:PV L e wr v i ps zs):∀ g,v.ownBlock=QL g->L<=g/\g<wr.1.size:=by obtain⟨_,_,h1,_⟩:=h;exact λg hg=>EU h1 g hg
theorem PV.zlt (h:PV L e wr v i ps zs):∀ b∈zs,L<=b/\b<wr.1.size:=by
 obtain⟨cells,fss,G,D,H,rfl,O,E⟩:=h;exact λb u=>⟨E b u,D.lt b u⟩
theorem PV.keep (h:PV L e wr v i ps zs) {x:Nat} (E:wr.grownBy wa (QL x)) (W:v.ownBlock≠QL x) (X:x∉zs):PV L e wa v i ps zs:=by
 obtain⟨cells,fss,G,u,H,rfl,O,T⟩:=h;exact⟨cells,fss,G.kept E (.inr W),u.keep (λb D=>E.block b (u.lt b D) (by intro e;injection e with e;exact X (e ▸ D))),H,rfl,O,T⟩
theorem PV.below (h:PV L e wr v i ps zs) (b:Bw wr wa):PV L e wa v i ps zs:=by
 obtain⟨cells,fss,u,D,E,G,H,O⟩:=h;exact⟨cells,fss,I_ u b,D.below b,E,G,H,O⟩
theorem PV.sl (h:PV L e wr v i ps zs):∃ A c bs,v=QH A i c/\Sl wr A i c ps bs/\∀ b∈bs,v.ownBlock=QL b\/b∈zs:=by
 obtain⟨cells,fss,E,G,H,rfl,X,Y⟩:=h;obtain⟨A,c,bs,W,T,O⟩:=G.sl (α:=α) E H;refine⟨A,c,bs,W,T,λb u=>?_⟩;rcases O with⟨_,rfl⟩|⟨g',D,rfl,Z,_⟩;·simp at u
 rcases EM.1 u with rfl|u;·exact .inl D
 exact .inr u
end
end Go.XB
namespace Go
open Go.RowKit Go.XB Go.Proofs.YtbkilakncnlebaaGreatDoor.X
theorem D0k {P:DZ} {α:Type} [Dat α] {L:Nat} {wr:J} {v:AJ} {k:Nat} {ps:List α} {zs:List Nat} {ag:Array BU} {rest:List BU} {o:BU} {a:Act} {Q:Exit->Act->J->Prop} (an:o.guard=QJ) (s x:Operand) (t:BS)
  (ap:o.op=.call { callee:=.builtin .append,args:=#[s,x],argTypes:=#[t,t] })
  (e:BS) (i:TypeInfo) (z:AJ) (W:Nat) (aw:P.underlying t=QL (.slice e)) (hi:P.info? e=QL i) (az:i.zero=QL z)
  (au:i.size=DL α) (al:i.bytes=W) (aA:z.cells.size=DL α) (ad:PV L e wr v k ps zs) (ax:L<=wr.1.size) (ar:a.eval s=v)
  (T:AH) (c:Nat) (cs:List AJ) (ah:α) (G:List Nat) (ay:a.eval x=QH (QL T) 1 c) (ao:∀ j u,cs[j]?=QL u->wr.cell? (T.add j)=QL u)
  (O:Dat.at_ wr cs ah G) (Z:∀ b∈G,L<=b/\v.ownBlock≠QL b) (ak:k+1<=BG) (am:(k+1)*W<=140737488355328)
  (h:∀ g' cap' w8,PV L e w8 (QH (QL ⟨g',0,QJ⟩) (k+1) cap') (k+1) (ps++[ah]) (zs++G)->wr.grownBy w8 v.ownBlock->E3t wr v.ownBlock (QL g')->FF P ag Q rest (a.put o.dst (QH (QL ⟨g',0,QJ⟩) (k+1) cap')) w8):FF P ag Q (o::rest) a wr:=by
 have af:=ad.zlt;obtain⟨cells,fss,aa,ai,ab,rfl,ac,aj⟩:=ad;refine D2y an s x t ap L e i z (DL α) W aw hi az au al aA Dat.pos v k cells ar aa T c cs ay (by rw[KE];exact Dat.len O) ao (Dat.one O) ak am ax ?_;intro g' cap' w8 aq X E;refine h g' cap' w8 ?_ X E;have ae:∀ b∈G,b<wr.1.size:=Dat.lt O;have k1:∀ b∈fss.flatten,w8.1[b]?=wr.1[b]?:=λb H=>X.block b (af b H).2 (λe=>ac b e.symm H);have k2:∀ b∈G,w8.1[b]?=wr.1[b]?:=λb H=>X.block b (ae b H) (λe=>(Z b H).2 e.symm);refine⟨_,fss++[G],aq,Filled.push (ai.keep k1) (by rw[aa.1,ab]) (Dat.keep O k2),by simp[ab],sI,?_,?_⟩
 ·intro g Y D
  injection Y with Y;subst Y;rcases CO.1 D with D|D
  ·rcases E with E|E
   ·exact ac _ E.symm D
   have:=(af _ D).2;have:=E _ rfl;simp only at *;omega
  rcases E with E|E;·exact(Z _ D).2 E.symm
  have:=ae _ D;have:=E _ rfl;simp only at *;omega
 intro b D;rcases CO.1 D with D|D
 ·exact aj b D
 exact(Z b D).1
end Go
namespace Go.Proofs.YtbkilakncnlebaaGreatDoor.X
open Go.RowKit Go.XB Go.XN Proofs.Tryz
theorem C6a:∀ (l:List TTri) (k:Nat) (x:TTri),l[k]?=QL x->((l.flatMap A7h).drop (k*5)).take 5=A7h x:=λl=>by
 induction l with
 |nil=>intro k x hx;simp at hx
 |cons y ys ih =>
  intro k x hx
  cases k with
  |zero =>
   simp at hx;subst hx
   rw[JK,Nat.zero_mul,EH,List.take_append_of_le_length (by simp[A7h])]
   rfl
  |succ k =>
   rw[show(k+1)*5=(A7h y).length+k*5 by simp[A7h];omega,JK,List.drop_length_add_append]
   exact ih k x (by simpa using hx)
def TrRow (w:J) (base:Nat) (v:AJ) (ts:List TTri):Prop:=w.ownsRow base 122 5 v ts.length (ts.flatMap A7h)/\∀ t∈ts,C2c t
theorem TrRow.below {w w':J} {base:Nat} {v:AJ} {ts:List TTri} (h:TrRow w base v ts) (hb:Bw w w'):TrRow w' base v ts:=⟨I_ h.1 hb,h.2⟩
theorem TrRow.kept {w w':J} {base x:Nat} {v:AJ} {ts:List TTri} (h:TrRow w base v ts) (hk:w.grownBy w' (QL x)) (hx:v.ownBlock≠QL x):TrRow w' base v ts:=⟨h.1.kept hk (.inr hx),h.2⟩
theorem TrRow.sl {w:J} {base:Nat} {v:AJ} {ts:List TTri} (h:TrRow w base v ts):∃ A c bs,v=QH A ts.length c/\Sl w A ts.length c ts bs/\∀ b∈bs,v.ownBlock=QL b:=by
 have Y:Filled w (ts.flatMap A7h) ts (List.replicate ts.length []):=by
  refine⟨sI,by rw[B3l];exact BH _,λk x G D E=>?_⟩;have ab:=(CQ.1 D).1;have Z:G=[]:=by rw[List.getElem?_replicate,if_pos ab]at E;exact(FR E).symm
  subst Z;obtain⟨H,O,T,W,X⟩:=h.2 x (CH D);show Dat.at_ w (((ts.flatMap A7h).drop (k*5)).take 5) x [];rw[C6a ts k x D];exact TTri.shut H O T W X
 obtain⟨A,c,bs,ae,ad,ac⟩:=Y.sl (α:=TTri) (base:=base) (n:=ts.length) h.1 rfl;refine⟨A,c,bs,ae,ad,λb u=>?_⟩;rcases ac with⟨_,rfl⟩|⟨g',aa,rfl,_⟩;·cases u
 simp at u;subst u;exact aa
theorem Sl.cellsTr {w:J} {a:AH} {n c:Nat} {ts:List TTri} {bs:List Nat} (h:Sl w (QL a) n c ts bs):(∀ j u,(ts.flatMap A7h)[j]?=QL u->w.cell? (a.add j)=QL u)/\∀ t∈ts,C2c t:=by
 constructor
 ·intro j u T
  have an:j<ts.length*5:=by have:=(CQ.1 T).1;rwa [B3l]at this
  have D:j / 5<n:=by rw[<-h.1];omega
  obtain⟨G,H,t,ah,am,E,W,X,Y,Z,aa,O⟩:=TTri.elemA h D;obtain rfl:=FR ah;have e:=C6a ts (j / 5) t E;have ak:j % 5<5:=Nat.mod_lt _ dE;have b:(A7h t)[j % 5]?=QL u:=by rw[<-e,List.getElem?_take,if_pos ak,List.getElem?_drop,<-T];congr 1;omega
  have ab:(⟨G,H,QJ⟩:AH).add j=⟨G,H+j,QJ⟩:=by unfold AH.add;split<;>simp_all
  rw[ab];have ai:j=j / 5*5+j % 5:=oS;unfold A7h at b;generalize j % 5=r at *;generalize j / 5=q at *;subst ai;rcases r with _|_|_|_|_|r
  ·simp at b;subst b;simpa[MQ]using W
  ·simp at b;subst b;simpa[MQ]using X
  ·simp at b;subst b;simpa[MQ]using Y
  ·simp at b;subst b;simpa[MQ]using Z
  ·simp at b;subst b;simpa[MQ]using aa
  omega
 intro t al;obtain⟨k,D⟩:=List.mem_iff_getElem?.1 al;have aj:k<n:=by rw[<-h.1];exact(CQ.1 D).1
 obtain⟨G,H,ao,_,_,E,_,_,_,_,_,O⟩:=TTri.elemA h aj;rw[D]at E;obtain rfl:=FR E;obtain⟨_,_,ac,ad,ae,af,ag⟩:=TTri.agg O;exact⟨ac,ad,ae,af,ag⟩
attribute [local go_sem] L_ Go.XB.opAt N_ M_ Region.wanted yielded
attribute [local simp] N_ M_ MP.eq MP.agg MP.sl MP.slbox MP.box A0r
theorem E0v (A:Option AH) (n c:Nat) (ts:List TTri) (bs:List Nat) (w:J) (h:Sl w A n c ts bs) (O:n<=1000) :
  AR prog 93 #[QH A n c] w (λe w'=>∃ v',e=.returned v'/\TrRow w' w.1.size v' ts/\Bw w w'):=by
 obtain⟨ad,H,T,W,X⟩:=DW D2e;cases A with
 |none =>
  have G:n=0:=by
   rcases Nat.eq_zero_or_pos n with D|D;·exact D
   obtain⟨_,_,_,e,_⟩:=h.2.2.2.2 D;cases e
  have ac:ts=[]:=IF (h.1.trans G)
  clear h H T W X O
  subst G;subst ac
  have q1:∀ (w:J) (a:Option AH) (n c b c':Nat),(binOp .eql 24 (QH a n c) (QH QJ b c')).run prog w=.ok (AC a.isNone) w:=λw a n c b c'=>Lib.run_eql_slice_nil w _ _ a n c b c' underlying24
  go_enter func93,ntmps93
  go_wp2
  go_ret
  exact⟨_,rfl,⟨MO _ _ _ _,sI⟩,CG _ _⟩
 |some a =>
  have Y:=A_ (by unfold BG;omega:0+n<=BG)
  have Z:=A_ (by omega:(0+n)*40<=140737488355328)
  have u:=A_ h
  clear h O
  have q1:∀ (w:J) (a:Option AH) (n c b c':Nat),(binOp .eql 24 (QH a n c) (QH QJ b c')).run prog w=.ok (AC a.isNone) w:=λw a n c b c'=>Lib.run_eql_slice_nil w _ _ a n c b c' underlying24
  go_enter func93,ntmps93
  go_wp2_with (at_builtin;(refine IU _ rfl _ _ 24 rfl w.1.size 122 ad (AM #[N .i64 0,N .i64 0,N .i64 0,N .i64 0,N .i64 0]) 5 40 underlying24 H T W X rfl dE _ 0 [] rfl (IW w #[] 0 (BH _) (DV _) rfl) a n c (ts.flatMap A7h) rfl (by rw[B3l,u.o.1]) (Sl.cellsTr (Sl.below u.o Below.go)).1 C1s Y.o Z.o (A1a (BH _) _) ?_);intro v' w3 E ab ae)
  have aa:Bw w w3:=((CG _ w).alloc (BH _) _).grown ab (A1a (BH _) _) (B0b (IW (e:=24) (size:=5) w #[] 0 (BH _) (DV _) rfl))
  go_wp2
  go_ret
  have e:0+n=n:=Nat.zero_add n
  rw[e]at E
  rw[<-u.o.1]at E
  exact⟨_,rfl,⟨E,(Sl.cellsTr u).2⟩,aa⟩
theorem A3p (w:J) (r:Option Nat):w.grownBy w r:=⟨rfl,rfl,rfl,BH _,λ_ _ _=>rfl⟩
theorem B4p {w w1 w2:J} {r:Option Nat} (h:w.grownBy w1 r) (hb:Bw w1 w2):w.grownBy w2 r :=
 ⟨hb.os.trans h.os,hb.tape.trans h.tape,hb.output.trans h.output,BM h.size hb.size,λk hk hne=>(hb.block k (JB hk h.size)).trans (h.block k hk hne)⟩
theorem B9u {w w1 w2:J} {r r2:Option Nat} (h:w.grownBy w1 r) (h2:w1.grownBy w2 r2) (hx:∀ x,r2=QL x->w.1.size<=x):w.grownBy w2 r :=
 ⟨h2.os.trans h.os,h2.tape.trans h.tape,h2.output.trans h.output,BM h.size h2.size,λk hk hne=>(h2.block k (JB hk h.size) (by intro e;have:=hx k e.symm;omega)).trans (h.block k hk hne)⟩
theorem A1f {X w:J} {g i:Nat} {v0:AJ} (h:X.grownBy w (QL g)):X.grownBy (w.setCell ⟨g,i,QJ⟩ v0) (QL g) :=
 ⟨h.os,h.tape,h.output,by simpa using h.size,λk hk hne=>(DQ _ _ _ k (by intro e;exact hne (by rw[e]))).trans (h.block k hk hne)⟩
def CMesh (w:J) (lo L:Nat) (vP vT:AJ) (m:TMesh) (zs:List Nat):Prop :=
 PV L 118 w vP m.1.length m.1 zs/\TrRow w lo vT m.triangles/\(∀ g,vT.ownBlock=QL g->g<L)/\lo<=L/\L<=w.1.size
theorem B7i (v:AJ) (m:TMesh) (b:List Nat) (w:J) (aj:Agg w v m b) (ok:∀ p∈m.1,A1b p=AD) (ba:m.1.length<=144) (bd:m.triangles.length<=1000) :
  AR prog 48 #[v] w (λe w'=>∃ L vP vT zs,e=.returned (AM #[vP,vT])/\CMesh w' w.1.size L vP vT m zs/\Bw w w'):=by
 have cF:=A_ aj;have bM:=A_ ok;obtain⟨cz,E,cK,dl,bm,n1,bX,cw,rfl,rfl,aC,aW⟩:=TMesh.agg aj;have bE:=A_ aC;have bF:=A_ aW;have c7:E<=144:=by rw[<-aC.1];exact ba
 have c8:(E:Int)<=144:=oS;have aZ:=A_ aC.1;have bG:=A_ (by rw[<-aW.1];exact bd:n1<=1000);obtain⟨cf,cg,ch,ci,cj⟩:=DW D1n;clear aC aW aj ok ba bd;go_enter func48,ntmps48;go_upto_region 1 with fail;refine Code.new2 λbU ao=>?_;have ak:=A_ ao.b;have aI:=A_ ao.k;have ap:=A_ ao.l;clear ao;obtain⟨T,-⟩:=B_ aI (j:=1) rfl;simp at T;go_wp2_with fail;refine(E0v bm n1 bX m.triangles cw bU (bF.below ak) bG).mono ?_;rintro _ aE ⟨vT,rfl,aB,ai⟩;have bo:=A_ (AI ak ai);have a1:=A_ (K_ aI ai);have Q1:=A_ (K_ ap ai);have bR:=A_ (show ∀ g,vT.ownBlock=QL g->w.1.size+1<g from λg X=>by have:=(EU aB.1 g X).1;have:=E_ ap;omega);have ar:=A_ (show TrRow aE w.1.size vT m.triangles from⟨A9f aB.1 ak.size,aB.2⟩);obtain⟨ac,af,b2,rfl,-,-⟩:=ar.sl;have aK:=A_ (by have:=ai.size;have:=E_ ap;omega:w.1.size+1<aE.1.size);clear aB ai T;go_upto_region 2 with fail;refine Code.new λaa Z=>?_;have aG:=A_ (AI bo Z.b);have bH:=A_ (K_ a1 Z.b);have aq:=A_ (K_ Q1 Z.b);have bQ:=A_ (ar.below Z.b);have aH:=A_ Z.k;have a3:=A_ (show ∀ g,(QH ac m.triangles.length af).ownBlock=QL g->g<aE.1.size from λg X=>(EU ar.1 g X).2);clear ar a1 Q1 Z;clear ak aI ap;generalize aE.1.size=u at *;have a2:=A_ (E_ aH);obtain⟨O,-⟩:=B_ bH (j:=0) rfl;simp at O;go_wp2_with fail;go_loopg [13] E (λg s wr=>∃ (i:Nat) (A:Option AH) (c:Nat) (zs:List Nat),i+g=E/\s=N .i64 i/\Hid (wr.1[u]?=QL (AK #[QH A i c,QH ac m.triangles.length af] 26))/\Hid (PV aa.1.size 118 wr (QH A i c) i (m.1.take i) zs)/\Hid (aa.grownBy wr (QL u)));case atStart=>exact⟨0,QJ,0,[],oS,rfl,aH.o,PV.nil _ _ _,A3p _ _⟩
 case round =>
  clear aH O;obtain⟨i,A,c,zs,ca,rfl,ae,ad,G⟩:=hrel;have aY:=A_ (aG.grown G aG.size (λk cb=>by injection cb with h;subst h;have:=aK.o;omega));rcases BN i E with a9|a9
  ·have c6:(i:Int)<E:=oS
   obtain⟨g,rfl⟩:∃ g,gk=g+1:=⟨gk - 1,oS⟩
   have b9:=A_ (by omega:i+1+g=E);have bq:=A_ (by unfold BG;omega:i+1<=BG);have br:=A_ (by omega:(i+1)*112<=140737488355328);obtain⟨cJ,di,p,P1,de,cP,p1,P2,df,cQ,p2,cH,dg,cR,dj,cI,dh,cU,dk,rfl,c2,aX,O,T,au,aw,ax,ay,a8⟩:=TPoint.elemA (bE.below aY) a9;have bL:=A_ (take_step aX);have bN:=A_ (bM p (CH aX));have bB:=A_ a8;clear ca a8 aX;go_upto_region 5 with fail;refine Code.new λaO aL=>?_;have al:=A_ aL.b;have H:=A_ aL.k;clear O T au aw ax ay aL;have aJ:=A_ (K_ ae al);obtain⟨W,-⟩:=B_ aJ (j:=0) rfl;obtain⟨az,-⟩:=B_ aJ (j:=1) rfl;obtain⟨O,-⟩:=B_ H (j:=0) rfl;obtain⟨T,-⟩:=B_ H (j:=1) rfl;obtain⟨au,-⟩:=B_ H (j:=2) rfl;obtain⟨aw,-⟩:=B_ H (j:=3) rfl;obtain⟨ax,-⟩:=B_ H (j:=4) rfl;obtain⟨ay,-⟩:=B_ H (j:=5) rfl;simp at W az O T au aw ax ay;have l1:wr.1.size<aO.1.size:=E_ H;have lx:u<aO.1.size:=E_ aJ;refine W_ 5 kR kR kR kR kR ?_;simp only[GE,ET,GG,EH];iterate 3 refine C_ _ ?_
   refine D_ (MP.agg p) ?_ ?_;·intro aF bl Y ab D;obtain⟨c4,c5⟩:=F_ ab;simp at D;refine G_ ?_;exact H_ (B5c _ p _ Y ((bB.below al).below ab) bN)
   refine A1d (λbh=>MP.slbox (bh 3).cells 118) (by intro y bh h;simp[N_,M_]at h;simp[h]) ?_ ?_;·intro aF bl Y ab D;simp at D;obtain⟨cA,da,cL,cV,cB,db,cM,cW,cD,dc,cN,cX,cE,dd,cO,cY,b4,_,_,_,_,_⟩:=TPoint.agg D.1;refine⟨gD,QH (QL ⟨Y.1.size,0,QJ⟩) 1 1,Y.alloc (AK (aF 3).cells 118),?_,AV _,[Y.1.size],⟨Y.1.size,rfl,rfl,CF Y _⟩,sI⟩;rw[b4];go_simp
   intro aF bl wa ab D b7;clear b7;simp at D;have q1:=D.2.1;have cq:=D.2.2.2.1;have cs:=D.2.2.2.2;obtain⟨⟨a7,b8⟩,bc⟩:=cq;obtain⟨bs,cm,bY,aP,bt,cn,bZ,aQ,bu,co,b0,aR,bv,cp,b3,aS,bi,bj,k1,k2,be,bf⟩:=TPoint.agg a7;obtain⟨⟨b6,dn,z4,aU⟩,ce⟩:=cs;rw[bi]at aU;have dm:aF 1=QH A i c:=q1.1.1;have bn:=A_ (TPoint.shut (x:=p) k1 k2 be bf);have bV:=A_ (show ∀ b∈aP++(aQ++(aR++aS)),aO.1.size<=b from λb aT=>(bc b (by rw[bj];exact aT)).1);have bD:=A_ aU;have am:=A_ (AI al ab);have aM:=A_ (ad.below am);have an:=A_ (K_ ae am);have bK:=A_ (show aa.1.size<=wa.1.size from BM G.size am.size);have bW:=A_ (show ∀ b∈aP++(aQ++(aR++aS)),aa.1.size<=b/\(QH A i c).ownBlock≠QL b from λb aT=>by have cZ:=bV b aT;have c0:=G.size;have c1:=al.size;refine⟨oS,λh=>?_⟩;have:=(ad.lt b h).2;omega);have cG:u<aa.1.size:=a2.o;clear D a7 b8 bc k1 k2 be bf aU ce z4 bj q1 ab O T au aw ax ay W az l1 lx bi;obtain⟨W,b5⟩:=B_ an (j:=0) rfl;simp at W;have lx:u<wa.1.size:=E_ an;go_wp2_with (at_builtin;refine D0k rfl _ _ 23 rfl 118 cf (AM #[AC AF,QH QJ 0 0,QH QJ 0 0,AC AF,QH QJ 0 0,QH QJ 0 0]) 112 underlying23 cg ch ci cj rfl aM bK gD ⟨b6,0,QJ⟩ 1 [AC p.x.1.1,QH bs cm bY,QH bt cn bZ,AC p.y.1.1,QH bu co b0,QH bv cp b3] p _ gD (A0a bD) bn bW bq br ?_;intro ah ag cx aA aV cd;have cc:(QH A i c).ownBlock≠QL u:=(λh=>by have:=(aM.lt u h).1;omega);have aD:=(aV.block u (E_ an) (λe=>cc e.symm)).trans an;obtain⟨bg,cy⟩:=B_ aD (j:=0) rfl;simp at bg;have ck:=E_ aD;have bI:=A_ aD;clear aD W b5 lx);have bJ:=A_ (A3g (i:=0) (v:=QH (QL ⟨ah,0,QJ⟩) (i+1) ag) bI);have a4:∀ g,(QH (QL ⟨ah,0,QJ⟩) (i+1) ag).ownBlock=QL g->g≠u:=λg X=>by have:=(aA.lt g X).1;omega
   have a5:u∉zs++(aP++(aQ++(aR++aS))):=λh=>by have:=(aA.zlt u h).1;omega
   have bO:=A_ (aA.keep (A1f (i:=0) (v0:=QH (QL ⟨ah,0,QJ⟩) (i+1) ag) (A3p cx (QL u))) (λh=>a4 u h rfl) a5);have bz:=A_ (A1f (i:=0) (v0:=QH (QL ⟨ah,0,QJ⟩) (i+1) ag) (B9u (B4p G am) aV (λx aj=>(aM.lt x aj).1)));clear aA aV cd a4 a5 bg cy ck;go_roundg g;case measure=>omega
   case rel=>exact⟨i+1,QL ⟨ah,0,QJ⟩,ag,_,b9.o,gN,bJ.o,by rw[bL.o];exact bO,bz⟩
  obtain rfl:i=E:=oS;have a6:=A_ (show wr.1[w.1.size+1]?=QL (AK #[QH QJ 0 0,QH QJ 0 0] 26)from(G.block _ (E_ aq) (by intro e;injection e with e;have:=aK.o;omega)).trans aq.o);obtain⟨W,-⟩:=B_ ae (j:=0) rfl;obtain⟨az,-⟩:=B_ ae (j:=1) rfl;obtain⟨r0,ct⟩:=B_ a6 (j:=0) rfl;obtain⟨cu,cv⟩:=B_ a6 (j:=1) rfl;simp at W az r0 cu ct cv;have lx:u<wr.1.size:=E_ ae;have c9:w.1.size+1≠u:=by have:=aK.o;omega
  go_wp2;have aN:=A_ (A1f (i:=1) (v0:=QH ac m.triangles.length af) (A1f (i:=0) (v0:=QH A i c) (A3p wr (QL (w.1.size+1)))));have bP:=A_ (ad.keep aN (λh=>by have:=(ad.lt _ h).1;have:=E_ aq;omega) (λh=>by have:=(ad.o.zlt _ h).1;have:=E_ aq;omega));have bT:=A_ (((bQ.kept (B4p G (CG _ _)) (λh=>by have:=a3 _ h;omega))).kept aN.o (λh=>by have:=bR.o _ h;omega));have bp:=A_ ((aY.setCell (p:=⟨w.1.size+1,0,QJ⟩) (JU _) (QH A i c)).setCell (p:=⟨w.1.size+1,1,QJ⟩) (JU _) (QH ac m.triangles.length af));have bS:=A_ (aN.size);have bA:=A_ (G.size);refine BI (v:=AM #[QH A i c,QH ac m.triangles.length af]) (by simp[BO,results48,go_sem, *]) rfl ?_;refine⟨aa.1.size,_,_,zs,rfl,⟨?_,bT,λg X=>Nat.lt_trans (a3 g X) a2,aG.size,BM bA bS⟩,bp⟩;have h:=bP.o;rw[<-aZ.o,List.take_length]at h;rw[aZ.o]at h ⊢;exact h
section
structure BiI (w3 wr:J) (L gO gM g8 n:Nat) (A:Option AH) (k c:Nat) (ps:List TPoint) (zs:List Nat) (ms:List Int):Prop where
 bl:Bw w3 wr
 kO:wr.1[gO]?=QL (AK #[QH A k c,QH QJ 0 0] 26)
 k8:wr.1[g8]?=QL (AK #[QH (QL ⟨gM,0,QJ⟩) n n] 31)
 mr:wr.ownsRow w3.1.size 3 1 (QH (QL ⟨gM,0,QJ⟩) n n) n (ms.map (N .i64))
 mi:∀ x∈ms,I64 x
 pv:PV L 118 wr (QH A k c) k ps zs
 lo:w3.1.size<=L/\L<=wr.1.size/\w3.1.size<=gO/\w3.1.size<=gM/\w3.1.size<=g8
 dX:gO≠gM/\gO≠g8/\gM≠g8
 dB:∀ g,(QH A k c).ownBlock=QL g->g≠gO/\g≠gM/\g≠g8
 dZ:∀ b∈zs,b≠gO/\b≠gM/\b≠g8
section
variable {w3 wr wa:J} {L gO gM g8 n:Nat} {A:Option AH} {k c:Nat} {ps:List TPoint} {zs:List Nat} {ms:List Int}
end
end
attribute [local simp] MP.trow

end Go.Proofs.YtbkilakncnlebaaGreatDoor.X

namespace Go.XB
open Go.RowKit Go.Proofs.YtbkilakncnlebaaGreatDoor.X
def MP.tupM (x:TMesh):MP:=⟨λv bs w=>∃ A0 n0 c0 A1 n1 c1,v=.tuple #[AM #[QH A0 n0 c0,QH A1 n1 c1],AC AD]/\Agg w (AM #[QH A0 n0 c0,QH A1 n1 c1]) x bs,λ_ _ _ _ hb h=>by
 obtain⟨A0,n0,c0,A1,n1,c1,e,h⟩:=h;exact⟨A0,n0,c0,A1,n1,c1,e,h.below hb⟩⟩
def MP.exM (y:AJ):MP:=⟨λv bs _=>bs=[]/\(∃ A0 n0 c0 A1 n1 c1,v=AM #[QH A0 n0 c0,QH A1 n1 c1])/\y=.tuple #[v,AC AD],λ_ _ _ _ _ h=>h⟩
end Go.XB
namespace Go.Proofs.YtbkilakncnlebaaGreatDoor.X
open Go.RowKit Go.XB Go.XN Proofs.Tryz
def E3z {α:Type} [Dat α] (w:J) (x:α) (e:Ending) (w':J):Prop:=∃ v' s,e=.returned v'/\Agg w' v' x s/\(∀ b∈s,w.1.size<=b)/\Bw w w'
def D2c {α:Type} [Dat α] (w:J) (x:α) (e:Ending) (w':J):Prop:=∃ v' s,e=.returned (.tuple #[v',AC AD])/\Agg w' v' x s/\(∀ b∈s,w.1.size<=b)/\Bw w w'
theorem CMesh.agg {w:J} {lo L:Nat} {vP vT:AJ} {m:TMesh} {zs:List Nat} (h:CMesh w lo L vP vT m zs):∃ s,Agg w (AM #[vP,vT]) m s/\∀ b∈s,lo<=b:=by
 obtain⟨u,D,-,ac,-⟩:=h;obtain⟨Z,ab,G,rfl,W,O⟩:=u.sl;obtain⟨Y,aa,E,rfl,T,H⟩:=D.sl;refine⟨G++E,TMesh.mkAgg W T,λx X=>?_⟩;rcases CO.1 X with h|h
 ·rcases O x h with h|h
  ·have:=(u.lt x h).1;omega
  have:=(u.zlt x h).1;omega
 exact(EU D.1 x (H x h)).1
theorem C7a (v:AJ) (m:TMesh) (b:List Nat) (w:J) (O:Agg w v m b) (ok:∀ p∈m.1,A1b p=AD) (E:m.1.length<=144) (H:m.triangles.length<=1000) :
  AR prog 48 #[v] w (E3z w m):=by
 refine(B7i v m b w O ok E H).mono ?_;rintro _ T ⟨L,vP,vT,zs,rfl,D,u⟩;obtain⟨s,G,h⟩:=D.agg;exact⟨_,s,rfl,G,h,u⟩
structure RefD (m:TMesh) (L:List Int) (R:List Bool) (xs ys xs' ys':List Int):Prop where
 mesh:MeshI m xs ys
 o:MeshI (A2m m R) xs' ys'
 sd:∀ t∈m.triangles,B4h (P_ m.triangles) t=AD
 cl:C8n (P_ m.triangles) m.triangles 50 (B0a (P_ m.triangles).length (A3d m.triangles L))=QL R
 el:(P_ m.triangles).length<=100
 ed:∀ e∈P_ m.triangles,(0<=e.a/\e.a<m.1.length)/\0<=e.b/\e.b<m.1.length
attribute [local go_sem] L_ Go.XB.opAt N_ M_ Region.wanted yielded
attribute [local simp] N_ M_ MP.eq MP.agg MP.aggV MP.sl MP.tupM MP.exM MP.slbox MP.box A0r
structure CopD (p:TProblem):Prop where
 ok:∀ q∈p.1.1,A1b q=AD
 n:p.1.1.length<=144
 t:p.1.triangles.length<=1000
 d:p.2.length<=144/\∀ x∈p.2,B4q x
 s:p.3.length<=144/\∀ x∈p.3,B4q x
theorem C0h (v:AJ) (p:TProblem) (b:List Nat) (w:J) (O:Agg w v p b) (h:CopD p) :
  AR prog 16 #[v] w (E3z w p):=by
 have a6:=A_ O;have T:=A_ h;obtain⟨a4,bd,a8,bf,a5,n1,a9,bg,aK,n2,aU,bh,aL,aE,c3,bi,rfl,rfl,aC,aD,ab,ac⟩:=TProblem.agg O;have aP:=A_ (TMesh.mkAgg (x:=p.1) aC aD);have aO:=A_ ab;have aQ:=A_ ac;have aS:=A_ (by rw[<-ab.1];exact h.d.1:n2<=144);have aT:=A_ (by rw[<-ac.1];exact h.s.1:aE<=144);clear aC aD ab ac O h;go_enter func16,ntmps16;go_upto_region 1 with fail;refine Code.new2 λa7 Z=>?_;have Y:=A_ Z.b;have aR:=A_ Z.k;have al:=A_ Z.l;clear Z;obtain⟨aV,-,aX⟩:=bx aR;refine W_ 9 kR kR kR kR kR ?_;simp only[GE,ET,GG,EH];iterate 2 refine C_ _ ?_
 refine D_ (MP.aggV p.1) ?_ ?_;·intro ad H X D h;obtain⟨ay,az⟩:=F_ D;simp at h;refine G_ ?_;exact(C7a _ p.1 _ X ((aP.below Y).below D) T.ok T.n T.t).mono λ_ _ ⟨u,s,he,W,hn,G⟩=>⟨u,he,G,s,W,λb G=>⟨hn b G,W.lt b G⟩⟩
 iterate 2 refine C_ _ ?_
 refine D_ (MP.sl p.2) ?_ ?_;·intro ad H X D h;obtain⟨ay,az⟩:=F_ D;simp at h;refine G_ ?_;exact A1c (A2l aK n2 aU p.2 _ X ((aO.below Y).below D) aS T.d.2)
 iterate 2 refine C_ _ ?_
 refine D_ (MP.sl p.3) ?_ ?_;·intro ad H X D h;obtain⟨ay,az⟩:=F_ D;simp at h;refine G_ ?_;exact A1c (A2l aL aE c3 p.3 _ X ((aQ.below Y).below D) aT T.s.2)
 intro ad H a3 D h aW;clear aW;simp at h;have q2:=h.2.2.1;have aY:=h.2.2.2.2.2.1;have aZ:=h.2.2.2.2.2.2.2.2;obtain⟨W,aa⟩:=q2;obtain⟨ae,aH,ap,a1,af,aI,aq,a2,bj,aJ,aw,ax⟩:=TMesh.agg W;obtain⟨⟨⟨ah,aF,an,bl,ar⟩,-⟩,aA⟩:=aY;obtain⟨⟨⟨ai,aG,ao,bm,au⟩,-⟩,aB⟩:=aZ;have aj:=A_ (TProblem.mkAgg (x:=p) aw ax ar au)
 have ak:=A_ (show ∀ b∈a1++(a2++(H 5++H 8)),w.1.size+1<b from λb G=>by
  have ba:=E_ al;rw[aJ]at aa;rcases CO.1 G with E|E
  ·have:=(aa b (CO.2 (.inl E))).1;omega
  rcases CO.1 E with E|E;·have:=(aa b (CO.2 (.inr E))).1;omega
  rcases CO.1 E with E|E;·have:=(aA b E).1;omega
  have:=(aB b E).1;omega)
 have ag:=A_ (AI Y D);have Q1:=A_ (K_ al D);generalize H 5=bn at *;generalize H 8=z8 at *;clear h W aa aJ aw ax ar au aA aB aV aX D;obtain⟨r0,be,bc⟩:=bx Q1;go_wp2;have am:=A_ (A1f (i:=3) (v0:=QH ai aG ao) (A1f (i:=2) (v0:=QH ah aF an) (A1f (i:=1) (v0:=QH af aI aq) (A1f (i:=0) (v0:=QH ae aH ap) (A3p a3 (QL (w.1.size+1)))))));have aM:=A_ (ag.grown am ag.size (λx O=>by injection O with O;omega));have aN:=A_ (aj.keep (λb G=>am.block b (aj.lt b G) (by intro e;injection e with e;have:=ak b G;omega)));refine BI (v:=AM #[QH ae aH ap,QH af aI aq,QH ah aF an,QH ai aG ao]) (by simp[BO,results16,go_sem, *]) rfl ?_;exact⟨_,_,rfl,aN,λb G=>by have:=ak b G;omega,aM.o⟩
def D8u:Option TRat->List TRat->List TRat
 |some r,x::_=>[A0k (U_ 0) (A0d r x)]
 |_,_=>[]
attribute [local simp] MP.aggS
def E3l (r s:TRat):Option TRat->Option TRat->Option TRat
 |some a,QL b=>QL (A0k (A0d r a) (A0d s b))
 |_,_=>QJ
structure HeatD (p:TProblem) (xs ys:List Int) (om os:Option TRat) (tau:TRat):Prop where
 pr:ProbI p xs ys
 md:MeshD p.1 xs ys
 hm:C0y p.1 (C3x p.1)=B7m om
 hs:C0y p.1 (A9s p)=B7m os
 nm:(A3f p.1 AF).length=B6w om
 ns:B6w os=B6w om
 okm:Ok1 om
 oks:Ok1 os
 okc:Ok1 (E3l (U_ 1) tau om os)
 pos:∀ r,E3l (U_ 1) tau om os=QL r->0<R_ r
 ld:(A6v p).any A2e=AF
 ll:(A6v p).length=B6w om
 tok:J_ tau=AD
 t1:A9m tau=1
structure HeatU (p:TProblem) (om os:Option TRat) (tau:TRat) (us:List TRat):Prop where
 len:us.length=p.1.1.length
 ok:us.all J_=AD
 ap:(D8u om (D7i p.1 us)).any A2e=AF
 rt:(E7n (D8u om (D7i p.1 us)) tau (A6v p)).all J_=AD
 so:(A7r (E3l (U_ 1) tau om os) (E7n (D8u om (D7i p.1 us)) tau (A6v p))).all J_=AD
def MP.aggW {α:Type} [Dat α] (x:α):MP:=⟨λv bs w=>Agg w v x bs,λ_ _ _ _ hb h=>h.below hb⟩
def MP.tupW {α:Type} [Dat α] (x:α):MP:=⟨λv bs w=>∃ u,v=.tuple #[u,AC AD]/\Agg w u x bs,λ_ _ _ _ hb ⟨u,e,h⟩=>⟨u,e,h.below hb⟩⟩
def MP.tupA (y:AJ):MP:=⟨λv bs _=>bs=[]/\v=y/\∃ u,v=.tuple #[u,AC AD],λ_ _ _ _ _ h=>h⟩
def MP.tup1 (y:AJ):MP:=⟨λv bs _=>bs=[]/\y=.tuple #[v,AC AD],λ_ _ _ _ _ h=>h⟩
attribute [local simp] MP.aggW MP.tupW MP.tupA MP.tup1

end Go.Proofs.YtbkilakncnlebaaGreatDoor.X

namespace Go.XB
open Go.RowKit Go.Proofs.YtbkilakncnlebaaGreatDoor.X
section
variable {α:Type} [Dat α]
def Grow (lo:Nat) (e:BS) (wr:J) (v:AJ) (i:Nat) (ps:List α):Prop :=
 ∃ cells fss,wr.ownsRow lo e (DL α) v i cells/\Filled wr cells ps fss/\ps.length=i/\(∀ g,v.ownBlock=QL g->g∉fss.flatten)/\∀ b∈fss.flatten,lo<=b
variable {lo:Nat} {e:BS} {wr wa:J} {v:AJ} {i:Nat} {ps:List α}
theorem Grow.nil (lo:Nat) (e:BS) (wr:J):Grow (α:=α) lo e wr (QH QJ 0 0) 0 [] :=
 ⟨[],[],MO _ _ _ _,Filled.nil _ _,rfl,λg h=>by(cases h),sI⟩
theorem Grow.made (lo:Nat) (e:BS) (w:J) (hl:lo<=w.1.size):Grow (α:=α) lo e (w.alloc (AK #[] e)) (QH (QL ⟨w.1.size,0,QJ⟩) 0 0) 0 [] :=
 ⟨[],[],IW w #[] 0 hl (DV _) sI,Filled.nil _ _,rfl,λg _=>sI,sI⟩
theorem Grow.below (h:Grow lo e wr v i ps) (b:Bw wr wa):Grow lo e wa v i ps:=by
 obtain⟨cells,fss,u,D,E,G,H⟩:=h;exact⟨cells,fss,I_ u b,D.below b,E,G,H⟩
theorem Grow.grown (h:Grow lo e wr v i ps) {g:Nat} (H:wr.grownBy wa (QL g)) (Y:g<lo):Grow lo e wa v i ps:=by
 obtain⟨cells,fss,D,E,O,T,G⟩:=h;refine⟨cells,fss,D.kept H ?_,E.keep (λb u=>H.block b (E.lt b u) (λe=>by injection e with e;have:=G b u;omega)),O,T,G⟩;rcases D.2 with⟨rfl,_⟩|⟨X,cap,W,rfl,u,_⟩;·exact .inl rfl
 exact .inr (λe=>by injection e with e;simp at e;omega)
theorem Grow.sl (h:Grow lo e wr v i ps):∃ A c bs,v=QH A i c/\Sl wr A i c ps bs/\∀ b∈bs,lo<=b:=by
 obtain⟨cells,fss,D,E,G,Y,H⟩:=h;obtain⟨A,c,bs,X,W,T⟩:=E.sl D G;refine⟨A,c,bs,X,W,λb u=>?_⟩;rcases T with⟨_,rfl⟩|⟨g,_,rfl,O,_⟩;·cases u
 rcases EM.1 u with rfl|u;·exact O
 exact H b u
theorem Grow.lt (h:Grow lo e wr v i ps):∀ g,v.ownBlock=QL g->lo<=g/\g<wr.1.size:=λg hg=>by
 obtain⟨cells,fss,h1,_⟩:=h
 exact EU h1 g hg
theorem Grow.keeps (h:Grow lo e wr v i ps) {w8:J} (hg:wa.grownBy w8 v.ownBlock) (hl:lo<=wa.1.size):Below lo wa w8 :=
 ⟨hg.os,hg.tape,hg.output,hg.size,λk hk=>hg.block k oS (λe=>by have:=(h.lt k e.symm).1;omega)⟩
theorem C7b {w w':J} {b L:Nat} {o:Obj} (h:w.1[b]?=QL o) (hb:Below L w w') (hl:b<L):w'.1[b]?=QL o:=(hb.block b hl).trans h
theorem D5g {α:Type} [Dat α] {w:J} {y:α} {L:List AJ} {b:List Nat} (h:Agg w (AM L.toArray) y b):Dat.at_ w L y b:=by
 obtain⟨D,u,E⟩:=h;injection u with u;have e:L=D:=by simpa using congrArg Array.toList u
 rw[e];exact E
end
end Go.XB
namespace Go
open Go.RowKit Go.XB Go.Proofs.YtbkilakncnlebaaGreatDoor.X
theorem D5t {P:DZ} {α:Type} [Dat α] {lo:Nat} {wr wa:J} {v:AJ} {k:Nat} {ps:List α} {aA:Array BU} {rest:List BU} {o:BU} {a:Act} {Q:Exit->Act->J->Prop} {s x:Operand} {t e:BS} {z:AJ} {ac:Nat} {ab:AH} {cs:List AJ} {aB:α} {T:List Nat}
  (ao:o.guard=QJ) (ar:o.op=.call { callee:=.builtin .append,args:=#[s,x],argTypes:=#[t,t] }) (aw:P.underlying t=QL (.slice e)) (aD:(P.info? e).map (λi=>(i.zero,i.size,i.bytes))=QL (QL z,DL α,ac)) (aF:Grow lo e wr v k ps) (ai:Bw wr wa) (aH:lo<=wr.1.size)
  (aq:∀ j u,cs[j]?=QL u->wa.cell? (ab.add j)=QL u) (E:Dat.at_ wa cs aB T) (ag:∀ b∈T,wr.1.size<=b) (aa:k+1<=BG/\(k+1)*ac<=140737488355328)
  (h:∀ g' cap' w8,Hid (Grow lo e w8 (QH (QL ⟨g',0,QJ⟩) (k+1) cap') (k+1) (ps++[aB]))->Hid (wa.grownBy w8 v.ownBlock)->Hid (v.ownBlock=QL g'\/wa.1.size<=g')->FF P aA Q rest (a.put o.dst (QH (QL ⟨g',0,QJ⟩) (k+1) cap')) w8)
  (au:a.eval s=v:=by go_simp;done) (ax:a.eval x=QH (QL ab) 1 1:=by go_simp;done)
  (az:z.cells.size=DL α:=by rfl):FF P aA Q (o::rest) a wa:=by
 obtain⟨i,ap,ay,q1,q2⟩:=DW aD;obtain⟨cells,fss,W,ad,X,an,aC⟩:=aF;have ah:∀ b∈T,b<wa.1.size:=Dat.lt E;have aI:=ai.size;have aj:=ad.lt;rcases W.2 with⟨rfl,rfl⟩|⟨gB,cap,am,rfl,Y,Z,_⟩
 ·obtain rfl:ps=[]:=IF X
  obtain rfl:fss=[]:=IF ad.1;refine A8l ao s x t ar e i z (DL α) ac aw ap ay q1 q2 az Dat.pos au ab 1 cs ax (Dat.len E) aq (Dat.one E) (by have:=aa.2;omega) ?_;intro g' cap' w8 af O aE;refine h g' cap' w8 ⟨[]++cs,[]++[T],⟨af.1,af.2.imp id λ⟨g,cap,am,W,ad,X⟩=>⟨g,cap,am,W,oS,X⟩⟩,Filled.push (Filled.nil _ _) sI (Dat.keep E λb Y=>O.block b (ah b Y)),rfl,?_,?_⟩ ⟨O.os,O.tape,O.output,O.size,λk aa _=>O.block k aa⟩ (.inr aE);·intro g Z D;injection Z with Z;simp at Z D;have:=ah _ D;omega
  intro b Y;simp at Y;have:=ag b Y;omega
 refine A1m ao s x t ar lo e i z (DL α) ac aw ap ay q1 q2 az Dat.pos gB k cap cells au (I_ W ai) ab 1 1 cs ax (by rw[KE];exact Dat.len E) aq (Dat.one E) aa.1 aa.2 oS ?_;intro g' cap' w8 af ak al;have aG:=E_ Z;have k1:∀ b∈fss.flatten,w8.1[b]?=wr.1[b]?:=λb H=>(ak.block b (by have:=aj b H;omega) (by intro e;injection e with e;exact an gB rfl (e ▸ H))).trans (ai.block b (aj b H));have k2:∀ b∈T,w8.1[b]?=wa.1[b]?:=λb H=>ak.block b (ah b H) (by intro e;injection e with e;have:=ag b H;omega);refine h g' cap' w8 ⟨cells++cs,fss++[T],af,Filled.push (ad.keep k1) (by rw[W.1,X]) (Dat.keep E k2),by simp[X],?_,?_⟩ ak (al.imp (λe=>by rw[e];rfl) (λe=>oS))
 ·intro g ae D
  injection ae with ae;simp at ae;subst ae;rw[List.flatten_append,CO]at D;rcases D with D|D
  ·rcases al with rfl|rfl
   ·exact an _ rfl D
   have:=aj _ D;omega
  simp at D;have:=ag _ D;have:=ah _ D;rcases al with rfl|rfl<;>omega
 intro b G;rw[List.flatten_append,CO]at G;rcases G with G|G
 ·exact aC b G
 simp at G;have:=ag b G;omega
end Go
