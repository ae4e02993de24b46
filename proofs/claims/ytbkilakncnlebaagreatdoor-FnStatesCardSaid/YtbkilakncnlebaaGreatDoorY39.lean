/- A part of the proof. -/
import Derived.Test.YtbkilakncnlebaaGreatDoorY33
import Derived.Deep.RegionWith
import Derived.Test.YtbkilakncnlebaaGreatDoorY26
set_option linter.constructorNameAsVariable false
set_option maxHeartbeats 16000000
set_option maxRecDepth 10000
open Bool renaming false→AF,true→AD
open Decidable renaming decide→AU
open Go renaming Addr→AH,World→J,bodyPost_ret→BI,heap_alloc_new→CF,results→BO
open Go.Obj renaming cells→AK
open Go.Value renaming bool→AC,slice→S
open Go.XB.Below renaming box→AV,next→AI
open List renaming all_eq_true→BJ,mem_append→CO,mem_range→IQ,range→EZ
open Nat renaming le_refl→BH,le_trans→BM
open Option renaming none→I,some→B
namespace Go.Proofs.YtbkilakncnlebaaGreatDoor.X
open Go.RowKit Go.XB Go.XN Proofs.Tryz
attribute [local go_sem] L_ Go.XB.opAt N_ M_ Region.wanted yielded
attribute [local simp] N_ M_ MP.eq MP.agg MP.sl A0r
theorem D8s {w w1 w2:J} {r:Option Nat} (h:w.grownBy w1 r) (h2:w1.grownBy w2 r):w.grownBy w2 r :=
 ⟨h2.os.trans h.os,h2.tape.trans h.tape,h2.output.trans h.output,BM h.size h2.size,λk hk hne=>(h2.block k (Nat.lt_of_lt_of_le hk h.size) hne).trans (h.block k hk hne)⟩
theorem A9x {w w1 w2:J} {r:Option Nat} (h:w.grownBy w1 r) (h2:Bw w1 w2):w.grownBy w2 r:=D8s h (A6m h2 r)

def IsK (r:TRat):Prop:=∃ a d:Int,(1<=a/\a<=4)/\(1<=d/\d<=2)/\r=mkR a d
def IsF (r:TRat):Prop:=∃ a:Int,(-1<=a/\a<=3)/\r=U_ a
structure CoefI (ks fs:List TRat) (i:Nat):Prop where
 kl:ks.length=i
 fl:fs.length=i
 k:∀ r∈ks,IsK r
 f:∀ r∈fs,IsF r
structure TwoR (w wr:J) (g i gK cK gF cF:Nat) (ks fs:List TRat) (zK zF:List Nat):Prop where
 k:PC w 35 wr gK i cK ks zK
 f:PC w 35 wr gF i cF fs zF
 ne:gK≠gF
 kf:gK∉zF
 fk:gF∉zK
 gr:w.grownBy wr (B g)
def E1d (w:J) (g:Nat) (A:Option AH) (n c:Nat) (e:Ending) (w':J):Prop:=∃ (ks fs:List TRat) (K:Option AH) (cK:Nat) (F:Option AH) (cF:Nat) (bK bF:List Nat),e=.returned (.tuple #[S K 3 cK,S F 3 cF])/\CoefI ks fs 3/\Sl w' K 3 cK ks bK/\Sl w' F 3 cF fs bF/\(∀ b∈bK++bF,w.1.size<=b)/\Cur w' g A n c/\w.grownBy w' (B g)
theorem C6y (g:Nat) (A:Option AH) (n c:Nat) (xs:List TByte) (bs:List Nat) (w:J) (cd:Sl w A n c xs bs) (b8:n<=1048576) (aY:Cur w g A n c) (b4:g∉bs) :
  Calls prog 39 #[.pointer (B ⟨g,0,I⟩)] w (E1d w g A n c):=by
 have aJ:=A_ cd;have ck:=A_ aY;have T:=A_ b4;have aI:=A_ b8;have Y:g<w.1.size:=aY.lt';obtain⟨ci,b5,ce,cf,cg⟩:=info_parts B2r;clear cd aY b4 b8
 have bU:=A_ (show TwoR w ((w.alloc (AK #[] 35)).alloc (AK #[] 35)) g 0 w.1.size 0 (w.1.size+1) 0 [] [] [] []from
  ⟨(PC.start (BH _)).below (AV _),by have h:=PC.start (α:=TRat) (e:=35) (w:=w) (w2:=w.alloc (AK #[] 35)) sI;rwa [World.size_alloc]at h,oS,sI,sI,A9x (A9x (World.grownBy.refl _ _) (AV _)) (AV _)⟩)
 have bp:=A_ (show Cur ((w.alloc (AK #[] 35)).alloc (AK #[] 35)) g A n c from(ck.below' (AV _)).below' (AV _));go_enter func39,ntmps39;go_wp2_with fail;go_loopg [4,5,6] 3 (λgg s4 s5 s6 wr=>∃ (i ae ad O ac:Nat) (ks G:List TRat) (ar Z:List Nat),i+gg=3/\s6=.int .i64 i/\s4=S (B ⟨ae,0,I⟩) i ad/\s5=S (B ⟨O,0,I⟩) i ac/\Hid (TwoR w wr g i ae ad O ac ks G ar Z)/\Hid (CoefI ks G i)/\Hid (Cur wr g A n c));case atStart=>exact⟨0,w.1.size,0,w.1.size+1,0,[],[],[],[],rfl,rfl,rfl,rfl,bU.o,⟨rfl,rfl,sI,sI⟩,bp.o⟩
 case round =>
  clear bU bp;obtain⟨i,ae,ad,O,ac,ks,G,ar,Z,cu,rfl,rfl,rfl,D,W,aH⟩:=hrel;rename J=>wr;rcases Nat.lt_or_ge i 3 with b6|b6
  ·have cM:(i:Int)<3:=oS
   obtain⟨gg,rfl⟩:∃ gg,gk=gg+1:=⟨gk - 1,oS⟩
   have ct:=A_ (by omega:i+1+gg=3);have bq:=A_ (by unfold maxLen;omega:i+1<=maxLen);have br:=A_ (by omega:(i+1)*56<=140737488355328);clear cu b6;go_wp2_with fail;refine(A5q 4 dE dE g A n c xs bs wr (aJ.grown D.gr T) aI aH T).mono ?_;rintro _ w3 ⟨bi,rfl,cx,bZ,ao⟩;have bF:=A_ bZ;have aD:=A_ (A9w D.gr ao);have bQ:=A_ (D.k.keepG ao Y);have bv:=A_ (D.f.keepG ao Y);obtain⟨cN,cO⟩:=cx;clear bZ ao;go_wp2_with fail;refine(A5q 2 dE dE g A n c xs bs w3 (aJ.grown aD T) aI bF T).mono ?_;rintro _ be ⟨bj,rfl,cy,b0,ap⟩;have bG:=A_ b0;have bB:=A_ (A9w aD ap);have aL:=A_ (bQ.keepG ap Y);have aB:=A_ (bv.keepG ap Y);obtain⟨cP,cQ⟩:=cy;clear b0 ap bQ bv;go_wp2_with fail;refine(B3j (1+bi) (1+bj) oS oS oS oS be).mono ?_;obtain⟨r,a4⟩:∃ r,mkR (1+bi) (1+bj)=r:=⟨_,rfl⟩
   have bN:=A_ (show IsK r from⟨1+bi,1+bj,oS,oS,a4.symm⟩);rw[a4];clear a4;rintro _ bf ⟨cV,ah,rfl,aW,b9,bX⟩;obtain⟨ax,a8,aQ,cI,ay,a9,aR,cJ,rfl,cA,_,_⟩:=TRat.agg aW;have aa:=A_ (show Bw be (bf.alloc (AK #[AC r.1.1,S ax a8 aQ,S ay a9 aR] 35))from AI bX (AV _));have bn:=A_ (A3x (aW.below (AV (AK #[AC r.1.1,S ax a8 aQ,S ay a9 aR] 35))));have bR:=A_ (aL.below aa);have aj:=A_ (aB.below aa);have aE:=A_ (A9x bB aa);have au:=A_ (bG.below' aa);have a1:=D.k.lt;have aZ:=D.f.lt;have cv:=aL.lt;have cw:=aB.lt;have aO:=A_ (show ∀ b∈ah,be.1.size<=b from λb E=>(b9.2 b E).1);have bI:=A_ (show ∀ b∈ah,w.1.size<=b/\b≠ae from λb E=>by have:=aO b E;omega);have bK:=A_ aE.size;clear aW b9 bX cA aL aB;go_wp2_with (at_builtin;refine C9k rfl _ _ 27 rfl 35 ci (.agg #[AC AF,S I 0 0,S I 0 0]) 56 underlying27 b5 ce cf cg rfl bR bK gD ⟨bf.1.size,0,I⟩ 1 [AC r.1.1,S ax a8 aQ,S ay a9 aR] r ah gD (A0a (CF bf _)) bn bI bq br ?_;intro X bW cG cb af a2);have bt:=A_ (au.keep' (af.block g (by have:=au.lt';omega) iO) af.size);have aF:=A_ (C1x aE af a1.1);have bz:=A_ (aj.keep af D.ne D.kf);have aN:=A_ (show X≠O from by have aU:=aj.lt;have cq:=D.ne;rcases a2 with h|h<;>omega);have bO:=A_ (show X∉Z from by
    rcases a2 with h|h;·rw[h];exact D.kf
    intro u;have aU:=aj.zlt _ u;omega)
   have ai:=A_ (show O∉ar++ah from by
    intro u;rcases CO.1 u with u|u
    ·exact D.fk u
    have:=aO _ u;omega)
   have al:=A_ cb
   have ak:=A_ (show(ks++[r]).length=i+1/\∀ bd∈ks++[r],IsK bd from⟨by simp[W.o.kl],λbd a5=>by
    rcases CO.1 a5 with h|h;·exact W.k _ h
    rw[List.mem_singleton.1 h];exact bN⟩)
   have aK:=A_ (show G.length=i/\∀ r∈G,IsF r from⟨W.fl,W.f⟩);clear cb af a2 D W bN bR aj aE au aa bn aO bI bK bB aD bF bG a1 aZ cv cw aH;obtain⟨a7,b7⟩:∃ l,l=ks++[r]:=⟨_,rfl⟩
   obtain⟨bm,ch⟩:∃ l,l=ar++ah:=⟨_,rfl⟩
   rw[<-b7]at al ak;rw[<-ch]at al ai;clear b7 ch;refine(A5q 5 dE dE g A n c xs bs cG (aJ.grown aF T) aI bt T).mono ?_;rintro _ bg ⟨bl,rfl,cz,b3,aq⟩;have bH:=A_ b3;have bD:=A_ (A9w aF aq);have aM:=A_ (al.keepG aq Y);have aC:=A_ (bz.keepG aq Y);obtain⟨cR,cU⟩:=cz;clear b3 aq al bz bt aF;go_wp2_with fail;refine(B0d (bl - 1) bg (by constructor<;>omega)).mono ?_;obtain⟨H,a6⟩:∃ r,U_ (bl - 1)=r:=⟨_,rfl⟩
   have bM:=A_ (show IsF H from⟨bl - 1,oS,a6.symm⟩);rw[a6];clear a6;rintro _ bh ⟨cW,z8,rfl,aX,ca,bY⟩;obtain⟨az,ba,aS,cK,aA,bc,aT,cL,rfl,cB,_,_⟩:=TRat.agg aX;have ab:=A_ (show Bw bg (bh.alloc (AK #[AC H.1.1,S az ba aS,S aA bc aT] 35))from AI bY (AV _));have bo:=A_ (A3x (aX.below (AV (AK #[AC H.1.1,S az ba aS,S aA bc aT] 35))));have am:=A_ (aM.below ab);have bA:=A_ (aC.below ab);have aG:=A_ (A9x bD ab);have aw:=A_ (bH.below' ab);have a1:=aM.lt;have aZ:=aC.lt;have aP:=A_ (show ∀ b∈z8,bg.1.size<=b from λb E=>(ca.2 b E).1);have bJ:=A_ (show ∀ b∈z8,w.1.size<=b/\b≠O from λb E=>by have:=aP b E;omega);have bL:=A_ aG.size;clear aX ca bY cB aC bD bH;go_wp2_with (at_builtin;refine C9k rfl _ _ 27 rfl 35 ci (.agg #[AC AF,S I 0 0,S I 0 0]) 56 underlying27 b5 ce cf cg rfl bA bL gD ⟨bh.1.size,0,I⟩ 1 [AC H.1.1,S az ba aS,S aA bc aT] H z8 gD (A0a (CF bh _)) bo bJ bq br ?_;intro an bV cH cc ag a3);have cj:=A_ (aw.keep' (ag.block g (by have:=aw.lt';omega) iO) ag.size);have bE:=A_ (C1x aG ag aZ.1);have bS:=A_ (am.keep ag (Ne.symm aN) ai);have bT:=A_ (show X≠an from by have aU:=am.lt;have cq:=aN.o;rcases a3 with h|h<;>omega);have bu:=A_ (show an∉bm from by
    rcases a3 with h|h;·rw[h];exact ai
    intro u;have aU:=am.zlt _ u;omega)
   have bP:=A_ (show X∉Z++z8 from by
    intro u;rcases CO.1 u with u|u
    ·exact bO u
    have:=aP _ u;omega)
   have cn:=A_ (show TwoR w cH g (i+1) X bW an bV a7 (G++[H]) bm (Z++z8)from⟨bS,cc,bT,bP,bu,bE⟩)
   have cm:=A_ (show CoefI a7 (G++[H]) (i+1)from⟨ak.o.1,by simp[aK.o.1],ak.o.2,λbd a5=>by
    rcases CO.1 a5 with h|h;·exact aK.2 _ h
    rw[List.mem_singleton.1 h];exact bM⟩)
   clear cc ag a3 bS bT bu bP bE ak aK bM bo ab aP bJ bL aG am bA aw aM aN bO ai;go_wp2_with fail;go_roundg gg;case measure=>omega
   case rel=>exact⟨i+1,X,bW,an,bV,a7,G++[H],bm,Z++z8,ct,oD,rfl,rfl,cn,cm,cj⟩
  have cs:i=3:=oS;subst cs;go_wp2_with fail;have aV:=D.o;obtain⟨cp,cF,cE⟩:=aV.k.sl;obtain⟨co,sF,cD⟩:=aV.f.sl;refine BI (v:=.tuple #[S (B ⟨ae,0,I⟩) 3 ad,S (B ⟨O,0,I⟩) 3 ac]) (by simp[BO,results39,go_sem, *]) rfl ?_;refine⟨ks,G,_,ad,_,ac,cp,co,rfl,W,cF,sF,?_,aH,aV.gr⟩;intro b E;rcases CO.1 E with E|E
  ·exact cE b E
  exact cD b E
def B4x (p:TProblem):Prop:=A8j p.1/\CoefI p.2 p.3 3
def E1w (w:J) (g:Nat) (e:Ending) (w':J):Prop:=∃ (p:TProblem) (v:Value) (s:List Nat),e=.returned v/\B4x p/\Agg w' v p s/\w.grownBy w' (B g)/\∀ b∈s,w.1.size<=b
theorem D6c {w w1 w2:J} {r:Option Nat} (h:w.grownBy w1 r) (hb:Below w.1.size w1 w2):w.grownBy w2 r :=
 ⟨hb.os.trans h.os,hb.tape.trans h.tape,hb.output.trans h.output,BM h.size hb.size,λk hk hne=>(hb.block k hk).trans (h.block k hk hne)⟩
theorem C6u {L b:Nat} {w:J} (h:L<=b) (x0 x1 x2 x3:Value):Below L w ((((w.setCell ⟨b,0,I⟩ x0).setCell ⟨b,1,I⟩ x1).setCell ⟨b,2,I⟩ x2).setCell ⟨b,3,I⟩ x3) :=
 ((((Below.refl L w).setCell (p:=⟨b,0,I⟩) h _).setCell (p:=⟨b,1,I⟩) h _).setCell (p:=⟨b,2,I⟩) h _).setCell (p:=⟨b,3,I⟩) h _
theorem D2x (g:Nat) (A:Option AH) (n c:Nat) (xs:List TByte) (bs:List Nat) (w:J) (aC:Sl w A n c xs bs) (ay:n<=1048576) (ab:Cur w g A n c) (ar:g∉bs) :
  Calls prog 12 #[.pointer (B ⟨g,0,I⟩)] w (E1w w g):=by
 have ah:=A_ aC;have aH:=A_ ab;have O:=A_ ar;have ag:=A_ ay;have aW:g<w.1.size:=ab.lt';clear aC ab ar ay;go_enter func12,ntmps12;go_wp2_with fail;obtain⟨w0,G⟩:∃ x,x=w.alloc (AK #[S I 0 0,S I 0 0,S I 0 0,S I 0 0] 29):=⟨_,rfl⟩
 have H:=A_ (by rw[G];exact AV _:Bw w w0);have ap:w0.1[w.1.size]?=B (AK #[S I 0 0,S I 0 0,S I 0 0,S I 0 0] 29):=by rw[G];exact CF w _
 have aX:w0.1.size=w.1.size+1:=by rw[G];simp
 have aP:=A_ ap;rw[<-G];clear G ap;refine(C6y g A n c xs bs w0 (ah.below H) ag (aH.below' H) O).mono ?_;rintro _ ad ⟨ks,Y,K,am,F,al,X,W,rfl,an,aa,Z,az,aq,D⟩;have aM:=A_ an;have aN:=A_ aa;have aJ:=A_ Z;have aI:=A_ aq;have aK:=A_ D;have T:=A_ (show ∀ b∈X++W,w.1.size+1<=b/\b<ad.1.size from λb u=>⟨by have:=az b u;omega,by rcases CO.1 u with h|h;exact aa.lt b h;exact Z.lt b h⟩);have aQ:=A_ ((D.block w.1.size oS iO).trans aP.o);have aS:=A_ (show Sl ad A n c xs bs from(ah.below H).grown D O);have aZ:=D.size;clear an aa Z az aq D;go_wp2_with fail;refine(C9a g A n c xs bs ad aS ag aI O).mono ?_;rintro _ aF ⟨m,v,s,rfl,ax,ao,E,ac⟩;obtain⟨ae,aE,aj,aT,af,n1,ak,aU,rfl,aD,aA,aB⟩:=TMesh.agg ao;have aw:g∉X:=λh=>by have:=(T g (List.mem_append_left _ h)).1;omega
 have au:g∉W:=λh=>by have:=(T g (List.mem_append_right _ h)).1;omega
 have aG:=A_ (TProblem.mkAgg (x:=⟨m,ks,Y⟩) aA aB (aN.grown E aw) (aJ.grown E au))
 have ai:=A_ (show ∀ b∈aT++(aU++(X++W)),w.1.size+1<=b from λb u=>by
  rw[<-List.append_assoc]at u;rcases CO.1 u with h|h
  ·rw[aD]at ac;have:=ac b h;omega
  exact(T b h).1)
 have aO:=A_ (show B4x ⟨m,ks,Y⟩from⟨ax,aM⟩);have aR:=A_ ((E.block w.1.size oS iO).trans aQ.o);have aL:=A_ (show w.grownBy aF (B g)from A9w (A9w (A9x (World.grownBy.refl _ _) H) aK) E);obtain⟨r0,aV,aY⟩:=bx aR;clear ao ax E ac aD aA aB aw au;go_wp2;refine BI (v:=.agg #[S ae aE aj,S af n1 ak,S K 3 am,S F 3 al]) (by simp[BO,results12,go_sem, *]) rfl ?_;refine⟨⟨m,ks,Y⟩,_,_,rfl,aO,aG.keep (λb u=>A0m w.1.size [S ae aE aj,S af n1 ak,S K 3 am,S F 3 al] aF 0 b (by have:=ai b u;omega)),D6c aL.o (C6u (BH _) _ _ _ _),λb u=>by have:=ai.o b u;omega⟩

theorem B4b (A:Option AH) (n c:Nat) (xs:List TByte) (bs:List Nat) (w:J) (T:Sl w A n c xs bs) (ah:n<=1048576) :
  Calls prog 4 #[S A n c] w (λe w'=>∃ (p:TProblem) (v:Value) (s:List Nat),e=.returned v/\B4x p/\Agg w' v p s/\Bw w w'):=by
 have E:=A_ T;have ab:=A_ ah;have aq:=A_ (show w.1.size+1∉bs from λaf=>by have:=T.lt _ af;omega);clear T ah;go_enter func4,ntmps4;go_wp2_with fail;have D:=A_ (AV (w:=w) (AK #[S I 0 0,S I 0 0,S I 0 0,S I 0 0] 29));refine(C2z A n c xs bs (w.alloc (AK #[S I 0 0,S I 0 0,S I 0 0,S I 0 0] 29)) (E.below D) ab).mono ?_;rintro _ W ⟨rfl,H,h,aA⟩;change Below _ _ _ at h;rw[World.size_alloc]at H h aA;have ap:=A_ H;have an:=A_ h;have ay:=A_ (show Sl W A n c xs bs from(E.below D).belowB h (λb u=>by have:=E.lt b u;omega));have au:=A_ (show W.1[w.1.size]?=B (AK #[S I 0 0,S I 0 0,S I 0 0,S I 0 0] 29)from(h.block _ oS).trans (CF w _));clear H h;go_wp2_with fail;refine(D2x (w.1.size+1) A n c xs bs W ay ab ap aq).mono ?_;rintro _ al ⟨p,v,s,rfl,ag,G,O,ai⟩;obtain⟨X,aj,ac,aE,Y,n1,ad,aF,Z,n2,ae,aG,aa,ak,c3,aH,rfl,aB,_,_,_,_⟩:=TProblem.agg G;have am:=A_ G;have ar:=A_ ag;have ax:=A_ (show ∀ b∈s,b≠w.1.size from λb u=>by have:=ai b u;omega);have aw:=A_ ((O.block w.1.size oS iO).trans au.o);have ao:=A_ (show Bw w al from((D.o).trans (an.o.mono oS)).grown O oS (λk az=>by injection az with af;omega));obtain⟨r0,aC,aD⟩:=bx aw;clear G ag O ai aB;go_wp2;refine BI (v:=.agg #[S X aj ac,S Y n1 ad,S Z n2 ae,S aa ak c3]) (by simp[BO,results4,go_sem, *]) rfl ?_;exact⟨p,_,s,rfl,ar,am.keep (λb u=>A0m w.1.size [S X aj ac,S Y n1 ad,S Z n2 ae,S aa ak c3] al 0 b (ax b u)),ao.trans (C6u (BH _) _ _ _ _)⟩
def D8j (m:TMesh):Bool:=m.triangles.all λt=>D2p m.1.length t&&(E3k (Z_ m.1 t.a) (Z_ m.1 t.b) (Z_ m.1 t.c)&&(J_ (A6c (Z_ m.1 t.a) (Z_ m.1 t.b) (Z_ m.1 t.c)) &&
 (((E3h m t).all λr=>!r.any A2e)&&(((B6b m t).all λr=>!r.any A2e)&&(AU (0<=t.4)&&AU (t.4<3))))))
theorem D5p {m:TMesh} {xs ys:List Int} (h:MeshI m xs ys) (E:B8e m) (u:D8j m=AD):MeshD m xs ys/\∀ t∈m.triangles,0<=t.4/\t.4<3:=by
 unfold D8j at u;simp only[Bool.and_eq_true,BJ,Bool.not_eq_true',decide_eq_true_eq]at u;refine⟨⟨h,E,?_,?_,?_,?_⟩,λt b=>(u t b).2.2.2.2.2⟩;·intro t b;have g:=D0i (u t b).2.1;exact⟨C7y (u t b).1,g.pr,(u t b).2.2.1⟩
 ·intro t b;exact D0i (u t b).2.1
 ·intro t b r D;exact(u t b).2.2.2.1 r D
 intro t b r D;exact(u t b).2.2.2.2.1 r D
theorem IsK.ok {r:TRat} (h:IsK r):J_ r=AD/\0<R_ r:=by
 obtain⟨a,d,b,u,rfl⟩:=h;obtain rfl|rfl|rfl|rfl:a=1\/a=2\/a=3\/a=4:=oS;all_goals obtain rfl|rfl:d=1\/d=2:=oS
 all_goals decide +kernel
theorem IsF.ok {r:TRat} (h:IsF r):J_ r=AD:=by
 obtain⟨a,b,rfl⟩:=h;exact ratOkB_iff.2 (D6r oS oS)
theorem D5n (rows:List Int) (p q:Int) (x:TRat):B2c rows p q x []=[]:=by unfold B2c;cases (AU (0<=rows.getD p.toNat (-1))&&AU (0<=rows.getD q.toNat (-1)))<;>rfl
theorem C6f (rows:List Int) (t:TTri) (L:List (List TRat)) (i:Nat):∀ j,A6j rows t L i [] j=[]
 |0=>rfl
 |j+1=>by rw[A6j,C6f rows t L i j,D5n]
theorem C6c (rows:List Int) (t:TTri) (L:List (List TRat)):∀ i,A7x rows t L [] i=[]
 |0=>rfl
 |i+1=>by rw[A7x,C6c rows t L i,C6f]
theorem D0e (m:TMesh) (rows:List Int) (loc:Nat->List (List TRat)):∀ k,A6h m rows 0 loc k=[]
 |0=>rfl
 |k+1=>by rw[A6h,D0e m rows loc k,C6c]
theorem D1v (rows:List Int) (p:Int) (x:TRat):A7c rows p x []=[]:=by unfold A7c;cases AU (0<=rows.getD p.toNat (-1))<;>rfl
theorem C7k (rows:List Int) (t:TTri) (x:TRat):∀ i,A7n rows t x [] i=[]
 |0=>rfl
 |i+1=>by rw[A7n,C7k rows t x i,D1v]
theorem C5l (p:TProblem) (rows:List Int):∀ k,A4v p rows 0 k=[]
 |0=>rfl
 |k+1=>by rw[A4v,C5l p rows k,C7k]
theorem C1z {m:TMesh} {rows:List Int} {n:Nat} {loc loc':Nat->List (List TRat)}:∀ k,(∀ i,i<k->loc i=loc' i)->A6h m rows n loc k=A6h m rows n loc' k
 |0,_=>rfl
 |k+1,h=>by rw[A6h,A6h,C1z k (λi hi=>h i oS),h k oS]
theorem C0b {p q:TProblem} {rows:List Int} {n:Nat} (hm:p.1.triangles=q.1.triangles):∀ k,(∀ i,i<k->C6e p (p.1.triangles.getD i D6n)=C6e q (q.1.triangles.getD i D6n))->A4v p rows n k=A4v q rows n k
 |0,_=>rfl
 |k+1,h=>by rw[A4v,A4v,C0b hm k (λi hi=>h i oS),h k oS,hm]
def D8v (r a d b e:Int):Bool:=AU (C0y (A4d r) (A9s ⟨A4d r,[mkR a d,mkR b e,U_ 0],[]⟩)=[[mkR ((3 - r)*a*e+(1+r)*b*d) (d*e)]])
def i4:List Int:=[1,2,3,4]
def i2:List Int:=[1,2]
def i5:List Int:=[-1,0,1,2,3]
def C4j (r:Int):Bool:=i4.all λa=>i2.all λd=>i4.all λb=>i2.all λe=>D8v r a d b e
def E4l (r f g:Int):Bool:=AU (A6v ⟨A4d r,[],[U_ f,U_ g,U_ 0]⟩=[mkR ((3 - r)*f+(1+r)*g) 3])
def D2i (r:Int):Bool:=i5.all λf=>i5.all λg=>E4l r f g
theorem stiff_all:C4j 0=AD/\C4j 1=AD:=dK
theorem load_all:D2i 0=AD/\D2i 1=AD:=dK
def E7m (s l u:TRat):TRat:=A3u (A0k (A0k (U_ 0) (A0d (mkR 2 3) u)) (A0d (mkR 1 2) l)) (A0k (A0d (U_ 1) (mkR 2 3)) (A0d (mkR 1 2) s))
def E7q (s l u:TRat):Bool:=J_ u&&(!A2e (A0k (U_ 0) (A0d (mkR 2 3) u))&&(J_ (A0k (A0k (U_ 0) (A0d (mkR 2 3) u)) (A0d (mkR 1 2) l))&&J_ (E7m s l u)))
def E0b (s l:TRat):Bool:=J_ s&&(AU (R_ s≠0)&&(J_ (A0k (A0d (U_ 1) (mkR 2 3)) (A0d (mkR 1 2) s))&&(AU (0<R_ (A0k (A0d (U_ 1) (mkR 2 3)) (A0d (mkR 1 2) s)))&&(!A2e l&&(E7q s l (U_ 0)&&E7q s l (E7m s l (U_ 0)))))))
def E7g:Bool:=(EZ 32).all λn=>[1,2,4].all λd=>(EZ 17).all λf=>E0b (mkR ((n:Int)+1) d) (mkR ((f:Int) - 4) 3)
set_option maxRecDepth 100000 in
theorem E4g:E7g=AD:=dK
theorem E4f {a:Int} (h:1<=a/\a<=4):a∈i4:=by
 obtain rfl|rfl|rfl|rfl:a=1\/a=2\/a=3\/a=4:=oS;all_goals decide
theorem E3b {a:Int} (h:1<=a/\a<=2):a∈i2:=by
 obtain rfl|rfl:a=1\/a=2:=oS;all_goals decide
theorem E4e {a:Int} (h:-1<=a/\a<=3):a∈i5:=by
 obtain rfl|rfl|rfl|rfl|rfl:a = -1\/a=0\/a=1\/a=2\/a=3:=oS;all_goals decide
theorem D3t {r a d b e:Int} (h:C4j r=AD) (ha:1<=a/\a<=4) (hd:1<=d/\d<=2) (hb:1<=b/\b<=4) (he:1<=e/\e<=2):D8v r a d b e=AD :=
 BJ.1 (BJ.1 (BJ.1 (BJ.1 h a (E4f ha)) d (E3b hd)) b (E4f hb)) e (E3b he)
theorem D9e {r f g:Int} (h:D2i r=AD) (hf:-1<=f/\f<=3) (hg:-1<=g/\g<=3):E4l r f g=AD :=
 BJ.1 (BJ.1 h f (E4e hf)) g (E4e hg)
theorem E6b {N b M:Int} (E:1<=N/\N<=32) (u:b=1\/b=2\/b=4) (D:-4<=M/\M<=12):E0b (mkR N b) (mkR M 3)=AD:=by
 have h:=BJ.1 (BJ.1 (BJ.1 E4g (N - 1).toNat (IQ.2 oS)) b (by rcases u with rfl|rfl|rfl<;>decide)) (M+4).toNat (IQ.2 oS);rw[show(((N - 1).toNat:Nat):Int)+1=N by omega,show(((M+4).toNat:Nat):Int) - 4=M by omega]at h;exact h
theorem C2q {r a d b e:Int} (G:0<=r/\r<2) (h:1<=a/\a<=4) (D:1<=d/\d<=2) (u:1<=b/\b<=4) (E:1<=e/\e<=2) :
  (1<=(3 - r)*a*e+(1+r)*b*d/\(3 - r)*a*e+(1+r)*b*d<=32)/\(d*e=1\/d*e=2\/d*e=4):=by
 obtain rfl|rfl:r=0\/r=1:=oS;all_goals obtain rfl|rfl:d=1\/d=2:=oS
 all_goals obtain rfl|rfl:e=1\/e=2:=oS
 all_goals omega
theorem E9k {α:Type} {l:List α} (h:l.length=3):∃ a b c,l=[a,b,c]:=by
 match l,h with
 | [a,b,c],_=>exact⟨a,b,c,rfl⟩
structure OnePt (p:TProblem) (s l:TRat):Prop where
 st:C0y p.1 (A9s p)=[[s]]
 ma:C0y p.1 (C3x p.1)=[[mkR 2 3]]
 ld:A6v p=[l]
 pt:A3f p.1 AF=[4]
 rw_:B1i p.1=[-1,-1,-1,-1,0]
 np:p.1.1.length=5
 b:E0b s l=AD
theorem mass_one:C0y (A4d 0) (C3x (A4d 0))=[[mkR 2 3]]/\C0y (A4d 1) (C3x (A4d 1))=[[mkR 2 3]]:=dK
theorem pts_one:(A3f (A4d 0) AF=[4]/\A3f (A4d 1) AF=[4])/\(B1i (A4d 0)=[-1,-1,-1,-1,0]/\B1i (A4d 1)=[-1,-1,-1,-1,0]):=dK
theorem E8w {r a d b e f g:Int} {k2 W:TRat} (Z:0<=r/\r<2) (u:1<=a/\a<=4) (E:1<=d/\d<=2) (D:1<=b/\b<=4) (G:1<=e/\e<=2) (O:-1<=f/\f<=3) (T:-1<=g/\g<=3) :
  OnePt ⟨A4d r,[mkR a d,mkR b e,k2],[U_ f,U_ g,W]⟩ (mkR ((3 - r)*a*e+(1+r)*b*d) (d*e)) (mkR ((3 - r)*f+(1+r)*g) 3):=by
 obtain⟨Y,X⟩:=C2q Z u E D G;refine⟨?_,?_,?_,?_,?_,rfl,E6b Y X ?_⟩
 ·have h:D8v r a d b e=AD:=by
   obtain rfl|rfl:r=0\/r=1:=oS
   ·exact D3t stiff_all.1 u E D G
   exact D3t stiff_all.2 u E D G
  rw[<-of_decide_eq_true h]
  obtain rfl|rfl:r=0\/r=1:=oS
  all_goals
   refine C1z 4 λi H=>?_;match i,H with
   |0,_=>rfl
   |1,_=>rfl
   |2,_=>rfl
   |3,_=>rfl
 ·obtain rfl|rfl:r=0\/r=1:=oS
  ·exact mass_one.1
  exact mass_one.2
 ·have h:E4l r f g=AD:=by
   obtain rfl|rfl:r=0\/r=1:=oS
   ·exact D9e load_all.1 O T
   exact D9e load_all.2 O T
  rw[<-of_decide_eq_true h]
  obtain rfl|rfl:r=0\/r=1:=oS
  all_goals
   refine C0b rfl 4 λi H=>?_;match i,H with
   |0,_=>rfl
   |1,_=>rfl
   |2,_=>rfl
   |3,_=>rfl
 ·obtain rfl|rfl:r=0\/r=1:=oS
  ·exact pts_one.1.1
  exact pts_one.1.2
 ·obtain rfl|rfl:r=0\/r=1:=oS
  ·exact pts_one.2.1
  exact pts_one.2.2
 obtain rfl|rfl:r=0\/r=1:=oS;all_goals omega
end Go.Proofs.YtbkilakncnlebaaGreatDoor.X
