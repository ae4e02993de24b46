/- A part of the proof. -/
import Derived.Test.YtjcanieccnljfaaGreatY45
import Derived.Test.YtjcanieccnljfaaGreatY24
set_option linter.constructorNameAsVariable false
set_option maxHeartbeats 16000000
set_option maxRecDepth 10000
open Go renaming Addr→AJ,World→AD,bodyPost_ret→CK,heap_alloc_new→DB,results→CO
open Go.Obj renaming cells→BG
open Go.Value renaming bool→J,slice→S
open Go.XB.Below renaming box→BP,next→BH
open List renaming mem_append→DV
open Option renaming none→I,some→B
namespace Go.Proofs.YtjcanieccnljfaaGreat.X
open Go.RowKit Go.XB Go.XN Proofs.Tryz
def IsK (r:TRat):Prop:=∃ a d:Int,(1<=a/\a<=4)/\(1<=d/\d<=2)/\r=mkR a d
def IsF (r:TRat):Prop:=∃ a:Int,(-1<=a/\a<=3)/\r=U_ a
structure CoefI (ks fs:List TRat) (i:Nat):Prop where
 kl:ks.length=i
 fl:fs.length=i
 k:∀ r∈ks,IsK r
 f:∀ r∈fs,IsF r
structure TwoR (w wr:AD) (g i gK cK gF cF:Nat) (ks fs:List TRat) (zK zF:List Nat):Prop where
 k:PC w 39 wr gK i cK ks zK
 f:PC w 39 wr gF i cF fs zF
 ne:gK≠gF
 kf:gK∉zF
 fk:gF∉zK
 gr:w.grownBy wr (B g)
def E1d (w:AD) (g:Nat) (A:Option AJ) (n c:Nat) (e:Ending) (w':AD):Prop:=∃ (ks fs:List TRat) (K:Option AJ) (cK:Nat) (F:Option AJ) (cF:Nat) (bK bF:List Nat),e=.returned (.tuple #[S K 3 cK,S F 3 cF])/\CoefI ks fs 3/\Sl w' K 3 cK ks bK/\Sl w' F 3 cF fs bF/\(∀ b∈bK++bF,w.1.size<=b)/\Cur w' g A n c/\w.grownBy w' (B g)
attribute [local go_sem] L_ Go.XB.opAt N_ M_ Region.wanted yielded
attribute [local simp] N_ M_ MP.eq MP.agg MP.sl A0r
theorem C6y (g:Nat) (A:Option AJ) (n c:Nat) (xs:List TByte) (bs:List Nat) (w:AD) (cd:Sl w A n c xs bs) (b8:n<=1048576) (a2:Cur w g A n c) (b4:g∉bs) :
  Calls prog 47 #[.pointer (B ⟨g,0,I⟩)] w (E1d w g A n c):=by
 have aM:=A_ cd;have cm:=A_ a2;have T:=A_ b4;have aL:=A_ b8;have Y:g<w.1.size:=a2.lt';obtain⟨cj,b5,ce,cg,ch⟩:=info_parts B2r;clear cd a2 b4 b8
 have bU:=A_ (show TwoR w ((w.alloc (BG #[] 39)).alloc (BG #[] 39)) g 0 w.1.size 0 (w.1.size+1) 0 [] [] [] []from
  ⟨(PC.start (Nat.le_refl _)).below (BP _),by have h:=PC.start (α:=TRat) (e:=39) (w:=w) (w2:=w.alloc (BG #[] 39)) sI;rwa [World.size_alloc]at h,oS,sI,sI,A9x (A9x (World.grownBy.refl _ _) (BP _)) (BP _)⟩)
 have br:=A_ (show Cur ((w.alloc (BG #[] 39)).alloc (BG #[] 39)) g A n c from(cm.below' (BP _)).below' (BP _));go_enter func47,ntmps47;go_wp2_with fail;go_loopg [4,5,6] 3 (λgg s4 s5 s6 wr=>∃ (i af ae O ad:Nat) (ks G:List TRat) (au aa:List Nat),i+gg=3/\s6=.int .i64 i/\s4=S (B ⟨af,0,I⟩) i ae/\s5=S (B ⟨O,0,I⟩) i ad/\Hid (TwoR w wr g i af ae O ad ks G au aa)/\Hid (CoefI ks G i)/\Hid (Cur wr g A n c));case atStart=>exact⟨0,w.1.size,0,w.1.size+1,0,[],[],[],[],rfl,rfl,rfl,rfl,bU.o,⟨rfl,rfl,sI,sI⟩,br.o⟩
 case round =>
  clear bU br;obtain⟨i,af,ae,O,ad,ks,G,au,aa,cv,rfl,rfl,rfl,D,W,aK⟩:=hrel;rename AD=>wr;rcases Nat.lt_or_ge i 3 with b6|b6
  ·have cO:(i:Int)<3:=oS
   have cP:(0:Int)<=i:=oS;obtain⟨gg,rfl⟩:∃ gg,gk=gg+1:=⟨gk - 1,oS⟩
   have cu:=A_ (by omega:i+1+gg=3);have bt:=A_ (by unfold maxLen;omega:i+1<=maxLen);have bu:=A_ (by omega:(i+1)*56<=140737488355328);clear cv b6;go_wp2_with fail;refine(A5q 4 dE dE g A n c xs bs wr (aM.grown D.gr T) aL aK T).mono ?_;rintro _ w3 ⟨bl,rfl,cz,bZ,ap⟩;have bF:=A_ bZ;have aE:=A_ (A9w D.gr ap);have bQ:=A_ (D.k.keepG ap Y);have bA:=A_ (D.f.keepG ap Y);obtain⟨cR,cU⟩:=cz;clear bZ ap;go_wp2_with fail;refine(A5q 2 dE dE g A n c xs bs w3 (aM.grown aE T) aL bF T).mono ?_;rintro _ bh ⟨bm,rfl,cA,b0,aq⟩;have bG:=A_ b0;have aF:=A_ (A9w aE aq);have aO:=A_ (bQ.keepG aq Y);have aC:=A_ (bA.keepG aq Y);obtain⟨cV,cW⟩:=cA;clear b0 aq bQ bA;go_wp2_with fail;refine(B3j (1+bl) (1+bm) oS oS oS oS bh).mono ?_;obtain⟨r,a7⟩:∃ r,mkR (1+bl) (1+bm)=r:=⟨_,rfl⟩
   have bN:=A_ (show IsK r from⟨1+bl,1+bm,oS,oS,a7.symm⟩);rw[a7];clear a7;rintro _ bi ⟨cZ,ai,rfl,aZ,b9,bX⟩;obtain⟨ay,bc,aT,cK,az,bd,aU,cL,rfl,cD,_,_⟩:=TRat.agg aZ;have ab:=A_ (show Bw bh (bi.alloc (BG #[J r.1.1,S ay bc aT,S az bd aU] 39))from BH bX (BP _));have bp:=A_ (A3x (aZ.below (BP (BG #[J r.1.1,S ay bc aT,S az bd aU] 39))));have bR:=A_ (aO.below ab);have ak:=A_ (aC.below ab);have aG:=A_ (A9x aF ab);have aw:=A_ (bG.below' ab);have a4:=D.k.lt;have a3:=D.f.lt;have cy:=aF.size;have cw:=aO.lt;have cx:=aC.lt;have aR:=A_ (show ∀ b∈ai,bh.1.size<=b from λb E=>(b9.2 b E).1);have bI:=A_ (show ∀ b∈ai,w.1.size<=b/\b≠af from λb E=>by have:=aR b E;omega);have bK:=A_ aG.size;clear aZ b9 bX cD aO aC;go_wp2_with (at_builtin;refine C9k rfl _ _ 27 rfl 39 cj (.agg #[J false,S I 0 0,S I 0 0]) 56 underlying27 b5 ce cg ch rfl bR bK gD ⟨bi.1.size,0,I⟩ 1 [J r.1.1,S ay bc aT,S az bd aU] r ai gD (A0a (DB bi _)) bp bI bt bu ?_;intro X bW cI cb ag a5);have bv:=A_ (aw.keep' (ag.block g (by have:=aw.lt';omega) iO) ag.size);have aH:=A_ (C1x aG ag a4.1);have bB:=A_ (ak.keep ag D.ne D.kf);have aQ:=A_ (show X≠O from by have aX:=ak.lt;have cs:=D.ne;rcases a5 with h|h<;>omega);have bO:=A_ (show X∉aa from by
    rcases a5 with h|h;·rw[h];exact D.kf
    intro u;have aX:=ak.zlt _ u;omega)
   have aj:=A_ (show O∉au++ai from by
    intro u;rcases DV.1 u with u|u
    ·exact D.fk u
    have:=aR _ u;omega)
   have am:=A_ cb
   have al:=A_ (show(ks++[r]).length=i+1/\∀ bg∈ks++[r],IsK bg from⟨by simp[W.o.kl],λbg a8=>by
    rcases DV.1 a8 with h|h;·exact W.k _ h
    rw[List.mem_singleton.1 h];exact bN⟩)
   have aN:=A_ (show G.length=i/\∀ r∈G,IsF r from⟨W.fl,W.f⟩);clear cb ag a5 D W bN bR ak aG aw ab bp aR bI bK aF aE bF bG a4 a3 cy cw cx aK;obtain⟨ba,b7⟩:∃ l,l=ks++[r]:=⟨_,rfl⟩
   obtain⟨bo,ci⟩:∃ l,l=au++ai:=⟨_,rfl⟩
   rw[<-b7]at am al;rw[<-ci]at am aj;clear b7 ci;refine(A5q 5 dE dE g A n c xs bs cI (aM.grown aH T) aL bv T).mono ?_;rintro _ bj ⟨bn,rfl,cB,b3,ar⟩;have bH:=A_ b3;have aI:=A_ (A9w aH ar);have aP:=A_ (am.keepG ar Y);have aD:=A_ (bB.keepG ar Y);obtain⟨cX,cY⟩:=cB;clear b3 ar am bB bv aH;go_wp2_with fail;refine(B0d (bn - 1) bj (by constructor<;>omega)).mono ?_;obtain⟨H,a9⟩:∃ r,U_ (bn - 1)=r:=⟨_,rfl⟩
   have bM:=A_ (show IsF H from⟨bn - 1,oS,a9.symm⟩);rw[a9];clear a9;rintro _ bk ⟨c0,Z,rfl,a1,ca,bY⟩;obtain⟨aA,be,aV,cM,aB,bf,aW,cN,rfl,cE,_,_⟩:=TRat.agg a1;have ac:=A_ (show Bw bj (bk.alloc (BG #[J H.1.1,S aA be aV,S aB bf aW] 39))from BH bY (BP _));have bq:=A_ (A3x (a1.below (BP (BG #[J H.1.1,S aA be aV,S aB bf aW] 39))));have an:=A_ (aP.below ac);have bD:=A_ (aD.below ac);have aJ:=A_ (A9x aI ac);have ax:=A_ (bH.below' ac);have a4:=aP.lt;have a3:=aD.lt;have cQ:=aI.size;have aS:=A_ (show ∀ b∈Z,bj.1.size<=b from λb E=>(ca.2 b E).1);have bJ:=A_ (show ∀ b∈Z,w.1.size<=b/\b≠O from λb E=>by have:=aS b E;omega);have bL:=A_ aJ.size;clear a1 ca bY cE aD aI bH;go_wp2_with (at_builtin;refine C9k rfl _ _ 27 rfl 39 cj (.agg #[J false,S I 0 0,S I 0 0]) 56 underlying27 b5 ce cg ch rfl bD bL gD ⟨bk.1.size,0,I⟩ 1 [J H.1.1,S aA be aV,S aB bf aW] H Z gD (A0a (DB bk _)) bq bJ bt bu ?_;intro ao bV cJ cc ah a6);have ck:=A_ (ax.keep' (ah.block g (by have:=ax.lt';omega) iO) ah.size);have bE:=A_ (C1x aJ ah a3.1);have bS:=A_ (an.keep ah (Ne.symm aQ) aj);have bT:=A_ (show X≠ao from by have aX:=an.lt;have cs:=aQ.o;rcases a6 with h|h<;>omega);have bz:=A_ (show ao∉bo from by
    rcases a6 with h|h;·rw[h];exact aj
    intro u;have aX:=an.zlt _ u;omega)
   have bP:=A_ (show X∉aa++Z from by
    intro u;rcases DV.1 u with u|u
    ·exact bO u
    have:=aS _ u;omega)
   have co:=A_ (show TwoR w cJ g (i+1) X bW ao bV ba (G++[H]) bo (aa++Z)from⟨bS,cc,bT,bP,bz,bE⟩)
   have cn:=A_ (show CoefI ba (G++[H]) (i+1)from⟨al.o.1,by simp[aN.o.1],al.o.2,λbg a8=>by
    rcases DV.1 a8 with h|h;·exact aN.2 _ h
    rw[List.mem_singleton.1 h];exact bM⟩)
   clear cc ah a6 bS bT bz bP bE al aN bM bq ac aS bJ bL aJ an bD ax aP aQ bO aj;go_wp2_with fail;go_roundg gg;case measure=>omega
   case rel=>exact⟨i+1,X,bW,ao,bV,ba,G++[H],bo,aa++Z,cu,oD,rfl,rfl,co,cn,ck⟩
  have ct:i=3:=oS;subst ct;go_wp2_with fail;have aY:=D.o;obtain⟨cq,cH,cG⟩:=aY.k.sl;obtain⟨cp,sF,cF⟩:=aY.f.sl;refine CK (v:=.tuple #[S (B ⟨af,0,I⟩) 3 ae,S (B ⟨O,0,I⟩) 3 ad]) (by simp[CO,results47,go_sem, *]) rfl ?_;refine⟨ks,G,_,ae,_,ad,cq,cp,rfl,W,cH,sF,?_,aK,aY.gr⟩;intro b E;rcases DV.1 E with E|E
  ·exact cG b E
  exact cF b E
def B4x (p:TProblem):Prop:=A8j p.1/\CoefI p.2 p.3 3
def E1w (w:AD) (g:Nat) (e:Ending) (w':AD):Prop:=∃ (p:TProblem) (v:Value) (s:List Nat),e=.returned v/\B4x p/\Agg w' v p s/\w.grownBy w' (B g)/\∀ b∈s,w.1.size<=b
theorem D6c {w w1 w2:AD} {r:Option Nat} (h:w.grownBy w1 r) (hb:Below w.1.size w1 w2):w.grownBy w2 r :=
 ⟨hb.os.trans h.os,hb.tape.trans h.tape,hb.output.trans h.output,Nat.le_trans h.size hb.size,λk hk hne=>(hb.block k hk).trans (h.block k hk hne)⟩
theorem C6u {L b:Nat} {w:AD} (h:L<=b) (x0 x1 x2 x3:Value):Below L w ((((w.setCell ⟨b,0,I⟩ x0).setCell ⟨b,1,I⟩ x1).setCell ⟨b,2,I⟩ x2).setCell ⟨b,3,I⟩ x3) :=
 ((((Below.refl L w).setCell (p:=⟨b,0,I⟩) h _).setCell (p:=⟨b,1,I⟩) h _).setCell (p:=⟨b,2,I⟩) h _).setCell (p:=⟨b,3,I⟩) h _
theorem D2x (g:Nat) (A:Option AJ) (n c:Nat) (xs:List TByte) (bs:List Nat) (w:AD) (aC:Sl w A n c xs bs) (ay:n<=1048576) (ab:Cur w g A n c) (ar:g∉bs) :
  Calls prog 17 #[.pointer (B ⟨g,0,I⟩)] w (E1w w g):=by
 have ah:=A_ aC;have aH:=A_ ab;have O:=A_ ar;have ag:=A_ ay;have aW:g<w.1.size:=ab.lt';clear aC ab ar ay;go_enter func17,ntmps17;go_wp2_with fail;obtain⟨w0,G⟩:∃ x,x=w.alloc (BG #[S I 0 0,S I 0 0,S I 0 0,S I 0 0] 29):=⟨_,rfl⟩
 have H:=A_ (by rw[G];exact BP _:Bw w w0);have ap:w0.1[w.1.size]?=B (BG #[S I 0 0,S I 0 0,S I 0 0,S I 0 0] 29):=by rw[G];exact DB w _
 have aX:w0.1.size=w.1.size+1:=by rw[G];simp
 have aP:=A_ ap;rw[<-G];clear G ap;refine(C6y g A n c xs bs w0 (ah.below H) ag (aH.below' H) O).mono ?_;rintro _ ad ⟨ks,Y,K,am,F,al,X,W,rfl,an,aa,Z,az,aq,D⟩;have aM:=A_ an;have aN:=A_ aa;have aJ:=A_ Z;have aI:=A_ aq;have aK:=A_ D;have T:=A_ (show ∀ b∈X++W,w.1.size+1<=b/\b<ad.1.size from λb u=>⟨by have:=az b u;omega,by rcases DV.1 u with h|h;exact aa.lt b h;exact Z.lt b h⟩);have aQ:=A_ ((D.block w.1.size oS iO).trans aP.o);have aS:=A_ (show Sl ad A n c xs bs from(ah.below H).grown D O);have aZ:=D.size;clear an aa Z az aq D;go_wp2_with fail;refine(C9a g A n c xs bs ad aS ag aI O).mono ?_;rintro _ aF ⟨m,v,s,rfl,ax,ao,E,ac⟩;obtain⟨ae,aE,aj,aT,af,n1,ak,aU,rfl,aD,aA,aB⟩:=TMesh.agg ao;have aw:g∉X:=λh=>by have:=(T g (List.mem_append_left _ h)).1;omega
 have au:g∉W:=λh=>by have:=(T g (List.mem_append_right _ h)).1;omega
 have aG:=A_ (TProblem.mkAgg (x:=⟨m,ks,Y⟩) aA aB (aN.grown E aw) (aJ.grown E au))
 have ai:=A_ (show ∀ b∈aT++(aU++(X++W)),w.1.size+1<=b from λb u=>by
  rw[<-List.append_assoc]at u;rcases DV.1 u with h|h
  ·rw[aD]at ac;have:=ac b h;omega
  exact(T b h).1)
 have aO:=A_ (show B4x ⟨m,ks,Y⟩from⟨ax,aM⟩);have aR:=A_ ((E.block w.1.size oS iO).trans aQ.o);have aL:=A_ (show w.grownBy aF (B g)from A9w (A9w (A9x (World.grownBy.refl _ _) H) aK) E);obtain⟨r0,aV,aY⟩:=bx aR;clear ao ax E ac aD aA aB aw au;go_wp2;refine CK (v:=.agg #[S ae aE aj,S af n1 ak,S K 3 am,S F 3 al]) (by simp[CO,results17,go_sem, *]) rfl ?_;refine⟨⟨m,ks,Y⟩,_,_,rfl,aO,aG.keep (λb u=>A0m w.1.size [S ae aE aj,S af n1 ak,S K 3 am,S F 3 al] aF 0 b (by have:=ai b u;omega)),D6c aL.o (C6u (Nat.le_refl _) _ _ _ _),λb u=>by have:=ai.o b u;omega⟩

theorem B4b (A:Option AJ) (n c:Nat) (xs:List TByte) (bs:List Nat) (w:AD) (T:Sl w A n c xs bs) (ah:n<=1048576) :
  Calls prog 4 #[S A n c] w (λe w'=>∃ (p:TProblem) (v:Value) (s:List Nat),e=.returned v/\B4x p/\Agg w' v p s/\Bw w w'):=by
 have E:=A_ T;have ab:=A_ ah;have aq:=A_ (show w.1.size+1∉bs from λaf=>by have:=T.lt _ af;omega);clear T ah;go_enter func4,ntmps4;go_wp2_with fail;have D:=A_ (BP (w:=w) (BG #[S I 0 0,S I 0 0,S I 0 0,S I 0 0] 29));refine(C2z A n c xs bs (w.alloc (BG #[S I 0 0,S I 0 0,S I 0 0,S I 0 0] 29)) (E.below D) ab).mono ?_;rintro _ W ⟨rfl,H,h,aA⟩;change Below _ _ _ at h;rw[World.size_alloc]at H h aA;have ap:=A_ H;have an:=A_ h;have ay:=A_ (show Sl W A n c xs bs from(E.below D).belowB h (λb u=>by have:=E.lt b u;omega));have au:=A_ (show W.1[w.1.size]?=B (BG #[S I 0 0,S I 0 0,S I 0 0,S I 0 0] 29)from(h.block _ oS).trans (DB w _));clear H h;go_wp2_with fail;refine(D2x (w.1.size+1) A n c xs bs W ay ab ap aq).mono ?_;rintro _ al ⟨p,v,s,rfl,ag,G,O,ai⟩;obtain⟨X,aj,ac,aE,Y,n1,ad,aF,Z,n2,ae,aG,aa,ak,c3,aH,rfl,aB,_,_,_,_⟩:=TProblem.agg G;have am:=A_ G;have ar:=A_ ag;have ax:=A_ (show ∀ b∈s,b≠w.1.size from λb u=>by have:=ai b u;omega);have aw:=A_ ((O.block w.1.size oS iO).trans au.o);have ao:=A_ (show Bw w al from((D.o).trans (an.o.mono oS)).grown O oS (λk az=>by injection az with af;omega));obtain⟨r0,aC,aD⟩:=bx aw;clear G ag O ai aB;go_wp2;refine CK (v:=.agg #[S X aj ac,S Y n1 ad,S Z n2 ae,S aa ak c3]) (by simp[CO,results4,go_sem, *]) rfl ?_;exact⟨p,_,s,rfl,ar,am.keep (λb u=>A0m w.1.size [S X aj ac,S Y n1 ad,S Z n2 ae,S aa ak c3] al 0 b (ax b u)),ao.trans (C6u (Nat.le_refl _) _ _ _ _)⟩
end Go.Proofs.YtjcanieccnljfaaGreat.X
