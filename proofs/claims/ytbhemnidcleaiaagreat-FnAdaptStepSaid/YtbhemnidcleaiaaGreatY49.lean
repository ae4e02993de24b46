/- A part of the proof. -/
import Derived.Test.YtbhemnidcleaiaaGreatY48
import Derived.Test.YtbhemnidcleaiaaGreatY30
set_option linter.constructorNameAsVariable false
set_option maxHeartbeats 16000000
set_option maxRecDepth 10000
namespace Go.Proofs.YtbhemnidcleaiaaGreat.X
open Go.RowKit Go.XB Go.XN Proofs.Tryz
def IsK (r:TRat):Prop:=∃ a d:Int,(1<=a/\a<=4)/\(1<=d/\d<=2)/\r=mkR a d
def IsF (r:TRat):Prop:=∃ a:Int,(-1<=a/\a<=3)/\r=U_ a
structure CoefI (ks fs:List TRat) (i:Nat):Prop where
 kl:ks.length=i
 fl:fs.length=i
 k:∀ r∈ks,IsK r
 f:∀ r∈fs,IsF r
structure TwoR (w wr:World) (g i gK cK gF cF:Nat) (ks fs:List TRat) (zK zF:List Nat):Prop where
 k:PC w 35 wr gK i cK ks zK
 f:PC w 35 wr gF i cF fs zF
 ne:gK≠gF
 kf:gK∉zF
 fk:gF∉zK
 gr:w.grownBy wr (some g)
def E1d (w:World) (g:Nat) (A:Option Addr) (n c:Nat) (e:Ending) (w':World):Prop:=∃ (ks fs:List TRat) (K:Option Addr) (cK:Nat) (F:Option Addr) (cF:Nat) (bK bF:List Nat),e=.returned (.tuple #[.slice K 3 cK,.slice F 3 cF])/\CoefI ks fs 3/\Sl w' K 3 cK ks bK/\Sl w' F 3 cF fs bF/\(∀ b∈bK++bF,w.1.size<=b)/\Cur w' g A n c/\w.grownBy w' (some g)
attribute [local go_sem] L_ Go.XB.opAt N_ M_ Region.wanted yielded
attribute [local simp] N_ M_ MP.eq MP.agg MP.sl A0r
theorem C6y (g:Nat) (A:Option Addr) (n c:Nat) (xs:List TByte) (Y:List Nat) (w:World) (b8:Sl w A n c xs Y) (b3:n<=1048576) (aX:Cur w g A n c) (bX:g∉Y) :
  Calls prog 58 #[.pointer (some ⟨g,0,none⟩)] w (E1d w g A n c):=by
 have aI:=A_ b8;have cf:=A_ aX;have J:=A_ bX;have aH:=A_ b3;have S:g<w.1.size:=aX.lt';obtain⟨cd,bY,b9,ca,cb⟩:=info_parts B2r;clear b8 aX bX b3
 have bP:=A_ (show TwoR w ((w.alloc (.cells #[] 35)).alloc (.cells #[] 35)) g 0 w.1.size 0 (w.1.size+1) 0 [] [] [] []from
  ⟨(PC.start (Nat.le_refl _)).below (Below.box _),by have h:=PC.start (α:=TRat) (e:=35) (w:=w) (w2:=w.alloc (.cells #[] 35)) sI;rwa [World.size_alloc]at h,oM,sI,sI,A9x (A9x (World.grownBy.refl _ _) (Below.box _)) (Below.box _)⟩)
 have bn:=A_ (show Cur ((w.alloc (.cells #[] 35)).alloc (.cells #[] 35)) g A n c from(cf.below' (Below.box _)).below' (Below.box _));go_enter func58,ntmps58;go_wp2_with fail;go_loopg [4,5,6] 3 (λgg s4 s5 s6 wr=>∃ (i ab aa I Z:Nat) (ks G:List TRat) (ao T:List Nat),i+gg=3/\s6=.int .i64 i/\s4=.slice (some ⟨ab,0,none⟩) i aa/\s5=.slice (some ⟨I,0,none⟩) i Z/\Hid (TwoR w wr g i ab aa I Z ks G ao T)/\Hid (CoefI ks G i)/\Hid (Cur wr g A n c));case atStart=>exact⟨0,w.1.size,0,w.1.size+1,0,[],[],[],[],rfl,rfl,rfl,rfl,bP.o,⟨rfl,rfl,sI,sI⟩,bn.o⟩
 case round =>
  clear bP bn;obtain⟨i,ab,aa,I,Z,ks,G,ao,T,co,rfl,rfl,rfl,D,K,aG⟩:=hrel;rename World=>wr;rcases Nat.lt_or_ge i 3 with bZ|bZ
  ·have cJ:(i:Int)<3:=oM
   have cK:(0:Int)<=i:=oM;obtain⟨gg,rfl⟩:∃ gg,gk=gg+1:=⟨gk - 1,oM⟩
   have cn:=A_ (by omega:i+1+gg=3);have bo:=A_ (by unfold maxLen;omega:i+1<=maxLen);have bp:=A_ (by omega:(i+1)*56<=140737488355328);clear co bZ;go_wp2_with fail;refine(A5q 4 dE dE g A n c xs Y wr (aI.grown D.gr J) aH aG J).mono ?_;rintro _ w3 ⟨bh,rfl,ct,bU,al⟩;have bz:=A_ bU;have aA:=A_ (A9w D.gr al);have bL:=A_ (D.k.keepG al S);have bs:=A_ (D.f.keepG al S);obtain⟨cM,cN⟩:=ct;clear bU al;go_wp2_with fail;refine(A5q 2 dE dE g A n c xs Y w3 (aI.grown aA J) aH bz J).mono ?_;rintro _ bd ⟨bi,rfl,cu,bV,am⟩;have bA:=A_ bV;have aB:=A_ (A9w aA am);have aK:=A_ (bL.keepG am S);have ay:=A_ (bs.keepG am S);obtain⟨cO,cP⟩:=cu;clear bV am bL bs;go_wp2_with fail;refine(B3j (1+bh) (1+bi) oM oM oM oM bd).mono ?_;obtain⟨r,a3⟩:∃ r,mkR (1+bh) (1+bi)=r:=⟨_,rfl⟩
   have bI:=A_ (show IsK r from⟨1+bh,1+bi,oM,oM,a3.symm⟩);rw[a3];clear a3;rintro _ be ⟨cU,ae,rfl,aV,b4,bS⟩;obtain⟨ar,a7,aP,cF,au,a8,aQ,cG,rfl,cw,_,_⟩:=TRat.agg aV;have W:=A_ (show Bw bd (be.alloc (.cells #[.bool r.1.1,.slice ar a7 aP,.slice au a8 aQ] 35))from Below.next bS (Below.box _));have bl:=A_ (A3x (aV.below (Below.box (.cells #[.bool r.1.1,.slice ar a7 aP,.slice au a8 aQ] 35))));have bM:=A_ (aK.below W);have ag:=A_ (ay.below W);have aC:=A_ (A9x aB W);have ap:=A_ (bA.below' W);have aZ:=D.k.lt;have aY:=D.f.lt;have cs:=aB.size;have cp:=aK.lt;have cq:=ay.lt;have aN:=A_ (show ∀ b∈ae,bd.1.size<=b from λb E=>(b4.2 b E).1);have bD:=A_ (show ∀ b∈ae,w.1.size<=b/\b≠ab from λb E=>by have:=aN b E;omega);have bF:=A_ aC.size;clear aV b4 bS cw aK ay;go_wp2_with (at_builtin;refine C9k rfl _ _ 27 rfl 35 cd (.agg #[.bool false,.slice none 0 0,.slice none 0 0]) 56 underlying27 bY b9 ca cb rfl bM bF gD ⟨be.1.size,0,none⟩ 1 [.bool r.1.1,.slice ar a7 aP,.slice au a8 aQ] r ae gD (A0a (heap_alloc_new be _)) bl bD bo bp ?_;intro O bR cB b6 ac a1);have bq:=A_ (ap.keep' (ac.block g (by have:=ap.lt';omega) iO) ac.size);have aD:=A_ (C1x aC ac aZ.1);have bt:=A_ (ag.keep ac D.ne D.kf);have aM:=A_ (show O≠I from by have aT:=ag.lt;have ck:=D.ne;rcases a1 with h|h<;>omega);have bJ:=A_ (show O∉T from by
    rcases a1 with h|h;·rw[h];exact D.kf
    intro u;have aT:=ag.zlt _ u;omega)
   have af:=A_ (show I∉ao++ae from by
    intro u;rcases List.mem_append.1 u with u|u
    ·exact D.fk u
    have:=aN _ u;omega)
   have ai:=A_ b6
   have ah:=A_ (show(ks++[r]).length=i+1/\∀ bc∈ks++[r],IsK bc from⟨by simp[K.o.kl],λbc a4=>by
    rcases List.mem_append.1 a4 with h|h;·exact K.k _ h
    rw[List.mem_singleton.1 h];exact bI⟩)
   have aJ:=A_ (show G.length=i/\∀ r∈G,IsF r from⟨K.fl,K.f⟩);clear b6 ac a1 D K bI bM ag aC ap W bl aN bD bF aB aA bz bA aZ aY cs cp cq aG;obtain⟨a6,b0⟩:∃ l,l=ks++[r]:=⟨_,rfl⟩
   obtain⟨bk,cc⟩:∃ l,l=ao++ae:=⟨_,rfl⟩
   rw[<-b0]at ai ah;rw[<-cc]at ai af;clear b0 cc;refine(A5q 5 dE dE g A n c xs Y cB (aI.grown aD J) aH bq J).mono ?_;rintro _ bf ⟨bj,rfl,cv,bW,an⟩;have bB:=A_ bW;have aE:=A_ (A9w aD an);have aL:=A_ (ai.keepG an S);have az:=A_ (bt.keepG an S);obtain⟨cQ,cR⟩:=cv;clear bW an ai bt bq aD;go_wp2_with fail;refine(B0d (bj - 1) bf (by constructor<;>omega)).mono ?_;obtain⟨H,a5⟩:∃ r,U_ (bj - 1)=r:=⟨_,rfl⟩
   have bH:=A_ (show IsF H from⟨bj - 1,oM,a5.symm⟩);rw[a5];clear a5;rintro _ bg ⟨cV,z8,rfl,aW,b5,bT⟩;obtain⟨aw,a9,aR,cH,ax,ba,aS,cI,rfl,cx,_,_⟩:=TRat.agg aW;have X:=A_ (show Bw bf (bg.alloc (.cells #[.bool H.1.1,.slice aw a9 aR,.slice ax ba aS] 35))from Below.next bT (Below.box _));have bm:=A_ (A3x (aW.below (Below.box (.cells #[.bool H.1.1,.slice aw a9 aR,.slice ax ba aS] 35))));have aj:=A_ (aL.below X);have bu:=A_ (az.below X);have aF:=A_ (A9x aE X);have aq:=A_ (bB.below' X);have aZ:=aL.lt;have aY:=az.lt;have cL:=aE.size;have aO:=A_ (show ∀ b∈z8,bf.1.size<=b from λb E=>(b5.2 b E).1);have bE:=A_ (show ∀ b∈z8,w.1.size<=b/\b≠I from λb E=>by have:=aO b E;omega);have bG:=A_ aF.size;clear aW b5 bT cx az aE bB;go_wp2_with (at_builtin;refine C9k rfl _ _ 27 rfl 35 cd (.agg #[.bool false,.slice none 0 0,.slice none 0 0]) 56 underlying27 bY b9 ca cb rfl bu bG gD ⟨bg.1.size,0,none⟩ 1 [.bool H.1.1,.slice aw a9 aR,.slice ax ba aS] H z8 gD (A0a (heap_alloc_new bg _)) bm bE bo bp ?_;intro ak bQ cE b7 ad a2);have ce:=A_ (aq.keep' (ad.block g (by have:=aq.lt';omega) iO) ad.size);have bv:=A_ (C1x aF ad aY.1);have bN:=A_ (aj.keep ad (Ne.symm aM) af);have bO:=A_ (show O≠ak from by have aT:=aj.lt;have ck:=aM.o;rcases a2 with h|h<;>omega);have br:=A_ (show ak∉bk from by
    rcases a2 with h|h;·rw[h];exact af
    intro u;have aT:=aj.zlt _ u;omega)
   have bK:=A_ (show O∉T++z8 from by
    intro u;rcases List.mem_append.1 u with u|u
    ·exact bJ u
    have:=aO _ u;omega)
   have ch:=A_ (show TwoR w cE g (i+1) O bR ak bQ a6 (G++[H]) bk (T++z8)from⟨bN,b7,bO,bK,br,bv⟩)
   have cg:=A_ (show CoefI a6 (G++[H]) (i+1)from⟨ah.o.1,by simp[aJ.o.1],ah.o.2,λbc a4=>by
    rcases List.mem_append.1 a4 with h|h;·exact aJ.2 _ h
    rw[List.mem_singleton.1 h];exact bH⟩)
   clear b7 ad a2 bN bO br bK bv ah aJ bH bm X aO bE bG aF aj bu aq aL aM bJ af;go_wp2_with fail;go_roundg gg;case measure=>omega
   case rel=>exact⟨i+1,O,bR,ak,bQ,a6,G++[H],bk,T++z8,cn,gS,rfl,rfl,ch,cg,ce⟩
  have cm:i=3:=oM;subst cm;go_wp2_with fail;have aU:=D.o;obtain⟨cj,cA,cz⟩:=aU.k.sl;obtain⟨ci,sF,cy⟩:=aU.f.sl;refine bodyPost_ret (v:=.tuple #[.slice (some ⟨ab,0,none⟩) 3 aa,.slice (some ⟨I,0,none⟩) 3 Z]) (by simp[results,results58,go_sem, *]) rfl ?_;refine⟨ks,G,_,aa,_,Z,cj,ci,rfl,K,cA,sF,?_,aG,aU.gr⟩;intro b E;rcases List.mem_append.1 E with E|E
  ·exact cz b E
  exact cy b E
def B4x (p:TProblem):Prop:=A8j p.1/\CoefI p.2 p.3 3
def E1w (w:World) (g:Nat) (e:Ending) (w':World):Prop:=∃ (p:TProblem) (v:Value) (s:List Nat),e=.returned v/\B4x p/\Agg w' v p s/\w.grownBy w' (some g)/\∀ b∈s,w.1.size<=b
theorem D6c {w w1 w2:World} {r:Option Nat} (h:w.grownBy w1 r) (hb:Below w.1.size w1 w2):w.grownBy w2 r :=
 ⟨hb.os.trans h.os,hb.tape.trans h.tape,hb.output.trans h.output,Nat.le_trans h.size hb.size,λk hk hne=>(hb.block k hk).trans (h.block k hk hne)⟩
theorem C6u {L b:Nat} {w:World} (h:L<=b) (x0 x1 x2 x3:Value):Below L w ((((w.setCell ⟨b,0,none⟩ x0).setCell ⟨b,1,none⟩ x1).setCell ⟨b,2,none⟩ x2).setCell ⟨b,3,none⟩ x3) :=
 ((((Below.refl L w).setCell (p:=⟨b,0,none⟩) h _).setCell (p:=⟨b,1,none⟩) h _).setCell (p:=⟨b,2,none⟩) h _).setCell (p:=⟨b,3,none⟩) h _
theorem D2x (g:Nat) (A:Option Addr) (n c:Nat) (xs:List TByte) (D:List Nat) (w:World) (aA:Sl w A n c xs D) (aw:n<=1048576) (Y:Cur w g A n c) (ap:g∉D) :
  Calls prog 46 #[.pointer (some ⟨g,0,none⟩)] w (E1w w g):=by
 have ae:=A_ aA;have aF:=A_ Y;have J:=A_ ap;have ad:=A_ aw;have aU:g<w.1.size:=Y.lt';clear aA Y ap aw;go_enter func46,ntmps46;go_wp2_with fail;obtain⟨w0,H⟩:∃ x,x=w.alloc (.cells #[.slice none 0 0,.slice none 0 0,.slice none 0 0,.slice none 0 0] 29):=⟨_,rfl⟩
 have I:=A_ (by rw[H];exact Below.box _:Bw w w0);have an:w0.1[w.1.size]?=some (.cells #[.slice none 0 0,.slice none 0 0,.slice none 0 0,.slice none 0 0] 29):=by rw[H];exact heap_alloc_new w _
 have aV:w0.1.size=w.1.size+1:=by rw[H];simp
 have aN:=A_ an;rw[<-H];clear H an;refine(C6y g A n c xs D w0 (ae.below I) ad (aF.below' I) J).mono ?_;rintro _ aa ⟨ks,T,af,ak,F,aj,S,O,rfl,al,X,W,ax,ao,E⟩;have aK:=A_ al;have aL:=A_ X;have aH:=A_ W;have aG:=A_ ao;have aI:=A_ E;have K:=A_ (show ∀ b∈S++O,w.1.size+1<=b/\b<aa.1.size from λb u=>⟨by have:=ax b u;omega,by rcases List.mem_append.1 u with h|h;exact X.lt b h;exact W.lt b h⟩);have aO:=A_ ((E.block w.1.size oM iO).trans aN.o);have aQ:=A_ (show Sl aa A n c xs D from(ae.below I).grown E J);have aX:=E.size;clear al X W ax ao E;go_wp2_with fail;refine(C9a g A n c xs D aa aQ ad aG J).mono ?_;rintro _ aD ⟨m,v,s,rfl,au,am,G,Z⟩;obtain⟨ab,aC,ah,aR,ac,n1,ai,aS,rfl,aB,ay,az⟩:=TMesh.agg am;have ar:g∉S:=λh=>by have:=(K g (List.mem_append_left _ h)).1;omega
 have aq:g∉O:=λh=>by have:=(K g (List.mem_append_right _ h)).1;omega
 have aE:=A_ (TProblem.mkAgg (x:=⟨m,ks,T⟩) ay az (aL.grown G ar) (aH.grown G aq))
 have ag:=A_ (show ∀ b∈aR++(aS++(S++O)),w.1.size+1<=b from λb u=>by
  rw[<-List.append_assoc]at u;rcases List.mem_append.1 u with h|h
  ·rw[aB]at Z;have:=Z b h;omega
  exact(K b h).1)
 have aM:=A_ (show B4x ⟨m,ks,T⟩from⟨au,aK⟩);have aP:=A_ ((G.block w.1.size oM iO).trans aO.o);have aJ:=A_ (show w.grownBy aD (some g)from A9w (A9w (A9x (World.grownBy.refl _ _) I) aI) G);obtain⟨r0,aT,aW⟩:=bx aP;clear am au G Z aB ay az ar aq;go_wp2;refine bodyPost_ret (v:=.agg #[.slice ab aC ah,.slice ac n1 ai,.slice af 3 ak,.slice F 3 aj]) (by simp[results,results46,go_sem, *]) rfl ?_;refine⟨⟨m,ks,T⟩,_,_,rfl,aM,aE.keep (λb u=>A0m w.1.size [.slice ab aC ah,.slice ac n1 ai,.slice af 3 ak,.slice F 3 aj] aD 0 b (by have:=ag b u;omega)),D6c aJ.o (C6u (Nat.le_refl _) _ _ _ _),λb u=>by have:=ag.o b u;omega⟩

theorem B4b (A:Option Addr) (n c:Nat) (xs:List TByte) (u:List Nat) (w:World) (K:Sl w A n c xs u) (ae:n<=1048576) :
  Calls prog 18 #[.slice A n c] w (λe w'=>∃ (p:TProblem) (v:Value) (s:List Nat),e=.returned v/\B4x p/\Agg w' v p s/\Bw w w'):=by
 have G:=A_ K;have Y:=A_ ae;have an:=A_ (show w.1.size+1∉u from λac=>by have:=K.lt _ ac;omega);clear K ae;go_enter func18,ntmps18;go_wp2_with fail;have E:=A_ (Below.box (w:=w) (.cells #[.slice none 0 0,.slice none 0 0,.slice none 0 0,.slice none 0 0] 29));refine(C2z A n c xs u (w.alloc (.cells #[.slice none 0 0,.slice none 0 0,.slice none 0 0,.slice none 0 0] 29)) (G.below E) Y).mono ?_;rintro _ O ⟨rfl,I,h,ax⟩;change Below _ _ _ at h;rw[World.size_alloc]at I h ax;have am:=A_ I;have ak:=A_ h;have au:=A_ (show Sl O A n c xs u from(G.below E).belowB h (λb D=>by have:=G.lt b D;omega));have ap:=A_ (show O.1[w.1.size]?=some (.cells #[.slice none 0 0,.slice none 0 0,.slice none 0 0,.slice none 0 0] 29)from(h.block _ oM).trans (heap_alloc_new w _));clear I h;go_wp2_with fail;refine(D2x (w.1.size+1) A n c xs u O au Y am an).mono ?_;rintro _ ai ⟨p,v,s,rfl,ad,H,J,af⟩;obtain⟨S,ag,Z,aB,T,n1,aa,aC,W,n2,ab,aD,X,ah,c3,aE,rfl,ay,_,_,_,_⟩:=TProblem.agg H;have aj:=A_ H;have ao:=A_ ad;have ar:=A_ (show ∀ b∈s,b≠w.1.size from λb D=>by have:=af b D;omega);have aq:=A_ ((J.block w.1.size oM iO).trans ap.o);have al:=A_ (show Bw w ai from((E.o).trans (ak.o.mono oM)).grown J oM (λk aw=>by injection aw with ac;omega));obtain⟨r0,az,aA⟩:=bx aq;clear H ad J af ay;go_wp2;refine bodyPost_ret (v:=.agg #[.slice S ag Z,.slice T n1 aa,.slice W n2 ab,.slice X ah c3]) (by simp[results,results18,go_sem, *]) rfl ?_;exact⟨p,_,s,rfl,ao,aj.keep (λb D=>A0m w.1.size [.slice S ag Z,.slice T n1 aa,.slice W n2 ab,.slice X ah c3] ai 0 b (ar b D)),al.trans (C6u (Nat.le_refl _) _ _ _ _)⟩
def D8j (m:TMesh):Bool:=m.triangles.all λt=>D2p m.1.length t&&(E3k (Z_ m.1 t.a) (Z_ m.1 t.b) (Z_ m.1 t.c)&&(J_ (A6c (Z_ m.1 t.a) (Z_ m.1 t.b) (Z_ m.1 t.c)) &&
 (((E3h m t).all λr=>!r.any A2e)&&(((B6b m t).all λr=>!r.any A2e)&&(decide (0<=t.4)&&decide (t.4<3))))))
theorem D5p {m:TMesh} {xs ys:List Int} (h:MeshI m xs ys) (E:B8e m) (u:D8j m=true):MeshD m xs ys/\∀ t∈m.triangles,0<=t.4/\t.4<3:=by
 unfold D8j at u;simp only[Bool.and_eq_true,List.all_eq_true,Bool.not_eq_true',decide_eq_true_eq]at u;refine⟨⟨h,E,?_,?_,?_,?_⟩,λt b=>(u t b).2.2.2.2.2⟩;·intro t b;have g:=D0i (u t b).2.1;exact⟨C7y (u t b).1,g.pr,(u t b).2.2.1⟩
 ·intro t b;exact D0i (u t b).2.1
 ·intro t b r D;exact(u t b).2.2.2.1 r D
 intro t b r D;exact(u t b).2.2.2.2.1 r D
theorem IsK.ok {r:TRat} (h:IsK r):J_ r=true/\0<R_ r:=by
 obtain⟨a,d,b,u,rfl⟩:=h;obtain rfl|rfl|rfl|rfl:a=1\/a=2\/a=3\/a=4:=oM;all_goals obtain rfl|rfl:d=1\/d=2:=oM
 all_goals decide +kernel
theorem IsF.ok {r:TRat} (h:IsF r):J_ r=true:=by
 obtain⟨a,b,rfl⟩:=h;exact ratOkB_iff.2 (D6r oM oM)
theorem D5n (rows:List Int) (p q:Int) (x:TRat):B2c rows p q x []=[]:=by unfold B2c;cases (decide (0<=rows.getD p.toNat (-1))&&decide (0<=rows.getD q.toNat (-1)))<;>rfl
theorem C6f (rows:List Int) (t:TTri) (L:List (List TRat)) (i:Nat):∀ j,A6j rows t L i [] j=[]
 |0=>rfl
 |j+1=>by rw[A6j,C6f rows t L i j,D5n]
theorem C6c (rows:List Int) (t:TTri) (L:List (List TRat)):∀ i,A7x rows t L [] i=[]
 |0=>rfl
 |i+1=>by rw[A7x,C6c rows t L i,C6f]
theorem D0e (m:TMesh) (rows:List Int) (loc:Nat->List (List TRat)):∀ k,A6h m rows 0 loc k=[]
 |0=>rfl
 |k+1=>by rw[A6h,D0e m rows loc k,C6c]
theorem D1v (rows:List Int) (p:Int) (x:TRat):A7c rows p x []=[]:=by unfold A7c;cases decide (0<=rows.getD p.toNat (-1))<;>rfl
theorem C7k (rows:List Int) (t:TTri) (x:TRat):∀ i,A7n rows t x [] i=[]
 |0=>rfl
 |i+1=>by rw[A7n,C7k rows t x i,D1v]
theorem C5l (p:TProblem) (rows:List Int):∀ k,A4v p rows 0 k=[]
 |0=>rfl
 |k+1=>by rw[A4v,C5l p rows k,C7k]
theorem C1z {m:TMesh} {rows:List Int} {n:Nat} {loc loc':Nat->List (List TRat)}:∀ k,(∀ i,i<k->loc i=loc' i)->A6h m rows n loc k=A6h m rows n loc' k
 |0,_=>rfl
 |k+1,h=>by rw[A6h,A6h,C1z k (λi hi=>h i oM),h k oM]
theorem C0b {p q:TProblem} {rows:List Int} {n:Nat} (hm:p.1.triangles=q.1.triangles):∀ k,(∀ i,i<k->C6e p (p.1.triangles.getD i D6n)=C6e q (q.1.triangles.getD i D6n))->A4v p rows n k=A4v q rows n k
 |0,_=>rfl
 |k+1,h=>by rw[A4v,A4v,C0b hm k (λi hi=>h i oM),h k oM,hm]
def D8v (r a d b e:Int):Bool:=decide (C0y (A4d r) (A9s ⟨A4d r,[mkR a d,mkR b e,U_ 0],[]⟩)=[[mkR ((3 - r)*a*e+(1+r)*b*d) (d*e)]])
def i4:List Int:=[1,2,3,4]
def i2:List Int:=[1,2]
def i5:List Int:=[-1,0,1,2,3]
def C4j (r:Int):Bool:=i4.all λa=>i2.all λd=>i4.all λb=>i2.all λe=>D8v r a d b e
def E4l (r f g:Int):Bool:=decide (A6v ⟨A4d r,[],[U_ f,U_ g,U_ 0]⟩=[mkR ((3 - r)*f+(1+r)*g) 3])
def D2i (r:Int):Bool:=i5.all λf=>i5.all λg=>E4l r f g
theorem stiff_all:C4j 0=true/\C4j 1=true:=dK
theorem load_all:D2i 0=true/\D2i 1=true:=dK
def E7m (s l u:TRat):TRat:=A3u (A0k (A0k (U_ 0) (A0d (mkR 2 3) u)) (A0d (mkR 1 2) l)) (A0k (A0d (U_ 1) (mkR 2 3)) (A0d (mkR 1 2) s))
def E7q (s l u:TRat):Bool:=J_ u&&(!A2e (A0k (U_ 0) (A0d (mkR 2 3) u))&&(J_ (A0k (A0k (U_ 0) (A0d (mkR 2 3) u)) (A0d (mkR 1 2) l))&&J_ (E7m s l u)))
def E0b (s l:TRat):Bool:=J_ s&&(decide (R_ s≠0)&&(J_ (A0k (A0d (U_ 1) (mkR 2 3)) (A0d (mkR 1 2) s))&&(decide (0<R_ (A0k (A0d (U_ 1) (mkR 2 3)) (A0d (mkR 1 2) s)))&&(!A2e l&&(E7q s l (U_ 0)&&E7q s l (E7m s l (U_ 0)))))))
def E7g:Bool:=(List.range 32).all λn=>[1,2,4].all λd=>(List.range 17).all λf=>E0b (mkR ((n:Int)+1) d) (mkR ((f:Int) - 4) 3)
set_option maxRecDepth 100000 in
theorem E4g:E7g=true:=dK
theorem E4f {a:Int} (h:1<=a/\a<=4):a∈i4:=by
 obtain rfl|rfl|rfl|rfl:a=1\/a=2\/a=3\/a=4:=oM;all_goals decide
theorem E3b {a:Int} (h:1<=a/\a<=2):a∈i2:=by
 obtain rfl|rfl:a=1\/a=2:=oM;all_goals decide
theorem E4e {a:Int} (h:-1<=a/\a<=3):a∈i5:=by
 obtain rfl|rfl|rfl|rfl|rfl:a = -1\/a=0\/a=1\/a=2\/a=3:=oM;all_goals decide
theorem D3t {r a d b e:Int} (h:C4j r=true) (ha:1<=a/\a<=4) (hd:1<=d/\d<=2) (hb:1<=b/\b<=4) (he:1<=e/\e<=2):D8v r a d b e=true :=
 List.all_eq_true.1 (List.all_eq_true.1 (List.all_eq_true.1 (List.all_eq_true.1 h a (E4f ha)) d (E3b hd)) b (E4f hb)) e (E3b he)
theorem D9e {r f g:Int} (h:D2i r=true) (hf:-1<=f/\f<=3) (hg:-1<=g/\g<=3):E4l r f g=true :=
 List.all_eq_true.1 (List.all_eq_true.1 h f (E4e hf)) g (E4e hg)
theorem E6b {N b M:Int} (E:1<=N/\N<=32) (u:b=1\/b=2\/b=4) (D:-4<=M/\M<=12):E0b (mkR N b) (mkR M 3)=true:=by
 have h:=List.all_eq_true.1 (List.all_eq_true.1 (List.all_eq_true.1 E4g (N - 1).toNat (List.mem_range.2 oM)) b (by rcases u with rfl|rfl|rfl<;>decide)) (M+4).toNat (List.mem_range.2 oM);rw[show(((N - 1).toNat:Nat):Int)+1=N by omega,show(((M+4).toNat:Nat):Int) - 4=M by omega]at h;exact h
theorem C2q {r a d b e:Int} (G:0<=r/\r<2) (h:1<=a/\a<=4) (D:1<=d/\d<=2) (u:1<=b/\b<=4) (E:1<=e/\e<=2) :
  (1<=(3 - r)*a*e+(1+r)*b*d/\(3 - r)*a*e+(1+r)*b*d<=32)/\(d*e=1\/d*e=2\/d*e=4):=by
 obtain rfl|rfl:r=0\/r=1:=oM;all_goals obtain rfl|rfl:d=1\/d=2:=oM
 all_goals obtain rfl|rfl:e=1\/e=2:=oM
 all_goals omega
theorem E9k {α:Type} {l:List α} (h:l.length=3):∃ a b c,l=[a,b,c]:=by
 match l,h with
 | [a,b,c],_=>exact⟨a,b,c,rfl⟩
structure OnePt (p:TProblem) (s l:TRat):Prop where
 st:C0y p.1 (A9s p)=[[s]]
 ma:C0y p.1 (C3x p.1)=[[mkR 2 3]]
 ld:A6v p=[l]
 pt:A3f p.1 false=[4]
 rw_:B1i p.1=[-1,-1,-1,-1,0]
 np:p.1.1.length=5
 b:E0b s l=true
theorem mass_one:C0y (A4d 0) (C3x (A4d 0))=[[mkR 2 3]]/\C0y (A4d 1) (C3x (A4d 1))=[[mkR 2 3]]:=dK
theorem pts_one:(A3f (A4d 0) false=[4]/\A3f (A4d 1) false=[4])/\(B1i (A4d 0)=[-1,-1,-1,-1,0]/\B1i (A4d 1)=[-1,-1,-1,-1,0]):=dK
theorem E8w {r a d b e f g:Int} {k2 K:TRat} (T:0<=r/\r<2) (u:1<=a/\a<=4) (E:1<=d/\d<=2) (D:1<=b/\b<=4) (G:1<=e/\e<=2) (I:-1<=f/\f<=3) (J:-1<=g/\g<=3) :
  OnePt ⟨A4d r,[mkR a d,mkR b e,k2],[U_ f,U_ g,K]⟩ (mkR ((3 - r)*a*e+(1+r)*b*d) (d*e)) (mkR ((3 - r)*f+(1+r)*g) 3):=by
 obtain⟨S,O⟩:=C2q T u E D G;refine⟨?_,?_,?_,?_,?_,rfl,E6b S O ?_⟩
 ·have h:D8v r a d b e=true:=by
   obtain rfl|rfl:r=0\/r=1:=oM
   ·exact D3t stiff_all.1 u E D G
   exact D3t stiff_all.2 u E D G
  rw[<-of_decide_eq_true h]
  obtain rfl|rfl:r=0\/r=1:=oM
  all_goals
   refine C1z 4 λi H=>?_;match i,H with
   |0,_=>rfl
   |1,_=>rfl
   |2,_=>rfl
   |3,_=>rfl
 ·obtain rfl|rfl:r=0\/r=1:=oM
  ·exact mass_one.1
  exact mass_one.2
 ·have h:E4l r f g=true:=by
   obtain rfl|rfl:r=0\/r=1:=oM
   ·exact D9e load_all.1 I J
   exact D9e load_all.2 I J
  rw[<-of_decide_eq_true h]
  obtain rfl|rfl:r=0\/r=1:=oM
  all_goals
   refine C0b rfl 4 λi H=>?_;match i,H with
   |0,_=>rfl
   |1,_=>rfl
   |2,_=>rfl
   |3,_=>rfl
 ·obtain rfl|rfl:r=0\/r=1:=oM
  ·exact pts_one.1.1
  exact pts_one.1.2
 ·obtain rfl|rfl:r=0\/r=1:=oM
  ·exact pts_one.2.1
  exact pts_one.2.2
 obtain rfl|rfl:r=0\/r=1:=oM;all_goals omega
end Go.Proofs.YtbhemnidcleaiaaGreat.X
