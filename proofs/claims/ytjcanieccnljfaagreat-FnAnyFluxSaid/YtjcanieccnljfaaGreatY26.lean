/- A part of the proof. -/
import Derived.Test.YtjcanieccnljfaaGreatY18
import Derived.Deep.MidRow
set_option linter.constructorNameAsVariable false
set_option maxHeartbeats 16000000
set_option maxRecDepth 10000
open Bool renaming false→AH
open Go renaming TypeId→CV,Value→AU,World→AD
open Go.Obj renaming cells→BG
open Go.Value renaming agg→BJ,bool→RT,int→N,slice→S
open Go.World renaming setCells→QK
open Go.XB.Below renaming next→BH
open Go.XB.TRat renaming agg→CF
open List renaming all_eq_true→CU,dropLast→DN,getLast→DO,length→DQ,mem_append→DV,mem_of_getElem?→DH,size_toArray→PQ
open Option renaming none→I,some→QZ
namespace Go.Proofs.YtjcanieccnljfaaGreat.X
open Go.RowKit Go.XB Go.XN Proofs.Tryz
section
theorem B8a {w:AD} {L:Nat} (g:Nat) (hg:L<=g):∀ (vs:List AU) (U:AD) (i:Nat),Below L w U->Below L w (B9t U g i vs)
 | [],_,_,h=>h
 |v::vs,_,i,h=>B8a g hg vs _ (i+1) (h.setCell (p:=⟨g,i,I⟩) hg v)
theorem C4u (g:Nat) (t:CV):∀ (vs us pre post:List AU) (w:AD) (i:Nat),i=pre.length->us.length=vs.length->w.1[g]?=QZ (BG (pre++(us++post)).toArray t)->(B9t w g i vs).1[g]?=QZ (BG (pre++(vs++post)).toArray t)
 | [],us,pre,post,w,i,_,hl,h=>by
  obtain rfl:us=[]:=List.eq_nil_of_length_eq_zero hl
  exact h
 |v::vs,[],pre,post,w,i,_,hl,h=>by simp at hl
 |v::vs,u::us,pre,post,w,i,hi,hl,h=>by
  have h1:=A3g (i:=i) (v:=v) h
  have e:(pre++(u::us++post)).toArray.setIfInBounds i v=((pre++[v])++(us++post)).toArray:=by
   subst hi
   simp
  rw[e]at h1
  have:=C4u g t vs us (pre++[v]) post _ (i+1) (by simp[hi]) (by simpa using hl) h1
  rw[show(pre++(v::vs++post))=((pre++[v])++(vs++post)) by simp]
  exact this
theorem B6d (g:Nat):∀ (vs:List AU) (w:AD) (i:Nat),QK w g i vs=B9t w g i vs
 | [],_,_=>rfl
 |v::vs,w,i=>by rw[QK,B9t];exact B6d g vs _ (i+1)
theorem C0o {w wa:AD} {g B:Nat} {us vs:List AU} {t:CV} (h:wa.1[g]?=QZ (BG us.toArray t)) (E:us.length=vs.length) (G:Below B w wa) (D:B<=g) :
  ∃ X,QK wa g 0 vs=X/\X.1[g]?=QZ (BG vs.toArray t)/\(∀ b,b≠g->X.1[b]?=wa.1[b]?)/\Below B w X/\X.1.size=wa.1.size:=by
 rw[B6d];have:=C4u g t vs us [] [] wa 0 rfl E (by simpa using h);exact⟨_,rfl,by simpa using this,λb u=>A0m g vs wa 0 b u,B8a g D _ _ _ G,A7d g vs wa 0⟩
theorem D7q {w wa:AD} {g B i:Nat} {u us vs D:List AU} {t:CV} (h:wa.1[g]?=QZ (BG (u++(us++D)).toArray t)) (hi:i=u.length) (H:us.length=vs.length) (O:Below B w wa) (G:B<=g) :
  ∃ X,QK wa g i vs=X/\X.1[g]?=QZ (BG (u++(vs++D)).toArray t)/\(∀ b,b≠g->X.1[b]?=wa.1[b]?)/\Below B w X/\X.1.size=wa.1.size:=by
 rw[B6d];exact⟨_,rfl,C4u g t vs us u D wa i hi H h,λb E=>A0m g vs wa i b E,B8a g G _ _ _ O,A7d g vs wa i⟩
theorem C5j {w:AD} {g o n:Nat} {cs:Array AU} {t:CV} (h:w.1[g]?=QZ (BG cs t)) (hn:o+n<=cs.size):w.there g o n:=λj hj=>by
 obtain⟨h1,h2⟩:=B_ h (j:=o+j) (Array.getElem?_eq_getElem oS)
 exact⟨by rw[h1];rfl,h2⟩
theorem B9e {w:AD} {g:Nat} {L:List AU} {t:CV} (h:w.1[g]?=QZ (BG L.toArray t)):w.rangeAt g 0 L:=λj v hv=>by
 rw[Nat.zero_add];exact(A9e h hv).1
theorem B5q {w w':AD} {g o:Nat} {L:List AU} (h:w.rangeAt g o L) (hg:g<w.1.size) (hb:Bw w w'):w'.rangeAt g o L:=λj v hv =>
 (hb.cell (p:=⟨g,o+j,I⟩) hg).trans (h j v hv)
theorem TPiece.elemL {w:AD} {A:Option Addr} {n c:Nat} {xs:List TPiece} {bs:List Nat} (h:Sl w A n c xs bs) {k:Nat} (T:k<n) :
  ∃ (b off:Nat) (x:TPiece) (L:List AU) (s:List Nat),A=QZ ⟨b,off,I⟩/\b<w.1.size/\xs[k]?=QZ x/\w.rangeAt b (off+k*34) L/\Agg w (BJ L.toArray) x s/\L.length=34:=by
 obtain⟨b,off,x,u,E,G,H,X,O,D,Y⟩:=Sl.getAt h T;exact⟨b,off,x,u,E,G,H,X,λj v W=>by rw[Nat.add_assoc];exact O j v W,⟨u,rfl,D⟩,Dat.len D⟩
theorem A7z:(prog.info? 215).map (·.size)=QZ 34:=kR
section
variable {P:Program} {l:List Oper} {a0:Act}
theorem C2a {w0:AD} {F:List DP->Prop} {o:Oper} {D:List Oper} {u:List DP} (L:List AU) (ty:CV) (x:Operand) (X:o.op=.load ty x) (d:TypeDesc) (Z:P.underlying ty=QZ d) (T:d.isRow=true) (hi:(P.info? ty).map (·.size)=QZ L.length)
  (h:∀ (y:Nat->AU) (z:Nat->List Nat) (w:AD),Bw w0 w->(∀ k∈N_ o,(u.getD k (λ_=>MP.eq undef) y).p (y k) (z k) w) ->
   Region.wanted o (yielded l.toArray (L_ l y a0 (N_ o)).tmps)=true/\∃ b off,(L_ l y a0 (N_ o)).eval x=.pointer (QZ ⟨b,off,I⟩)/\w.rangeAt b off L)
  (Y:A4c P l w0 a0 F D (u++[λ_=>MP.eq (BJ L.toArray)])):A4c P l w0 a0 F (o::D) u:=by
 refine A2b _ (λy z w O W=>?_) Y;obtain⟨E,b,off,G,H⟩:=h y z w O W;refine⟨E,?_⟩;unfold execOp;simp only[X,G,Instr.loadAt,Instr.sureAddr,Sem.run_bind,Sem.run_pure,Result.andThen_ok,run_loadVar_mid w b off ty L d H Z T hi]
end
end
theorem E8g {t:TTri} {q:Int} {i:Nat} (hi:[t.a,t.b,t.c][i]?=QZ q) (b:∀ (j:Nat) (y:Int),j<i->[t.a,t.b,t.c][j]?=QZ y->y≠q) (h:i<3):ixT t q=i:=by
 unfold ixT;obtain rfl|rfl|rfl:i=0\/i=1\/i=2:=oS
 ·rw[if_pos (by simpa using hi)]
 ·rw[if_neg (b 0 t.a oS rfl),if_pos (by simpa using hi)]
 rw[if_neg (b 0 t.a oS rfl),if_neg (b 1 t.b oS rfl)]
theorem D9m {n:Nat} {t:TTri} (h:A5v n t) {j:Nat} (b:j<3):0<=C8d t.a t.b t.c j/\C8d t.a t.b t.c j<n:=by
 unfold A5v at h;obtain rfl|rfl|rfl:j=0\/j=1\/j=2:=oS
 all_goals (simp only[C8d];omega)
attribute [local go_sem] L_ Go.XB.opAt N_ M_ Region.wanted yielded
attribute [local simp] N_ M_ MP.eq MP.agg MP.aggB MP.aggN MP.sl MP.box MP.slrow A0r
theorem D8g (v:AU) (p:TProblem) (b:List Nat) (B:Option Addr) (n d:Nat) (us:List TRat) (dT:List Nat) (k:Nat) (q:Int) (t:TTri) (w:AD) (bZ:Agg w v p b) (bY:Sl w B n d us dT) (ar:LinD p us) (ei:p.3.length=3) (aN:p.1.triangles[k]?=QZ t) (hh:B6x t q=true) :
  Calls prog 187 #[v,S B n d,N .i64 k,N .i64 q] w (λe w'=>∃ u s,e=.returned u/\Agg w' u (A5g p us t q) s/\(∀ g∈s,g∈b\/w.1.size<=g)/\Bw w w'):=by
 have bt:=A_ bZ;have e7:=A_ bY;have ab:=A_ ar;have aA:=A_ aN;have e2:=A_ hh;have e6:=A_ ei;have ap:=A_ (ar.tri t (DH aN));have aX:=A_ (by rw[<-ar.ul];exact bY.1.symm:n=p.1.1.length);obtain⟨i,d8,bP,bR,bQ⟩:=C4r hh;have e8:=A_ (show ixT t q=i from E8g bP bR d8);have e3:=A_ bP;have e4:=A_ bR;obtain⟨al,bW⟩:∃ al,C8d t.a t.b t.c ((i+1) % 3)=al:=⟨_,rfl⟩
 obtain⟨am,bX⟩:∃ am,C8d t.a t.b t.c ((i+2) % 3)=am:=⟨_,rfl⟩
 have cV:=A_ (by rw[bQ];exact bW:(A3h t q).1=al);have cW:=A_ (by rw[bQ];exact bX:(A3h t q).2=am);have br:=(ar.tri t (DH aN)).1;have cY:=A_ (by rw[<-bW,aX.o];exact D9m br oS:0<=al/\al<n);have cZ:=A_ (by rw[<-bX,aX.o];exact D9m br oS:0<=am/\am<n);obtain⟨gW,fY,g5,ah,gX,n1,g6,ai,gY,n2,g7,aj,gZ,hp,c3,ak,rfl,rfl,au,aw,fU,fV⟩:=TProblem.agg bZ;have cU:=A_ (TMesh.mkAgg (x:=p.1) au aw);have g1:=A_ au;have g2:=A_ aw;have fT:k<n1:=by rw[<-aw.1];exact(List.getElem?_eq_some_iff.1 aN).1
 have hg:(k:Int)<n1:=oS;have hi:n1<=48:=by rw[<-aw.1];exact ar.t48
 obtain rfl:n=fY:=by rw[<-au.1];exact aX
 obtain⟨a5,hq,D,fH,d0,bV,ax,ay,az,bj,bk,bN⟩:=TTri.elemA aw fT;obtain rfl:D=t:=by rw[aA.o]at bV;exact(Option.some.inj bV).symm
 subst fH;obtain⟨-,-,en,eo,ep,-,-⟩:=TTri.agg bN;have bE:=A_ (show I64 D.a/\I64 D.b/\I64 D.c from⟨en,eo,ep⟩);have de:=A_ ax;have df:=A_ ay;have dg:=A_ az;have fj:=A_ bj;have fk:=A_ bk;have e0:=A_ bN;obtain⟨hl,hm⟩:=cY.o;obtain⟨hn,ho⟩:=cZ.o;obtain⟨bI,f5,an,ch,er,dt,ci,es,du,cj,et,dv,ck,eu,dw,gl,bc,fN,ek,di,b1,b2,dj,dk,dl,d3,eg⟩:=TPoint.elemB au (by omega:al.toNat<n);subst bc;obtain⟨fC,f6,ao,co,ev,dx,cp,ew,dy,cq,ex,dz,cs,ey,dA,gm,bc,fO,el,dm,dn,dp,dq,dr,ds,d4,eh⟩:=TPoint.elemB au (by omega:am.toNat<n);obtain⟨rfl,rfl⟩:bI=fC/\f5=f6:=by injection bc with H;injection H with bJ bK;exact⟨bJ,bK⟩
 have fm:=A_ (show Z_ p.1.1 al=an from A0e ek);have fn:=A_ (show Z_ p.1.1 am=ao from A0e el);have eY:=A_ d3;have eZ:=A_ d4;have fg:=A_ eg;have fh:=A_ eh;have fp:=A_ di;have fq:=A_ b1;have fr:=A_ b2;have fs:=A_ dj;have ft:=A_ dk;have fu:=A_ dl;have fv:=A_ dm;have fw:=A_ dn;have fx:=A_ dp;have fy:=A_ dq;have fz:=A_ dr;have fA:=A_ ds;clear au aw fU fV bZ bY ar aN hh ei bP bR bQ bW bX br bV ax ay az bj bk bN en eo ep bc ek el d3 d4 eg eh di b1 b2 dj dk dl dm dn dp dq dr ds fO cY cZ;go_enter func187,ntmps187;go_upto_region 1 with fail;refine Code.new2 λbF a2=>?_;have eX:=A_ a2.b;have aY:=A_ a2.k;have c0:=A_ a2.l;have fB:=A_ (show w.1.size+2<=bF.1.size from E_ c0);clear a2;obtain⟨aP,-⟩:=B_ aY (j:=0) rfl;obtain⟨aQ,-⟩:=B_ aY (j:=1) rfl;simp at aP aQ;have fW:w.1.size<bF.1.size:=E_ aY;go_upto_region 2 with fail;refine Code.new λbG bA=>?_;have bm:=A_ bA.b;have aB:=A_ bA.k;have c2:=A_ (K_ aY bm);have c6:=A_ (K_ c0 bm);have aS:=A_ (BH eX bm);clear aP aQ fW bA;obtain⟨aF,bO⟩:∃ g,bF.1.size=g:=⟨_,rfl⟩
 have cI:=A_ (by have:=fB.o;omega:w.1.size+2<=aF);rw[bO]at aB;simp only[bO];clear bO;obtain⟨m1,-⟩:=B_ aB (j:=1) rfl;simp at m1;have af:aF<bG.1.size:=E_ aB;have fL:a5<bG.1.size:=by have:=aS.size;omega
 have b0:=λo=>aS.cell (p:=⟨a5,o,I⟩) d0;have ax:=de.o;have ay:=df.o;have az:=dg.o;have bj:=fj.o;have bk:=fk.o;have bp:=B5z _ D [] q bG (e0.below aS) e2;rw[cV.o,cW.o]at bp;go_wp2_with fail;refine bp.mono ?_;clear bp;rintro _ w3 ⟨rfl,aI⟩;have cm:=A_ (BH aS aI);have aC:=A_ (K_ aB aI);have c4:=A_ (K_ c2 aI);have c7:=A_ (K_ c6 aI);clear aI aB c2 c6 m1 af fL ax ay az bj bk b0;obtain⟨aO,-⟩:=B_ aC (j:=0) rfl;obtain⟨m1,-⟩:=B_ aC (j:=1) rfl;simp at aO m1;have af:aF<w3.1.size:=E_ aC;go_wp2_with fail;refine(A6s _ p.1 _ k D w3 (cU.below cm) aA ap.1 ab.ok ab.n40 ab.t48).mono ?_;rintro _ b5 ⟨C,fZ,cC,bi,rfl,bT,ea,aJ⟩;obtain rfl:3=fZ:=bT.1;have cO:=A_ (show Sl b5 C 3 cC [Z_ p.1.1 D.a,Z_ p.1.1 D.b,Z_ p.1.1 D.c] bi from bT);have cN:=A_ (show ∀ b∈bi,w.1.size+2<=b from λb h=>by have:=(ea.2 b h).1;have:=cI.o;omega);have bo:=A_ (BH cm aJ);have aZ:=A_ (K_ aC aJ);have c5:=A_ (K_ c4 aJ);have c8:=A_ (K_ c7 aJ);clear bT ea aJ aC c4 c7 aO m1 af;obtain⟨m1,-⟩:=B_ aZ (j:=1) rfl;simp at m1;have af:aF<b5.1.size:=E_ aZ;have fM:a5<b5.1.size:=by have:=bo.size;omega
 have b0:=λo=>bo.cell (p:=⟨a5,o,I⟩) d0;have ax:=de.o;have ay:=df.o;have az:=dg.o;have hf:(0:Int)<=k:=oS;go_wp2_with fail;refine X_ sI ?_;dsimp only[DN,DO,DQ];iterate 18 refine C_ _ ?_
 refine A1d (λ_=>MP.slrow 3 #[N .i64 D.a,N .i64 D.b,N .i64 D.c] 3) (Cong.const _ _) ?_ ?_;·intro Y T O E G;simp at G;refine⟨gD,S (QZ ⟨O.1.size,0,I⟩) 3 3,O.alloc (BG #[N .i64 D.a,N .i64 D.b,N .i64 D.c] 3),?_,Below.box _,[O.1.size],⟨O.1.size,rfl,rfl,heap_alloc_new O _⟩,sI⟩;go_simp
 refine C_ _ ?_;refine D_ (MP.eq (N .i64 i)) ?_ ?_;·intro Y T O E G;obtain⟨aK,aM⟩:=F_ E;simp at G;obtain⟨⟨ha,hv,hw,fR⟩,_⟩:=G;refine G_ ?_;exact A0i (C2s _ 3 3 [D.a,D.b,D.c] _ q i O (D5k bE.1 bE.2.1 bE.2.2 fR) e3 e4)
 intro Y T ae E G (aL:Hid _);simp at G;go_simp;have aa:=A_ (BH bo E);have a1:=A_ (K_ aZ E);have aq:=A_ (K_ c5 E);have c9:=A_ (K_ c8 E);have aW:=A_ (cO.below E);clear G aL E aZ c5 c8 cO m1 af fM ax ay az b0;obtain⟨aO,-⟩:=B_ a1 (j:=0) rfl;obtain⟨m1,-⟩:=B_ a1 (j:=1) rfl;obtain⟨aP,-⟩:=B_ aq (j:=0) rfl;obtain⟨aQ,-⟩:=B_ aq (j:=1) rfl;obtain⟨eO,-⟩:=B_ aq (j:=2) rfl;obtain⟨eP,-⟩:=B_ aq (j:=3) rfl;simp at aO m1 aP aQ eO eP;have af:aF<ae.1.size:=E_ a1;have fX:w.1.size<ae.1.size:=E_ aq;have fP:bI<ae.1.size:=by have:=aa.size;omega
 have gh:=λo=>aa.cell (p:=⟨bI,o,I⟩) fN;have gp:=fp.o;have gq:=fq.o;have gt:=fr.o;have gu:=fs.o;have gv:=ft.o;have gw:=fu.o;have gL:=fv.o;have gP:=fw.o;have gQ:=fx.o;have gR:=fy.o;have gU:=fz.o;have gV:=fA.o;go_wp2_with fail;obtain⟨a4,dZ⟩:∃ y,A6c (Z_ p.1.1 D.a) (Z_ p.1.1 D.b) (Z_ p.1.1 D.c)=y:=⟨_,rfl⟩
 obtain⟨bh,d9⟩:∃ y,B4w p D=y:=⟨_,rfl⟩
 obtain⟨gr,d6⟩:∃ y,grT p us D=y:=⟨_,rfl⟩
 obtain⟨ba,d1⟩:∃ y,E2o p D=y:=⟨_,rfl⟩
 have cL:=A_ dZ;have cR:=A_ d9;have cQ:=A_ d6;have cP:=A_ d1;clear dZ d9 d6 d1;refine X_ sI ?_;dsimp only[DN,DO,DQ];iterate 12 refine C_ _ ?_
 refine D_ (MP.agg a4) ?_ ?_;·intro Y T O E G;obtain⟨aK,aM⟩:=F_ E;simp at G;refine G_ ?_;rw[<-cL.o];exact H_ (B3h C cC _ _ _ _ O (aW.below E))
 iterate 2 refine C_ _ ?_
 refine D_ (MP.aggB bh (ah++(ai++(aj++ak)))) ?_ ?_;·intro Y T O E G;obtain⟨aK,aM⟩:=F_ E;simp at G;refine G_ ?_;rw[<-cR.o];exact C4k (C3p _ p _ k D O (bt.below (BH aa E)) aA ab.dl ap.2.1)
 iterate 3 refine C_ _ ?_
 refine D_ (MP.aggN gr) ?_ ?_;·intro Y T O E G;obtain⟨aK,aM⟩:=F_ E;simp at G;refine G_ ?_;rw[<-cQ.o];exact B8i (B6z _ p.1 _ B n d us dT k D O (cU.below (BH aa E)) (e7.below (BH aa E)) aA ap.1 aX ap.2.2 ab.uo ab.ok ab.n40 ab.t48)
 iterate 2 refine C_ _ ?_
 refine D_ (MP.aggB ba (ah++(ai++(aj++ak)))) ?_ ?_;·intro Y T O E G;obtain⟨aK,aM⟩:=F_ E;simp at G;refine G_ ?_;rw[<-cP.o];exact C4k (D3f _ p _ k D O (bt.below (BH aa E)) aA e6 ap.2.1)
 refine A9h (λaR=>BJ (((((#[S C 3 cC,RT an.x.1.1,S ch er dt,S ci es du,RT an.y.1.1,S cj et dv,S ck eu dw,RT ao.x.1.1,S co ev dx,S cp ew dy,RT ao.y.1.1,S cq ex dz,S cs ey dA]++(aR 12).cells)++(aR 15).cells)++(aR 19).cells)++#[RT AH,S I 0 0,S I 0 0,RT AH,S I 0 0,S I 0 0])++(aR 22).cells)) (by intro y aR H;simp[N_,M_]at H;simp[H]) ?_ ?_;·intro Y T O E G;obtain⟨aK,aM⟩:=F_ E;simp at G;obtain⟨_,_,_,fD,⟨_,b4,fE,_⟩,fF,⟨_,b3,fG,_⟩⟩:=G;obtain⟨ct,ez,dB,_,cw,eA,dD,_,a6,_,_,_⟩:=CF fD.1;obtain⟨cx,eB,dF,_,cy,eC,dG,_,a7,_,_,_⟩:=CF fE;obtain⟨cz,eD,dH,_,cA,eE,dI,_,cB,eF,dJ,_,cD,eG,dL,_,a8,_,_,_,_,_⟩:=TPoint.agg fF;obtain⟨cJ,eL,dR,_,cK,eM,dS,_,a9,_,_,_⟩:=CF fG;refine⟨gD,?_⟩;go_simp;try simp[*,Value.cells]
 refine A1p (S I 0 0::RT AH::S I 0 0::S I 0 0::RT AH::S I 0 0::S I 0 0::RT AH::S I 0 0::S I 0 0::RT AH::S I 0 0::S I 0 0::RT AH::S I 0 0::S I 0 0::RT AH::S I 0 0::S I 0 0::RT AH::S I 0 0::S I 0 0::RT AH::S I 0 0::S I 0 0::RT AH::S I 0 0::S I 0 0::RT AH::S I 0 0::S I 0 0::RT AH::S I 0 0::S I 0 0::[]).toArray 215 ?_ ?_;·intro Y T O E G;refine⟨gD,?_⟩;go_simp
 intro Y T ht E G (aL:Hid _);simp at G;have f7:=G.2.2.2.2.2.2.2.2.2.2.2.2.1;have f8:=G.2.2.2.2.2.2.2.2.2.2.2.2.2.2.2.1;have f9:=G.2.2.2.2.2.2.2.2.2.2.2.2.2.2.2.2.2.2.2.1;have gc:=G.2.2.2.2.2.2.2.2.2.2.2.2.2.2.2.2.2.2.2.2.2.2.1;have gd:=G.2.2.2.2.2.2.2.2.2.2.2.2.2.2.2.2.2.2.2.2.2.2.2.1;have gg:=G.2.2.2.2.2.2.2.2.2.2.2.2.2.2.2.2.2.2.2.2.2.2.2.2;obtain⟨⟨bd,-⟩,ec⟩:=f7;obtain⟨⟨-,b4,be,ee⟩,-⟩:=f8;obtain⟨bf,ed⟩:=f9;obtain⟨⟨-,b3,bg,ef⟩,-⟩:=gc;obtain⟨⟨b7,-⟩,-⟩:=gd;obtain⟨⟨X,hu,bl,d7⟩,bS⟩:=gg;obtain⟨ct,ez,dB,_,cw,eA,dD,_,a6,-,_,_⟩:=CF bd;obtain⟨cx,eB,dF,_,cy,eC,dG,_,a7,-,_,_⟩:=CF be;obtain⟨cz,eD,dH,_,cA,eE,dI,_,cB,eF,dJ,_,cD,eG,dL,_,a8,-,_,_,_,_⟩:=TPoint.agg bf;obtain⟨cJ,eL,dR,_,cK,eM,dS,_,a9,-,_,_⟩:=CF bg;rw[a6,a7,a8,a9]at b7;rw[a6]at bd;rw[a7]at be;rw[a8]at bf;rw[a9]at bg;obtain⟨L,aG⟩:∃ y:List AU,((S C 3 cC)::(RT an.x.1.1)::(S ch er dt)::(S ci es du)::(RT an.y.1.1)::(S cj et dv)::(S ck eu dw)::(RT ao.x.1.1)::(S co ev dx)::(S cp ew dy)::(RT ao.y.1.1)::(S cq ex dz)::(S cs ey dA)::(RT a4.1.1)::(S ct ez dB)::(S cw eA dD)::(RT bh.1.1)::(S cx eB dF)::(S cy eC dG)::(RT gr.x.1.1)::(S cz eD dH)::(S cA eE dI)::(RT gr.y.1.1)::(S cB eF dJ)::(S cD eG dL)::(RT AH)::(S I 0 0)::(S I 0 0)::(RT AH)::(S I 0 0)::(S I 0 0)::(RT ba.1.1)::(S cJ eL dR)::(S cK eM dS)::[])=y:=⟨_,rfl⟩
 have gn:Y 23=BJ L.toArray:=by rw[b7,<-aG];simp[Value.cells]
 have bz:=A_ (by rw[<-aG];rfl:L.length=34);have fd:=A_ (by rw[<-aG];exact CU.1 rfl:∀ v∈L,v.oneCell'=true);have W:=A_ aG;clear aG;rw[bl]at bS;have fS:=(bS X sI).1;have cu:=A_ (show ∀ b∈T 12,b≠X from λb h e=>by have:=aL 12 24 dE dE dE b h;rw[bl]at this;simp[e]at this);have cv:=A_ (show ∀ b∈T 19,b≠X from λb h e=>by have:=aL 19 24 dE dE dE b h;rw[bl]at this;simp[e]at this);have a3:=A_ (show ∀ b∈ah++(ai++(aj++ak)),b<w.1.size from bt.lt);have hj:w.1.size<=ae.1.size:=aa.size;have cX:=A_ (by have:=cI.o;omega:w.1.size+2<=ae.1.size);have fi:=A_ (show ∀ b∈bi,b<ae.1.size from aW.lt)
 have aU:=A_ (show ∀ b∈b4,b∈ah++(ai++(aj++ak))/\b≠X from λb h=>by
  have H:=show b∈ah++(ai++(aj++ak)) by have:=ee b h;simpa using this
  have:=a3 b H;exact⟨H,oS⟩)
 have aV:=A_ (show ∀ b∈b3,b∈ah++(ai++(aj++ak))/\b≠X from λb h=>by
  have H:=show b∈ah++(ai++(aj++ak)) by have:=ef b h;simpa using this
  have:=a3 b H;exact⟨H,oS⟩)
 have bB:=A_ (show ∀ b∈T 12,ae.1.size<=b from λb h=>(ec b h).1);have dd:=A_ (show ∀ b∈T 19,ae.1.size<=b from λb h=>(ed b h).1);have b8:=A_ bd;have ca:=A_ be;have cc:=A_ bf;have ce:=A_ bg;have bu:=A_ d7;have cM:=A_ E;generalize T 12=gi at *;generalize T 19=gj at *;clear G aL bd ec be ee bf ed bg ef d7 bS bl E b7 a6 a7 a8 a9 aO m1 aP aQ eO eP af fX fP gp gL gq gP gt gQ gu gR gv gU gw gV gh;refine wpList_store_mid rfl 215 _ _ rfl X 0 L.toArray gD gD (C5j bu.o (by rw[PQ,bz.o];exact Nat.le_refl _)) (by rw[PQ,bz.o];exact A7z) (all_oneCell_toArray fd) ?_;obtain⟨bH,dY,dX,aD,dV,-⟩:=C0o (vs:=L) bu.o (by rw[bz.o];rfl) cM fS;rw[dY];have bv:=A_ dX;have aT:=A_ dV;have b9:=A_ (b8.keep λb h=>aD b (cu b h));have cd:=A_ (cc.keep λb h=>aD b (cv b h));have cb:=A_ (ca.keep λb h=>aD b (aU b h).2);have cg:=A_ (ce.keep λb h=>aD b (aV b h).2);have bq:=A_ (aW.below aT);have db:=A_ (K_ c9 aT);have cn:=A_ (BH aa aT);clear dY dX aD dV gn b8 ca cc ce aW bu cM c9 a1 aq;go_wp2_with fail;refine(B1l C cC _ _ _ _ bH bq ap.2.2).mono ?_;rintro _ b6 ⟨g0,f0,g9,hs,rfl,bU,eb,Z⟩;obtain rfl:3=f0:=bU.1;obtain⟨g4,hr,ag,cE,eH,dM,cF,eI,dN,cG,eJ,dO,cH,eK,dQ,eN,rfl,hb,em,f1,o1,o2,f2,f3,f4,d5,ej⟩:=TPoint.elemB bU d8;have fo:=A_ (show A5w (Z_ p.1.1 D.a) (Z_ p.1.1 D.b) (Z_ p.1.1 D.c) i=ag by obtain rfl|rfl|rfl:i=0\/i=1\/i=2:=oS;all_goals exact Option.some.inj em);have eU:=A_ d5;have bD:=A_ (show ∀ b∈eN,bH.1.size<=b from λb h=>(eb.2 b (ej b h)).1);have ac:=A_ (K_ bv Z);have fc:=A_ (K_ db Z);have eV:=A_ (BH cn Z);have eQ:=A_ (b9.below Z);have eR:=A_ (cb.below Z);have eS:=A_ (cd.below Z);have eT:=A_ (cg.below Z);have e1:=A_ (bq.below Z);have hc:X<bH.1.size:=E_ bv;clear bU eb Z em d5 ej b9 cb cd cg bq bv db aT cn;have he:(i:Int)<3:=oS;have hd:(0:Int)<=i:=oS;obtain⟨gx,gF⟩:=A9e ac.o (j:=25) (v:=RT AH) (by rw[<-W.o];rfl);obtain⟨gy,gG⟩:=A9e ac.o (j:=26) (v:=S I 0 0) (by rw[<-W.o];rfl);obtain⟨gz,gH⟩:=A9e ac.o (j:=27) (v:=S I 0 0) (by rw[<-W.o];rfl);obtain⟨gA,gI⟩:=A9e ac.o (j:=28) (v:=RT AH) (by rw[<-W.o];rfl);obtain⟨gC,gJ⟩:=A9e ac.o (j:=29) (v:=S I 0 0) (by rw[<-W.o];rfl);obtain⟨gE,gK⟩:=A9e ac.o (j:=30) (v:=S I 0 0) (by rw[<-W.o];rfl);have fQ:X<b6.1.size:=E_ ac;have dc:=A_ (by rw[ac.o,<-W.o];rfl:b6.1[X]?=QZ (BG (L.take 25++((L.drop 25).take 6++L.drop 31)).toArray 215));go_upto_region 9 with fail;obtain⟨fl,bM,bL,c1,dU,-⟩:=D7q (i:=25) (vs:=((RT ag.x.1.1)::(S cE eH dM)::(S cF eI dN)::(RT ag.y.1.1)::(S cG eJ dO)::(S cH eK dQ)::[]:List AU)) dc.o (by rw[<-W.o];rfl) (by rw[<-W.o];rfl) eV.o (by omega:w.1.size<=X);simp only[QK]at bM;rw[bM];obtain⟨ad,aH⟩:∃ y,L.take 25++([RT ag.x.1.1,S cE eH dM,S cF eI dN,RT ag.y.1.1,S cG eJ dO,S cH eK dQ]++L.drop 31)=y:=⟨_,rfl⟩
 rw[aH]at bL;have aE:=A_ (by rw[<-aH,<-W.o];rfl:ad.length=34);have fe:=A_ (by rw[<-aH,<-W.o];exact CU.1 rfl:∀ v∈ad,v.oneCell'=true);have e5:=A_ aH;have e9:=A_ bL;have eW:=A_ dU;have g3:=bB;have da:=A_ (show fl.1[w.1.size+1]?=_ from(c1 _ (by have:=cX.o;omega)).trans fc.o);clear bM aH bL dU gx gF gy gG gz gH gA gI gC gJ gE gK f1 o1 o2 f2 f3 f4 fQ dc;go_wp2_with (first|(refine wpList_load_mid rfl 215 _ rfl X 0 gD ad _ (B9e e9.o) underlying215 rfl (by rw[aE.o];exact A7z) ?_)|(refine wpList_store_mid rfl 215 _ _ rfl (w.1.size+1) 0 ad.toArray gD gD (C5j da.o (by rw[PQ,aE.o];exact Nat.le_refl _)) (by rw[PQ,aE.o];exact A7z) (all_oneCell_toArray fe) ?_));obtain⟨dh,fK,fJ,fb,fI,-⟩:=C0o (vs:=ad) da.o (by rw[aE.o];rfl) eW (Nat.le_succ _);rw[fK];have fa:=A_ fJ;have bn:=A_ fI;have hk:=cX.o;have J:=A_ (show ∀ b,b≠X->b≠w.1.size+1->dh.1[b]?=b6.1[b]? from λb bJ bK=>(fb b bK).trans (c1 b bJ));have ff:A5g p us D q=⟨[Z_ p.1.1 D.a,Z_ p.1.1 D.b,Z_ p.1.1 D.c],an,ao,a4,bh,gr,ag,ba⟩:=by unfold A5g;rw[cV.o,cW.o,fm.o,fn.o,cL.o,cR.o,cQ.o,e8.o,fo.o,cP.o]
 refine bodyPost_ret (v:=BJ ad.toArray) ?_ rfl ?_
 ·have:=run_loadVar_mid (P:=prog) dh (w.1.size+1) 0 215 ad _ (B9e fa.o) underlying215 rfl (by rw[aE.o];exact A7z)
  obtain⟨F,dW⟩:∃ F:Addr->Sem AU,∀ a,loadVar 215 a=F a:=⟨_,λ_=>rfl⟩
  simp only[dW]at this;simp[results,results187,dW];simp[go_sem,this]
 refine⟨_,bi++(gl++(gm++(gi++(b4++(gj++(eN++b3)))))),rfl,⟨ad,rfl,?_⟩,?_,bn⟩
 ·rw[ff,<-e5.o,<-W.o]
  refine TPiece.shut (x:=⟨[Z_ p.1.1 D.a,Z_ p.1.1 D.b,Z_ p.1.1 D.c],an,ao,a4,bh,gr,ag,ba⟩) (e1.keep λb h=>J b ?_ ?_) (eY.below bn) (eZ.below bn) (eQ.keep λb h=>J b ?_ ?_) (eR.keep λb h=>J b ?_ ?_) (eS.keep λb h=>J b ?_ ?_) (eU.keep λb h=>J b ?_ ?_) (eT.keep λb h=>J b ?_ ?_);·have:=fi b h;omega
  ·have:=cN b h;omega
  ·exact cu b h
  ·have:=bB b h;omega
  ·exact(aU b h).2
  ·have:=a3 b (aU b h).1;omega
  ·exact cv b h
  ·have:=dd b h;omega
  ·have:=bD b h;omega
  ·have:=bD b h;omega
  ·exact(aV b h).2
  have:=a3 b (aV b h).1;omega
 intro g d2;simp only[DV]at d2 ⊢;rcases d2 with H|H|H|H|H|H|H|H
 ·right;have:=cN g H;omega
 ·left;left;exact fg g H
 ·left;left;exact fh g H
 ·right;have:=bB g H;omega
 ·left;have:=(aU g H).1;simpa only [DV]using this
 ·right;have:=dd g H;omega
 ·right;have:=bD g H;omega
 left;have:=(aV g H).1;simpa only [DV]using this
end Go.Proofs.YtjcanieccnljfaaGreat.X
