/- A part of the proof. -/
import Derived.Test.YtbkilakncnlebaaGreatDoorY17
import Derived.Deep.MidRow
set_option linter.constructorNameAsVariable false
set_option maxHeartbeats 16000000
set_option maxRecDepth 10000
open Bool renaming false→AF
open Go renaming TypeId→BS,Value→AJ,World→QT
open Go.Obj renaming cells→AK
open Go.Value renaming agg→AM,bool→AC,int→N,slice→S
open Go.World renaming setCells→PL
open Go.XB.Below renaming next→AI
open Go.XB.TRat renaming agg→BK
open List renaming all_eq_true→BJ,dropLast→DJ,getLast→DK,length→DI,mem_append→CO,mem_of_getElem?→CH,size_toArray→MA
open Option renaming none→I,some→QL
namespace Go.Proofs.YtbkilakncnlebaaGreatDoor.X
open Go.RowKit Go.XB Go.XN Proofs.Tryz
section
theorem B8a {w:QT} {L:Nat} (g:Nat) (hg:L<=g):∀ (vs:List AJ) (U:QT) (i:Nat),Below L w U->Below L w (B9t U g i vs)
 | [],_,_,h=>h
 |v::vs,_,i,h=>B8a g hg vs _ (i+1) (h.setCell (p:=⟨g,i,I⟩) hg v)
theorem C4u (g:Nat) (t:BS):∀ (vs us pre post:List AJ) (w:QT) (i:Nat),i=pre.length->us.length=vs.length->w.1[g]?=QL (AK (pre++(us++post)).toArray t)->(B9t w g i vs).1[g]?=QL (AK (pre++(vs++post)).toArray t)
 | [],us,pre,post,w,i,_,hl,h=>by
  obtain rfl:us=[]:=List.eq_nil_of_length_eq_zero hl
  exact h
 |v::vs,[],pre,post,w,i,_,hl,h=>by simp at hl
 |v::vs,u::us,pre,post,w,i,hi,hl,h=>by
  have h1:=A3g (i:=i) (v:=v) h
  have e:(pre++(u::us++post)).toArray.setIfInBounds i v=((pre++[v])++(us++post)).toArray:=by
   subst hi
   simp
  rw[e]at h1
  have:=C4u g t vs us (pre++[v]) post _ (i+1) (by simp[hi]) (by simpa using hl) h1
  rw[show(pre++(v::vs++post))=((pre++[v])++(vs++post)) by simp]
  exact this
theorem B6d (g:Nat):∀ (vs:List AJ) (w:QT) (i:Nat),PL w g i vs=B9t w g i vs
 | [],_,_=>rfl
 |v::vs,w,i=>by rw[PL,B9t];exact B6d g vs _ (i+1)
theorem C0o {w wa:QT} {g B:Nat} {us vs:List AJ} {t:BS} (h:wa.1[g]?=QL (AK us.toArray t)) (E:us.length=vs.length) (G:Below B w wa) (D:B<=g) :
  ∃ X,PL wa g 0 vs=X/\X.1[g]?=QL (AK vs.toArray t)/\(∀ b,b≠g->X.1[b]?=wa.1[b]?)/\Below B w X/\X.1.size=wa.1.size:=by
 rw[B6d];have:=C4u g t vs us [] [] wa 0 rfl E (by simpa using h);exact⟨_,rfl,by simpa using this,λb u=>A0m g vs wa 0 b u,B8a g D _ _ _ G,A7d g vs wa 0⟩
theorem D7q {w wa:QT} {g B i:Nat} {u us vs D:List AJ} {t:BS} (h:wa.1[g]?=QL (AK (u++(us++D)).toArray t)) (hi:i=u.length) (H:us.length=vs.length) (O:Below B w wa) (G:B<=g) :
  ∃ X,PL wa g i vs=X/\X.1[g]?=QL (AK (u++(vs++D)).toArray t)/\(∀ b,b≠g->X.1[b]?=wa.1[b]?)/\Below B w X/\X.1.size=wa.1.size:=by
 rw[B6d];exact⟨_,rfl,C4u g t vs us u D wa i hi H h,λb E=>A0m g vs wa i b E,B8a g G _ _ _ O,A7d g vs wa i⟩
theorem C5j {w:QT} {g o n:Nat} {cs:Array AJ} {t:BS} (h:w.1[g]?=QL (AK cs t)) (hn:o+n<=cs.size):w.there g o n:=λj hj=>by
 obtain⟨h1,h2⟩:=B_ h (j:=o+j) (Array.getElem?_eq_getElem oS)
 exact⟨by rw[h1];rfl,h2⟩
theorem B9e {w:QT} {g:Nat} {L:List AJ} {t:BS} (h:w.1[g]?=QL (AK L.toArray t)):w.rangeAt g 0 L:=λj v hv=>by
 rw[Nat.zero_add];exact(A9e h hv).1
theorem B5q {w w':QT} {g o:Nat} {L:List AJ} (h:w.rangeAt g o L) (hg:g<w.1.size) (hb:Bw w w'):w'.rangeAt g o L:=λj v hv =>
 (hb.cell (p:=⟨g,o+j,I⟩) hg).trans (h j v hv)
theorem TPiece.elemL {w:QT} {A:Option Addr} {n c:Nat} {xs:List TPiece} {bs:List Nat} (h:Sl w A n c xs bs) {k:Nat} (T:k<n) :
  ∃ (b off:Nat) (x:TPiece) (L:List AJ) (s:List Nat),A=QL ⟨b,off,I⟩/\b<w.1.size/\xs[k]?=QL x/\w.rangeAt b (off+k*34) L/\Agg w (AM L.toArray) x s/\L.length=34:=by
 obtain⟨b,off,x,u,E,G,H,X,O,D,Y⟩:=Sl.getAt h T;exact⟨b,off,x,u,E,G,H,X,λj v W=>by rw[Nat.add_assoc];exact O j v W,⟨u,rfl,D⟩,Dat.len D⟩
theorem A7z:(prog.info? 293).map (·.size)=QL 34:=kR
section
variable {P:Program} {l:List Oper} {a0:Act}
theorem C2a {w0:QT} {F:List DP->Prop} {o:Oper} {os:List Oper} {u:List DP} (L:List AJ) (ty:BS) (x:Operand) (W:o.op=.load ty x) (d:TypeDesc) (Y:P.underlying ty=QL d) (O:d.isRow=true) (hi:(P.info? ty).map (·.size)=QL L.length)
  (h:∀ (y:Nat->AJ) (z:Nat->List Nat) (w:QT),Bw w0 w->(∀ k∈N_ o,(u.getD k (λ_=>MP.eq undef) y).p (y k) (z k) w) ->
   Region.wanted o (yielded l.toArray (L_ l y a0 (N_ o)).tmps)=true/\∃ b off,(L_ l y a0 (N_ o)).eval x=.pointer (QL ⟨b,off,I⟩)/\w.rangeAt b off L)
  (X:A4c P l w0 a0 F os (u++[λ_=>MP.eq (AM L.toArray)])):A4c P l w0 a0 F (o::os) u:=by
 refine A2b _ (λy z w H T=>?_) X;obtain⟨D,b,off,E,G⟩:=h y z w H T;refine⟨D,?_⟩;unfold execOp;simp only[W,E,Instr.loadAt,Instr.sureAddr,Sem.run_bind,Sem.run_pure,Result.andThen_ok,run_loadVar_mid w b off ty L d G Y O hi]
end
end
theorem E8g {t:TTri} {q:Int} {i:Nat} (hi:[t.a,t.b,t.c][i]?=QL q) (b:∀ (j:Nat) (y:Int),j<i->[t.a,t.b,t.c][j]?=QL y->y≠q) (h:i<3):ixT t q=i:=by
 unfold ixT;obtain rfl|rfl|rfl:i=0\/i=1\/i=2:=oS
 ·rw[if_pos (by simpa using hi)]
 ·rw[if_neg (b 0 t.a oS rfl),if_pos (by simpa using hi)]
 rw[if_neg (b 0 t.a oS rfl),if_neg (b 1 t.b oS rfl)]
theorem D9m {n:Nat} {t:TTri} (h:A5v n t) {j:Nat} (b:j<3):0<=C8d t.a t.b t.c j/\C8d t.a t.b t.c j<n:=by
 unfold A5v at h;obtain rfl|rfl|rfl:j=0\/j=1\/j=2:=oS
 all_goals (simp only[C8d];omega)
attribute [local go_sem] L_ Go.XB.opAt N_ M_ Region.wanted yielded
attribute [local simp] N_ M_ MP.eq MP.agg MP.aggB MP.aggN MP.sl MP.box MP.slrow A0r
theorem D8g (v:AJ) (p:TProblem) (b:List Nat) (B:Option Addr) (n d:Nat) (us:List TRat) (dR:List Nat) (k:Nat) (q:Int) (t:TTri) (w:QT) (bX:Agg w v p b) (bW:Sl w B n d us dR) (ar:LinD p us) (eg:p.3.length=3) (aN:p.1.triangles[k]?=QL t) (hh:B6x t q=true) :
  Calls prog 245 #[v,S B n d,N .i64 k,N .i64 q] w (λe w'=>∃ u s,e=.returned u/\Agg w' u (A5g p us t q) s/\(∀ g∈s,g∈b\/w.1.size<=g)/\Bw w w'):=by
 have bs:=A_ bX;have e5:=A_ bW;have ab:=A_ ar;have aA:=A_ aN;have e0:=A_ hh;have e4:=A_ eg;have ap:=A_ (ar.tri t (CH aN));have aX:=A_ (by rw[<-ar.ul];exact bW.1.symm:n=p.1.1.length);obtain⟨i,d6,bN,bP,bO⟩:=C4r hh;have e6:=A_ (show ixT t q=i from E8g bN bP d6);have e1:=A_ bN;have e2:=A_ bP;obtain⟨al,bU⟩:∃ al,C8d t.a t.b t.c ((i+1) % 3)=al:=⟨_,rfl⟩
 obtain⟨am,bV⟩:∃ am,C8d t.a t.b t.c ((i+2) % 3)=am:=⟨_,rfl⟩
 have cP:=A_ (by rw[bO];exact bU:(A3h t q).1=al);have cQ:=A_ (by rw[bO];exact bV:(A3h t q).2=am);have br:=(ar.tri t (CH aN)).1;have cU:=A_ (by rw[<-bU,aX.o];exact D9m br oS:0<=al/\al<n);have cV:=A_ (by rw[<-bV,aX.o];exact D9m br oS:0<=am/\am<n);obtain⟨gR,fU,g1,ah,gU,n1,g2,ai,gV,n2,g3,aj,gW,hl,c3,ak,rfl,rfl,au,aw,fR,fS⟩:=TProblem.agg bX;have cO:=A_ (TMesh.mkAgg (x:=p.1) au aw);have gY:=A_ au;have gZ:=A_ aw;have fQ:k<n1:=by rw[<-aw.1];exact(List.getElem?_eq_some_iff.1 aN).1
 have hc:(k:Int)<n1:=oS;have hd:n1<=48:=by rw[<-aw.1];exact ar.t48
 obtain rfl:n=fU:=by rw[<-au.1];exact aX
 obtain⟨a4,hm,D,fF,dY,bT,ax,ay,az,bi,bj,bL⟩:=TTri.elemA aw fQ;obtain rfl:D=t:=by rw[aA.o]at bT;exact(Option.some.inj bT).symm
 subst fF;obtain⟨-,-,el,i2,em,-,-⟩:=TTri.agg bL;have bD:=A_ (show I64 D.a/\I64 D.b/\I64 D.c from⟨el,i2,em⟩);have db:=A_ ax;have dc:=A_ ay;have dd:=A_ az;have fh:=A_ bi;have fi:=A_ bj;have eY:=A_ bL;obtain⟨hg,hi⟩:=cU.o;obtain⟨hj,hk⟩:=cV.o;obtain⟨bG,f2,an,cd,en,dr,ce,eo,ds,cf,ep,dt,cg,er,du,gh,ba,fL,ei,dg,b1,b2,dh,di,dj,d1,ee⟩:=TPoint.elemB au (by omega:al.toNat<n);subst ba;obtain⟨fA,f3,ao,cj,es,dv,ck,et,dw,cm,eu,dx,cn,ev,dy,gi,ba,fM,ej,dk,dl,dm,dn,dp,dq,d2,ef⟩:=TPoint.elemB au (by omega:am.toNat<n);obtain⟨rfl,rfl⟩:bG=fA/\f2=f3:=by injection ba with H;injection H with bH bI;exact⟨bH,bI⟩
 have fk:=A_ (show Z_ p.1.1 al=an from A0e ei);have fl:=A_ (show Z_ p.1.1 am=ao from A0e ej);have eW:=A_ d1;have eX:=A_ d2;have fe:=A_ ee;have ff:=A_ ef;have fn:=A_ dg;have fo:=A_ b1;have fp:=A_ b2;have fq:=A_ dh;have fr:=A_ di;have fs:=A_ dj;have ft:=A_ dk;have fu:=A_ dl;have fv:=A_ dm;have fw:=A_ dn;have fx:=A_ dp;have fy:=A_ dq;clear au aw fR fS bX bW ar aN hh eg bN bP bO bU bV br bT ax ay az bi bj bL el i2 em ba ei ej d1 d2 ee ef dg b1 b2 dh di dj dk dl dm dn dp dq fM cU cV;go_enter func245,ntmps245;go_upto_region 1 with fail;refine Code.new2 λde a1=>?_;have eV:=A_ a1.b;have bt:=A_ a1.k;have cW:=A_ a1.l;have fz:=A_ (show w.1.size+2<=de.1.size from E_ cW);clear a1;obtain⟨aP,-⟩:=B_ bt (j:=0) rfl;obtain⟨aQ,-⟩:=B_ bt (j:=1) rfl;simp at aP aQ;go_upto_region 2 with fail;refine Code.new λbE bA=>?_;have bm:=A_ bA.b;have aB:=A_ bA.k;have cY:=A_ (K_ bt bm);have c1:=A_ (K_ cW bm);have aS:=A_ (AI eV bm);clear aP aQ bA;obtain⟨aF,bM⟩:∃ g,de.1.size=g:=⟨_,rfl⟩
 have cE:=A_ (by have:=fz.o;omega:w.1.size+2<=aF);rw[bM]at aB;simp only[bM];clear bM;obtain⟨m1,-⟩:=B_ aB (j:=1) rfl;simp at m1;have af:aF<bE.1.size:=E_ aB;have fJ:a4<bE.1.size:=by have:=aS.size;omega
 have bY:=λo=>aS.cell (p:=⟨a4,o,I⟩) dY;have ax:=db.o;have ay:=dc.o;have az:=dd.o;have bi:=fh.o;have bj:=fi.o;have bp:=B5z _ D [] q bE (eY.below aS) e0;rw[cP.o,cQ.o]at bp;go_wp2_with fail;refine bp.mono ?_;clear bp;rintro _ w3 ⟨rfl,aI⟩;have ch:=A_ (AI aS aI);have aC:=A_ (K_ aB aI);have cZ:=A_ (K_ cY aI);have c2:=A_ (K_ c1 aI);clear aI aB cY c1 m1 af fJ ax ay az bi bj bY;obtain⟨aO,-⟩:=B_ aC (j:=0) rfl;obtain⟨m1,-⟩:=B_ aC (j:=1) rfl;simp at aO m1;have af:aF<w3.1.size:=E_ aC;go_wp2_with fail;refine(A6s _ p.1 _ k D w3 (cO.below ch) aA ap.1 ab.ok ab.n40 ab.t48).mono ?_;rintro _ b3 ⟨C,fV,cC,bh,rfl,bR,d8,aJ⟩;obtain rfl:3=fV:=bR.1;have cK:=A_ (show Sl b3 C 3 cC [Z_ p.1.1 D.a,Z_ p.1.1 D.b,Z_ p.1.1 D.c] bh from bR);have cJ:=A_ (show ∀ b∈bh,w.1.size+2<=b from λb h=>by have:=(d8.2 b h).1;have:=cE.o;omega);have bo:=A_ (AI ch aJ);have aY:=A_ (K_ aC aJ);have c0:=A_ (K_ cZ aJ);have c4:=A_ (K_ c2 aJ);clear bR d8 aJ aC cZ c2 aO m1 af;obtain⟨m1,-⟩:=B_ aY (j:=1) rfl;simp at m1;have af:aF<b3.1.size:=E_ aY;have fK:a4<b3.1.size:=by have:=bo.size;omega
 have bY:=λo=>bo.cell (p:=⟨a4,o,I⟩) dY;have ax:=db.o;have ay:=dc.o;have az:=dd.o;have hb:(0:Int)<=k:=oS;go_wp2_with fail;refine X_ sI ?_;dsimp only[DJ,DK,DI];iterate 18 refine C_ _ ?_
 refine A1d (λ_=>MP.slrow 3 #[N .i64 D.a,N .i64 D.b,N .i64 D.c] 3) (Cong.const _ _) ?_ ?_;·intro Y T O E G;simp at G;refine⟨gD,S (QL ⟨O.1.size,0,I⟩) 3 3,O.alloc (AK #[N .i64 D.a,N .i64 D.b,N .i64 D.c] 3),?_,Below.box _,[O.1.size],⟨O.1.size,rfl,rfl,heap_alloc_new O _⟩,sI⟩;go_simp
 refine C_ _ ?_;refine D_ (MP.eq (N .i64 i)) ?_ ?_;·intro Y T O E G;obtain⟨aK,aM⟩:=F_ E;simp at G;obtain⟨⟨g5,hr,hs,fO⟩,_⟩:=G;refine G_ ?_;exact A0i (C2s _ 3 3 [D.a,D.b,D.c] _ q i O (D5k bD.1 bD.2.1 bD.2.2 fO) e1 e2)
 intro Y T ad E G (aL:Hid _);simp at G;go_simp;have aa:=A_ (AI bo E);have aZ:=A_ (K_ aY E);have aq:=A_ (K_ c0 E);have c5:=A_ (K_ c4 E);have aW:=A_ (cK.below E);clear G aL E aY c0 c4 cK m1 af fK ax ay az bY;obtain⟨aO,-⟩:=B_ aZ (j:=0) rfl;obtain⟨m1,-⟩:=B_ aZ (j:=1) rfl;obtain⟨aP,-⟩:=B_ aq (j:=0) rfl;obtain⟨aQ,-⟩:=B_ aq (j:=1) rfl;obtain⟨eM,-⟩:=B_ aq (j:=2) rfl;obtain⟨eN,-⟩:=B_ aq (j:=3) rfl;simp at aO m1 aP aQ eM eN;have af:aF<ad.1.size:=E_ aZ;have fT:w.1.size<ad.1.size:=E_ aq;have fN:bG<ad.1.size:=by have:=aa.size;omega
 have gc:=λo=>aa.cell (p:=⟨bG,o,I⟩) fL;have gl:=fn.o;have gm:=fo.o;have gn:=fp.o;have gp:=fq.o;have gq:=fr.o;have gt:=fs.o;have gI:=ft.o;have gJ:=fu.o;have gK:=fv.o;have gL:=fw.o;have gP:=fx.o;have gQ:=fy.o;go_wp2_with fail;obtain⟨a3,dX⟩:∃ y,A6c (Z_ p.1.1 D.a) (Z_ p.1.1 D.b) (Z_ p.1.1 D.c)=y:=⟨_,rfl⟩
 obtain⟨bg,d7⟩:∃ y,B4w p D=y:=⟨_,rfl⟩
 obtain⟨gr,d4⟩:∃ y,grT p us D=y:=⟨_,rfl⟩
 obtain⟨a9,dZ⟩:∃ y,E2o p D=y:=⟨_,rfl⟩
 have cH:=A_ dX;have cN:=A_ d7;have cM:=A_ d4;have cL:=A_ dZ;clear dX d7 d4 dZ;refine X_ sI ?_;dsimp only[DJ,DK,DI];iterate 12 refine C_ _ ?_
 refine D_ (MP.agg a3) ?_ ?_;·intro Y T O E G;obtain⟨aK,aM⟩:=F_ E;simp at G;refine G_ ?_;rw[<-cH.o];exact H_ (B3h C cC _ _ _ _ O (aW.below E))
 iterate 2 refine C_ _ ?_
 refine D_ (MP.aggB bg (ah++(ai++(aj++ak)))) ?_ ?_;·intro Y T O E G;obtain⟨aK,aM⟩:=F_ E;simp at G;refine G_ ?_;rw[<-cN.o];exact C4k (C3p _ p _ k D O (bs.below (AI aa E)) aA ab.dl ap.2.1)
 iterate 3 refine C_ _ ?_
 refine D_ (MP.aggN gr) ?_ ?_;·intro Y T O E G;obtain⟨aK,aM⟩:=F_ E;simp at G;refine G_ ?_;rw[<-cM.o];exact B8i (B6z _ p.1 _ B n d us dR k D O (cO.below (AI aa E)) (e5.below (AI aa E)) aA ap.1 aX ap.2.2 ab.uo ab.ok ab.n40 ab.t48)
 iterate 2 refine C_ _ ?_
 refine D_ (MP.aggB a9 (ah++(ai++(aj++ak)))) ?_ ?_;·intro Y T O E G;obtain⟨aK,aM⟩:=F_ E;simp at G;refine G_ ?_;rw[<-cL.o];exact C4k (D3f _ p _ k D O (bs.below (AI aa E)) aA e4 ap.2.1)
 refine A9h (λaR=>AM (((((#[S C 3 cC,AC an.x.1.1,S cd en dr,S ce eo ds,AC an.y.1.1,S cf ep dt,S cg er du,AC ao.x.1.1,S cj es dv,S ck et dw,AC ao.y.1.1,S cm eu dx,S cn ev dy]++(aR 12).cells)++(aR 15).cells)++(aR 19).cells)++#[AC AF,S I 0 0,S I 0 0,AC AF,S I 0 0,S I 0 0])++(aR 22).cells)) (by intro y aR H;simp[N_,M_]at H;simp[H]) ?_ ?_;·intro Y T O E G;obtain⟨aK,aM⟩:=F_ E;simp at G;obtain⟨_,_,_,fB,⟨_,b0,fC,_⟩,fD,⟨_,bZ,fE,_⟩⟩:=G;obtain⟨co,ew,dz,_,cs,ex,dA,_,a5,_,_,_⟩:=BK fB.1;obtain⟨ct,ey,dB,_,cu,ez,dD,_,a6,_,_,_⟩:=BK fC;obtain⟨cv,eA,dF,_,cw,eB,dG,_,cx,eC,dH,_,cy,eD,dI,_,a7,_,_,_,_,_⟩:=TPoint.agg fD;obtain⟨cF,eI,dO,_,cG,eJ,dQ,_,a8,_,_,_⟩:=BK fE;refine⟨gD,?_⟩;go_simp;try simp[*,Value.cells]
 refine A1p (S I 0 0::AC AF::S I 0 0::S I 0 0::AC AF::S I 0 0::S I 0 0::AC AF::S I 0 0::S I 0 0::AC AF::S I 0 0::S I 0 0::AC AF::S I 0 0::S I 0 0::AC AF::S I 0 0::S I 0 0::AC AF::S I 0 0::S I 0 0::AC AF::S I 0 0::S I 0 0::AC AF::S I 0 0::S I 0 0::AC AF::S I 0 0::S I 0 0::AC AF::S I 0 0::S I 0 0::[]).toArray 293 ?_ ?_;·intro Y T O E G;refine⟨gD,?_⟩;go_simp
 intro Y T hp E G (aL:Hid _);simp at G;have f4:=G.2.2.2.2.2.2.2.2.2.2.2.2.1;have f5:=G.2.2.2.2.2.2.2.2.2.2.2.2.2.2.2.1;have f6:=G.2.2.2.2.2.2.2.2.2.2.2.2.2.2.2.2.2.2.2.1;have f7:=G.2.2.2.2.2.2.2.2.2.2.2.2.2.2.2.2.2.2.2.2.2.2.1;have f8:=G.2.2.2.2.2.2.2.2.2.2.2.2.2.2.2.2.2.2.2.2.2.2.2.1;have f9:=G.2.2.2.2.2.2.2.2.2.2.2.2.2.2.2.2.2.2.2.2.2.2.2.2;obtain⟨⟨bc,-⟩,ea⟩:=f4;obtain⟨⟨-,b0,bd,ec⟩,-⟩:=f5;obtain⟨be,eb⟩:=f6;obtain⟨⟨-,bZ,bf,ed⟩,-⟩:=f7;obtain⟨⟨b4,-⟩,-⟩:=f8;obtain⟨⟨X,hq,bl,d5⟩,bQ⟩:=f9;obtain⟨co,ew,dz,_,cs,ex,dA,_,a5,-,_,_⟩:=BK bc;obtain⟨ct,ey,dB,_,cu,ez,dD,_,a6,-,_,_⟩:=BK bd;obtain⟨cv,eA,dF,_,cw,eB,dG,_,cx,eC,dH,_,cy,eD,dI,_,a7,-,_,_,_,_⟩:=TPoint.agg be;obtain⟨cF,eI,dO,_,cG,eJ,dQ,_,a8,-,_,_⟩:=BK bf;rw[a5,a6,a7,a8]at b4;rw[a5]at bc;rw[a6]at bd;rw[a7]at be;rw[a8]at bf;obtain⟨L,aG⟩:∃ y:List AJ,((S C 3 cC)::(AC an.x.1.1)::(S cd en dr)::(S ce eo ds)::(AC an.y.1.1)::(S cf ep dt)::(S cg er du)::(AC ao.x.1.1)::(S cj es dv)::(S ck et dw)::(AC ao.y.1.1)::(S cm eu dx)::(S cn ev dy)::(AC a3.1.1)::(S co ew dz)::(S cs ex dA)::(AC bg.1.1)::(S ct ey dB)::(S cu ez dD)::(AC gr.x.1.1)::(S cv eA dF)::(S cw eB dG)::(AC gr.y.1.1)::(S cx eC dH)::(S cy eD dI)::(AC AF)::(S I 0 0)::(S I 0 0)::(AC AF)::(S I 0 0)::(S I 0 0)::(AC a9.1.1)::(S cF eI dO)::(S cG eJ dQ)::[])=y:=⟨_,rfl⟩
 have gj:Y 23=AM L.toArray:=by rw[b4,<-aG];simp[Value.cells]
 have bz:=A_ (by rw[<-aG];rfl:L.length=34);have fb:=A_ (by rw[<-aG];exact BJ.1 rfl:∀ v∈L,v.oneCell'=true);have W:=A_ aG;clear aG;rw[bl]at bQ;have fP:=(bQ X sI).1;have cp:=A_ (show ∀ b∈T 12,b≠X from λb h e=>by have:=aL 12 24 dE dE dE b h;rw[bl]at this;simp[e]at this);have cq:=A_ (show ∀ b∈T 19,b≠X from λb h e=>by have:=aL 19 24 dE dE dE b h;rw[bl]at this;simp[e]at this);have a2:=A_ (show ∀ b∈ah++(ai++(aj++ak)),b<w.1.size from bs.lt);have he:w.1.size<=ad.1.size:=aa.size;have cR:=A_ (by have:=cE.o;omega:w.1.size+2<=ad.1.size);have fg:=A_ (show ∀ b∈bh,b<ad.1.size from aW.lt)
 have aU:=A_ (show ∀ b∈b0,b∈ah++(ai++(aj++ak))/\b≠X from λb h=>by
  have H:=show b∈ah++(ai++(aj++ak)) by have:=ec b h;simpa using this
  have:=a2 b H;exact⟨H,oS⟩)
 have aV:=A_ (show ∀ b∈bZ,b∈ah++(ai++(aj++ak))/\b≠X from λb h=>by
  have H:=show b∈ah++(ai++(aj++ak)) by have:=ed b h;simpa using this
  have:=a2 b H;exact⟨H,oS⟩)
 have c9:=A_ (show ∀ b∈T 12,ad.1.size<=b from λb h=>(ea b h).1);have da:=A_ (show ∀ b∈T 19,ad.1.size<=b from λb h=>(eb b h).1);have b5:=A_ bc;have b7:=A_ bd;have b9:=A_ be;have cb:=A_ bf;have bu:=A_ d5;have cI:=A_ E;generalize T 12=gd at *;generalize T 19=gg at *;clear G aL bc ea bd ec be eb bf ed d5 bQ bl E b4 a5 a6 a7 a8 aO m1 aP aQ eM eN af fT fN gl gI gm gJ gn gK gp gL gq gP gt gQ gc;refine wpList_store_mid rfl 293 _ _ rfl X 0 L.toArray gD gD (C5j bu.o (by rw[MA,bz.o];exact Nat.le_refl _)) (by rw[MA,bz.o];exact A7z) (all_oneCell_toArray fb) ?_;obtain⟨bF,dW,dV,aD,dT,-⟩:=C0o (vs:=L) bu.o (by rw[bz.o];rfl) cI fP;rw[dW];have bv:=A_ dV;have aT:=A_ dT;have b6:=A_ (b5.keep λb h=>aD b (cp b h));have ca:=A_ (b9.keep λb h=>aD b (cq b h));have b8:=A_ (b7.keep λb h=>aD b (aU b h).2);have cc:=A_ (cb.keep λb h=>aD b (aV b h).2);have bq:=A_ (aW.below aT);have c7:=A_ (K_ c5 aT);have ci:=A_ (AI aa aT);clear dW dV aD dT gj b5 b7 b9 cb aW bu cI c5 aZ aq;go_wp2_with fail;refine(B1l C cC _ _ _ _ bF bq ap.2.2).mono ?_;rintro _ eL ⟨gX,fX,g4,ho,rfl,bS,d9,Z⟩;obtain rfl:3=fX:=bS.1;obtain⟨g0,hn,ag,cz,eE,dJ,cA,eF,dL,cB,eG,dM,cD,eH,dN,eK,rfl,g6,ek,fY,o1,o2,fZ,f0,f1,d3,eh⟩:=TPoint.elemB bS d6;have fm:=A_ (show A5w (Z_ p.1.1 D.a) (Z_ p.1.1 D.b) (Z_ p.1.1 D.c) i=ag by obtain rfl|rfl|rfl:i=0\/i=1\/i=2:=oS;all_goals exact Option.some.inj ek);have eS:=A_ d3;have bB:=A_ (show ∀ b∈eK,bF.1.size<=b from λb h=>(d9.2 b (eh b h)).1);have ae:=A_ (K_ bv Z);have fa:=A_ (K_ c7 Z);have eT:=A_ (AI ci Z);have eO:=A_ (b6.below Z);have eP:=A_ (b8.below Z);have eQ:=A_ (ca.below Z);have eR:=A_ (cc.below Z);have eZ:=A_ (bq.below Z);have g7:X<bF.1.size:=E_ bv;clear bS d9 Z ek d3 eh b6 b8 ca cc bq bv c7 aT ci;have ha:(i:Int)<3:=oS;have g9:(0:Int)<=i:=oS;obtain⟨gu,gA⟩:=A9e ae.o (j:=25) (v:=AC AF) (by rw[<-W.o];rfl);obtain⟨gv,gC⟩:=A9e ae.o (j:=26) (v:=S I 0 0) (by rw[<-W.o];rfl);obtain⟨gw,gE⟩:=A9e ae.o (j:=27) (v:=S I 0 0) (by rw[<-W.o];rfl);obtain⟨gx,gF⟩:=A9e ae.o (j:=28) (v:=AC AF) (by rw[<-W.o];rfl);obtain⟨gy,gG⟩:=A9e ae.o (j:=29) (v:=S I 0 0) (by rw[<-W.o];rfl);obtain⟨gz,gH⟩:=A9e ae.o (j:=30) (v:=S I 0 0) (by rw[<-W.o];rfl);have c8:=A_ (by rw[ae.o,<-W.o];rfl:eL.1[X]?=QL (AK (L.take 25++((L.drop 25).take 6++L.drop 31)).toArray 293));go_upto_region 9 with fail;obtain⟨fj,bK,bJ,cX,dS,-⟩:=D7q (i:=25) (vs:=((AC ag.x.1.1)::(S cz eE dJ)::(S cA eF dL)::(AC ag.y.1.1)::(S cB eG dM)::(S cD eH dN)::[]:List AJ)) c8.o (by rw[<-W.o];rfl) (by rw[<-W.o];rfl) eT.o (by omega:w.1.size<=X);simp only[PL]at bK;rw[bK];obtain⟨ac,aH⟩:∃ y,L.take 25++([AC ag.x.1.1,S cz eE dJ,S cA eF dL,AC ag.y.1.1,S cB eG dM,S cD eH dN]++L.drop 31)=y:=⟨_,rfl⟩
 rw[aH]at bJ;have aE:=A_ (by rw[<-aH,<-W.o];rfl:ac.length=34);have fc:=A_ (by rw[<-aH,<-W.o];exact BJ.1 rfl:∀ v∈ac,v.oneCell'=true);have e3:=A_ aH;have e7:=A_ bJ;have eU:=A_ dS;have c6:=A_ (show fj.1[w.1.size+1]?=_ from(cX _ (by have:=cR.o;omega)).trans fa.o);clear bK aH bJ dS gu gA gv gC gw gE gx gF gy gG gz gH fY o1 o2 fZ f0 f1 c8;go_wp2_with (first|(refine wpList_load_mid rfl 293 _ rfl X 0 gD ac _ (B9e e7.o) underlying293 rfl (by rw[aE.o];exact A7z) ?_)|(refine wpList_store_mid rfl 293 _ _ rfl (w.1.size+1) 0 ac.toArray gD gD (C5j c6.o (by rw[MA,aE.o];exact Nat.le_refl _)) (by rw[MA,aE.o];exact A7z) (all_oneCell_toArray fc) ?_));obtain⟨df,fI,fH,e9,fG,-⟩:=C0o (vs:=ac) c6.o (by rw[aE.o];rfl) eU (Nat.le_succ _);rw[fI];have e8:=A_ fH;have bn:=A_ fG;have hf:=cR.o;have J:=A_ (show ∀ b,b≠X->b≠w.1.size+1->df.1[b]?=eL.1[b]? from λb bH bI=>(e9 b bI).trans (cX b bH));have fd:A5g p us D q=⟨[Z_ p.1.1 D.a,Z_ p.1.1 D.b,Z_ p.1.1 D.c],an,ao,a3,bg,gr,ag,a9⟩:=by unfold A5g;rw[cP.o,cQ.o,fk.o,fl.o,cH.o,cN.o,cM.o,e6.o,fm.o,cL.o]
 refine bodyPost_ret (v:=AM ac.toArray) ?_ rfl ?_
 ·have:=run_loadVar_mid (P:=prog) df (w.1.size+1) 0 293 ac _ (B9e e8.o) underlying293 rfl (by rw[aE.o];exact A7z)
  obtain⟨F,dU⟩:∃ F:Addr->Sem AJ,∀ a,loadVar 293 a=F a:=⟨_,λ_=>rfl⟩
  simp only[dU]at this;simp[results,results245,dU];simp[go_sem,this]
 refine⟨_,bh++(gh++(gi++(gd++(b0++(gg++(eK++bZ)))))),rfl,⟨ac,rfl,?_⟩,?_,bn⟩
 ·rw[fd,<-e3.o,<-W.o]
  refine TPiece.shut (x:=⟨[Z_ p.1.1 D.a,Z_ p.1.1 D.b,Z_ p.1.1 D.c],an,ao,a3,bg,gr,ag,a9⟩) (eZ.keep λb h=>J b ?_ ?_) (eW.below bn) (eX.below bn) (eO.keep λb h=>J b ?_ ?_) (eP.keep λb h=>J b ?_ ?_) (eQ.keep λb h=>J b ?_ ?_) (eS.keep λb h=>J b ?_ ?_) (eR.keep λb h=>J b ?_ ?_);·have:=fg b h;omega
  ·have:=cJ b h;omega
  ·exact cp b h
  ·have:=c9 b h;omega
  ·exact(aU b h).2
  ·have:=a2 b (aU b h).1;omega
  ·exact cq b h
  ·have:=da b h;omega
  ·have:=bB b h;omega
  ·have:=bB b h;omega
  ·exact(aV b h).2
  have:=a2 b (aV b h).1;omega
 intro g d0;simp only[CO]at d0 ⊢;rcases d0 with H|H|H|H|H|H|H|H
 ·right;have:=cJ g H;omega
 ·left;left;exact fe g H
 ·left;left;exact ff g H
 ·right;have:=c9 g H;omega
 ·left;have:=(aU g H).1;simpa only [CO]using this
 ·right;have:=da g H;omega
 ·right;have:=bB g H;omega
 left;have:=(aV g H).1;simpa only [CO]using this
end Go.Proofs.YtbkilakncnlebaaGreatDoor.X
