/- A part of the proof. -/
import Derived.Test.YtbhemnidcleaiaaGreatY17
import Derived.Deep.MidRow
set_option linter.constructorNameAsVariable false
set_option maxHeartbeats 16000000
set_option maxRecDepth 10000
namespace Go.Proofs.YtbhemnidcleaiaaGreat.X
open Go.RowKit Go.XB Go.XN Proofs.Tryz
section
theorem B8a {w:World} {L:Nat} (g:Nat) (hg:L<=g):∀ (vs:List Value) (U:World) (i:Nat),Below L w U->Below L w (setCells U g i vs)
 | [],_,_,h=>h
 |v::vs,_,i,h=>B8a g hg vs _ (i+1) (h.setCell (p:=⟨g,i,none⟩) hg v)
theorem C4u (g:Nat) (t:TypeId):∀ (vs us pre post:List Value) (w:World) (i:Nat),i=pre.length->us.length=vs.length->w.1[g]?=some (.cells (pre++(us++post)).toArray t)->(setCells w g i vs).1[g]?=some (.cells (pre++(vs++post)).toArray t)
 | [],us,pre,post,w,i,_,hl,h=>by
  obtain rfl:us=[]:=List.eq_nil_of_length_eq_zero hl
  exact h
 |v::vs,[],pre,post,w,i,_,hl,h=>by simp at hl
 |v::vs,u::us,pre,post,w,i,hi,hl,h=>by
  have h1:=A3g (i:=i) (v:=v) h
  have e:(pre++(u::us++post)).toArray.setIfInBounds i v=((pre++[v])++(us++post)).toArray:=by
   subst hi
   simp
  rw[e]at h1
  have:=C4u g t vs us (pre++[v]) post _ (i+1) (by simp[hi]) (by simpa using hl) h1
  rw[show(pre++(v::vs++post))=((pre++[v])++(vs++post)) by simp]
  exact this
theorem B6d (g:Nat):∀ (vs:List Value) (w:World) (i:Nat),World.setCells w g i vs=setCells w g i vs
 | [],_,_=>rfl
 |v::vs,w,i=>by rw[World.setCells,setCells];exact B6d g vs _ (i+1)
theorem C0o {w wa:World} {g B:Nat} {us vs:List Value} {t:TypeId} (h:wa.1[g]?=some (.cells us.toArray t)) (E:us.length=vs.length) (G:Below B w wa) (D:B<=g) :
  ∃ X,World.setCells wa g 0 vs=X/\X.1[g]?=some (.cells vs.toArray t)/\(∀ b,b≠g->X.1[b]?=wa.1[b]?)/\Below B w X/\X.1.size=wa.1.size:=by
 rw[B6d];have:=C4u g t vs us [] [] wa 0 rfl E (by simpa using h);exact⟨_,rfl,by simpa using this,λb u=>A0m g vs wa 0 b u,B8a g D _ _ _ G,A7d g vs wa 0⟩
theorem D7q {w wa:World} {g B i:Nat} {u us vs D:List Value} {t:TypeId} (h:wa.1[g]?=some (.cells (u++(us++D)).toArray t)) (hi:i=u.length) (H:us.length=vs.length) (I:Below B w wa) (G:B<=g) :
  ∃ X,World.setCells wa g i vs=X/\X.1[g]?=some (.cells (u++(vs++D)).toArray t)/\(∀ b,b≠g->X.1[b]?=wa.1[b]?)/\Below B w X/\X.1.size=wa.1.size:=by
 rw[B6d];exact⟨_,rfl,C4u g t vs us u D wa i hi H h,λb E=>A0m g vs wa i b E,B8a g G _ _ _ I,A7d g vs wa i⟩
theorem C5j {w:World} {g o n:Nat} {cs:Array Value} {t:TypeId} (h:w.1[g]?=some (.cells cs t)) (hn:o+n<=cs.size):w.there g o n:=λj hj=>by
 obtain⟨h1,h2⟩:=B_ h (j:=o+j) (Array.getElem?_eq_getElem oM)
 exact⟨by rw[h1];rfl,h2⟩
theorem B9e {w:World} {g:Nat} {L:List Value} {t:TypeId} (h:w.1[g]?=some (.cells L.toArray t)):w.rangeAt g 0 L:=λj v hv=>by
 rw[Nat.zero_add];exact(A9e h hv).1
theorem B5q {w w':World} {g o:Nat} {L:List Value} (h:w.rangeAt g o L) (hg:g<w.1.size) (hb:Bw w w'):w'.rangeAt g o L:=λj v hv =>
 (hb.cell (p:=⟨g,o+j,none⟩) hg).trans (h j v hv)
theorem TPiece.elemL {w:World} {A:Option Addr} {n c:Nat} {xs:List TPiece} {E:List Nat} (h:Sl w A n c xs E) {k:Nat} (K:k<n) :
  ∃ (b off:Nat) (x:TPiece) (L:List Value) (s:List Nat),A=some ⟨b,off,none⟩/\b<w.1.size/\xs[k]?=some x/\w.rangeAt b (off+k*34) L/\Agg w (.agg L.toArray) x s/\L.length=34:=by
 obtain⟨b,off,x,u,G,H,I,S,J,D,T⟩:=Sl.getAt h K;exact⟨b,off,x,u,G,H,I,S,λj v O=>by rw[Nat.add_assoc];exact J j v O,⟨u,rfl,D⟩,Dat.len D⟩
theorem A7z:(prog.info? 262).map (·.size)=some 34:=kR
section
variable {P:Program} {l:List Oper} {a0:Act}
theorem C2a {w0:World} {F:List DP->Prop} {o:Oper} {D:List Oper} {u:List DP} (L:List Value) (ty:TypeId) (x:Operand) (O:o.op=.load ty x) (d:TypeDesc) (T:P.underlying ty=some d) (J:d.isRow=true) (hi:(P.info? ty).map (·.size)=some L.length)
  (h:∀ (y:Nat->Value) (z:Nat->List Nat) (w:World),Bw w0 w->(∀ k∈N_ o,(u.getD k (λ_=>MP.eq undef) y).p (y k) (z k) w) ->
   Region.wanted o (yielded l.toArray (L_ l y a0 (N_ o)).tmps)=true/\∃ b off,(L_ l y a0 (N_ o)).eval x=.pointer (some ⟨b,off,none⟩)/\w.rangeAt b off L)
  (S:A4c P l w0 a0 F D (u++[λ_=>MP.eq (.agg L.toArray)])):A4c P l w0 a0 F (o::D) u:=by
 refine A2b _ (λy z w I K=>?_) S;obtain⟨E,b,off,G,H⟩:=h y z w I K;refine⟨E,?_⟩;unfold execOp;simp only[O,G,Instr.loadAt,Instr.sureAddr,Sem.run_bind,Sem.run_pure,Result.andThen_ok,run_loadVar_mid w b off ty L d H T J hi]
end
end
theorem E8g {t:TTri} {q:Int} {i:Nat} (hi:[t.a,t.b,t.c][i]?=some q) (b:∀ (j:Nat) (y:Int),j<i->[t.a,t.b,t.c][j]?=some y->y≠q) (h:i<3):ixT t q=i:=by
 unfold ixT;obtain rfl|rfl|rfl:i=0\/i=1\/i=2:=oM
 ·rw[if_pos (by simpa using hi)]
 ·rw[if_neg (b 0 t.a oM rfl),if_pos (by simpa using hi)]
 rw[if_neg (b 0 t.a oM rfl),if_neg (b 1 t.b oM rfl)]
theorem D9m {n:Nat} {t:TTri} (h:A5v n t) {j:Nat} (b:j<3):0<=C8d t.a t.b t.c j/\C8d t.a t.b t.c j<n:=by
 unfold A5v at h;obtain rfl|rfl|rfl:j=0\/j=1\/j=2:=oM
 all_goals (simp only[C8d];omega)
attribute [local go_sem] L_ Go.XB.opAt N_ M_ Region.wanted yielded
attribute [local simp] N_ M_ MP.eq MP.agg MP.aggB MP.aggN MP.sl MP.box MP.slrow A0r
theorem D8g (v:Value) (p:TProblem) (b:List Nat) (B:Option Addr) (n d:Nat) (us:List TRat) (dO:List Nat) (k:Nat) (q:Int) (t:TTri) (w:World) (bV:Agg w v p b) (bU:Sl w B n d us dO) (ao:LinD p us) (ee:p.3.length=3) (aK:p.1.triangles[k]?=some t) (hh:B6x t q=true) :
  Calls prog 265 #[v,.slice B n d,.int .i64 k,.int .i64 q] w (λe w'=>∃ u s,e=.returned u/\Agg w' u (A5g p us t q) s/\(∀ g∈s,g∈b\/w.1.size<=g)/\Bw w w'):=by
 have bp:=A_ bV;have e1:=A_ bU;have X:=A_ ao;have ax:=A_ aK;have eW:=A_ hh;have e0:=A_ ee;have al:=A_ (ao.tri t (List.mem_of_getElem? aK));have aU:=A_ (by rw[<-ao.ul];exact bU.1.symm:n=p.1.1.length);obtain⟨i,d4,bL,bN,bM⟩:=C4r hh;have e2:=A_ (show ixT t q=i from E8g bL bN d4);have eX:=A_ bL;have eY:=A_ bN;obtain⟨ah,bS⟩:∃ ah,C8d t.a t.b t.c ((i+1) % 3)=ah:=⟨_,rfl⟩
 obtain⟨ai,bT⟩:∃ ai,C8d t.a t.b t.c ((i+2) % 3)=ai:=⟨_,rfl⟩
 have cP:=A_ (by rw[bM];exact bS:(A3h t q).1=ah);have cQ:=A_ (by rw[bM];exact bT:(A3h t q).2=ai);have bo:=(ao.tri t (List.mem_of_getElem? aK)).1;have cU:=A_ (by rw[<-bS,aU.o];exact D9m bo oM:0<=ah/\ah<n);have cV:=A_ (by rw[<-bT,aU.o];exact D9m bo oM:0<=ai/\ai<n);obtain⟨gL,fS,gZ,ad,gP,n1,g0,ae,gQ,n2,g1,af,gR,hj,c3,ag,rfl,rfl,ap,aq,fO,fP⟩:=TProblem.agg bV;have cO:=A_ (TMesh.mkAgg (x:=p.1) ap aq);have gV:=A_ ap;have gW:=A_ aq;have fN:k<n1:=by rw[<-aq.1];exact(List.getElem?_eq_some_iff.1 aK).1
 have ha:(k:Int)<n1:=oM;have hb:n1<=48:=by rw[<-aq.1];exact ao.t48
 obtain rfl:n=fS:=by rw[<-ap.1];exact aU
 obtain⟨a2,hk,D,fB,dW,bR,ar,au,aw,bg,bh,bJ⟩:=TTri.elemA aq fN;obtain rfl:D=t:=by rw[ax.o]at bR;exact(Option.some.inj bR).symm
 subst fB;obtain⟨-,-,ej,i2,ek,-,-⟩:=TTri.agg bJ;have bz:=A_ (show I64 D.a/\I64 D.b/\I64 D.c from⟨ej,i2,ek⟩);have da:=A_ ar;have db:=A_ au;have dc:=A_ aw;have fd:=A_ bg;have fe:=A_ bh;have eU:=A_ bJ;obtain⟨he,hf⟩:=cU.o;obtain⟨hg,hi⟩:=cV.o;obtain⟨bE,fZ,aj,cc,el,dp,cd,em,dq,ce,en,dr,cf,eo,ds,gc,a8,fH,eg,de,b1,b2,df,dg,dh,dZ,ec⟩:=TPoint.elemB ap (by omega:ah.toNat<n);subst a8;obtain⟨fw,f0,ak,ci,ep,dt,cj,er,du,ck,es,dv,cm,et,dw,gd,a8,fI,eh,di,dj,dk,dl,dm,dn,d0,ed⟩:=TPoint.elemB ap (by omega:ai.toNat<n);obtain⟨rfl,rfl⟩:bE=fw/\fZ=f0:=by injection a8 with H;injection H with bF bG;exact⟨bF,bG⟩
 have fg:=A_ (show Z_ p.1.1 ah=aj from A0e eg);have fh:=A_ (show Z_ p.1.1 ai=ak from A0e eh);have eS:=A_ dZ;have eT:=A_ d0;have fa:=A_ ec;have fb:=A_ ed;have fj:=A_ de;have fk:=A_ b1;have fl:=A_ b2;have fm:=A_ df;have fn:=A_ dg;have fo:=A_ dh;have fp:=A_ di;have fq:=A_ dj;have fr:=A_ dk;have fs:=A_ dl;have ft:=A_ dm;have fu:=A_ dn;clear ap aq fO fP bV bU ao aK hh ee bL bN bM bS bT bo bR ar au aw bg bh bJ ej i2 ek a8 eg eh dZ d0 ec ed de b1 b2 df dg dh di dj dk dl dm dn fI cU cV;go_enter func265,ntmps265;go_upto_region 1 with fail;refine Code.new2 λbA aY=>?_;have eR:=A_ aY.b;have aV:=A_ aY.k;have cW:=A_ aY.l;have fv:=A_ (show w.1.size+2<=bA.1.size from E_ cW);clear aY;obtain⟨aM,-⟩:=B_ aV (j:=0) rfl;obtain⟨aN,-⟩:=B_ aV (j:=1) rfl;simp at aM aN;have fQ:w.1.size<bA.1.size:=E_ aV;go_upto_region 2 with fail;refine Code.new λbB bt=>?_;have bj:=A_ bt.b;have ay:=A_ bt.k;have cY:=A_ (K_ aV bj);have c1:=A_ (K_ cW bj);have aP:=A_ (Below.next eR bj);clear aM aN fQ bt;obtain⟨aC,bK⟩:∃ g,bA.1.size=g:=⟨_,rfl⟩
 have cE:=A_ (by have:=fv.o;omega:w.1.size+2<=aC);rw[bK]at ay;simp only[bK];clear bK;obtain⟨m1,-⟩:=B_ ay (j:=1) rfl;simp at m1;have ab:aC<bB.1.size:=E_ ay;have fF:a2<bB.1.size:=by have:=aP.size;omega
 have bW:=λo=>aP.cell (p:=⟨a2,o,none⟩) dW;have ar:=da.o;have au:=db.o;have aw:=dc.o;have bg:=fd.o;have bh:=fe.o;have bm:=B5z _ D [] q bB (eU.below aP) eW;rw[cP.o,cQ.o]at bm;go_wp2_with fail;refine bm.mono ?_;clear bm;rintro _ w3 ⟨rfl,aF⟩;have cg:=A_ (Below.next aP aF);have az:=A_ (K_ ay aF);have cZ:=A_ (K_ cY aF);have c2:=A_ (K_ c1 aF);clear aF ay cY c1 m1 ab fF ar au aw bg bh bW;obtain⟨aL,-⟩:=B_ az (j:=0) rfl;obtain⟨m1,-⟩:=B_ az (j:=1) rfl;simp at aL m1;have ab:aC<w3.1.size:=E_ az;go_wp2_with fail;refine(A6s _ p.1 _ k D w3 (cO.below cg) ax al.1 X.ok X.n40 X.t48).mono ?_;rintro _ bZ ⟨C,fT,cC,bf,rfl,bP,d6,aG⟩;obtain rfl:3=fT:=bP.1;have cK:=A_ (show Sl bZ C 3 cC [Z_ p.1.1 D.a,Z_ p.1.1 D.b,Z_ p.1.1 D.c] bf from bP);have cJ:=A_ (show ∀ b∈bf,w.1.size+2<=b from λb h=>by have:=(d6.2 b h).1;have:=cE.o;omega);have bl:=A_ (Below.next cg aG);have aW:=A_ (K_ az aG);have c0:=A_ (K_ cZ aG);have c4:=A_ (K_ c2 aG);clear bP d6 aG az cZ c2 aL m1 ab;obtain⟨m1,-⟩:=B_ aW (j:=1) rfl;simp at m1;have ab:aC<bZ.1.size:=E_ aW;have fG:a2<bZ.1.size:=by have:=bl.size;omega
 have bW:=λo=>bl.cell (p:=⟨a2,o,none⟩) dW;have ar:=da.o;have au:=db.o;have aw:=dc.o;have g9:(0:Int)<=k:=oM;go_wp2_with fail;refine X_ sI ?_;dsimp only[List.dropLast,List.getLast,List.length];iterate 18 refine C_ _ ?_
 refine A1d (λ_=>MP.slrow 3 #[.int .i64 D.a,.int .i64 D.b,.int .i64 D.c] 3) (Cong.const _ _) ?_ ?_;·intro S J I E G;simp at G;refine⟨gD,.slice (some ⟨I.1.size,0,none⟩) 3 3,I.alloc (.cells #[.int .i64 D.a,.int .i64 D.b,.int .i64 D.c] 3),?_,Below.box _,[I.1.size],⟨I.1.size,rfl,rfl,heap_alloc_new I _⟩,sI⟩;go_simp
 refine C_ _ ?_;refine D_ (MP.eq (.int .i64 i)) ?_ ?_;·intro S J I E G;obtain⟨aH,aJ⟩:=F_ E;simp at G;obtain⟨⟨g3,hp,hq,fL⟩,_⟩:=G;refine G_ ?_;exact A0i (C2s _ 3 3 [D.a,D.b,D.c] _ q i I (D5k bz.1 bz.2.1 bz.2.2 fL) eX eY)
 intro S J aa E G (aI:Hid _);simp at G;go_simp;have W:=A_ (Below.next bl E);have aX:=A_ (K_ aW E);have an:=A_ (K_ c0 E);have c5:=A_ (K_ c4 E);have aT:=A_ (cK.below E);clear G aI E aW c0 c4 cK m1 ab fG ar au aw bW;obtain⟨aL,-⟩:=B_ aX (j:=0) rfl;obtain⟨m1,-⟩:=B_ aX (j:=1) rfl;obtain⟨aM,-⟩:=B_ an (j:=0) rfl;obtain⟨aN,-⟩:=B_ an (j:=1) rfl;obtain⟨eI,-⟩:=B_ an (j:=2) rfl;obtain⟨eJ,-⟩:=B_ an (j:=3) rfl;simp at aL m1 aM aN eI eJ;have ab:aC<aa.1.size:=E_ aX;have fR:w.1.size<aa.1.size:=E_ an;have fJ:bE<aa.1.size:=by have:=W.size;omega
 have f7:=λo=>W.cell (p:=⟨bE,o,none⟩) fH;have gh:=fj.o;have gi:=fk.o;have gj:=fl.o;have gl:=fm.o;have gm:=fn.o;have gn:=fo.o;have gF:=fp.o;have gG:=fq.o;have gH:=fr.o;have gI:=fs.o;have gJ:=ft.o;have gK:=fu.o;go_wp2_with fail;obtain⟨a1,dV⟩:∃ y,A6c (Z_ p.1.1 D.a) (Z_ p.1.1 D.b) (Z_ p.1.1 D.c)=y:=⟨_,rfl⟩
 obtain⟨be,d5⟩:∃ y,B4w p D=y:=⟨_,rfl⟩
 obtain⟨gr,d2⟩:∃ y,grT p us D=y:=⟨_,rfl⟩
 obtain⟨a7,dX⟩:∃ y,E2o p D=y:=⟨_,rfl⟩
 have cH:=A_ dV;have cN:=A_ d5;have cM:=A_ d2;have cL:=A_ dX;clear dV d5 d2 dX;refine X_ sI ?_;dsimp only[List.dropLast,List.getLast,List.length];iterate 12 refine C_ _ ?_
 refine D_ (MP.agg a1) ?_ ?_;·intro S J I E G;obtain⟨aH,aJ⟩:=F_ E;simp at G;refine G_ ?_;rw[<-cH.o];exact H_ (B3h C cC _ _ _ _ I (aT.below E))
 iterate 2 refine C_ _ ?_
 refine D_ (MP.aggB be (ad++(ae++(af++ag)))) ?_ ?_;·intro S J I E G;obtain⟨aH,aJ⟩:=F_ E;simp at G;refine G_ ?_;rw[<-cN.o];exact C4k (C3p _ p _ k D I (bp.below (Below.next W E)) ax X.dl al.2.1)
 iterate 3 refine C_ _ ?_
 refine D_ (MP.aggN gr) ?_ ?_;·intro S J I E G;obtain⟨aH,aJ⟩:=F_ E;simp at G;refine G_ ?_;rw[<-cM.o];exact B8i (B6z _ p.1 _ B n d us dO k D I (cO.below (Below.next W E)) (e1.below (Below.next W E)) ax al.1 aU al.2.2 X.uo X.ok X.n40 X.t48)
 iterate 2 refine C_ _ ?_
 refine D_ (MP.aggB a7 (ad++(ae++(af++ag)))) ?_ ?_;·intro S J I E G;obtain⟨aH,aJ⟩:=F_ E;simp at G;refine G_ ?_;rw[<-cL.o];exact C4k (D3f _ p _ k D I (bp.below (Below.next W E)) ax e0 al.2.1)
 refine A9h (λaO=>.agg (((((#[.slice C 3 cC,.bool aj.x.1.1,.slice cc el dp,.slice cd em dq,.bool aj.y.1.1,.slice ce en dr,.slice cf eo ds,.bool ak.x.1.1,.slice ci ep dt,.slice cj er du,.bool ak.y.1.1,.slice ck es dv,.slice cm et dw]++(aO 12).cells)++(aO 15).cells)++(aO 19).cells)++#[.bool false,.slice none 0 0,.slice none 0 0,.bool false,.slice none 0 0,.slice none 0 0])++(aO 22).cells)) (by intro y aO H;simp[N_,M_]at H;simp[H]) ?_ ?_;·intro S J I E G;obtain⟨aH,aJ⟩:=F_ E;simp at G;obtain⟨_,_,_,fx,⟨_,bY,fy,_⟩,fz,⟨_,bX,fA,_⟩⟩:=G;obtain⟨cn,eu,dx,_,cq,ev,dy,_,a3,_,_,_⟩:=TRat.agg fx.1;obtain⟨cs,ew,dz,_,ct,ex,dA,_,a4,_,_,_⟩:=TRat.agg fy;obtain⟨cu,ey,dB,_,cv,ez,dD,_,cw,eA,dF,_,cx,eB,dG,_,a5,_,_,_,_,_⟩:=TPoint.agg fz;obtain⟨cF,eG,dM,_,cG,eH,dN,_,a6,_,_,_⟩:=TRat.agg fA;refine⟨gD,?_⟩;go_simp;try simp[*,Value.cells]
 refine A1p (.slice none 0 0::.bool false::.slice none 0 0::.slice none 0 0::.bool false::.slice none 0 0::.slice none 0 0::.bool false::.slice none 0 0::.slice none 0 0::.bool false::.slice none 0 0::.slice none 0 0::.bool false::.slice none 0 0::.slice none 0 0::.bool false::.slice none 0 0::.slice none 0 0::.bool false::.slice none 0 0::.slice none 0 0::.bool false::.slice none 0 0::.slice none 0 0::.bool false::.slice none 0 0::.slice none 0 0::.bool false::.slice none 0 0::.slice none 0 0::.bool false::.slice none 0 0::.slice none 0 0::[]).toArray 262 ?_ ?_;·intro S J I E G;refine⟨gD,?_⟩;go_simp
 intro S J hn E G (aI:Hid _);simp at G;have f1:=G.2.2.2.2.2.2.2.2.2.2.2.2.1;have f2:=G.2.2.2.2.2.2.2.2.2.2.2.2.2.2.2.1;have f3:=G.2.2.2.2.2.2.2.2.2.2.2.2.2.2.2.2.2.2.2.1;have f4:=G.2.2.2.2.2.2.2.2.2.2.2.2.2.2.2.2.2.2.2.2.2.2.1;have f5:=G.2.2.2.2.2.2.2.2.2.2.2.2.2.2.2.2.2.2.2.2.2.2.2.1;have f6:=G.2.2.2.2.2.2.2.2.2.2.2.2.2.2.2.2.2.2.2.2.2.2.2.2;obtain⟨⟨a9,-⟩,d8⟩:=f1;obtain⟨⟨-,bY,ba,ea⟩,-⟩:=f2;obtain⟨bc,d9⟩:=f3;obtain⟨⟨-,bX,bd,eb⟩,-⟩:=f4;obtain⟨⟨b3,-⟩,-⟩:=f5;obtain⟨⟨O,ho,bi,d3⟩,bO⟩:=f6;obtain⟨cn,eu,dx,_,cq,ev,dy,_,a3,-,_,_⟩:=TRat.agg a9;obtain⟨cs,ew,dz,_,ct,ex,dA,_,a4,-,_,_⟩:=TRat.agg ba;obtain⟨cu,ey,dB,_,cv,ez,dD,_,cw,eA,dF,_,cx,eB,dG,_,a5,-,_,_,_,_⟩:=TPoint.agg bc;obtain⟨cF,eG,dM,_,cG,eH,dN,_,a6,-,_,_⟩:=TRat.agg bd;rw[a3,a4,a5,a6]at b3;rw[a3]at a9;rw[a4]at ba;rw[a5]at bc;rw[a6]at bd;obtain⟨L,aD⟩:∃ y:List Value,((.slice C 3 cC)::(.bool aj.x.1.1)::(.slice cc el dp)::(.slice cd em dq)::(.bool aj.y.1.1)::(.slice ce en dr)::(.slice cf eo ds)::(.bool ak.x.1.1)::(.slice ci ep dt)::(.slice cj er du)::(.bool ak.y.1.1)::(.slice ck es dv)::(.slice cm et dw)::(.bool a1.1.1)::(.slice cn eu dx)::(.slice cq ev dy)::(.bool be.1.1)::(.slice cs ew dz)::(.slice ct ex dA)::(.bool gr.x.1.1)::(.slice cu ey dB)::(.slice cv ez dD)::(.bool gr.y.1.1)::(.slice cw eA dF)::(.slice cx eB dG)::(.bool false)::(.slice none 0 0)::(.slice none 0 0)::(.bool false)::(.slice none 0 0)::(.slice none 0 0)::(.bool a7.1.1)::(.slice cF eG dM)::(.slice cG eH dN)::[])=y:=⟨_,rfl⟩
 have gg:S 23=.agg L.toArray:=by rw[b3,<-aD];simp[Value.cells]
 have bs:=A_ (by rw[<-aD];rfl:L.length=34);have e7:=A_ (by rw[<-aD];exact List.all_eq_true.1 rfl:∀ v∈L,v.oneCell'=true);have K:=A_ aD;clear aD;rw[bi]at bO;have fM:=(bO O sI).1;have co:=A_ (show ∀ b∈J 12,b≠O from λb h e=>by have:=aI 12 24 dE dE dE b h;rw[bi]at this;simp[e]at this);have cp:=A_ (show ∀ b∈J 19,b≠O from λb h e=>by have:=aI 19 24 dE dE dE b h;rw[bi]at this;simp[e]at this);have aZ:=A_ (show ∀ b∈ad++(ae++(af++ag)),b<w.1.size from bp.lt);have hc:w.1.size<=aa.1.size:=W.size;have cR:=A_ (by have:=cE.o;omega:w.1.size+2<=aa.1.size);have fc:=A_ (show ∀ b∈bf,b<aa.1.size from aT.lt)
 have aR:=A_ (show ∀ b∈bY,b∈ad++(ae++(af++ag))/\b≠O from λb h=>by
  have H:=show b∈ad++(ae++(af++ag)) by have:=ea b h;simpa using this
  have:=aZ b H;exact⟨H,oM⟩)
 have aS:=A_ (show ∀ b∈bX,b∈ad++(ae++(af++ag))/\b≠O from λb h=>by
  have H:=show b∈ad++(ae++(af++ag)) by have:=eb b h;simpa using this
  have:=aZ b H;exact⟨H,oM⟩)
 have bu:=A_ (show ∀ b∈J 12,aa.1.size<=b from λb h=>(d8 b h).1);have c9:=A_ (show ∀ b∈J 19,aa.1.size<=b from λb h=>(d9 b h).1);have b4:=A_ a9;have b6:=A_ ba;have b8:=A_ bc;have ca:=A_ bd;have bq:=A_ d3;have cI:=A_ E;generalize J 12=f8 at *;generalize J 19=f9 at *;clear G aI a9 d8 ba ea bc d9 bd eb d3 bO bi E b3 a3 a4 a5 a6 aL m1 aM aN eI eJ ab fR fJ gh gF gi gG gj gH gl gI gm gJ gn gK f7;refine wpList_store_mid rfl 262 _ _ rfl O 0 L.toArray gD gD (C5j bq.o (by rw[List.size_toArray,bs.o];exact Nat.le_refl _)) (by rw[List.size_toArray,bs.o];exact A7z) (all_oneCell_toArray e7) ?_;obtain⟨bD,dU,dT,aA,dR,-⟩:=C0o (vs:=L) bq.o (by rw[bs.o];rfl) cI fM;rw[dU];have br:=A_ dT;have aQ:=A_ dR;have b5:=A_ (b4.keep λb h=>aA b (co b h));have b9:=A_ (b8.keep λb h=>aA b (cp b h));have b7:=A_ (b6.keep λb h=>aA b (aR b h).2);have cb:=A_ (ca.keep λb h=>aA b (aS b h).2);have bn:=A_ (aT.below aQ);have c7:=A_ (K_ c5 aQ);have ch:=A_ (Below.next W aQ);clear dU dT aA dR gg b4 b6 b8 ca aT bq cI c5 aX an;go_wp2_with fail;refine(B1l C cC _ _ _ _ bD bn al.2.2).mono ?_;rintro _ b0 ⟨gU,fU,g2,hm,rfl,bQ,d7,T⟩;obtain rfl:3=fU:=bQ.1;obtain⟨gY,hl,ac,cy,eC,dH,cz,eD,dI,cA,eE,dJ,cB,eF,dL,sO,rfl,g4,ei,fV,o1,o2,fW,fX,fY,d1,ef⟩:=TPoint.elemB bQ d4;have fi:=A_ (show A5w (Z_ p.1.1 D.a) (Z_ p.1.1 D.b) (Z_ p.1.1 D.c) i=ac by obtain rfl|rfl|rfl:i=0\/i=1\/i=2:=oM;all_goals exact Option.some.inj ei);have eO:=A_ d1;have bv:=A_ (show ∀ b∈sO,bD.1.size<=b from λb h=>(d7.2 b (ef b h)).1);have Y:=A_ (K_ br T);have e6:=A_ (K_ c7 T);have eP:=A_ (Below.next ch T);have eK:=A_ (b5.below T);have eL:=A_ (b7.below T);have eM:=A_ (b9.below T);have eN:=A_ (cb.below T);have eV:=A_ (bn.below T);have g5:O<bD.1.size:=E_ br;clear bQ d7 T ei d1 ef b5 b7 b9 cb bn br c7 aQ ch;have g7:(i:Int)<3:=oM;have g6:(0:Int)<=i:=oM;obtain⟨gp,gx⟩:=A9e Y.o (j:=25) (v:=.bool false) (by rw[<-K.o];rfl);obtain⟨gq,gy⟩:=A9e Y.o (j:=26) (v:=.slice none 0 0) (by rw[<-K.o];rfl);obtain⟨gt,gz⟩:=A9e Y.o (j:=27) (v:=.slice none 0 0) (by rw[<-K.o];rfl);obtain⟨gu,gA⟩:=A9e Y.o (j:=28) (v:=.bool false) (by rw[<-K.o];rfl);obtain⟨gv,gC⟩:=A9e Y.o (j:=29) (v:=.slice none 0 0) (by rw[<-K.o];rfl);obtain⟨gw,gE⟩:=A9e Y.o (j:=30) (v:=.slice none 0 0) (by rw[<-K.o];rfl);have fK:O<b0.1.size:=E_ Y;have c8:=A_ (by rw[Y.o,<-K.o];rfl:b0.1[O]?=some (.cells (L.take 25++((L.drop 25).take 6++L.drop 31)).toArray 262));go_upto_region 9 with fail;obtain⟨ff,bI,bH,cX,dQ,-⟩:=D7q (i:=25) (vs:=((.bool ac.x.1.1)::(.slice cy eC dH)::(.slice cz eD dI)::(.bool ac.y.1.1)::(.slice cA eE dJ)::(.slice cB eF dL)::[]:List Value)) c8.o (by rw[<-K.o];rfl) (by rw[<-K.o];rfl) eP.o (by omega:w.1.size<=O);simp only[World.setCells]at bI;rw[bI];obtain⟨Z,aE⟩:∃ y,L.take 25++([.bool ac.x.1.1,.slice cy eC dH,.slice cz eD dI,.bool ac.y.1.1,.slice cA eE dJ,.slice cB eF dL]++L.drop 31)=y:=⟨_,rfl⟩
 rw[aE]at bH;have aB:=A_ (by rw[<-aE,<-K.o];rfl:Z.length=34);have e8:=A_ (by rw[<-aE,<-K.o];exact List.all_eq_true.1 rfl:∀ v∈Z,v.oneCell'=true);have eZ:=A_ aE;have e3:=A_ bH;have eQ:=A_ dQ;have gX:=bu;have c6:=A_ (show ff.1[w.1.size+1]?=_ from(cX _ (by have:=cR.o;omega)).trans e6.o);clear bI aE bH dQ gp gx gq gy gt gz gu gA gv gC gw gE fV o1 o2 fW fX fY fK c8;go_wp2_with (first|(refine wpList_load_mid rfl 262 _ rfl O 0 gD Z _ (B9e e3.o) underlying262 rfl (by rw[aB.o];exact A7z) ?_)|(refine wpList_store_mid rfl 262 _ _ rfl (w.1.size+1) 0 Z.toArray gD gD (C5j c6.o (by rw[List.size_toArray,aB.o];exact Nat.le_refl _)) (by rw[List.size_toArray,aB.o];exact A7z) (all_oneCell_toArray e8) ?_));obtain⟨dd,fE,fD,e5,fC,-⟩:=C0o (vs:=Z) c6.o (by rw[aB.o];rfl) eQ (Nat.le_succ _);rw[fE];have e4:=A_ fD;have bk:=A_ fC;have hd:=cR.o;have am:=A_ (show ∀ b,b≠O->b≠w.1.size+1->dd.1[b]?=b0.1[b]? from λb bF bG=>(e5 b bG).trans (cX b bF));have e9:A5g p us D q=⟨[Z_ p.1.1 D.a,Z_ p.1.1 D.b,Z_ p.1.1 D.c],aj,ak,a1,be,gr,ac,a7⟩:=by unfold A5g;rw[cP.o,cQ.o,fg.o,fh.o,cH.o,cN.o,cM.o,e2.o,fi.o,cL.o]
 refine bodyPost_ret (v:=.agg Z.toArray) ?_ rfl ?_
 ·have:=run_loadVar_mid (P:=prog) dd (w.1.size+1) 0 262 Z _ (B9e e4.o) underlying262 rfl (by rw[aB.o];exact A7z)
  obtain⟨F,dS⟩:∃ F:Addr->Sem Value,∀ a,loadVar 262 a=F a:=⟨_,λ_=>rfl⟩
  simp only[dS]at this;simp[results,results265,dS];simp[go_sem,this]
 refine⟨_,bf++(gc++(gd++(f8++(bY++(f9++(sO++bX)))))),rfl,⟨Z,rfl,?_⟩,?_,bk⟩
 ·rw[e9,<-eZ.o,<-K.o]
  refine TPiece.shut (x:=⟨[Z_ p.1.1 D.a,Z_ p.1.1 D.b,Z_ p.1.1 D.c],aj,ak,a1,be,gr,ac,a7⟩) (eV.keep λb h=>am b ?_ ?_) (eS.below bk) (eT.below bk) (eK.keep λb h=>am b ?_ ?_) (eL.keep λb h=>am b ?_ ?_) (eM.keep λb h=>am b ?_ ?_) (eO.keep λb h=>am b ?_ ?_) (eN.keep λb h=>am b ?_ ?_);·have:=fc b h;omega
  ·have:=cJ b h;omega
  ·exact co b h
  ·have:=bu b h;omega
  ·exact(aR b h).2
  ·have:=aZ b (aR b h).1;omega
  ·exact cp b h
  ·have:=c9 b h;omega
  ·have:=bv b h;omega
  ·have:=bv b h;omega
  ·exact(aS b h).2
  have:=aZ b (aS b h).1;omega
 intro g dY;simp only[List.mem_append]at dY ⊢;rcases dY with H|H|H|H|H|H|H|H
 ·right;have:=cJ g H;omega
 ·left;left;exact fa g H
 ·left;left;exact fb g H
 ·right;have:=bu g H;omega
 ·left;have:=(aR g H).1;simpa only [List.mem_append]using this
 ·right;have:=c9 g H;omega
 ·right;have:=bv g H;omega
 left;have:=(aS g H).1;simpa only [List.mem_append]using this
end Go.Proofs.YtbhemnidcleaiaaGreat.X
