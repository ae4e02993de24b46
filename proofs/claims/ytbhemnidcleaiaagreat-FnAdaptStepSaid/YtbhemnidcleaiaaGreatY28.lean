/- A part of the proof. -/
import Derived.Test.YtbhemnidcleaiaaGreatY27
import Derived.LoopN
set_option linter.constructorNameAsVariable false
set_option maxHeartbeats 16000000
set_option maxRecDepth 10000
namespace Go
open Go.RowKit Go.XB
def B7r (w:World):List Obj->World
 | []=>w
 |o::os=>B7r (w.alloc o) os
theorem B3z:∀ (os:List Obj) (w:World),Bw w (B7r w os)
 | [],_=>Below.refl _ _
 |o::os,w=>Below.next (Below.box o) (B3z os (w.alloc o))
theorem C2o:∀ (os:List Obj) (w:World),(B7r w os).1.size=w.1.size+os.length
 | [],w=>rfl
 |o::os,w=>by rw[B7r,C2o os,World.size_alloc,List.length_cons];omega
theorem A1y:∀ (os:List Obj) (w:World) (k:Nat) (o:Obj),os[k]?=some o->(B7r w os).1[w.1.size+k]?=some o
 | [],w,k,o,h=>by simp at h
 |p::os,w,0,o,h=>by
  simp at h;subst h
  rw[B7r,Nat.add_zero,(B3z os (w.alloc p)).block w.1.size sI]
  exact heap_alloc_new w p
 |p::os,w,k+1,o,h=>by
  have:=A1y os (w.alloc p) k o (by simpa using h)
  rw[World.size_alloc]at this
  rw[B7r,show w.1.size+(k+1)=w.1.size+1+k by omega]
  exact this
theorem A8l {P:Program} {w:World} {I:Array Oper} {rest:List Oper} {o:Oper} {a:Act} {Q:Exit->Act->World->Prop} (S:o.guard=none) (s x:Operand) (t:TypeId)
  (Z:o.op=.call { callee:=.builtin .append,args:=#[s,x],argTypes:=#[t,t] })
  (e:TypeId) (i:TypeInfo) (z:Value) (size E:Nat) (ad:P.underlying t=some (.slice e)) (hi:P.info? e=some i) (af:i.zero=some z)
  (ab:i.size=size) (O:i.bytes=E) (ag:z.cells.size=size) (ac:0<size) (aa:a.eval s=.slice none 0 0)
  (D:Addr) (c:Nat) (b:List Value) (ae:a.eval x=.slice (some D) 1 c) (aj:b.length=size) (X:∀ j u,b[j]?=some u->w.cell? (D.add j)=some u) (J:∀ u∈b,u.oneCell'=true)
  (ai:E<=140737488355328)
  (h:∀ g' cap' w',w'.ownsRow w.1.size e size (.slice (some ⟨g',0,none⟩) 1 cap') 1 b->Bw w w'->w.1.size<=g'->wpList P I Q rest (a.put o.dst (.slice (some ⟨g',0,none⟩) 1 cap')) w'):wpList P I Q (o::rest) a w:=by
 refine wpList_append_own w S s x t Z w.1.size e i z size E ad hi af ab O ag ac (.slice none 0 0) 0 [] aa (World.ownsRow_nil w _ e size) D 1 c b ae (by omega) X J mL (by omega) (Nat.le_refl _) ?_;intro al w' G T Y;rw[List.nil_append,Nat.zero_add]at G;rcases G.2 with⟨H,_⟩|⟨g,cap,ah,H,K,ak⟩
 ·exact absurd (Y.1 H).2 dE
 subst H;exact h g cap w' G ((Below.refl w.1.size w).grown T (Nat.le_refl _) (by intro k W;cases W)) K
end Go
namespace Go.Proofs.YtbhemnidcleaiaaGreat.X
open Go.RowKit Go.XB Go.XN Proofs.Tryz
def B4o:Option TRat->TMatrix
 |none=>⟨[]⟩
 |some r=>⟨[⟨[0],[r]⟩]⟩
def B7m:Option TRat->List (List TRat)
 |none=>[]
 |some r=>[[r]]
def B6w:Option TRat->Nat
 |none=>0
 |some _=>1
def Ok1:Option TRat->Prop
 |none=>True
 |some r=>J_ r=true/\R_ r≠0
def D1u (w:World) (o:Option TRat) (e:Ending) (w':World):Prop:=∃ v s,e=.returned (.tuple #[v,.bool true])/\Agg w' v (B4o o) s/\(∀ b∈s,w.1.size<=b)/\Bw w w'
def D9k (w:World) (o:Option TRat) (e:Ending) (w':World):Prop:=∃ v s,e=.returned v/\Agg w' v (B4o o) s/\(∀ b∈s,w.1.size<=b)/\Bw w w'
theorem E5a (w:World):Agg w (.agg #[.slice none 0 0]) (B4o none) []:=TMatrix.mkAgg (x:=B4o none) (Sl.nil w)
theorem A0u {w:World} {b j:Nat} {cs:Array Value} {t:TypeId} {v:Value} (h:w.1[b]?=some (.cells cs t)):(w.setCell ⟨b,j,none⟩ v).1[b]?=some (.cells (cs.setIfInBounds j v) t):=by
 have u:=lt_of_block h;have D:w.1[b]=.cells cs t (0,0):=by simpa[Array.getElem?_eq_getElem u]using h
 show(w.1.modify b _)[b]?=_;rw[Array.getElem?_eq_getElem (by simpa using u),Array.getElem_modify_self,D];rfl
theorem B5e {α:Type} [Dat α] {b:World} {base g cap:Nat} {e:TypeId} {cs:List Value} {x:α} {u:List Nat} (h:b.ownsRow base e (Dat.sz α) (.slice (some ⟨g,0,none⟩) 1 cap) 1 cs) (G:Dat.at_ b cs x u):Sl b (some ⟨g,0,none⟩) 1 cap [x] (g::u):=by
 have J:=Dat.len G
 have I:Filled b cs [x] [u]:=⟨rfl,by simp[J],λk y gs D H=>by
  obtain rfl:k=0:=by have:=(List.getElem?_eq_some_iff.1 D).1;simp at this;exact this
  simp at D H;subst D;subst H;rw[Nat.zero_mul,List.drop_zero,List.take_of_length_le (by omega)];exact G⟩
 obtain⟨A,c,T,S,O,K⟩:=I.sl (α:=α) h rfl;cases S;rcases K with⟨W,_⟩|⟨g',E,rfl,_⟩;·omega
 simp[Value.ownBlock]at E;subst E;simpa using O
attribute [local go_sem] L_ Go.XB.opAt N_ M_ Region.wanted yielded
attribute [local simp] N_ M_ MP.eq MP.agg MP.aggS MP.sl MP.slbox A0r
theorem D2m (A:Option Addr) (c:Nat) (w:World):Calls prog 294 #[.slice A 0 c] w (D1u w none):=by
 go_enter func294,ntmps294;go_wp2_with fail;refine wp_loop_rounds 1 ?_;rw[rounds_succ];go_wp2;refine bodyPost_ret (v:=.tuple #[.agg #[.slice none 0 0],.bool true]) (by simp[results,results294,go_sem, *]) rfl ?_;exact⟨_,[],rfl,E5a _,(λh b=>by simp at b),Below.next (Below.box _) (Below.box _)⟩
theorem E8o:(prog.info? 287).map (λi=>(i.zero,i.size,i.bytes))=some (some (.agg #[.slice none 0 0,.slice none 0 0]),2,48):=kR
theorem D3h (A:Option Addr) (c:Nat) (r:TRat) (bJ:List Nat) (w:World) (aQ:Sl w A 1 c [[r]] bJ) (ok:J_ r=true) (bW:R_ r≠0):Calls prog 294 #[.slice A 1 c] w (D1u w (some r)):=by
 have cG:=A_ aQ;have a5:=A_ (ratOkB_iff.1 ok);have aI:=A_ ok;have dd:((A2v r:Int)==0)=false:=by
  unfold A2v sgn;simp;split;·omega
  split<;>omega
 obtain⟨a6,dg,r0,cB,n1,cH,cQ,rfl,cZ,ak,bZ,aP,_⟩:=Sl.elemS aQ (by decide:0<1);simp at ak;subst ak;obtain rfl:1=n1:=by rw[<-aP.1];rfl
 obtain⟨au,dh,x,aE,aR,aM,cK,aF,aS,aN,cL,rfl,c2,bg,bO,bP,bQ,a8⟩:=TRat.elemA aP (by decide:0<1);simp at bg;subst bg;simp at bZ bO bP bQ;have c0:a6<w.1.size+1:=by omega
 have c1:a6<w.1.size+1+1:=by omega
 have cV:au<w.1.size+1:=by omega
 have cW:au<w.1.size+1+1:=by omega
 have cX:au<w.1.size+1+1+1:=by omega
 have cY:au<w.1.size+1+1+1+1:=by omega
 have aG:=A_ a8;obtain⟨ch,bR,bT,bU,bV⟩:=info_parts A6b;obtain⟨i2,b4,ce,cf,cg⟩:=info_parts B2r;obtain⟨ci,cj,ck,cm,cn⟩:=info_parts E8o;clear aQ ok bW aP a8;go_enter func294,ntmps294;go_wp2_with fail;refine wp_loop_rounds 2 ?_;rw[rounds_succ];go_wp2_with fail;refine wp_loop_rounds 2 ?_;rw[rounds_succ];go_wp2_with fail;obtain⟨I,W⟩:∃ I,I=((((w.alloc (.cells #[.slice none 0 0] 203)).alloc (.cells #[.slice none 0 0] 203)).alloc (.cells #[.slice none 0 0,.slice none 0 0] 287)).alloc (.cells #[.bool r.1.1,.slice aE aR aM,.slice aF aS aN] 35)):=⟨_,rfl⟩
 have aH:=A_ (by rw[W];exact Below.next (Below.next (Below.next (Below.box _) (Below.box _)) (Below.box _)) (Below.box _):Bw w I);have db:I.1.size=w.1.size+1+1+1+1:=by rw[W];exact C2o [_,_,_,_] w
 have bA:=A_ (by rw[W];exact A1y [_,_,_,_] w 0 _ rfl:I.1[w.1.size]?=some (.cells #[.slice none 0 0] 203));have bB:=A_ (by rw[W];exact A1y [_,_,_,_] w 1 _ rfl:I.1[w.1.size+1]?=some (.cells #[.slice none 0 0] 203));have aK:=A_ (by rw[W];exact A1y [_,_,_,_] w 2 _ rfl:I.1[w.1.size+1+1]?=some (.cells #[.slice none 0 0,.slice none 0 0] 287));have aq:=A_ (by rw[W];exact A1y [_,_,_,_] w 3 _ rfl:I.1[w.1.size+1+1+1]?=some (.cells #[.bool r.1.1,.slice aE aR aM,.slice aF aS aN] 35));rw[<-W];clear W;have C:=A2p _ r _ I (aG.below aH);rw[C6v aI.o]at C;refine C.mono ?_;clear C;rintro _ bl ⟨rfl,ae⟩;have aZ:=A_ ae;obtain⟨aT,aU⟩:=B_ (O_ aq ae) (j:=0) rfl;obtain⟨aV,aW⟩:=B_ (O_ aq ae) (j:=1) rfl;obtain⟨aX,aY⟩:=B_ (O_ aq ae) (j:=2) rfl;have cb:w.1.size+1+1+1<bl.1.size:=by have:=ae.size;omega
 clear ae;go_wp2_with fail;refine(A7y _ r _ bl (aG.below (Below.next aH aZ)) a5.mag (A4h a5.1)).mono ?_;rintro _ aa ⟨rfl,a9⟩;have K:=A_ (Below.next aZ a9);have dc:=K.size;obtain⟨af,ag⟩:=B_ (O_ aK K) (j:=0) rfl;obtain⟨al,am⟩:=B_ (O_ aK K) (j:=1) rfl;have b5:w.1.size+1+1<aa.1.size:=by omega
 clear aT aU aV aW aX aY cb a9;go_wp2_with (at_builtin;refine A8l rfl _ _ 31 rfl 3 ch (.int .i64 0) 1 8 underlying31 bR bT bU bV rfl dE gD ⟨aa.1.size,0,none⟩ 1 [.int .i64 0] gD rfl (A0a (heap_alloc_new aa _)) (by simp[Value.oneCell']) dE ?_;intro D J bm bd az ba;have cz:=(az.cell (p:=⟨w.1.size+1+1,0,none⟩) sO).trans ((Below.box (w:=aa) (.cells #[.int .i64 0] 3)).cell (p:=⟨w.1.size+1+1,0,none⟩) sO |>.trans af);have cA:=(az.frozen (p:=⟨w.1.size+1+1,0,none⟩) sO).trans ((Below.box (w:=aa) (.cells #[.int .i64 0] 3)).frozen (p:=⟨w.1.size+1+1,0,none⟩) sO |>.trans ag));obtain⟨E,X⟩:∃ E,E=bm.setCell ⟨w.1.size+1+1,0,none⟩ (.slice (some ⟨D,0,none⟩) 1 J):=⟨_,rfl⟩
 have ah:=A_ (show Bw aa bm from Below.next (Below.box _) az);have c6:aa.1.size<D:=by simp at ba;omega
 have ap:=A_ (by rw[X];exact A0u (O_ (O_ aK K) ah):E.1[w.1.size+1+1]?=some (.cells #[.slice (some ⟨D,0,none⟩) 1 J,.slice none 0 0] 287));have bv:=A_ (by rw[X];exact(Below.heap_setCell _ _ _ _ sO).trans (O_ (O_ bA.o K.o) ah.o):E.1[w.1.size]?=some (.cells #[.slice none 0 0] 203));have bz:=A_ (by rw[X];exact(Below.heap_setCell _ _ _ _ sI).trans (O_ (O_ bB.o K.o) ah.o):E.1[w.1.size+1]?=some (.cells #[.slice none 0 0] 203));have O:=A_ (by rw[X];exact(Below.heap_setCell _ _ _ _ sI).trans (O_ (O_ aq.o K.o) ah.o):E.1[w.1.size+1+1+1]?=some (.cells #[.bool r.1.1,.slice aE aR aM,.slice aF aS aN] 35));have bF:=A_ (show Sl E (some ⟨D,0,none⟩) 1 J [(0:Int)] [D] by rw[X];exact(B5e (α:=Int) bd ⟨rfl,rfl,cD⟩).keep (λh b=>Below.heap_setCell _ _ _ _ (by simp at b;subst b;simp;omega)));have a1:=A_ (by rw[X];exact(Below.next (Below.next aH.o K.o) ah.o).setCell (p:=⟨w.1.size+1+1,0,none⟩) sO _:Bw w E);have cc:w.1.size+1+1+1<E.1.size:=lt_of_block O;have cd:w.1.size+1+1<E.1.size:=by omega
 rw[<-X];clear X bd az ba cz cA af ag al am b5;obtain⟨af,ag⟩:=B_ ap (j:=0) rfl;obtain⟨al,am⟩:=B_ ap (j:=1) rfl;obtain⟨aT,aU⟩:=B_ O (j:=0) rfl;obtain⟨aV,aW⟩:=B_ O (j:=1) rfl;obtain⟨aX,aY⟩:=B_ O (j:=2) rfl;refine W_ 5 kR kR kR kR kR ?_;simp only[List.take_succ_cons,List.take_zero,List.drop_succ_cons,List.drop_zero];iterate 3 refine C_ _ ?_
 refine D_ (MP.agg r) ?_ ?_;·intro aB aC ab ac H;obtain⟨c4,c5⟩:=F_ ac;simp at H;refine G_ ?_;exact H_ (A3n _ _ _ ab (aG.below (Below.next a1 ac)) (Nat.le_trans (B1b aI).1 dE) (Nat.le_trans (B1b aI).2 dE))
 refine A1d (λbp=>MP.slbox (bp 3).cells 35) (by intro y bp a7;simp[N_,M_]at a7;simp[a7]) ?_ ?_;·intro aB aC ab ac H;simp at H;obtain⟨cE,de,cI,cM,cF,df,cJ,cP,bM,_,_,_⟩:=TRat.agg H.1;refine⟨gD,.slice (some ⟨ab.1.size,0,none⟩) 1 1,ab.alloc (.cells (aB 3).cells 35),?_,Below.box _,[ab.1.size],⟨ab.1.size,rfl,rfl,heap_alloc_new ab _⟩,sI⟩;rw[bM];go_simp
 intro aB aC wa ac H (bY:Hid _);simp at H;have q1:=H.2.1;have cq:=H.2.2.2.1;have cs:=H.2.2.2.2;obtain⟨⟨ax,b0⟩,ak⟩:=cq;obtain⟨bq,co,bK,cR,br,cp,bL,cU,bN,cx,m1,m2⟩:=TRat.agg ax;obtain⟨⟨bS,cO,cy,aO⟩,b7⟩:=cs;rw[bN]at aO ax;have aD:=A_ (A3x ax);have aJ:=A_ (show ∀ h∈aC 3,E.1.size<=h from λh b=>(ak h b).1);have ao:=A_ ac;have bu:=A_ aO;have cN:aB 1=.slice none 0 0:=q1.1.1;generalize aC 3=aA at *;clear H bY ax b0 ak cx m1 m2 aO b7 cy q1 ac;obtain⟨bh,bi⟩:=B_ (O_ ap ao) (j:=1) rfl;have b6:w.1.size+1+1<wa.1.size:=by have:=ao.size;omega
 go_wp2_with (at_builtin;refine A8l rfl _ _ 27 rfl 35 i2 (.agg #[.bool false,.slice none 0 0,.slice none 0 0]) 3 56 underlying27 b4 ce cf cg rfl dE gD ⟨bS,0,none⟩ 1 [.bool r.1.1,.slice bq co bK,.slice br cp bL] gD rfl (A0a bu) (Dat.one aD) dE ?_;intro G Y bj bf aj b3;have cv:=(aj.cell (p:=⟨w.1.size+1+1,1,none⟩) sO).trans bh;have cw:=(aj.frozen (p:=⟨w.1.size+1+1,1,none⟩) sO).trans bi);obtain⟨u,T⟩:∃ u,u=bj.setCell ⟨w.1.size+1+1,1,none⟩ (.slice (some ⟨G,0,none⟩) 1 Y):=⟨_,rfl⟩
 have ai:=A_ (show Bw E bj from Below.next ao aj);have c8:E.1.size<=G:=by have:=ao.size;omega
 have ar:=A_ (by rw[T];exact A0u (O_ ap ai):u.1[w.1.size+1+1]?=some (.cells #[.slice (some ⟨D,0,none⟩) 1 J,.slice (some ⟨G,0,none⟩) 1 Y] 287));have bD:=A_ (by rw[T];exact(Below.heap_setCell _ _ _ _ sO).trans (O_ bv.o ai.o):u.1[w.1.size]?=some (.cells #[.slice none 0 0] 203));have a3:=A_ (by rw[T];exact(Below.heap_setCell _ _ _ _ sI).trans (O_ bz.o ai.o):u.1[w.1.size+1]?=some (.cells #[.slice none 0 0] 203));have bI:=A_ (show Sl u (some ⟨G,0,none⟩) 1 Y [r] (G::aA) by
  rw[T]
  exact(B5e (α:=TRat) bf (Dat.keep aD (λh b=>aj.block h (Dat.lt aD h b)))).keep (λh b=>Below.heap_setCell _ _ _ _ (by
   simp;rcases List.mem_cons.1 b with rfl|b
   ·omega
   have:=aJ h b;omega)))
 have bG:=A_ (show Sl u (some ⟨D,0,none⟩) 1 J [(0:Int)] [D] by rw[T];exact(bF.o.below ai.o).keep (λh b=>Below.heap_setCell _ _ _ _ (by simp at b;subst b;simp;omega)));have aL:=A_ (show Dat.at_ u [.slice (some ⟨D,0,none⟩) 1 J,.slice (some ⟨G,0,none⟩) 1 Y] (⟨[0],[r]⟩:TRow) ([D]++(G::aA))from TRow.shut (x:=⟨[0],[r]⟩) bG bI);have bs:=A_ (by rw[T];exact(Below.next a1.o ai.o).setCell (p:=⟨w.1.size+1+1,1,none⟩) sO _:Bw w u);have b8:w.1.size+1+1<u.1.size:=lt_of_block ar;have b9:w.1.size+1<u.1.size:=by omega
 have ca:w.1.size<u.1.size:=by omega
 rw[<-T];clear T bf aj b3 cv cw bh bi af ag al am aT aU aV aW aX aY cc cd b6;obtain⟨af,ag⟩:=B_ ar (j:=0) rfl;obtain⟨al,am⟩:=B_ ar (j:=1) rfl;obtain⟨bn,bo⟩:=B_ a3 (j:=0) rfl;rw[rounds_succ];go_wp2_with (at_builtin;refine A8l rfl _ _ 201 rfl 287 ci (.agg #[.slice none 0 0,.slice none 0 0]) 2 48 underlying201 cj ck cm cn rfl dE gD ⟨u.1.size,0,none⟩ 1 [.slice (some ⟨D,0,none⟩) 1 J,.slice (some ⟨G,0,none⟩) 1 Y] gD rfl (A0a (heap_alloc_new u _)) (Dat.one aL) dE ?_;intro Z aw bk be ay bc;have ct:=(ay.cell (p:=⟨w.1.size+1,0,none⟩) sO).trans (((Below.box (w:=u) (.cells #[.slice (some ⟨D,0,none⟩) 1 J,.slice (some ⟨G,0,none⟩) 1 Y] 287)).cell (p:=⟨w.1.size+1,0,none⟩) sO).trans bn);have cu:=(ay.frozen (p:=⟨w.1.size+1,0,none⟩) sO).trans (((Below.box (w:=u) (.cells #[.slice (some ⟨D,0,none⟩) 1 J,.slice (some ⟨G,0,none⟩) 1 Y] 287)).frozen (p:=⟨w.1.size+1,0,none⟩) sO).trans bo));obtain⟨S,ad⟩:∃ S,S=bk.setCell ⟨w.1.size+1,0,none⟩ (.slice (some ⟨Z,0,none⟩) 1 aw):=⟨_,rfl⟩
 have an:=A_ (show Bw u bk from Below.next (Below.box _) ay);have c7:u.1.size<Z:=by simp at bc;omega
 have bE:=A_ (by rw[ad];exact(Below.heap_setCell _ _ _ _ sI).trans (O_ bD.o an.o):S.1[w.1.size]?=some (.cells #[.slice none 0 0] 203));have a4:=A_ (by rw[ad];exact A0u (O_ a3 an):S.1[w.1.size+1]?=some (.cells #[.slice (some ⟨Z,0,none⟩) 1 aw] 203));have bH:=A_ (show Sl S (some ⟨Z,0,none⟩) 1 aw [(⟨[0],[r]⟩:TRow)] (Z::([D]++(G::aA))) by
  rw[ad]
  exact(B5e (α:=TRow) be (Dat.keep aL (λh b=>an.block h (Dat.lt aL h b)))).keep (λh b=>Below.heap_setCell _ _ _ _ (by
   simp;rcases List.mem_cons.1 b with rfl|b
   ·omega
   rcases List.mem_append.1 b with b|b;·simp at b;subst b;omega
   rcases List.mem_cons.1 b with rfl|b;·have:=lt_of_block O;omega
   have bX:=aJ h b;have:=lt_of_block O;omega)))
 have bt:=A_ (by rw[ad];exact(Below.next bs.o an.o).setCell (p:=⟨w.1.size+1,0,none⟩) sI _:Bw w S);have c9:w.1.size+1<S.1.size:=lt_of_block a4;have da:w.1.size<S.1.size:=by omega
 rw[<-ad];clear ad be ay bc ct cu af ag al am bn bo b8 b9 ca;obtain⟨dk,dl⟩:=B_ a4 (j:=0) rfl;obtain⟨di,dj⟩:=B_ bE (j:=0) rfl;rw[rounds_succ];go_wp2;refine bodyPost_ret (v:=.tuple #[.agg #[.slice (some ⟨Z,0,none⟩) 1 aw],.bool true]) (by simp[results,results294,go_sem, *]) rfl ?_
 have a2:=A_ (show ∀ h∈Z::([D]++(G::aA)),w.1.size<h from λh b=>by
   rcases List.mem_cons.1 b with rfl|b;·have:=lt_of_block ar;omega
   rcases List.mem_append.1 b with b|b;·simp at b;subst b;omega
   rcases List.mem_cons.1 b with rfl|b;·have:=lt_of_block O;omega
   have bX:=aJ h b;have:=lt_of_block O;omega)
 exact⟨_,_,rfl,TMatrix.mkAgg (x:=B4o (some r)) (bH.keep (λh b=>Below.heap_setCell _ _ _ _ (by have:=a2 h b;simp;omega))),(λh b=>Nat.le_of_lt (a2.o h b)),bt.o.setCell (p:=⟨w.1.size,0,none⟩) sI _⟩
section
def at3 (a b c:Int):Nat->Int
 |0=>a
 |1=>b
 |_=>c
theorem ixs (a b c:Int) (i:Nat) (h:i<3) (w:World):Sem.run prog (Instr.index 111 (.agg #[.int .i64 a,.int .i64 b,.int .i64 c]) (.int .i64 (i:Int))) w=.ok (.int .i64 (at3 a b c i)) w:=by
 obtain rfl|rfl|rfl:i=0\/i=1\/i=2:=by omega
 ·exact ix0 a b c w
 ·exact ix1 a b c w
 exact ix2 a b c w
theorem D6z {n:Nat} {t:TTri} (h:A5v n t) (i:Nat):0<=at3 t.a t.b t.c i/\at3 t.a t.b t.c i<n:=by
 obtain⟨⟨_,_⟩,⟨_,_⟩,⟨_,_⟩⟩:=h;match i with
 |0=>exact⟨by assumption,by assumption⟩
 |1=>exact⟨by assumption,by assumption⟩
 |_+2=>exact⟨by assumption,by assumption⟩
def B2c (rows:List Int) (p q:Int) (x:TRat) (M:List (List TRat)):List (List TRat) :=
 bif decide (0<=rows.getD p.toNat (-1))&&decide (0<=rows.getD q.toNat (-1))then
  M.set (rows.getD p.toNat (-1)).toNat ((M.getD (rows.getD p.toNat (-1)).toNat []).set (rows.getD q.toNat (-1)).toNat (A0k ((M.getD (rows.getD p.toNat (-1)).toNat []).getD (rows.getD q.toNat (-1)).toNat A0h) x))
 else M
def A6j (rows:List Int) (t:TTri) (L:List (List TRat)) (i:Nat) (M:List (List TRat)):Nat->List (List TRat)
 |0=>M
 |j+1=>B2c rows (at3 t.a t.b t.c i) (at3 t.a t.b t.c j) ((L.getD i []).getD j A0h) (A6j rows t L i M j)
def A7x (rows:List Int) (t:TTri) (L:List (List TRat)) (M:List (List TRat)):Nat->List (List TRat)
 |0=>M
 |i+1=>A6j rows t L i (A7x rows t L M i) 3
def A6h (m:TMesh) (rows:List Int) (n:Nat) (loc:Nat->List (List TRat)):Nat->List (List TRat)
 |0=>List.replicate n (List.replicate n (U_ 0))
 |k+1=>A7x rows (m.triangles.getD k ⟨0,0,0,0,0⟩) (loc k) (A6h m rows n loc k) 3
def C0y (m:TMesh) (loc:Nat->List (List TRat)):List (List TRat):=A6h m (B1i m) (A3f m false).length loc m.triangles.length
theorem B4c {b:List Int} {p q:Int} {x:TRat} {M:List (List TRat)} (h:b.getD p.toNat (-1)<0\/b.getD q.toNat (-1)<0):B2c b p q x M=M:=by
 unfold B2c;have e:(decide (0<=b.getD p.toNat (-1))&&decide (0<=b.getD q.toNat (-1)))=false:=by
  rcases h with h|h;·rw[decide_eq_false (by omega)];rfl
  rw[decide_eq_false (p:=0<=b.getD q.toNat (-1)) (by omega),Bool.and_false]
 rw[e];rfl
theorem C3d {rows:List Int} {t:TTri} {L:List (List TRat)} {i:Nat} {M:List (List TRat)} (h:rows.getD (at3 t.a t.b t.c i).toNat (-1)<0):∀ j,A6j rows t L i M j=M
 |0=>rfl
 |j+1=>by rw[A6j,C3d h j,B4c (.inl h)]
theorem C2y {rows:List Int} {t:TTri} {L:List (List TRat)} {M:List (List TRat)} (h:∀ i,rows.getD (at3 t.a t.b t.c i).toNat (-1)<0):∀ i,A7x rows t L M i=M
 |0=>rfl
 |i+1=>by rw[A7x,C2y h i,C3d (h i)]
theorem C1e {m:TMesh}:∀ x∈B1i m,-1<=x/\x<(A3f m false).length:=λx h=>C0v _ _ _ x h
theorem C0l (m:TMesh):(B1i m).length=m.1.length:=B8c _ _ _
theorem E3v {w:World} {A:Option Addr} {n c:Nat} {M:List (List TRat)} {o:Option TRat} {b:List Nat} (h:Sl w A n c M b) (u:M=B7m o):n=B6w o:=by
 have:=h.1;cases o<;>simp_all [B7m,B6w]
theorem D4j (A:Option Addr) (n c:Nat) (M:List (List TRat)) (b:List Nat) (o:Option TRat) (w:World) (u:Sl w A n c M b) (h:M=B7m o) (ok:Ok1 o):Calls prog 294 #[.slice A n c] w (D1u w o):=by
 obtain rfl:=E3v u h;subst h;cases o with
 |none=>exact D2m A c w
 |some r=>exact D3h A c r b w u ok.1 ok.2
theorem Sl.intAt {w:World} {g n c:Nat} {xs:List Int} {D:List Nat} (h:Sl w (some ⟨g,0,none⟩) n c xs D) {k:Nat} {x:Int} (b:xs[k]?=some x):w.cell? ⟨g,k,none⟩=some (.int .i64 x)/\g<w.1.size:=by
 have H:k<n:=by rw[<-h.1];exact(List.getElem?_eq_some_iff.1 b).1
 obtain⟨I,J,y,e,G,u,_,E⟩:=Sl.getInt h H;rw[b]at u;injection e with e;injection e with e1 e2 _;subst e1;subst e2;rw[Option.some.inj u];exact⟨by simpa using E,G⟩
def Tel (c:Bool) (P:Prop):Prop:=(c=true->P)/\(P->c=true)
structure Kp (bad:List Nat) (w w':World):Prop where
 sz:w.1.size<=w'.1.size
 kp:∀ b,b<w.1.size->b∉bad->w'.1[b]?=w.1[b]?
theorem Kp.refl (bad:List Nat) (w:World):Kp bad w w:=⟨Nat.le_refl _,λ_ _ _=>rfl⟩
theorem Kp.below {bad:List Nat} {w w' w2:World} (h:Kp bad w w') (hb:Bw w' w2):Kp bad w w2 :=
 ⟨Nat.le_trans h.sz hb.size,λb hl hn=>(hb.block b (Nat.lt_of_lt_of_le hl h.sz)).trans (h.kp b hl hn)⟩
theorem Kp.set {bad:List Nat} {w w':World} (h:Kp bad w w') {g:Nat} (hg:g∈bad) (o1 o2 o3:Nat) (v1 v2 v3:Value):Kp bad w (((w'.setCell ⟨g,o1,none⟩ v1).setCell ⟨g,o2,none⟩ v2).setCell ⟨g,o3,none⟩ v3) :=
 ⟨by simpa[World.setCell]using h.sz,λb hl hn=>by
  have hne:b≠g:=λe=>hn (e ▸ hg)
  exact(Below.heap_setCell _ _ _ b (by simpa using hne)).trans ((Below.heap_setCell _ _ _ b (by simpa using hne)).trans ((Below.heap_setCell _ _ _ b (by simpa using hne)).trans (h.kp b hl hn)))⟩
theorem Kp.sl {α:Type} [Dat α] {bad:List Nat} {w w':World} {A:Option Addr} {n c:Nat} {xs:List α} {bs:List Nat} (h:Kp bad w w') (hs:Sl w A n c xs bs) (hd:∀ b∈bs,b∉bad):Sl w' A n c xs bs:=hs.keep λb hb=>h.kp b (hs.lt b hb) (hd b hb)
theorem Kp.cell {bad:List Nat} {w w':World} {b:Nat} {o:Obj} (h:Kp bad w w') (hc:w.1[b]?=some o) (hd:b∉bad):w'.1[b]?=some o:=(h.kp b (E_ hc) hd).trans hc
theorem D3d {b:List Int} {p q:Int} {y z:Nat} {x a:TRat} {r:List TRat} {M:List (List TRat)} (u:b[p.toNat]?=some (y:Int)) (D:b[q.toNat]?=some (z:Int)) (E:M[y]?=some r) (h:r[z]?=some a):B2c b p q x M=M.set y (r.set z (A0k a x)):=by
 unfold B2c;rw[A0e u,A0e D];simp only[Int.toNat_natCast,A0e E,A0e h];rw[decide_eq_true (by omega),decide_eq_true (p:=(0:Int)<=z) (by omega)];rfl
attribute [local go_sem] ixs D2h
set_option maxRecDepth 20000 in
theorem C6b (f:Nat) (dG:A4f f) (bY:Value) (v:Value) (m:TMesh) (b:List Nat) (D:Nat->List (List TRat)) (o:Option TRat) (w:World) (bm:Agg w v m b) (aI:m.1.length<=40) (a6:m.triangles.length<=48) (b9:B8e m) (ae:∀ t∈m.triangles,A5v m.1.length t)
  (cd:∀ (k:Nat) (W:World),k<m.triangles.length->Bw w W->Calls prog f #[.int .i64 k,bY] W (D5i W (D k)))
  (au:∀ k,k<m.triangles.length->(D k).length=3/\∀ r∈D k,r.length=3)
  (a8:C0y m D=B7m o) (ok:Ok1 o) :
  Calls prog 256 #[v,.func (.func f) #[] #[bY]] w (D9k w o):=by
 unfold A4f at dG;have dk:=A_ bm;have cV:=A_ a6;have cU:=A_ aI;have c4:=A_ b9;have c6:=A_ ae;have da:=A_ cd;have c9:=A_ au;have ef:=A_ a8;have dp:=A_ ok;obtain⟨bv,aa,bT,fi,bz,n1,bU,fj,rfl,rfl,aQ,aA⟩:=TMesh.agg bm;have dg:=A_ aA;have c7:=A_ aQ.1;have c8:=A_ aA.1;have eN:aa<=40:=by rw[<-aQ.1];exact aI
 have eP:n1<=48:=by rw[<-aA.1];exact a6
 have eO:(aa:Int)<=40:=by omega
 have eQ:(n1:Int)<=48:=by omega
 obtain⟨n,aw⟩:∃ n,(A3f m false).length=n:=⟨_,rfl⟩
 have dQ:n<=40:=by rw[<-aw];exact Nat.le_trans (B3t m false) aI
 have eR:(n:Int)<=40:=by omega
 have dc:=A_ aw;obtain⟨h,az⟩:∃ h,B1i m=h:=⟨_,rfl⟩
 have df:=A_ az;have bH:=A_ (by rw[<-az,C0l,aQ.1]:h.length=aa);have bI:=A_ (by rw[<-az,<-aw];exact C1e:∀ x∈h,-1<=x/\x<n);have c0:=A_ (by rw[<-a8,C0y,az,aw,aA.1]:A6h m h n D n1=B7m o);clear bm aI a6 b9 ae cd au a8 ok aQ aA aw az;go_enter func256,ntmps256;go_wp2_with fail;have C:=B5v _ m _ ((w.alloc (.cells #[.slice bv aa bT,.slice bz n1 bU] 26)).alloc (.cells #[.slice none 0 0] 203)) (dk.below Below.go) cU cV c4;rw[df.o,dc.o]at C;refine C.mono ?_;clear C;rintro _ E ⟨gr,nr,d4,rfl,bk,dR,aj⟩;obtain rfl:aa=nr:=by rw[<-bk.1];exact bH.symm
 obtain⟨dD,dI⟩:=F_ aj;have eZ:w.1.size<E.1.size:=ltg aj;have e0:w.1.size+1<E.1.size:=ltg aj;have bJ:=A_ bk;have c1:=A_ (show Bw w E from Below.go);have bL:=A_ (show E.1[w.1.size]?=some (.cells #[.slice bv aa bT,.slice bz n1 bU] 26)from O_ (A1y [_,_] w 0 _ rfl) (aj.mono (Nat.le_refl _)));have dl:=A_ (show E.1[w.1.size+1]?=some (.cells #[.slice none 0 0] 203)from O_ (A1y [_,_] w 1 _ rfl) (aj.mono (Nat.le_refl _)));clear bk dR aj dD dI;go_wp2_with fail;refine(D6v n _ dQ).mono ?_;rintro _ d6 ⟨oM,cap,gs,rfl,bl⟩;have bK:=A_ bl;have aN:=bl.bl;obtain⟨dZ,_⟩:=B_ (O_ bL aN) (j:=0) rfl;obtain⟨d0,_⟩:=B_ (O_ bL aN) (j:=1) rfl;have dX:w.1.size<d6.1.size:=by have:=aN.size;omega
 clear bl aN;go_wp2_with fail;go_loopg [28] n1 (λg s wr=>∃ k:Nat,k+g=n1/\s=.int .i64 k/\Hid (MSt E wr oM n cap n gs (A6h m h n D k)));case atStart=>exact⟨0,by omega,rfl,bK.o⟩
 case round =>
  clear bK dZ d0 dX;obtain⟨k,bd,rfl,H⟩:=hrel;rename World=>wr;have aV:=A_ (Below.next c1 H.bl);have eX:=H.bl.size;rcases Nat.lt_or_ge k n1 with am|am
  ·have eL:(k:Int)<n1:=by omega
   have eM:(0:Int)<=k:=by omega
   obtain⟨g,rfl⟩:∃ g,gk=g+1:=⟨gk - 1,by omega⟩
   have cc:=A_ (by omega:k+1+g=n1);have eK:k+1<=n1:=am;obtain⟨ej,fh,t,rfl,ey,bn,dx,a4,a5,dy,dz,b5⟩:=TTri.elemA (dg.below aV) am;have cZ:=A_ b5;have I:=A_ (by rw[<-c7.o];exact c6 t (List.mem_of_getElem? bn):A5v aa t);have aW:=A_ (by rw[A6h,A0e bn]:A6h m h n D (k+1)=A7x h t (D k) (A6h m h n D k) 3);have bD:=A_ (by rw[c8.o];exact am:k<m.triangles.length);have di:=A_ (bJ.below H.bl);have ay:=A_ (show ∀ p:Int,0<=p->p<aa->∃ x,h[p.toNat]?=some x by intro p et T;exact⟨_,List.getElem?_eq_getElem (by rw[bH.o];omega)⟩);obtain⟨bp,cp⟩:=ay t.a I.1.1 I.1.2;obtain⟨bq,cq⟩:=ay t.b I.2.1.1 I.2.1.2;obtain⟨br,cs⟩:=ay t.c I.2.2.1 I.2.2.2;obtain⟨e2,e3⟩:=I.1;obtain⟨e4,e5⟩:=I.2.1;obtain⟨e6,e7⟩:=I.2.2;have aX:=A_ cp;have aY:=A_ cq;have aZ:=A_ cs;have ee:=A_ bd;clear bd am bn b5 cp cq cs;go_wp2_with fail;refine(A2g _ t _ (wr.alloc (.cells #[.int .i64 t.a,.int .i64 t.b,.int .i64 t.c,.int .i64 t.4,.int .i64 t.5] 93)) (cZ.below (Below.box _))).mono ?_;rintro _ w3 ⟨rfl,b8⟩;have bB:=A_ (show Bw wr w3 from Below.next (Below.box _) b8);clear b8;go_upto_region 7 with fail;obtain⟨Z,aK⟩:∃ Z,Z=w3.alloc (.cells #[.int .i64 t.a,.int .i64 t.b,.int .i64 t.c] 111):=⟨_,rfl⟩
   obtain⟨ai,aM⟩:∃ ai,w3.1.size=ai:=⟨_,rfl⟩
   have ao:=A_ (by rw[aK];exact Below.next bB (Below.box _):Bw wr Z);have ap:=A_ (by rw[aK,<-aM];exact heap_alloc_new w3 _:Z.1[ai]?=some (.cells #[.int .i64 t.a,.int .i64 t.b,.int .i64 t.c] 111));have ex:wr.1.size<=ai:=by rw[<-aM];exact bB.size
   rw[<-aK,aM];clear aK aM;have aq:=A_ (di.below ao);obtain⟨bt,_⟩:=B_ ap (j:=0) rfl;obtain⟨bu,_⟩:=B_ ap (j:=1) rfl;obtain⟨cK,_⟩:=B_ ap (j:=2) rfl;simp at bt bu cK;obtain⟨cI,_⟩:=Sl.intAt aq aX;obtain⟨cJ,_⟩:=Sl.intAt aq aY;obtain⟨d8,_⟩:=Sl.intAt aq aZ;go_cut [56] (λsb wx=>(∃ c:Bool,sb=.bool c/\Tel c (bp<0/\bq<0/\br<0))/\wx=Z);case first =>
    rcases Int.lt_or_le bp 0 with T|T
    ·rcases Int.lt_or_le bq 0 with X|X
     ·rcases Int.lt_or_le br 0 with aH|aH
      ·go_wp2_with fail;go_meet;exact⟨⟨true,rfl,λ_=>⟨T,X,aH⟩,λ_=>rfl⟩,rfl⟩
      have ew:¬ (br<0):=by omega
      go_wp2_with fail;go_meet;exact⟨⟨false,rfl,(λK=>by cases K),λK=>by have:=K.2.2;omega⟩,rfl⟩
     have ev:¬ (bq<0):=by omega
     go_wp2_with fail;go_meet;exact⟨⟨false,rfl,(λK=>by cases K),λK=>by have:=K.2.1;omega⟩,rfl⟩
    have eu:¬ (bp<0):=by omega
    go_wp2_with fail;go_meet;exact⟨⟨false,rfl,(λK=>by cases K),λK=>by have:=K.1;omega⟩,rfl⟩
   case rest =>
   obtain⟨⟨dw,rfl,cu⟩,cv⟩:=hcut;obtain rfl:Z=wc:=cv.symm;have bP:=A_ cu;clear cu cv cI cJ d8 bt bu cK dx a4 a5 dy dz;cases dw
   ·go_wp2_with fail
    refine(da k Z bD (Below.next aV ao)).mono ?_;obtain⟨L,aJ⟩:∃ L,D k=L:=⟨_,rfl⟩
    rw[aJ];have bE:=A_ aJ;obtain⟨au,co⟩:L.length=3/\∀ r∈L,r.length=3:=by rw[<-aJ];exact c9 k bD
    have dd:=A_ co;rintro _ aS ⟨ea,d1,ek,dB,rfl,aR,cf,ar⟩;obtain rfl:3=d1:=by rw[<-aR.1];exact au.symm
    obtain⟨eg,fe,_,rfl,_⟩:=aR.2.2.2.2 dE;have dh:=A_ aR;have ed:=A_ ar;have db:=A_ cf;have ad:=A_ (show MSt E aS oM n cap n gs (A7x h t L (A6h m h n D k) 0)from(H.below ao).below ar);have ds:=A_ (aq.below ar);have ah:=A_ (O_ ap ar);have bF:=A_ H.ltAll;have eW:=ao.size;have cP:=A_ (show ∀ b∈d4,b∉oM::gs.map (·.1)from λb O af=>by have T:=bJ.lt b O;have X:=H.lo b af;omega);have cO:=A_ (show ∀ b∈dB,b∉oM::gs.map (·.1)from λb O af=>by have T:=db b O;have X:=bF b af;omega);have aU:=A_ (show ai∉oM::gs.map (·.1)from λaf=>by have X:=bF ai af;omega);have bM:=A_ (by rw[aW.o,bE.o]:A6h m h n D (k+1)=A7x h t L (A6h m h n D k) 3);have cN:=A_ (show(A6h m h n D k).length=n from H.ml);obtain⟨Y,bZ⟩:∃ Y,A6h m h n D k=Y:=⟨_,rfl⟩
    rw[bZ]at ad bM cN;clear aR cf ar au co aJ H bZ aW bE aq ap bP aX aY aZ;obtain⟨aC,_⟩:=B_ ah (j:=0) rfl;obtain⟨aD,_⟩:=B_ ah (j:=1) rfl;obtain⟨aE,_⟩:=B_ ah (j:=2) rfl;simp at aC aD aE;go_wp2_with fail;go_loopg [64] 3 (λg2 s wr2=>∃ i:Nat,i+g2=3/\s=.int .i64 i/\Hid (MSt E wr2 oM n cap n gs (A7x h t L Y i))/\Hid (Kp (oM::gs.map (·.1)) aS wr2));case atStart=>exact⟨0,by omega,rfl,ad.o,Kp.refl _ _⟩
    case round =>
     clear ad aC aD aE;obtain⟨i,ca,rfl,aF,ag⟩:=hrel;rename World=>aT;rcases Nat.lt_or_ge i 3 with ae|ae
     ·have dN:(i:Int)<3:=by omega
      have eH:(0:Int)<=i:=by omega
      have dM:i<3:=ae;obtain⟨g2,rfl⟩:∃ g2,gk=g2+1:=⟨gk - 1,by omega⟩
      have dL:=A_ (by omega:i+1+g2=3);obtain⟨aC,_⟩:=B_ (ag.cell ah aU) (j:=0) rfl;obtain⟨aD,_⟩:=B_ (ag.cell ah aU) (j:=1) rfl;obtain⟨aE,_⟩:=B_ (ag.cell ah aU) (j:=2) rfl;simp at aC aD aE;obtain⟨ch,ci⟩:=D6z I i;obtain⟨p,cg⟩:∃ p,at3 t.a t.b t.c i=p:=⟨_,rfl⟩
      rw[cg]at ch ci;have dq:=A_ cg;obtain⟨an,bh⟩:=ay p ch ci;have a1:=A_ bh;have dS:=bI an (List.mem_of_getElem? bh);obtain⟨eU,eV⟩:=dS;have bQ:=A_ (show A7x h t L Y (i+1)=A6j h t L i (A7x h t L Y i) 3 from rfl);have ad:=A_ (show MSt E aT oM n cap n gs (A6j h t L i (A7x h t L Y i) 0)from aF);obtain⟨S,b0⟩:∃ S,A7x h t L Y i=S:=⟨_,rfl⟩
      rw[b0]at bQ ad;clear ca ae bh aF b0;go_wp2_with fail;go_loopg [69] 3 (λg3 s wr3=>∃ j:Nat,j+g3=3/\s=.int .i64 j/\Hid (MSt E wr3 oM n cap n gs (A6j h t L i S j))/\Hid (Kp (oM::gs.map (·.1)) aS wr3));case atStart=>exact⟨0,by omega,rfl,ad.o,ag.o⟩
      case round =>
       clear ad aC aD aE ag;obtain⟨j,cb,rfl,J,ab⟩:=hrel;rename World=>bs;rcases Nat.lt_or_ge j 3 with aP|aP
       ·have eI:(j:Int)<3:=by omega
        have eJ:(0:Int)<=j:=by omega
        have dO:j<3:=aP;obtain⟨g3,rfl⟩:∃ g3,gk=g3+1:=⟨gk - 1,by omega⟩
        have bc:=A_ (by omega:j+1+g3=3);obtain⟨ck,cm⟩:=D6z I j;obtain⟨q,cj⟩:∃ q,at3 t.a t.b t.c j=q:=⟨_,rfl⟩
        rw[cj]at ck cm;have dr:=A_ cj;obtain⟨aB,bi⟩:=ay q ck cm;have a2:=A_ bi;obtain⟨dT,dU⟩:=bI aB (List.mem_of_getElem? bi);have aG:=A_ (by rw[A6j,dq.o,dr.o]:A6j h t L i S (j+1)=B2c h p q ((L.getD i []).getD j A0h) (A6j h t L i S j));have bN:=A_ (ab.sl ds cP);obtain⟨cI,eG⟩:=Sl.intAt bN a1;obtain⟨cJ,_⟩:=Sl.intAt bN a2;clear cb aP bi;by_cases be:an<0
        ·obtain rfl:an = -1:=by omega
         have ac:=A_ (show MSt E bs oM n cap n gs (A6j h t L i S (j+1)) by rw[aG.o,B4c (.inl (by rw[A0e a1.o];decide))];exact J);clear J be;go_wp2_with fail;go_roundg g3;case measure=>omega
         case rel=>exact⟨j+1,bc,gN,ac,ab⟩
        by_cases cn:aB<0
        ·obtain rfl:aB = -1:=by omega
         have ac:=A_ (show MSt E bs oM n cap n gs (A6j h t L i S (j+1)) by rw[aG.o,B4c (.inr (by rw[A0e a2.o];decide))];exact J);have eT:0≤an:=by omega
         clear J be cn;go_wp2_with fail;go_roundg g3;case measure=>omega
         case rel=>exact⟨j+1,bc,gN,ac,ab⟩
        obtain⟨y,rfl⟩:∃ y:Nat,an=y:=⟨an.toNat,by omega⟩
        obtain⟨z,rfl⟩:∃ z:Nat,aB=z:=⟨aB.toNat,by omega⟩
        have dW:y<n:=by omega
        have cx:z<n:=by omega
        have dt:=A_ (ab.sl dh cO);obtain⟨eh,ff,cB,bA,bo,bV,er,a7,ez,ax,eD,bj,_⟩:=Sl.elemS dt dM;injection a7 with a7;injection a7 with hA7 hA8 _;subst hA7;subst hA8;obtain rfl:3=bo:=by rw[<-bj.1];exact(dd cB (List.mem_of_getElem? ax)).symm
        obtain⟨ei,fg,x,eb,fc,el,en,ec,fd,em,eo,rfl,eA,cw,u0,u1,u2,b6⟩:=TRat.elemA bj dO;obtain⟨u,dv,d3,ba,bf,eB,eS,b3,_⟩:=J.row dW;obtain⟨a,cQ,m1,a4,cR,m2,a5,es,b4,cE,v1,v2,cF,cG,cH,b7,_,al⟩:=b3.elem cx;have dn:=A_ (show A6j h t L i S (j+1)=(A6j h t L i S j).set y (d3.set z (A0k a x)) by rw[aG.o,A0e ax,A0e cw];exact D3d a1 a2 bf b4);have cX:=A_ b6;have cY:=A_ b7;have c5:=A_ ba;have de:=A_ bf;have dJ:=A_ (show u∈oM::gs.map (·.1)from List.mem_cons_of_mem _ (List.mem_map.2 ⟨(u,dv),List.mem_of_getElem? ba,rfl⟩));clear ax cw b4 ba bf bj b3 b6 b7 be cn dT dU aG;go_wp2_with fail;refine X_ sI ?_;dsimp only[List.dropLast,List.getLast,List.length];iterate 31 refine C_ _ ?_
        refine D_ (MP.agg (A0k a x)) ?_ ?_;·intro d9 cL d7 G ak;obtain ⟨eC,eE⟩:=F_ G;simp at ak;refine G_ ?_;exact H_ (A0x _ _ a x _ _ d7 (cY.below G) (cX.below G))
        refine C_ _ ?_;intro d9 cL wa G ak (dF:Hid _);simp at ak;have d2:=ak.2.2.2.2.2.2.2.2.2.2.2.2.2.2.2.2.2.2.2.2.2.2.2.2.2.2.2.2.2.2.2.1;have cA:=ak.2.2.2.2.2.2.2.2.2.2.2.2.2.2.2.2.2.2.2.2.2.2.2.2.2.2.2.2.2.2.2.2;have ep:=cA.1.1;obtain⟨⟨aL,dH⟩,bg⟩:=d2;obtain⟨bR,cy,bW,fk,bS,cz,bX,fl,dA,dY,_,_⟩:=TRat.agg aL;rw[dA]at aL;have dV:=G.size
        obtain⟨e8,k1,k2,e9,fa,fb⟩:wa.cell? ⟨u,z*3,none⟩=some (.bool a.1.1)/\wa.cell? ⟨u,z*3+1,none⟩=some (.slice cQ m1 a4)/\wa.cell? ⟨u,z*3+2,none⟩=some (.slice cR m2 a5)/\wa.frozen? ⟨u,z*3,none⟩=false/\wa.frozen? ⟨u,z*3+1,none⟩=false/\wa.frozen? ⟨u,z*3+2,none⟩=false :=
         ⟨(G.cell (p:=⟨u,_,none⟩) al).trans cE,(G.cell (p:=⟨u,_,none⟩) al).trans v1,(G.cell (p:=⟨u,_,none⟩) al).trans v2,(G.frozen (p:=⟨u,_,none⟩) al).trans cF,(G.frozen (p:=⟨u,_,none⟩) al).trans cG,(G.frozen (p:=⟨u,_,none⟩) al).trans cH⟩
        have eF:u<wa.1.size:=by omega
        have ac:=A_ (show MSt E (((wa.setCell ⟨u,z*3,none⟩ (.bool (A0k a x).1.1)).setCell ⟨u,z*3+1,none⟩ (.slice bR cy bW)).setCell ⟨u,z*3+2,none⟩ (.slice bS cz bX)) oM n cap n gs (A6j h t L i S (j+1)) by
         rw[dn.o]
         exact (J.below G).set c5 de (j:=z) cx aL (fun b O af=>by
          have T:=(bg b O).1;have X:=J.ltAll b af;omega) (fun b O=>by
          have T:=(bg b O).1;have X:=J.bl.size;omega))
        have dm:=A_ (show Kp (oM::gs.map (·.1)) aS (((wa.setCell ⟨u,z*3,none⟩ (.bool (A0k a x).1.1)).setCell ⟨u,z*3+1,none⟩ (.slice bR cy bW)).setCell ⟨u,z*3+2,none⟩ (.slice bS cz bX))from(ab.below G).set dJ _ _ _ _ _ _);generalize cL 31=fn at *;clear ak dF cA aL dH bg dY G J ab cE v1 v2 cF cG cH dV u0 u1 u2;go_wp2_with fail;go_roundg g3;case measure=>omega
        case rel=>exact⟨j+1,bc,gN,ac,dm⟩
       obtain rfl:j=3:=by omega
       have a3:=A_ (by rw[bQ.o];exact J:MSt E bs oM n cap n gs (A7x h t L Y (i+1)));clear cb aP J;go_wp2_with fail;go_roundg g2;case measure=>omega
       case rel=>exact⟨i+1,dL,gN,a3,ab⟩
     obtain rfl:i=3:=by omega
     have a3:=A_ (by rw[bM.o];exact aF:MSt E aT oM n cap n gs (A6h m h n D (k+1)));clear ca ae aF ag;go_wp2_with fail;go_roundg g;case measure=>omega
     case rel=>exact⟨k+1,cc,gN,a3⟩
   have bO:=A_ (show A6h m h n D (k+1)=A6h m h n D k by
    rw[aW.o];obtain⟨T,X,aH⟩:=bP.1 rfl;refine C2y (λi=>?_) 3;match i with
    |0=>show h.getD t.a.toNat (-1)<0;rw[A0e aX.o];exact T
    |1=>show h.getD t.b.toNat (-1)<0;rw[A0e aY.o];exact X
    |_+2=>show h.getD t.c.toNat (-1)<0;rw[A0e aZ.o];exact aH)
   have ac:=A_ (by rw[bO.o];exact H.below ao:MSt E Z oM n cap n gs (A6h m h n D (k+1)));clear H bO;go_wp2_with fail;go_roundg g;case measure=>omega
   case rel=>exact⟨k+1,cc,gN,ac⟩
  obtain rfl:k=n1:=by omega
  have dN:¬ ((k:Int)<k):=by omega
  obtain⟨du,ct,_⟩:=H.sl;have dj:=A_ ct;have cM:=A_ (show A6h m h n D k=B7m o from c0);clear bd am ct;go_wp2_with fail;refine(D4j _ n cap _ du o wr dj cM dp).mono ?_;rintro _ aT ⟨fm,d5,rfl,a9,ce,aO⟩;obtain⟨bA,bo,bV,cB,rfl,rfl,ax⟩:=TMatrix.agg a9;have cW:=A_ a9;have bG:=A_ ce;have c2:=A_ (Below.next aV aO);obtain⟨bt,bu⟩:=B_ (O_ (O_ dl H.bl) aO) (j:=0) rfl;have e1:w.1.size+1<aT.1.size:=by have:=aO.size;omega
  clear a9 ax aO ce;go_wp2;have eY:=H.bl.size;refine bodyPost_ret (v:=.agg #[.slice bA bo bV]) (by simp[results,results256,go_sem, *]) rfl ?_;exact⟨_,d5,rfl,(cW.keep (λb O=>Below.heap_setCell _ _ _ _ (by have:=bG b O;simp;omega))).below (Below.box _),(λb O=>by have:=bG.o b O;omega),Below.next (c2.o.setCell (p:=⟨w.1.size+1,0,none⟩) sI _) (Below.box _)⟩
end
def D6n:TTri:=⟨0,0,0,0,0⟩
structure MeshD (m:TMesh) (xs ys:List Int):Prop where
 mesh:MeshI m xs ys
 es:B8e m
 tri:∀ t∈m.triangles,TriOk m t
 grad:∀ t∈m.triangles,GradOk (Z_ m.1 t.a) (Z_ m.1 t.b) (Z_ m.1 t.c)
 massd:∀ t∈m.triangles,∀ r∈E3h m t,r.any A2e=false
 stiffd:∀ t∈m.triangles,∀ r∈B6b m t,r.any A2e=false
def C3x (m:TMesh) (k:Nat):List (List TRat):=E3h m (m.triangles.getD k D6n)
def A9s (p:TProblem) (k:Nat):List (List TRat):=A9r (p.2.getD (p.1.triangles.getD k D6n).4.toNat A0h) (B6b p.1 (p.1.triangles.getD k D6n)) 3
theorem C9v {d:TRat} {M:List (List TRat)} (h:∀ r∈M,r.length=3) (hl:M.length=3):∀ i,i<=3->∀ r∈A9r d M i,r.length=3
 |0,_,r,hr=>h r hr
 |i+1,hi,r,hr=>by
  rw[A9r]at hr
  rcases List.mem_or_eq_of_mem_set hr with hr|rfl
  ·exact C9v h hl i (by omega) r hr
  rw[C9x]
  obtain⟨x,hx⟩:∃ x,M[i]?=some x:=⟨_,List.getElem?_eq_getElem (by omega)⟩
  rw[A0e hx]
  exact h x (List.mem_of_getElem? hx)
theorem C6n (v:Value) (p:TProblem) (b:List Nat) (xs ys:List Int) (o:Option TRat) (w:World) (ad:Agg w v p b) (an:MeshD p.1 xs ys) (al:p.2.length=3) (ak:C0y p.1 (A9s p)=B7m o) (ok:Ok1 o) :
  Calls prog 205 #[v] w (D9k w o):=by
 have aB:=A_ ad;have h:=A_ an;have az:=A_ ak;have aC:=A_ ok;have ax:=A_ al;obtain⟨O,ag,Y,aP,S,n1,Z,aQ,T,n2,aa,aR,W,ah,c3,aS,rfl,rfl,ap,aq,aH,aI⟩:=TProblem.agg ad;have ay:=A_ (TMesh.mkAgg (x:=p.1) ap aq);clear ad an ak ok ap aq aH aI al;go_enter func205,ntmps205;obtain⟨u,G⟩:∃ u,u=((w.alloc (.cells #[.slice O ag Y,.slice S n1 Z,.slice T n2 aa,.slice W ah c3] 29)).alloc (.cells #[.slice none 0 0] 203)):=⟨_,rfl⟩
 have X:=A_ (by rw[G];exact Below.next (Below.box _) (Below.box _):Bw w u);have I:=A_ (by rw[G];exact A1y [_,_] w 0 _ rfl:u.1[w.1.size]?=some (.cells #[.slice O ag Y,.slice S n1 Z,.slice T n2 aa,.slice W ah c3] 29));have aj:=A_ (by rw[G];exact A1y [_,_] w 1 _ rfl:u.1[w.1.size+1]?=some (.cells #[.slice none 0 0] 203));have aA:=A_ G;clear G;go_wp2_with fail;rw[<-aA.o];have aM:=lt_of_block aj;have H:w.1.size<u.1.size:=by omega
 obtain⟨ae,_⟩:=B_ I (j:=0) rfl;obtain⟨k1,_⟩:=B_ I (j:=1) rfl;obtain⟨k2,_⟩:=B_ I (j:=2) rfl;obtain⟨af,_⟩:=B_ I (j:=3) rfl;simp at ae k1 k2 af;refine(C6b 257 B9j (.pointer (some ⟨w.1.size,0,none⟩)) _ p.1 _ (A9s p) o u (ay.below X) h.1.n40 h.1.t48 h.es (λt E=>(h.1.tri t E).1) (λk aD am D=>?_) (λk am=>⟨?_,?_⟩) az aC).mono ?_
 ·obtain⟨t,E⟩:∃ t,p.1.triangles[k]?=some t:=⟨_,List.getElem?_eq_getElem am⟩
  have K:=List.mem_of_getElem? E;have aG:0<=t.4/\t.4<3:=by have:=(h.1.tri t K).2.1;unfold inB at this;simp at this;omega
  rw[A9s,A0e E];exact C1g k w.1.size O ag Y S n1 Z T n2 aa W ah c3 p _ t aD ((aB.below X).below D) ((D.cell (p:=⟨w.1.size,0,none⟩) H).trans ae) ((D.cell (p:=⟨w.1.size,1,none⟩) H).trans k1) ((D.cell (p:=⟨w.1.size,2,none⟩) H).trans k2) ((D.cell (p:=⟨w.1.size,3,none⟩) H).trans af) (Nat.lt_of_lt_of_le H D.size) E (h.tri t K) (h.grad t K) h.1.ok h.1.n40 h.1.t48 (h.stiffd t K) ax aG
 ·rw[A9s,B6k];exact B1z _ _ _ 3
 ·exact C9v (B2a _ _ _ 3) (B1z _ _ _ 3) 3 (Nat.le_refl _)
 rintro _ aL ⟨aT,aK,rfl,ab,ao,J⟩;obtain⟨ar,aJ,aE,aO,rfl,rfl,aF⟩:=TMatrix.agg ab;have au:=A_ ab;have ai:=A_ ao;have aw:=A_ (Below.next X J);obtain⟨aU,aV⟩:=B_ (O_ aj J) (j:=0) rfl;have aN:w.1.size+1<aL.1.size:=by have:=J.size;omega
 clear ab aF J ao ae k1 k2 af;go_wp2;refine bodyPost_ret (v:=.agg #[.slice ar aJ aE]) (by simp[results,results205,go_sem, *]) rfl ?_;exact⟨_,aK,rfl,au.keep (λb ac=>Below.heap_setCell _ _ _ _ (by have:=ai b ac;simp;omega)),(λb ac=>by have:=ai.o b ac;omega),aw.o.setCell (p:=⟨w.1.size+1,0,none⟩) sI _⟩
section
def A7c (rows:List Int) (p:Int) (x:TRat) (V:List TRat):List TRat :=
 bif decide (0<=rows.getD p.toNat (-1))then V.set (rows.getD p.toNat (-1)).toNat (A0k (V.getD (rows.getD p.toNat (-1)).toNat A0h) x)else V
def A7n (rows:List Int) (t:TTri) (x:TRat) (V:List TRat):Nat->List TRat
 |0=>V
 |i+1=>A7c rows (at3 t.a t.b t.c i) x (A7n rows t x V i)
def C6e (p:TProblem) (t:TTri):TRat:=A0d (p.3.getD t.4.toNat A0h) (A0d (mkR 1 3) (A6c (Z_ p.1.1 t.a) (Z_ p.1.1 t.b) (Z_ p.1.1 t.c)))
def A4v (p:TProblem) (rows:List Int) (n:Nat):Nat->List TRat
 |0=>List.replicate n (U_ 0)
 |k+1=>A7n rows (p.1.triangles.getD k D6n) (C6e p (p.1.triangles.getD k D6n)) (A4v p rows n k) 3
def A6v (p:TProblem):List TRat:=A4v p (B1i p.1) (A3f p.1 false).length p.1.triangles.length
theorem C9b {b:List Int} {p:Int} {x:TRat} {V:List TRat} (h:b.getD p.toNat (-1)<0):A7c b p x V=V:=by
 unfold A7c;rw[decide_eq_false (by omega)];rfl
theorem C8k {b:List Int} {p:Int} {y:Nat} {x a:TRat} {V:List TRat} (u:b[p.toNat]?=some (y:Int)) (h:V[y]?=some a):A7c b p x V=V.set y (A0k a x):=by
 unfold A7c;rw[A0e u];simp only[Int.toNat_natCast,A0e h];rw[decide_eq_true (by omega)];rfl
theorem D0z {P:TRat->Prop} (E:∀ a b,P (A0k a b)) {D:List Int} {p:Int} {x:TRat} {V:List TRat} (h:∀ v∈V,P v):∀ v∈A7c D p x V,P v:=by
 unfold A7c;cases decide (0<=D.getD p.toNat (-1));·exact h
 intro v u;rcases List.mem_or_eq_of_mem_set u with u|rfl
 ·exact h v u
 exact E _ _
theorem C6r {P:TRat->Prop} (hr:∀ a b,P (A0k a b)) {rows:List Int} {t:TTri} {x:TRat} {V:List TRat} (h:∀ v∈V,P v):∀ i,∀ v∈A7n rows t x V i,P v
 |0=>h
 |i+1=>D0z hr (C6r hr h i)
theorem C7x {P:TRat->Prop} (hr:∀ a b,P (A0k a b)) (h0:P (U_ 0)) (p:TProblem) (rows:List Int) (n:Nat):∀ k,∀ v∈A4v p rows n k,P v
 |0,v,hv=>by rw[List.eq_of_mem_replicate (show v∈List.replicate n (U_ 0)from hv)];exact h0
 |k+1,v,hv=>C6r hr (C7x hr h0 p rows n k) 3 v hv
attribute [local go_sem] ixs
set_option maxRecDepth 20000 in
theorem E1j (v:Value) (p:TProblem) (b:List Nat) (xs ys:List Int) (w:World) (bq:Agg w v p b) (T:MeshD p.1 xs ys) (cq:p.3.length=3) (ch:(A6v p).any A2e=false) :
  Calls prog 206 #[v] w (A0w w (A6v p)):=by
 have dd:=A_ bq;have Z:=A_ T;have c8:=A_ cq;have c1:=A_ ch;obtain⟨bA,ac,bU,eD,bB,n1,bV,eE,bD,n2,bW,eF,bE,cu,c3,eG,rfl,rfl,aC,ao,dO,cn⟩:=TProblem.agg bq;have bO:=A_ (TMesh.mkAgg (x:=p.1) aC ao);have c7:=A_ ao;have cY:=A_ aC.1;have d0:=A_ ao.1;have el:ac<=40:=by rw[<-aC.1];exact T.1.n40
 have en:n1<=48:=by rw[<-ao.1];exact T.1.t48
 have em:(ac:Int)<=40:=by omega
 have eo:(n1:Int)<=48:=by omega
 obtain⟨n,az⟩:∃ n,(A3f p.1 false).length=n:=⟨_,rfl⟩
 have dH:n<=40:=by rw[<-az];exact Nat.le_trans (B3t p.1 false) T.1.n40
 have ep:(n:Int)<=40:=by omega
 have cZ:=A_ az;obtain⟨E,aB⟩:∃ E,B1i p.1=E:=⟨_,rfl⟩
 have c6:=A_ aB;have bR:=A_ (by rw[<-aB,C0l,aC.1]:E.length=ac);have c4:=A_ (by rw[<-aB,<-az];exact C1e:∀ x∈E,-1<=x/\x<n);have bN:=A_ (by rw[A6v,aB,az,ao.1]:A6v p=A4v p E n n1);clear bq T cq ch aC ao dO cn az aB;go_enter func206,ntmps206;go_wp2_with fail;have C:=B5v _ p.1 _ (w.alloc (.cells #[.slice bA ac bU,.slice bB n1 bV,.slice bD n2 bW,.slice bE cu c3] 29)) (bO.below Below.go) Z.1.n40 Z.1.t48 Z.es;rw[c6.o,cZ.o]at C;refine C.mono ?_;clear C;rintro _ I ⟨gr,nr,cB,rfl,ab,dI,b6⟩;obtain rfl:ac=nr:=by rw[<-ab.1];exact bR.symm
 have c9:=A_ ab;have cV:=A_ (show Bw w I from Below.go);have ag:=A_ (show I.1[w.1.size]?=some (.cells #[.slice bA ac bU,.slice bB n1 bV,.slice bD n2 bW,.slice bE cu c3] 29)from O_ (A1y [_] w 0 _ rfl) (b6.mono (Nat.le_refl _)));have ev:=lt_of_block ag;have c5:=A_ (show ∀ b∈cB,b<I.1.size from ab.lt);clear ab dI b6;go_wp2_with fail;refine(A0l 0 I cD).mono ?_;rintro _ wa ⟨eK,dW,rfl,ai,cf,b9⟩;obtain⟨aH,cw,bY,d6,aI,cx,bZ,g2,rfl,dY,_,_⟩:=TRat.agg ai;have aE:=A_ (A3x (ai.below (Below.box (.cells #[.bool (U_ 0).1.1,.slice aH cw bY,.slice aI cx bZ] 35))));have bP:=A_ (show ∀ b∈dW,I.1.size<=b/\b<wa.1.size from λb H=>⟨(cf.2 b H).1,ai.lt b H⟩);have bK:=A_ b9;clear ai cf dY b9;go_wp2_with fail;refine(C1n wa.1.size n [.bool (U_ 0).1.1,.slice aH cw bY,.slice aI cx bZ] _ (heap_alloc_new wa _) rfl (Dat.one aE) dH).mono ?_;rintro _ wb ⟨rfl,bn,bj⟩;rw[World.size_alloc]at bn;have es:=bK.size
 have bQ:=A_ (show RR (λb=>b<I.1.size\/b=wa.1.size+1) wb (wa.1.size+1) n n (A4v p E n 0)from
  ⟨_,_,B0o bn,C0s (Dat.keep aE.o (λb H=>bj.block b (Dat.lt aE.o b H))),by simp[A4v],λb H bi=>by have d8:=bP b (B0m H);rcases bi with dz|dz<;>omega,.inr rfl⟩)
 have aJ:=A_ (Below.next (Below.next bK (Below.box _)) bj);obtain⟨h,ca⟩:∃ h,wa.1.size+1=h:=⟨_,rfl⟩
 have bm:I.1.size<=h:=by omega
 simp only[World.size_alloc,ca]at *;clear bn bj aE bP ca;obtain⟨bs,_⟩:=B_ (O_ ag aJ) (j:=0) rfl;obtain⟨k1,_⟩:=B_ (O_ ag aJ) (j:=1) rfl;have dR:w.1.size<wb.1.size:=by have:=aJ.size;omega
 simp at bs k1;go_wp2_with fail;go_loopg [25] n1 (λg s wr=>∃ k:Nat,k+g=n1/\s=.int .i64 k/\Hid (RR (λb=>b<I.1.size\/b=h) wr h n n (A4v p E n k))/\Hid (Bw I wr));case atStart=>exact⟨0,by omega,rfl,bQ.o,aJ.o⟩
 case round =>
  clear bQ bs k1 dR;obtain⟨k,ce,rfl,aL,ae⟩:=hrel;rename World=>wr;have aw:=A_ (Below.next cV ae);have eu:=ae.size;have d9:=aL.lt;rcases Nat.lt_or_ge k n1 with ay|ay
  ·have ej:(k:Int)<n1:=by omega
   have ek:(0:Int)<=k:=by omega
   obtain⟨g,rfl⟩:∃ g,gk=g+1:=⟨gk - 1,by omega⟩
   have dG:=A_ (by omega:k+1+g=n1);have ei:k+1<=n1:=ay;obtain⟨d1,eC,t,rfl,ea,aT,dp,be,bf,dq,dr,b4⟩:=TTri.elemA (c7.below aw) ay;have cQ:=A_ b4;have bM:=A_ (show p.1.triangles[k]?=some t from aT);have cs:=List.mem_of_getElem? aT;have bL:=A_ (show A5v p.1.1.length t from(Z.1.tri t cs).1);have cX:=A_ (by rw[<-cY.o];exact bL:A5v ac t);have c2:=A_ (show 0<=t.4/\t.4<3 by have:=(Z.1.tri t cs).2.1;unfold inB at this;simp at this;omega);have aZ:=A_ (by rw[A4v,A0e aT]:A4v p E n (k+1)=A7n E t (C6e p t) (A4v p E n k) 3);obtain⟨ap,ab⟩:∃ ap,p.3.getD t.4.toNat A0h=ap:=⟨_,rfl⟩
   obtain⟨aa,bh⟩:∃ aa,A6c (Z_ p.1.1 t.a) (Z_ p.1.1 t.b) (Z_ p.1.1 t.c)=aa:=⟨_,rfl⟩
   have da:=A_ ab;have cU:=A_ bh;have di:=A_ (by rw[C6e,ab,bh]:C6e p t=A0d ap (A0d (mkR 1 3) aa));obtain⟨cy,_⟩:=B_ (O_ ag ae) (j:=0) rfl;obtain⟨q1,_⟩:=B_ (O_ ag ae) (j:=1) rfl;obtain⟨q2,_⟩:=B_ (O_ ag ae) (j:=2) rfl;obtain⟨cA,_⟩:=B_ (O_ ag ae) (j:=3) rfl;simp at cy q1 q2 cA;have ew:w.1.size<wr.1.size:=by omega
   have ex:w.1.size<wr.1.size+1:=by omega
   have dL:=A_ (show ∀ p:Int,0<=p->p<ac->∃ x,E[p.toNat]?=some x by intro p d7 bg;exact⟨_,List.getElem?_eq_getElem (by rw[bR.o];omega)⟩);clear ce ay aT b4 ab bh;obtain⟨ad,aS⟩:∃ ad,ad=wr.alloc (.cells #[.int .i64 t.a,.int .i64 t.b,.int .i64 t.c,.int .i64 t.4,.int .i64 t.5] 93):=⟨_,rfl⟩
   have dc:=A_ aS;have aK:=A_ (by rw[aS];exact Below.box _:Bw wr ad);have aY:=A_ (by rw[aS];exact heap_alloc_new wr _:ad.1[wr.1.size]?=some (.cells #[.int .i64 t.a,.int .i64 t.b,.int .i64 t.c,.int .i64 t.4,.int .i64 t.5] 93));have er:wr.1.size<ad.1.size:=lt_of_block aY;have ey:w.1.size<ad.1.size:=by omega
   clear aS;go_upto_region 6 with fail;rw[<-dc.o];obtain⟨dB,dD⟩:=F_ aK;refine X_ sI ?_;dsimp only[List.dropLast,List.getLast,List.length];iterate 2 refine C_ _ ?_
   refine D_ (MP.aggS ap) ?_ ?_;·intro Y K J u D;obtain⟨al,am⟩:=F_ u;simp at D;refine G_ ?_;have C:=C1w _ p _ k t J (dd.below (Below.next aw (Below.next aK u))) bM c8 c2;rw[da.o]at C;exact A7t C
   refine D_ (MP.agg (mkR 1 3)) ?_ ?_;·intro Y K J u D;obtain⟨al,am⟩:=F_ u;simp at D;refine G_ ?_;exact H_ (A7u 1 3 J cD cD dE)
   iterate 3 refine C_ _ ?_
   refine D_ (MP.sl (B5j p.1.1 t)) ?_ ?_;·intro Y K J u D;obtain⟨al,am⟩:=F_ u;simp at D;refine G_ ?_;exact A1c (A6s _ p.1 _ k t J (bO.below (Below.next aw (Below.next aK u))) bM bL Z.1.ok Z.1.n40 Z.1.t48)
   refine D_ (MP.agg aa) ?_ ?_;·intro Y K J u D;obtain⟨al,am⟩:=F_ u;simp at D;obtain⟨⟨C,dS,cC,d4,b0⟩,_⟩:=D;obtain rfl:3=dS:=b0.1;refine G_ ?_;have C:=B3h C cC _ _ _ _ J b0;rw[cU.o]at C;exact H_ C
   refine D_ (MP.agg (A0d (mkR 1 3) aa)) ?_ ?_;·intro Y K J u D;obtain⟨al,am⟩:=F_ u;simp at D;refine G_ ?_;obtain⟨aq,ar,_⟩:=D;exact H_ (A0n _ _ (mkR 1 3) aa _ _ J aq.1 ar)
   refine D_ (MP.agg (A0d ap (A0d (mkR 1 3) aa))) ?_ ?_;·intro Y K J u D;obtain⟨al,am⟩:=F_ u;simp at D;refine G_ ?_;obtain⟨⟨_,eH,aq⟩,ar,_⟩:=D;exact H_ (A0n _ _ ap (A0d (mkR 1 3) aa) _ _ J aq ar)
   refine A1p #[.bool false,.slice none 0 0,.slice none 0 0] 35 ?_ ?_;·intro Y K J u D;refine⟨gD,?_⟩;go_simp
   intro Y K wa u D (aQ:Hid _);simp at D;have dT:=D.2.2.2.2.2.2.2.2.2.2.1;have dU:=D.2.2.2.2.2.2.2.2.2.2.2;obtain⟨⟨S,bl⟩,aA⟩:=dT;obtain⟨⟨O,d2,dX,ax⟩,bo⟩:=dU;rw[<-di.o]at S;obtain⟨G,dJ⟩:∃ G,C6e p t=G:=⟨_,rfl⟩
   rw[dJ]at S aZ;obtain⟨a5,bt,a9,v1,a7,bv,bc,v2,ds,br,_,_⟩:=TRat.agg S;rw[ds]at S;have bk:=aQ 10 11 dE dE dE;rw[dX]at bk bo;have ed:=E_ ax;have eb:ad.1.size<=O:=(bo O sI).1;have cb:O∉K 10:=λdx=>bk O dx sI;obtain⟨aM,du⟩:=B_ ax (j:=0) rfl;obtain⟨aN,dv⟩:=B_ ax (j:=1) rfl;obtain⟨aO,dw⟩:=B_ ax (j:=2) rfl;obtain⟨ah,ak⟩:∃ ah,ah=(((wa.setCell ⟨O,0,none⟩ (.bool G.1.1)).setCell ⟨O,1,none⟩ (.slice a5 bt a9)).setCell ⟨O,2,none⟩ (.slice a7 bv bc)):=⟨_,rfl⟩
   have bI:=A_ (show Bw wr ah by rw[ak];exact((((Below.next aK.o u)).setCell (p:=⟨O,0,none⟩) sO _).setCell (p:=⟨O,1,none⟩) sO _).setCell (p:=⟨O,2,none⟩) sO _);have bG:=A_ (show Agg ah (.agg #[.bool G.1.1,.slice a5 bt a9,.slice a7 bv bc]) G (K 10) by rw[ak];exact S.keep (λb H=>A0p b (λe=>cb (e ▸ H))));have bJ:=A_ (show ah.1[O]?=some (.cells #[.bool G.1.1,.slice a5 bt a9,.slice a7 bv bc] 35) by rw[ak];exact A0u (A0u (A0u ax)));have aj:=A_ (show ah.1[wr.1.size]?=some (.cells #[.int .i64 t.a,.int .i64 t.b,.int .i64 t.c,.int .i64 t.4,.int .i64 t.5] 93) by rw[ak];exact(A0p _ (by omega)).trans (O_ aY.o u));have dh:=A_ (show ∀ b∈K 10,ad.1.size<=b from λb H=>(aA b H).1);have dA:=A_ ak;generalize K 10=dZ at *;clear D aQ S bl aA bo bk br u ak cb dB dD;go_upto_region 7 with fail;rw[<-dA.o];obtain⟨cE,_⟩:=B_ aj (j:=0) rfl;obtain⟨aq,_⟩:=B_ aj (j:=1) rfl;obtain⟨ar,_⟩:=B_ aj (j:=2) rfl;obtain⟨cF,_⟩:=B_ aj (j:=3) rfl;obtain⟨cG,_⟩:=B_ aj (j:=4) rfl;simp at cE aq ar cF cG;go_wp2_with fail;refine(A2g _ t _ ah (cQ.below bI)).mono ?_;rintro _ w3 ⟨rfl,aP⟩;have aW:=A_ (Below.next bI aP);have aF:=A_ (O_ bJ aP);have bH:=A_ (bG.below aP);have a2:=A_ (show RR (λb=>b<I.1.size\/b=h) w3 h n n (A7n E t G (A4v p E n k) 0)from aL.below aW);have aV:=A_ (Below.next ae aW);have dk:=A_ (c9.below aV);have cn:=aW.size;have cO:=A_ (show ∀ b∈cB,b∉[h]from λb H T=>by have bg:=c5 b H;simp at T;omega);have DP:=A_ (show ∀ b∈dZ,b∉[h]from λb H T=>by have bg:=dh b H;simp at T;omega);have aG:=A_ (show O∉[h]from λT=>by simp at T;omega);obtain⟨X,b3⟩:∃ X,A4v p E n k=X:=⟨_,rfl⟩
   rw[b3]at a2 aZ;clear aP aL b3 bJ bG aY aj cE aq ar cF cG dp be bf dq dr aM du aN dv aO dw cy q1 q2 cA;go_wp2_with fail;go_loopg [43] 3 (λg2 s wr2=>∃ i:Nat,i+g2=3/\s=.int .i64 i/\Hid (RR (λb=>b<I.1.size\/b=h) wr2 h n n (A7n E t G X i))/\Hid (Kp [h] w3 wr2)/\Hid (Bw I wr2));case atStart=>exact⟨0,by omega,rfl,a2.o,Kp.refl _ _,aV.o⟩
   case round =>
    clear a2 aV;obtain⟨i,cd,rfl,af,W,au⟩:=hrel;rename World=>aU;rcases Nat.lt_or_ge i 3 with aR|aR
    ·have dF:(i:Int)<3:=by omega
     have eh:(0:Int)<=i:=by omega
     have eg:i<3:=aR;obtain⟨g2,rfl⟩:∃ g2,gk=g2+1:=⟨gk - 1,by omega⟩
     have cc:=A_ (by omega:i+1+g2=3);obtain⟨cj,ck⟩:=D6z cX i;obtain⟨q,ci⟩:∃ q,at3 t.a t.b t.c i=q:=⟨_,rfl⟩
     rw[ci]at cj ck;have dj:=A_ ci;obtain⟨aD,bp⟩:=dL q cj ck;have a3:=A_ bp;obtain⟨dM,dN⟩:=c4 aD (List.mem_of_getElem? bp);have a1:=A_ (by rw[A7n,dj.o]:A7n E t G X (i+1)=A7c E q G (A7n E t G X i));have dl:=A_ (W.sl dk cO);obtain⟨eM,ef⟩:=Sl.intAt dl a3;clear cd aR bp;by_cases cm:aD<0
     ·obtain rfl:aD = -1:=by omega
      have a4:=A_ (show RR (λb=>b<I.1.size\/b=h) aU h n n (A7n E t G X (i+1)) by rw[a1.o,C9b (by rw[A0e a3.o];decide)];exact af);clear af cm;go_wp2_with fail;go_roundg g2;case measure=>omega
      case rel=>exact⟨i+1,cc,gN,a4,W,au⟩
     obtain⟨z,rfl⟩:∃ z:Nat,aD=z:=⟨aD.toNat,by omega⟩
     have ct:z<n:=by omega
     obtain⟨a,aH,m1,be,aI,m2,bf,d5,ai,cK,cL,cM,cH,cI,cJ,b5,_,an⟩:=af.elem ct;have dg:=A_ (show A7n E t G X (i+1)=(A7n E t G X i).set z (A0k a G) by rw[a1.o];exact C8k a3 ai);have cP:=A_ b5;have cR:=A_ (bH.keep (λb H=>W.kp b (bH.lt b H) (DP b H)));obtain⟨aM,_⟩:=B_ (W.cell aF aG) (j:=0) rfl;obtain⟨aN,_⟩:=B_ (W.cell aF aG) (j:=1) rfl;obtain⟨aO,_⟩:=B_ (W.cell aF aG) (j:=2) rfl;have ec:=lt_of_block (W.cell aF aG);have et:=au.size;simp at aM aN aO;clear ai b5 cm dM dN a1;go_wp2_with fail;refine X_ sI ?_;dsimp only[List.dropLast,List.getLast,List.length];iterate 13 refine C_ _ ?_
     refine D_ (MP.agg (A0k a G)) ?_ ?_;·intro Y K J u D;obtain⟨al,am⟩:=F_ u;simp at D;refine G_ ?_;exact H_ (A0x _ _ a G _ _ J (cP.below u) (cR.below u))
     refine C_ _ ?_;intro Y K wa u D (aQ:Hid _);simp at D;have dV:=D.2.2.2.2.2.2.2.2.2.2.2.2.2.1;have cz:=D.2.2.2.2.2.2.2.2.2.2.2.2.2.2;have d3:=cz.1.1;obtain⟨⟨S,bl⟩,aA⟩:=dV;obtain⟨a6,bu,ba,eI,a8,bz,bd,eJ,dt,br,_,_⟩:=TRat.agg S;rw[dt]at S;have dQ:=u.size
     obtain⟨bs,k1,k2,ez,eA,eB⟩:wa.cell? ⟨h,z*3,none⟩=some (.bool a.1.1)/\wa.cell? ⟨h,z*3+1,none⟩=some (.slice aH m1 be)/\wa.cell? ⟨h,z*3+2,none⟩=some (.slice aI m2 bf)/\wa.frozen? ⟨h,z*3,none⟩=false/\wa.frozen? ⟨h,z*3+1,none⟩=false/\wa.frozen? ⟨h,z*3+2,none⟩=false :=
      ⟨(u.cell (p:=⟨h,_,none⟩) an).trans cK,(u.cell (p:=⟨h,_,none⟩) an).trans cL,(u.cell (p:=⟨h,_,none⟩) an).trans cM,(u.frozen (p:=⟨h,_,none⟩) an).trans cH,(u.frozen (p:=⟨h,_,none⟩) an).trans cI,(u.frozen (p:=⟨h,_,none⟩) an).trans cJ⟩
     have ee:h<wa.1.size:=by omega
     have a4:=A_ (show RR (λb=>b<I.1.size\/b=h) (((wa.setCell ⟨h,z*3,none⟩ (.bool (A0k a G).1.1)).setCell ⟨h,z*3+1,none⟩ (.slice a6 bu ba)).setCell ⟨h,z*3+2,none⟩ (.slice a8 bz bd)) h n n (A7n E t G X (i+1)) by rw[dg.o];exact(af.below u).set ct S (λb H bi=>by have bg:=(aA b H).1;rcases bi with dy|dy<;>omega));have de:=A_ (show Kp [h] w3 (((wa.setCell ⟨h,z*3,none⟩ (.bool (A0k a G).1.1)).setCell ⟨h,z*3+1,none⟩ (.slice a6 bu ba)).setCell ⟨h,z*3+2,none⟩ (.slice a8 bz bd))from(W.o.below u).set sI _ _ _ _ _ _);have cN:=A_ (show Bw I (((wa.setCell ⟨h,z*3,none⟩ (.bool (A0k a G).1.1)).setCell ⟨h,z*3+1,none⟩ (.slice a6 bu ba)).setCell ⟨h,z*3+2,none⟩ (.slice a8 bz bd))from(((Below.next au u).setCell (p:=⟨h,_,none⟩) bm _).setCell (p:=⟨h,_,none⟩) bm _).setCell (p:=⟨h,_,none⟩) bm _);generalize K 13=eN at *;clear D aQ cz S bl aA br u af W au cK cL cM cH cI cJ dQ aM aN aO;go_wp2_with fail;go_roundg g2;case measure=>omega
     case rel=>exact⟨i+1,cc,gN,a4,de,cN⟩
    obtain rfl:i=3:=by omega
    have dm:=A_ (by rw[aZ.o];exact af:RR (λb=>b<I.1.size\/b=h) aU h n n (A4v p E n (k+1)));clear cd aR af W;go_wp2_with fail;go_roundg g;case measure=>omega
    case rel=>exact⟨k+1,dG,gN,dm,au⟩
  obtain rfl:k=n1:=by omega
  have dF:¬ ((k:Int)<k):=by omega
  obtain⟨dn,cp,_⟩:=aL.sl;have db:=A_ cp;have df:=A_ (show ∀ x∈A4v p E n k,B4q x from C7x (P:=B4q) C9z (D5e 0 1) p E n k);clear ce ay cp;go_wp2_with fail;refine(A2l _ n n _ dn wr db.o (by omega) df.o).mono ?_;rintro _ aU ⟨bF,cv,bX,bT,rfl,co,cg,b7⟩;have bS:=A_ co;have c0:=A_ cg;have cW:=A_ (Below.next aw b7);clear co cg b7;go_wp2_with fail;refine(A5p bF cv bX _ bT aU bS.o (by rw[<-bN.o];exact c1)).mono ?_;rintro _ eL ⟨rfl,b8⟩;have aX:=A_ b8;clear b8;go_wp2;go_ret;rw[bN.o];exact⟨bF,cv,bX,bT,rfl,bS.below aX,(c0.older aw.size).below aX,Below.next cW aX⟩
end
theorem Sl.ratAt {w:World} {g c:Nat} {n o:Nat} {xs:List TRat} {u:List Nat} (h:Sl w (some ⟨g,o,none⟩) n c xs u) {k:Nat} {x:TRat} (b:xs[k]?=some x) :
  ∃ (A1:Option Addr) (n1 c1:Nat) (A2:Option Addr) (n2 c2:Nat) (fs:List Nat),g<w.1.size/\w.cell? ⟨g,o+k*3,none⟩=some (.bool x.1.1)/\w.cell? ⟨g,o+k*3+1,none⟩=some (.slice A1 n1 c1)/\w.cell? ⟨g,o+k*3+2,none⟩=some (.slice A2 n2 c2)/\Agg w (.agg #[.bool x.1.1,.slice A1 n1 c1,.slice A2 n2 c2]) x fs:=by
 have J:k<n:=by rw[<-h.1];exact(List.getElem?_eq_some_iff.1 b).1
 obtain⟨O,S,y,A1,n1,c1,T,A2,n2,c2,W,e,I,K,D,E,G,H⟩:=TRat.elemA h J;injection e with e;injection e with ea eb _;subst ea;subst eb;obtain rfl:y=x:=by rw[K]at b;exact Option.some.inj b
 exact⟨A1,n1,c1,A2,n2,c2,_,I,D,E,G,H⟩
structure At1 (w:World) (v:Value) (r:TRat) (g o c g1 o1 c1 g2 o2 c2:Nat) (s2:List Nat):Prop where
 v:v=.agg #[.slice (some ⟨g,o,none⟩) 1 c]
 gl:g<w.1.size
 h0:w.cell? ⟨g,o,none⟩=some (.slice (some ⟨g1,o1,none⟩) 1 c1)
 h1:w.cell? ⟨g,o+1,none⟩=some (.slice (some ⟨g2,o2,none⟩) 1 c2)
 g1l:g1<w.1.size
 hc:w.cell? ⟨g1,o1,none⟩=some (.int .i64 0)
 sl:Sl w (some ⟨g2,o2,none⟩) 1 c2 [r] s2
theorem at1 {w:World} {v:Value} {r:TRat} {s:List Nat} (h:Agg w v (B4o (some r)) s):∃ g o c g1 o1 c1 g2 o2 c2 s2,At1 w v r g o c g1 o1 c1 g2 o2 c2 s2:=by
 obtain⟨A,n,c,T,rfl,rfl,b⟩:=TMatrix.agg h;obtain rfl:1=n:=by rw[<-b.1];rfl
 obtain⟨g,o,x,O,n1,c1,W,S,n2,c2,K,rfl,I,u,E,G,k1,k2,_⟩:=TRow.elem b (by decide:0<1);simp[B4o]at u;subst u;obtain rfl:1=n1:=by rw[<-k1.1];rfl
 obtain rfl:1=n2:=by rw[<-k2.1];rfl
 obtain⟨g1,o1,y,rfl,J,D,_,H⟩:=Sl.getInt k1 (by decide:0<1);simp at D;subst D;obtain⟨g2,o2,_,rfl,_⟩:=k2.2.2.2.2 dE;exact⟨g,o,c,g1,o1,c1,g2,o2,c2,K,rfl,I,by simpa using E,by simpa using G,J,by simpa using H,k2⟩
theorem C0t:A4f 314:=λa w=>kR
theorem E1x {r:TRat} (b:R_ r≠0):(A2v r==0)=false:=by
 unfold A2v sgn;simp;split;·omega
 split<;>omega
theorem C3f (v:Value) (x:TRat) (b:List Nat) (w:World) (h:Agg w v x b) (D:J_ x=true) (E:R_ x≠0):Calls prog 314 #[v] w (A0b w (.bool false)):=by
 have H:=A_ h;have u:=A_ (ratOkB_iff.1 D);have T:=E1x E;obtain⟨O,n1,W,Z,S,n2,X,aa,rfl,rfl,I,J⟩:=TRat.agg h;clear I J h D E;go_enter func314,ntmps314;go_wp2_with fail;refine(A7y _ x _ _ (H.below Below.go) u.mag (A4h u.1)).mono ?_;rintro _ K ⟨rfl,Y⟩;have G:=A_ (show Bw w K from Below.go);go_wp2;go_ret;exact⟨rfl,G⟩
theorem C5k (v:Value) (s:List Nat) (w:World) (h:Agg w v (B4o none) s):Calls prog 307 #[v] w (A0b w (.bool true)):=by
 obtain⟨A,n,c,u,rfl,rfl,b⟩:=TMatrix.agg h;obtain rfl:0=n:=by rw[<-b.1];rfl
 clear h b;go_enter func307,ntmps307;go_wp2_with fail;refine wp_loop_rounds 1 ?_;rw[rounds_succ];go_wp2;go_ret;exact⟨rfl,Below.go⟩
theorem C7g (v:Value) (r:TRat) (s:List Nat) (w:World) (T:Agg w v (B4o (some r)) s) (ok:Ok1 (some r)):Calls prog 307 #[v] w (A0b w (.bool true)):=by
 have D:=A_ ok;obtain⟨g,o,c,E,o1,ac,ad,o2,J,W,⟨rfl,al,ae,af,am,ag,S⟩⟩:=at1 T;have I:=A_ S;have aq:g<w.1.size+1:=by omega
 have ar:g<w.1.size+1+1:=by omega
 have an:E<w.1.size+1:=by omega
 have ao:E<w.1.size+1+1:=by omega
 clear T ok S;go_enter func307,ntmps307;go_wp2_with fail;refine wp_loop_rounds 2 ?_;rw[rounds_succ];go_wp2_with fail;refine(A5n _ 1 J [r] W _ (I.o.below Below.go) (by simp;exact D.1)).mono ?_;rintro _ b ⟨rfl,h⟩;obtain⟨ah,aj⟩:=F_ h;have au:w.1.size<b.1.size:=ltg h;have aw:w.1.size+1<b.1.size:=ltg h;have H:=A_ (show Bw w b from Below.go);clear h;go_wp2_with fail;have C:=A7e 314 C0t _ 1 J [r] W b (λ_=>false) (I.below H) (λv x aa Z O ab=>by simp at O;subst O;exact C3f v x aa Z ab D.1 D.2);rw[show [r].any (λ_=>false)=false from rfl]at C;refine C.mono ?_;clear C;rintro _ G ⟨rfl,u⟩;obtain⟨ai,ak⟩:=F_ u;have ax:w.1.size+1<G.1.size:=by have:=u.size;omega
 have ay:w.1.size<G.1.size:=by omega
 have ap:E<b.1.size:=by omega
 have X:=A_ (Below.next H u);clear u;go_wp2_with fail;refine wp_loop_rounds 2 ?_;rw[rounds_succ];go_wp2_with fail;refine(A0s 0 0 0 G).mono ?_;rw[show inB 0 0 0=true from rfl];rintro _ w3 ⟨rfl,K⟩;have Y:=A_ (Below.next X K);clear K;go_wp2_with fail;rw[rounds_succ];go_wp2_with fail;rw[rounds_succ];go_wp2;go_ret;exact⟨rfl,Y⟩
theorem B7c (v:Value) (q:Option TRat) (s:List Nat) (w:World) (b:Agg w v (B4o q) s) (ok:Ok1 q):Calls prog 307 #[v] w (A0b w (.bool true)):=by
 cases q with
 |none=>exact C5k v s w b
 |some r=>exact C7g v r s w b ok
theorem C2r (r:TRat) (w:World) (g o c h o1 J b o2 S:Nat) (D:Option Addr) (n1 G:Nat) (E:Option Addr) (n2 H:Nat) (ac:g<w.1.size) (W:w.cell? ⟨g,o,none⟩=some (.slice (some ⟨h,o1,none⟩) 1 J)) (X:w.cell? ⟨g,o+1,none⟩=some (.slice (some ⟨b,o2,none⟩) 1 S)) (ad:h<w.1.size) (Z:w.cell? ⟨h,o1,none⟩=some (.int .i64 0)) (ai:b<w.1.size)
  (u0:w.cell? ⟨b,o2,none⟩=some (.bool r.1.1)) (u1:w.cell? ⟨b,o2+1,none⟩=some (.slice D n1 G)) (u2:w.cell? ⟨b,o2+2,none⟩=some (.slice E n2 H)):Calls prog 292 #[.agg #[.slice (some ⟨g,o,none⟩) 1 c],.int .i64 0,.int .i64 0] w (A0b w (.agg #[.bool r.1.1,.slice D n1 G,.slice E n2 H])):=by
 have ag:g<w.1.size+1:=by omega
 have ah:g<w.1.size+1+1:=by omega
 have ae:h<w.1.size+1:=by omega
 have af:h<w.1.size+1+1:=by omega
 have aj:b<w.1.size+1:=by omega
 have ak:b<w.1.size+1+1:=by omega
 go_enter func292,ntmps292;go_wp2_with fail;refine(E7f h o1 1 J [0] 0 _ sI dE (λj T=>?_) sI).mono ?_
 ·obtain rfl:j=0:=by simpa using T
  go_simp
 rintro _ I ⟨rfl,q,K⟩;have u:=Go.XB.below_drewN ((w.alloc (.cells #[.slice (some ⟨g,o,none⟩) 1 c] 203)).alloc (.cells #[.bool false,.slice none 0 0,.slice none 0 0] 35)) q;rw[<-K]at u;clear K;rw[show((List.countP (λx=>decide (x<(0:Int))) (List.take 1 [0]):Nat):Int)=0 from rfl,show(List.take 1 [(0:Int)]).contains 0=true from rfl];obtain⟨aa,ab⟩:=F_ u;have al:w.1.size<I.1.size:=ltg u;have am:w.1.size+1<I.1.size:=ltg u;have O:=A_ (show Bw w I from Below.go);clear u;go_wp2;refine bodyPost_ret (v:=.agg #[.bool r.1.1,.slice D n1 G,.slice E n2 H]) (by simp[results,results292,go_sem, *]) rfl ?_;have Y:=O.o;exact⟨rfl,Below.go⟩
theorem D8i (v:Value) (r:TRat) (s:List Nat) (w:World) (aa:Agg w v (B4o (some r)) s):Calls prog 292 #[v,.int .i64 0,.int .i64 0] w (C4o w r):=by
 obtain⟨g,o,c,I,o1,u,J,o2,D,ab,⟨rfl,W,K,O,X,T,Z⟩⟩:=at1 aa;obtain⟨b,n1,E,h,n2,G,H,Y,u0,u1,u2,S⟩:=Sl.ratAt Z (k:=0) rfl;simp at u0 u1 u2;exact(C2r r w g o c I o1 u J o2 D b n1 E h n2 G W K O X T Y u0 u1 u2).mono λ_ _ ⟨he,hb⟩=>⟨_,H,he,S.below hb,hb⟩
theorem C0a (v:Value) (s:List Nat) (w:World) (h:Agg w v (B4o none) s):Calls prog 290 #[v] w (A0b w (.bool true)):=by
 have G:=A_ h;obtain⟨A,n,c,K,rfl,rfl,u⟩:=TMatrix.agg h;obtain rfl:0=n:=by rw[<-u.1];rfl
 clear h u;go_enter func290,ntmps290;go_wp2_with fail;refine(B7c _ none _ _ (G.below Below.go) trivial).mono ?_;rintro _ D ⟨rfl,b⟩;obtain⟨H,I⟩:=F_ b;have J:w.1.size<D.1.size:=ltg b;have E:=A_ (show Bw w D from Below.go);clear b;go_wp2_with fail;refine wp_loop_rounds 1 ?_;rw[rounds_succ];go_wp2;go_ret;exact⟨rfl,E⟩
theorem B9r (v:Value) (r:TRat) (s:List Nat) (w:World) (I:Agg w v (B4o (some r)) s) (ok:Ok1 (some r)):Calls prog 290 #[v] w (A0b w (.bool true)):=by
 have T:=A_ I;have ah:=A_ ok;obtain⟨g,o,c,E,o1,X,Z,o2,Y,aN,⟨rfl,az,ai,aj,aA,ak,ab⟩⟩:=at1 I;have ag:=A_ ab;have aG:g<w.1.size+1:=by omega
 have aH:g<w.1.size+1+1:=by omega
 have aB:E<w.1.size+1:=by omega
 have aC:E<w.1.size+1+1:=by omega
 clear I ok ab;go_enter func290,ntmps290;go_wp2_with fail;refine(B7c _ (some r) _ _ (T.below Below.go) ah).mono ?_;rintro _ b ⟨rfl,H⟩;obtain⟨al,ao⟩:=F_ H;have aK:w.1.size<b.1.size:=ltg H;have K:=A_ (show Bw w b from Below.go);have aD:E<b.1.size:=by omega
 have aF:E<b.1.size+1:=by omega
 have aE:g<b.1.size:=by omega
 clear H;go_wp2_with fail;refine wp_loop_rounds 2 ?_;rw[rounds_succ];go_wp2_with fail;refine wp_loop_rounds 2 ?_;rw[rounds_succ];go_wp2_with fail;obtain⟨D,G⟩:∃ D,D=b.alloc (.cells #[.slice (some ⟨E,o1,none⟩) 1 X,.slice (some ⟨Z,o2,none⟩) 1 Y] 287):=⟨_,rfl⟩
 have O:=A_ (by rw[G];exact Below.box _:Bw b D);have W:=A_ (by rw[G];exact heap_alloc_new b _:D.1[b.1.size]?=some (.cells #[.slice (some ⟨E,o1,none⟩) 1 X,.slice (some ⟨Z,o2,none⟩) 1 Y] 287));have aL:=lt_of_block W;have aM:D.cell? ⟨w.1.size,0,none⟩=some (.slice (some ⟨g,o,none⟩) 1 c):=by rw[G];go_simp
 have aJ:w.1.size<D.1.size:=by omega
 rw[<-G];clear G al ao;obtain⟨p2,_⟩:=B_ W (j:=1) rfl;simp at p2;obtain⟨ar,n1,aw,au,n2,ax,ay,aI,u0,u1,u2,aa⟩:=Sl.ratAt ((ag.below K).below O) (k:=0) rfl;simp at u0 u1 u2;have ae:=A_ aa;clear aa ai aj ak;have S:=A_ (Below.next K O);refine A0g ?_;iterate 8 refine C_ _ ?_
 refine D_ (MP.aggS r) ?_ ?_;·intro ac ad J h u;obtain⟨am,ap⟩:=F_ h;simp at u;refine G_ ?_;exact A7t (D8i _ r _ J (T.below (Below.next S h)))
 refine D_ (MP.eq (.bool true)) ?_ ?_;·intro ac ad J h u;obtain⟨am,ap⟩:=F_ h;simp at u;refine G_ ?_;obtain⟨aP,_,aO,aq⟩:=u;exact A0i (by have C:=A2s _ _ r r _ _ J (ae.below h) aq;rw[decide_eq_true rfl]at C;exact C)
 refine C_ _ ?_;intro ac ad wa h u (an:Hid _);simp at u;go_simp;have af:=A_ (Below.next S h);clear u an;go_wp2_with fail;rw[rounds_succ];go_wp2_with fail;rw[rounds_succ];go_wp2;go_ret;exact⟨rfl,af⟩
theorem B3d (v:Value) (q:Option TRat) (s:List Nat) (w:World) (b:Agg w v (B4o q) s) (ok:Ok1 q):Calls prog 290 #[v] w (A0b w (.bool true)):=by
 cases q with
 |none=>exact C0a v s w b
 |some r=>exact B9r v r s w b ok
end Go.Proofs.YtbhemnidcleaiaaGreat.X
