/- A part of the proof. -/
import Derived.Test.YtjcanieccnljfaaGreatY2
set_option linter.constructorNameAsVariable false
set_option maxHeartbeats 16000000
set_option maxRecDepth 10000
open Array renaming getD_eq_getD_getElem?→JL
open Bool renaming and_eq_true→DJ,false→AH,true→AF
open Go renaming Addr→AJ,Oper→CZ,Value→AU,World→AD,execOp→IY,undef→FX
open Go.IntKind renaming i64→RD
open Go.RowKit.Below renaming heap_setCell→GA
open Go.Value renaming bool→J,int→RH,ownBlock→JD,slice→S
open Go.World.ownsRow renaming cellAt→PU,lt→FG,stored→MM
open Go.XB.Dat renaming sz→DZ
open List renaming all_eq_true→CU,getElem?_append_left→LD,getElem?_append_right→MC,getElem?_drop→OJ,getElem?_eq_getElem→DU,getElem?_eq_some_iff→DM,getElem?_map→IR,getElem?_set_ne→JU,getElem?_set_self→QB,getElem?_take→JM,map_append→OE,map_cons→NF,map_nil→NH,mem_append→DV,mem_cons→JH,mem_cons_of_mem→KQ,mem_cons_self→PS,mem_flatten→LG,mem_iff_getElem?→KE,mem_map→JX,mem_of_getElem?→DH,nodup_cons→PR,range→GE
open Nat renaming add_mul→MW,le_refl→CE,lt_or_ge→CG,mul_le_mul_right→MN,one_mul→KL,zero_add→LJ,zero_le→EO
open Option renaming none→I,some→B
open Option.some renaming inj→IJ
namespace Go.XB
open Go.RowKit
section
variable {α:Type} [Dat α] {w w':AD} {cells:List AU} {xs:List α} {fss:List (List Nat)}
theorem Filled.put (h:Filled w cells xs fss) {k:Nat} (ab:k<xs.length) {y:α} {E:List Nat} {cs:List AU} (G:Dat.at_ w cs y E) :
  Filled w (B3r cells (k*DZ α) cs) (xs.set k y) (fss.set k E):=by
 obtain⟨T,W,X⟩:=h;have Y:=Dat.len G;have ad:0<DZ α:=Dat.pos;have ac:(k+1)*DZ α<=xs.length*DZ α:=MN _ ab;rw[MW,KL]at ac;refine⟨by simp[T],by rw[B5p,List.length_set];exact W,λj x gs b u=>?_⟩;by_cases O:j=k
 ·subst O
  rw[QB oS]at b;rw[QB oS]at u;cases b;cases u;rw[B0l (cs:=cs) (λi H=>?_) Y];·exact G
  rw[getElem?_setFrom _ _ _ _ oS,if_pos oS,Nat.add_sub_cancel_left]
 rw[JU oS]at b u;have Z:=(DM.1 b).1;have aa:(j+1)*DZ α<=xs.length*DZ α:=MN _ Z;rw[MW,KL]at aa;have:=X j x gs b u;rw[B0l (cs:=(cells.drop (j*DZ α)).take (DZ α)) (λi H=>?_) oR];·exact this
 rw[getElem?_setFrom _ _ _ _ oS,if_neg ?_,JM,if_pos H,OJ];rcases Nat.lt_or_gt_of_ne O with D|D
 ·have:(j+1)*DZ α<=k*DZ α:=MN _ D;rw[MW,KL]at this;omega
 have:(k+1)*DZ α<=j*DZ α:=MN _ D;rw[MW,KL]at this;omega
theorem C1t {P:Nat->Prop} {fss:List (List Nat)} {k:Nat} {D:List Nat} (h:∀ b∈fss.flatten,P b) (H:∀ b∈D,P b):∀ b∈(fss.set k D).flatten,P b:=by
 intro b G;obtain⟨gs,u,E⟩:=LG.1 G;rcases List.mem_or_eq_of_mem_set u with u|e
 ·exact h b (LG.2 ⟨gs,u,E⟩)
 exact H b (e ▸ E)
end
end Go.XB
namespace Go.Proofs.YtjcanieccnljfaaGreat.X
open Go.RowKit Go.XB
section
def RR (bad:Nat->Prop) (w:AD) (g n cap:Nat) (xs:List TRat):Prop :=
 ∃ cells fss,w.ownsRow 0 39 3 (S (B ⟨g,0,I⟩) n cap) n cells/\Filled w cells xs fss/\xs.length=n/\(∀ b∈fss.flatten,¬ bad b)/\bad g
section
variable {bad:Nat->Prop} {w w':AD} {g n cap:Nat} {xs:List TRat}
theorem RR.len (h:RR bad w g n cap xs):xs.length=n:=by obtain⟨_,_,_,_,h,_⟩:=h;exact h
theorem RR.lt (h:RR bad w g n cap xs):g<w.1.size:=by obtain⟨_,_,h,_⟩:=h;exact(FG h _ rfl).2
theorem RR.below (h:RR bad w g n cap xs) (b:Bw w w'):RR bad w' g n cap xs:=by
 obtain⟨cells,fss,u,D,E,G,H⟩:=h;exact⟨cells,fss,I_ u b,D.below b,E,G,H⟩
theorem RR.keep (h:RR bad w g n cap xs) (u:Nat) (aa:bad u) (ad:u≠g) (ac:w.1.size<=w'.1.size) (H:w'.os=w.os) (T:w'.tape=w.tape) (X:w'.output=w.output) (E:∀ b,b≠u->w'.1[b]?=w.1[b]?):RR bad w' g n cap xs:=by
 obtain⟨cells,fss,G,O,W,D,Y⟩:=h;refine⟨cells,fss,G.kept (row:=B u) ⟨H,T,X,ac,λk _ ab=>E k (λe=>ab (by rw[e]))⟩ ?_,O.keep (λb Z=>E b (λe=>D b Z (e ▸ aa))),W,D,Y⟩;show B g=I\/B g≠B u;exact .inr oR
theorem RR.elem (h:RR bad w g n cap xs) {k:Nat} (ah:k<n) :
  ∃ (x:TRat) (A1:Option AJ) (n1 c1:Nat) (A2:Option AJ) (n2 c2:Nat) (fs:List Nat),xs[k]?=B x/\w.cell? ⟨g,k*3,I⟩=B (J x.1.1)/\w.cell? ⟨g,k*3+1,I⟩=B (S A1 n1 c1)/\w.cell? ⟨g,k*3+2,I⟩=B (S A2 n2 c2)
   /\ w.frozen? ⟨g,k*3,I⟩=AH/\w.frozen? ⟨g,k*3+1,I⟩=AH/\w.frozen? ⟨g,k*3+2,I⟩=AH/\Agg w (.agg #[J x.1.1,S A1 n1 c1,S A2 n2 c2]) x fs/\(∀ b∈fs,¬ bad b)/\g<w.1.size:=by
 obtain⟨cells,fss,u,O,af,T,ag⟩:=h;have Z:=FG u _ rfl;obtain⟨k1,k2,aa⟩:=O;obtain⟨x,H⟩:∃ x,xs[k]?=B x:=⟨_,DU oS⟩
 obtain⟨fs,G⟩:∃ fs,fss[k]?=B fs:=⟨_,DU oS⟩
 have W:=aa k x fs H G;obtain⟨A1,n1,c1,ab,A2,n2,c2,ac,e,rfl,ad,ae⟩:=TRat.open_ W
 have D:∀ j,j<3->w.cell? ⟨g,k*3+j,I⟩=([J x.1.1,S A1 n1 c1,S A2 n2 c2]:List AU)[j]?:=λj Y=>by
  rw[PU u _ oS,<-e,JM];show _=if j<3 then _ else _
  rw[if_pos Y,OJ];rfl
 have E:∀ j,w.frozen? ⟨g,j,I⟩=AH:=λj=>World.ownsRow.frozenAt u j;refine⟨x,A1,n1,c1,A2,n2,c2,ab++ac,H,D 0 dE,D 1 dE,D 2 dE,E _,E _,E _,?_,λb X=>T b (LG.2 ⟨_,DH G,X⟩),Z.2⟩;exact TRat.mkAgg ad ae
theorem RR.set (h:RR bad w g n cap xs) {k:Nat} (af:k<n) {y:TRat} {O1:Option AJ} {o1 u1:Nat} {O2:Option AJ} {o2 u2:Nat} {D:List Nat} (Y:Agg w (.agg #[J y.1.1,S O1 o1 u1,S O2 o2 u2]) y D) (H:∀ b∈D,¬ bad b) :
  RR bad (((w.setCell ⟨g,k*3,I⟩ (J y.1.1)).setCell ⟨g,k*3+1,I⟩ (S O1 o1 u1)).setCell ⟨g,k*3+2,I⟩ (S O2 o2 u2)) g n cap (xs.set k y):=by
 obtain⟨cells,fss,T,W,X,E,G⟩:=h;obtain⟨ac,_⟩:=MM T (k*3) (J y.1.1);obtain⟨ad,_⟩:=MM ac (k*3+1) (S O1 o1 u1);obtain⟨ae,_⟩:=MM ad (k*3+2) (S O2 o2 u2)
 have ab:∀ b,b≠g->(((w.setCell ⟨g,k*3,I⟩ (J y.1.1)).setCell ⟨g,k*3+1,I⟩ (S O1 o1 u1)).setCell ⟨g,k*3+2,I⟩ (S O2 o2 u2)).1[b]?=w.1[b]?:=λb u =>
  (GA _ _ _ b (by simpa using u)).trans ((GA _ _ _ b (by simpa using u)).trans (GA _ _ _ b (by simpa using u)))
 have Z:Dat.at_ w [J y.1.1,S O1 o1 u1,S O2 o2 u2] y D:=by
  obtain⟨O,e,h⟩:=Y;have:O=[J y.1.1,S O1 o1 u1,S O2 o2 u2]:=by simpa using e.symm
  rwa [this]at h
 have aa:=W.put (k:=k) oS Z;refine⟨_,_,ae,(aa.keep (w':=((w.setCell ⟨g,k*3,I⟩ (J y.1.1)).setCell ⟨g,k*3+1,I⟩ (S O1 o1 u1)).setCell ⟨g,k*3+2,I⟩ (S O2 o2 u2)) (λb u=>ab b (λe=>?_))),by simpa using X,C1t E H,G⟩;exact C1t (P:=λb=>¬ bad b) E H b u (e ▸ G)
theorem RR.sl (h:RR bad w g n cap xs):∃ bs,Sl w (B ⟨g,0,I⟩) n cap xs bs/\∀ b∈bs,b=g\/¬ bad b:=by
 obtain⟨cells,fss,E,G,H,O,Y⟩:=h;obtain⟨A,c,bs,X,W,T⟩:=G.sl (α:=TRat) E H;cases X;refine⟨bs,W,λb u=>?_⟩;rcases T with⟨_,rfl⟩|⟨g',e,rfl,_⟩;·simp at u
 simp[JD]at e;rcases JH.1 u with D|u
 ·exact .inl (D.trans e.symm)
 exact .inr (O b u)
end
theorem B0o {w:AD} {base:Nat} {e:TypeId} {size:Nat} {v:AU} {n:Nat} {xs:List AU} (h:w.ownsRow base e size v n xs):w.ownsRow 0 e size v n xs:=by
 obtain⟨D,b⟩:=h;refine⟨D,?_⟩;rcases b with b|⟨g,cap,u,E,G,b⟩;·exact .inl b
 exact .inr ⟨g,cap,u,E,EO _,b⟩
theorem RR.weaken {bad bad':Nat->Prop} {w:AD} {g n cap:Nat} {xs:List TRat} (h:RR bad w g n cap xs) (O:∀ b,b<w.1.size->bad' b->bad b) (W:bad' g):RR bad' w g n cap xs:=by
 obtain⟨cells,fss,E,u,G,H,X⟩:=h;exact⟨cells,fss,E,u,G,λb D T=>H b D (O b (u.lt b D) T),W⟩
theorem RR.grown {bad:Nat->Prop} {w w':AD} {g n cap:Nat} {xs:List TRat} {gB:Nat} (h:RR bad w g n cap xs) (G:w.grownBy w' (B gB)) (W:bad gB) (X:g≠gB):RR bad w' g n cap xs:=by
 obtain⟨cells,fss,H,u,O,D,T⟩:=h;refine⟨cells,fss,H.kept G ?_,u.keep (λb E=>G.block b (u.lt b E) (by intro e;injection e with e;exact D b E (e ▸ W))),O,D,T⟩;show B g=I\/B g≠B gB;exact .inr oR
structure MSt (w U:AD) (o i cap n:Nat) (gs:List (Nat×Nat)) (M:List (List TRat)):Prop where
 bl:Bw w U
 gl:gs.length=i
 ml:M.length=i
 nd:(o::gs.map (·.1)).Nodup
 lo:∀ b∈o::gs.map (·.1),w.1.size<=b
 ou:U.ownsRow w.1.size 27 1 (S (B ⟨o,0,I⟩) i cap) i (gs.map λg=>S (B ⟨g.1,0,I⟩) n g.2)
 ro:∀ (k:Nat) (g:Nat×Nat) (r:List TRat),gs[k]?=B g->M[k]?=B r->RR (λb=>b<w.1.size\/b∈o::gs.map (·.1)) U g.1 n g.2 r
theorem MSt.start {w wb:AD} {n:Nat} (hw:Bw w wb):MSt w (wb.alloc (.cells #[] 27)) wb.1.size 0 0 n [] [] :=
 ⟨Below.next hw (Below.box _),rfl,rfl,sI,by simp;exact hw.size,World.ownsRow_made wb #[] 0 hw.size (EO _) sI,sI⟩
theorem MSt.push {w wr wa ad:AD} {gB i cap n g c g' ae:Nat} {gs:List (Nat×Nat)} {M:List (List TRat)} {r:List TRat} (h:MSt w wr gB i cap n gs M) (T:Bw wr wa) (aj:RR (λb=>b<wr.1.size\/b=g) wa g n c r) (au:wr.1.size<=g)
  (ax:ad.ownsRow w.1.size 27 1 (S (B ⟨g',0,I⟩) (i+1) ae) (i+1) ((gs.map λg=>S (B ⟨g.1,0,I⟩) n g.2)++[S (B ⟨g,0,I⟩) n c])) (Y:wa.grownBy ad (B gB)) (H:g'=gB\/g'=wa.1.size):MSt w ad g' (i+1) ae n (gs++[(g,c)]) (M++[r]):=by
 have ai:w.1.size<=gB/\gB<wr.1.size:=FG h.ou _ rfl;have aB:=T.size;have az:=h.bl.size;have aA:=aj.lt;have Z:∀ b∈gs.map (·.1),b<wr.1.size:=λb E=>by obtain⟨q,ay,rfl⟩:=JX.1 E;obtain⟨k,D⟩:=KE.1 ay;have ar:=(DM.1 D).1;exact(h.ro k q _ D (DU (by rw[h.ml,<-h.gl];exact ar))).lt
 have af:gB∉gs.map (·.1):=(PR.1 h.nd).1;have an:g'∉gs.map (·.1):=λah=>by rcases H with rfl|rfl;exact af ah;have:=Z _ ah;omega
 have ao:g≠g':=λe=>by rcases H with rfl|rfl<;>omega
 refine⟨(Below.next h.bl T).grown Y oS (λk2 ap=>by injection ap with e;subst e;exact ai.1),by simp[h.gl],by simp[h.ml],?_,?_,by simpa using ax,?_⟩
 ·rw[OE,NF,NH]
  refine PR.2 ⟨?_,List.nodup_append.2 ⟨(PR.1 h.nd).2,sI,λa am b E e=>?_⟩⟩;·simp only[DV,List.mem_singleton,not_or];exact⟨an,λe=>ao e.symm⟩
  simp at E;have:=Z a am;omega
 ·intro b E
  rw[OE,NF,NH]at E;simp only[JH,DV,List.not_mem_nil,or_false]at E;rcases E with rfl|E|rfl
  ·rcases H with e|e<;>omega
  ·exact h.lo b (KQ _ E)
  omega
 intro k q al D O;by_cases ag:k<i
 ·rw[LD (by rw[h.gl];exact ag)]at D
  rw[LD (by rw[h.ml];exact ag)]at O;have aa:q.1∈gs.map (·.1):=JX.2 ⟨q,DH D,rfl⟩;have aw:q.1≠gB:=λe=>af (e ▸ aa)
  have W:RR (λc=>(c<w.1.size\/c∈gB::gs.map (·.1))\/wr.1.size<=c) wa q.1 n q.2 al:=by
   obtain⟨cells,fss,k1,k2,ab,ac,ak⟩:=h.ro k q al D O
   exact⟨cells,fss,I_ k1 T,k2.below T,ab,λc u G=>by
    rcases G with G|G;·exact ac c u G
    have:=k2.lt c u;omega,.inl (.inr (KQ _ aa))⟩
  have X:=W.grown Y (.inl (.inr (PS ..))) aw;refine X.weaken (λc _ u=>?_) (.inr (by rw[OE];exact KQ _ (List.mem_append_left _ aa)));rcases u with u|u
  ·exact .inl (.inl u)
  rw[OE,NF,NH]at u;simp only[JH,DV,List.not_mem_nil,or_false]at u ⊢;rcases u with rfl|u|rfl
  ·rcases H with e|e
   ·exact .inl (.inr (.inl e))
   exact .inr oS
  ·exact .inl (.inr (.inr u))
  exact .inr au
 have aq:k=i:=by have:=(DM.1 D).1;simp[h.gl]at this;omega
 subst aq;rw[MC (by rw[h.gl];exact CE _),h.gl,Nat.sub_self]at D;rw[MC (by rw[h.ml];exact CE _),h.ml,Nat.sub_self]at O;simp at D O;subst D;subst O
 have W:RR (λc=>(c<wr.1.size\/c=g)\/wa.1.size<=c) wa g n c r:=by
  obtain⟨cells,fss,k1,k2,ab,ac,ak⟩:=aj
  exact⟨cells,fss,k1,k2,ab,λc u G=>by
   rcases G with G|G;·exact ac c u G
   have:=k2.lt c u;omega,.inl ak⟩
 have X:=W.grown Y (.inl (.inl ai.2)) oS;refine X.weaken (λc _ u=>?_) (.inr (by rw[OE];exact KQ _ (List.mem_append_right _ sI)));rcases u with u|u
 ·exact .inl (.inl oS)
 rw[OE,NF,NH]at u;simp only[JH,DV,List.not_mem_nil,or_false]at u ⊢;rcases u with rfl|u|rfl
 ·rcases H with e|e
  ·exact .inl (.inl oS)
  exact .inr oS
 ·exact .inl (.inl (Z c u))
 exact .inl (.inr rfl)
section
variable {w U U':AD} {o i n cap:Nat} {gs:List (Nat×Nat)} {M:List (List TRat)}
theorem MSt.below (h:MSt w U o i cap n gs M) (hb:Bw U U'):MSt w U' o i cap n gs M :=
 ⟨Below.next h.bl hb,h.gl,h.ml,h.nd,h.lo,I_ h.ou hb,λk g r h1 h2=>(h.ro k g r h1 h2).below hb⟩
theorem MSt.row (h:MSt w U o i cap n gs M) {k:Nat} (D:k<i):∃ (g c:Nat) (r:List TRat),gs[k]?=B (g,c)/\M[k]?=B r/\U.cell? ⟨o,k,I⟩=B (S (B ⟨g,0,I⟩) n c)/\o<U.1.size/\RR (λb=>b<w.1.size\/b∈o::gs.map (·.1)) U g n c r/\g≠o:=by
 obtain⟨⟨g,c⟩,u⟩:∃ g,gs[k]?=B g:=⟨_,DU (by rw[h.gl];exact D)⟩
 obtain⟨r,E⟩:∃ r,M[k]?=B r:=⟨_,DU (by rw[h.ml];exact D)⟩
 refine⟨g,c,r,u,E,?_,(FG h.ou _ rfl).2,h.ro k (g,c) r u E,λe=>(PR.1 h.nd).1 (JX.2 ⟨(g,c),DH u,e⟩)⟩;rw[PU h.ou _ oS,IR,u];rfl
theorem MSt.set (h:MSt w U o i cap n gs M) {k j g c:Nat} {r:List TRat} (E:gs[k]?=B (g,c)) (aa:M[k]?=B r) (ag:j<n) {y:TRat} {O1:Option AJ} {o1 u1:Nat} {O2:Option AJ} {o2 u2:Nat} {T:List Nat} (ab:Agg U (.agg #[J y.1.1,S O1 o1 u1,S O2 o2 u2]) y T) (ad:∀ b∈T,b∉o::gs.map (·.1)) (ai:∀ b∈T,w.1.size<=b) :
  MSt w (((U.setCell ⟨g,j*3,I⟩ (J y.1.1)).setCell ⟨g,j*3+1,I⟩ (S O1 o1 u1)).setCell ⟨g,j*3+2,I⟩ (S O2 o2 u2)) o i cap n gs (M.set k (r.set j y)):=by
 have X:g∈gs.map (·.1):=JX.2 ⟨(g,c),DH E,rfl⟩;have W:=h.lo g (KQ _ X);have ae:g∈o::gs.map (·.1):=KQ _ X;have am:g≠o:=λe=>(PR.1 h.nd).1 (e ▸ X)
 have Z:∀ b,b≠g->(((U.setCell ⟨g,j*3,I⟩ (J y.1.1)).setCell ⟨g,j*3+1,I⟩ (S O1 o1 u1)).setCell ⟨g,j*3+2,I⟩ (S O2 o2 u2)).1[b]?=U.1[b]?:=λb u =>
  (GA _ _ _ b (by simpa using u)).trans ((GA _ _ _ b (by simpa using u)).trans (GA _ _ _ b (by simpa using u)))
 have an:(((U.setCell ⟨g,j*3,I⟩ (J y.1.1)).setCell ⟨g,j*3+1,I⟩ (S O1 o1 u1)).setCell ⟨g,j*3+2,I⟩ (S O2 o2 u2)).1.size=U.1.size:=by simp[World.setCell]
 refine⟨((h.bl.setCell (p:=⟨g,_,I⟩) W _).setCell (p:=⟨g,_,I⟩) W _).setCell (p:=⟨g,_,I⟩) W _,h.gl,by simpa using h.ml,h.nd,h.lo,h.ou.kept (row:=B g) ⟨rfl,rfl,rfl,oS,λk _ ah=>Z k (λe=>ah (by rw[e]))⟩ ?_,λO q al G H=>?_⟩;·show B o=I\/B o≠B g;exact .inr oR
 by_cases af:O=k
 ·subst af
  obtain rfl:(g,c)=q:=by rw[E]at G;exact IJ G
  rw[QB (by have:=(DM.1 aa).1;omega)]at H;cases H
  exact(h.ro O (g,c) r E aa).set ag ab (λb u ac=>by
   rcases ac with D|D;·have:=ai b u;omega
   exact ad b u D)
 rw[JU oS]at H
 have ak:g≠q.1:=λe=>by
  have D:(gs.map (·.1))[k]?=B g:=by rw[IR,E];rfl
  have Y:(gs.map (·.1))[O]?=B g:=by rw[IR,G,e];rfl
  have aj:=(PR.1 h.nd).2;have k1:=(DM.1 D).1;have k2:=(DM.1 Y).1;have:=(List.getElem_inj (h₀:=k1) (h₁:=k2) aj).1 (by rw[(DM.1 D).2,(DM.1 Y).2]);omega
 exact(h.ro O q al G H).keep g (.inr ae) ak oS rfl rfl rfl Z
theorem MSt.ltAll (h:MSt w U o i cap n gs M):∀ b∈o::gs.map (·.1),b<U.1.size:=by
 intro b u;rcases JH.1 u with rfl|u
 ·exact(FG h.ou _ rfl).2
 obtain⟨q,G,rfl⟩:=JX.1 u;obtain⟨k,D⟩:=KE.1 G;have E:=(DM.1 D).1;exact(h.ro k q _ D (DU (by rw[h.ml,<-h.gl];exact E))).lt
theorem MSt.sl (h:MSt w U o i cap n gs M):∃ bs,Sl U (B ⟨o,0,I⟩) i cap M bs/\∀ b∈bs,w.1.size<=b:=by
 have an:∀ k,k<i->∃ g c r bs,gs[k]?=B (g,c)/\M[k]?=B r/\Sl U (B ⟨g,0,I⟩) n c r bs/\∀ b∈bs,w.1.size<=b:=λk G=>by
  obtain⟨g,c,r,W,Z,_,_,ah,_⟩:=h.row G;obtain⟨bs,O,D⟩:=ah.sl;refine⟨g,c,r,bs,W,Z,O,λb ai=>?_⟩;rcases D b ai with rfl|af;·exact h.lo b (KQ _ (JX.2 ⟨(b,c),DH W,rfl⟩))
  exact Nat.le_of_not_lt (λag=>af (.inl ag))
 have aj:∀ m,m<=i->∃ fss:List (List Nat),fss.length=m/\∀ (k:Nat) (q:Nat×Nat) (r:List TRat) (u:List Nat),k<m->gs[k]?=B q->M[k]?=B r->fss[k]?=B u->Sl U (B ⟨q.1,0,I⟩) n q.2 r u/\∀ b∈u,w.1.size<=b:=by
  intro m;induction m with
  |zero=>exact λ_=>⟨[],rfl,λi g r u ab=>absurd ab (Nat.not_lt_zero _)⟩
  |succ m ih =>
   intro aq
   obtain⟨fss,H,T⟩:=ih oS
   obtain⟨g,c,r,bs,W,Z,O,D⟩:=an m oS
   refine⟨fss++[bs],by simp[H],λk q ap u ab X aa E=>?_⟩
   by_cases al:k<m
   ·rw[LD oS]at E
    exact T k q ap u al X aa E
   obtain rfl:k=m:=oS
   rw[<-H]at E
   simp at E
   rw[W]at X;rw[Z]at aa
   cases X;cases aa
   rw[<-E];exact⟨O,D⟩
 obtain⟨fss,H,T⟩:=aj i (CE _)
 have ak:Filled U (gs.map λg=>S (B ⟨g.1,0,I⟩) n g.2) M fss:=by
  refine⟨by rw[H,h.ml],by simp[h.ml,h.gl,DZ],λk x u ae E=>?_⟩;have G:k<i:=by rw[<-h.ml];exact(DM.1 ae).1
  obtain⟨q,ad⟩:∃ q,gs[k]?=B q:=⟨_,DU (by rw[h.gl];exact G)⟩
  refine⟨B ⟨q.1,0,I⟩,n,q.2,?_,(T k q x u G ad ae E).1⟩
  exact B0l (λj ac=>by
   have:j=0:=by simp[DZ]at ac;exact ac
   subst this;simp[DZ,ad]) rfl
 obtain⟨A,c,bs,ao,O,am⟩:=ak.sl (α:=List TRat) h.ou h.ml;cases ao;refine⟨bs,O,λb D=>?_⟩;rcases am with⟨_,rfl⟩|⟨g',e,rfl,_⟩;·simp at D
 simp[JD]at e;subst e;rcases JH.1 D with rfl|D
 ·exact h.lo _ (PS ..)
 obtain⟨u,E,D⟩:=LG.1 D;obtain⟨k,G⟩:=KE.1 E;have Y:k<i:=by rw[<-H];exact(DM.1 G).1
 exact(T k _ _ u Y (DU (by rw[h.gl];exact Y)) (DU (by rw[h.ml];exact Y)) G).2 b D
end
def IRow (w:AD) (base g n:Nat) (fs:List Int):Prop:=w.ownsRow base 3 1 (S (B ⟨g,0,I⟩) n n) n (fs.map (RH RD))
theorem IRow.cell {w:AD} {base g n:Nat} {b:List Int} (h:IRow w base g n b) {j:Nat} {f:Int} (u:b[j]?=B f):w.cell? ⟨g,j,I⟩=B (RH RD f)/\w.frozen? ⟨g,j,I⟩=AH:=by
 have D:=(DM.1 u).1;have E:b.length=n*1:=by have:=h.1;simpa using this
 exact⟨by rw[PU h j oS,IR,u];rfl,World.ownsRow.frozenAt h j⟩
theorem IRow.lt {w:AD} {base g n:Nat} {fs:List Int} (h:IRow w base g n fs):g<w.1.size:=(FG h _ rfl).2
theorem IRow.set {w:AD} {base g n:Nat} {b:List Int} (h:IRow w base g n b) (j:Nat) (f:Int):IRow (w.setCell ⟨g,j,I⟩ (RH RD f)) base g n (b.set j f):=by
 unfold IRow;rw[List.map_set];exact(MM h j _).1
theorem IRow.below {w w':AD} {base g n:Nat} {fs:List Int} (h:IRow w base g n fs) (hb:Bw w w'):IRow w' base g n fs:=I_ h hb
theorem IRow.sl {w:AD} {base g n:Nat} {b:List Int} (h:IRow w base g n b) (hi:∀ x∈b,I64 x):∃ bs,Sl w (B ⟨g,0,I⟩) n n b bs/\(∀ w0:AD,w0.1.size<=base->Own w0 w bs):=by
 have H:b.length=n:=by have:=h.1;simpa using this
 have G:Filled w (b.map (RH RD)) b (List.replicate b.length []):=Filled.ints (by rw[List.take_of_length_le sI]) hi sI;obtain⟨A,c,bs,T,O,D⟩:=G.sl (α:=Int) h H;cases T;refine⟨bs,O,λw0 Z=>?_⟩;rw[B0k]at D;rcases D with⟨_,rfl⟩|⟨g',Y,rfl,X,E⟩
 ·exact Own.nil _ _
 exact⟨sI,λW u=>by simp at u;subst u;exact⟨oS,E⟩⟩
end
end Go.Proofs.YtjcanieccnljfaaGreat.X

namespace Go.XB
open Go.RowKit
section
variable {P:Program} {l:List CZ} {R:Nat->DP} {C:AD->Prop} {a0:Act} {base:Nat}
def C5y (o:CZ):Bool:=o.guard.isNone&&match o.op with | .extract _ _=>AF|_=>AH
def D6j (l:List CZ) (m s:Nat):Bool :=
 let R:=D4m l (GE l.length).reverse [m]
 decide (s<m)&&((GE m).all λk=>k==s || R.contains k)&&(match l[m]? with|some o=>o.guard.isNone&&!(N_ o).contains s|none=>AH)&&(match l[m+1]? with|some o=>(N_ o).contains s|none=>AF)&&(match l[s]? with|some o=>C5y o|none=>AH)
theorem E0x {o:CZ} (h:C5y o=AF) (u:Operand->AU) {w D:AD} {n:Next} (b:(IY u o).run P w=.ok n D):∃ v,n=.value v/\D=w/\∀ w',(IY u o).run P w'=.ok (.value v) w':=by
 unfold C5y at h;simp only[DJ]at h;obtain⟨_,h⟩:=h;cases E:o.op with
 |extract x i =>
  unfold IY at b ⊢
  simp only[E]at b ⊢
  unfold Instr.extract at b ⊢
  cases H:u x with
  |tuple vs =>
   simp only[H]at b ⊢
   cases G:vs[i]? with
   |some v =>
    simp only[G]at b ⊢
    have e:(Result.ok (Next.value v) w:Result Next)=.ok n D:=b
    cases e
    exact⟨v,rfl,rfl,λ_=>rfl⟩
   |none=>simp only[G]at b;cases b
  |_=>simp only[H]at b;cases b
 |_=>rw[E]at h;cases h
theorem E2r (a:Act) {d e:Option Tmp} (h:∀ t,d=B t->e=B t->False) (u v:AU):(a.put d u).put e v=(a.put e v).put d u:=by
 cases d with
 |none=>cases e<;>rfl
 |some d =>
  cases e with
  |none=>rfl
  |some e =>
   have b:d≠e:=λD=>h d rfl (by rw[D])
   simp only[Act.put]
   congr 1
   exact Array.setIfInBounds_comm _ _ (by first|exact b|exact b.symm)
theorem F2n {Q:Exit->Act->AD->Prop} {K:Act->AD->Prop} {a:Act} {w:AD} {i:Nat} {o:CZ} (u:l[i]?=B o) (b:o.guard=I) (h:CZ.wp P o a w K Q):wpOp P l.toArray Q i K a w:=by
 unfold wpOp;simp only[List.getElem?_toArray,u];rw[if_pos (by unfold Region.wanted;rw[b])];exact .inl h
theorem D5x {Q:Exit->Act->AD->Prop} {N m s:Nat} {X:CZ} (Z:l[m]?=B X) (a9:B0h l=AF) (a8:∀ w w',C w->base<=w.1.size->Bw w w'->C w') (ao:a0.tmps.size=N) (af:B1r l N=AF) (ap:D6j l m s=AF) (an:C7f l m=AF)
  (aY:∀ i o,i<m->l[i]?=B o->part P l R C a0 i o) (aR:∀ i o,i<m->l[i]?=B o->Cong (R i) (N_ o))
  (aQ:∀ (y:Nat->AU) (z:Nat->List Nat) (w:AD),C w->(∀ i,i<m->(R i y).p (y i) (z i) w/\∀ b∈z i,base<=b/\b<w.1.size)->(∀ i j,i≠j->i<m->j<m->∀ b∈z i,b∉z j) ->
   ∃ w',(IY (L_ l y a0 (GE m)).eval X).run P w=.ok .skip w'/\wpList P l.toArray Q (l.drop (m+1)) ((L_ l y a0 (GE m)).put X.dst FX) w')
  (ar:∀ (listed:Array Bool),listed.size=l.length->Region.ready .any l.toArray listed=[]->∀ i,i<l.length->listed.getD i AH=AF) :
  ∀ (fuel:Nat) (listed:Array Bool) (a:Act) (w:AD) (y:Nat->AU) (z:Nat->List Nat),listed.size=l.length->(listed.toList.filter (λb=>!b)).length<=fuel->(∀ k,m<=k->k<l.length->listed.getD k AH=AH) ->
   St l R C a0 base listed a w y z->wpAny P .any l.toArray Q fuel listed a w:=by
 obtain⟨a1,a2,aM,a3⟩:=B4d af;have aZ:m<l.length:=(DM.1 Z).1;simp only[D6j,Z,DJ,decide_eq_true_eq,CU]at ap;obtain⟨⟨⟨⟨bB,ap⟩,be,bq⟩,aW⟩,aO⟩:=ap;have bf:X.guard=I:=by simpa using be
 have a4:s∉N_ X:=by simpa using bq
 obtain⟨E,T⟩:∃ E,l[s]?=B E:=⟨_,DU oS⟩
 rw[T]at aO;have aF:∀ (i:Nat) (o:CZ),l[i]?=B o->∀ e∈N_ o,e<i:=λi o bo e ag=>by have h:=a9;unfold B0h at h;rw[CU]at h;have D:=h (o,i) (by rw[KE];exact⟨i,by simp[List.getElem?_zipIdx,bo]⟩);simp only[CU,decide_eq_true_eq]at D;exact D e ag
 intro fuel;induction fuel with
 |zero=>intro listed a w y z W bd O H;have:=C1v W O;omega
 |succ fuel ih =>
  intro listed a w y z W bd O H
  refine⟨λaD=>(by have:=ar listed W aD m aZ;rw[O m (CE _) aZ]at this;cases this),λi aj=>?_⟩
  obtain⟨o,aa,bv,a7,bm,au⟩:=C4i W aj
  have aV:i<listed.size:=oS
  have ac:=C7h aV
  have bt:=A8y listed.toList i bm
  rcases Nat.lt_trichotomy i m with ak|ak|ak
  ·refine D8o rfl (ao ▸ af) H aa a7 au (aY i o ak aa) λv bs w' aq bc aG=>?_
   refine ih _ _ w' _ _ (by simpa using W) ?_ (λk h D=>by rw[ac,if_neg oS];exact O k h D) (C6g ao a2 aM H aa aV a7 W (λj aB Y aJ=>aR j aB (by
    have ax:=(DM.1 Y).1;rcases CG j m with h|h
    ·exact h
    rcases aJ with G|G;·omega
    rw[O j h ax]at G;cases G) Y) au (a8 _ _ H.c H.hb aq) aq bc aG)
   rw[show(listed.setIfInBounds i AF).toList=listed.toList.set i AF by simp];omega
  ·subst ak
   obtain rfl:X=o:=by rw[Z]at aa;exact IJ aa
   have ah:∀ k,k<i->k≠s->listed.getD k AH=AF:=λk u ad =>
    (B0p (l:=l) (listed:=listed) (n:=i) (λk o bl _ u=>H.closed k o bl u) (λaB aX e ag=>by
     rw[aa]at aX;cases aX;exact au e ag) (GE l.length).reverse [i] (λk u=>by simp at u;exact .inl u) k
     (by have:=ap k (List.mem_range.2 u);simp only[Bool.or_eq_true,beq_iff_eq,List.contains_iff_mem]at this;exact this.resolve_left ad)).resolve_left oS
   refine F2n Z bf ?_
   cases al:listed.getD s AH with
   |true =>
    have ai:∀ k,k<i->listed.getD k AH=AF:=λk u=>if ad:k=s then ad ▸ al else ah k u ad
    have aE:=D9r af H ai O
    obtain⟨w',ae,G⟩:=aQ y z w H.c (λi aj=>H.facts i (ai i aj)) (λi j bg aj Y=>H.disj i j bg (ai i aj) (ai j Y))
    rw[<-aE]at G ae
    unfold CZ.wp
    rw[ae]
    show wpAny P .any l.toArray Q fuel (listed.setIfInBounds i AF) (a.put X.dst FX) w'
    refine C4e an ar fuel (i+1) _ _ _ oS oS (by simpa using W) (by have:=C1v W O;omega) (λk u=>?_) G
    rw[ac]
    split
    ·rename_i h;subst h;simp
    ·rcases CG k i with D|D
     ·rw[ai k D];simp;omega
     ·rw[O k D u];simp;omega
   |false =>
    have am:s<listed.size:=oS
    have aI:∀ e∈N_ E,listed.getD e AH=AF:=λe ag=>by have:=aF s E T e ag;exact ah e oS oS
    have bn:=F2l ao af H T al aI
    have aU:E.guard=I:=by have G:C5y E=AF:=aO;unfold C5y at G;simp only[DJ,Option.isNone_iff_eq_none]at G;exact G.1
    have ab:=aY s E oS T y z w H.c (λk u=>(H.facts k (aI k u)).1)
    rw[if_pos (by unfold Region.wanted;rw[aU])]at ab
    unfold B2b at ab
    obtain⟨vs,aK,aq,bs,ba,aG⟩:∃ vs,(∀ w',(IY (L_ l y a0 (N_ E)).eval E).run P w'=.ok (.value vs) w')/\Bw w w/\∃ bs,(R s y).p vs bs w/\∀ b∈bs,w.1.size<=b/\b<w.1.size:=by
     cases aL:(IY (L_ l y a0 (N_ E)).eval E).run P w with
     |ok n w1 =>
      obtain⟨vs,rfl,rfl,aK⟩:=E0x (show C5y E=AF from aO) _ aL
      rw[aL]at ab
      exact⟨vs,aK,ab.1,ab.2⟩
     |halt x w1=>rw[aL]at ab;exact ab.elim
    have aP:=C6g ao a2 aM H T am al W (λj aB Y aJ=>aR j aB (by
     have ax:=(DM.1 Y).1;rcases CG j i with h|h
     ·exact h
     rcases aJ with G|G;·omega
     rw[O j h ax]at G;cases G) Y) aI H.c aq ba aG
    have a5:=C7h am
    have aw:∀ k,k<i->(listed.setIfInBounds s AF).getD k AH=AF:=λk u=>by
     rw[a5];split;·rfl
     rename_i ad;exact ah k u ad
    have aE:=D9r af aP aw λk u bk=>by rw[a5,if_neg oS];exact O k u bk
    obtain⟨w',ae,G⟩:=aQ _ _ w H.c (λk u=>aP.facts k (aw k u)) (λk j bj u Y=>aP.disj k j bj (aw k u) (aw j Y))
    rw[<-aE]at G ae
    rw[A4e (a':=a) (λaC b=>Region.noSelect_spec a1 i X aC b (by simpa using Z)) λt az=>by
     rw[B1q,if_neg];rintro⟨aH,_⟩;rcases a3 i X Z t az s E T aH with h|h
     ·exact a4 h
     have:=aF s E T i h;omega]at ae
    unfold CZ.wp
    rw[ae]
    show wpAny P .any l.toArray Q fuel (listed.setIfInBounds i AF) (a.put X.dst FX) w'
    have bA:=C1v W O
    have aN:=ac s
    rw[if_neg oS,al]at aN
    have a6:(listed.setIfInBounds i AF).size=l.length:=by simpa using W
    have bu:=A8y (listed.toList.set i AF) s (by
     have:listed[s]=AH:=by simpa[JL,am]using al
     rw[JU oS];simp[am,this])
    obtain⟨f,rfl⟩:∃ f,fuel=f+1:=⟨fuel - 1,oS⟩
    refine⟨λaD=>(by have:=ar _ a6 aD s oS;rw[aN]at this;cases this),λj Y=>?_⟩
    obtain⟨br,ay,ax,aA,bz,aT⟩:=C4i a6 Y
    have bi:j=s:=by
     rcases Nat.lt_trichotomy j i with h|h|h
     ·rcases Nat.decEq j s with D|D
      ·rw[ac,if_neg oS,ah j h D]at aA;cases aA
      exact D
     ·rw[h,ac,if_pos rfl]at aA;cases aA
     exfalso;by_cases bh:j=i+1;·subst bh;rw[ay]at aW;have:=aT s (by simpa using aW);rw[aN]at this;cases this
     have:=aT _ (B1j an ay h);rw[ac,if_neg oS,O (j - 1) oS oS]at this;cases this
    subst bi
    obtain rfl:E=br:=by rw[T]at ay;exact IJ ay
    refine F2n T aU ?_
    unfold CZ.wp
    rw[A4e (a':=L_ l y a0 (N_ E)) (λaC b=>Region.noSelect_spec a1 j E aC b (by simpa using T)) λt az=>by
     rw[B1q,if_neg];·exact bn t az
     rintro⟨aH,_⟩;rcases a3 j E T t az i X Z aH with h|h;·have:=aF j E T i h;omega
     exact a4 h,aK w']
    show wpAny P .any l.toArray Q f ((listed.setIfInBounds i AF).setIfInBounds j AF) ((a.put X.dst FX).put E.dst vs) w'
    rw[E2r a (λt h D=>by have:=aM i j t (by simp[opAt,Z,h]) (by simp[opAt,T,D]);omega)]
    have aS:∀ k,k<l.length->((listed.setIfInBounds i AF).setIfInBounds j AF).getD k AH=decide (k<i+1):=λk u=>by
     rw[C7h (by simpa using am),ac];split;·simp;omega
     split;·rename_i h;subst h;simp
     rcases CG k i with D|D;·rw[ah k D (by assumption)];simp;omega
     rw[O k D u];simp;omega
    have bp:=C1v (listed:=(listed.setIfInBounds i AF).setIfInBounds j AF) (p:=i+1) (by simpa using W) λk h D=>by rw[aS k D];simp;omega
    rw[show((listed.setIfInBounds i AF).setIfInBounds j AF).toList=(listed.toList.set i AF).set j AF by simp]at bp
    exact C4e an ar f (i+1) _ _ _ oS oS (by simpa using W) oS aS G
  have h:=au _ (B1j an aa ak)
  rw[O (i - 1) oS oS]at h
  cases h
theorem B8f {ai:Nat} {Q:Exit->Act->AD->Prop} {w:AD} (m s:Nat) (T:CZ) (X:l[m]?=B T) (ag:P.follows .mixedOrders=AF) (aa:B1r l a0.tmps.size=AF) (E:B0h l=AF) (ad:D6j l m s=AF) (ac:C7f l m=AF)
  (h:A4c P l w a0 (λRs=>∀ (y:Nat->AU) (z:Nat->List Nat) (w':AD),Bw w w'->A0r w w' y z 0 (Rs.take m) ->
   D8m z m->∃ w2,(IY (L_ l y a0 (GE m)).eval T).run P w'=.ok .skip w2/\wpList P l.toArray Q (l.drop (m+1)) ((L_ l y a0 (GE m)).put T.dst FX) w2) (l.take m) []):(Code.region ai l.toArray AF).wp P Q a0 w:=by
 have ak:m<l.length:=(DM.1 X).1;have aj:(l.take m).length=m:=oR;have G:∀ j,j<(l.take m).length->(l.take m)[j]?=l[j]?:=λj W=>by rw[JM,if_pos oS]
 obtain⟨Rs,ab,_,Y⟩:=B2h E (l.take m) [] (λj W=>by simpa using G j W) h;refine wp_region_any ag ?_
 refine D5x (m:=m) (s:=s) X E (R:=λi=>Rs.getD i (λ_=>MP.eq FX)) (C:=λw'=>Bw w w') (a0:=a0) (base:=w.1.size) (λam w2 b u D=>b.trans (D.mono u)) rfl aa ad ac
  (λi o ae O=>by have:=(A5f (l.take m) 0 Y i o (by rw[G i oS];exact O)).2;rwa [LJ]at this)
  (λi o ae O=>by have:=(A5f (l.take m) 0 Y i o (by rw[G i oS];exact O)).1;rwa [LJ]at this)
  (λy z w' b u D=>ab y z w' b (B6a _ 0 λk al H=>?_) D) (λlisted ah Z=>B6j E listed ah Z) _ _ a0 _ _ _ sI sI (λk _ _=>?_) D7k
 ·rw[LJ,JM]at *
  split at H;·rename_i af;have:=u k af;simpa[List.getD_eq_getElem?_getD,H]using this
  cases H
 rw[JL,Array.getElem?_replicate];split<;>rfl
end
end Go.XB

namespace Go.XB
open Go.RowKit
structure TByte where
 v:Int
 deriving DecidableEq
instance:Dat TByte where
 sz:=1
 pos:=dE
 at_:=λ_ cs x bs=>cs=[RH .u8 x.v]/\bs=[]/\0<=x.v/\x.v<256
 len:=λh=>by rw[h.1];rfl
 one:=λh u hu=>by rw[h.1]at hu;simp at hu;subst hu;rfl
 lt:=λh b hb=>by rw[h.2.1]at hb;simp at hb
 keep:=λh _=>h
theorem Sl.getByte {w:AD} {A:Option AJ} {n c:Nat} {xs:List TByte} {bs:List Nat} (h:Sl w A n c xs bs) {k:Nat} (ag:k<n) :
  ∃ b off x,A=B ⟨b,off,I⟩/\b<w.1.size/\b∈bs/\(0<=x/\x<256)/\w.cell? ⟨b,off+k,I⟩=B (RH .u8 x):=by
 obtain⟨ac,ad,ae,af,G⟩:=h;obtain⟨b,off,u,H,W,ah,T,Y⟩:=G oS;have aa:xs[k]?=B (xs[k]'oS):=DU oS;have Z:u[k]?=B (u[k]'oS):=DU oS;obtain⟨ab,X,O⟩:=Y k _ _ aa Z;obtain⟨D,_,E⟩:=O;refine⟨b,off,(xs[k]'oS).v,H,T,by rw[W];simp,E,?_⟩;have:=X 0 (RH .u8 (xs[k]'oS).v) (by rw[D];rfl);simpa[DZ]using this
end Go.XB
namespace Go.Proofs.YtjcanieccnljfaaGreat.X
open Go.RowKit Go.XB Proofs.Tryz
attribute [local go_sem] L_ opAt N_ M_ Region.wanted yielded
attribute [local simp] N_ M_ MP.eq MP.agg MP.sl A0r
theorem D6p (a:Int):0<=bits .and RD a 255/\bits .and RD a 255<256:=by
 have b:bits .and RD a 255=RD.wrap ((BitVec.ofInt 64 a &&& BitVec.ofInt 64 255).toNat):=rfl;have h:(BitVec.ofInt 64 a &&& BitVec.ofInt 64 255).toNat<=255:=by rw[BitVec.toNat_and];exact Nat.le_trans Nat.and_le_right dE
 rw[b,IntWalk.i64_in _ oS];omega
theorem C0x (w:AD) (g o:Nat) (v:AU):w.grownBy (w.setCell ⟨g,o,I⟩ v) (B g) :=
 ⟨rfl,rfl,rfl,sI,λk _ hne=>GA w ⟨g,o,I⟩ v k (λe=>hne (by rw[e]))⟩
theorem A6m {w w':AD} (hb:Bw w w') (r:Option Nat):w.grownBy w' r:=⟨hb.os,hb.tape,hb.output,hb.size,λk hk _=>hb.block k hk⟩
def Cur (w:AD) (g:Nat) (A:Option AJ) (n c:Nat):Prop:=∃ (i:Nat) (h:Int),i<=n/\g<w.1.size/\w.cell? ⟨g,0,I⟩=B (S A n c)/\w.cell? ⟨g,1,I⟩=B (RH RD i)/\w.cell? ⟨g,2,I⟩=B (RH RD h)/\w.frozen? ⟨g,1,I⟩=AH/\w.frozen? ⟨g,2,I⟩=AH
def C9r (w:AD) (g:Nat) (A:Option AJ) (n c:Nat) (m:Int) (e:Ending) (w':AD):Prop:=∃ x:Int,e=.returned (RH RD x)/\(0<=x/\x<m)/\Cur w' g A n c/\w.grownBy w' (B g)

theorem D2v (g:Nat) (A:Option AJ) (n c:Nat) (xs:List TByte) (bs:List Nat) (w:AD) (ao:Sl w A n c xs bs) (aZ:n<=1048576) (aM:Cur w g A n c) (ak:g∉bs) :
  Calls prog 84 #[.pointer (B ⟨g,0,I⟩)] w (C9r w g A n c 256):=by
 obtain⟨i,aV,aN,aC,au,aw,ax,ay,az⟩:=aM;have aT:=A_ ao;rcases CG i n with aB|aB
 ·obtain⟨H,aa,x,rfl,aI,aj,a2,aF⟩:=Sl.getByte ao aB
  have aW:H≠g:=λe=>ak (e ▸ aj);have aX:g≠H:=λe=>ak (e ▸ aj);have aO:(i:Int)<n:=oS;have aY:(0:Int)<=i:=oS;clear ao ak aj;go_enter func84,ntmps84;go_wp2_with fail;refine A0g ?_;iterate 13 refine C_ _ ?_
  intro X ai u b h (T:Hid _);simp at h;have ab:=h.2.2.2.2.2.2.2.2.2.2.2.2;obtain⟨G,aG,aA⟩:∃ G,X 12=RH RD G/\(0<=G/\G<256):=⟨_,ab.1.1,D6p _⟩
  obtain⟨O,W⟩:=F_ b;have an:=b.size;simp at an;have af:u.cell? ⟨g,0,I⟩=B (S (B ⟨H,aa,I⟩) n c):=by go_simp
  have k1:u.cell? ⟨g,1,I⟩=B (RH RD i):=by go_simp
  obtain⟨E,k2⟩:∃ E,u.cell? ⟨g,2,I⟩=B (RH RD E):=⟨_,by go_simp;first|done|rfl⟩
  have aR:u.cell? ⟨H,aa+i,I⟩=B (RH .u8 x):=by go_simp
  have ag:u.frozen? ⟨g,1,I⟩=AH:=by go_simp
  have ah:u.frozen? ⟨g,2,I⟩=AH:=by go_simp
  have Z:=A_ (show w.grownBy u (B g)from(C0x w g 2 _).trans (A6m b _));have al:g<u.1.size:=oS;have aK:H<u.1.size:=oS;clear h T ab O W b au aw ax ay az aF aC aI;go_simp;go_wp2_with fail;refine A0g ?_;iterate 10 refine C_ _ ?_
  intro X ai D b h (T:Hid _);simp at h;have ac:=h.2.2.2.2.2.2.2.2.2;have aH:X 9=J AF:=by rw[ac.1.1]
  obtain⟨O,W⟩:=F_ b;have aQ:=b.size;have ap:D.cell? ⟨g,0,I⟩=B (S (B ⟨H,aa,I⟩) n c):=by go_simp
  have m1:D.cell? ⟨g,1,I⟩=B (RH RD i):=by go_simp
  have m2:D.cell? ⟨g,2,I⟩=B (RH RD E):=by go_simp
  have aS:D.cell? ⟨H,aa+i,I⟩=B (RH .u8 x):=by go_simp
  have aq:D.frozen? ⟨g,1,I⟩=AH:=by go_simp
  have ar:D.frozen? ⟨g,2,I⟩=AH:=by go_simp
  have ae:=A_ (Z.trans (A6m b (B g)));have am:g<D.1.size:=oS;have aL:H<D.1.size:=oS;clear h T ac O W b af k1 k2 aR ag ah al aK Z;go_simp;go_wp2_with fail;refine A0g ?_;iterate 15 refine C_ _ ?_
  intro X ai Y b h (T:Hid _);simp at h;have aD:=h.2.2.2.2.2.2.2.2.2.2.2.2.2.2;obtain⟨ad,aU,aJ⟩:∃ ad,X 14=RH RD ad/\(0<=ad/\ad<256):=⟨_,aD.1.1,D6p _⟩
  obtain⟨O,W⟩:=F_ b;have a1:=b.size;have af:Y.cell? ⟨g,0,I⟩=B (S (B ⟨H,aa,I⟩) n c):=by go_simp
  have k1:Y.cell? ⟨g,1,I⟩=B (RH RD i):=by go_simp
  have k2:Y.cell? ⟨g,2,I⟩=B (RH RD E):=by go_simp
  have ag:Y.frozen? ⟨g,1,I⟩=AH:=by go_simp
  have ah:Y.frozen? ⟨g,2,I⟩=AH:=by go_simp
  have aE:=A_ (ae.trans (A6m b (B g)));have aP:g<Y.1.size:=oS;clear h T aD O W b ap m1 m2 aS aq ar am aL ae;go_simp;go_wp2;go_ret;refine⟨ad,rfl,aJ,⟨i+1,E,oS,by simpa using aP,by go_simp,by first|(go_simp;done)|(go_simp;go_num),by go_simp,by go_simp,by go_simp⟩,aE.trans (C0x Y g 1 _)⟩
 have aO:¬ ((i:Int)<n):=oS;go_enter func84,ntmps84;go_wp2_with fail;refine A0g ?_;iterate 13 refine C_ _ ?_
 intro X ai u b h (T:Hid _);simp at h;have ab:=h.2.2.2.2.2.2.2.2.2.2.2.2;obtain⟨G,aG,aA⟩:∃ G,X 12=RH RD G/\(0<=G/\G<256):=⟨_,ab.1.1,D6p _⟩
 obtain⟨O,W⟩:=F_ b;have an:=b.size;simp at an;have af:u.cell? ⟨g,0,I⟩=B (S A n c):=by go_simp
 have k1:u.cell? ⟨g,1,I⟩=B (RH RD i):=by go_simp
 obtain⟨E,k2⟩:∃ E,u.cell? ⟨g,2,I⟩=B (RH RD E):=⟨_,by go_simp;first|done|rfl⟩
 have ag:u.frozen? ⟨g,1,I⟩=AH:=by go_simp
 have ah:u.frozen? ⟨g,2,I⟩=AH:=by go_simp
 have Z:=A_ (show w.grownBy u (B g)from(C0x w g 2 _).trans (A6m b _));have al:g<u.1.size:=oS;clear h T ab O W b au aw ax ay az aC;go_simp;go_wp2_with fail;refine A0g ?_;iterate 10 refine C_ _ ?_
 intro X ai D b h (T:Hid _);simp at h;have ac:=h.2.2.2.2.2.2.2.2.2;have aH:X 9=J AH:=by rw[ac.1.1];simp;omega
 obtain⟨O,W⟩:=F_ b;have aQ:=b.size;have ap:D.cell? ⟨g,0,I⟩=B (S A n c):=by go_simp
 have m1:D.cell? ⟨g,1,I⟩=B (RH RD i):=by go_simp
 have m2:D.cell? ⟨g,2,I⟩=B (RH RD E):=by go_simp
 have aq:D.frozen? ⟨g,1,I⟩=AH:=by go_simp
 have ar:D.frozen? ⟨g,2,I⟩=AH:=by go_simp
 have ae:=A_ (Z.trans (A6m b (B g)));have am:g<D.1.size:=oS;clear h T ac O W b af k1 k2 ag ah al Z;go_simp;go_wp2;go_ret;exact⟨G,rfl,aA,⟨i,E,aN,am,ap,m1,m2,aq,ar⟩,ae⟩
end Go.Proofs.YtjcanieccnljfaaGreat.X
