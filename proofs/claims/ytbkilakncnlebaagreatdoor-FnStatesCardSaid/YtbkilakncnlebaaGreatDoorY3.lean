/- A part of the proof. -/
import Derived.Test.YtbkilakncnlebaaGreatDoorY2
set_option linter.constructorNameAsVariable false
set_option maxHeartbeats 16000000
set_option maxRecDepth 10000
open Array renaming getD_eq_getD_getElem?→IJ
open Bool renaming and_eq_true→CK,false→AF,true→AD
open Go renaming Addr→AH,Oper→BU,Value→AJ,World→J,execOp→GP,undef→DU
open Go.IntKind renaming i64→QO
open Go.RowKit.Below renaming heap_setCell→DQ
open Go.Value renaming bool→AC,int→QS,ownBlock→IR,slice→S
open Go.World.ownsRow renaming cellAt→OS,lt→EU,stored→MH
open Go.XB.Dat renaming sz→DL
open List renaming all_eq_true→BJ,getElem?_append_left→IV,getElem?_append_right→JO,getElem?_drop→MN,getElem?_eq_getElem→CV,getElem?_eq_some_iff→CQ,getElem?_map→IE,getElem?_set_ne→IZ,getElem?_set_self→OI,getElem?_take→IL,map_append→KJ,map_cons→JT,map_nil→LJ,mem_append→CO,mem_cons→EM,mem_cons_of_mem→JA,mem_cons_self→MZ,mem_flatten→JN,mem_iff_getElem?→JJ,mem_map→FM,mem_of_getElem?→CH,nodup_cons→MV,range→EZ
open Nat renaming add_mul→JZ,le_refl→BH,lt_or_ge→BN,mul_le_mul_right→JQ,one_mul→KE,zero_add→JM,zero_le→DV
open Option renaming none→I,some→B
open Option.some renaming inj→FR
namespace Go.XB
open Go.RowKit
section
variable {α:Type} [Dat α] {w w':J} {cells:List AJ} {xs:List α} {fss:List (List Nat)}
theorem Filled.put (h:Filled w cells xs fss) {k:Nat} (ab:k<xs.length) {y:α} {E:List Nat} {cs:List AJ} (G:Dat.at_ w cs y E) :
  Filled w (B3r cells (k*DL α) cs) (xs.set k y) (fss.set k E):=by
 obtain⟨T,W,X⟩:=h;have Y:=Dat.len G;have ad:0<DL α:=Dat.pos;have ac:(k+1)*DL α<=xs.length*DL α:=JQ _ ab;rw[JZ,KE]at ac;refine⟨by simp[T],by rw[B5p,List.length_set];exact W,λj x gs b u=>?_⟩;by_cases O:j=k
 ·subst O
  rw[OI oS]at b;rw[OI oS]at u;cases b;cases u;rw[B0l (cs:=cs) (λi H=>?_) Y];·exact G
  rw[getElem?_setFrom _ _ _ _ oS,if_pos oS,Nat.add_sub_cancel_left]
 rw[IZ oS]at b u;have Z:=(CQ.1 b).1;have aa:(j+1)*DL α<=xs.length*DL α:=JQ _ Z;rw[JZ,KE]at aa;have:=X j x gs b u;rw[B0l (cs:=(cells.drop (j*DL α)).take (DL α)) (λi H=>?_) oR];·exact this
 rw[getElem?_setFrom _ _ _ _ oS,if_neg ?_,IL,if_pos H,MN];rcases Nat.lt_or_gt_of_ne O with D|D
 ·have:(j+1)*DL α<=k*DL α:=JQ _ D;rw[JZ,KE]at this;omega
 have:(k+1)*DL α<=j*DL α:=JQ _ D;rw[JZ,KE]at this;omega
theorem C1t {P:Nat->Prop} {fss:List (List Nat)} {k:Nat} {D:List Nat} (h:∀ b∈fss.flatten,P b) (H:∀ b∈D,P b):∀ b∈(fss.set k D).flatten,P b:=by
 intro b G;obtain⟨gs,u,E⟩:=JN.1 G;rcases List.mem_or_eq_of_mem_set u with u|e
 ·exact h b (JN.2 ⟨gs,u,E⟩)
 exact H b (e ▸ E)
end
end Go.XB
namespace Go.Proofs.YtbkilakncnlebaaGreatDoor.X
open Go.RowKit Go.XB
section
def RR (bad:Nat->Prop) (w:J) (g n cap:Nat) (xs:List TRat):Prop :=
 ∃ cells fss,w.ownsRow 0 35 3 (S (B ⟨g,0,I⟩) n cap) n cells/\Filled w cells xs fss/\xs.length=n/\(∀ b∈fss.flatten,¬ bad b)/\bad g
section
variable {bad:Nat->Prop} {w w':J} {g n cap:Nat} {xs:List TRat}
theorem RR.len (h:RR bad w g n cap xs):xs.length=n:=by obtain⟨_,_,_,_,h,_⟩:=h;exact h
theorem RR.lt (h:RR bad w g n cap xs):g<w.1.size:=by obtain⟨_,_,h,_⟩:=h;exact(EU h _ rfl).2
theorem RR.below (h:RR bad w g n cap xs) (b:Bw w w'):RR bad w' g n cap xs:=by
 obtain⟨cells,fss,u,D,E,G,H⟩:=h;exact⟨cells,fss,I_ u b,D.below b,E,G,H⟩
theorem RR.keep (h:RR bad w g n cap xs) (u:Nat) (aa:bad u) (ad:u≠g) (ac:w.1.size<=w'.1.size) (H:w'.os=w.os) (T:w'.tape=w.tape) (X:w'.output=w.output) (E:∀ b,b≠u->w'.1[b]?=w.1[b]?):RR bad w' g n cap xs:=by
 obtain⟨cells,fss,G,O,W,D,Y⟩:=h;refine⟨cells,fss,G.kept (row:=B u) ⟨H,T,X,ac,λk _ ab=>E k (λe=>ab (by rw[e]))⟩ ?_,O.keep (λb Z=>E b (λe=>D b Z (e ▸ aa))),W,D,Y⟩;show B g=I\/B g≠B u;exact .inr oR
theorem RR.elem (h:RR bad w g n cap xs) {k:Nat} (ah:k<n) :
  ∃ (x:TRat) (A1:Option AH) (n1 c1:Nat) (A2:Option AH) (n2 c2:Nat) (fs:List Nat),xs[k]?=B x/\w.cell? ⟨g,k*3,I⟩=B (AC x.1.1)/\w.cell? ⟨g,k*3+1,I⟩=B (S A1 n1 c1)/\w.cell? ⟨g,k*3+2,I⟩=B (S A2 n2 c2)
   /\ w.frozen? ⟨g,k*3,I⟩=AF/\w.frozen? ⟨g,k*3+1,I⟩=AF/\w.frozen? ⟨g,k*3+2,I⟩=AF/\Agg w (.agg #[AC x.1.1,S A1 n1 c1,S A2 n2 c2]) x fs/\(∀ b∈fs,¬ bad b)/\g<w.1.size:=by
 obtain⟨cells,fss,u,O,af,T,ag⟩:=h;have Z:=EU u _ rfl;obtain⟨k1,k2,aa⟩:=O;obtain⟨x,H⟩:∃ x,xs[k]?=B x:=⟨_,CV oS⟩
 obtain⟨fs,G⟩:∃ fs,fss[k]?=B fs:=⟨_,CV oS⟩
 have W:=aa k x fs H G;obtain⟨A1,n1,c1,ab,A2,n2,c2,ac,e,rfl,ad,ae⟩:=TRat.open_ W
 have D:∀ j,j<3->w.cell? ⟨g,k*3+j,I⟩=([AC x.1.1,S A1 n1 c1,S A2 n2 c2]:List AJ)[j]?:=λj Y=>by
  rw[OS u _ oS,<-e,IL];show _=if j<3 then _ else _
  rw[if_pos Y,MN];rfl
 have E:∀ j,w.frozen? ⟨g,j,I⟩=AF:=λj=>World.ownsRow.frozenAt u j;refine⟨x,A1,n1,c1,A2,n2,c2,ab++ac,H,D 0 dE,D 1 dE,D 2 dE,E _,E _,E _,?_,λb X=>T b (JN.2 ⟨_,CH G,X⟩),Z.2⟩;exact TRat.mkAgg ad ae
theorem RR.set (h:RR bad w g n cap xs) {k:Nat} (af:k<n) {y:TRat} {O1:Option AH} {o1 u1:Nat} {O2:Option AH} {o2 u2:Nat} {D:List Nat} (Y:Agg w (.agg #[AC y.1.1,S O1 o1 u1,S O2 o2 u2]) y D) (H:∀ b∈D,¬ bad b) :
  RR bad (((w.setCell ⟨g,k*3,I⟩ (AC y.1.1)).setCell ⟨g,k*3+1,I⟩ (S O1 o1 u1)).setCell ⟨g,k*3+2,I⟩ (S O2 o2 u2)) g n cap (xs.set k y):=by
 obtain⟨cells,fss,T,W,X,E,G⟩:=h;obtain⟨ac,_⟩:=MH T (k*3) (AC y.1.1);obtain⟨ad,_⟩:=MH ac (k*3+1) (S O1 o1 u1);obtain⟨ae,_⟩:=MH ad (k*3+2) (S O2 o2 u2)
 have ab:∀ b,b≠g->(((w.setCell ⟨g,k*3,I⟩ (AC y.1.1)).setCell ⟨g,k*3+1,I⟩ (S O1 o1 u1)).setCell ⟨g,k*3+2,I⟩ (S O2 o2 u2)).1[b]?=w.1[b]?:=λb u =>
  (DQ _ _ _ b (by simpa using u)).trans ((DQ _ _ _ b (by simpa using u)).trans (DQ _ _ _ b (by simpa using u)))
 have Z:Dat.at_ w [AC y.1.1,S O1 o1 u1,S O2 o2 u2] y D:=by
  obtain⟨O,e,h⟩:=Y;have:O=[AC y.1.1,S O1 o1 u1,S O2 o2 u2]:=by simpa using e.symm
  rwa [this]at h
 have aa:=W.put (k:=k) oS Z;refine⟨_,_,ae,(aa.keep (w':=((w.setCell ⟨g,k*3,I⟩ (AC y.1.1)).setCell ⟨g,k*3+1,I⟩ (S O1 o1 u1)).setCell ⟨g,k*3+2,I⟩ (S O2 o2 u2)) (λb u=>ab b (λe=>?_))),by simpa using X,C1t E H,G⟩;exact C1t (P:=λb=>¬ bad b) E H b u (e ▸ G)
theorem RR.sl (h:RR bad w g n cap xs):∃ bs,Sl w (B ⟨g,0,I⟩) n cap xs bs/\∀ b∈bs,b=g\/¬ bad b:=by
 obtain⟨cells,fss,E,G,H,O,Y⟩:=h;obtain⟨A,c,bs,X,W,T⟩:=G.sl (α:=TRat) E H;cases X;refine⟨bs,W,λb u=>?_⟩;rcases T with⟨_,rfl⟩|⟨g',e,rfl,_⟩;·simp at u
 simp[IR]at e;rcases EM.1 u with D|u
 ·exact .inl (D.trans e.symm)
 exact .inr (O b u)
end
theorem B0o {w:J} {base:Nat} {e:TypeId} {size:Nat} {v:AJ} {n:Nat} {xs:List AJ} (h:w.ownsRow base e size v n xs):w.ownsRow 0 e size v n xs:=by
 obtain⟨D,b⟩:=h;refine⟨D,?_⟩;rcases b with b|⟨g,cap,u,E,G,b⟩;·exact .inl b
 exact .inr ⟨g,cap,u,E,DV _,b⟩
theorem RR.weaken {bad bad':Nat->Prop} {w:J} {g n cap:Nat} {xs:List TRat} (h:RR bad w g n cap xs) (O:∀ b,b<w.1.size->bad' b->bad b) (W:bad' g):RR bad' w g n cap xs:=by
 obtain⟨cells,fss,E,u,G,H,X⟩:=h;exact⟨cells,fss,E,u,G,λb D T=>H b D (O b (u.lt b D) T),W⟩
theorem RR.grown {bad:Nat->Prop} {w w':J} {g n cap:Nat} {xs:List TRat} {gB:Nat} (h:RR bad w g n cap xs) (G:w.grownBy w' (B gB)) (W:bad gB) (X:g≠gB):RR bad w' g n cap xs:=by
 obtain⟨cells,fss,H,u,O,D,T⟩:=h;refine⟨cells,fss,H.kept G ?_,u.keep (λb E=>G.block b (u.lt b E) (by intro e;injection e with e;exact D b E (e ▸ W))),O,D,T⟩;show B g=I\/B g≠B gB;exact .inr oR
structure MSt (w U:J) (o i cap n:Nat) (gs:List (Nat×Nat)) (M:List (List TRat)):Prop where
 bl:Bw w U
 gl:gs.length=i
 ml:M.length=i
 nd:(o::gs.map (·.1)).Nodup
 lo:∀ b∈o::gs.map (·.1),w.1.size<=b
 ou:U.ownsRow w.1.size 27 1 (S (B ⟨o,0,I⟩) i cap) i (gs.map λg=>S (B ⟨g.1,0,I⟩) n g.2)
 ro:∀ (k:Nat) (g:Nat×Nat) (r:List TRat),gs[k]?=B g->M[k]?=B r->RR (λb=>b<w.1.size\/b∈o::gs.map (·.1)) U g.1 n g.2 r
theorem MSt.start {w wb:J} {n:Nat} (hw:Bw w wb):MSt w (wb.alloc (.cells #[] 27)) wb.1.size 0 0 n [] [] :=
 ⟨Below.next hw (Below.box _),rfl,rfl,sI,by simp;exact hw.size,World.ownsRow_made wb #[] 0 hw.size (DV _) sI,sI⟩
theorem MSt.push {w wr wa ad:J} {gB i cap n g c g' ae:Nat} {gs:List (Nat×Nat)} {M:List (List TRat)} {r:List TRat} (h:MSt w wr gB i cap n gs M) (T:Bw wr wa) (aj:RR (λb=>b<wr.1.size\/b=g) wa g n c r) (au:wr.1.size<=g)
  (ax:ad.ownsRow w.1.size 27 1 (S (B ⟨g',0,I⟩) (i+1) ae) (i+1) ((gs.map λg=>S (B ⟨g.1,0,I⟩) n g.2)++[S (B ⟨g,0,I⟩) n c])) (Y:wa.grownBy ad (B gB)) (H:g'=gB\/g'=wa.1.size):MSt w ad g' (i+1) ae n (gs++[(g,c)]) (M++[r]):=by
 have ai:w.1.size<=gB/\gB<wr.1.size:=EU h.ou _ rfl;have aA:=T.size;have az:=aj.lt;have Z:∀ b∈gs.map (·.1),b<wr.1.size:=λb E=>by obtain⟨q,ay,rfl⟩:=FM.1 E;obtain⟨k,D⟩:=JJ.1 ay;have ar:=(CQ.1 D).1;exact(h.ro k q _ D (CV (by rw[h.ml,<-h.gl];exact ar))).lt
 have af:gB∉gs.map (·.1):=(MV.1 h.nd).1;have an:g'∉gs.map (·.1):=λah=>by rcases H with rfl|rfl;exact af ah;have:=Z _ ah;omega
 have ao:g≠g':=λe=>by rcases H with rfl|rfl<;>omega
 refine⟨(Below.next h.bl T).grown Y oS (λk2 ap=>by injection ap with e;subst e;exact ai.1),by simp[h.gl],by simp[h.ml],?_,?_,by simpa using ax,?_⟩
 ·rw[KJ,JT,LJ]
  refine MV.2 ⟨?_,List.nodup_append.2 ⟨(MV.1 h.nd).2,sI,λa am b E e=>?_⟩⟩;·simp only[CO,List.mem_singleton,not_or];exact⟨an,λe=>ao e.symm⟩
  simp at E;have:=Z a am;omega
 ·intro b E
  rw[KJ,JT,LJ]at E;simp only[EM,CO,List.not_mem_nil,or_false]at E;rcases E with rfl|E|rfl
  ·rcases H with e|e<;>omega
  ·exact h.lo b (JA _ E)
  omega
 intro k q al D O;by_cases ag:k<i
 ·rw[IV (by rw[h.gl];exact ag)]at D
  rw[IV (by rw[h.ml];exact ag)]at O;have aa:q.1∈gs.map (·.1):=FM.2 ⟨q,CH D,rfl⟩;have aw:q.1≠gB:=λe=>af (e ▸ aa)
  have W:RR (λc=>(c<w.1.size\/c∈gB::gs.map (·.1))\/wr.1.size<=c) wa q.1 n q.2 al:=by
   obtain⟨cells,fss,k1,k2,ab,ac,ak⟩:=h.ro k q al D O
   exact⟨cells,fss,I_ k1 T,k2.below T,ab,λc u G=>by
    rcases G with G|G;·exact ac c u G
    have:=k2.lt c u;omega,.inl (.inr (JA _ aa))⟩
  have X:=W.grown Y (.inl (.inr (MZ ..))) aw;refine X.weaken (λc _ u=>?_) (.inr (by rw[KJ];exact JA _ (List.mem_append_left _ aa)));rcases u with u|u
  ·exact .inl (.inl u)
  rw[KJ,JT,LJ]at u;simp only[EM,CO,List.not_mem_nil,or_false]at u ⊢;rcases u with rfl|u|rfl
  ·rcases H with e|e
   ·exact .inl (.inr (.inl e))
   exact .inr oS
  ·exact .inl (.inr (.inr u))
  exact .inr au
 have aq:k=i:=by have:=(CQ.1 D).1;simp[h.gl]at this;omega
 subst aq;rw[JO (by rw[h.gl];exact BH _),h.gl,Nat.sub_self]at D;rw[JO (by rw[h.ml];exact BH _),h.ml,Nat.sub_self]at O;simp at D O;subst D;subst O
 have W:RR (λc=>(c<wr.1.size\/c=g)\/wa.1.size<=c) wa g n c r:=by
  obtain⟨cells,fss,k1,k2,ab,ac,ak⟩:=aj
  exact⟨cells,fss,k1,k2,ab,λc u G=>by
   rcases G with G|G;·exact ac c u G
   have:=k2.lt c u;omega,.inl ak⟩
 have X:=W.grown Y (.inl (.inl ai.2)) oS;refine X.weaken (λc _ u=>?_) (.inr (by rw[KJ];exact JA _ (List.mem_append_right _ sI)));rcases u with u|u
 ·exact .inl (.inl oS)
 rw[KJ,JT,LJ]at u;simp only[EM,CO,List.not_mem_nil,or_false]at u ⊢;rcases u with rfl|u|rfl
 ·rcases H with e|e
  ·exact .inl (.inl oS)
  exact .inr oS
 ·exact .inl (.inl (Z c u))
 exact .inl (.inr rfl)
section
variable {w U U':J} {o i n cap:Nat} {gs:List (Nat×Nat)} {M:List (List TRat)}
theorem MSt.below (h:MSt w U o i cap n gs M) (hb:Bw U U'):MSt w U' o i cap n gs M :=
 ⟨Below.next h.bl hb,h.gl,h.ml,h.nd,h.lo,I_ h.ou hb,λk g r h1 h2=>(h.ro k g r h1 h2).below hb⟩
theorem MSt.row (h:MSt w U o i cap n gs M) {k:Nat} (D:k<i):∃ (g c:Nat) (r:List TRat),gs[k]?=B (g,c)/\M[k]?=B r/\U.cell? ⟨o,k,I⟩=B (S (B ⟨g,0,I⟩) n c)/\o<U.1.size/\RR (λb=>b<w.1.size\/b∈o::gs.map (·.1)) U g n c r/\g≠o:=by
 obtain⟨⟨g,c⟩,u⟩:∃ g,gs[k]?=B g:=⟨_,CV (by rw[h.gl];exact D)⟩
 obtain⟨r,E⟩:∃ r,M[k]?=B r:=⟨_,CV (by rw[h.ml];exact D)⟩
 refine⟨g,c,r,u,E,?_,(EU h.ou _ rfl).2,h.ro k (g,c) r u E,λe=>(MV.1 h.nd).1 (FM.2 ⟨(g,c),CH u,e⟩)⟩;rw[OS h.ou _ oS,IE,u];rfl
theorem MSt.set (h:MSt w U o i cap n gs M) {k j g c:Nat} {r:List TRat} (E:gs[k]?=B (g,c)) (aa:M[k]?=B r) (ag:j<n) {y:TRat} {O1:Option AH} {o1 u1:Nat} {O2:Option AH} {o2 u2:Nat} {T:List Nat} (ab:Agg U (.agg #[AC y.1.1,S O1 o1 u1,S O2 o2 u2]) y T) (ad:∀ b∈T,b∉o::gs.map (·.1)) (ai:∀ b∈T,w.1.size<=b) :
  MSt w (((U.setCell ⟨g,j*3,I⟩ (AC y.1.1)).setCell ⟨g,j*3+1,I⟩ (S O1 o1 u1)).setCell ⟨g,j*3+2,I⟩ (S O2 o2 u2)) o i cap n gs (M.set k (r.set j y)):=by
 have X:g∈gs.map (·.1):=FM.2 ⟨(g,c),CH E,rfl⟩;have W:=h.lo g (JA _ X);have ae:g∈o::gs.map (·.1):=JA _ X;have am:g≠o:=λe=>(MV.1 h.nd).1 (e ▸ X)
 have Z:∀ b,b≠g->(((U.setCell ⟨g,j*3,I⟩ (AC y.1.1)).setCell ⟨g,j*3+1,I⟩ (S O1 o1 u1)).setCell ⟨g,j*3+2,I⟩ (S O2 o2 u2)).1[b]?=U.1[b]?:=λb u =>
  (DQ _ _ _ b (by simpa using u)).trans ((DQ _ _ _ b (by simpa using u)).trans (DQ _ _ _ b (by simpa using u)))
 have an:(((U.setCell ⟨g,j*3,I⟩ (AC y.1.1)).setCell ⟨g,j*3+1,I⟩ (S O1 o1 u1)).setCell ⟨g,j*3+2,I⟩ (S O2 o2 u2)).1.size=U.1.size:=by simp[World.setCell]
 refine⟨((h.bl.setCell (p:=⟨g,_,I⟩) W _).setCell (p:=⟨g,_,I⟩) W _).setCell (p:=⟨g,_,I⟩) W _,h.gl,by simpa using h.ml,h.nd,h.lo,h.ou.kept (row:=B g) ⟨rfl,rfl,rfl,oS,λk _ ah=>Z k (λe=>ah (by rw[e]))⟩ ?_,λO q al G H=>?_⟩;·show B o=I\/B o≠B g;exact .inr oR
 by_cases af:O=k
 ·subst af
  obtain rfl:(g,c)=q:=by rw[E]at G;exact FR G
  rw[OI (by have:=(CQ.1 aa).1;omega)]at H;cases H
  exact(h.ro O (g,c) r E aa).set ag ab (λb u ac=>by
   rcases ac with D|D;·have:=ai b u;omega
   exact ad b u D)
 rw[IZ oS]at H
 have ak:g≠q.1:=λe=>by
  have D:(gs.map (·.1))[k]?=B g:=by rw[IE,E];rfl
  have Y:(gs.map (·.1))[O]?=B g:=by rw[IE,G,e];rfl
  have aj:=(MV.1 h.nd).2;have k1:=(CQ.1 D).1;have k2:=(CQ.1 Y).1;have:=(List.getElem_inj (h₀:=k1) (h₁:=k2) aj).1 (by rw[(CQ.1 D).2,(CQ.1 Y).2]);omega
 exact(h.ro O q al G H).keep g (.inr ae) ak oS rfl rfl rfl Z
theorem MSt.ltAll (h:MSt w U o i cap n gs M):∀ b∈o::gs.map (·.1),b<U.1.size:=by
 intro b u;rcases EM.1 u with rfl|u
 ·exact(EU h.ou _ rfl).2
 obtain⟨q,G,rfl⟩:=FM.1 u;obtain⟨k,D⟩:=JJ.1 G;have E:=(CQ.1 D).1;exact(h.ro k q _ D (CV (by rw[h.ml,<-h.gl];exact E))).lt
theorem MSt.sl (h:MSt w U o i cap n gs M):∃ bs,Sl U (B ⟨o,0,I⟩) i cap M bs/\∀ b∈bs,w.1.size<=b:=by
 have an:∀ k,k<i->∃ g c r bs,gs[k]?=B (g,c)/\M[k]?=B r/\Sl U (B ⟨g,0,I⟩) n c r bs/\∀ b∈bs,w.1.size<=b:=λk G=>by
  obtain⟨g,c,r,W,Z,_,_,ah,_⟩:=h.row G;obtain⟨bs,O,D⟩:=ah.sl;refine⟨g,c,r,bs,W,Z,O,λb ai=>?_⟩;rcases D b ai with rfl|af;·exact h.lo b (JA _ (FM.2 ⟨(b,c),CH W,rfl⟩))
  exact Nat.le_of_not_lt (λag=>af (.inl ag))
 have aj:∀ m,m<=i->∃ fss:List (List Nat),fss.length=m/\∀ (k:Nat) (q:Nat×Nat) (r:List TRat) (u:List Nat),k<m->gs[k]?=B q->M[k]?=B r->fss[k]?=B u->Sl U (B ⟨q.1,0,I⟩) n q.2 r u/\∀ b∈u,w.1.size<=b:=by
  intro m;induction m with
  |zero=>exact λ_=>⟨[],rfl,λi g r u ab=>absurd ab (Nat.not_lt_zero _)⟩
  |succ m ih =>
   intro aq
   obtain⟨fss,H,T⟩:=ih oS
   obtain⟨g,c,r,bs,W,Z,O,D⟩:=an m oS
   refine⟨fss++[bs],by simp[H],λk q ap u ab X aa E=>?_⟩
   by_cases al:k<m
   ·rw[IV oS]at E
    exact T k q ap u al X aa E
   obtain rfl:k=m:=oS
   rw[<-H]at E
   simp at E
   rw[W]at X;rw[Z]at aa
   cases X;cases aa
   rw[<-E];exact⟨O,D⟩
 obtain⟨fss,H,T⟩:=aj i (BH _)
 have ak:Filled U (gs.map λg=>S (B ⟨g.1,0,I⟩) n g.2) M fss:=by
  refine⟨by rw[H,h.ml],by simp[h.ml,h.gl,DL],λk x u ae E=>?_⟩;have G:k<i:=by rw[<-h.ml];exact(CQ.1 ae).1
  obtain⟨q,ad⟩:∃ q,gs[k]?=B q:=⟨_,CV (by rw[h.gl];exact G)⟩
  refine⟨B ⟨q.1,0,I⟩,n,q.2,?_,(T k q x u G ad ae E).1⟩
  exact B0l (λj ac=>by
   have:j=0:=by simp[DL]at ac;exact ac
   subst this;simp[DL,ad]) rfl
 obtain⟨A,c,bs,ao,O,am⟩:=ak.sl (α:=List TRat) h.ou h.ml;cases ao;refine⟨bs,O,λb D=>?_⟩;rcases am with⟨_,rfl⟩|⟨g',e,rfl,_⟩;·simp at D
 simp[IR]at e;subst e;rcases EM.1 D with rfl|D
 ·exact h.lo _ (MZ ..)
 obtain⟨u,E,D⟩:=JN.1 D;obtain⟨k,G⟩:=JJ.1 E;have Y:k<i:=by rw[<-H];exact(CQ.1 G).1
 exact(T k _ _ u Y (CV (by rw[h.gl];exact Y)) (CV (by rw[h.ml];exact Y)) G).2 b D
end
def IRow (w:J) (base g n:Nat) (fs:List Int):Prop:=w.ownsRow base 3 1 (S (B ⟨g,0,I⟩) n n) n (fs.map (QS QO))
theorem IRow.cell {w:J} {base g n:Nat} {b:List Int} (h:IRow w base g n b) {j:Nat} {f:Int} (u:b[j]?=B f):w.cell? ⟨g,j,I⟩=B (QS QO f)/\w.frozen? ⟨g,j,I⟩=AF:=by
 have D:=(CQ.1 u).1;have E:b.length=n*1:=by have:=h.1;simpa using this
 exact⟨by rw[OS h j oS,IE,u];rfl,World.ownsRow.frozenAt h j⟩
theorem IRow.lt {w:J} {base g n:Nat} {fs:List Int} (h:IRow w base g n fs):g<w.1.size:=(EU h _ rfl).2
theorem IRow.set {w:J} {base g n:Nat} {b:List Int} (h:IRow w base g n b) (j:Nat) (f:Int):IRow (w.setCell ⟨g,j,I⟩ (QS QO f)) base g n (b.set j f):=by
 unfold IRow;rw[List.map_set];exact(MH h j _).1
theorem IRow.below {w w':J} {base g n:Nat} {fs:List Int} (h:IRow w base g n fs) (hb:Bw w w'):IRow w' base g n fs:=I_ h hb
theorem IRow.sl {w:J} {base g n:Nat} {b:List Int} (h:IRow w base g n b) (hi:∀ x∈b,I64 x):∃ bs,Sl w (B ⟨g,0,I⟩) n n b bs/\(∀ w0:J,w0.1.size<=base->Own w0 w bs):=by
 have H:b.length=n:=by have:=h.1;simpa using this
 have G:Filled w (b.map (QS QO)) b (List.replicate b.length []):=Filled.ints (by rw[List.take_of_length_le sI]) hi sI;obtain⟨A,c,bs,T,O,D⟩:=G.sl (α:=Int) h H;cases T;refine⟨bs,O,λw0 Z=>?_⟩;rw[B0k]at D;rcases D with⟨_,rfl⟩|⟨g',Y,rfl,X,E⟩
 ·exact Own.nil _ _
 exact⟨sI,λW u=>by simp at u;subst u;exact⟨oS,E⟩⟩
end
end Go.Proofs.YtbkilakncnlebaaGreatDoor.X

namespace Go.XB
open Go.RowKit
section
variable {P:Program} {l:List BU} {R:Nat->DP} {C:J->Prop} {a0:Act} {base:Nat}
def C5y (o:BU):Bool:=o.guard.isNone&&match o.op with | .extract _ _=>AD|_=>AF
def D6j (l:List BU) (m s:Nat):Bool :=
 let R:=D4m l (EZ l.length).reverse [m]
 decide (s<m)&&((EZ m).all λk=>k==s || R.contains k)&&(match l[m]? with|some o=>o.guard.isNone&&!(N_ o).contains s|none=>AF)&&(match l[m+1]? with|some o=>(N_ o).contains s|none=>AD)&&(match l[s]? with|some o=>C5y o|none=>AF)
theorem E0x {o:BU} (h:C5y o=AD) (u:Operand->AJ) {w D:J} {n:Next} (b:(GP u o).run P w=.ok n D):∃ v,n=.value v/\D=w/\∀ w',(GP u o).run P w'=.ok (.value v) w':=by
 unfold C5y at h;simp only[CK]at h;obtain⟨_,h⟩:=h;cases E:o.op with
 |extract x i =>
  unfold GP at b ⊢
  simp only[E]at b ⊢
  unfold Instr.extract at b ⊢
  cases H:u x with
  |tuple vs =>
   simp only[H]at b ⊢
   cases G:vs[i]? with
   |some v =>
    simp only[G]at b ⊢
    have e:(Result.ok (Next.value v) w:Result Next)=.ok n D:=b
    cases e
    exact⟨v,rfl,rfl,λ_=>rfl⟩
   |none=>simp only[G]at b;cases b
  |_=>simp only[H]at b;cases b
 |_=>rw[E]at h;cases h
theorem E2r (a:Act) {d e:Option Tmp} (h:∀ t,d=B t->e=B t->False) (u v:AJ):(a.put d u).put e v=(a.put e v).put d u:=by
 cases d with
 |none=>cases e<;>rfl
 |some d =>
  cases e with
  |none=>rfl
  |some e =>
   have b:d≠e:=λD=>h d rfl (by rw[D])
   simp only[Act.put]
   congr 1
   exact Array.setIfInBounds_comm _ _ (by first|exact b|exact b.symm)
theorem F2n {Q:Exit->Act->J->Prop} {K:Act->J->Prop} {a:Act} {w:J} {i:Nat} {o:BU} (u:l[i]?=B o) (b:o.guard=I) (h:BU.wp P o a w K Q):wpOp P l.toArray Q i K a w:=by
 unfold wpOp;simp only[List.getElem?_toArray,u];rw[if_pos (by unfold Region.wanted;rw[b])];exact .inl h
theorem D5x {Q:Exit->Act->J->Prop} {N m s:Nat} {X:BU} (Z:l[m]?=B X) (ba:B0h l=AD) (a9:∀ w w',C w->base<=w.1.size->Bw w w'->C w') (ap:a0.tmps.size=N) (af:B1r l N=AD) (aq:D6j l m s=AD) (ao:C7f l m=AD)
  (aZ:∀ i o,i<m->l[i]?=B o->part P l R C a0 i o) (aS:∀ i o,i<m->l[i]?=B o->Cong (R i) (N_ o))
  (aR:∀ (y:Nat->AJ) (z:Nat->List Nat) (w:J),C w->(∀ i,i<m->(R i y).p (y i) (z i) w/\∀ b∈z i,base<=b/\b<w.1.size)->(∀ i j,i≠j->i<m->j<m->∀ b∈z i,b∉z j) ->
   ∃ w',(GP (L_ l y a0 (EZ m)).eval X).run P w=.ok .skip w'/\wpList P l.toArray Q (l.drop (m+1)) ((L_ l y a0 (EZ m)).put X.dst DU) w')
  (au:∀ (listed:Array Bool),listed.size=l.length->Region.ready .any l.toArray listed=[]->∀ i,i<l.length->listed.getD i AF=AD) :
  ∀ (fuel:Nat) (listed:Array Bool) (a:Act) (w:J) (y:Nat->AJ) (z:Nat->List Nat),listed.size=l.length->(listed.toList.filter (λb=>!b)).length<=fuel->(∀ k,m<=k->k<l.length->listed.getD k AF=AF) ->
   St l R C a0 base listed a w y z->wpAny P .any l.toArray Q fuel listed a w:=by
 obtain⟨a2,a3,aN,a4⟩:=B4d af;have a1:m<l.length:=(CQ.1 Z).1;simp only[D6j,Z,CK,decide_eq_true_eq,BJ]at aq;obtain⟨⟨⟨⟨bD,aq⟩,bf,bs⟩,aX⟩,aP⟩:=aq;have bg:X.guard=I:=by simpa using bf
 have a5:s∉N_ X:=by simpa using bs
 obtain⟨E,T⟩:∃ E,l[s]?=B E:=⟨_,CV oS⟩
 rw[T]at aP;have aG:∀ (i:Nat) (o:BU),l[i]?=B o->∀ e∈N_ o,e<i:=λi o bq e ag=>by have h:=ba;unfold B0h at h;rw[BJ]at h;have D:=h (o,i) (by rw[JJ];exact⟨i,by simp[List.getElem?_zipIdx,bq]⟩);simp only[BJ,decide_eq_true_eq]at D;exact D e ag
 intro fuel;induction fuel with
 |zero=>intro listed a w y z W be O H;have:=C1v W O;omega
 |succ fuel ih =>
  intro listed a w y z W be O H
  refine⟨λaE=>(by have:=au listed W aE m a1;rw[O m (BH _) a1]at this;cases this),λi aj=>?_⟩
  obtain⟨o,aa,bz,a8,bo,aw⟩:=C4i W aj
  have aW:i<listed.size:=oS
  have ac:=C7h aW
  have bu:=A8y listed.toList i bo
  rcases Nat.lt_trichotomy i m with ak|ak|ak
  ·refine D8o rfl (ap ▸ af) H aa a8 aw (aZ i o ak aa) λv an w' ar bd aH=>?_
   refine ih _ _ w' _ _ (by simpa using W) ?_ (λk h D=>by rw[ac,if_neg oS];exact O k h D) (C6g ap a3 aN H aa aW a8 W (λj aC Y aK=>aS j aC (by
    have ay:=(CQ.1 Y).1;rcases BN j m with h|h
    ·exact h
    rcases aK with G|G;·omega
    rw[O j h ay]at G;cases G) Y) aw (a9 _ _ H.c H.hb ar) ar bd aH)
   rw[show(listed.setIfInBounds i AD).toList=listed.toList.set i AD by simp];omega
  ·subst ak
   obtain rfl:X=o:=by rw[Z]at aa;exact FR aa
   have ah:∀ k,k<i->k≠s->listed.getD k AF=AD:=λk u ad =>
    (B0p (l:=l) (listed:=listed) (n:=i) (λk o bn _ u=>H.closed k o bn u) (λaC aY e ag=>by
     rw[aa]at aY;cases aY;exact aw e ag) (EZ l.length).reverse [i] (λk u=>by simp at u;exact .inl u) k
     (by have:=aq k (List.mem_range.2 u);simp only[Bool.or_eq_true,beq_iff_eq,List.contains_iff_mem]at this;exact this.resolve_left ad)).resolve_left oS
   refine F2n Z bg ?_
   cases al:listed.getD s AF with
   |true =>
    have ai:∀ k,k<i->listed.getD k AF=AD:=λk u=>if ad:k=s then ad ▸ al else ah k u ad
    have aF:=D9r af H ai O
    obtain⟨w',ae,G⟩:=aR y z w H.c (λi aj=>H.facts i (ai i aj)) (λi j bh aj Y=>H.disj i j bh (ai i aj) (ai j Y))
    rw[<-aF]at G ae
    unfold BU.wp
    rw[ae]
    show wpAny P .any l.toArray Q fuel (listed.setIfInBounds i AD) (a.put X.dst DU) w'
    refine C4e ao au fuel (i+1) _ _ _ oS oS (by simpa using W) (by have:=C1v W O;omega) (λk u=>?_) G
    rw[ac]
    split
    ·rename_i h;subst h;simp
    ·rcases BN k i with D|D
     ·rw[ai k D];simp;omega
     ·rw[O k D u];simp;omega
   |false =>
    have am:s<listed.size:=oS
    have aJ:∀ e∈N_ E,listed.getD e AF=AD:=λe ag=>by have:=aG s E T e ag;exact ah e oS oS
    have bp:=F2l ap af H T al aJ
    have aV:E.guard=I:=by have G:C5y E=AD:=aP;unfold C5y at G;simp only[CK,Option.isNone_iff_eq_none]at G;exact G.1
    have ab:=aZ s E oS T y z w H.c (λk u=>(H.facts k (aJ k u)).1)
    rw[if_pos (by unfold Region.wanted;rw[aV])]at ab
    unfold B2b at ab
    obtain⟨vs,aL,ar,an,bc,aH⟩:∃ vs,(∀ w',(GP (L_ l y a0 (N_ E)).eval E).run P w'=.ok (.value vs) w')/\Bw w w/\∃ an,(R s y).p vs an w/\∀ b∈an,w.1.size<=b/\b<w.1.size:=by
     cases aM:(GP (L_ l y a0 (N_ E)).eval E).run P w with
     |ok n w1 =>
      obtain⟨vs,rfl,rfl,aL⟩:=E0x (show C5y E=AD from aP) _ aM
      rw[aM]at ab
      exact⟨vs,aL,ab.1,ab.2⟩
     |halt x w1=>rw[aM]at ab;exact ab.elim
    have aQ:=C6g ap a3 aN H T am al W (λj aC Y aK=>aS j aC (by
     have ay:=(CQ.1 Y).1;rcases BN j i with h|h
     ·exact h
     rcases aK with G|G;·omega
     rw[O j h ay]at G;cases G) Y) aJ H.c ar bc aH
    have a6:=C7h am
    have ax:∀ k,k<i->(listed.setIfInBounds s AD).getD k AF=AD:=λk u=>by
     rw[a6];split;·rfl
     rename_i ad;exact ah k u ad
    have aF:=D9r af aQ ax λk u bm=>by rw[a6,if_neg oS];exact O k u bm
    obtain⟨w',ae,G⟩:=aR _ _ w H.c (λk u=>aQ.facts k (ax k u)) (λk j bl u Y=>aQ.disj k j bl (ax k u) (ax j Y))
    rw[<-aF]at G ae
    rw[A4e (a':=a) (λaD b=>Region.noSelect_spec a2 i X aD b (by simpa using Z)) λt aA=>by
     rw[B1q,if_neg];rintro⟨aI,_⟩;rcases a4 i X Z t aA s E T aI with h|h
     ·exact a5 h
     have:=aG s E T i h;omega]at ae
    unfold BU.wp
    rw[ae]
    show wpAny P .any l.toArray Q fuel (listed.setIfInBounds i AD) (a.put X.dst DU) w'
    have bB:=C1v W O
    have aO:=ac s
    rw[if_neg oS,al]at aO
    have a7:(listed.setIfInBounds i AD).size=l.length:=by simpa using W
    have bv:=A8y (listed.toList.set i AD) s (by
     have:listed[s]=AF:=by simpa[IJ,am]using al
     rw[IZ oS];simp[am,this])
    obtain⟨f,rfl⟩:∃ f,fuel=f+1:=⟨fuel - 1,oS⟩
    refine⟨λaE=>(by have:=au _ a7 aE s oS;rw[aO]at this;cases this),λj Y=>?_⟩
    obtain⟨bt,az,ay,aB,bA,aU⟩:=C4i a7 Y
    have bj:j=s:=by
     rcases Nat.lt_trichotomy j i with h|h|h
     ·rcases Nat.decEq j s with D|D
      ·rw[ac,if_neg oS,ah j h D]at aB;cases aB
      exact D
     ·rw[h,ac,if_pos rfl]at aB;cases aB
     exfalso;by_cases bi:j=i+1;·subst bi;rw[az]at aX;have:=aU s (by simpa using aX);rw[aO]at this;cases this
     have:=aU _ (B1j ao az h);rw[ac,if_neg oS,O (j - 1) oS oS]at this;cases this
    subst bj
    obtain rfl:E=bt:=by rw[T]at az;exact FR az
    refine F2n T aV ?_
    unfold BU.wp
    rw[A4e (a':=L_ l y a0 (N_ E)) (λaD b=>Region.noSelect_spec a2 j E aD b (by simpa using T)) λt aA=>by
     rw[B1q,if_neg];·exact bp t aA
     rintro⟨aI,_⟩;rcases a4 j E T t aA i X Z aI with h|h;·have:=aG j E T i h;omega
     exact a5 h,aL w']
    show wpAny P .any l.toArray Q f ((listed.setIfInBounds i AD).setIfInBounds j AD) ((a.put X.dst DU).put E.dst vs) w'
    rw[E2r a (λt h D=>by have:=aN i j t (by simp[opAt,Z,h]) (by simp[opAt,T,D]);omega)]
    have aT:∀ k,k<l.length->((listed.setIfInBounds i AD).setIfInBounds j AD).getD k AF=decide (k<i+1):=λk u=>by
     rw[C7h (by simpa using am),ac];split;·simp;omega
     split;·rename_i h;subst h;simp
     rcases BN k i with D|D;·rw[ah k D (by assumption)];simp;omega
     rw[O k D u];simp;omega
    have br:=C1v (listed:=(listed.setIfInBounds i AD).setIfInBounds j AD) (p:=i+1) (by simpa using W) λk h D=>by rw[aT k D];simp;omega
    rw[show((listed.setIfInBounds i AD).setIfInBounds j AD).toList=(listed.toList.set i AD).set j AD by simp]at br
    exact C4e ao au f (i+1) _ _ _ oS oS (by simpa using W) oS aT G
  have h:=aw _ (B1j ao aa ak)
  rw[O (i - 1) oS oS]at h
  cases h
theorem B8f {ai:Nat} {Q:Exit->Act->J->Prop} {w:J} (m s:Nat) (T:BU) (X:l[m]?=B T) (ag:P.follows .mixedOrders=AD) (aa:B1r l a0.tmps.size=AD) (E:B0h l=AD) (ad:D6j l m s=AD) (ac:C7f l m=AD)
  (h:A4c P l w a0 (λRs=>∀ (y:Nat->AJ) (z:Nat->List Nat) (w':J),Bw w w'->A0r w w' y z 0 (Rs.take m) ->
   D8m z m->∃ w2,(GP (L_ l y a0 (EZ m)).eval T).run P w'=.ok .skip w2/\wpList P l.toArray Q (l.drop (m+1)) ((L_ l y a0 (EZ m)).put T.dst DU) w2) (l.take m) []):(Code.region ai l.toArray AD).wp P Q a0 w:=by
 have ak:m<l.length:=(CQ.1 X).1;have aj:(l.take m).length=m:=oR;have G:∀ j,j<(l.take m).length->(l.take m)[j]?=l[j]?:=λj W=>by rw[IL,if_pos oS]
 obtain⟨Rs,ab,_,Y⟩:=B2h E (l.take m) [] (λj W=>by simpa using G j W) h;refine wp_region_any ag ?_
 refine D5x (m:=m) (s:=s) X E (R:=λi=>Rs.getD i (λ_=>MP.eq DU)) (C:=λw'=>Bw w w') (a0:=a0) (base:=w.1.size) (λam w2 b u D=>b.trans (D.mono u)) rfl aa ad ac
  (λi o ae O=>by have:=(A5f (l.take m) 0 Y i o (by rw[G i oS];exact O)).2;rwa [JM]at this)
  (λi o ae O=>by have:=(A5f (l.take m) 0 Y i o (by rw[G i oS];exact O)).1;rwa [JM]at this)
  (λy z w' b u D=>ab y z w' b (B6a _ 0 λk al H=>?_) D) (λlisted ah Z=>B6j E listed ah Z) _ _ a0 _ _ _ sI sI (λk _ _=>?_) D7k
 ·rw[JM,IL]at *
  split at H;·rename_i af;have:=u k af;simpa[List.getD_eq_getElem?_getD,H]using this
  cases H
 rw[IJ,Array.getElem?_replicate];split<;>rfl
end
end Go.XB

namespace Go.XB
open Go.RowKit
structure TByte where
 v:Int
 deriving DecidableEq
instance:Dat TByte where
 sz:=1
 pos:=dE
 at_:=λ_ cs x bs=>cs=[QS .u8 x.v]/\bs=[]/\0<=x.v/\x.v<256
 len:=λh=>by rw[h.1];rfl
 one:=λh u hu=>by rw[h.1]at hu;simp at hu;subst hu;rfl
 lt:=λh b hb=>by rw[h.2.1]at hb;simp at hb
 keep:=λh _=>h
theorem Sl.getByte {w:J} {A:Option AH} {n c:Nat} {xs:List TByte} {bs:List Nat} (h:Sl w A n c xs bs) {k:Nat} (ag:k<n) :
  ∃ b off x,A=B ⟨b,off,I⟩/\b<w.1.size/\b∈bs/\(0<=x/\x<256)/\w.cell? ⟨b,off+k,I⟩=B (QS .u8 x):=by
 obtain⟨ac,ad,ae,af,G⟩:=h;obtain⟨b,off,u,H,W,ah,T,Y⟩:=G oS;have aa:xs[k]?=B (xs[k]'oS):=CV oS;have Z:u[k]?=B (u[k]'oS):=CV oS;obtain⟨ab,X,O⟩:=Y k _ _ aa Z;obtain⟨D,_,E⟩:=O;refine⟨b,off,(xs[k]'oS).v,H,T,by rw[W];simp,E,?_⟩;have:=X 0 (QS .u8 (xs[k]'oS).v) (by rw[D];rfl);simpa[DL]using this
end Go.XB
namespace Go.Proofs.YtbkilakncnlebaaGreatDoor.X
open Go.RowKit Go.XB Proofs.Tryz
attribute [local go_sem] L_ opAt N_ M_ Region.wanted yielded
attribute [local simp] N_ M_ MP.eq MP.agg MP.sl A0r
theorem D6p (a:Int):0<=bits .and QO a 255/\bits .and QO a 255<256:=by
 have b:bits .and QO a 255=QO.wrap ((BitVec.ofInt 64 a &&& BitVec.ofInt 64 255).toNat):=rfl;have h:(BitVec.ofInt 64 a &&& BitVec.ofInt 64 255).toNat<=255:=by rw[BitVec.toNat_and];exact Nat.le_trans Nat.and_le_right dE
 rw[b,IntWalk.i64_in _ oS];omega
theorem C0x (w:J) (g o:Nat) (v:AJ):w.grownBy (w.setCell ⟨g,o,I⟩ v) (B g) :=
 ⟨rfl,rfl,rfl,sI,λk _ hne=>DQ w ⟨g,o,I⟩ v k (λe=>hne (by rw[e]))⟩
theorem A6m {w w':J} (hb:Bw w w') (r:Option Nat):w.grownBy w' r:=⟨hb.os,hb.tape,hb.output,hb.size,λk hk _=>hb.block k hk⟩
def Cur (w:J) (g:Nat) (A:Option AH) (n c:Nat):Prop:=∃ (i:Nat) (h:Int),i<=n/\g<w.1.size/\w.cell? ⟨g,0,I⟩=B (S A n c)/\w.cell? ⟨g,1,I⟩=B (QS QO i)/\w.cell? ⟨g,2,I⟩=B (QS QO h)/\w.frozen? ⟨g,1,I⟩=AF/\w.frozen? ⟨g,2,I⟩=AF
def C9r (w:J) (g:Nat) (A:Option AH) (n c:Nat) (m:Int) (e:Ending) (w':J):Prop:=∃ x:Int,e=.returned (QS QO x)/\(0<=x/\x<m)/\Cur w' g A n c/\w.grownBy w' (B g)

theorem D2v (g:Nat) (A:Option AH) (n c:Nat) (xs:List TByte) (bs:List Nat) (w:J) (am:Sl w A n c xs bs) (aY:n<=1048576) (aM:Cur w g A n c) (aA:g∉bs) :
  Calls prog 123 #[.pointer (B ⟨g,0,I⟩)] w (C9r w g A n c 256):=by
 obtain⟨i,aV,aN,aC,aq,ar,au,aw,ax⟩:=aM;have aT:=A_ am;rcases BN i n with aB|aB
 ·obtain⟨X,aa,x,rfl,aI,az,a1,aF⟩:=Sl.getByte am aB
  have aW:g≠X:=λe=>aA (e ▸ az);have aO:(i:Int)<n:=oS;have aX:(0:Int)<=i:=oS;clear am aA az;go_enter func123,ntmps123;go_wp2_with fail;refine A0g ?_;iterate 13 refine C_ _ ?_
  intro W ai u b h O;clear O;simp at h;have ab:=h.2.2.2.2.2.2.2.2.2.2.2.2;obtain⟨G,aG,ay⟩:∃ G,W 12=QS QO G/\(0<=G/\G<256):=⟨_,ab.1.1,D6p _⟩
  obtain⟨H,T⟩:=F_ b;have al:=b.size;simp at al;have af:u.cell? ⟨g,0,I⟩=B (S (B ⟨X,aa,I⟩) n c):=by go_simp
  have k1:u.cell? ⟨g,1,I⟩=B (QS QO i):=by go_simp
  obtain⟨E,k2⟩:∃ E,u.cell? ⟨g,2,I⟩=B (QS QO E):=⟨_,by go_simp;first|done|rfl⟩
  have aR:u.cell? ⟨X,aa+i,I⟩=B (QS .u8 x):=by go_simp
  have ag:u.frozen? ⟨g,1,I⟩=AF:=by go_simp
  have ah:u.frozen? ⟨g,2,I⟩=AF:=by go_simp
  have Z:=A_ (show w.grownBy u (B g)from(C0x w g 2 _).trans (A6m b _));have aj:g<u.1.size:=oS;have aK:X<u.1.size:=oS;clear h ab H T b aq ar au aw ax aF aC aI;go_simp;go_wp2_with fail;refine A0g ?_;iterate 10 refine C_ _ ?_
  intro W ai D b h O;clear O;simp at h;have ac:=h.2.2.2.2.2.2.2.2.2;have aH:W 9=AC AD:=by rw[ac.1.1]
  obtain⟨H,T⟩:=F_ b;have aQ:=b.size;have an:D.cell? ⟨g,0,I⟩=B (S (B ⟨X,aa,I⟩) n c):=by go_simp
  have m1:D.cell? ⟨g,1,I⟩=B (QS QO i):=by go_simp
  have m2:D.cell? ⟨g,2,I⟩=B (QS QO E):=by go_simp
  have aS:D.cell? ⟨X,aa+i,I⟩=B (QS .u8 x):=by go_simp
  have ao:D.frozen? ⟨g,1,I⟩=AF:=by go_simp
  have ap:D.frozen? ⟨g,2,I⟩=AF:=by go_simp
  have ae:=A_ (Z.trans (A6m b (B g)));have ak:g<D.1.size:=oS;have aL:X<D.1.size:=oS;clear h ac H T b af k1 k2 aR ag ah aj aK Z;go_simp;go_wp2_with fail;refine A0g ?_;iterate 15 refine C_ _ ?_
  intro W ai Y b h O;clear O;simp at h;have aD:=h.2.2.2.2.2.2.2.2.2.2.2.2.2.2;obtain⟨ad,aU,aJ⟩:∃ ad,W 14=QS QO ad/\(0<=ad/\ad<256):=⟨_,aD.1.1,D6p _⟩
  obtain⟨H,T⟩:=F_ b;have aZ:=b.size;have af:Y.cell? ⟨g,0,I⟩=B (S (B ⟨X,aa,I⟩) n c):=by go_simp
  have k1:Y.cell? ⟨g,1,I⟩=B (QS QO i):=by go_simp
  have k2:Y.cell? ⟨g,2,I⟩=B (QS QO E):=by go_simp
  have ag:Y.frozen? ⟨g,1,I⟩=AF:=by go_simp
  have ah:Y.frozen? ⟨g,2,I⟩=AF:=by go_simp
  have aE:=A_ (ae.trans (A6m b (B g)));have aP:g<Y.1.size:=oS;clear h aD H T b an m1 m2 aS ao ap ak aL ae;go_simp;go_wp2;go_ret;refine⟨ad,rfl,aJ,⟨i+1,E,oS,by simpa using aP,by go_simp,by first|(go_simp;done)|(go_simp;go_num),by go_simp,by go_simp,by go_simp⟩,aE.trans (C0x Y g 1 _)⟩
 have aO:¬ ((i:Int)<n):=oS;go_enter func123,ntmps123;go_wp2_with fail;refine A0g ?_;iterate 13 refine C_ _ ?_
 intro W ai u b h O;clear O;simp at h;have ab:=h.2.2.2.2.2.2.2.2.2.2.2.2;obtain⟨G,aG,ay⟩:∃ G,W 12=QS QO G/\(0<=G/\G<256):=⟨_,ab.1.1,D6p _⟩
 obtain⟨H,T⟩:=F_ b;have al:=b.size;simp at al;have af:u.cell? ⟨g,0,I⟩=B (S A n c):=by go_simp
 have k1:u.cell? ⟨g,1,I⟩=B (QS QO i):=by go_simp
 obtain⟨E,k2⟩:∃ E,u.cell? ⟨g,2,I⟩=B (QS QO E):=⟨_,by go_simp;first|done|rfl⟩
 have ag:u.frozen? ⟨g,1,I⟩=AF:=by go_simp
 have ah:u.frozen? ⟨g,2,I⟩=AF:=by go_simp
 have Z:=A_ (show w.grownBy u (B g)from(C0x w g 2 _).trans (A6m b _));have aj:g<u.1.size:=oS;clear h ab H T b aq ar au aw ax aC;go_simp;go_wp2_with fail;refine A0g ?_;iterate 10 refine C_ _ ?_
 intro W ai D b h O;clear O;simp at h;have ac:=h.2.2.2.2.2.2.2.2.2;have aH:W 9=AC AF:=by rw[ac.1.1];simp;omega
 obtain⟨H,T⟩:=F_ b;have aQ:=b.size;have an:D.cell? ⟨g,0,I⟩=B (S A n c):=by go_simp
 have m1:D.cell? ⟨g,1,I⟩=B (QS QO i):=by go_simp
 have m2:D.cell? ⟨g,2,I⟩=B (QS QO E):=by go_simp
 have ao:D.frozen? ⟨g,1,I⟩=AF:=by go_simp
 have ap:D.frozen? ⟨g,2,I⟩=AF:=by go_simp
 have ae:=A_ (Z.trans (A6m b (B g)));have ak:g<D.1.size:=oS;clear h ac H T b af k1 k2 ag ah aj Z;go_simp;go_wp2;go_ret;exact⟨G,rfl,ay,⟨i,E,aN,ak,an,m1,m2,ao,ap⟩,ae⟩
end Go.Proofs.YtbkilakncnlebaaGreatDoor.X
