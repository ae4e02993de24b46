/- A part of the proof. -/
import Derived.Test.YtbhemnidcleaiaaGreatY2
set_option linter.constructorNameAsVariable false
set_option maxHeartbeats 16000000
set_option maxRecDepth 10000
namespace Go.XB
open Go.RowKit
section
variable {α:Type} [Dat α] {w w':World} {cells:List Value} {xs:List α} {fss:List (List Nat)}
theorem Filled.put (h:Filled w cells xs fss) {k:Nat} (X:k<xs.length) {y:α} {E:List Nat} {cs:List Value} (G:Dat.at_ w cs y E) :
  Filled w (B3r cells (k*Dat.sz α) cs) (xs.set k y) (fss.set k E):=by
 obtain⟨J,K,O⟩:=h;have S:=Dat.len G;have Z:0<Dat.sz α:=Dat.pos;have Y:(k+1)*Dat.sz α<=xs.length*Dat.sz α:=Nat.mul_le_mul_right _ X;rw[Nat.add_mul,Nat.one_mul]at Y;refine⟨by simp[J],by rw[B5p,List.length_set];exact K,λj x gs b u=>?_⟩;by_cases I:j=k
 ·subst I
  rw[List.getElem?_set_self oM]at b;rw[List.getElem?_set_self oM]at u;cases b;cases u;rw[B0l (cs:=cs) (λi H=>?_) S];·exact G
  rw[getElem?_setFrom _ _ _ _ oM,if_pos oM,Nat.add_sub_cancel_left]
 rw[List.getElem?_set_ne oM]at b u;have T:=(List.getElem?_eq_some_iff.1 b).1;have W:(j+1)*Dat.sz α<=xs.length*Dat.sz α:=Nat.mul_le_mul_right _ T;rw[Nat.add_mul,Nat.one_mul]at W;have:=O j x gs b u;rw[B0l (cs:=(cells.drop (j*Dat.sz α)).take (Dat.sz α)) (λi H=>?_) sO];·exact this
 rw[getElem?_setFrom _ _ _ _ oM,if_neg ?_,List.getElem?_take,if_pos H,List.getElem?_drop];rcases Nat.lt_or_gt_of_ne I with D|D
 ·have:(j+1)*Dat.sz α<=k*Dat.sz α:=Nat.mul_le_mul_right _ D;rw[Nat.add_mul,Nat.one_mul]at this;omega
 have:(k+1)*Dat.sz α<=j*Dat.sz α:=Nat.mul_le_mul_right _ D;rw[Nat.add_mul,Nat.one_mul]at this;omega
theorem C1t {P:Nat->Prop} {fss:List (List Nat)} {k:Nat} {D:List Nat} (h:∀ b∈fss.flatten,P b) (H:∀ b∈D,P b):∀ b∈(fss.set k D).flatten,P b:=by
 intro b G;obtain⟨gs,u,E⟩:=List.mem_flatten.1 G;rcases List.mem_or_eq_of_mem_set u with u|e
 ·exact h b (List.mem_flatten.2 ⟨gs,u,E⟩)
 exact H b (e ▸ E)
end
end Go.XB
namespace Go.Proofs.YtbhemnidcleaiaaGreat.X
open Go.RowKit Go.XB
section
def RR (bad:Nat->Prop) (w:World) (g n cap:Nat) (xs:List TRat):Prop :=
 ∃ cells fss,w.ownsRow 0 35 3 (.slice (some ⟨g,0,none⟩) n cap) n cells/\Filled w cells xs fss/\xs.length=n/\(∀ b∈fss.flatten,¬ bad b)/\bad g
section
variable {bad:Nat->Prop} {w w':World} {g n cap:Nat} {xs:List TRat}
theorem RR.len (h:RR bad w g n cap xs):xs.length=n:=by obtain⟨_,_,_,_,h,_⟩:=h;exact h
theorem RR.lt (h:RR bad w g n cap xs):g<w.1.size:=by obtain⟨_,_,h,_⟩:=h;exact(World.ownsRow.lt h _ rfl).2
theorem RR.below (h:RR bad w g n cap xs) (b:Bw w w'):RR bad w' g n cap xs:=by
 obtain⟨cells,fss,u,D,E,G,H⟩:=h;exact⟨cells,fss,I_ u b,D.below b,E,G,H⟩
theorem RR.keep (h:RR bad w g n cap xs) (u:Nat) (W:bad u) (Z:u≠g) (Y:w.1.size<=w'.1.size) (H:w'.os=w.os) (J:w'.tape=w.tape) (O:w'.output=w.output) (E:∀ b,b≠u->w'.1[b]?=w.1[b]?):RR bad w' g n cap xs:=by
 obtain⟨cells,fss,G,I,K,D,S⟩:=h;refine⟨cells,fss,G.kept (row:=some u) ⟨H,J,O,Y,λk _ X=>E k (λe=>X (by rw[e]))⟩ ?_,I.keep (λb T=>E b (λe=>D b T (e ▸ W))),K,D,S⟩;show some g=none\/some g≠some u;exact .inr sO
theorem RR.elem (h:RR bad w g n cap xs) {k:Nat} (ad:k<n) :
  ∃ (x:TRat) (A1:Option Addr) (n1 c1:Nat) (A2:Option Addr) (n2 c2:Nat) (fs:List Nat),xs[k]?=some x/\w.cell? ⟨g,k*3,none⟩=some (.bool x.1.1)/\w.cell? ⟨g,k*3+1,none⟩=some (.slice A1 n1 c1)/\w.cell? ⟨g,k*3+2,none⟩=some (.slice A2 n2 c2)
   /\ w.frozen? ⟨g,k*3,none⟩=false/\w.frozen? ⟨g,k*3+1,none⟩=false/\w.frozen? ⟨g,k*3+2,none⟩=false/\Agg w (.agg #[.bool x.1.1,.slice A1 n1 c1,.slice A2 n2 c2]) x fs/\(∀ b∈fs,¬ bad b)/\g<w.1.size:=by
 obtain⟨cells,fss,u,I,ab,J,ac⟩:=h;have T:=World.ownsRow.lt u _ rfl;obtain⟨k1,k2,W⟩:=I;obtain⟨x,H⟩:∃ x,xs[k]?=some x:=⟨_,List.getElem?_eq_getElem oM⟩
 obtain⟨fs,G⟩:∃ fs,fss[k]?=some fs:=⟨_,List.getElem?_eq_getElem oM⟩
 have K:=W k x fs H G;obtain⟨A1,n1,c1,X,A2,n2,c2,Y,e,rfl,Z,aa⟩:=TRat.open_ K
 have D:∀ j,j<3->w.cell? ⟨g,k*3+j,none⟩=([.bool x.1.1,.slice A1 n1 c1,.slice A2 n2 c2]:List Value)[j]?:=λj S=>by
  rw[World.ownsRow.cellAt u _ oM,<-e,List.getElem?_take];show _=if j<3 then _ else _
  rw[if_pos S,List.getElem?_drop];rfl
 have E:∀ j,w.frozen? ⟨g,j,none⟩=false:=λj=>World.ownsRow.frozenAt u j;refine⟨x,A1,n1,c1,A2,n2,c2,X++Y,H,D 0 dE,D 1 dE,D 2 dE,E _,E _,E _,?_,λb O=>J b (List.mem_flatten.2 ⟨_,List.mem_of_getElem? G,O⟩),T.2⟩;exact TRat.mkAgg Z aa
theorem RR.set (h:RR bad w g n cap xs) {k:Nat} (ab:k<n) {y:TRat} {O1:Option Addr} {o1 u1:Nat} {O2:Option Addr} {o2 u2:Nat} {D:List Nat} (S:Agg w (.agg #[.bool y.1.1,.slice O1 o1 u1,.slice O2 o2 u2]) y D) (H:∀ b∈D,¬ bad b) :
  RR bad (((w.setCell ⟨g,k*3,none⟩ (.bool y.1.1)).setCell ⟨g,k*3+1,none⟩ (.slice O1 o1 u1)).setCell ⟨g,k*3+2,none⟩ (.slice O2 o2 u2)) g n cap (xs.set k y):=by
 obtain⟨cells,fss,J,K,O,E,G⟩:=h;obtain⟨Y,_⟩:=World.ownsRow.stored J (k*3) (.bool y.1.1);obtain⟨Z,_⟩:=World.ownsRow.stored Y (k*3+1) (.slice O1 o1 u1);obtain⟨aa,_⟩:=World.ownsRow.stored Z (k*3+2) (.slice O2 o2 u2)
 have X:∀ b,b≠g->(((w.setCell ⟨g,k*3,none⟩ (.bool y.1.1)).setCell ⟨g,k*3+1,none⟩ (.slice O1 o1 u1)).setCell ⟨g,k*3+2,none⟩ (.slice O2 o2 u2)).1[b]?=w.1[b]?:=λb u =>
  (Below.heap_setCell _ _ _ b (by simpa using u)).trans ((Below.heap_setCell _ _ _ b (by simpa using u)).trans (Below.heap_setCell _ _ _ b (by simpa using u)))
 have T:Dat.at_ w [.bool y.1.1,.slice O1 o1 u1,.slice O2 o2 u2] y D:=by
  obtain⟨I,e,h⟩:=S;have:I=[.bool y.1.1,.slice O1 o1 u1,.slice O2 o2 u2]:=by simpa using e.symm
  rwa [this]at h
 have W:=K.put (k:=k) oM T;refine⟨_,_,aa,(W.keep (w':=((w.setCell ⟨g,k*3,none⟩ (.bool y.1.1)).setCell ⟨g,k*3+1,none⟩ (.slice O1 o1 u1)).setCell ⟨g,k*3+2,none⟩ (.slice O2 o2 u2)) (λb u=>X b (λe=>?_))),by simpa using O,C1t E H,G⟩;exact C1t (P:=λb=>¬ bad b) E H b u (e ▸ G)
theorem RR.sl (h:RR bad w g n cap xs):∃ bs,Sl w (some ⟨g,0,none⟩) n cap xs bs/\∀ b∈bs,b=g\/¬ bad b:=by
 obtain⟨cells,fss,E,G,H,I,S⟩:=h;obtain⟨A,c,bs,O,K,J⟩:=G.sl (α:=TRat) E H;cases O;refine⟨bs,K,λb u=>?_⟩;rcases J with⟨_,rfl⟩|⟨g',e,rfl,_⟩;·simp at u
 simp[Value.ownBlock]at e;rcases List.mem_cons.1 u with D|u
 ·exact .inl (D.trans e.symm)
 exact .inr (I b u)
end
theorem B0o {w:World} {base:Nat} {e:TypeId} {size:Nat} {v:Value} {n:Nat} {xs:List Value} (h:w.ownsRow base e size v n xs):w.ownsRow 0 e size v n xs:=by
 obtain⟨D,b⟩:=h;refine⟨D,?_⟩;rcases b with b|⟨g,cap,u,E,G,b⟩;·exact .inl b
 exact .inr ⟨g,cap,u,E,Nat.zero_le _,b⟩
theorem RR.weaken {bad bad':Nat->Prop} {w:World} {g n cap:Nat} {xs:List TRat} (h:RR bad w g n cap xs) (I:∀ b,b<w.1.size->bad' b->bad b) (K:bad' g):RR bad' w g n cap xs:=by
 obtain⟨cells,fss,E,u,G,H,O⟩:=h;exact⟨cells,fss,E,u,G,λb D J=>H b D (I b (u.lt b D) J),K⟩
theorem RR.grown {bad:Nat->Prop} {w w':World} {g n cap:Nat} {xs:List TRat} {gB:Nat} (h:RR bad w g n cap xs) (G:w.grownBy w' (some gB)) (K:bad gB) (O:g≠gB):RR bad w' g n cap xs:=by
 obtain⟨cells,fss,H,u,I,D,J⟩:=h;refine⟨cells,fss,H.kept G ?_,u.keep (λb E=>G.block b (u.lt b E) (by intro e;injection e with e;exact D b E (e ▸ K))),I,D,J⟩;show some g=none\/some g≠some gB;exact .inr sO
structure MSt (w U:World) (o i cap n:Nat) (gs:List (Nat×Nat)) (M:List (List TRat)):Prop where
 bl:Bw w U
 gl:gs.length=i
 ml:M.length=i
 nd:(o::gs.map (·.1)).Nodup
 lo:∀ b∈o::gs.map (·.1),w.1.size<=b
 ou:U.ownsRow w.1.size 27 1 (.slice (some ⟨o,0,none⟩) i cap) i (gs.map λg=>.slice (some ⟨g.1,0,none⟩) n g.2)
 ro:∀ (k:Nat) (g:Nat×Nat) (r:List TRat),gs[k]?=some g->M[k]?=some r->RR (λb=>b<w.1.size\/b∈o::gs.map (·.1)) U g.1 n g.2 r
theorem MSt.start {w wb:World} {n:Nat} (hw:Bw w wb):MSt w (wb.alloc (.cells #[] 27)) wb.1.size 0 0 n [] [] :=
 ⟨Below.next hw (Below.box _),rfl,rfl,sI,by simp;exact hw.size,World.ownsRow_made wb #[] 0 hw.size (Nat.zero_le _) sI,sI⟩
theorem MSt.push {w wr wa Z:World} {gB i cap n g c g' aa:Nat} {gs:List (Nat×Nat)} {M:List (List TRat)} {r:List TRat} (h:MSt w wr gB i cap n gs M) (J:Bw wr wa) (af:RR (λb=>b<wr.1.size\/b=g) wa g n c r) (ao:wr.1.size<=g)
  (aq:Z.ownsRow w.1.size 27 1 (.slice (some ⟨g',0,none⟩) (i+1) aa) (i+1) ((gs.map λg=>Value.slice (some ⟨g.1,0,none⟩) n g.2)++[.slice (some ⟨g,0,none⟩) n c])) (S:wa.grownBy Z (some gB)) (H:g'=gB\/g'=wa.1.size):MSt w Z g' (i+1) aa n (gs++[(g,c)]) (M++[r]):=by
 have ae:w.1.size<=gB/\gB<wr.1.size:=World.ownsRow.lt h.ou _ rfl;have ax:=J.size;have au:=h.bl.size;have aw:=af.lt;have T:∀ b∈gs.map (·.1),b<wr.1.size:=λb E=>by obtain⟨q,ar,rfl⟩:=List.mem_map.1 E;obtain⟨k,D⟩:=List.mem_iff_getElem?.1 ar;have an:=(List.getElem?_eq_some_iff.1 D).1;exact(h.ro k q _ D (List.getElem?_eq_getElem (by rw[h.ml,<-h.gl];exact an))).lt
 have ab:gB∉gs.map (·.1):=(List.nodup_cons.1 h.nd).1;have aj:g'∉gs.map (·.1):=λad=>by rcases H with rfl|rfl;exact ab ad;have:=T _ ad;omega
 have ak:g≠g':=λe=>by rcases H with rfl|rfl<;>omega
 refine⟨(Below.next h.bl J).grown S oM (λk2 al=>by injection al with e;subst e;exact ae.1),by simp[h.gl],by simp[h.ml],?_,?_,by simpa using aq,?_⟩
 ·rw[List.map_append,List.map_cons,List.map_nil]
  refine List.nodup_cons.2 ⟨?_,List.nodup_append.2 ⟨(List.nodup_cons.1 h.nd).2,sI,λa ai b E e=>?_⟩⟩;·simp only[List.mem_append,List.mem_singleton,not_or];exact⟨aj,λe=>ak e.symm⟩
  simp at E;have:=T a ai;omega
 ·intro b E
  rw[List.map_append,List.map_cons,List.map_nil]at E;simp only[List.mem_cons,List.mem_append,List.not_mem_nil,or_false]at E;rcases E with rfl|E|rfl
  ·rcases H with e|e<;>omega
  ·exact h.lo b (List.mem_cons_of_mem _ E)
  omega
 intro k q ah D I;by_cases ac:k<i
 ·rw[List.getElem?_append_left (by rw[h.gl];exact ac)]at D
  rw[List.getElem?_append_left (by rw[h.ml];exact ac)]at I;have W:q.1∈gs.map (·.1):=List.mem_map.2 ⟨q,List.mem_of_getElem? D,rfl⟩;have ap:q.1≠gB:=λe=>ab (e ▸ W)
  have K:RR (λc=>(c<w.1.size\/c∈gB::gs.map (·.1))\/wr.1.size<=c) wa q.1 n q.2 ah:=by
   obtain⟨cells,fss,k1,k2,X,Y,ag⟩:=h.ro k q ah D I
   exact⟨cells,fss,I_ k1 J,k2.below J,X,λc u G=>by
    rcases G with G|G;·exact Y c u G
    have:=k2.lt c u;omega,.inl (.inr (List.mem_cons_of_mem _ W))⟩
  have O:=K.grown S (.inl (.inr (List.mem_cons_self ..))) ap;refine O.weaken (λc _ u=>?_) (.inr (by rw[List.map_append];exact List.mem_cons_of_mem _ (List.mem_append_left _ W)));rcases u with u|u
  ·exact .inl (.inl u)
  rw[List.map_append,List.map_cons,List.map_nil]at u;simp only[List.mem_cons,List.mem_append,List.not_mem_nil,or_false]at u ⊢;rcases u with rfl|u|rfl
  ·rcases H with e|e
   ·exact .inl (.inr (.inl e))
   exact .inr oM
  ·exact .inl (.inr (.inr u))
  exact .inr ao
 have am:k=i:=by have:=(List.getElem?_eq_some_iff.1 D).1;simp[h.gl]at this;omega
 subst am;rw[List.getElem?_append_right (by rw[h.gl];exact Nat.le_refl _),h.gl,Nat.sub_self]at D;rw[List.getElem?_append_right (by rw[h.ml];exact Nat.le_refl _),h.ml,Nat.sub_self]at I;simp at D I;subst D;subst I
 have K:RR (λc=>(c<wr.1.size\/c=g)\/wa.1.size<=c) wa g n c r:=by
  obtain⟨cells,fss,k1,k2,X,Y,ag⟩:=af
  exact⟨cells,fss,k1,k2,X,λc u G=>by
   rcases G with G|G;·exact Y c u G
   have:=k2.lt c u;omega,.inl ag⟩
 have O:=K.grown S (.inl (.inl ae.2)) oM;refine O.weaken (λc _ u=>?_) (.inr (by rw[List.map_append];exact List.mem_cons_of_mem _ (List.mem_append_right _ sI)));rcases u with u|u
 ·exact .inl (.inl oM)
 rw[List.map_append,List.map_cons,List.map_nil]at u;simp only[List.mem_cons,List.mem_append,List.not_mem_nil,or_false]at u ⊢;rcases u with rfl|u|rfl
 ·rcases H with e|e
  ·exact .inl (.inl oM)
  exact .inr oM
 ·exact .inl (.inl (T c u))
 exact .inl (.inr rfl)
section
variable {w U U':World} {o i n cap:Nat} {gs:List (Nat×Nat)} {M:List (List TRat)}
theorem MSt.below (h:MSt w U o i cap n gs M) (hb:Bw U U'):MSt w U' o i cap n gs M :=
 ⟨Below.next h.bl hb,h.gl,h.ml,h.nd,h.lo,I_ h.ou hb,λk g r h1 h2=>(h.ro k g r h1 h2).below hb⟩
theorem MSt.row (h:MSt w U o i cap n gs M) {k:Nat} (D:k<i):∃ (g c:Nat) (r:List TRat),gs[k]?=some (g,c)/\M[k]?=some r/\U.cell? ⟨o,k,none⟩=some (.slice (some ⟨g,0,none⟩) n c)/\o<U.1.size/\RR (λb=>b<w.1.size\/b∈o::gs.map (·.1)) U g n c r/\g≠o:=by
 obtain⟨⟨g,c⟩,u⟩:∃ g,gs[k]?=some g:=⟨_,List.getElem?_eq_getElem (by rw[h.gl];exact D)⟩
 obtain⟨r,E⟩:∃ r,M[k]?=some r:=⟨_,List.getElem?_eq_getElem (by rw[h.ml];exact D)⟩
 refine⟨g,c,r,u,E,?_,(World.ownsRow.lt h.ou _ rfl).2,h.ro k (g,c) r u E,λe=>(List.nodup_cons.1 h.nd).1 (List.mem_map.2 ⟨(g,c),List.mem_of_getElem? u,e⟩)⟩;rw[World.ownsRow.cellAt h.ou _ oM,List.getElem?_map,u];rfl
theorem MSt.set (h:MSt w U o i cap n gs M) {k j g c:Nat} {r:List TRat} (E:gs[k]?=some (g,c)) (W:M[k]?=some r) (ac:j<n) {y:TRat} {O1:Option Addr} {o1 u1:Nat} {O2:Option Addr} {o2 u2:Nat} {J:List Nat} (X:Agg U (.agg #[.bool y.1.1,.slice O1 o1 u1,.slice O2 o2 u2]) y J) (Z:∀ b∈J,b∉o::gs.map (·.1)) (ae:∀ b∈J,w.1.size<=b) :
  MSt w (((U.setCell ⟨g,j*3,none⟩ (.bool y.1.1)).setCell ⟨g,j*3+1,none⟩ (.slice O1 o1 u1)).setCell ⟨g,j*3+2,none⟩ (.slice O2 o2 u2)) o i cap n gs (M.set k (r.set j y)):=by
 have O:g∈gs.map (·.1):=List.mem_map.2 ⟨(g,c),List.mem_of_getElem? E,rfl⟩;have K:=h.lo g (List.mem_cons_of_mem _ O);have aa:g∈o::gs.map (·.1):=List.mem_cons_of_mem _ O;have ai:g≠o:=λe=>(List.nodup_cons.1 h.nd).1 (e ▸ O)
 have T:∀ b,b≠g->(((U.setCell ⟨g,j*3,none⟩ (.bool y.1.1)).setCell ⟨g,j*3+1,none⟩ (.slice O1 o1 u1)).setCell ⟨g,j*3+2,none⟩ (.slice O2 o2 u2)).1[b]?=U.1[b]?:=λb u =>
  (Below.heap_setCell _ _ _ b (by simpa using u)).trans ((Below.heap_setCell _ _ _ b (by simpa using u)).trans (Below.heap_setCell _ _ _ b (by simpa using u)))
 have aj:(((U.setCell ⟨g,j*3,none⟩ (.bool y.1.1)).setCell ⟨g,j*3+1,none⟩ (.slice O1 o1 u1)).setCell ⟨g,j*3+2,none⟩ (.slice O2 o2 u2)).1.size=U.1.size:=by simp[World.setCell]
 refine⟨((h.bl.setCell (p:=⟨g,_,none⟩) K _).setCell (p:=⟨g,_,none⟩) K _).setCell (p:=⟨g,_,none⟩) K _,h.gl,by simpa using h.ml,h.nd,h.lo,h.ou.kept (row:=some g) ⟨rfl,rfl,rfl,oM,λk _ ad=>T k (λe=>ad (by rw[e]))⟩ ?_,λI q ah G H=>?_⟩;·show some o=none\/some o≠some g;exact .inr sO
 by_cases ab:I=k
 ·subst ab
  obtain rfl:(g,c)=q:=by rw[E]at G;exact Option.some.inj G
  rw[List.getElem?_set_self (by have:=(List.getElem?_eq_some_iff.1 W).1;omega)]at H;cases H
  exact(h.ro I (g,c) r E W).set ac X (λb u Y=>by
   rcases Y with D|D;·have:=ae b u;omega
   exact Z b u D)
 rw[List.getElem?_set_ne oM]at H
 have ag:g≠q.1:=λe=>by
  have D:(gs.map (·.1))[k]?=some g:=by rw[List.getElem?_map,E];rfl
  have S:(gs.map (·.1))[I]?=some g:=by rw[List.getElem?_map,G,e];rfl
  have af:=(List.nodup_cons.1 h.nd).2;have k1:=(List.getElem?_eq_some_iff.1 D).1;have k2:=(List.getElem?_eq_some_iff.1 S).1;have:=(List.getElem_inj (h₀:=k1) (h₁:=k2) af).1 (by rw[(List.getElem?_eq_some_iff.1 D).2,(List.getElem?_eq_some_iff.1 S).2]);omega
 exact(h.ro I q ah G H).keep g (.inr aa) ag oM rfl rfl rfl T
theorem MSt.ltAll (h:MSt w U o i cap n gs M):∀ b∈o::gs.map (·.1),b<U.1.size:=by
 intro b u;rcases List.mem_cons.1 u with rfl|u
 ·exact(World.ownsRow.lt h.ou _ rfl).2
 obtain⟨q,G,rfl⟩:=List.mem_map.1 u;obtain⟨k,D⟩:=List.mem_iff_getElem?.1 G;have E:=(List.getElem?_eq_some_iff.1 D).1;exact(h.ro k q _ D (List.getElem?_eq_getElem (by rw[h.ml,<-h.gl];exact E))).lt
theorem MSt.sl (h:MSt w U o i cap n gs M):∃ bs,Sl U (some ⟨o,0,none⟩) i cap M bs/\∀ b∈bs,w.1.size<=b:=by
 have aj:∀ k,k<i->∃ g c r bs,gs[k]?=some (g,c)/\M[k]?=some r/\Sl U (some ⟨g,0,none⟩) n c r bs/\∀ b∈bs,w.1.size<=b:=λk G=>by
  obtain⟨g,c,r,K,T,_,_,ad,_⟩:=h.row G;obtain⟨bs,I,D⟩:=ad.sl;refine⟨g,c,r,bs,K,T,I,λb ae=>?_⟩;rcases D b ae with rfl|ab;·exact h.lo b (List.mem_cons_of_mem _ (List.mem_map.2 ⟨(b,c),List.mem_of_getElem? K,rfl⟩))
  exact Nat.le_of_not_lt (λac=>ab (.inl ac))
 have af:∀ m,m<=i->∃ fss:List (List Nat),fss.length=m/\∀ (k:Nat) (q:Nat×Nat) (r:List TRat) (u:List Nat),k<m->gs[k]?=some q->M[k]?=some r->fss[k]?=some u->Sl U (some ⟨q.1,0,none⟩) n q.2 r u/\∀ b∈u,w.1.size<=b:=by
  intro m;induction m with
  |zero=>exact λ_=>⟨[],rfl,λi g r u X=>absurd X (Nat.not_lt_zero _)⟩
  |succ m ih =>
   intro am
   obtain⟨fss,H,J⟩:=ih oM
   obtain⟨g,c,r,bs,K,T,I,D⟩:=aj m oM
   refine⟨fss++[bs],by simp[H],λk q al u X O W E=>?_⟩
   by_cases ah:k<m
   ·rw[List.getElem?_append_left oM]at E
    exact J k q al u ah O W E
   obtain rfl:k=m:=oM
   rw[<-H]at E
   simp at E
   rw[K]at O;rw[T]at W
   cases O;cases W
   rw[<-E];exact⟨I,D⟩
 obtain⟨fss,H,J⟩:=af i (Nat.le_refl _)
 have ag:Filled U (gs.map λg=>Value.slice (some ⟨g.1,0,none⟩) n g.2) M fss:=by
  refine⟨by rw[H,h.ml],by simp[h.ml,h.gl,Dat.sz],λk x u aa E=>?_⟩;have G:k<i:=by rw[<-h.ml];exact(List.getElem?_eq_some_iff.1 aa).1
  obtain⟨q,Z⟩:∃ q,gs[k]?=some q:=⟨_,List.getElem?_eq_getElem (by rw[h.gl];exact G)⟩
  refine⟨some ⟨q.1,0,none⟩,n,q.2,?_,(J k q x u G Z aa E).1⟩
  exact B0l (λj Y=>by
   have:j=0:=by simp[Dat.sz]at Y;exact Y
   subst this;simp[Dat.sz,Z]) rfl
 obtain⟨A,c,bs,ak,I,ai⟩:=ag.sl (α:=List TRat) h.ou h.ml;cases ak;refine⟨bs,I,λb D=>?_⟩;rcases ai with⟨_,rfl⟩|⟨g',e,rfl,_⟩;·simp at D
 simp[Value.ownBlock]at e;subst e;rcases List.mem_cons.1 D with rfl|D
 ·exact h.lo _ (List.mem_cons_self ..)
 obtain⟨u,E,D⟩:=List.mem_flatten.1 D;obtain⟨k,G⟩:=List.mem_iff_getElem?.1 E;have S:k<i:=by rw[<-H];exact(List.getElem?_eq_some_iff.1 G).1
 exact(J k _ _ u S (List.getElem?_eq_getElem (by rw[h.gl];exact S)) (List.getElem?_eq_getElem (by rw[h.ml];exact S)) G).2 b D
end
def IRow (w:World) (base g n:Nat) (fs:List Int):Prop:=w.ownsRow base 3 1 (.slice (some ⟨g,0,none⟩) n n) n (fs.map (.int .i64))
theorem IRow.cell {w:World} {base g n:Nat} {b:List Int} (h:IRow w base g n b) {j:Nat} {f:Int} (u:b[j]?=some f):w.cell? ⟨g,j,none⟩=some (.int .i64 f)/\w.frozen? ⟨g,j,none⟩=false:=by
 have D:=(List.getElem?_eq_some_iff.1 u).1;have E:b.length=n*1:=by have:=h.1;simpa using this
 exact⟨by rw[World.ownsRow.cellAt h j oM,List.getElem?_map,u];rfl,World.ownsRow.frozenAt h j⟩
theorem IRow.lt {w:World} {base g n:Nat} {fs:List Int} (h:IRow w base g n fs):g<w.1.size:=(World.ownsRow.lt h _ rfl).2
theorem IRow.set {w:World} {base g n:Nat} {b:List Int} (h:IRow w base g n b) (j:Nat) (f:Int):IRow (w.setCell ⟨g,j,none⟩ (.int .i64 f)) base g n (b.set j f):=by
 unfold IRow;rw[List.map_set];exact(World.ownsRow.stored h j _).1
theorem IRow.below {w w':World} {base g n:Nat} {fs:List Int} (h:IRow w base g n fs) (hb:Bw w w'):IRow w' base g n fs:=I_ h hb
theorem IRow.sl {w:World} {base g n:Nat} {b:List Int} (h:IRow w base g n b) (hi:∀ x∈b,I64 x):∃ bs,Sl w (some ⟨g,0,none⟩) n n b bs/\(∀ w0:World,w0.1.size<=base->Own w0 w bs):=by
 have H:b.length=n:=by have:=h.1;simpa using this
 have G:Filled w (b.map (.int .i64)) b (List.replicate b.length []):=Filled.ints (by rw[List.take_of_length_le sI]) hi sI;obtain⟨A,c,bs,J,I,D⟩:=G.sl (α:=Int) h H;cases J;refine⟨bs,I,λw0 T=>?_⟩;rw[B0k]at D;rcases D with⟨_,rfl⟩|⟨g',S,rfl,O,E⟩
 ·exact Own.nil _ _
 exact⟨sI,λK u=>by simp at u;subst u;exact⟨oM,E⟩⟩
end
end Go.Proofs.YtbhemnidcleaiaaGreat.X

namespace Go.XB
open Go.RowKit
section
variable {P:Program} {l:List Oper} {R:Nat->DP} {C:World->Prop} {a0:Act} {base:Nat}
def C5y (o:Oper):Bool:=o.guard.isNone&&match o.op with | .extract _ _=>true|_=>false
def D6j (l:List Oper) (m s:Nat):Bool :=
 let R:=D4m l (List.range l.length).reverse [m]
 decide (s<m)&&((List.range m).all λk=>k==s || R.contains k)&&(match l[m]? with|some o=>o.guard.isNone&&!(N_ o).contains s|none=>false)&&(match l[m+1]? with|some o=>(N_ o).contains s|none=>true)&&(match l[s]? with|some o=>C5y o|none=>false)
theorem E0x {o:Oper} (h:C5y o=true) (u:Operand->Value) {w D:World} {n:Next} (b:(execOp u o).run P w=.ok n D):∃ v,n=.value v/\D=w/\∀ w',(execOp u o).run P w'=.ok (.value v) w':=by
 unfold C5y at h;simp only[Bool.and_eq_true]at h;obtain⟨_,h⟩:=h;cases E:o.op with
 |extract x i =>
  unfold execOp at b ⊢
  simp only[E]at b ⊢
  unfold Instr.extract at b ⊢
  cases H:u x with
  |tuple vs =>
   simp only[H]at b ⊢
   cases G:vs[i]? with
   |some v =>
    simp only[G]at b ⊢
    have e:(Result.ok (Next.value v) w:Result Next)=.ok n D:=b
    cases e
    exact⟨v,rfl,rfl,λ_=>rfl⟩
   |none=>simp only[G]at b;cases b
  |_=>simp only[H]at b;cases b
 |_=>rw[E]at h;cases h
theorem E2r (a:Act) {d e:Option Tmp} (h:∀ t,d=some t->e=some t->False) (u v:Value):(a.put d u).put e v=(a.put e v).put d u:=by
 cases d with
 |none=>cases e<;>rfl
 |some d =>
  cases e with
  |none=>rfl
  |some e =>
   have b:d≠e:=λD=>h d rfl (by rw[D])
   simp only[Act.put]
   congr 1
   exact Array.setIfInBounds_comm _ _ (by first|exact b|exact b.symm)
theorem F2n {Q:Exit->Act->World->Prop} {b:Act->World->Prop} {a:Act} {w:World} {i:Nat} {o:Oper} (D:l[i]?=some o) (u:o.guard=none) (h:Oper.wp P o a w b Q):wpOp P l.toArray Q i b a w:=by
 unfold wpOp;simp only[List.getElem?_toArray,D];rw[if_pos (by unfold Region.wanted;rw[u])];exact .inl h
theorem D5x {Q:Exit->Act->World->Prop} {N m s:Nat} {O:Oper} (T:l[m]?=some O) (a6:B0h l=true) (a5:∀ w w',C w->base<=w.1.size->Bw w w'->C w') (al:a0.tmps.size=N) (ab:B1r l N=true) (am:D6j l m s=true) (ak:C7f l m=true)
  (aV:∀ i o,i<m->l[i]?=some o->part P l R C a0 i o) (aO:∀ i o,i<m->l[i]?=some o->Cong (R i) (N_ o))
  (aN:∀ (y:Nat->Value) (z:Nat->List Nat) (w:World),C w->(∀ i,i<m->(R i y).p (y i) (z i) w/\∀ b∈z i,base<=b/\b<w.1.size)->(∀ i j,i≠j->i<m->j<m->∀ b∈z i,b∉z j) ->
   ∃ w',(execOp (L_ l y a0 (List.range m)).eval O).run P w=.ok .skip w'/\wpList P l.toArray Q (l.drop (m+1)) ((L_ l y a0 (List.range m)).put O.dst undef) w')
  (ao:∀ (listed:Array Bool),listed.size=l.length->Region.ready .any l.toArray listed=[]->∀ i,i<l.length->listed.getD i false=true) :
  ∀ (fuel:Nat) (listed:Array Bool) (a:Act) (w:World) (y:Nat->Value) (z:Nat->List Nat),listed.size=l.length->(listed.toList.filter (λb=>!b)).length<=fuel->(∀ k,m<=k->k<l.length->listed.getD k false=false) ->
   St l R C a0 base listed a w y z->wpAny P .any l.toArray Q fuel listed a w:=by
 obtain⟨aX,aY,aJ,aZ⟩:=B4d ab;have aW:m<l.length:=(List.getElem?_eq_some_iff.1 T).1;simp only[D6j,T,Bool.and_eq_true,decide_eq_true_eq,List.all_eq_true]at am;obtain⟨⟨⟨⟨bu,am⟩,ba,bn⟩,aT⟩,aL⟩:=am;have bc:O.guard=none:=by simpa using ba
 have a1:s∉N_ O:=by simpa using bn
 obtain⟨E,J⟩:∃ E,l[s]?=some E:=⟨_,List.getElem?_eq_getElem oM⟩
 rw[J]at aL;have aC:∀ (i:Nat) (o:Oper),l[i]?=some o->∀ e∈N_ o,e<i:=λi o bl e ac=>by have h:=a6;unfold B0h at h;rw[List.all_eq_true]at h;have D:=h (o,i) (by rw[List.mem_iff_getElem?];exact⟨i,by simp[List.getElem?_zipIdx,bl]⟩);simp only[List.all_eq_true,decide_eq_true_eq]at D;exact D e ac
 intro fuel;induction fuel with
 |zero=>intro listed a w y z K a9 I H;have:=C1v K I;omega
 |succ fuel ih =>
  intro listed a w y z K a9 I H
  refine⟨λaA=>(by have:=ao listed K aA m aW;rw[I m (Nat.le_refl _) aW]at this;cases this),λi af=>?_⟩
  obtain⟨o,W,br,a4,bj,ap⟩:=C4i K af
  have aS:i<listed.size:=oM
  have Y:=C7h aS
  have bp:=A8y listed.toList i bj
  rcases Nat.lt_trichotomy i m with ag|ag|ag
  ·refine D8o rfl (al ▸ ab) H W a4 ap (aV i o ag W) λv aj w' an a8 aD=>?_
   refine ih _ _ w' _ _ (by simpa using K) ?_ (λk h D=>by rw[Y,if_neg oM];exact I k h D) (C6g al aY aJ H W aS a4 K (λj ay S aG=>aO j ay (by
    have ar:=(List.getElem?_eq_some_iff.1 S).1;rcases Nat.lt_or_ge j m with h|h
    ·exact h
    rcases aG with G|G;·omega
    rw[I j h ar]at G;cases G) S) ap (a5 _ _ H.c H.hb an) an a8 aD)
   rw[show(listed.setIfInBounds i true).toList=listed.toList.set i true by simp];omega
  ·subst ag
   obtain rfl:O=o:=by rw[T]at W;exact Option.some.inj W
   have ad:∀ k,k<i->k≠s->listed.getD k false=true:=λk u Z =>
    (B0p (l:=l) (listed:=listed) (n:=i) (λk o bi _ u=>H.closed k o bi u) (λay aU e ac=>by
     rw[W]at aU;cases aU;exact ap e ac) (List.range l.length).reverse [i] (λk u=>by simp at u;exact .inl u) k
     (by have:=am k (List.mem_range.2 u);simp only[Bool.or_eq_true,beq_iff_eq,List.contains_iff_mem]at this;exact this.resolve_left Z)).resolve_left oM
   refine F2n T bc ?_
   cases ah:listed.getD s false with
   |true =>
    have ae:∀ k,k<i->listed.getD k false=true:=λk u=>if Z:k=s then Z ▸ ah else ad k u Z
    have aB:=D9r ab H ae I
    obtain⟨w',aa,G⟩:=aN y z w H.c (λi af=>H.facts i (ae i af)) (λi j bd af S=>H.disj i j bd (ae i af) (ae j S))
    rw[<-aB]at G aa
    unfold Oper.wp
    rw[aa]
    show wpAny P .any l.toArray Q fuel (listed.setIfInBounds i true) (a.put O.dst undef) w'
    refine C4e ak ao fuel (i+1) _ _ _ oM oM (by simpa using K) (by have:=C1v K I;omega) (λk u=>?_) G
    rw[Y]
    split
    ·rename_i h;subst h;simp
    ·rcases Nat.lt_or_ge k i with D|D
     ·rw[ae k D];simp;omega
     ·rw[I k D u];simp;omega
   |false =>
    have ai:s<listed.size:=oM
    have aF:∀ e∈N_ E,listed.getD e false=true:=λe ac=>by have:=aC s E J e ac;exact ad e oM oM
    have bk:=F2l al ab H J ah aF
    have aR:E.guard=none:=by have G:C5y E=true:=aL;unfold C5y at G;simp only[Bool.and_eq_true,Option.isNone_iff_eq_none]at G;exact G.1
    have X:=aV s E oM J y z w H.c (λk u=>(H.facts k (aF k u)).1)
    rw[if_pos (by unfold Region.wanted;rw[aR])]at X
    unfold B2b at X
    obtain⟨vs,aH,an,aj,a7,aD⟩:∃ vs,(∀ w',(execOp (L_ l y a0 (N_ E)).eval E).run P w'=.ok (.value vs) w')/\Bw w w/\∃ aj,(R s y).p vs aj w/\∀ b∈aj,w.1.size<=b/\b<w.1.size:=by
     cases aI:(execOp (L_ l y a0 (N_ E)).eval E).run P w with
     |ok n w1 =>
      obtain⟨vs,rfl,rfl,aH⟩:=E0x (show C5y E=true from aL) _ aI
      rw[aI]at X
      exact⟨vs,aH,X.1,X.2⟩
     |halt x w1=>rw[aI]at X;exact X.elim
    have aM:=C6g al aY aJ H J ai ah K (λj ay S aG=>aO j ay (by
     have ar:=(List.getElem?_eq_some_iff.1 S).1;rcases Nat.lt_or_ge j i with h|h
     ·exact h
     rcases aG with G|G;·omega
     rw[I j h ar]at G;cases G) S) aF H.c an a7 aD
    have a2:=C7h ai
    have aq:∀ k,k<i->(listed.setIfInBounds s true).getD k false=true:=λk u=>by
     rw[a2];split;·rfl
     rename_i Z;exact ad k u Z
    have aB:=D9r ab aM aq λk u bh=>by rw[a2,if_neg oM];exact I k u bh
    obtain⟨w',aa,G⟩:=aN _ _ w H.c (λk u=>aM.facts k (aq k u)) (λk j bg u S=>aM.disj k j bg (aq k u) (aq j S))
    rw[<-aB]at G aa
    rw[A4e (a':=a) (λaz b=>Region.noSelect_spec aX i O az b (by simpa using T)) λt aw=>by
     rw[B1q,if_neg];rintro⟨aE,_⟩;rcases aZ i O T t aw s E J aE with h|h
     ·exact a1 h
     have:=aC s E J i h;omega]at aa
    unfold Oper.wp
    rw[aa]
    show wpAny P .any l.toArray Q fuel (listed.setIfInBounds i true) (a.put O.dst undef) w'
    have bt:=C1v K I
    have aK:=Y s
    rw[if_neg oM,ah]at aK
    have a3:(listed.setIfInBounds i true).size=l.length:=by simpa using K
    have bq:=A8y (listed.toList.set i true) s (by
     have:listed[s]=false:=by simpa[Array.getD_eq_getD_getElem?,ai]using ah
     rw[List.getElem?_set_ne oM];simp[ai,this])
    obtain⟨f,rfl⟩:∃ f,fuel=f+1:=⟨fuel - 1,oM⟩
    refine⟨λaA=>(by have:=ao _ a3 aA s oM;rw[aK]at this;cases this),λj S=>?_⟩
    obtain⟨bo,au,ar,ax,bs,aQ⟩:=C4i a3 S
    have bf:j=s:=by
     rcases Nat.lt_trichotomy j i with h|h|h
     ·rcases Nat.decEq j s with D|D
      ·rw[Y,if_neg oM,ad j h D]at ax;cases ax
      exact D
     ·rw[h,Y,if_pos rfl]at ax;cases ax
     exfalso;by_cases be:j=i+1;·subst be;rw[au]at aT;have:=aQ s (by simpa using aT);rw[aK]at this;cases this
     have:=aQ _ (B1j ak au h);rw[Y,if_neg oM,I (j - 1) oM oM]at this;cases this
    subst bf
    obtain rfl:E=bo:=by rw[J]at au;exact Option.some.inj au
    refine F2n J aR ?_
    unfold Oper.wp
    rw[A4e (a':=L_ l y a0 (N_ E)) (λaz b=>Region.noSelect_spec aX j E az b (by simpa using J)) λt aw=>by
     rw[B1q,if_neg];·exact bk t aw
     rintro⟨aE,_⟩;rcases aZ j E J t aw i O T aE with h|h;·have:=aC j E J i h;omega
     exact a1 h,aH w']
    show wpAny P .any l.toArray Q f ((listed.setIfInBounds i true).setIfInBounds j true) ((a.put O.dst undef).put E.dst vs) w'
    rw[E2r a (λt h D=>by have:=aJ i j t (by simp[opAt,T,h]) (by simp[opAt,J,D]);omega)]
    have aP:∀ k,k<l.length->((listed.setIfInBounds i true).setIfInBounds j true).getD k false=decide (k<i+1):=λk u=>by
     rw[C7h (by simpa using ai),Y];split;·simp;omega
     split;·rename_i h;subst h;simp
     rcases Nat.lt_or_ge k i with D|D;·rw[ad k D (by assumption)];simp;omega
     rw[I k D u];simp;omega
    have bm:=C1v (listed:=(listed.setIfInBounds i true).setIfInBounds j true) (p:=i+1) (by simpa using K) λk h D=>by rw[aP k D];simp;omega
    rw[show((listed.setIfInBounds i true).setIfInBounds j true).toList=(listed.toList.set i true).set j true by simp]at bm
    exact C4e ak ao f (i+1) _ _ _ oM oM (by simpa using K) oM aP G
  have h:=ap _ (B1j ak W ag)
  rw[I (i - 1) oM oM]at h
  cases h
theorem B8f {ae:Nat} {Q:Exit->Act->World->Prop} {w:World} (m s:Nat) (J:Oper) (O:l[m]?=some J) (ac:P.follows .mixedOrders=true) (W:B1r l a0.tmps.size=true) (E:B0h l=true) (Z:D6j l m s=true) (Y:C7f l m=true)
  (h:A4c P l w a0 (λRs=>∀ (y:Nat->Value) (z:Nat->List Nat) (w':World),Bw w w'->A0r w w' y z 0 (Rs.take m) ->
   D8m z m->∃ w2,(execOp (L_ l y a0 (List.range m)).eval J).run P w'=.ok .skip w2/\wpList P l.toArray Q (l.drop (m+1)) ((L_ l y a0 (List.range m)).put J.dst undef) w2) (l.take m) []):(Code.region ae l.toArray true).wp P Q a0 w:=by
 have ag:m<l.length:=(List.getElem?_eq_some_iff.1 O).1;have af:(l.take m).length=m:=sO;have G:∀ j,j<(l.take m).length->(l.take m)[j]?=l[j]?:=λj K=>by rw[List.getElem?_take,if_pos oM]
 obtain⟨Rs,X,_,S⟩:=B2h E (l.take m) [] (λj K=>by simpa using G j K) h;refine wp_region_any ac ?_
 refine D5x (m:=m) (s:=s) O E (R:=λi=>Rs.getD i (λ_=>MP.eq undef)) (C:=λw'=>Bw w w') (a0:=a0) (base:=w.1.size) (λai w2 b u D=>b.trans (D.mono u)) rfl W Z Y
  (λi o aa I=>by have:=(A5f (l.take m) 0 S i o (by rw[G i oM];exact I)).2;rwa [Nat.zero_add]at this)
  (λi o aa I=>by have:=(A5f (l.take m) 0 S i o (by rw[G i oM];exact I)).1;rwa [Nat.zero_add]at this)
  (λy z w' b u D=>X y z w' b (B6a _ 0 λk ah H=>?_) D) (λlisted ad T=>B6j E listed ad T) _ _ a0 _ _ _ sI sI (λk _ _=>?_) D7k
 ·rw[Nat.zero_add,List.getElem?_take]at *
  split at H;·rename_i ab;have:=u k ab;simpa[List.getD_eq_getElem?_getD,H]using this
  cases H
 rw[Array.getD_eq_getD_getElem?,Array.getElem?_replicate];split<;>rfl
end
end Go.XB

namespace Go.XB
open Go.RowKit
structure TByte where
 v:Int
 deriving DecidableEq
instance:Dat TByte where
 sz:=1
 pos:=dE
 at_:=λ_ cs x bs=>cs=[.int .u8 x.v]/\bs=[]/\0<=x.v/\x.v<256
 len:=λh=>by rw[h.1];rfl
 one:=λh u hu=>by rw[h.1]at hu;simp at hu;subst hu;rfl
 lt:=λh b hb=>by rw[h.2.1]at hb;simp at hb
 keep:=λh _=>h
theorem Sl.getByte {w:World} {A:Option Addr} {n c:Nat} {xs:List TByte} {u:List Nat} (h:Sl w A n c xs u) {k:Nat} (ad:k<n) :
  ∃ b off x,A=some ⟨b,off,none⟩/\b<w.1.size/\b∈u/\(0<=x/\x<256)/\w.cell? ⟨b,off+k,none⟩=some (.int .u8 x):=by
 obtain⟨Z,aa,ab,ac,H⟩:=h;obtain⟨b,off,D,I,O,ae,K,T⟩:=H oM;have X:xs[k]?=some (xs[k]'oM):=List.getElem?_eq_getElem oM;have W:D[k]?=some (D[k]'oM):=List.getElem?_eq_getElem oM;obtain⟨Y,S,J⟩:=T k _ _ X W;obtain⟨E,_,G⟩:=J;refine⟨b,off,(xs[k]'oM).v,I,K,by rw[O];simp,G,?_⟩;have:=S 0 (.int .u8 (xs[k]'oM).v) (by rw[E];rfl);simpa[Dat.sz]using this
end Go.XB
namespace Go.Proofs.YtbhemnidcleaiaaGreat.X
open Go.RowKit Go.XB Proofs.Tryz
attribute [local go_sem] L_ opAt N_ M_ Region.wanted yielded
attribute [local simp] N_ M_ MP.eq MP.agg MP.sl A0r
theorem D6p (a:Int):0<=bits .and .i64 a 255/\bits .and .i64 a 255<256:=by
 have b:bits .and .i64 a 255=IntKind.i64.wrap ((BitVec.ofInt 64 a &&& BitVec.ofInt 64 255).toNat):=rfl;have h:(BitVec.ofInt 64 a &&& BitVec.ofInt 64 255).toNat<=255:=by rw[BitVec.toNat_and];exact Nat.le_trans Nat.and_le_right dE
 rw[b,IntWalk.i64_in _ oM];omega
theorem C0x (w:World) (g o:Nat) (v:Value):w.grownBy (w.setCell ⟨g,o,none⟩ v) (some g) :=
 ⟨rfl,rfl,rfl,sI,λk _ hne=>Below.heap_setCell w ⟨g,o,none⟩ v k (λe=>hne (by rw[e]))⟩
theorem A6m {w w':World} (hb:Bw w w') (r:Option Nat):w.grownBy w' r:=⟨hb.os,hb.tape,hb.output,hb.size,λk hk _=>hb.block k hk⟩
def Cur (w:World) (g:Nat) (A:Option Addr) (n c:Nat):Prop:=∃ (i:Nat) (h:Int),i<=n/\g<w.1.size/\w.cell? ⟨g,0,none⟩=some (.slice A n c)/\w.cell? ⟨g,1,none⟩=some (.int .i64 i)/\w.cell? ⟨g,2,none⟩=some (.int .i64 h)/\w.frozen? ⟨g,1,none⟩=false/\w.frozen? ⟨g,2,none⟩=false
def C9r (w:World) (g:Nat) (A:Option Addr) (n c:Nat) (m:Int) (e:Ending) (w':World):Prop:=∃ x:Int,e=.returned (.int .i64 x)/\(0<=x/\x<m)/\Cur w' g A n c/\w.grownBy w' (some g)

theorem D2v (g:Nat) (A:Option Addr) (n c:Nat) (xs:List TByte) (ao:List Nat) (w:World) (ak:Sl w A n c xs ao) (aW:n<=1048576) (aJ:Cur w g A n c) (ag:g∉ao) :
  Calls prog 104 #[.pointer (some ⟨g,0,none⟩)] w (C9r w g A n c 256):=by
 obtain⟨i,aS,aK,az,ap,aq,ar,au,aw⟩:=aJ;have aQ:=A_ ak;rcases Nat.lt_or_ge i n with ay|ay
 ·obtain⟨H,W,x,rfl,aF,af,aY,aC⟩:=Sl.getByte ak ay
  have aT:H≠g:=λe=>ag (e ▸ af);have aU:g≠H:=λe=>ag (e ▸ af);have aL:(i:Int)<n:=oM;have aV:(0:Int)<=i:=oM;clear ak ag af;go_enter func104,ntmps104;go_wp2_with fail;refine A0g ?_;iterate 13 refine C_ _ ?_
  intro O ae u b h (J:Hid _);simp at h;have X:=h.2.2.2.2.2.2.2.2.2.2.2.2;obtain⟨G,aD,ax⟩:∃ G,O 12=.int .i64 G/\(0<=G/\G<256):=⟨_,X.1.1,D6p _⟩
  obtain⟨I,K⟩:=F_ b;have aj:=b.size;simp at aj;have ab:u.cell? ⟨g,0,none⟩=some (.slice (some ⟨H,W,none⟩) n c):=by go_simp
  have k1:u.cell? ⟨g,1,none⟩=some (.int .i64 i):=by go_simp
  obtain⟨E,k2⟩:∃ E,u.cell? ⟨g,2,none⟩=some (.int .i64 E):=⟨_,by go_simp;first|done|rfl⟩
  have aO:u.cell? ⟨H,W+i,none⟩=some (.int .u8 x):=by go_simp
  have ac:u.frozen? ⟨g,1,none⟩=false:=by go_simp
  have ad:u.frozen? ⟨g,2,none⟩=false:=by go_simp
  have T:=A_ (show w.grownBy u (some g)from(C0x w g 2 _).trans (A6m b _));have ah:g<u.1.size:=oM;have aH:H<u.1.size:=oM;clear h J X I K b ap aq ar au aw aC az aF;go_simp;go_wp2_with fail;refine A0g ?_;iterate 10 refine C_ _ ?_
  intro O ae D b h (J:Hid _);simp at h;have Y:=h.2.2.2.2.2.2.2.2.2;have aE:O 9=.bool true:=by rw[Y.1.1]
  obtain⟨I,K⟩:=F_ b;have aN:=b.size;have al:D.cell? ⟨g,0,none⟩=some (.slice (some ⟨H,W,none⟩) n c):=by go_simp
  have m1:D.cell? ⟨g,1,none⟩=some (.int .i64 i):=by go_simp
  have m2:D.cell? ⟨g,2,none⟩=some (.int .i64 E):=by go_simp
  have aP:D.cell? ⟨H,W+i,none⟩=some (.int .u8 x):=by go_simp
  have am:D.frozen? ⟨g,1,none⟩=false:=by go_simp
  have an:D.frozen? ⟨g,2,none⟩=false:=by go_simp
  have aa:=A_ (T.trans (A6m b (some g)));have ai:g<D.1.size:=oM;have aI:H<D.1.size:=oM;clear h J Y I K b ab k1 k2 aO ac ad ah aH T;go_simp;go_wp2_with fail;refine A0g ?_;iterate 15 refine C_ _ ?_
  intro O ae S b h (J:Hid _);simp at h;have aA:=h.2.2.2.2.2.2.2.2.2.2.2.2.2.2;obtain⟨Z,aR,aG⟩:∃ Z,O 14=.int .i64 Z/\(0<=Z/\Z<256):=⟨_,aA.1.1,D6p _⟩
  obtain⟨I,K⟩:=F_ b;have aX:=b.size;have ab:S.cell? ⟨g,0,none⟩=some (.slice (some ⟨H,W,none⟩) n c):=by go_simp
  have k1:S.cell? ⟨g,1,none⟩=some (.int .i64 i):=by go_simp
  have k2:S.cell? ⟨g,2,none⟩=some (.int .i64 E):=by go_simp
  have ac:S.frozen? ⟨g,1,none⟩=false:=by go_simp
  have ad:S.frozen? ⟨g,2,none⟩=false:=by go_simp
  have aB:=A_ (aa.trans (A6m b (some g)));have aM:g<S.1.size:=oM;clear h J aA I K b al m1 m2 aP am an ai aI aa;go_simp;go_wp2;go_ret;refine⟨Z,rfl,aG,⟨i+1,E,oM,by simpa using aM,by go_simp,by first|(go_simp;done)|(go_simp;go_num),by go_simp,by go_simp,by go_simp⟩,aB.trans (C0x S g 1 _)⟩
 have aL:¬ ((i:Int)<n):=oM;go_enter func104,ntmps104;go_wp2_with fail;refine A0g ?_;iterate 13 refine C_ _ ?_
 intro O ae u b h (J:Hid _);simp at h;have X:=h.2.2.2.2.2.2.2.2.2.2.2.2;obtain⟨G,aD,ax⟩:∃ G,O 12=.int .i64 G/\(0<=G/\G<256):=⟨_,X.1.1,D6p _⟩
 obtain⟨I,K⟩:=F_ b;have aj:=b.size;simp at aj;have ab:u.cell? ⟨g,0,none⟩=some (.slice A n c):=by go_simp
 have k1:u.cell? ⟨g,1,none⟩=some (.int .i64 i):=by go_simp
 obtain⟨E,k2⟩:∃ E,u.cell? ⟨g,2,none⟩=some (.int .i64 E):=⟨_,by go_simp;first|done|rfl⟩
 have ac:u.frozen? ⟨g,1,none⟩=false:=by go_simp
 have ad:u.frozen? ⟨g,2,none⟩=false:=by go_simp
 have T:=A_ (show w.grownBy u (some g)from(C0x w g 2 _).trans (A6m b _));have ah:g<u.1.size:=oM;clear h J X I K b ap aq ar au aw az;go_simp;go_wp2_with fail;refine A0g ?_;iterate 10 refine C_ _ ?_
 intro O ae D b h (J:Hid _);simp at h;have Y:=h.2.2.2.2.2.2.2.2.2;have aE:O 9=.bool false:=by rw[Y.1.1];simp;omega
 obtain⟨I,K⟩:=F_ b;have aN:=b.size;have al:D.cell? ⟨g,0,none⟩=some (.slice A n c):=by go_simp
 have m1:D.cell? ⟨g,1,none⟩=some (.int .i64 i):=by go_simp
 have m2:D.cell? ⟨g,2,none⟩=some (.int .i64 E):=by go_simp
 have am:D.frozen? ⟨g,1,none⟩=false:=by go_simp
 have an:D.frozen? ⟨g,2,none⟩=false:=by go_simp
 have aa:=A_ (T.trans (A6m b (some g)));have ai:g<D.1.size:=oM;clear h J Y I K b ab k1 k2 ac ad ah T;go_simp;go_wp2;go_ret;exact⟨G,rfl,ax,⟨i,E,aK,ai,al,m1,m2,am,an⟩,aa⟩
end Go.Proofs.YtbhemnidcleaiaaGreat.X
