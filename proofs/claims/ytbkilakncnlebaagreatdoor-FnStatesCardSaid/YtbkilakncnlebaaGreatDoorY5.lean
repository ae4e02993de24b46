/- A part of the proof. -/
import Derived.Test.YtbkilakncnlebaaGreatDoorY4
import Derived.Deep.CutBlock
import Derived.Deep.DeepCutAuto
set_option linter.constructorNameAsVariable false
set_option maxHeartbeats 16000000
set_option maxRecDepth 10000
open Exists renaming intro→EI
open Go.IntKind renaming i64→QO
open Go.Value renaming int→QS,ownBlock→IR,slice→S
open Go.World.ownsRow renaming kept→MS,lt→EU,stored→MH
open Go.XB.Sl renaming below→AQ,getInt→DB
open Int renaming le_of_lt→JC,le_refl→GA,lt_or_le→EO,mul_le_mul_of_nonneg_right→JW
open List renaming getElem?_set_ne→IZ,length_take→GH,take_of_length_le→CZ,take_zero→ET
open Nat renaming le_add_right→MG,le_of_eq→FZ,le_refl→BH,le_trans→BM,lt_or_ge→BN,zero_le→DV
open Option renaming none→I,some→QL
namespace Go.Proofs.YtbkilakncnlebaaGreatDoor.X
open Go.RowKit Go.XB Go.XN Proofs.Tryz
attribute [local go_sem] L_ opAt N_ M_ Region.wanted yielded
attribute [local simp] N_ M_ MP.eq A0r
structure Turned (w w':World) (base g N cap lo hi:Nat) (us us':List Int):Prop where
 row:w'.ownsRow base 3 1 (S (QL ⟨g,0,I⟩) N cap) N (us'.map (QS QO))
 o:∀ k,k<lo\/hi<=k->us'[k]?=us[k]?
 grown:w.grownBy w' (QL g)

theorem Turned.set {w wr:World} {base g N cap lo hi:Nat} {us zs:List Int} (h:Turned w wr base g N cap lo hi us zs) (j:Nat) (h1:lo<=j) (h2:j<hi) (u:Int) :
  Turned w (wr.setCell ⟨g,j,I⟩ (QS QO u)) base g N cap lo hi us (zs.set j u) :=
 ⟨A3a h.row j u,λk hk=>by rw[IZ oS];exact h.o k hk,h.grown.trans (MH h.row j _).2⟩

theorem C9e (B:Option Addr) (base g N cap j m c d:Nat) (us ys:List Int) (aD:List Nat) (q:Int) (w:World) (D:w.ownsRow base 3 1 (S (QL ⟨g,0,I⟩) N cap) N (us.map (QS QO))) (ap:Lims us)
  (aV:j+m+1<=N) (aR:N<=1048576) (af:Sl w B m d ys aD) (aq:Lims ys) (au:∀ b o,B=QL ⟨b,o,I⟩->b≠g) (aK:0<=q) (aL:q<1000000000) :
  Calls prog 151 #[S (QL ⟨g,j,I⟩) (m+1) c,S B m d,QS QO q] w λe w' =>
   ∃ us' r,e=.returned (QS QO r)/\(r=0\/r=1)/\Turned w w' base g N cap j (j+m+1) us us'/\(val us'=val us - pw j*(q*val ys)+pw (j+m+1)*r/\Lims us'):=by
 have az:=A_ af;have aB:=A_ aq;have aC:=A_ au;have al:Turned w w base g N cap j (j+m+1) us us:=⟨D,λ_ _=>rfl,World.grownBy.refl _ _⟩
 have aA:=A_ (show ys.length=m from af.1);have ay:=A_ ap;clear af aq au D ap;go_enter func151,ntmps151;go_wp2_with fail;go_loopw [7,14] (λb i wr=>∃ (k:Nat) (bw:Int) (zs:List Int),k<=m/\0<=bw/\bw<1000000000/\i=QS QO k/\b=QS QO bw/\Turned w wr base g N cap j (j+m+1) us zs/\Hid (Lims zs)/\Hid (∀ u,j+k<=u->zs[u]?=us[u]?)/\Hid (val zs=val us - pw j*(q*val (ys.take k))+pw (j+k)*bw)) (λb i wr=>m - (intOf i).toNat);case atStart=>exact⟨0,0,us,DV _,GA _,oS,rfl,rfl,al,ay.o,λ_ _=>rfl,by show val us=val us - pw j*(q*val (ys.take 0))+pw (j+0)*0;rw[ET];simp[val]⟩
 case round =>
  obtain⟨k,bw,zs,ac,aS,aT,rfl,rfl,G,X,ar,ae⟩:=hrel;clear al;have ax:=A_ (A2n G.row);have aW:(j:Int)<=1048576:=oS;have aX:(k:Int)<=1048576:=oS;rcases BN k m with T|T
  ·have aI:(k:Int)<m:=oS
   have aJ:(k:Int)<m+1:=oS;obtain⟨b2,o2,y,rfl,an,ag,_,ao⟩:=DB az T;have ah:=aB.get ag;have ak:=A_ ag;have aO:=ah.1;have aP:=ah.2;have aU:=(World.cell?_of_block (a:=⟨b2,o2+k,I⟩) (G.grown.block b2 an (by have:=aC b2 o2 rfl;simpa using this))).trans ao;obtain⟨h,D,aM,aN⟩:=X.o.num (j:=j+k) (by rw[ax.o];omega);have Y:=A_ D;obtain⟨aG,aE,aF⟩:=A0t G.row D;have aa:=A_ G;clear D ao an ah ag G;obtain⟨aY,aZ⟩:=C0c aO aP aK aL;have E:k+1<=m:=T;have am:(0:Int)<1000000000:=oS;have W:j<=j+k:=MG _ _;have O:j+k<j+m+1:=oS;rcases EO (h - bw - y*q) 0 with H|H
   ·have ad:(h - bw - y*q<0):=H
    have ai:=A_ (by omega:0<=((-(h - bw - y*q)+1000000000 - 1) / 1000000000));have aj:=A_ (by omega:((-(h - bw - y*q)+1000000000 - 1) / 1000000000)<1000000000);have L:=A_ (X.o.set (j+k) (u:=(h - bw - y*q+(-(h - bw - y*q)+1000000000 - 1) / 1000000000*1000000000)) oS oS);have Z:=A_ (show ∀ u,j+(k+1)<=u->(zs.set (j+k) (h - bw - y*q+(-(h - bw - y*q)+1000000000 - 1) / 1000000000*1000000000))[u]?=us[u]? by intro u ab;rw[IZ oS];exact ar.o u oS);have r:=A_ (show val (zs.set (j+k) (h - bw - y*q+(-(h - bw - y*q)+1000000000 - 1) / 1000000000*1000000000))=val us - pw j*(q*val (ys.take (k+1)))+pw (j+(k+1))*((-(h - bw - y*q)+1000000000 - 1) / 1000000000) by rw[B3w Y.o,ae.o,Y_ ak.o,<-Nat.add_assoc,A1l (j+k),B0f];generalize ((-(h - bw - y*q)+1000000000 - 1) / 1000000000)=aQ;grind);have R:=A_ (aa.set (j+k) W O (h - bw - y*q+(-(h - bw - y*q)+1000000000 - 1) / 1000000000*1000000000));clear T ac;go_wp2_with fail;first
    |exact⟨⟨k+1,_,_,E,ai,aj,rfl,rfl,R,L,Z,r⟩,V_ E⟩
    |exact⟨by(repeat apply EI);exact⟨⟨k+1,_,_,E,ai,aj,rfl,rfl,R,L,Z,r⟩,rfl⟩,V_ E⟩
   ·have ad:¬ (h - bw - y*q<0):=oS
    have L:=A_ (X.o.set (j+k) (u:=h - bw - y*q) H oS);have Z:=A_ (show ∀ u,j+(k+1)<=u->(zs.set (j+k) (h - bw - y*q))[u]?=us[u]? by intro u ab;rw[IZ oS];exact ar.o u oS);have r:=A_ (show val (zs.set (j+k) (h - bw - y*q))=val us - pw j*(q*val (ys.take (k+1)))+pw (j+(k+1))*0 by rw[B3w Y.o,ae.o,Y_ ak.o,B0f];grind);have R:=A_ (aa.set (j+k) W O (h - bw - y*q));clear T ac;go_wp2_with fail;first
    |exact⟨⟨k+1,0,_,E,GA 0,am,rfl,rfl,R,L,Z,r⟩,V_ E⟩
    |exact⟨by(repeat apply EI);exact⟨⟨k+1,0,_,E,GA 0,am,rfl,rfl,R,L,Z,r⟩,rfl⟩,V_ E⟩
  have aH:k=m:=oS;subst aH;have aI:¬ ((k:Int)<k):=oS;have aJ:(k:Int)<k+1:=oS;obtain⟨h,D,aM,aN⟩:=X.o.num (j:=j+k) (by rw[ax.o];omega);have Y:=A_ D;obtain⟨aG,aE,aF⟩:=A0t G.row D;have aa:=A_ G;clear D G;have W:j<=j+k:=MG _ _;have O:j+k<j+k+1:=Nat.lt_succ_self _;have aw:=A_ (show val zs=val us - pw j*(q*val ys)+pw (j+k)*bw by have ab:=ae.o;rwa [CZ (FZ aA.o)]at ab);clear T ac;rcases EO (h - bw) 0 with H|H
  ·have ad:(h - bw<0):=H;have L:=A_ (X.o.set (j+k) (u:=h - bw+1000000000) oS oS);have r:=A_ (show val (zs.set (j+k) (h - bw+1000000000))=val us - pw j*(q*val ys)+pw (j+k+1)*1 by rw[B3w Y.o,aw.o,A1l];grind);have R:=A_ (show Turned w ((wr.setCell ⟨g,j+k,I⟩ (QS QO (h - bw))).setCell ⟨g,j+k,I⟩ (QS QO (h - bw+1000000000))) base g N cap j (j+k+1) us (zs.set (j+k) (h - bw+1000000000)) by have:=(aa.set (j+k) W O (h - bw)).set (j+k) W O (h - bw+1000000000);rwa [List.set_set]at this);go_wp2_with fail;go_ret;exact⟨_,1,rfl,.inr rfl,R,r,L⟩
  have ad:¬ (h - bw<0):=oS;have L:=A_ (X.o.set (j+k) (u:=h - bw) H oS);have r:=A_ (show val (zs.set (j+k) (h - bw))=val us - pw j*(q*val ys)+pw (j+k+1)*0 by rw[B3w Y.o,aw.o];grind);have R:=A_ (aa.set (j+k) W O (h - bw));go_wp2_with fail;go_ret;exact⟨_,0,rfl,.inl rfl,R,r,L⟩

theorem D3g (B:Option Addr) (base g N cap j m c d:Nat) (us ys:List Int) (ax:List Nat) (w:World) (G:w.ownsRow base 3 1 (S (QL ⟨g,0,I⟩) N cap) N (us.map (QS QO))) (am:Lims us)
  (aJ:j+m+1<=N) (aE:N<=1048576) (ad:Sl w B m d ys ax) (an:Lims ys) (ao:∀ b o,B=QL ⟨b,o,I⟩->b≠g) :
  Calls prog 152 #[S (QL ⟨g,j,I⟩) (m+1) c,S B m d] w λe w' =>
   ∃ us' r,e=.returned (.tuple #[])/\(0<=r/\r<=1)/\Turned w w' base g N cap j (j+m+1) us us'/\(val us'=val us+pw j*val ys - pw (j+m+1)*r/\Lims us'):=by
 have aq:=A_ ad;have au:=A_ an;have aw:=A_ ao;have ah:Turned w w base g N cap j (j+m+1) us us:=⟨G,λ_ _=>rfl,World.grownBy.refl _ _⟩
 have ag:=A_ (show ys.length=m from ad.1);have ap:=A_ am;clear ad an ao G am;go_enter func152,ntmps152;go_wp2_with fail;go_loopw [4,9] (λb i wr=>∃ (k:Nat) (h:Int) (zs:List Int),k<=m+1/\0<=h/\h<=1/\i=QS QO k/\b=QS QO h/\Turned w wr base g N cap j (j+m+1) us zs/\Hid (Lims zs)/\Hid (val zs+pw (j+k)*h=val us+pw j*val (ys.take k))) (λb i wr=>m+1 - (intOf i).toNat);case atStart=>exact⟨0,0,us,DV _,GA _,oS,rfl,rfl,ah,ap.o,by show val us+pw (j+0)*0=val us+pw j*val (ys.take 0);rw[ET];simp[val]⟩
 case round =>
  obtain⟨k,h,zs,ab,ay,az,rfl,rfl,E,aa,ac⟩:=hrel;clear ah;have aD:=A_ (A2n E.row);have aK:(j:Int)<=1048576:=oS;have aL:(k:Int)<=1048576:=oS;rcases BN k (m+1)with X|X
  ·have aB:(k:Int)<m+1:=oS
   obtain⟨u,G,aM,aN⟩:=aa.o.num (j:=j+k) (by rw[aD.o];omega);have af:=A_ G;obtain⟨aI,aG,aH⟩:=A0t E.row G;have Z:=A_ E;have D:k+1<=m+1:=X;have al:j<=j+k:=MG _ _;have ak:j+k<j+m+1:=oS;rcases BN k m with W|W
   ·obtain⟨b2,o2,y,rfl,ai,ae,_,aj⟩:=DB aq W
    have H:=au.get ae;have ar:=A_ ae;have aO:=H.1;have aP:=H.2;have aF:=(World.cell?_of_block (a:=⟨b2,o2+k,I⟩) (E.grown.block b2 ai (by have:=aw b2 o2 rfl;simpa using this))).trans aj;have aC:(k:Int)<m:=oS;clear G aj ai H ae E;have O:=A_ (by omega:0<=(u+h+y) / 1000000000);have T:=A_ (by omega:(u+h+y) / 1000000000<=1);have L:=A_ (aa.o.set (j+k) (u:=(u+h+y) % 1000000000) oS oS);have r:=A_ (show val (zs.set (j+k) ((u+h+y) % 1000000000))+pw (j+(k+1))*((u+h+y) / 1000000000)=val us+pw j*val (ys.take (k+1)) by rw[show j+(k+1)=j+k+1 from rfl,B3g af.o ac.o,Y_ ar.o,B0f];grind);have R:=A_ (Z.set (j+k) al ak ((u+h+y) % 1000000000));clear X ab W;go_wp2_with fail;first
    |exact⟨⟨k+1,_,_,D,O,T,rfl,rfl,R,L,r⟩,V_ D⟩
    |exact⟨by(repeat apply EI);exact⟨⟨k+1,_,_,D,O,T,rfl,rfl,R,L,r⟩,rfl⟩,V_ D⟩
   ·have aC:¬ ((k:Int)<m):=oS
    clear G E;have O:=A_ (by omega:0<=(u+h) / 1000000000);have T:=A_ (by omega:(u+h) / 1000000000<=1);have L:=A_ (aa.o.set (j+k) (u:=(u+h) % 1000000000) oS oS);have r:=A_ (show val (zs.set (j+k) ((u+h) % 1000000000))+pw (j+(k+1))*((u+h) / 1000000000)=val us+pw j*val (ys.take (k+1)) by
     have H:ys.length<=k:=by rw[ag.o];exact W
     have Y:=ac.o;rw[CZ H]at Y;rw[show j+(k+1)=j+k+1 from rfl,B3g af.o Y,CZ (Nat.le_succ_of_le H)];grind)
    have R:=A_ (Z.set (j+k) al ak ((u+h) % 1000000000));clear X ab W;go_wp2_with fail;first
    |exact⟨⟨k+1,_,_,D,O,T,rfl,rfl,R,L,r⟩,V_ D⟩
    |exact⟨by(repeat apply EI);exact⟨⟨k+1,_,_,D,O,T,rfl,rfl,R,L,r⟩,rfl⟩,V_ D⟩
  have aA:k=m+1:=oS;subst aA;have aB:¬ ((m:Int)+1<m+1):=oS;have r:=A_ (show val zs=val us+pw j*val ys - pw (j+m+1)*h by have Y:=ac.o;rw[CZ (by rw[ag.o];omega:ys.length<=m+1),show j+(m+1)=j+m+1 from rfl]at Y;omega);have Z:=A_ E;clear X ab E;go_wp2_with fail;go_end0;exact⟨rfl,_,h,⟨ay,az⟩,Z,r,aa⟩

theorem B8n {a b:Int} (h:b<=a):¬ (sgn (a - b)<0):=by
 unfold sgn;rw[if_neg oS];split<;>omega

theorem B5w (A B:Option Addr) (n m c d:Nat) (xs ys:List Int) (bs br:List Nat) (w:World) (be:Sl w A n c xs bs) (az:Sl w B m d ys br) (bJ:XN.Can xs) (ay:XN.Can ys) (cJ:n<=65536) (ba:0<m) :
  Calls prog 95 #[S A n c,S B m d] w (C0i w (dig (val xs / val ys).toNat) (dig (val xs % val ys).toNat)):=by
 have aB:=A_ be;have aY:=A_ az;have ae:=A_ bJ;have af:=A_ ay;have bo:=A_ be.1;have aq:=A_ az.1;have aZ:=A_ (S_ bJ.1);have b9:=A_ (ay.pos (by intro e;rw[<-az.1,e]at ba;simp at ba));clear be az bJ ay;go_enter func95,ntmps95;go_wp2_with fail;refine(A9u A B n m c d xs ys bs br w aB aY ae af).mono ?_;rintro _ D ⟨rfl,Y⟩;rcases EO (val xs) (val ys)with aU|aT
 ·have bW:=A_ (show dig (val xs / val ys).toNat=[]/\dig (val xs % val ys).toNat=xs by
   rw[Int.ediv_eq_zero_of_lt aZ.o aU,Int.emod_eq_of_lt aZ.o aU]
   exact⟨rfl,(ae.eq_dig).symm⟩)
  rw[B2q aU]
  go_wp2_with fail
  refine(B6m A n c xs bs _ (AQ aB Below.go) (BM cJ dE)).mono ?_
  rintro _ H ⟨v2,rfl,aV,aw⟩
  have bE:Bw w H:=Below.go
  have bN:H.ownsRow D.1.size 3 1 (S (QL ⟨D.1.size,0,I⟩) 0 0) 0 (([]:List Int).map (QS QO)):=I_ (World.ownsRow_made D #[] 0 (BH _) (DV _) rfl) aw
  have cQ:w.1.size<=D.1.size:=Y.size
  go_wp2
  go_ret2
  rw[bW.o.1,bW.o.2]
  refine B1d bN aV (λ_ h=>by simp at h) (Sl.i64 aB.o) cQ oR ?_ bE
  intro cj ck aJ aK
  have:=B0b aV _ aK
  simp[IR]at aJ
  simp at this
  omega
 ·have cQ:=B8n aT
  generalize sgn (val xs - val ys)=ej at *;rcases BN 1 m with O|O
  ·have dG:m<=n:=by
    rcases BN n m with h|h
    ·have:=XN.Can.lt_of_len ae.o.1 af.o (by rw[bo.o,aq.o];exact h);omega
    exact h
   obtain⟨p,rfl⟩:∃ p,m=p+2:=⟨m - 2,oS⟩
   obtain⟨l,rfl⟩:∃ l,n=p+2+l:=⟨n - (p+2),oS⟩
   obtain⟨b2,o2,t,rfl,a9,aA,_,aS⟩:=DB aY.o (by omega:p+1<p+2)
   obtain⟨al,bH,cA,ec,ed⟩:=E2w af.o (m:=p+1) (by rw[aq.o]) aA
   have bI:=(Y.cell (p:=⟨b2,o2+(p+1),I⟩) a9).trans aS
   have bZ:=A_ cA
   have dH:¬ ((p:Int)+2=1):=oS
   have dI:((p:Int)+2==1)=false:=oR
   clear aS aA ba O cA aT dG
   go_wp2_with fail
   generalize 1000000000 / (t+1)=f at *
   have dA:=A_ (show val xs*f<pw (p+2+l+1) by have O:=A4j ae.1;rw[bo.o]at O;have aa:val xs*f<=val xs*1000000000:=Int.mul_le_mul_of_nonneg_left oS aZ.o;rw[A1l];omega)
   refine(C2d A (p+2+l) c (p+2+l+1) xs bs f D (AQ aB.o Y) ae.o.1 al bH oS oS dA.o).mono ?_
   rintro _ H ⟨us,rfl,cX,cs,ct,bP,aw⟩
   have d2:=A_ cX;have dn:=A_ cs;have ca:=A_ ct
   clear cX cs ct
   go_wp2_with fail
   have dk:=A_ (AQ (AQ aY Y) aw)
   refine(C2d (QL ⟨b2,o2,I⟩) (p+2) d (p+2) ys br f H dk.o af.o.1 al bH oS oS bZ.o).mono ?_
   rintro _ w3 ⟨vs,rfl,c2,cv,cw,bQ,a5⟩
   have a1:=A_ c2;have ac:=A_ cv;have a2:=A_ cw
   clear c2 cv cw
   obtain⟨c9,cF,c6,c7,c8⟩:=info_parts A6b
   have q2:=A_ (by rw[c8];omega:c9.bytes*(l+1)<=281474976710656)
   have dW:=A_ (by unfold maxLen;omega:l+1<=maxLen)
   have db:=A_ (by omega:(p:Int)+2+l - (p+2)+1=((l+1:Nat):Int))
   go_wp2_with (at_make;(refine wpList_make_full _ rfl _ _ 31 rfl w3.1.size 3 c9 (QS QO 0) 1 underlying31 cF c6 c7 .i64 .i64 _ _ (l+1) rfl rfl db db q2 dW (BH _) ?_);intro d0 bL cE)
   rw[A8c]at bL
   have bG:=(Below.refl w3.1.size w3).grown cE (BH _) (by intro k E;cases E)
   have cp:=I_ (I_ bP a5) bG
   have cu:=I_ bQ bG
   have cz:Bw w d0:=Below.go
   have start:=A_ (show 0<=val us/\val us<val vs*pw (l+1) by
    rw[ca.o,a2.o];refine⟨Int.mul_nonneg aZ.o oS,?_⟩;have O:=A4j ae.1;rw[bo.o]at O;have aa:=af.len_le (by intro e;have:=aq.o;rw[e]at this;simp at this);rw[aq.o]at aa;have a3:pw (p+1)*pw (l+1)<=val ys*pw (l+1):=JW aa (JC (A5r _));rw[<-B0f,show p+1+(l+1)=p+2+l by omega]at a3;have bt:val xs*f<val ys*pw (l+1)*f:=Int.mul_lt_mul_of_pos_right oS al;have bu:val ys*pw (l+1)*f=val ys*f*pw (l+1):=by grind
    omega)
   have ea:D.1.size<H.1.size:=(EU bP _ rfl).2
   have eb:H.1.size<w3.1.size:=(EU bQ _ rfl).2
   have cR:w.1.size<=D.1.size:=Y.size
   clear bP bQ cE cF c6 c7 c8 aw a5 bG bI a9 dH dI Y
   go_loopw [13] (λi wr=>∃ (K:Nat) (zs b:List Int),K<=l+1/\i=QS QO ((K:Int) - 1)/\wr.ownsRow D.1.size 3 1 (S (QL ⟨D.1.size,0,I⟩) (p+2+l+1) (p+2+l+1)) (p+2+l+1) (zs.map (QS QO))/\wr.ownsRow H.1.size 3 1 (S (QL ⟨H.1.size,0,I⟩) (p+2) (p+2)) (p+2) (vs.map (QS QO))/\wr.ownsRow w3.1.size 3 1 (S (QL ⟨w3.1.size,0,I⟩) (l+1) (l+1)) (l+1) (b.map (QS QO))/\Hid (Lims zs)/\Hid (Lims b)/\Hid (val zs=val xs*f - val vs*(pw K*val (b.drop K)))/\Hid (0<=val zs/\val zs<val vs*pw K)/\Bw w wr) (λi wr=>(intOf i+1).toNat)
   case atStart =>refine⟨l+1,us,_,BH _,congrArg (QS QO) oS,cp,cu,bL,dn.o,Lims.zeros _,?_,start.o,cz⟩;show val us=val xs*f - val vs*(pw (l+1)*val ((List.replicate (l+1) (0:Int)).drop (l+1)));rw[List.drop_eq_nil_of_le sI,ca.o];simp[val]
   case round =>
    obtain⟨K,zs,b,dx,rfl,X,bB,a4,Z,ap,bT,bM,cx⟩:=hrel;clear cp cu bL cz;rcases Nat.eq_zero_or_pos K with aL|aL
    ·subst aL
     have ci:=A_ (show val b=val xs / val ys/\val (zs.take (p+2))=(val xs % val ys)*f by
      have O:=bT.o;rw[List.drop_zero,B0q,Int.one_mul,a2.o]at O;obtain⟨aa,a3⟩:=bM.o;rw[B0q,Int.mul_one,a2.o]at a3;have bt:val zs=(val xs - val ys*val b)*f:=by rw[O];grind
      have bu:0<=val xs - val ys*val b:=by
       rcases EO (val xs - val ys*val b) 0 with h|h;·have:=Int.mul_neg_of_neg_of_pos h al;omega
       exact h
      have bv:val xs - val ys*val b<val ys:=by
       rcases EO (val xs - val ys*val b) (val ys)with h|h;·exact h
       have:=JW h (JC al);omega
      obtain⟨aJ,aK⟩:=D2a (q:=val b) (r:=val xs - val ys*val b) (a:=val xs) b9.o (by grind) bu bv;refine⟨aJ.symm,?_⟩;rw[aK,<-bt];have dv:=B0x zs (p+2) (by rw[A2n X];omega);have dw:=bZ.o;rw[show p+1+1=p+2 from rfl]at dw;rw[B0e Z.o (by rw[A2n X];omega) oS]at dv;omega)
     have co:=C6w X (by omega:p+2<=p+2+l+1);have bn:=A_ (Z.take (p+2));go_wp2_with fail;refine(A9y _ _ _ _ (zs.take (p+2)) wr co bn.i64).mono ?_;rintro _ bV ⟨rfl,ak,cq⟩;go_wp2_with fail;obtain⟨dX,cU⟩:=A7v cq (XN.Can.trim bn).1.i64;refine(B7n _ _ _ (trim (zs.take (p+2))) dX f bV cU (XN.Can.trim bn).1 al bH (by
      have:(trim (zs.take (p+2))).length<=p+2:=by rw[B3n,GH,GH];omega
      omega)).mono ?_
     rintro _ de ⟨el,rfl,cM,a6⟩;have ai:=I_ a4 ak;have aM:=I_ ai a6;clear cU a4 X co cq bB;go_wp2_with fail;refine(A9y _ _ _ _ b de aM ap.i64).mono ?_;rintro _ d1 ⟨rfl,dB,cn⟩;have dD:Bw w d1:=Below.go;have cN:=I_ cM dB;have eq:=A_ (show trim b=dig (val xs / val ys).toNat by rw[<-ci.o.1];exact A8i ap (Int.toNat_of_nonneg (S_ ap)).symm);have dt:=A_ (show val (trim (zs.take (p+2))) / f=val xs % val ys by rw[C5t,ci.o.2];exact Int.mul_ediv_cancel _ oS);go_wp2;go_ret2;rw[dt.o]at cN;rw[eq.o]at cn ⊢;have dy:=B8h ai cM;exact B1d cn cN (A0j _).1.i64 (A0j _).1.i64 oS (by have:=cx.size;have:=ak.size;omega) (λcj ck aJ aK=>dy cj ck aJ aK) dD
    ·obtain⟨j,rfl⟩:∃ j,K=j+1:=⟨K - 1,oS⟩
     have ds:(((j+1:Nat):Int) - 1)=j:=oS;rw[ds];have bm:=A_ (A2n X);have d4:(j:Int)<=l:=oS;obtain⟨u0,bc,ee,ef⟩:=Z.o.num (j:=j+p) (by rw[bm.o];omega);obtain⟨u1,bR,dO,dQ⟩:=Z.o.num (j:=j+p+1) (by rw[bm.o];omega);obtain⟨u2,bS,dR,dS⟩:=Z.o.num (j:=j+p+2) (by rw[bm.o];omega);obtain⟨dd,bU,c0,c1⟩:=ac.o.num (j:=p) (by rw[a1.o];omega);obtain⟨T,bd,eg,eh⟩:=ac.o.num (j:=p+1) (by rw[a1.o];omega);have dT:=E6v af aq ac a1 a2 al bd;have W:=A_ (show Dig3 zs vs j p u0 (u2*1000000000+u1) T dd from⟨Z,ac,⟨u1,u2,bc,bR,bS,rfl⟩,bU,bd,a1,dT,bM.2⟩);obtain⟨_,aI,_⟩:=A0t X bc;obtain⟨_,cd,_⟩:=A0t X bR;obtain⟨_,ce,_⟩:=A0t X bS;have b6:=A_ bc;have b8:=A_ bU;have b7:=A_ bd;clear bc bR bS bU bd;rw[show j+p+2=j+(p+2) by omega]at ce;rw[show j+p+1=j+(p+1) by omega]at cd;have d8:(p:Int)<=65534:=oS;have d5:(l:Int)<=65534:=oS;clear bM dx aL;go_wp2_with fail;refine A0g ?_;iterate 16 refine C_ _ ?_
     intro bh bj aX u G am;clear am;simp at G;go_simp;clear G aI cd ce;have aO:=A_ (I_ X u);have au:=A_ (I_ bB u);have bz:=A_ (I_ a4 u);have bF:Bw w aX:=Below.go;clear X bB a4 cx u;obtain⟨cB,aI,_⟩:=A0t aO b6;obtain⟨cD,cg,_⟩:=A0t au b8;obtain⟨_,cf,_⟩:=A0t au b7;clear dO dQ dR dS;generalize u2*1000000000+u1=top at *;obtain⟨dM,dN⟩:=W.top_lim;go_upto_region 14 with fail;go_cut [15] (λs15 wx=>(∃ q:Int,s15=QS QO q/\(0<=q/\q<=999999999)/\(0<=q*T/\q*T<=top)/\Hid (val zs<(q+1)*(val vs*pw j)))/\wx=aX);case first =>
      rcases EO (top / T) 999999999 with aU|aT;·have ar:=A_ (W.start (.inl ⟨rfl,aU⟩));go_wp2_with fail;go_meet;exact⟨⟨_,rfl,ar⟩,rfl⟩
      have ar:=A_ (W.start (.inr ⟨rfl,aT⟩));go_wp2_with fail;go_meet;exact⟨⟨_,rfl,ar⟩,rfl⟩
     case rest =>
      obtain⟨⟨da,rfl,⟨a0,cb⟩,⟨dp,dq⟩,cc⟩,dU⟩:=hcut;obtain rfl:aX=wc:=dU.symm;go_upto_block 2 with fail;have ar:=A_ (show ∃ q r:Int,QS QO da=QS QO q/\QS QO (top - da*T)=QS QO r/\0<=q/\q<=999999999/\0<=r/\r<=999999999999999999/\Hid (r=top - q*T)/\Hid (val zs<(q+1)*(val vs*pw j))from⟨_,_,rfl,rfl,a0,cb,oS,oS,rfl,cc.o⟩);clear a0 cb dp dq cc dM dN aI cf cg cB cD;go_cut [15] (λs15 wx=>(∃ q:Int,s15=QS QO q/\(0<=q/\q<=999999999)/\Hid (val zs<(q+1)*(val vs*pw j))/\Hid ((q - 1)*(val vs*pw j)<=val zs))/\Bw aX wx);case first =>
       go_wp2_with fail;go_loopw [15,16] (λsq sr wr=>(∃ q r:Int,sq=QS QO q/\sr=QS QO r/\0<=q/\q<=999999999/\0<=r/\r<=999999999999999999/\Hid (r=top - q*T)/\Hid (val zs<(q+1)*(val vs*pw j)))/\Bw aX wr) (λsq sr wr=>(intOf sq).toNat);case atStart=>exact⟨ar,Below.refl _ _⟩
       case round =>
        obtain⟨⟨q,rest,rfl,rfl,ab,aW,cP,bN,bO,cO⟩,a7⟩:=hrel;have aP:=A_ (I_ aO a7);have aQ:=A_ (I_ au a7);have a8:=A_ a7;clear aO au bz bF a7;obtain⟨cB,aI,_⟩:=A0t aP b6;obtain⟨cD,cg,_⟩:=A0t aQ b8;rw[show j+p=j+(p+2) - 2 by omega]at aI;obtain⟨d6,d7⟩:=C0c ab (by omega:q<1000000000) c0 c1;by_cases be:rest<1000000000
        ·by_cases az:rest*1000000000+u0<q*dd
         ·have d9:0<q:=by
           rcases Int.lt_or_le 0 q with h | h
           ·exact h
           have:q=0:=by omega
           subst this
           omega
          have an:=A_ (show (intOf (.int .i64 (q - 1))).toNat<(intOf (.int .i64 q)).toNat by simp[intOf];omega)
          have bf:=A_ (W.step ab bO az)
          have ad:=A_ (show 0≤q - 1∧q - 1≤999999999∧0≤rest+T∧rest+T≤999999999999999999 by omega)
          go_wp2_with fail
          refine A0g ?_
          iterate 22 refine C_ _ ?_
          intro bh bj df u G am
          clear am
          simp at G
          go_simp
          clear G
          obtain ⟨_,cf,_⟩:=A0t (I_ aQ u) b7
          go_wp2_with fail
          have ax:=A_ u
          clear u
          first
          | exact ⟨⟨⟨q - 1,rest+T,rfl,rfl,ad.1,ad.2.1,ad.2.2.1,ad.2.2.2,bf.1,bf.2⟩,Below.next a8 ax⟩,an⟩
          |exact⟨by(repeat apply EI);exact⟨⟨⟨q - 1,rest+T,rfl,rfl,ad.1,ad.2.1,ad.2.2.1,ad.2.2.2,bf.1,bf.2⟩,Below.next a8 ax⟩,rfl⟩,an⟩
         ·have bp:=A_ (W.o.last ab aW bO.o (.inr (by omega)))
          go_wp2_with fail;refine A0g ?_;iterate 22 refine C_ _ ?_
          intro bh bj df u G am;clear am;simp at G;go_simp;clear G;go_wp2_with fail;have ax:=A_ u;clear u;go_meet;exact⟨⟨_,rfl,⟨ab,aW⟩,cO,bp⟩,Below.next a8 ax⟩
        have bp:=A_ (W.o.last ab aW bO.o (.inl oS));go_wp2_with fail;refine A0g ?_;iterate 3 refine C_ _ ?_
        iterate 18 apply A4m;case h =>intro bh bj em u G;simp at G;go_simp;first|done|(simp[undef];done)
        refine C_ _ ?_;intro bh bj df u G am;clear am;simp at G;go_simp;clear G;go_wp2_with fail;have ax:=A_ u;clear u;go_meet;exact⟨⟨_,rfl,⟨ab,aW⟩,cO,bp⟩,Below.next a8 ax⟩
      case rest =>
       obtain⟨⟨q,rfl,⟨ab,aW⟩,dm,dl⟩,aR⟩:=hcut;have aP:=A_ (I_ aO aR);have aQ:=A_ (I_ au aR);have bA:=A_ (I_ bz aR);have cy:=A_ (Below.next bF aR);clear aO au bz bF aR ar c0 c1;obtain⟨dY,cV⟩:=A7v aQ ac.i64;have dh:=A_ cV;clear cV;have cG:j+(p+2)+1<=p+2+l+1:=oS;have cm:p+2+l+1<=1048576:=oS;have dc:∀ bq o,QL (⟨H.1.size,0,I⟩:Addr)=QL ⟨bq,o,I⟩->bq≠D.1.size:=by intro bq o e;cases e;omega
       have b5:=A_ dc;clear dc;obtain⟨ei,cK,_,_⟩:=ap.o.num (j:=j) (by rw[A2n bA.o];omega);have b4:=A_ cK;clear cK;have cH:j<b.length:=by rw[A2n bA.o];omega
       have b0:=A_ cH;clear cH;have ch:p+2+1=j+(p+2)+1 - j:=oS;have bX:=A_ ch;clear ch;have an:=A_ (by simp[intOf]:(intOf (QS QO ((j:Int) - 1))+1).toNat<(intOf (QS QO (j:Int))+1).toNat);have bg:j<=l+1:=oS;go_wp2_with fail;have C:=C9e (QL ⟨H.1.size,0,I⟩) D.1.size D.1.size (p+2+l+1) (p+2+l+1) j (p+2) (p+2+l+1 - j) (p+2) zs vs dY q wc aP.o Z.o cG cm dh.o ac.o b5.o ab oS;rw[bX.o]at C;refine C.mono ?_;clear C;rintro _ bV ⟨bi,r,rfl,dL,aN,cY,cI⟩;have bD:=A_ (MS aQ.o aN.grown (.inr (by simp[IR];omega)));have ai:=A_ (MS bA.o aN.grown (.inr (by simp[IR];omega)));have ak:=A_ (cy.grown aN.grown cy.size (by intro k E;cases E;exact cR));have ah:=A_ aN;have ao:=A_ cI;have bl:=A_ cY;clear aN cI cY;rcases dL with rfl|rfl
       ·have F:=A_ (W.done0 dm ao bl)
        have aC:=A_ (A3a ai j q);have ag:=A_ (MH ai j (QS QO q)).2;have aD:=A_ (MS ah.o.row ag.o (.inr (by simp[IR];omega)));have aE:=A_ (MS bD.o ag.o (.inr (by simp[IR];omega)));have aF:=A_ (ak.grown ag ak.size (by intro k E;cases E;omega));have aG:=A_ (ap.o.set j ab (by omega:q<1000000000));have aH:=A_ (E0h b0 bT F.1);obtain⟨dF,dr,du⟩:=A0t ai b4;go_wp2_with fail;first
        |exact⟨⟨j,bi,b.set j q,bg,rfl,aD,aE,aC,ao,aG,aH,F.2,aF⟩,an⟩
        |exact⟨by(repeat apply EI);exact⟨⟨j,bi,b.set j q,bg,rfl,aD,aE,aC,ao,aG,aH,F.2,aF⟩,rfl⟩,an⟩
       ·obtain⟨dZ,cW⟩:=A7v bD ac.i64
        have di:=A_ cW;clear cW;go_wp2_with fail;have C:=D3g (QL ⟨H.1.size,0,I⟩) D.1.size D.1.size (p+2+l+1) (p+2+l+1) j (p+2) (p+2+l+1 - j) (p+2) bi vs dZ bV ah.row ao cG cm di ac b5;rw[bX.o]at C;refine C.mono ?_;clear C;rintro _ de ⟨dg,d3,rfl,ay,aj,cZ,bK⟩;have F:=A_ (W.o.done1 dl.o ao.o bl.o (by rw[A2n ah.o.row,A2n aP.o]) (λk E=>ah.o.o k (.inr E)) bK ay cZ (by rw[A2n aj.row,A2n ah.o.row]) (λk E=>aj.o k (.inr E)));have dz:=A_ (MS bD.o aj.grown (.inr (by simp[IR];omega)));have aM:=A_ (MS ai.o aj.grown (.inr (by simp[IR];omega)));have a6:=A_ (ak.grown aj.grown ak.size (by intro k E;cases E;exact cR));have dj:=A_ aj;have b3:=A_ bK;clear aj bK cZ ay;have dJ:0<=q - 1:=by
         rcases Int.lt_or_le 0 q with h | h;·omega
         have aL:q=0:=by omega
         have O:=bl.o;have aa:=W.lt;have a3:=F.o;subst aL;have bt:=S_ Z;have bu:val bi<pw (j+(p+2)+1):=by have bv:=C6i Z ao (i:=j+p+3) (by have:=W.zl;omega) (by rw[A2n ah.o.row,A2n aP.o]) (fun k E=>ah.o.o k (.inr (by omega))) aa;rwa [show j+p+3=j+(p+2)+1 by omega]at bv
         rw[Int.zero_mul,Int.mul_zero] at O;omega
        have aC:=A_ (A3a aM j (q - 1));have ag:=A_ (MH aM j (QS QO (q - 1))).2;have aD:=A_ (MS dj.o.row ag.o (.inr (by simp[IR];omega)));have aE:=A_ (MS dz.o ag.o (.inr (by simp[IR];omega)));have aF:=A_ (a6.grown ag a6.size (by intro k E;cases E;omega));have aG:=A_ (ap.o.set j dJ (by omega:q - 1<1000000000));have aH:=A_ (E0h b0 bT F.1);obtain⟨dF,dr,du⟩:=A0t aM b4;go_wp2_with fail;first
        |exact⟨⟨j,dg,b.set j (q - 1),bg,rfl,aD,aE,aC,b3,aG,aH,F.2,aF⟩,an⟩
        |exact⟨by(repeat apply EI);exact⟨⟨j,dg,b.set j (q - 1),bg,rfl,aD,aE,aC,b3,aG,aH,F.2,aF⟩,rfl⟩,an⟩
  ·obtain rfl:m=1:=oS
   obtain⟨b2,o2,y,rfl,a9,aA,_,aS⟩:=DB aY.o (by omega:0<1);have c5:=af.1.get aA;have bY:=A_ (show val ys=y by have aa:=Y_ aA;rw[CZ (FZ aq.o)]at aa;rw[aa,ET,B0q];simp[val]);have c4:0<y:=by have:=b9.o;rw[bY.o]at this;exact this
   have dV:=c5.2;have bI:=(Y.cell (p:=⟨b2,o2+0,I⟩) a9).trans aS;simp only[Nat.add_zero]at bI;clear aS c5 aA ba aT O;go_wp2_with fail;refine(B7n A n c xs bs y D (AQ aB Y) ae.1 c4 dV (BM cJ dE)).mono ?_;rintro _ H ⟨v2,rfl,aV,aw⟩;have cP:0<=val xs % y:=Int.emod_nonneg _ oS;have bN:val xs % y<1000000000:=by have:=Int.emod_lt_of_pos (val xs) c4;omega
   go_wp2_with fail;refine(C9q (val xs % y) H cP oS).mono ?_;rintro _ w3 ⟨ek,rfl,cL,a5⟩;have bE:Bw w w3:=Below.go;go_wp2;go_ret2;rw[bY.o];exact B1d (I_ aV a5) cL (A0j _).1.i64 (A0j _).1.i64 Y.size (BM Y.size aw.size) (B8h aV cL) bE
end Go.Proofs.YtbkilakncnlebaaGreatDoor.X
