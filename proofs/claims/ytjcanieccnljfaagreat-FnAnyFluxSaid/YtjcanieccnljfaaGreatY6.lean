/- A part of the proof. -/
import Derived.Test.YtjcanieccnljfaaGreatY5
import Derived.Deep.CutBlock
import Derived.Deep.DeepCutAuto
set_option linter.constructorNameAsVariable false
set_option maxHeartbeats 16000000
set_option maxRecDepth 10000
open Exists renaming intro→FS
open Go.IntKind renaming i64→RD
open Go.Value renaming int→RH,ownBlock→JD,slice→S
open Go.World.ownsRow renaming kept→OV,lt→FG,stored→MM
open Go.XB.Sl renaming below→BN,getInt→DL
open Int renaming le_of_lt→JJ,le_refl→II,lt_or_le→FH,mul_le_mul_of_nonneg_right→LZ
open List renaming getElem?_set_ne→JU,length_take→JO,take_of_length_le→DT,take_zero→FM
open Nat renaming le_add_right→NU,le_of_eq→IW,le_refl→CE,le_trans→CJ,lt_or_ge→CG,zero_le→EO
open Option renaming none→I,some→QZ
namespace Go.Proofs.YtjcanieccnljfaaGreat.X
open Go.RowKit Go.XB Go.XN Proofs.Tryz
attribute [local go_sem] L_ opAt N_ M_ Region.wanted yielded
attribute [local simp] N_ M_ MP.eq A0r
structure Turned (w w':World) (base g N cap lo hi:Nat) (us us':List Int):Prop where
 row:w'.ownsRow base 3 1 (S (QZ ⟨g,0,I⟩) N cap) N (us'.map (RH RD))
 o:∀ k,k<lo\/hi<=k->us'[k]?=us[k]?
 grown:w.grownBy w' (QZ g)

theorem Turned.set {w wr:World} {base g N cap lo hi:Nat} {us zs:List Int} (h:Turned w wr base g N cap lo hi us zs) (j:Nat) (h1:lo<=j) (h2:j<hi) (u:Int) :
  Turned w (wr.setCell ⟨g,j,I⟩ (RH RD u)) base g N cap lo hi us (zs.set j u) :=
 ⟨A3a h.row j u,λk hk=>by rw[JU oS];exact h.o k hk,h.grown.trans (MM h.row j _).2⟩

theorem C9e (B:Option Addr) (base g N cap j m c d:Nat) (us ys:List Int) (aD:List Nat) (q:Int) (w:World) (D:w.ownsRow base 3 1 (S (QZ ⟨g,0,I⟩) N cap) N (us.map (RH RD))) (ap:Lims us)
  (aW:j+m+1<=N) (aS:N<=1048576) (af:Sl w B m d ys aD) (aq:Lims ys) (au:∀ b o,B=QZ ⟨b,o,I⟩->b≠g) (aK:0<=q) (aL:q<1000000000) :
  Calls prog 206 #[S (QZ ⟨g,j,I⟩) (m+1) c,S B m d,RH RD q] w λe w' =>
   ∃ us' r,e=.returned (RH RD r)/\(r=0\/r=1)/\Turned w w' base g N cap j (j+m+1) us us'/\(val us'=val us - pw j*(q*val ys)+pw (j+m+1)*r/\Lims us'):=by
 have az:=A_ af;have aB:=A_ aq;have aC:=A_ au;have al:Turned w w base g N cap j (j+m+1) us us:=⟨D,λ_ _=>rfl,World.grownBy.refl _ _⟩
 have aA:=A_ (show ys.length=m from af.1);have aR:=A_ D;have ay:=A_ ap;clear af aq au D ap;go_enter func206,ntmps206;go_wp2_with fail;go_loopw [7,14] (λb i wr=>∃ (k:Nat) (bw:Int) (zs:List Int),k<=m/\0<=bw/\bw<1000000000/\i=RH RD k/\b=RH RD bw/\Turned w wr base g N cap j (j+m+1) us zs/\Hid (Lims zs)/\Hid (∀ u,j+k<=u->zs[u]?=us[u]?)/\Hid (val zs=val us - pw j*(q*val (ys.take k))+pw (j+k)*bw)) (λb i wr=>m - (intOf i).toNat);case atStart=>exact⟨0,0,us,EO _,II _,oS,rfl,rfl,al,ay.o,λ_ _=>rfl,by show val us=val us - pw j*(q*val (ys.take 0))+pw (j+0)*0;rw[FM];simp[val]⟩
 case round =>
  obtain⟨k,bw,zs,ac,aT,aU,rfl,rfl,G,X,ar,ae⟩:=hrel;clear al;have ax:=A_ (A2n G.row);have aX:(j:Int)<=1048576:=oS;have aY:(k:Int)<=1048576:=oS;rcases CG k m with T|T
  ·have aI:(k:Int)<m:=oS
   have aJ:(k:Int)<m+1:=oS;obtain⟨b2,o2,y,rfl,an,ag,_,ao⟩:=DL az T;have ah:=aB.get ag;have ak:=A_ ag;have aO:=ah.1;have aP:=ah.2;have aV:=(World.cell?_of_block (a:=⟨b2,o2+k,I⟩) (G.grown.block b2 an (by have:=aC b2 o2 rfl;simpa using this))).trans ao;obtain⟨h,D,aM,aN⟩:=X.o.num (j:=j+k) (by rw[ax.o];omega);have Y:=A_ D;obtain⟨aG,aE,aF⟩:=A0t G.row D;have aa:=A_ G;clear D ao an ah ag G;obtain⟨aZ,a1⟩:=C0c aO aP aK aL;have E:k+1<=m:=T;have am:(0:Int)<1000000000:=oS;have W:j<=j+k:=NU _ _;have O:j+k<j+m+1:=oS;rcases FH (h - bw - y*q) 0 with H|H
   ·have ad:(h - bw - y*q<0):=H
    have ai:=A_ (by omega:0<=((-(h - bw - y*q)+1000000000 - 1) / 1000000000));have aj:=A_ (by omega:((-(h - bw - y*q)+1000000000 - 1) / 1000000000)<1000000000);have L:=A_ (X.o.set (j+k) (u:=(h - bw - y*q+(-(h - bw - y*q)+1000000000 - 1) / 1000000000*1000000000)) oS oS);have Z:=A_ (show ∀ u,j+(k+1)<=u->(zs.set (j+k) (h - bw - y*q+(-(h - bw - y*q)+1000000000 - 1) / 1000000000*1000000000))[u]?=us[u]? by intro u ab;rw[JU oS];exact ar.o u oS);have r:=A_ (show val (zs.set (j+k) (h - bw - y*q+(-(h - bw - y*q)+1000000000 - 1) / 1000000000*1000000000))=val us - pw j*(q*val (ys.take (k+1)))+pw (j+(k+1))*((-(h - bw - y*q)+1000000000 - 1) / 1000000000) by rw[B3w Y.o,ae.o,Y_ ak.o,<-Nat.add_assoc,A1l (j+k),B0f];generalize ((-(h - bw - y*q)+1000000000 - 1) / 1000000000)=aQ;grind);have R:=A_ (aa.set (j+k) W O (h - bw - y*q+(-(h - bw - y*q)+1000000000 - 1) / 1000000000*1000000000));clear T ac;go_wp2_with fail;first
    |exact⟨⟨k+1,_,_,E,ai,aj,rfl,rfl,R,L,Z,r⟩,V_ E⟩
    |exact⟨by(repeat apply FS);exact⟨⟨k+1,_,_,E,ai,aj,rfl,rfl,R,L,Z,r⟩,rfl⟩,V_ E⟩
   ·have ad:¬ (h - bw - y*q<0):=oS
    have L:=A_ (X.o.set (j+k) (u:=h - bw - y*q) H oS);have Z:=A_ (show ∀ u,j+(k+1)<=u->(zs.set (j+k) (h - bw - y*q))[u]?=us[u]? by intro u ab;rw[JU oS];exact ar.o u oS);have r:=A_ (show val (zs.set (j+k) (h - bw - y*q))=val us - pw j*(q*val (ys.take (k+1)))+pw (j+(k+1))*0 by rw[B3w Y.o,ae.o,Y_ ak.o,B0f];grind);have R:=A_ (aa.set (j+k) W O (h - bw - y*q));clear T ac;go_wp2_with fail;first
    |exact⟨⟨k+1,0,_,E,II 0,am,rfl,rfl,R,L,Z,r⟩,V_ E⟩
    |exact⟨by(repeat apply FS);exact⟨⟨k+1,0,_,E,II 0,am,rfl,rfl,R,L,Z,r⟩,rfl⟩,V_ E⟩
  have aH:k=m:=oS;subst aH;have aI:¬ ((k:Int)<k):=oS;have aJ:(k:Int)<k+1:=oS;obtain⟨h,D,aM,aN⟩:=X.o.num (j:=j+k) (by rw[ax.o];omega);have Y:=A_ D;obtain⟨aG,aE,aF⟩:=A0t G.row D;have aa:=A_ G;clear D G;have W:j<=j+k:=NU _ _;have O:j+k<j+k+1:=Nat.lt_succ_self _;have aw:=A_ (show val zs=val us - pw j*(q*val ys)+pw (j+k)*bw by have ab:=ae.o;rwa [DT (IW aA.o)]at ab);clear T ac;rcases FH (h - bw) 0 with H|H
  ·have ad:(h - bw<0):=H;have L:=A_ (X.o.set (j+k) (u:=h - bw+1000000000) oS oS);have r:=A_ (show val (zs.set (j+k) (h - bw+1000000000))=val us - pw j*(q*val ys)+pw (j+k+1)*1 by rw[B3w Y.o,aw.o,A1l];grind);have R:=A_ (show Turned w ((wr.setCell ⟨g,j+k,I⟩ (RH RD (h - bw))).setCell ⟨g,j+k,I⟩ (RH RD (h - bw+1000000000))) base g N cap j (j+k+1) us (zs.set (j+k) (h - bw+1000000000)) by have:=(aa.set (j+k) W O (h - bw)).set (j+k) W O (h - bw+1000000000);rwa [List.set_set]at this);go_wp2_with fail;go_ret;exact⟨_,1,rfl,.inr rfl,R,r,L⟩
  have ad:¬ (h - bw<0):=oS;have L:=A_ (X.o.set (j+k) (u:=h - bw) H oS);have r:=A_ (show val (zs.set (j+k) (h - bw))=val us - pw j*(q*val ys)+pw (j+k+1)*0 by rw[B3w Y.o,aw.o];grind);have R:=A_ (aa.set (j+k) W O (h - bw));go_wp2_with fail;go_ret;exact⟨_,0,rfl,.inl rfl,R,r,L⟩

theorem D3g (B:Option Addr) (base g N cap j m c d:Nat) (us ys:List Int) (ax:List Nat) (w:World) (G:w.ownsRow base 3 1 (S (QZ ⟨g,0,I⟩) N cap) N (us.map (RH RD))) (am:Lims us)
  (aK:j+m+1<=N) (aF:N<=1048576) (ad:Sl w B m d ys ax) (an:Lims ys) (ao:∀ b o,B=QZ ⟨b,o,I⟩->b≠g) :
  Calls prog 207 #[S (QZ ⟨g,j,I⟩) (m+1) c,S B m d] w λe w' =>
   ∃ us' r,e=.returned (.tuple #[])/\(0<=r/\r<=1)/\Turned w w' base g N cap j (j+m+1) us us'/\(val us'=val us+pw j*val ys - pw (j+m+1)*r/\Lims us'):=by
 have aq:=A_ ad;have au:=A_ an;have aw:=A_ ao;have ah:Turned w w base g N cap j (j+m+1) us us:=⟨G,λ_ _=>rfl,World.grownBy.refl _ _⟩
 have ag:=A_ (show ys.length=m from ad.1);have aE:=A_ G;have ap:=A_ am;clear ad an ao G am;go_enter func207,ntmps207;go_wp2_with fail;go_loopw [4,9] (λb i wr=>∃ (k:Nat) (h:Int) (zs:List Int),k<=m+1/\0<=h/\h<=1/\i=RH RD k/\b=RH RD h/\Turned w wr base g N cap j (j+m+1) us zs/\Hid (Lims zs)/\Hid (val zs+pw (j+k)*h=val us+pw j*val (ys.take k))) (λb i wr=>m+1 - (intOf i).toNat);case atStart=>exact⟨0,0,us,EO _,II _,oS,rfl,rfl,ah,ap.o,by show val us+pw (j+0)*0=val us+pw j*val (ys.take 0);rw[FM];simp[val]⟩
 case round =>
  obtain⟨k,h,zs,ab,ay,az,rfl,rfl,E,aa,ac⟩:=hrel;clear ah;have aD:=A_ (A2n E.row);have aL:(j:Int)<=1048576:=oS;have aM:(k:Int)<=1048576:=oS;rcases CG k (m+1)with X|X
  ·have aB:(k:Int)<m+1:=oS
   obtain⟨u,G,aN,aO⟩:=aa.o.num (j:=j+k) (by rw[aD.o];omega);have af:=A_ G;obtain⟨aJ,aH,aI⟩:=A0t E.row G;have Z:=A_ E;have D:k+1<=m+1:=X;have al:j<=j+k:=NU _ _;have ak:j+k<j+m+1:=oS;rcases CG k m with W|W
   ·obtain⟨b2,o2,y,rfl,ai,ae,_,aj⟩:=DL aq W
    have H:=au.get ae;have ar:=A_ ae;have aP:=H.1;have aQ:=H.2;have aG:=(World.cell?_of_block (a:=⟨b2,o2+k,I⟩) (E.grown.block b2 ai (by have:=aw b2 o2 rfl;simpa using this))).trans aj;have aC:(k:Int)<m:=oS;clear G aj ai H ae E;have O:=A_ (by omega:0<=(u+h+y) / 1000000000);have T:=A_ (by omega:(u+h+y) / 1000000000<=1);have L:=A_ (aa.o.set (j+k) (u:=(u+h+y) % 1000000000) oS oS);have r:=A_ (show val (zs.set (j+k) ((u+h+y) % 1000000000))+pw (j+(k+1))*((u+h+y) / 1000000000)=val us+pw j*val (ys.take (k+1)) by rw[show j+(k+1)=j+k+1 from rfl,B3g af.o ac.o,Y_ ar.o,B0f];grind);have R:=A_ (Z.set (j+k) al ak ((u+h+y) % 1000000000));clear X ab W;go_wp2_with fail;first
    |exact⟨⟨k+1,_,_,D,O,T,rfl,rfl,R,L,r⟩,V_ D⟩
    |exact⟨by(repeat apply FS);exact⟨⟨k+1,_,_,D,O,T,rfl,rfl,R,L,r⟩,rfl⟩,V_ D⟩
   ·have aC:¬ ((k:Int)<m):=oS
    clear G E;have O:=A_ (by omega:0<=(u+h) / 1000000000);have T:=A_ (by omega:(u+h) / 1000000000<=1);have L:=A_ (aa.o.set (j+k) (u:=(u+h) % 1000000000) oS oS);have r:=A_ (show val (zs.set (j+k) ((u+h) % 1000000000))+pw (j+(k+1))*((u+h) / 1000000000)=val us+pw j*val (ys.take (k+1)) by
     have H:ys.length<=k:=by rw[ag.o];exact W
     have Y:=ac.o;rw[DT H]at Y;rw[show j+(k+1)=j+k+1 from rfl,B3g af.o Y,DT (Nat.le_succ_of_le H)];grind)
    have R:=A_ (Z.set (j+k) al ak ((u+h) % 1000000000));clear X ab W;go_wp2_with fail;first
    |exact⟨⟨k+1,_,_,D,O,T,rfl,rfl,R,L,r⟩,V_ D⟩
    |exact⟨by(repeat apply FS);exact⟨⟨k+1,_,_,D,O,T,rfl,rfl,R,L,r⟩,rfl⟩,V_ D⟩
  have aA:k=m+1:=oS;subst aA;have aB:¬ ((m:Int)+1<m+1):=oS;have r:=A_ (show val zs=val us+pw j*val ys - pw (j+m+1)*h by have Y:=ac.o;rw[DT (by rw[ag.o];omega:ys.length<=m+1),show j+(m+1)=j+m+1 from rfl]at Y;omega);have Z:=A_ E;clear X ab E;go_wp2_with fail;go_end0;exact⟨rfl,_,h,⟨ay,az⟩,Z,r,aa⟩

theorem B8n {a b:Int} (h:b<=a):¬ (sgn (a - b)<0):=by
 unfold sgn;rw[if_neg oS];split<;>omega

theorem B5w (A B:Option Addr) (n m c d:Nat) (xs ys:List Int) (bs bn:List Nat) (w:World) (ba:Sl w A n c xs bs) (aA:Sl w B m d ys bn) (bF:XN.Can xs) (ay:XN.Can ys) (cG:n<=65536) (hm0:0<m) :
  Calls prog 155 #[S A n c,S B m d] w (C0i w (dig (val xs / val ys).toNat) (dig (val xs % val ys).toNat)):=by
 have aC:=A_ ba;have aW:=A_ aA;have ae:=A_ bF;have af:=A_ ay;have bk:=A_ ba.1;have aq:=A_ aA.1;have aX:=A_ (S_ bF.1);have b5:=A_ (ay.pos (by intro e;rw[<-aA.1,e]at hm0;simp at hm0));clear ba aA bF ay;go_enter func155,ntmps155;go_wp2_with fail;refine(A9u A B n m c d xs ys bs bn w aC aW ae af).mono ?_;rintro _ D ⟨rfl,Y⟩;rcases FH (val xs) (val ys)with aS|az
 ·have bS:=A_ (show dig (val xs / val ys).toNat=[]/\dig (val xs % val ys).toNat=xs by
   rw[Int.ediv_eq_zero_of_lt aX.o aS,Int.emod_eq_of_lt aX.o aS]
   exact⟨rfl,(ae.eq_dig).symm⟩)
  rw[B2q aS]
  go_wp2_with fail
  refine(B6m A n c xs bs _ (BN aC Below.go) (CJ cG dE)).mono ?_
  rintro _ H ⟨v2,rfl,aT,aw⟩
  have bz:Bw w H:=Below.go
  have bJ:H.ownsRow D.1.size 3 1 (S (QZ ⟨D.1.size,0,I⟩) 0 0) 0 (([]:List Int).map (RH RD)):=I_ (World.ownsRow_made D #[] 0 (CE _) (EO _) rfl) aw
  have cN:w.1.size<=D.1.size:=Y.size
  go_wp2
  go_ret2
  rw[bS.o.1,bS.o.2]
  refine B1d bJ aT (λ_ h=>by simp at h) (Sl.i64 aC.o) cN oR ?_ bz
  intro cg ch aI aJ
  have:=B0b aT _ aJ
  simp[JD]at aI
  simp at this
  omega
 ·have cN:=B8n az
  generalize sgn (val xs - val ys)=ej at *;rcases CG 1 m with O|O
  ·have dB:m<=n:=by
    rcases CG n m with h|h
    ·have:=XN.Can.lt_of_len ae.o.1 af.o (by rw[bk.o,aq.o];exact h);omega
    exact h
   obtain⟨p,rfl⟩:∃ p,m=p+2:=⟨m - 2,oS⟩
   obtain⟨l,rfl⟩:∃ l,n=p+2+l:=⟨n - (p+2),oS⟩
   obtain⟨b2,o2,t,rfl,a7,aB,_,aR⟩:=DL aW.o (by omega:p+1<p+2)
   obtain⟨al,bD,cx,ec,ed⟩:=E2w af.o (m:=p+1) (by rw[aq.o]) aB
   have bE:=(Y.cell (p:=⟨b2,o2+(p+1),I⟩) a7).trans aR
   have bV:=A_ cx
   have dY:=A_ az
   have d7:(p:Int)+l<=65534:=oS
   have dD:¬ ((p:Int)+2=1):=oS
   have dF:((p:Int)+2==1)=false:=oR
   clear aR aB hm0 O cx az dB
   go_wp2_with fail
   generalize 1000000000 / (t+1)=f at *
   have dx:=A_ (show val xs*f<pw (p+2+l+1) by have O:=A4j ae.1;rw[bk.o]at O;have aa:val xs*f<=val xs*1000000000:=Int.mul_le_mul_of_nonneg_left oS aX.o;rw[A1l];omega)
   refine(C2d A (p+2+l) c (p+2+l+1) xs bs f D (BN aC.o Y) ae.o.1 al bD oS oS dx.o).mono ?_
   rintro _ H ⟨us,rfl,cU,co,cp,bL,aw⟩
   have dZ:=A_ cU;have dk:=A_ co;have b6:=A_ cp
   clear cU co cp
   go_wp2_with fail
   have dh:=A_ (BN (BN aW Y) aw)
   refine(C2d (QZ ⟨b2,o2,I⟩) (p+2) d (p+2) ys bn f H dh.o af.o.1 al bD oS oS bV.o).mono ?_
   rintro _ w3 ⟨vs,rfl,cZ,cs,ct,bM,a3⟩
   have aY:=A_ cZ;have ac:=A_ cs;have aZ:=A_ ct
   clear cZ cs ct
   obtain⟨c6,cB,c2,c4,c5⟩:=info_parts A6b
   have q2:=A_ (by rw[c5];omega:c6.bytes*(l+1)<=281474976710656)
   have dT:=A_ (by unfold maxLen;omega:l+1<=maxLen)
   have c8:=A_ (by omega:(p:Int)+2+l - (p+2)+1=((l+1:Nat):Int))
   go_wp2_with (at_make;(refine wpList_make_full _ rfl _ _ 35 rfl w3.1.size 3 c6 (RH RD 0) 1 underlying35 cB c2 c4 .i64 .i64 _ _ (l+1) rfl rfl c8 c8 q2 dT (CE _) ?_);intro dW bH cA)
   rw[A8c]at bH
   have bB:=(Below.refl w3.1.size w3).grown cA (CE _) (by intro k E;cases E)
   have cm:=I_ (I_ bL a3) bB
   have cq:=I_ bM bB
   have cw:Bw w dW:=Below.go
   have start:=A_ (show 0<=val us/\val us<val vs*pw (l+1) by
    rw[b6.o,aZ.o];refine⟨Int.mul_nonneg aX.o oS,?_⟩;have O:=A4j ae.1;rw[bk.o]at O;have aa:=af.len_le (by intro e;have:=aq.o;rw[e]at this;simp at this);rw[aq.o]at aa;have a1:pw (p+1)*pw (l+1)<=val ys*pw (l+1):=LZ aa (JJ (A5r _));rw[<-B0f,show p+1+(l+1)=p+2+l by omega]at a1;have bo:val xs*f<val ys*pw (l+1)*f:=Int.mul_lt_mul_of_pos_right oS al;have bp:val ys*pw (l+1)*f=val ys*f*pw (l+1):=by grind
    omega)
   have ea:D.1.size<H.1.size:=(FG bL _ rfl).2
   have eb:H.1.size<w3.1.size:=(FG bM _ rfl).2
   have cO:w.1.size<=D.1.size:=Y.size
   clear bL bM cA cB c2 c4 c5 aw a3 bB bE a7 dD dF Y
   go_loopw [13] (λi wr=>∃ (K:Nat) (zs b:List Int),K<=l+1/\i=RH RD ((K:Int) - 1)/\wr.ownsRow D.1.size 3 1 (S (QZ ⟨D.1.size,0,I⟩) (p+2+l+1) (p+2+l+1)) (p+2+l+1) (zs.map (RH RD))/\wr.ownsRow H.1.size 3 1 (S (QZ ⟨H.1.size,0,I⟩) (p+2) (p+2)) (p+2) (vs.map (RH RD))/\wr.ownsRow w3.1.size 3 1 (S (QZ ⟨w3.1.size,0,I⟩) (l+1) (l+1)) (l+1) (b.map (RH RD))/\Hid (Lims zs)/\Hid (Lims b)/\Hid (val zs=val xs*f - val vs*(pw K*val (b.drop K)))/\Hid (0<=val zs/\val zs<val vs*pw K)/\Bw w wr) (λi wr=>(intOf i+1).toNat)
   case atStart =>refine⟨l+1,us,_,CE _,congrArg (RH RD) oS,cm,cq,bH,dk.o,Lims.zeros _,?_,start.o,cw⟩;show val us=val xs*f - val vs*(pw (l+1)*val ((List.replicate (l+1) (0:Int)).drop (l+1)));rw[List.drop_eq_nil_of_le sI,b6.o];simp[val]
   case round =>
    obtain⟨K,zs,b,du,rfl,X,bu,a2,Z,ap,bP,bI,cu⟩:=hrel;clear cm cq bH cw;rcases Nat.eq_zero_or_pos K with aK|aK
    ·subst aK
     have ce:=A_ (show val b=val xs / val ys/\val (zs.take (p+2))=(val xs % val ys)*f by
      have O:=bP.o;rw[List.drop_zero,B0q,Int.one_mul,aZ.o]at O;obtain⟨aa,a1⟩:=bI.o;rw[B0q,Int.mul_one,aZ.o]at a1;have bo:val zs=(val xs - val ys*val b)*f:=by rw[O];grind
      have bp:0<=val xs - val ys*val b:=by
       rcases FH (val xs - val ys*val b) 0 with h|h;·have:=Int.mul_neg_of_neg_of_pos h al;omega
       exact h
      have bq:val xs - val ys*val b<val ys:=by
       rcases FH (val xs - val ys*val b) (val ys)with h|h;·exact h
       have:=LZ h (JJ al);omega
      obtain⟨aI,aJ⟩:=D2a (q:=val b) (r:=val xs - val ys*val b) (a:=val xs) b5.o (by grind) bp bq;refine⟨aI.symm,?_⟩;rw[aJ,<-bo];have ds:=B0x zs (p+2) (by rw[A2n X];omega);have dt:=bV.o;rw[show p+1+1=p+2 from rfl]at dt;rw[B0e Z.o (by rw[A2n X];omega) oS]at ds;omega)
     have d4:¬ ((0:Int)<=((0:Nat):Int) - 1):=oS;have ck:=C6w X (by omega:p+2<=p+2+l+1);have d1:(p:Int)+2<=p+2+l+1:=oS;have bj:=A_ (Z.take (p+2));go_wp2_with fail;refine(A9y _ _ _ _ (zs.take (p+2)) wr ck bj.i64).mono ?_;rintro _ bR ⟨rfl,ak,cn⟩;go_wp2_with fail;obtain⟨dU,cP⟩:=A7v cn (XN.Can.trim bj).1.i64;refine(B7n _ _ _ (trim (zs.take (p+2))) dU f bR cP (XN.Can.trim bj).1 al bD (by
      have:(trim (zs.take (p+2))).length<=p+2:=by rw[B3n,JO,JO];omega
      omega)).mono ?_
     rintro _ db ⟨el,rfl,cJ,a4⟩;have ai:=I_ a2 ak;have aL:=I_ ai a4;clear cP a2 X ck cn bu;go_wp2_with fail;refine(A9y _ _ _ _ b db aL ap.i64).mono ?_;rintro _ dX ⟨rfl,dy,cj⟩;have dz:Bw w dX:=Below.go;have cK:=I_ cJ dy;have eq:=A_ (show trim b=dig (val xs / val ys).toNat by rw[<-ce.o.1];exact A8i ap (Int.toNat_of_nonneg (S_ ap)).symm);have dq:=A_ (show val (trim (zs.take (p+2))) / f=val xs % val ys by rw[C5t,ce.o.2];exact Int.mul_ediv_cancel _ oS);go_wp2;go_ret2;rw[dq.o]at cK;rw[eq.o]at cj ⊢;have dv:=B8h ai cJ;exact B1d cj cK (A0j _).1.i64 (A0j _).1.i64 oS (by have:=cu.size;have:=ak.size;omega) (λcg ch aI aJ=>dv cg ch aI aJ) dz
    ·obtain⟨j,rfl⟩:∃ j,K=j+1:=⟨K - 1,oS⟩
     have dp:(((j+1:Nat):Int) - 1)=j:=oS;rw[dp];have bi:=A_ (A2n X);have d2:(j:Int)<=l:=oS;obtain⟨u0,a8,ee,ef⟩:=Z.o.num (j:=j+p) (by rw[bi.o];omega);obtain⟨u1,bN,dL,dM⟩:=Z.o.num (j:=j+p+1) (by rw[bi.o];omega);obtain⟨u2,bO,dN,dO⟩:=Z.o.num (j:=j+p+2) (by rw[bi.o];omega);obtain⟨da,bQ,cX,cY⟩:=ac.o.num (j:=p) (by rw[aY.o];omega);obtain⟨T,a9,eg,eh⟩:=ac.o.num (j:=p+1) (by rw[aY.o];omega);have dQ:=E6v af aq ac aY aZ al a9;have W:=A_ (show Dig3 zs vs j p u0 (u2*1000000000+u1) T da from⟨Z,ac,⟨u1,u2,a8,bN,bO,rfl⟩,bQ,a9,aY,dQ,bI.2⟩);obtain⟨_,aH,_⟩:=A0t X a8;obtain⟨_,b9,_⟩:=A0t X bN;obtain⟨_,ca,_⟩:=A0t X bO;have b0:=A_ a8;have b4:=A_ bQ;have b3:=A_ a9;clear a8 bN bO bQ a9;rw[show j+p+2=j+(p+2) by omega]at ca;rw[show j+p+1=j+(p+1) by omega]at b9;have d8:(p:Int)<=65534:=oS;have d3:(l:Int)<=65534:=oS;clear bI du aK;go_wp2_with fail;refine A0g ?_;iterate 16 refine C_ _ ?_
     intro be bg aV u G (am:Hid _);simp at G;go_simp;clear G am aH b9 ca;have aN:=A_ (I_ X u);have au:=A_ (I_ bu u);have br:=A_ (I_ a2 u);have bA:Bw w aV:=Below.go;clear X bu a2 cu u;obtain⟨cy,aH,_⟩:=A0t aN b0;obtain⟨cz,cc,_⟩:=A0t au b4;obtain⟨_,cb,_⟩:=A0t au b3;clear dL dM dN dO;generalize u2*1000000000+u1=top at *;obtain⟨dI,dJ⟩:=W.top_lim;go_upto_region 14 with fail;go_cut [15] (λs15 wx=>(∃ q:Int,s15=RH RD q/\(0<=q/\q<=999999999)/\(0<=q*T/\q*T<=top)/\Hid (val zs<(q+1)*(val vs*pw j)))/\wx=aV);case first =>
      rcases FH (top / T) 999999999 with aS|az;·have ar:=A_ (W.start (.inl ⟨rfl,aS⟩));go_wp2_with fail;go_meet;exact⟨⟨_,rfl,ar⟩,rfl⟩
      have ar:=A_ (W.start (.inr ⟨rfl,az⟩));go_wp2_with fail;go_meet;exact⟨⟨_,rfl,ar⟩,rfl⟩
     case rest =>
      obtain⟨⟨c7,rfl,⟨a0,b7⟩,⟨dl,dm⟩,b8⟩,dR⟩:=hcut;obtain rfl:aV=wc:=dR.symm;go_upto_block 2 with fail;have ar:=A_ (show ∃ q r:Int,RH RD c7=RH RD q/\RH RD (top - c7*T)=RH RD r/\0<=q/\q<=999999999/\0<=r/\r<=999999999999999999/\Hid (r=top - q*T)/\Hid (val zs<(q+1)*(val vs*pw j))from⟨_,_,rfl,rfl,a0,b7,oS,oS,rfl,b8.o⟩);clear a0 b7 dl dm b8 dI dJ aH cb cc cy cz;go_cut [15] (λs15 wx=>(∃ q:Int,s15=RH RD q/\(0<=q/\q<=999999999)/\Hid (val zs<(q+1)*(val vs*pw j))/\Hid ((q - 1)*(val vs*pw j)<=val zs))/\Bw aV wx);case first =>
       go_wp2_with fail;go_loopw [15,16] (λsq sr wr=>(∃ q r:Int,sq=RH RD q/\sr=RH RD r/\0<=q/\q<=999999999/\0<=r/\r<=999999999999999999/\Hid (r=top - q*T)/\Hid (val zs<(q+1)*(val vs*pw j)))/\Bw aV wr) (λsq sr wr=>(intOf sq).toNat);case atStart=>exact⟨ar,Below.refl _ _⟩
       case round =>
        obtain⟨⟨q,rest,rfl,rfl,ab,aU,cM,bJ,bK,cL⟩,a5⟩:=hrel;have aO:=A_ (I_ aN a5);have aP:=A_ (I_ au a5);have a6:=A_ a5;clear aN au br bA a5;obtain⟨cy,aH,_⟩:=A0t aO b0;obtain⟨cz,cc,_⟩:=A0t aP b4;rw[show j+p=j+(p+2) - 2 by omega]at aH;obtain⟨d5,d6⟩:=C0c ab (by omega:q<1000000000) cX cY;by_cases ba:rest<1000000000
        ·by_cases aA:rest*1000000000+u0<q*da
         ·have d9:0<q:=by
           rcases Int.lt_or_le 0 q with h | h
           ·exact h
           have:q=0:=by omega
           subst this
           omega
          have an:=A_ (show (intOf (.int .i64 (q - 1))).toNat<(intOf (.int .i64 q)).toNat by simp[intOf];omega)
          have bc:=A_ (W.step ab bK aA)
          have ad:=A_ (show 0≤q - 1∧q - 1≤999999999∧0≤rest+T∧rest+T≤999999999999999999 by omega)
          go_wp2_with fail
          refine A0g ?_
          iterate 22 refine C_ _ ?_
          intro be bg dc u G (am:Hid _)
          simp at G
          go_simp
          clear G am
          obtain ⟨_,cb,_⟩:=A0t (I_ aP u) b3
          go_wp2_with fail
          have ax:=A_ u
          clear u
          first
          | exact ⟨⟨⟨q - 1,rest+T,rfl,rfl,ad.1,ad.2.1,ad.2.2.1,ad.2.2.2,bc.1,bc.2⟩,Below.next a6 ax⟩,an⟩
          |exact⟨by(repeat apply FS);exact⟨⟨⟨q - 1,rest+T,rfl,rfl,ad.1,ad.2.1,ad.2.2.1,ad.2.2.2,bc.1,bc.2⟩,Below.next a6 ax⟩,rfl⟩,an⟩
         ·have bl:=A_ (W.o.last ab aU bK.o (.inr (by omega)))
          go_wp2_with fail;refine A0g ?_;iterate 22 refine C_ _ ?_
          intro be bg dc u G (am:Hid _);simp at G;go_simp;clear G am;go_wp2_with fail;have ax:=A_ u;clear u;go_meet;exact⟨⟨_,rfl,⟨ab,aU⟩,cL,bl⟩,Below.next a6 ax⟩
        have bl:=A_ (W.o.last ab aU bK.o (.inl oS));go_wp2_with fail;refine A0g ?_;iterate 3 refine C_ _ ?_
        iterate 18 apply A4m;case h =>intro be bg em u G;simp at G;go_simp;first|done|(simp[undef];done)
        refine C_ _ ?_;intro be bg dc u G (am:Hid _);simp at G;go_simp;clear G am;go_wp2_with fail;have ax:=A_ u;clear u;go_meet;exact⟨⟨_,rfl,⟨ab,aU⟩,cL,bl⟩,Below.next a6 ax⟩
      case rest =>
       obtain⟨⟨q,rfl,⟨ab,aU⟩,dj,di⟩,aQ⟩:=hcut;have aO:=A_ (I_ aN aQ);have aP:=A_ (I_ au aQ);have bt:=A_ (I_ br aQ);have cv:=A_ (Below.next bA aQ);clear aN au br bA aQ ar cX cY;obtain⟨sv,cQ⟩:=A7v aP ac.i64;have de:=A_ cQ;clear cQ;have cD:j+(p+2)+1<=p+2+l+1:=oS;have ci:p+2+l+1<=1048576:=oS;have c9:∀ bm o,QZ (⟨H.1.size,0,I⟩:Addr)=QZ ⟨bm,o,I⟩->bm≠D.1.size:=by intro bm o e;cases e;omega
       have bZ:=A_ c9;clear c9;obtain⟨ei,cH,_,_⟩:=ap.o.num (j:=j) (by rw[A2n bt.o];omega);have bY:=A_ cH;clear cH;have cE:j<b.length:=by rw[A2n bt.o];omega
       have bW:=A_ cE;clear cE;have cd:p+2+1=j+(p+2)+1 - j:=oS;have bT:=A_ cd;clear cd;have an:=A_ (by simp[intOf]:(intOf (RH RD ((j:Int) - 1))+1).toNat<(intOf (RH RD (j:Int))+1).toNat);have bd:j<=l+1:=oS;go_wp2_with fail;have C:=C9e (QZ ⟨H.1.size,0,I⟩) D.1.size D.1.size (p+2+l+1) (p+2+l+1) j (p+2) (p+2+l+1 - j) (p+2) zs vs sv q wc aO.o Z.o cD ci de.o ac.o bZ.o ab oS;rw[bT.o]at C;refine C.mono ?_;clear C;rintro _ bR ⟨bf,r,rfl,dH,aM,cV,cF⟩;have bv:=A_ (OV aP.o aM.grown (.inr (by simp[JD];omega)));have ai:=A_ (OV bt.o aM.grown (.inr (by simp[JD];omega)));have ak:=A_ (cv.grown aM.grown cv.size (by intro k E;cases E;exact cO));have ah:=A_ aM;have ao:=A_ cF;have bh:=A_ cV;clear aM cF cV;rcases dH with rfl|rfl
       ·have F:=A_ (W.done0 dj ao bh)
        have R1:=A_ (A3a ai j q);have ag:=A_ (MM ai j (RH RD q)).2;have R2:=A_ (OV ah.o.row ag.o (.inr (by simp[JD];omega)));have aD:=A_ (OV bv.o ag.o (.inr (by simp[JD];omega)));have aE:=A_ (ak.grown ag ak.size (by intro k E;cases E;omega));have aF:=A_ (ap.o.set j ab (by omega:q<1000000000));have aG:=A_ (E0h bW bP F.1);obtain⟨dA,dn,dr⟩:=A0t ai bY;go_wp2_with fail;first
        |exact⟨⟨j,bf,b.set j q,bd,rfl,R2,aD,R1,ao,aF,aG,F.2,aE⟩,an⟩
        |exact⟨by(repeat apply FS);exact⟨⟨j,bf,b.set j q,bd,rfl,R2,aD,R1,ao,aF,aG,F.2,aE⟩,rfl⟩,an⟩
       ·obtain⟨dV,cR⟩:=A7v bv ac.i64
        have df:=A_ cR;clear cR;go_wp2_with fail;have C:=D3g (QZ ⟨H.1.size,0,I⟩) D.1.size D.1.size (p+2+l+1) (p+2+l+1) j (p+2) (p+2+l+1 - j) (p+2) bf vs dV bR ah.row ao cD ci df ac bZ;rw[bT.o]at C;refine C.mono ?_;clear C;rintro _ db ⟨dd,d0,rfl,ay,aj,cW,bG⟩;have F:=A_ (W.o.done1 di.o ao.o bh.o (by rw[A2n ah.o.row,A2n aO.o]) (λk E=>ah.o.o k (.inr E)) bG ay cW (by rw[A2n aj.row,A2n ah.o.row]) (λk E=>aj.o k (.inr E)));have dw:=A_ (OV bv.o aj.grown (.inr (by simp[JD];omega)));have aL:=A_ (OV ai.o aj.grown (.inr (by simp[JD];omega)));have a4:=A_ (ak.grown aj.grown ak.size (by intro k E;cases E;exact cO));have dg:=A_ aj;have bX:=A_ bG;clear aj bG cW ay;have dG:0<=q - 1:=by
         rcases Int.lt_or_le 0 q with h | h;·omega
         have aK:q=0:=by omega
         have O:=bh.o;have aa:=W.lt;have a1:=F.o;subst aK;have bo:=S_ Z;have bp:val bf<pw (j+(p+2)+1):=by have bq:=C6i Z ao (i:=j+p+3) (by have:=W.zl;omega) (by rw[A2n ah.o.row,A2n aO.o]) (fun k E=>ah.o.o k (.inr (by omega))) aa;rwa [show j+p+3=j+(p+2)+1 by omega]at bq
         rw[Int.zero_mul,Int.mul_zero] at O;omega
        have R1:=A_ (A3a aL j (q - 1));have ag:=A_ (MM aL j (RH RD (q - 1))).2;have R2:=A_ (OV dg.o.row ag.o (.inr (by simp[JD];omega)));have aD:=A_ (OV dw.o ag.o (.inr (by simp[JD];omega)));have aE:=A_ (a4.grown ag a4.size (by intro k E;cases E;omega));have aF:=A_ (ap.o.set j dG (by omega:q - 1<1000000000));have aG:=A_ (E0h bW bP F.1);obtain⟨dA,dn,dr⟩:=A0t aL bY;go_wp2_with fail;first
        |exact⟨⟨j,dd,b.set j (q - 1),bd,rfl,R2,aD,R1,bX,aF,aG,F.2,aE⟩,an⟩
        |exact⟨by(repeat apply FS);exact⟨⟨j,dd,b.set j (q - 1),bd,rfl,R2,aD,R1,bX,aF,aG,F.2,aE⟩,rfl⟩,an⟩
  ·obtain rfl:m=1:=oS
   obtain⟨b2,o2,y,rfl,a7,aB,_,aR⟩:=DL aW.o (by omega:0<1);have c1:=af.1.get aB;have bU:=A_ (show val ys=y by have aa:=Y_ aB;rw[DT (IW aq.o)]at aa;rw[aa,FM,B0q];simp[val]);have c0:0<y:=by have:=b5.o;rw[bU.o]at this;exact this
   have dS:=c1.2;have bE:=(Y.cell (p:=⟨b2,o2+0,I⟩) a7).trans aR;simp only[Nat.add_zero]at bE;clear aR c1 aB hm0 az O;go_wp2_with fail;refine(B7n A n c xs bs y D (BN aC Y) ae.1 c0 dS (CJ cG dE)).mono ?_;rintro _ H ⟨v2,rfl,aT,aw⟩;have cM:0<=val xs % y:=Int.emod_nonneg _ oS;have bJ:val xs % y<1000000000:=by have:=Int.emod_lt_of_pos (val xs) c0;omega
   go_wp2_with fail;refine(C9q (val xs % y) H cM oS).mono ?_;rintro _ w3 ⟨ek,rfl,cI,a3⟩;have bz:Bw w w3:=Below.go;go_wp2;go_ret2;rw[bU.o];exact B1d (I_ aT a3) cI (A0j _).1.i64 (A0j _).1.i64 Y.size (CJ Y.size aw.size) (B8h aT cI) bz
end Go.Proofs.YtjcanieccnljfaaGreat.X
