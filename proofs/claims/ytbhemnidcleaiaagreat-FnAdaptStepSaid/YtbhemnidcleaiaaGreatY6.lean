/- A part of the proof. -/
import Derived.Test.YtbhemnidcleaiaaGreatY5
import Derived.Deep.CutBlock
import Derived.Deep.DeepCutAuto
set_option linter.constructorNameAsVariable false
set_option maxHeartbeats 16000000
set_option maxRecDepth 10000
namespace Go.Proofs.YtbhemnidcleaiaaGreat.X
open Go.RowKit Go.XB Go.XN Proofs.Tryz
attribute [local go_sem] L_ opAt N_ M_ Region.wanted yielded
attribute [local simp] N_ M_ MP.eq A0r
structure Turned (w w':World) (base g N cap lo hi:Nat) (us us':List Int):Prop where
 row:w'.ownsRow base 3 1 (.slice (some ⟨g,0,none⟩) N cap) N (us'.map (.int .i64))
 o:∀ k,k<lo\/hi<=k->us'[k]?=us[k]?
 grown:w.grownBy w' (some g)

theorem Turned.set {w wr:World} {base g N cap lo hi:Nat} {us zs:List Int} (h:Turned w wr base g N cap lo hi us zs) (j:Nat) (h1:lo<=j) (h2:j<hi) (u:Int) :
  Turned w (wr.setCell ⟨g,j,none⟩ (.int .i64 u)) base g N cap lo hi us (zs.set j u) :=
 ⟨A3a h.row j u,λk hk=>by rw[List.getElem?_set_ne oM];exact h.o k hk,h.grown.trans (World.ownsRow.stored h.row j _).2⟩

theorem C9e (B:Option Addr) (base g N cap j m c d:Nat) (us ys:List Int) (az:List Nat) (q:Int) (w:World) (D:w.ownsRow base 3 1 (.slice (some ⟨g,0,none⟩) N cap) N (us.map (.int .i64))) (al:Lims us)
  (aS:j+m+1<=N) (aO:N<=1048576) (ab:Sl w B m d ys az) (am:Lims ys) (ao:∀ b o,B=some ⟨b,o,none⟩->b≠g) (aG:0<=q) (aH:q<1000000000) :
  Calls prog 189 #[.slice (some ⟨g,j,none⟩) (m+1) c,.slice B m d,.int .i64 q] w λe w' =>
   ∃ us' r,e=.returned (.int .i64 r)/\(r=0\/r=1)/\Turned w w' base g N cap j (j+m+1) us us'/\(val us'=val us - pw j*(q*val ys)+pw (j+m+1)*r/\Lims us'):=by
 have au:=A_ ab;have ax:=A_ am;have ay:=A_ ao;have ah:Turned w w base g N cap j (j+m+1) us us:=⟨D,λ_ _=>rfl,World.grownBy.refl _ _⟩
 have aw:=A_ (show ys.length=m from ab.1);have aN:=A_ D;have ar:=A_ al;clear ab am ao D al;go_enter func189,ntmps189;go_wp2_with fail;go_loopw [7,14] (λb i wr=>∃ (k:Nat) (bw:Int) (zs:List Int),k<=m/\0<=bw/\bw<1000000000/\i=.int .i64 k/\b=.int .i64 bw/\Turned w wr base g N cap j (j+m+1) us zs/\Hid (Lims zs)/\Hid (∀ u,j+k<=u->zs[u]?=us[u]?)/\Hid (val zs=val us - pw j*(q*val (ys.take k))+pw (j+k)*bw)) (λb i wr=>m - (intOf i).toNat);case atStart=>exact⟨0,0,us,Nat.zero_le _,Int.le_refl _,oM,rfl,rfl,ah,ar.o,λ_ _=>rfl,by show val us=val us - pw j*(q*val (ys.take 0))+pw (j+0)*0;rw[List.take_zero];simp[val]⟩
 case round =>
  obtain⟨k,bw,zs,Y,aP,aQ,rfl,rfl,G,O,an,aa⟩:=hrel;clear ah;have aq:=A_ (A2n G.row);have aT:(j:Int)<=1048576:=oM;have aU:(k:Int)<=1048576:=oM;rcases Nat.lt_or_ge k m with J|J
  ·have aE:(k:Int)<m:=oM
   have aF:(k:Int)<m+1:=oM;obtain⟨b2,o2,y,rfl,aj,ac,_,ak⟩:=Sl.getInt au J;have ad:=ax.get ac;have ag:=A_ ac;have aK:=ad.1;have aL:=ad.2;have aR:=(World.cell?_of_block (a:=⟨b2,o2+k,none⟩) (G.grown.block b2 aj (by have:=ay b2 o2 rfl;simpa using this))).trans ak;obtain⟨h,D,aI,aJ⟩:=O.o.num (j:=j+k) (by rw[aq.o];omega);have S:=A_ D;obtain⟨aC,aA,aB⟩:=A0t G.row D;have W:=A_ G;clear D ak aj ad ac G;obtain⟨aV,aW⟩:=C0c aK aL aG aH;have E:k+1<=m:=J;have ai:(0:Int)<1000000000:=oM;have K:j<=j+k:=Nat.le_add_right _ _;have I:j+k<j+m+1:=oM;rcases Int.lt_or_le (h - bw - y*q) 0 with H|H
   ·have Z:(h - bw - y*q<0):=H
    have ae:=A_ (by omega:0<=((-(h - bw - y*q)+1000000000 - 1) / 1000000000));have af:=A_ (by omega:((-(h - bw - y*q)+1000000000 - 1) / 1000000000)<1000000000);have L:=A_ (O.o.set (j+k) (u:=(h - bw - y*q+(-(h - bw - y*q)+1000000000 - 1) / 1000000000*1000000000)) oM oM);have T:=A_ (show ∀ u,j+(k+1)<=u->(zs.set (j+k) (h - bw - y*q+(-(h - bw - y*q)+1000000000 - 1) / 1000000000*1000000000))[u]?=us[u]? by intro u X;rw[List.getElem?_set_ne oM];exact an.o u oM);have r:=A_ (show val (zs.set (j+k) (h - bw - y*q+(-(h - bw - y*q)+1000000000 - 1) / 1000000000*1000000000))=val us - pw j*(q*val (ys.take (k+1)))+pw (j+(k+1))*((-(h - bw - y*q)+1000000000 - 1) / 1000000000) by rw[B3w S.o,aa.o,Y_ ag.o,<-Nat.add_assoc,A1l (j+k),B0f];generalize ((-(h - bw - y*q)+1000000000 - 1) / 1000000000)=aM;grind);have R:=A_ (W.set (j+k) K I (h - bw - y*q+(-(h - bw - y*q)+1000000000 - 1) / 1000000000*1000000000));clear J Y;go_wp2_with fail;first
    |exact⟨⟨k+1,_,_,E,ae,af,rfl,rfl,R,L,T,r⟩,V_ E⟩
    |exact⟨by(repeat apply Exists.intro);exact⟨⟨k+1,_,_,E,ae,af,rfl,rfl,R,L,T,r⟩,rfl⟩,V_ E⟩
   ·have Z:¬ (h - bw - y*q<0):=oM
    have L:=A_ (O.o.set (j+k) (u:=h - bw - y*q) H oM);have T:=A_ (show ∀ u,j+(k+1)<=u->(zs.set (j+k) (h - bw - y*q))[u]?=us[u]? by intro u X;rw[List.getElem?_set_ne oM];exact an.o u oM);have r:=A_ (show val (zs.set (j+k) (h - bw - y*q))=val us - pw j*(q*val (ys.take (k+1)))+pw (j+(k+1))*0 by rw[B3w S.o,aa.o,Y_ ag.o,B0f];grind);have R:=A_ (W.set (j+k) K I (h - bw - y*q));clear J Y;go_wp2_with fail;first
    |exact⟨⟨k+1,0,_,E,Int.le_refl 0,ai,rfl,rfl,R,L,T,r⟩,V_ E⟩
    |exact⟨by(repeat apply Exists.intro);exact⟨⟨k+1,0,_,E,Int.le_refl 0,ai,rfl,rfl,R,L,T,r⟩,rfl⟩,V_ E⟩
  have aD:k=m:=oM;subst aD;have aE:¬ ((k:Int)<k):=oM;have aF:(k:Int)<k+1:=oM;obtain⟨h,D,aI,aJ⟩:=O.o.num (j:=j+k) (by rw[aq.o];omega);have S:=A_ D;obtain⟨aC,aA,aB⟩:=A0t G.row D;have W:=A_ G;clear D G;have K:j<=j+k:=Nat.le_add_right _ _;have I:j+k<j+k+1:=Nat.lt_succ_self _;have ap:=A_ (show val zs=val us - pw j*(q*val ys)+pw (j+k)*bw by have X:=aa.o;rwa [List.take_of_length_le (Nat.le_of_eq aw.o)]at X);clear J Y;rcases Int.lt_or_le (h - bw) 0 with H|H
  ·have Z:(h - bw<0):=H;have L:=A_ (O.o.set (j+k) (u:=h - bw+1000000000) oM oM);have r:=A_ (show val (zs.set (j+k) (h - bw+1000000000))=val us - pw j*(q*val ys)+pw (j+k+1)*1 by rw[B3w S.o,ap.o,A1l];grind);have R:=A_ (show Turned w ((wr.setCell ⟨g,j+k,none⟩ (.int .i64 (h - bw))).setCell ⟨g,j+k,none⟩ (.int .i64 (h - bw+1000000000))) base g N cap j (j+k+1) us (zs.set (j+k) (h - bw+1000000000)) by have:=(W.set (j+k) K I (h - bw)).set (j+k) K I (h - bw+1000000000);rwa [List.set_set]at this);go_wp2_with fail;go_ret;exact⟨_,1,rfl,.inr rfl,R,r,L⟩
  have Z:¬ (h - bw<0):=oM;have L:=A_ (O.o.set (j+k) (u:=h - bw) H oM);have r:=A_ (show val (zs.set (j+k) (h - bw))=val us - pw j*(q*val ys)+pw (j+k+1)*0 by rw[B3w S.o,ap.o];grind);have R:=A_ (W.set (j+k) K I (h - bw));go_wp2_with fail;go_ret;exact⟨_,0,rfl,.inl rfl,R,r,L⟩

theorem D3g (B:Option Addr) (base g N cap j m c d:Nat) (us ys:List Int) (aq:List Nat) (w:World) (G:w.ownsRow base 3 1 (.slice (some ⟨g,0,none⟩) N cap) N (us.map (.int .i64))) (ai:Lims us)
  (aG:j+m+1<=N) (aB:N<=1048576) (Z:Sl w B m d ys aq) (aj:Lims ys) (ak:∀ b o,B=some ⟨b,o,none⟩->b≠g) :
  Calls prog 190 #[.slice (some ⟨g,j,none⟩) (m+1) c,.slice B m d] w λe w' =>
   ∃ us' r,e=.returned (.tuple #[])/\(0<=r/\r<=1)/\Turned w w' base g N cap j (j+m+1) us us'/\(val us'=val us+pw j*val ys - pw (j+m+1)*r/\Lims us'):=by
 have am:=A_ Z;have ao:=A_ aj;have ap:=A_ ak;have ad:Turned w w base g N cap j (j+m+1) us us:=⟨G,λ_ _=>rfl,World.grownBy.refl _ _⟩
 have ac:=A_ (show ys.length=m from Z.1);have aA:=A_ G;have al:=A_ ai;clear Z aj ak G ai;go_enter func190,ntmps190;go_wp2_with fail;go_loopw [4,9] (λb i wr=>∃ (k:Nat) (h:Int) (zs:List Int),k<=m+1/\0<=h/\h<=1/\i=.int .i64 k/\b=.int .i64 h/\Turned w wr base g N cap j (j+m+1) us zs/\Hid (Lims zs)/\Hid (val zs+pw (j+k)*h=val us+pw j*val (ys.take k))) (λb i wr=>m+1 - (intOf i).toNat);case atStart=>exact⟨0,0,us,Nat.zero_le _,Int.le_refl _,oM,rfl,rfl,ad,al.o,by show val us+pw (j+0)*0=val us+pw j*val (ys.take 0);rw[List.take_zero];simp[val]⟩
 case round =>
  obtain⟨k,h,zs,X,ar,au,rfl,rfl,E,W,Y⟩:=hrel;clear ad;have az:=A_ (A2n E.row);have aH:(j:Int)<=1048576:=oM;have aI:(k:Int)<=1048576:=oM;rcases Nat.lt_or_ge k (m+1)with O|O
  ·have ax:(k:Int)<m+1:=oM
   obtain⟨u,G,aJ,aK⟩:=W.o.num (j:=j+k) (by rw[az.o];omega);have ab:=A_ G;obtain⟨aF,aD,aE⟩:=A0t E.row G;have T:=A_ E;have D:k+1<=m+1:=O;have ah:j<=j+k:=Nat.le_add_right _ _;have ag:j+k<j+m+1:=oM;rcases Nat.lt_or_ge k m with K|K
   ·obtain⟨b2,o2,y,rfl,ae,aa,_,af⟩:=Sl.getInt am K
    have H:=ao.get aa;have an:=A_ aa;have aL:=H.1;have aM:=H.2;have aC:=(World.cell?_of_block (a:=⟨b2,o2+k,none⟩) (E.grown.block b2 ae (by have:=ap b2 o2 rfl;simpa using this))).trans af;have ay:(k:Int)<m:=oM;clear G af ae H aa E;have I:=A_ (by omega:0<=(u+h+y) / 1000000000);have J:=A_ (by omega:(u+h+y) / 1000000000<=1);have L:=A_ (W.o.set (j+k) (u:=(u+h+y) % 1000000000) oM oM);have r:=A_ (show val (zs.set (j+k) ((u+h+y) % 1000000000))+pw (j+(k+1))*((u+h+y) / 1000000000)=val us+pw j*val (ys.take (k+1)) by rw[show j+(k+1)=j+k+1 from rfl,B3g ab.o Y.o,Y_ an.o,B0f];grind);have R:=A_ (T.set (j+k) ah ag ((u+h+y) % 1000000000));clear O X K;go_wp2_with fail;first
    |exact⟨⟨k+1,_,_,D,I,J,rfl,rfl,R,L,r⟩,V_ D⟩
    |exact⟨by(repeat apply Exists.intro);exact⟨⟨k+1,_,_,D,I,J,rfl,rfl,R,L,r⟩,rfl⟩,V_ D⟩
   ·have ay:¬ ((k:Int)<m):=oM
    clear G E;have I:=A_ (by omega:0<=(u+h) / 1000000000);have J:=A_ (by omega:(u+h) / 1000000000<=1);have L:=A_ (W.o.set (j+k) (u:=(u+h) % 1000000000) oM oM);have r:=A_ (show val (zs.set (j+k) ((u+h) % 1000000000))+pw (j+(k+1))*((u+h) / 1000000000)=val us+pw j*val (ys.take (k+1)) by
     have H:ys.length<=k:=by rw[ac.o];exact K
     have S:=Y.o;rw[List.take_of_length_le H]at S;rw[show j+(k+1)=j+k+1 from rfl,B3g ab.o S,List.take_of_length_le (Nat.le_succ_of_le H)];grind)
    have R:=A_ (T.set (j+k) ah ag ((u+h) % 1000000000));clear O X K;go_wp2_with fail;first
    |exact⟨⟨k+1,_,_,D,I,J,rfl,rfl,R,L,r⟩,V_ D⟩
    |exact⟨by(repeat apply Exists.intro);exact⟨⟨k+1,_,_,D,I,J,rfl,rfl,R,L,r⟩,rfl⟩,V_ D⟩
  have aw:k=m+1:=oM;subst aw;have ax:¬ ((m:Int)+1<m+1):=oM;have r:=A_ (show val zs=val us+pw j*val ys - pw (j+m+1)*h by have S:=Y.o;rw[List.take_of_length_le (by rw[ac.o];omega:ys.length<=m+1),show j+(m+1)=j+m+1 from rfl]at S;omega);have T:=A_ E;clear O X E;go_wp2_with fail;go_end0;exact⟨rfl,_,h,⟨ar,au⟩,T,r,W⟩

theorem B8n {a b:Int} (h:b<=a):¬ (sgn (a - b)<0):=by
 unfold sgn;rw[if_neg oM];split<;>omega

theorem B5w (A B:Option Addr) (n m c d:Nat) (xs ys:List Int) (aG bo:List Nat) (w:World) (bc:Sl w A n c xs aG) (ax:Sl w B m d ys bo) (bF:XN.Can xs) (au:XN.Can ys) (cG:n<=65536) (a8:0<m) :
  Calls prog 127 #[.slice A n c,.slice B m d] w (C0i w (dig (val xs / val ys).toNat) (dig (val xs % val ys).toNat)):=by
 have az:=A_ bc;have aW:=A_ ax;have ab:=A_ bF;have ac:=A_ au;have bl:=A_ bc.1;have an:=A_ ax.1;have aX:=A_ (S_ bF.1);have b5:=A_ (au.pos (by intro e;rw[<-ax.1,e]at a8;simp at a8));clear bc ax bF au;go_enter func127,ntmps127;go_wp2_with fail;refine(A9u A B n m c d xs ys aG bo w az aW ab ac).mono ?_;rintro _ D ⟨rfl,S⟩;rcases Int.lt_or_le (val xs) (val ys)with aS|aw
 ·have bS:=A_ (show dig (val xs / val ys).toNat=[]/\dig (val xs % val ys).toNat=xs by
   rw[Int.ediv_eq_zero_of_lt aX.o aS,Int.emod_eq_of_lt aX.o aS]
   exact⟨rfl,(ab.eq_dig).symm⟩)
  rw[B2q aS]
  go_wp2_with fail
  refine(B6m A n c xs aG _ (Sl.below az Below.go) (Nat.le_trans cG dE)).mono ?_
  rintro _ H ⟨v2,rfl,aT,aq⟩
  have bz:Bw w H:=Below.go
  have bJ:H.ownsRow D.1.size 3 1 (.slice (some ⟨D.1.size,0,none⟩) 0 0) 0 (([]:List Int).map (.int .i64)):=I_ (World.ownsRow_made D #[] 0 (Nat.le_refl _) (Nat.zero_le _) rfl) aq
  have cN:w.1.size<=D.1.size:=S.size
  go_wp2
  go_ret2
  rw[bS.o.1,bS.o.2]
  refine B1d bJ aT (λ_ h=>by simp at h) (Sl.i64 az.o) cN sO ?_ bz
  intro cf cg aI aJ
  have:=B0b aT _ aJ
  simp[Value.ownBlock]at aI
  simp at this
  omega
 ·have cN:=B8n aw
  generalize sgn (val xs - val ys)=ek at *;rcases Nat.lt_or_ge 1 m with I|I
  ·have dB:m<=n:=by
    rcases Nat.lt_or_ge n m with h|h
    ·have:=XN.Can.lt_of_len ab.o.1 ac.o (by rw[bl.o,an.o];exact h);omega
    exact h
   obtain⟨p,rfl⟩:∃ p,m=p+2:=⟨m - 2,oM⟩
   obtain⟨l,rfl⟩:∃ l,n=p+2+l:=⟨n - (p+2),oM⟩
   obtain⟨b2,o2,t,rfl,a7,ay,_,aR⟩:=Sl.getInt aW.o (by omega:p+1<p+2)
   obtain⟨ai,bD,cw,ed,ee⟩:=E2w ac.o (m:=p+1) (by rw[an.o]) ay
   have bE:=(S.cell (p:=⟨b2,o2+(p+1),none⟩) a7).trans aR
   have bV:=A_ cw
   have dZ:=A_ aw
   have d8:(p:Int)+l<=65534:=oM
   have dD:¬ ((p:Int)+2=1):=oM
   have dF:((p:Int)+2==1)=false:=sO
   clear aR ay a8 I cw aw dB
   go_wp2_with fail
   generalize 1000000000 / (t+1)=f at *
   have dx:=A_ (show val xs*f<pw (p+2+l+1) by have I:=A4j ab.1;rw[bl.o]at I;have X:val xs*f<=val xs*1000000000:=Int.mul_le_mul_of_nonneg_left oM aX.o;rw[A1l];omega)
   refine(C2d A (p+2+l) c (p+2+l+1) xs aG f D (Sl.below az.o S) ab.o.1 ai bD oM oM dx.o).mono ?_
   rintro _ H ⟨us,rfl,cU,cn,co,bL,aq⟩
   have d0:=A_ cU;have dk:=A_ cn;have b6:=A_ co
   clear cU cn co
   go_wp2_with fail
   have dh:=A_ (Sl.below (Sl.below aW S) aq)
   refine(C2d (some ⟨b2,o2,none⟩) (p+2) d (p+2) ys bo f H dh.o ac.o.1 ai bD oM oM bV.o).mono ?_
   rintro _ w3 ⟨vs,rfl,cZ,cq,cs,bM,a3⟩
   have aY:=A_ cZ;have Z:=A_ cq;have aZ:=A_ cs
   clear cZ cq cs
   obtain⟨c6,cA,c2,c4,c5⟩:=info_parts A6b
   have q2:=A_ (by rw[c5];omega:c6.bytes*(l+1)<=281474976710656)
   have dT:=A_ (by unfold maxLen;omega:l+1<=maxLen)
   have c8:=A_ (by omega:(p:Int)+2+l - (p+2)+1=((l+1:Nat):Int))
   go_wp2_with (at_make;(refine wpList_make_full _ rfl _ _ 31 rfl w3.1.size 3 c6 (.int .i64 0) 1 underlying31 cA c2 c4 .i64 .i64 _ _ (l+1) rfl rfl c8 c8 q2 dT (Nat.le_refl _) ?_);intro dX bH cz)
   rw[A8c]at bH
   have bB:=(Below.refl w3.1.size w3).grown cz (Nat.le_refl _) (by intro k E;cases E)
   have ck:=I_ (I_ bL a3) bB
   have cp:=I_ bM bB
   have cv:Bw w dX:=Below.go
   have start:=A_ (show 0<=val us/\val us<val vs*pw (l+1) by
    rw[b6.o,aZ.o];refine⟨Int.mul_nonneg aX.o oM,?_⟩;have I:=A4j ab.1;rw[bl.o]at I;have X:=ac.len_le (by intro e;have:=an.o;rw[e]at this;simp at this);rw[an.o]at X;have a1:pw (p+1)*pw (l+1)<=val ys*pw (l+1):=Int.mul_le_mul_of_nonneg_right X (Int.le_of_lt (A5r _));rw[<-B0f,show p+1+(l+1)=p+2+l by omega]at a1;have bp:val xs*f<val ys*pw (l+1)*f:=Int.mul_lt_mul_of_pos_right oM ai;have bq:val ys*pw (l+1)*f=val ys*f*pw (l+1):=by grind
    omega)
   have eb:D.1.size<H.1.size:=(World.ownsRow.lt bL _ rfl).2
   have ec:H.1.size<w3.1.size:=(World.ownsRow.lt bM _ rfl).2
   have cO:w.1.size<=D.1.size:=S.size
   clear bL bM cz cA c2 c4 c5 aq a3 bB bE a7 dD dF S
   go_loopw [13] (λi wr=>∃ (T:Nat) (zs b:List Int),T<=l+1/\i=.int .i64 ((T:Int) - 1)/\wr.ownsRow D.1.size 3 1 (.slice (some ⟨D.1.size,0,none⟩) (p+2+l+1) (p+2+l+1)) (p+2+l+1) (zs.map (.int .i64))/\wr.ownsRow H.1.size 3 1 (.slice (some ⟨H.1.size,0,none⟩) (p+2) (p+2)) (p+2) (vs.map (.int .i64))/\wr.ownsRow w3.1.size 3 1 (.slice (some ⟨w3.1.size,0,none⟩) (l+1) (l+1)) (l+1) (b.map (.int .i64))/\Hid (Lims zs)/\Hid (Lims b)/\Hid (val zs=val xs*f - val vs*(pw T*val (b.drop T)))/\Hid (0<=val zs/\val zs<val vs*pw T)/\Bw w wr) (λi wr=>(intOf i+1).toNat)
   case atStart =>refine⟨l+1,us,_,Nat.le_refl _,congrArg (Value.int .i64) oM,ck,cp,bH,dk.o,Lims.zeros _,?_,start.o,cv⟩;show val us=val xs*f - val vs*(pw (l+1)*val ((List.replicate (l+1) (0:Int)).drop (l+1)));rw[List.drop_eq_nil_of_le sI,b6.o];simp[val]
   case round =>
    obtain⟨T,zs,b,du,rfl,O,bu,a2,W,am,bP,bI,ct⟩:=hrel;clear ck cp bH cv;rcases Nat.eq_zero_or_pos T with aK|aK
    ·subst aK
     have ce:=A_ (show val b=val xs / val ys/\val (zs.take (p+2))=(val xs % val ys)*f by
      have I:=bP.o;rw[List.drop_zero,B0q,Int.one_mul,aZ.o]at I;obtain⟨X,a1⟩:=bI.o;rw[B0q,Int.mul_one,aZ.o]at a1;have bp:val zs=(val xs - val ys*val b)*f:=by rw[I];grind
      have bq:0<=val xs - val ys*val b:=by
       rcases Int.lt_or_le (val xs - val ys*val b) 0 with h|h;·have:=Int.mul_neg_of_neg_of_pos h ai;omega
       exact h
      have br:val xs - val ys*val b<val ys:=by
       rcases Int.lt_or_le (val xs - val ys*val b) (val ys)with h|h;·exact h
       have:=Int.mul_le_mul_of_nonneg_right h (Int.le_of_lt ai);omega
      obtain⟨aI,aJ⟩:=D2a (q:=val b) (r:=val xs - val ys*val b) (a:=val xs) b5.o (by grind) bq br;refine⟨aI.symm,?_⟩;rw[aJ,<-bp];have ds:=B0x zs (p+2) (by rw[A2n O];omega);have dt:=bV.o;rw[show p+1+1=p+2 from rfl]at dt;rw[B0e W.o (by rw[A2n O];omega) oM]at ds;omega)
     have d5:¬ ((0:Int)<=((0:Nat):Int) - 1):=oM;have cj:=C6w O (by omega:p+2<=p+2+l+1);have d2:(p:Int)+2<=p+2+l+1:=oM;have bk:=A_ (W.take (p+2));go_wp2_with fail;refine(A9y _ _ _ _ (zs.take (p+2)) wr cj bk.i64).mono ?_;rintro _ bR ⟨rfl,ah,cm⟩;go_wp2_with fail;obtain⟨dU,cP⟩:=A7v cm (XN.Can.trim bk).1.i64;refine(B7n _ _ _ (trim (zs.take (p+2))) dU f bR cP (XN.Can.trim bk).1 ai bD (by
      have:(trim (zs.take (p+2))).length<=p+2:=by rw[B3n,List.length_take,List.length_take];omega
      omega)).mono ?_
     rintro _ db ⟨em,rfl,cJ,a4⟩;have af:=I_ a2 ah;have aL:=I_ af a4;clear cP a2 O cj cm bu;go_wp2_with fail;refine(A9y _ _ _ _ b db aL am.i64).mono ?_;rintro _ dY ⟨rfl,dy,ci⟩;have dz:Bw w dY:=Below.go;have cK:=I_ cJ dy;have eq:=A_ (show trim b=dig (val xs / val ys).toNat by rw[<-ce.o.1];exact A8i am (Int.toNat_of_nonneg (S_ am)).symm);have dq:=A_ (show val (trim (zs.take (p+2))) / f=val xs % val ys by rw[C5t,ce.o.2];exact Int.mul_ediv_cancel _ oM);go_wp2;go_ret2;rw[dq.o]at cK;rw[eq.o]at ci ⊢;have dv:=B8h af cJ;exact B1d ci cK (A0j _).1.i64 (A0j _).1.i64 oM (by have:=ct.size;have:=ah.size;omega) (λcf cg aI aJ=>dv cf cg aI aJ) dz
    ·obtain⟨j,rfl⟩:∃ j,T=j+1:=⟨T - 1,oM⟩
     have dp:(((j+1:Nat):Int) - 1)=j:=oM;rw[dp];have bj:=A_ (A2n O);have d3:(j:Int)<=l:=oM;obtain⟨u0,a9,ef,eg⟩:=W.o.num (j:=j+p) (by rw[bj.o];omega);obtain⟨u1,bN,dL,dM⟩:=W.o.num (j:=j+p+1) (by rw[bj.o];omega);obtain⟨u2,bO,dN,dO⟩:=W.o.num (j:=j+p+2) (by rw[bj.o];omega);obtain⟨da,bQ,cX,cY⟩:=Z.o.num (j:=p) (by rw[aY.o];omega);obtain⟨J,ba,eh,ei⟩:=Z.o.num (j:=p+1) (by rw[aY.o];omega);have dQ:=E6v ac an Z aY aZ ai ba;have K:=A_ (show Dig3 zs vs j p u0 (u2*1000000000+u1) J da from⟨W,Z,⟨u1,u2,a9,bN,bO,rfl⟩,bQ,ba,aY,dQ,bI.2⟩);obtain⟨_,aH,_⟩:=A0t O a9;obtain⟨_,b9,_⟩:=A0t O bN;obtain⟨_,ca,_⟩:=A0t O bO;have b0:=A_ a9;have b4:=A_ bQ;have b3:=A_ ba;clear a9 bN bO bQ ba;rw[show j+p+2=j+(p+2) by omega]at ca;rw[show j+p+1=j+(p+1) by omega]at b9;have d9:(p:Int)<=65534:=oM;have d4:(l:Int)<=65534:=oM;clear bI du aK;go_wp2_with fail;refine A0g ?_;iterate 16 refine C_ _ ?_
     intro bf bh aV u G (aj:Hid _);simp at G;go_simp;clear G aj aH b9 ca;have aN:=A_ (I_ O u);have ap:=A_ (I_ bu u);have bs:=A_ (I_ a2 u);have bA:Bw w aV:=Below.go;clear O bu a2 ct u;obtain⟨cx,aH,_⟩:=A0t aN b0;obtain⟨cy,cc,_⟩:=A0t ap b4;obtain⟨_,cb,_⟩:=A0t ap b3;clear dL dM dN dO;generalize u2*1000000000+u1=top at *;obtain⟨dI,dJ⟩:=K.top_lim;go_upto_region 14 with fail;go_cut [15] (λs15 wx=>(∃ q:Int,s15=.int .i64 q/\(0<=q/\q<=999999999)/\(0<=q*J/\q*J<=top)/\Hid (val zs<(q+1)*(val vs*pw j)))/\wx=aV);case first =>
      rcases Int.lt_or_le (top / J) 999999999 with aS|aw;·have ao:=A_ (K.start (.inl ⟨rfl,aS⟩));go_wp2_with fail;go_meet;exact⟨⟨_,rfl,ao⟩,rfl⟩
      have ao:=A_ (K.start (.inr ⟨rfl,aw⟩));go_wp2_with fail;go_meet;exact⟨⟨_,rfl,ao⟩,rfl⟩
     case rest =>
      obtain⟨⟨c7,rfl,⟨a0,b7⟩,⟨dl,dm⟩,b8⟩,dR⟩:=hcut;obtain rfl:aV=wc:=dR.symm;go_upto_block 2 with fail;have ao:=A_ (show ∃ q r:Int,Value.int .i64 c7=.int .i64 q/\Value.int .i64 (top - c7*J)=.int .i64 r/\0<=q/\q<=999999999/\0<=r/\r<=999999999999999999/\Hid (r=top - q*J)/\Hid (val zs<(q+1)*(val vs*pw j))from⟨_,_,rfl,rfl,a0,b7,oM,oM,rfl,b8.o⟩);clear a0 b7 dl dm b8 dI dJ aH cb cc cx cy;go_cut [15] (λs15 wx=>(∃ q:Int,s15=.int .i64 q/\(0<=q/\q<=999999999)/\Hid (val zs<(q+1)*(val vs*pw j))/\Hid ((q - 1)*(val vs*pw j)<=val zs))/\Bw aV wx);case first =>
       go_wp2_with fail;go_loopw [15,16] (λsq sr wr=>(∃ q r:Int,sq=.int .i64 q/\sr=.int .i64 r/\0<=q/\q<=999999999/\0<=r/\r<=999999999999999999/\Hid (r=top - q*J)/\Hid (val zs<(q+1)*(val vs*pw j)))/\Bw aV wr) (λsq sr wr=>(intOf sq).toNat);case atStart=>exact⟨ao,Below.refl _ _⟩
       case round =>
        obtain⟨⟨q,rest,rfl,rfl,Y,aU,cM,bJ,bK,cL⟩,a5⟩:=hrel;have aO:=A_ (I_ aN a5);have aP:=A_ (I_ ap a5);have a6:=A_ a5;clear aN ap bs bA a5;obtain⟨cx,aH,_⟩:=A0t aO b0;obtain⟨cy,cc,_⟩:=A0t aP b4;rw[show j+p=j+(p+2) - 2 by omega]at aH;obtain⟨d6,d7⟩:=C0c Y (by omega:q<1000000000) cX cY;by_cases bc:rest<1000000000
        ·by_cases ax:rest*1000000000+u0<q*da
         ·have ea:0<q:=by
           rcases Int.lt_or_le 0 q with h | h
           ·exact h
           have:q=0:=by omega
           subst this
           omega
          have ak:=A_ (show (intOf (.int .i64 (q - 1))).toNat<(intOf (.int .i64 q)).toNat by simp[intOf];omega)
          have bd:=A_ (K.step Y bK ax)
          have aa:=A_ (show 0≤q - 1∧q - 1≤999999999∧0≤rest+J∧rest+J≤999999999999999999 by omega)
          go_wp2_with fail
          refine A0g ?_
          iterate 22 refine C_ _ ?_
          intro bf bh dc u G (aj:Hid _)
          simp at G
          go_simp
          clear G aj
          obtain ⟨_,cb,_⟩:=A0t (I_ aP u) b3
          go_wp2_with fail
          have ar:=A_ u
          clear u
          first
          | exact ⟨⟨⟨q - 1,rest+J,rfl,rfl,aa.1,aa.2.1,aa.2.2.1,aa.2.2.2,bd.1,bd.2⟩,Below.next a6 ar⟩,ak⟩
          |exact⟨by(repeat apply Exists.intro);exact⟨⟨⟨q - 1,rest+J,rfl,rfl,aa.1,aa.2.1,aa.2.2.1,aa.2.2.2,bd.1,bd.2⟩,Below.next a6 ar⟩,rfl⟩,ak⟩
         ·have bm:=A_ (K.o.last Y aU bK.o (.inr (by omega)))
          go_wp2_with fail;refine A0g ?_;iterate 22 refine C_ _ ?_
          intro bf bh dc u G (aj:Hid _);simp at G;go_simp;clear G aj;go_wp2_with fail;have ar:=A_ u;clear u;go_meet;exact⟨⟨_,rfl,⟨Y,aU⟩,cL,bm⟩,Below.next a6 ar⟩
        have bm:=A_ (K.o.last Y aU bK.o (.inl oM));go_wp2_with fail;refine A0g ?_;iterate 3 refine C_ _ ?_
        iterate 18 apply A4m;case h =>intro bf bh en u G;simp at G;go_simp;first|done|(simp[undef];done)
        refine C_ _ ?_;intro bf bh dc u G (aj:Hid _);simp at G;go_simp;clear G aj;go_wp2_with fail;have ar:=A_ u;clear u;go_meet;exact⟨⟨_,rfl,⟨Y,aU⟩,cL,bm⟩,Below.next a6 ar⟩
      case rest =>
       obtain⟨⟨q,rfl,⟨Y,aU⟩,dj,di⟩,aQ⟩:=hcut;have aO:=A_ (I_ aN aQ);have aP:=A_ (I_ ap aQ);have bt:=A_ (I_ bs aQ);have cu:=A_ (Below.next bA aQ);clear aN ap bs bA aQ ao cX cY;obtain⟨dV,cQ⟩:=A7v aP Z.i64;have de:=A_ cQ;clear cQ;have cB:j+(p+2)+1<=p+2+l+1:=oM;have ch:p+2+l+1<=1048576:=oM;have c9:∀ bn o,some (⟨H.1.size,0,none⟩:Addr)=some ⟨bn,o,none⟩->bn≠D.1.size:=by intro bn o e;cases e;omega
       have bZ:=A_ c9;clear c9;obtain⟨ej,cH,_,_⟩:=am.o.num (j:=j) (by rw[A2n bt.o];omega);have bY:=A_ cH;clear cH;have cE:j<b.length:=by rw[A2n bt.o];omega
       have bW:=A_ cE;clear cE;have cd:p+2+1=j+(p+2)+1 - j:=oM;have bT:=A_ cd;clear cd;have ak:=A_ (by simp[intOf]:(intOf (.int .i64 ((j:Int) - 1))+1).toNat<(intOf (.int .i64 (j:Int))+1).toNat);have be:j<=l+1:=oM;go_wp2_with fail;have C:=C9e (some ⟨H.1.size,0,none⟩) D.1.size D.1.size (p+2+l+1) (p+2+l+1) j (p+2) (p+2+l+1 - j) (p+2) zs vs dV q wc aO.o W.o cB ch de.o Z.o bZ.o Y oM;rw[bT.o]at C;refine C.mono ?_;clear C;rintro _ bR ⟨bg,r,rfl,dH,aM,cV,cF⟩;have bv:=A_ (World.ownsRow.kept aP.o aM.grown (.inr (by simp[Value.ownBlock];omega)));have af:=A_ (World.ownsRow.kept bt.o aM.grown (.inr (by simp[Value.ownBlock];omega)));have ah:=A_ (cu.grown aM.grown cu.size (by intro k E;cases E;exact cO));have ae:=A_ aM;have al:=A_ cF;have bi:=A_ cV;clear aM cF cV;rcases dH with rfl|rfl
       ·have F:=A_ (K.done0 dj al bi)
        have aA:=A_ (A3a af j q);have ad:=A_ (World.ownsRow.stored af j (.int .i64 q)).2;have aB:=A_ (World.ownsRow.kept ae.o.row ad.o (.inr (by simp[Value.ownBlock];omega)));have aC:=A_ (World.ownsRow.kept bv.o ad.o (.inr (by simp[Value.ownBlock];omega)));have aD:=A_ (ah.grown ad ah.size (by intro k E;cases E;omega));have aE:=A_ (am.o.set j Y (by omega:q<1000000000));have aF:=A_ (E0h bW bP F.1);obtain⟨dA,dn,dr⟩:=A0t af bY;go_wp2_with fail;first
        |exact⟨⟨j,bg,b.set j q,be,rfl,aB,aC,aA,al,aE,aF,F.2,aD⟩,ak⟩
        |exact⟨by(repeat apply Exists.intro);exact⟨⟨j,bg,b.set j q,be,rfl,aB,aC,aA,al,aE,aF,F.2,aD⟩,rfl⟩,ak⟩
       ·obtain⟨dW,cR⟩:=A7v bv Z.i64
        have df:=A_ cR;clear cR;go_wp2_with fail;have C:=D3g (some ⟨H.1.size,0,none⟩) D.1.size D.1.size (p+2+l+1) (p+2+l+1) j (p+2) (p+2+l+1 - j) (p+2) bg vs dW bR ae.row al cB ch df Z bZ;rw[bT.o]at C;refine C.mono ?_;clear C;rintro _ db ⟨dd,d1,rfl,au,ag,cW,bG⟩;have F:=A_ (K.o.done1 di.o al.o bi.o (by rw[A2n ae.o.row,A2n aO.o]) (λk E=>ae.o.o k (.inr E)) bG au cW (by rw[A2n ag.row,A2n ae.o.row]) (λk E=>ag.o k (.inr E)));have dw:=A_ (World.ownsRow.kept bv.o ag.grown (.inr (by simp[Value.ownBlock];omega)));have aL:=A_ (World.ownsRow.kept af.o ag.grown (.inr (by simp[Value.ownBlock];omega)));have a4:=A_ (ah.grown ag.grown ah.size (by intro k E;cases E;exact cO));have dg:=A_ ag;have bX:=A_ bG;clear ag bG cW au;have dG:0<=q - 1:=by
         rcases Int.lt_or_le 0 q with h | h;·omega
         have aK:q=0:=by omega
         have I:=bi.o;have X:=K.lt;have a1:=F.o;subst aK;have bp:=S_ W;have bq:val bg<pw (j+(p+2)+1):=by have br:=C6i W al (i:=j+p+3) (by have:=K.zl;omega) (by rw[A2n ae.o.row,A2n aO.o]) (fun k E=>ae.o.o k (.inr (by omega))) X;rwa [show j+p+3=j+(p+2)+1 by omega]at br
         rw[Int.zero_mul,Int.mul_zero] at I;omega
        have aA:=A_ (A3a aL j (q - 1));have ad:=A_ (World.ownsRow.stored aL j (.int .i64 (q - 1))).2;have aB:=A_ (World.ownsRow.kept dg.o.row ad.o (.inr (by simp[Value.ownBlock];omega)));have aC:=A_ (World.ownsRow.kept dw.o ad.o (.inr (by simp[Value.ownBlock];omega)));have aD:=A_ (a4.grown ad a4.size (by intro k E;cases E;omega));have aE:=A_ (am.o.set j dG (by omega:q - 1<1000000000));have aF:=A_ (E0h bW bP F.1);obtain⟨dA,dn,dr⟩:=A0t aL bY;go_wp2_with fail;first
        |exact⟨⟨j,dd,b.set j (q - 1),be,rfl,aB,aC,aA,bX,aE,aF,F.2,aD⟩,ak⟩
        |exact⟨by(repeat apply Exists.intro);exact⟨⟨j,dd,b.set j (q - 1),be,rfl,aB,aC,aA,bX,aE,aF,F.2,aD⟩,rfl⟩,ak⟩
  ·obtain rfl:m=1:=oM
   obtain⟨b2,o2,y,rfl,a7,ay,_,aR⟩:=Sl.getInt aW.o (by omega:0<1);have c1:=ac.1.get ay;have bU:=A_ (show val ys=y by have X:=Y_ ay;rw[List.take_of_length_le (Nat.le_of_eq an.o)]at X;rw[X,List.take_zero,B0q];simp[val]);have c0:0<y:=by have:=b5.o;rw[bU.o]at this;exact this
   have dS:=c1.2;have bE:=(S.cell (p:=⟨b2,o2+0,none⟩) a7).trans aR;simp only[Nat.add_zero]at bE;clear aR c1 ay a8 aw I;go_wp2_with fail;refine(B7n A n c xs aG y D (Sl.below az S) ab.1 c0 dS (Nat.le_trans cG dE)).mono ?_;rintro _ H ⟨v2,rfl,aT,aq⟩;have cM:0<=val xs % y:=Int.emod_nonneg _ oM;have bJ:val xs % y<1000000000:=by have:=Int.emod_lt_of_pos (val xs) c0;omega
   go_wp2_with fail;refine(C9q (val xs % y) H cM oM).mono ?_;rintro _ w3 ⟨el,rfl,cI,a3⟩;have bz:Bw w w3:=Below.go;go_wp2;go_ret2;rw[bU.o];exact B1d (I_ aT a3) cI (A0j _).1.i64 (A0j _).1.i64 S.size (Nat.le_trans S.size aq.size) (B8h aT cI) bz
end Go.Proofs.YtbhemnidcleaiaaGreat.X
