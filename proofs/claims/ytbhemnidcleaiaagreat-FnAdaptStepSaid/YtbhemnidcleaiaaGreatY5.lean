/- A part of the proof. -/
import Derived.Test.YtbhemnidcleaiaaGreatY2
import Derived.Lib.SliceRun
set_option linter.constructorNameAsVariable false
set_option maxHeartbeats 16000000
set_option maxRecDepth 10000
namespace Go.Proofs.YtbhemnidcleaiaaGreat.X
open Go.RowKit Go.XB Go.XN Proofs.Tryz
attribute [local go_sem] L_ opAt N_ M_ Region.wanted yielded
attribute [local simp] N_ M_ MP.eq A0r
theorem _root_.kR {p:Prop} (h:p:=by kernel_rfl):p:=h
theorem A6b:(prog.info? 3).map (λi=>(i.zero,i.size,i.bytes))=some (some (.int .i64 0),1,8):=kR

theorem B2k (x y:Int) (w:World):Calls prog 131 #[.int .i64 x,.int .i64 y] w (A0b w (.int .i64 (sgn (x - y)))):=by
 rcases Int.lt_trichotomy x y with b|b|b;·have e:=A_ (by unfold sgn;rw[if_pos oM]:sgn (x - y) = -1);go_enter func131,ntmps131;go_wp2;go_ret;exact⟨A1x e.symm,Below.go⟩
 ·have e:=A_ (by unfold sgn;rw[if_neg oM,if_neg oM]:sgn (x - y)=0);subst b;go_enter func131,ntmps131;go_wp2;go_ret;exact⟨A1x e.symm,Below.go⟩
 have e:=A_ (by unfold sgn;rw[if_neg oM,if_pos oM]:sgn (x - y)=1);have h:¬ x<y:=oM;go_enter func131,ntmps131;go_wp2;go_ret;exact⟨A1x e.symm,Below.go⟩

def E3x:Value->Nat | .slice _ n _=>n|_=>0

theorem D1x (A:Option Addr) (n c:Nat) (xs:List Int) (X:List Nat) (w:World) (u:Sl w A n c xs X) :
  Calls prog 128 #[.slice A n c] w (A0b w (.slice A (trim xs).length c)):=by
 have ag:n<=c:=u.2.1;have Y:c<=maxLen:=u.2.2.1;unfold maxLen at Y;have G:=A_ u.1;have W:=A_ u;clear u;go_enter func128,ntmps128;go_wp2;go_loopw [0] (λs wr=>∃ k:Nat,k<=n/\s=.slice A k c/\Hid (trim (xs.take k)=trim xs)/\Bw w wr) (λs wr=>E3x s);case atStart=>exact⟨n,Nat.le_refl _,rfl,by rw[List.take_of_length_le (Nat.le_of_eq G.o)];rfl,Below.refl _ _⟩
 case round =>
  obtain⟨k,af,rfl,E,h⟩:=hrel;rcases Nat.eq_zero_or_pos k with J|J;·subst J;go_wp2;go_ret;refine⟨?_,h⟩;rw[<-E.o];rfl
  obtain⟨j,rfl⟩:∃ j,k=j+1:=⟨k - 1,oM⟩
  obtain⟨I,O,x,rfl,ab,K,_,ac⟩:=Sl.getInt (Sl.below W.o h) (by omega:j<n);have H:=A_ K;clear K;have ad:(j:Int)+1<=c:=oM;by_cases b:x=0
  ·have aa:(x==0)=true:=by simp[b]
   have D:=A_ (by rw[<-E.o,take_step H.o,b,B1k]:trim (xs.take j)=trim xs);clear b;have ae:j<=c:=oM;have T:E3x (.slice (some ⟨I,O,none⟩) j c)<E3x (.slice (some ⟨I,O,none⟩) (j+1) c):=Nat.lt_succ_self j;have S:j<=n:=oM;go_wp2;first
   |exact⟨⟨j,S,rfl,D,h⟩,T⟩
   |exact⟨by(repeat apply Exists.intro);exact⟨⟨j,S,rfl,D,h⟩,rfl⟩,T⟩
  have aa:(x==0)=false:=by simp[b]
  have D:=A_ (by rw[<-E.o,take_step H.o,C0p b]:trim xs=xs.take (j+1));clear b;go_wp2;go_ret;refine⟨?_,h⟩;have Z:(trim xs).length=j+1:=by rw[D.o,List.length_take];have:=G.o;omega
  rw[Z];rfl

theorem _root_.Go.XN.Lims.i64 {l:List Int} (h:Lims l):∀ x∈l,I64 x:=λx hx=>by have:=h x hx;unfold I64;omega
theorem D0g (q:Int) (h:0<=q):((q.toNat % 1000000000:Nat):Int)=q % 1000000000/\q.toNat / 1000000000=(q / 1000000000).toNat:=oM

theorem _root_.iH {p:Prop} (h:p:=by simp at hx;subst hx;rfl):p:=h
theorem C9q (N:Int) (w:World) (E:0<=N) (G:N<=18446744073709551615):Calls prog 122 #[.int .u64 N] w (B3k w 3 (dig N.toNat)):=by
 have I:(dig N.toNat).length<=3:=A4r (by rw[pw_vals.2.2];omega);obtain⟨ai,ac,af,ag,ah⟩:=info_parts A6b;have aa:=A_ I;clear I;go_enter func122,ntmps122;go_wp2;go_loopw [0,3] (λm v wr=>∃ (q:Int) (b:List Int),m=.int .u64 q/\wr.ownsRow w.1.size 3 1 v b.length (b.map (.int .i64))/\Hid (dig N.toNat=b++dig q.toNat)/\0<=q/\q<=18446744073709551615/\Bw w wr) (λm v wr=>(intOf m).toNat);case atStart=>exact⟨N,[],rfl,World.ownsRow_made w #[] 0 (Nat.le_refl _) (Nat.zero_le _) rfl,rfl,E,G,Below.go⟩
 case round =>
  obtain⟨q,b,rfl,D,u,K,al,h⟩:=hrel;have ad:b.length<=3:=by have:=aa.o;rw[u.o,List.length_append]at this;omega
  by_cases ak:0<q
  ·have X:=A_ (by unfold maxLen;omega:b.length+1<=maxLen)
   have Y:=A_ (by omega:(b.length+1)*8<=140737488355328);have Z:=A_ h.size;have O:=A_ (by rw[u.o,B9g oM,(D0g q K).1,(D0g q K).2];simp:dig N.toNat=(b++[q % 1000000000])++dig (q / 1000000000).toNat);have S:=A_ (by omega:0<=q / 1000000000);have T:=A_ (by omega:q / 1000000000<=18446744073709551615);have W:=A_ (by simp[intOf];omega:(intOf (.int .u64 (q / 1000000000))).toNat<(intOf (.int .u64 q)).toNat);clear E G ad;go_wp2_with (first|(at_builtin;refine wpList_append_own _ rfl _ _ 31 rfl w.1.size 3 ai (.int .i64 0) 1 8 underlying31 ac af ag ah rfl dE _ _ _ rfl (D.alloc _) ⟨wr.1.size,0,none⟩ 1 1 [.int .i64 (q % 1000000000)] rfl rfl (cell_one_new _ _ _) (λx hx=>iH) X Y (A1a Z _) ?_;intro am w3 J ab aj));have H:=A2o h D ab;first
   |exact⟨⟨q / 1000000000,b++[q % 1000000000],rfl,A1t J,O,S,T,H⟩,W⟩
   |exact⟨by(repeat apply Exists.intro);exact⟨⟨q / 1000000000,b++[q % 1000000000],rfl,A1t J,O,S,T,H⟩,rfl⟩,W⟩
  have ae:q=0:=oM;subst ae;go_wp2;go_ret;have e:=u.o;rw[show dig (Int.toNat 0)=[]from rfl,List.append_nil]at e;rw[e];exact⟨_,rfl,D,h⟩

theorem B3p (N:Int) (w:World) (h0:0<=N) (h1:N<=18446744073709551615):Calls prog 122 #[.int .u64 N] w (A0w w (dig N.toNat)) :=
 (C9q N w h0 h1).mono λ_ _ ⟨_,he,ho,hb⟩=>by subst he;exact A2r ho rfl (A0j _).1.i64 hb

theorem B2q {a b:Int} (h:a<b):sgn (a - b) = -1:=by unfold sgn;rw[if_pos oM]
theorem C1l {a b:Int} (h:b<a):sgn (a - b)=1:=by unfold sgn;rw[if_neg oM,if_pos oM]

theorem A9u (A B:Option Addr) (n m c d:Nat) (xs ys:List Int) (ax ay:List Nat) (w:World) (H:Sl w A n c xs ax) (X:Sl w B m d ys ay) (ai:XN.Can xs) (aj:XN.Can ys) :
  Calls prog 125 #[.slice A n c,.slice B m d] w (A0b w (.int .i64 (sgn (val xs - val ys)))):=by
 have J:=A_ H.1;have K:=A_ X.1;have aD:c<=maxLen:=H.2.2.1;have aQ:n<=c:=H.2.1;unfold maxLen at aD;have au:=A_ H;have aw:=A_ X;have O:=A_ ai;have S:=A_ aj;clear H X ai aj;go_enter func125,ntmps125;by_cases al:n=m
 ·subst al
  go_wp2;go_loopw [4,5] (λr s wr=>∃ i:Int,-1<=i/\i<n/\s=.int .i64 i/\Hid (xs.drop (i+1).toNat=ys.drop (i+1).toNat)/\Bw w wr) (λr s wr=>(intOf s+1).toNat);case atStart =>refine⟨(n:Int) - 1,oM,oM,rfl,?_,Below.refl _ _⟩;have e:((n:Int) - 1+1).toNat=n:=oM;rw[e];show xs.drop n=ys.drop n;rw[List.drop_eq_nil_of_le (Nat.le_of_eq J.o),List.drop_eq_nil_of_le (Nat.le_of_eq K.o)]
  case round =>
   obtain⟨i,aO,aE,rfl,b,G⟩:=hrel;rcases Int.lt_or_le i 0 with aB|aB;·have aC:i = -1:=oM;subst aC;go_wp2;go_ret;have e:=b.o;rw[show(-1+1:Int).toNat=0 from rfl,List.drop_zero,List.drop_zero]at e;refine⟨A1x ?_,G⟩;rw[e];unfold sgn;simp
   obtain⟨j,rfl⟩:∃ j:Nat,i=j:=⟨i.toNat,oM⟩
   have ak:j<n:=oM;obtain⟨b1,o1,x,rfl,ae,am,aR,ag⟩:=Sl.getInt (Sl.below au G) ak;obtain⟨b2,o2,y,rfl,af,an,aS,ah⟩:=Sl.getInt (Sl.below aw G) ak;have aa:=A_ am;have ab:=A_ an;clear am an;have ac:=A_ (by omega:(((j:Int)+1).toNat=j+1));have ar:=A_ (B8r O.1 S.1 aa ab (by have:=b.o;rwa [ac.o]at this) (by rw[J.o,K.o]));have aP:(j:Int)<n:=aE;have T:=b;clear b;by_cases D:x=y
   ·have E:=A_ (by simp[D]:(x != y)=false)
    have r:=A_ (show xs.drop ((j:Int) - 1+1).toNat=ys.drop ((j:Int) - 1+1).toNat by rw[show((j:Int) - 1+1).toNat=j by omega];obtain⟨aF,az⟩:=List.getElem?_eq_some_iff.1 aa;obtain⟨aG,aA⟩:=List.getElem?_eq_some_iff.1 ab;rw[List.drop_eq_getElem_cons aF,List.drop_eq_getElem_cons aG,az,aA,D];have:=T.o;rw[ac.o]at this;rw[this]);clear D T;go_wp2_with fail;refine A0g ?_;iterate 9 refine C_ _ ?_
    intro Y Z wa u b (W:Hid _);simp at b;go_simp;have E:=E.o;go_wp2_with fail;have ad:Bw w wa:=Below.go;have ao:(-1:Int)<=(j:Int) - 1:=oM;have ap:(j:Int) - 1<n:=oM;have aq:(intOf (Value.int IntKind.i64 ((j:Int) - 1))+1).toNat<(intOf (Value.int IntKind.i64 (j:Int))+1).toNat:=by simp[intOf]
    first
    |exact⟨⟨(j:Int) - 1,ao,ap,rfl,r,ad⟩,aq⟩
    |exact⟨by(repeat apply Exists.intro);exact⟨⟨(j:Int) - 1,ao,ap,rfl,r,ad⟩,rfl⟩,aq⟩
   have E:=A_ (by simp[D]:(x != y)=true);have aH:=A_ D;clear D T;go_wp2_with fail;refine A0g ?_;iterate 9 refine C_ _ ?_
   intro Y Z wa u b (W:Hid _);simp at b;go_simp;have E:=E.o;have I:=u;clear u b W;have aK:=((F_ I).1 b1 (o1+j) ae).trans ag;have aL:=((F_ I).1 b2 (o2+j) af).trans ah;have aI:b1<wa.1.size:=by have:=I.size;omega
   have aJ:b2<wa.1.size:=by have:=I.size;omega
   clear ag ah ae af;go_wp2_with fail;refine A0g ?_;iterate 8 refine C_ _ ?_
   refine D_ (MP.eq (.int .i64 (sgn (x - y)))) ?_ ?_;·intro Y Z aU u b;obtain⟨aM,aN⟩:=F_ u;simp at b;refine G_ ?_;exact A0i (B2k _ _ _)
   refine C_ _ ?_;intro Y Z wb u b (W:Hid _);simp at b;go_simp;go_wp2_with fail;go_ret;refine⟨A1x ?_,Below.go⟩;rcases Int.lt_trichotomy x y with h|h|h
   ·rw[B2q h,B2q (ar.o.1 h)]
   ·exact absurd h aH
   rw[C1l h,C1l (ar.o.2 h)]
 have E:((n:Int) != m)=true:=sO;have e:=A_ (show sgn ((n:Int) - m)=sgn (val xs - val ys) by
  rcases Nat.lt_or_ge n m with h|h;·rw[B2q oM,B2q (XN.Can.lt_of_len O.o.1 S.o (by rw[J.o,K.o];exact h))]
  rw[C1l oM,C1l (XN.Can.lt_of_len S.o.1 O.o (by rw[J.o,K.o];omega))])
 clear al;go_wp2_with fail;refine(B2k _ _ _).mono ?_;rintro _ aT ⟨rfl,G⟩;go_wp2_with fail;go_ret;exact⟨A1x e,G⟩

theorem B6m (A:Option Addr) (n c:Nat) (xs:List Int) (W:List Nat) (w:World) (h:Sl w A n c xs W) (I:n<=1048576) :
  Calls prog 121 #[.slice A n c] w (B3k w 3 xs):=by
 obtain⟨aa,H,J,K,O⟩:=info_parts A6b;cases A with
 |none =>
  have G:n=0:=by
   rcases Nat.eq_zero_or_pos n with D|D;·exact D
   obtain⟨_,_,_,e,_⟩:=h.2.2.2.2 D;cases e
  have Z:xs=[]:=List.eq_nil_of_length_eq_zero (h.1.trans G)
  clear h H J K O I
  subst G;subst Z
  have q1:∀ (w:World) (a:Option Addr) (n c b c':Nat),(binOp .eql 31 (.slice a n c) (.slice none b c')).run prog w=.ok (.bool a.isNone) w:=λw a n c b c'=>Lib.run_eql_slice_nil w _ _ a n c b c' underlying31
  go_enter func121,ntmps121
  go_wp2
  go_ret
  exact⟨_,rfl,World.ownsRow_nil _ _ _ _,Below.refl _ _⟩
 |some a =>
  have S:=A_ (by unfold maxLen;omega:0+n<=maxLen)
  have T:=A_ (by omega:(0+n)*8<=140737488355328)
  have u:=A_ h
  clear h I
  have q1:∀ (w:World) (a:Option Addr) (n c b c':Nat),(binOp .eql 31 (.slice a n c) (.slice none b c')).run prog w=.ok (.bool a.isNone) w:=λw a n c b c'=>Lib.run_eql_slice_nil w _ _ a n c b c' underlying31
  go_enter func121,ntmps121
  go_wp2_with (at_builtin;(refine wpList_append_own _ rfl _ _ 31 rfl w.1.size 3 aa (.int .i64 0) 1 8 underlying31 H J K O rfl dE _ 0 [] rfl (World.ownsRow_made w #[] 0 (Nat.le_refl _) (Nat.zero_le _) rfl) a n c (xs.map (.int .i64)) rfl (by rw[List.length_map,u.o.1,Nat.mul_one]) (Sl.cellsInt (Sl.below u.o Below.go)) (D4k xs) S.o T.o (A1a (Nat.le_refl _) _) ?_);intro ac w3 E Y ab)
  have X:Bw w w3:=((Below.refl _ w).alloc (Nat.le_refl _) _).grown Y (A1a (Nat.le_refl _) _) (B0b (World.ownsRow_made (e:=31) (size:=1) w #[] 0 (Nat.le_refl _) (Nat.zero_le _) rfl))
  go_wp2
  go_ret
  have e:0+n=n:=Nat.zero_add n
  rw[e]at E
  rw[<-u.o.1]at E
  exact⟨_,rfl,E,X⟩

theorem A9d (A:Option Addr) (n c:Nat) (xs:List Int) (bs:List Nat) (w:World) (hx:Sl w A n c xs bs) (hn:n<=1048576) :
  Calls prog 121 #[.slice A n c] w (A0w w xs) :=
 (B6m A n c xs bs w hx hn).mono λ_ _ ⟨_,he,ho,hb⟩=>by subst he;exact A2r ho rfl (Sl.i64 hx) hb

theorem D5r (A B:Option Addr) (n m c d:Nat) (xs ys:List Int) (aX aY:List Nat) (w:World) (hx:Sl w A n c xs aX) (aR:Sl w B m d ys aY) (aV:XN.Can xs) (aW:XN.Can ys) (ap:n<=1048576) (ao:m<=1048576) :
  Calls prog 124 #[.slice A n c,.slice B m d] w (A0w w (dig (val xs+val ys).toNat)):=by
 obtain⟨W,ae,af,ag,ah⟩:=info_parts A6b;have aA:=A_ hx.1;have aB:=A_ aR.1;have aT:=A_ hx;have aU:=A_ aR;have aE:=A_ aV;have aF:=A_ aW;clear hx aR aV aW;go_enter func124,ntmps124;rcases Nat.lt_or_ge n m with a7|a7
 ·have b2:=A_ (by rw[ah];omega:W.bytes*(m+1)<=281474976710656)
  have aH:=A_ (by unfold maxLen;omega:m+1<=maxLen);have aj:=A_ (by omega:m<=1048576);skip;have aK:=A_ (S_ aE.1);go_wp2_with (at_make;(refine wpList_make_own _ rfl _ _ 31 rfl w.1.size 3 W (.int .i64 0) 1 underlying31 ae af ag .i64 .i64 _ (m+1) rfl rfl rfl b2 aH (Nat.le_refl _) ?_);intro bd aP ax);have aL:=(Below.refl w.1.size w).grown ax (Nat.le_refl _) (by intro k ay;cases ay);clear ax;go_loopw [5,6,22] (λv y i wr=>∃ (k:Nat) (b:Int) (h:List Int),k<=m/\0<=b/\b<=1/\i=.int .i64 k/\y=.int .i64 b/\wr.ownsRow w.1.size 3 1 v h.length (h.map (.int .i64))/\Hid (h.length=k)/\Hid (Lims h)/\Hid (val h+pw k*b=val (ys.take k)+val (xs.take k))/\Bw w wr) (λv y i wr=>m - (intOf i).toNat);case atStart=>exact⟨0,0,[],Nat.zero_le _,oM,oM,rfl,rfl,aP,rfl,Lims.nil,by simp[Hid,val,B0q],aL⟩
  case round =>
   obtain⟨k,b,h,ay,aN,a4,rfl,rfl,G,K,ai,ak,u⟩:=hrel;rcases Nat.lt_or_ge k m with E|E
   ·have a6:(k:Int)<m:=oM
    obtain⟨b1,o1,x,aI,aZ,al,aQ,a2⟩:=Sl.getInt (Sl.below aU u) E;have am:=aF.1.get al;subst aI;have aq:=A_ al;have a8:=am.1;have a9:=am.2;clear al am aQ;have ad:h.length<=1048576:=by rw[K.o];have:=aj.o;omega
    have X:=A_ (by unfold maxLen;omega:h.length+1<=maxLen);have Y:=A_ (by omega:(h.length+1)*8<=140737488355328);have Z:=A_ u.size;have a5:(k:Int)<=1048576:=by have:=aj.o;omega
    have aa:k+1<=m:=E;have ac:=A_ (by intro x;rw[List.length_append,K.o];rfl:∀ x:Int,(h++[x]).length=k+1);rcases Nat.lt_or_ge k n with ab|ab
    ·obtain⟨b2,o2,y,aJ,a1,an,aS,a3⟩:=Sl.getInt (Sl.below aT u) ab
     have I:=aE.1.get an;subst aJ;have aG:=A_ an;have ba:=I.1;have bc:=I.2;clear an I aS;have az:(k:Int)<n:=oM;have ar:0<=(x+b+y) / 1000000000:=oM;have au:(x+b+y) / 1000000000<=1:=oM;have O:=A_ ar;have S:=A_ au;have L:=A_ (show Lims (h++[(x+b+y) % 1000000000])from ai.o.snoc oM oM);have r:=A_ (show val (h++[(x+b+y) % 1000000000])+pw (k+1)*((x+b+y) / 1000000000)=val (ys.take (k+1))+val (xs.take (k+1)) by rw[B6f K.o,Y_ aq.o,Y_ aG.o];have:=ak.o;grind);clear ar au ad ap ao;go_wp2_with (first|(at_builtin;refine wpList_append_own _ rfl _ _ 31 rfl w.1.size 3 W (.int .i64 0) 1 8 underlying31 ae af ag ah rfl dE _ _ _ rfl (G.alloc _) ⟨wr.1.size,0,none⟩ 1 1 [.int .i64 ((x+b+y) % 1000000000)] rfl rfl (cell_one_new _ _ _) (λx hx=>iH) X Y (A1a Z _) ?_;intro aD w3 H T aC));have D:=A2o u G T;first
     |exact⟨⟨k+1,(x+b+y) / 1000000000,h++[(x+b+y) % 1000000000],aa,O,S,rfl,rfl,A1t H,ac _,L,r,D⟩,V_ E⟩
     |exact⟨by(repeat apply Exists.intro);exact⟨⟨k+1,(x+b+y) / 1000000000,h++[(x+b+y) % 1000000000],aa,O,S,rfl,rfl,A1t H,ac _,L,r,D⟩,rfl⟩,V_ E⟩
    ·have az:¬ ((k:Int)<n):=oM
     have O:=A_ (by omega:0<=(x+b) / 1000000000);have S:=A_ (by omega:(x+b) / 1000000000<=1);have L:=A_ (show Lims (h++[(x+b) % 1000000000])from ai.o.snoc oM oM);have r:=A_ (show val (h++[(x+b) % 1000000000])+pw (k+1)*((x+b) / 1000000000)=val (ys.take (k+1))+val (xs.take (k+1)) by
      have I:xs.length<=k:=by rw[aA.o];exact ab
      have:=ak.o;rw[List.take_of_length_le I]at this;rw[B6f K.o,Y_ aq.o,List.take_of_length_le (by omega:xs.length<=k+1)];grind)
     clear ab ad ap ao;go_wp2_with (first|(at_builtin;refine wpList_append_own _ rfl _ _ 31 rfl w.1.size 3 W (.int .i64 0) 1 8 underlying31 ae af ag ah rfl dE _ _ _ rfl (G.alloc _) ⟨wr.1.size,0,none⟩ 1 1 [.int .i64 ((x+b) % 1000000000)] rfl rfl (cell_one_new _ _ _) (λx hx=>iH) X Y (A1a Z _) ?_;intro aD w3 H T aC));have D:=A2o u G T;first
     |exact⟨⟨k+1,(x+b) / 1000000000,h++[(x+b) % 1000000000],aa,O,S,rfl,rfl,A1t H,ac _,L,r,D⟩,V_ E⟩
     |exact⟨by(repeat apply Exists.intro);exact⟨⟨k+1,(x+b) / 1000000000,h++[(x+b) % 1000000000],aa,O,S,rfl,rfl,A1t H,ac _,L,r,D⟩,rfl⟩,V_ E⟩
   have aO:k=m:=oM;subst aO;have J:=A_ (show(if 0<b then h++[b]else h)=dig (val xs+val ys).toNat by
    have I:xs.length<=k:=by rw[aA.o];omega
    have:=ak.o;rw[List.take_of_length_le I,List.take_of_length_le (Nat.le_of_eq aB.o)]at this;have:=D9p aF.o ai.o (by rw[K.o,aB.o]) (by rw[aB.o];exact this) aK.o aN oM;rw[this];rw[Int.add_comm])
   have az:¬ ((k:Int)<k):=oM;have ad:h.length<=1048576:=by rw[K.o];exact aj
   have X:=A_ (by unfold maxLen;omega:h.length+1<=maxLen);have Y:=A_ (by omega:(h.length+1)*8<=140737488355328);have Z:=A_ u.size;clear ad ap ao;rcases Int.lt_or_le 0 b with aw|aw
   ·rw[if_pos aw]at J;go_wp2_with (first|(at_builtin;refine wpList_append_own _ rfl _ _ 31 rfl w.1.size 3 W (.int .i64 0) 1 8 underlying31 ae af ag ah rfl dE _ _ _ rfl (G.alloc _) ⟨wr.1.size,0,none⟩ 1 1 [.int .i64 (b)] rfl rfl (cell_one_new _ _ _) (λx hx=>iH) X Y (A1a Z _) ?_;intro aD w3 H T aC));have D:=A2o u G T;go_wp2;go_ret;rw[<-J.o];refine A2r (A1t H) rfl ?_ D;rw[J.o];exact(A0j _).1.i64
   have aM:b=0:=oM;subst aM;rw[if_neg oM]at J;go_wp2;go_ret;rw[<-J.o];refine A2r G rfl ?_ u;rw[J.o];exact(A0j _).1.i64
 have b2:=A_ (by rw[ah];omega:W.bytes*(n+1)<=281474976710656);have aH:=A_ (by unfold maxLen;omega:n+1<=maxLen);have aj:=A_ (by omega:n<=1048576);have be:¬ ((n:Int)<m):=oM;have aK:=A_ (S_ aF.1);go_wp2_with (at_make;(refine wpList_make_own _ rfl _ _ 31 rfl w.1.size 3 W (.int .i64 0) 1 underlying31 ae af ag .i64 .i64 _ (n+1) rfl rfl rfl b2 aH (Nat.le_refl _) ?_);intro bd aP ax);have aL:=(Below.refl w.1.size w).grown ax (Nat.le_refl _) (by intro k ay;cases ay);clear ax;go_loopw [5,6,22] (λv y i wr=>∃ (k:Nat) (b:Int) (h:List Int),k<=n/\0<=b/\b<=1/\i=.int .i64 k/\y=.int .i64 b/\wr.ownsRow w.1.size 3 1 v h.length (h.map (.int .i64))/\Hid (h.length=k)/\Hid (Lims h)/\Hid (val h+pw k*b=val (xs.take k)+val (ys.take k))/\Bw w wr) (λv y i wr=>n - (intOf i).toNat);case atStart=>exact⟨0,0,[],Nat.zero_le _,oM,oM,rfl,rfl,aP,rfl,Lims.nil,by simp[Hid,val,B0q],aL⟩
 case round =>
  obtain⟨k,b,h,ay,aN,a4,rfl,rfl,G,K,ai,ak,u⟩:=hrel;rcases Nat.lt_or_ge k n with E|E
  ·have a6:(k:Int)<n:=oM
   obtain⟨b1,o1,x,aI,aZ,al,aQ,a2⟩:=Sl.getInt (Sl.below aT u) E;have am:=aE.1.get al;subst aI;have aq:=A_ al;have a8:=am.1;have a9:=am.2;clear al am aQ;have ad:h.length<=1048576:=by rw[K.o];have:=aj.o;omega
   have X:=A_ (by unfold maxLen;omega:h.length+1<=maxLen);have Y:=A_ (by omega:(h.length+1)*8<=140737488355328);have Z:=A_ u.size;have a5:(k:Int)<=1048576:=by have:=aj.o;omega
   have aa:k+1<=n:=E;have ac:=A_ (by intro x;rw[List.length_append,K.o];rfl:∀ x:Int,(h++[x]).length=k+1);rcases Nat.lt_or_ge k m with ab|ab
   ·obtain⟨b2,o2,y,aJ,a1,an,aS,a3⟩:=Sl.getInt (Sl.below aU u) ab
    have I:=aF.1.get an;subst aJ;have aG:=A_ an;have ba:=I.1;have bc:=I.2;clear an I aS;have az:(k:Int)<m:=oM;have ar:0<=(x+b+y) / 1000000000:=oM;have au:(x+b+y) / 1000000000<=1:=oM;have O:=A_ ar;have S:=A_ au;have L:=A_ (show Lims (h++[(x+b+y) % 1000000000])from ai.o.snoc oM oM);have r:=A_ (show val (h++[(x+b+y) % 1000000000])+pw (k+1)*((x+b+y) / 1000000000)=val (xs.take (k+1))+val (ys.take (k+1)) by rw[B6f K.o,Y_ aq.o,Y_ aG.o];have:=ak.o;grind);clear ar au ad ap ao;go_wp2_with (first|(at_builtin;refine wpList_append_own _ rfl _ _ 31 rfl w.1.size 3 W (.int .i64 0) 1 8 underlying31 ae af ag ah rfl dE _ _ _ rfl (G.alloc _) ⟨wr.1.size,0,none⟩ 1 1 [.int .i64 ((x+b+y) % 1000000000)] rfl rfl (cell_one_new _ _ _) (λx hx=>iH) X Y (A1a Z _) ?_;intro aD w3 H T aC));have D:=A2o u G T;first
    |exact⟨⟨k+1,(x+b+y) / 1000000000,h++[(x+b+y) % 1000000000],aa,O,S,rfl,rfl,A1t H,ac _,L,r,D⟩,V_ E⟩
    |exact⟨by(repeat apply Exists.intro);exact⟨⟨k+1,(x+b+y) / 1000000000,h++[(x+b+y) % 1000000000],aa,O,S,rfl,rfl,A1t H,ac _,L,r,D⟩,rfl⟩,V_ E⟩
   ·have az:¬ ((k:Int)<m):=oM
    have O:=A_ (by omega:0<=(x+b) / 1000000000);have S:=A_ (by omega:(x+b) / 1000000000<=1);have L:=A_ (show Lims (h++[(x+b) % 1000000000])from ai.o.snoc oM oM);have r:=A_ (show val (h++[(x+b) % 1000000000])+pw (k+1)*((x+b) / 1000000000)=val (xs.take (k+1))+val (ys.take (k+1)) by
     have I:ys.length<=k:=by rw[aB.o];exact ab
     have:=ak.o;rw[List.take_of_length_le I]at this;rw[B6f K.o,Y_ aq.o,List.take_of_length_le (by omega:ys.length<=k+1)];grind)
    clear ab ad ap ao;go_wp2_with (first|(at_builtin;refine wpList_append_own _ rfl _ _ 31 rfl w.1.size 3 W (.int .i64 0) 1 8 underlying31 ae af ag ah rfl dE _ _ _ rfl (G.alloc _) ⟨wr.1.size,0,none⟩ 1 1 [.int .i64 ((x+b) % 1000000000)] rfl rfl (cell_one_new _ _ _) (λx hx=>iH) X Y (A1a Z _) ?_;intro aD w3 H T aC));have D:=A2o u G T;first
    |exact⟨⟨k+1,(x+b) / 1000000000,h++[(x+b) % 1000000000],aa,O,S,rfl,rfl,A1t H,ac _,L,r,D⟩,V_ E⟩
    |exact⟨by(repeat apply Exists.intro);exact⟨⟨k+1,(x+b) / 1000000000,h++[(x+b) % 1000000000],aa,O,S,rfl,rfl,A1t H,ac _,L,r,D⟩,rfl⟩,V_ E⟩
  have aO:k=n:=oM;subst aO;have J:=A_ (show(if 0<b then h++[b]else h)=dig (val xs+val ys).toNat by
   have I:ys.length<=k:=by rw[aB.o];omega
   have:=ak.o;rw[List.take_of_length_le I,List.take_of_length_le (Nat.le_of_eq aA.o)]at this;have:=D9p aE.o ai.o (by rw[K.o,aA.o]) (by rw[aA.o];exact this) aK.o aN oM;rw[this];skip)
  have az:¬ ((k:Int)<k):=oM;have ad:h.length<=1048576:=by rw[K.o];exact aj
  have X:=A_ (by unfold maxLen;omega:h.length+1<=maxLen);have Y:=A_ (by omega:(h.length+1)*8<=140737488355328);have Z:=A_ u.size;clear ad ap ao;rcases Int.lt_or_le 0 b with aw|aw
  ·rw[if_pos aw]at J;go_wp2_with (first|(at_builtin;refine wpList_append_own _ rfl _ _ 31 rfl w.1.size 3 W (.int .i64 0) 1 8 underlying31 ae af ag ah rfl dE _ _ _ rfl (G.alloc _) ⟨wr.1.size,0,none⟩ 1 1 [.int .i64 (b)] rfl rfl (cell_one_new _ _ _) (λx hx=>iH) X Y (A1a Z _) ?_;intro aD w3 H T aC));have D:=A2o u G T;go_wp2;go_ret;rw[<-J.o];refine A2r (A1t H) rfl ?_ D;rw[J.o];exact(A0j _).1.i64
  have aM:b=0:=oM;subst aM;rw[if_neg oM]at J;go_wp2;go_ret;rw[<-J.o];refine A2r G rfl ?_ u;rw[J.o];exact(A0j _).1.i64

theorem A9y (A:Option Addr) (n c b:Nat) (zs:List Int) (w:World) (h:w.ownsRow b 3 1 (.slice A n c) n (zs.map (.int .i64))) (hi:∀ x∈zs,I64 x) :
  Calls prog 128 #[.slice A n c] w (λe w'=>e=.returned (.slice A (trim zs).length c)/\Bw w w'/\w'.ownsRow b 3 1 (.slice A (trim zs).length c) (trim zs).length ((trim zs).map (.int .i64))):=by
 obtain⟨D,u⟩:=A7v h hi;refine(D1x A n c zs D w u).mono λe w' ⟨he,hb⟩=>⟨he,hb,?_⟩
 have G:zs.length=n:=u.1;have E:(trim zs).length<=n:=by rw[B3n zs,List.length_take];omega
 have:=C6w (I_ h hb) E;rwa [<-B3n]at this

theorem C2l (A B:Option Addr) (n m c d:Nat) (xs ys:List Int) (az aR:List Nat) (w:World) (ak:Sl w A n c xs az) (am:Sl w B m d ys aR) (aG:XN.Can xs) (aH:XN.Can ys) (a3:n<=1048576) (aJ:val ys<=val xs) :
  Calls prog 126 #[.slice A n c,.slice B m d] w (A0w w (dig (val xs - val ys).toNat)):=by
 have ab:=A_ ak.1;have a2:=A_ am.1;have aO:=A_ ak;have aP:=A_ am;have ap:=A_ aG;have aq:=A_ aH;have ar:=A_ aJ;clear ak am aG aH aJ;go_enter func126,ntmps126;go_wp2_with fail;refine(B6m A n c xs az w aO a3).mono ?_;rintro _ bs ⟨v1,rfl,ae,aC⟩;rw[ab.o]at ae;obtain⟨aN,aA,rfl⟩:=C4a ae;go_wp2_with fail;go_loopw [6,12] (λy i wr=>∃ (k:Nat) (bw:Int) (zs b:List Int),k<=n/\0<=bw/\bw<=1/\i=.int .i64 k/\y=.int .i64 bw/\wr.ownsRow w.1.size 3 1 (.slice aN n aA) n (zs.map (.int .i64))/\Hid (zs=b++xs.drop k)/\Hid (b.length=k)/\Hid (Lims b)/\Hid (val b=val (xs.take k) - val (ys.take k)+pw k*bw)/\Bw w wr) (λy i wr=>n - (intOf i).toNat);case atStart=>exact⟨0,0,xs,[],Nat.zero_le _,oM,oM,rfl,rfl,ae,rfl,rfl,Lims.nil,by simp[Hid,val],aC⟩
 case round =>
  obtain⟨k,bw,zs,b,aZ,bc,bd,rfl,rfl,ad,T,D,I,af,aV⟩:=hrel;clear ae aC;rcases Nat.lt_or_ge k n with u|u
  ·obtain⟨g,rfl,ac,bh,bm,aX⟩:=E9b ad oM
   have bl:(k:Int)<n:=oM;have S:k<xs.length:=by rw[ab.o];exact u
   have K:=A_ (List.getElem?_eq_getElem S);have al:=ap.1.get K;generalize xs[k]=x at *;have bo:=al.1;have bp:=al.2;have ax:=A_ (by rw[T.o];exact D1q D K:zs[k]?=some x);obtain⟨_,ah,ai⟩:=A0t ad ax;unfold maxLen at aX;have bn:(n:Int)<=aA:=oM;clear al;have bk:(k:Int)<=1048576:=oM;have H:k+1<=n:=u;have W:=A3a ad k (x - bw);have O:=aV.setCell (p:=⟨g,k,none⟩) ac (.int .i64 (x - bw));rcases Nat.lt_or_ge k m with aa|aa
   ·obtain⟨b2,o2,y,rfl,aD,an,a6,aF⟩:=Sl.getInt aP aa
    have J:=aq.1.get an;have aw:=A_ an;have bq:=J.1;have br:=J.2;have aI:(k:Int)<m:=oM;clear J a6 an;go_wp2_with fail;have au:=A_ (by rw[List.getElem?_set_self (List.getElem?_eq_some_iff.1 ax.o).1]:(zs.set k (x - bw))[k]?=some (x - bw));clear ah ai;generalize wr.setCell ⟨g,k,none⟩ (.int .i64 (x - bw))=aQ at *;obtain⟨bi,ah,ai⟩:=A0t W au;have be:=(O.cell (p:=⟨b2,o2+k,none⟩) aD).trans aF;have a9:b2<aQ.1.size:=by have:=O.size;omega
    clear aF aD;refine X_ sI ?_;dsimp only[List.dropLast,List.getLast,List.length];iterate 10 refine C_ _ ?_
    intro bt bu a7 aB Z (aY:Hid _);simp at Z;have ao:=I_ W aB;have aE:Bw w a7:=Below.go;have ay:=A_ Z;clear Z aY aB ah ai;obtain⟨bj,bf,bg⟩:=A0t ao au;have G:=A_ (by intro x;rw[List.length_append,D.o];rfl:∀ x:Int,(b++[x]).length=k+1);have X:=A_ S;rcases Int.lt_or_le (x - bw - y) 0 with aj|aj
    ·have L:=A_ (show Lims (b++[x - bw - y+1000000000])from I.o.snoc oM oM)
     have r:=A_ (show val (b++[x - bw - y+1000000000])=val (xs.take (k+1)) - val (ys.take (k+1))+pw (k+1)*1 by rw[A4s,D.o,af.o,Y_ K.o,Y_ aw.o,A1l];grind);have E:=A_ (show((zs.set k (x - bw)).set k (x - bw - y)).set k (x - bw - y+1000000000)=(b++[x - bw - y+1000000000])++xs.drop (k+1) by rw[List.set_set,List.set_set,T.o];exact C4b D X _);have R:=A_ (A3a (A3a ao k (x - bw - y)) k (x - bw - y+1000000000));have h:=A_ ((aE.setCell (p:=⟨g,k,none⟩) ac (.int .i64 (x - bw - y))).setCell (p:=⟨g,k,none⟩) ac (.int .i64 (x - bw - y+1000000000)));clear S;go_simp;have Z:=ay.o;go_wp2_with fail;first
     |exact⟨⟨k+1,1,_,b++[x - bw - y+1000000000],H,Int.zero_le_ofNat 1,Int.le_refl 1,rfl,rfl,R,E,G _,L,r,h⟩,V_ u⟩
     |exact⟨by(repeat apply Exists.intro);exact⟨⟨k+1,1,_,b++[x - bw - y+1000000000],H,Int.zero_le_ofNat 1,Int.le_refl 1,rfl,rfl,R,E,G _,L,r,h⟩,rfl⟩,V_ u⟩
    ·have a4:¬ (x - bw - y<0):=oM
     have L:=A_ (show Lims (b++[x - bw - y])from I.o.snoc oM oM);have r:=A_ (show val (b++[x - bw - y])=val (xs.take (k+1)) - val (ys.take (k+1))+pw (k+1)*0 by rw[A4s,D.o,af.o,Y_ K.o,Y_ aw.o,A1l];grind);have E:=A_ (show((zs.set k (x - bw)).set k (x - bw - y))=(b++[x - bw - y])++xs.drop (k+1) by rw[List.set_set,T.o];exact C4b D X _);have R:=A_ (A3a ao k (x - bw - y));have h:=A_ (aE.setCell (p:=⟨g,k,none⟩) ac (.int .i64 (x - bw - y)));clear S;go_simp;have Z:=ay.o;go_wp2_with fail;first
     |exact⟨⟨k+1,0,_,b++[x - bw - y],H,Int.le_refl 0,Int.zero_le_ofNat 1,rfl,rfl,R,E,G _,L,r,h⟩,V_ u⟩
     |exact⟨by(repeat apply Exists.intro);exact⟨⟨k+1,0,_,b++[x - bw - y],H,Int.le_refl 0,Int.zero_le_ofNat 1,rfl,rfl,R,E,G _,L,r,h⟩,rfl⟩,V_ u⟩
   ·have aI:¬ ((k:Int)<m):=oM
    have J:=A_ (by rw[a2.o];exact aa:ys.length<=k);have G:=A_ (by intro x;rw[List.length_append,D.o];rfl:∀ x:Int,(b++[x]).length=k+1);have X:=A_ S;clear S;have aL:=A_ (by have:=af.o;rwa [List.take_of_length_le J.o]at this:val b=val (xs.take k) - val ys+pw k*bw);rcases Int.lt_or_le (x - bw) 0 with aj|aj
    ·have L:=A_ (show Lims (b++[x - bw+1000000000])from I.o.snoc oM oM)
     have r:=A_ (show val (b++[x - bw+1000000000])=val (xs.take (k+1)) - val (ys.take (k+1))+pw (k+1)*1 by rw[List.take_of_length_le (show ys.length<=k+1 from Nat.le_succ_of_le J.o),A4s,D.o,aL.o,Y_ K.o,A1l];grind);have E:=A_ (show((zs.set k (x - bw)).set k (x - bw+1000000000))=(b++[x - bw+1000000000])++xs.drop (k+1) by rw[List.set_set,T.o];exact C4b D X _);have R:=A_ (A3a W k (x - bw+1000000000));have h:=A_ (O.setCell (p:=⟨g,k,none⟩) ac (.int .i64 (x - bw+1000000000)));clear W O aa;go_wp2_with fail;first
     |exact⟨⟨k+1,1,_,b++[x - bw+1000000000],H,Int.zero_le_ofNat 1,Int.le_refl 1,rfl,rfl,R,E,G _,L,r,h⟩,V_ u⟩
     |exact⟨by(repeat apply Exists.intro);exact⟨⟨k+1,1,_,b++[x - bw+1000000000],H,Int.zero_le_ofNat 1,Int.le_refl 1,rfl,rfl,R,E,G _,L,r,h⟩,rfl⟩,V_ u⟩
    ·have a4:¬ (x - bw<0):=oM
     have L:=A_ (show Lims (b++[x - bw])from I.o.snoc oM oM);have r:=A_ (show val (b++[x - bw])=val (xs.take (k+1)) - val (ys.take (k+1))+pw (k+1)*0 by rw[List.take_of_length_le (show ys.length<=k+1 from Nat.le_succ_of_le J.o),A4s,D.o,aL.o,Y_ K.o,A1l];grind);have E:=A_ (show zs.set k (x - bw)=(b++[x - bw])++xs.drop (k+1) by rw[T.o];exact C4b D X _);have R:=A_ W;have h:=A_ O;clear W O aa;go_wp2_with fail;first
     |exact⟨⟨k+1,0,_,b++[x - bw],H,Int.le_refl 0,Int.zero_le_ofNat 1,rfl,rfl,R,E,G _,L,r,h⟩,V_ u⟩
     |exact⟨by(repeat apply Exists.intro);exact⟨⟨k+1,0,_,b++[x - bw],H,Int.le_refl 0,Int.zero_le_ofNat 1,rfl,rfl,R,E,G _,L,r,h⟩,rfl⟩,V_ u⟩
  have a1:k=n:=oM;subst a1;have aM:=A_ (by rw[T.o,List.drop_eq_nil_of_le (Nat.le_of_eq ab.o),List.append_nil]:zs=b);have a5:=A_ (show trim zs=dig (val xs - val ys).toNat by
   have ag:=af.o;rw[List.take_of_length_le (Nat.le_of_eq ab.o)]at ag;have aS:ys.length<=k:=by
    rcases Nat.lt_or_ge xs.length ys.length with Y|Y;·have:=Can.lt_of_len ap.1 aq Y;have:=ar.o;omega
    rw[<-ab.o];exact Y
   rw[List.take_of_length_le aS]at ag;have aT:=A4j I;rw[D.o]at aT;have a8:=ar.o;have aW:bw=0:=by
    rcases Int.lt_or_le 0 bw with Y|Y;·have:bw=1:=oM;subst this;omega
    omega
   rw[aW]at ag;rw[aM.o];exact A8i I.o oM)
  have aI:¬ ((k:Int)<k):=oM;have aU:=A_ (by rw[aM.o];exact I.i64:∀ x∈zs,I64 x);clear u aZ;go_wp2_with fail;refine(A9y _ _ _ _ zs _ ad aU).mono ?_;rintro _ w3 ⟨rfl,ba,aK⟩;have h:Bw w w3:=Below.go;go_wp2;go_ret;rw[a5.o]at aK ⊢;exact A2r aK rfl (A0j _).1.i64 h

theorem B5n (A B:Option Addr) (n m c d:Nat) (xs ys:List Int) (aN aO:List Nat) (w:World) (ae:Sl w A n c xs aN) (ah:Sl w B m d ys aO) (aw:Lims xs) (ax:Lims ys) (bf:n<=1048576) (be:m<=1048576) :
  Calls prog 70 #[.slice A n c,.slice B m d] w (A0w w (dig (val xs*val ys).toNat)):=by
 obtain⟨aG,az,aC,aD,aE⟩:=info_parts A6b;have a1:=A_ ae.1;have a2:=A_ ah.1;have aI:=A_ ae;have aK:=A_ ah;have al:=A_ aw;have am:=A_ ax;have b2:=A_ (by rw[aE];omega:aG.bytes*(n+m)<=281474976710656);have aM:=A_ (by unfold maxLen;omega:n+m<=maxLen);clear ae ah aw ax;go_enter func70,ntmps70;go_wp2_with (at_make;(refine wpList_make_full _ rfl _ _ 31 rfl w.1.size 3 aG (.int .i64 0) 1 underlying31 az aC aD .i64 .i64 _ _ (n+m) rfl rfl rfl rfl b2 aM (Nat.le_refl _) ?_);intro bk ab ay);rw[A8c]at ab;have J:=(Below.refl w.1.size w).grown ay (Nat.le_refl _) (by intro k Y;cases Y);clear ay;go_loopw [20] (λi wr=>∃ (k:Nat) (zs:List Int),k<=n/\i=.int .i64 k/\wr.ownsRow w.1.size 3 1 (.slice (some ⟨w.1.size,0,none⟩) (n+m) (n+m)) (n+m) (zs.map (.int .i64))/\Hid (Lims zs)/\Hid (∀ j,k+m<=j->j<n+m->zs[j]?=some 0)/\Hid (val zs=val (xs.take k)*val ys)/\Bw w wr) (λi wr=>n - (intOf i).toNat);case atStart=>exact⟨0,_,Nat.zero_le _,rfl,ab,Lims.zeros _,λj _ aX=>by rw[List.getElem?_replicate,if_pos aX],by show val _=val (xs.take 0)*val ys;rw[A9k,List.take_zero];simp[val],J⟩
 case round =>
  obtain⟨i,zs,Y,rfl,u,T,aF,ad,W⟩:=hrel;clear ab J az aC aD aE;obtain⟨aH,rfl⟩:∃ aH:World,aH=wr:=⟨_,rfl⟩
  rcases Nat.lt_or_ge i n with H|H
  ·have ba:(i:Int)<n:=oM
   obtain⟨b1,o1,x,rfl,J,af,_,ar⟩:=Sl.getInt aI H;have ag:=al.get af;have aJ:=A_ af;have a4:=ag.1;have a5:=ag.2;clear ag af;have aP:=(W.cell (p:=⟨b1,o1+i,none⟩) J).trans ar;have ap:=A_ u;clear u;go_wp2_with fail;go_loopw [8,27] (λy j wr=>∃ (k:Nat) (b:Int) (zs:List Int),k<=m/\0<=b/\b<1000000000/\j=.int .i64 k/\y=.int .i64 b/\wr.ownsRow w.1.size 3 1 (.slice (some ⟨w.1.size,0,none⟩) (n+m) (n+m)) (n+m) (zs.map (.int .i64))/\Hid (Lims zs)/\Hid (∀ j,i+m<=j->j<n+m->zs[j]?=some 0)/\Hid (val zs+pw (i+k)*b=val (xs.take i)*val ys+pw i*(x*val (ys.take k)))/\Bw w wr) (λy j wr=>m - (intOf j).toNat);case atStart=>exact⟨0,0,zs,Nat.zero_le _,oM,oM,rfl,rfl,ap.o,T,aF,by show val zs+pw (i+0)*0=val (xs.take i)*val ys+pw i*(x*val (ys.take 0));rw[ad.o,List.take_zero];simp[val],W⟩
   case round =>
    obtain⟨k,b,us,bd,aR,aS,rfl,rfl,u,aa,ak,aB,X⟩:=hrel;clear ap T aF ad W ar J aP;rcases Nat.lt_or_ge k m with G|G
    ·have aZ:(k:Int)<m:=oM
     obtain⟨b2,o2,y,rfl,aq,ai,_,au⟩:=Sl.getInt aK G;have aj:=am.get ai;have aL:=A_ ai;have a6:=aj.1;have a7:=aj.2;clear aj ai;have a9:=(X.cell (p:=⟨b2,o2+k,none⟩) aq).trans au;obtain⟨h,ac,bi,bj⟩:=aa.o.num (j:=i+k) (by rw[A2n u];omega);have O:=A_ ac;obtain⟨aU,aQ,aT⟩:=A0t u ac;clear ac au aq;obtain⟨bg,bh⟩:=C0c a4 a5 a6 a7;have aY:(k:Int)<=1048576:=oM;have aV:(i:Int)<=1048576:=oM;have aW:(i:Int)+k<n+m:=oM;have K:k+1<=m:=G;have an:=A_ (by omega:0<=(h+x*y+b) / 1000000000);have ao:=A_ (by omega:(h+x*y+b) / 1000000000<1000000000);have L:=A_ (aa.o.set (i+k) (u:=(h+x*y+b) % 1000000000) oM oM);have I:=A_ (show ∀ j,i+m<=j->j<n+m->(us.set (i+k) ((h+x*y+b) % 1000000000))[j]?=some 0 by intro j E S;rw[List.getElem?_set_ne oM];exact ak j E S);have r:=A_ (show val (us.set (i+k) ((h+x*y+b) % 1000000000))+pw (i+(k+1))*((h+x*y+b) / 1000000000)=val (xs.take i)*val ys+pw i*(x*val (ys.take (k+1))) by rw[show i+(k+1)=i+k+1 from rfl,B3g O.o aB.o,Y_ aL.o,B0f];grind);have R:=A_ (A3a u (i+k) ((h+x*y+b) % 1000000000));have D:=A_ (X.setCell (p:=⟨w.1.size,i+k,none⟩) (Nat.le_refl _) (.int .i64 ((h+x*y+b) % 1000000000)));go_wp2_with fail;first
     |exact⟨⟨k+1,(h+x*y+b) / 1000000000,_,K,an,ao,rfl,rfl,R,L,I,r,D⟩,V_ G⟩
     |exact⟨by(repeat apply Exists.intro);exact⟨⟨k+1,(h+x*y+b) / 1000000000,_,K,an,ao,rfl,rfl,R,L,I,r,D⟩,rfl⟩,V_ G⟩
    ·have Z:k=m:=oM
     subst Z;have aZ:¬ ((k:Int)<k):=oM;have O:=A_ (ak.o (i+k) (Nat.le_refl _) oM);obtain⟨aU,aQ,aT⟩:=A0t u O;have aY:(k:Int)<=1048576:=oM;have aV:(i:Int)<=1048576:=oM;have aW:(i:Int)+k<n+k:=oM;have K:i+1<=n:=H;have L:=A_ (aa.set (i+k) (u:=b) aR aS);have I:=A_ (show ∀ j,i+1+k<=j->j<n+k->(us.set (i+k) b)[j]?=some 0 by intro j E S;rw[List.getElem?_set_ne oM];exact ak.o j oM S);have r:=A_ (show val (us.set (i+k) b)=val (xs.take (i+1))*val ys by have E:=aB.o;rw[List.take_of_length_le (Nat.le_of_eq a2.o)]at E;rw[B3w O.o,Y_ aJ.o];grind);have R:=A_ (A3a u (i+k) b);have D:=A_ (X.setCell (p:=⟨w.1.size,i+k,none⟩) (Nat.le_refl _) (.int .i64 b));clear G;go_wp2_with fail;first
     |exact⟨⟨i+1,_,K,rfl,R,L,I,r,D⟩,V_ H⟩
     |exact⟨by(repeat apply Exists.intro);exact⟨⟨i+1,_,K,rfl,R,L,I,r,D⟩,rfl⟩,V_ H⟩
  have Z:i=n:=oM;subst Z;have a3:=A_ (show trim zs=dig (val xs*val ys).toNat by have E:=ad.o;rw[List.take_of_length_le (Nat.le_of_eq a1.o)]at E;have S:=Int.mul_nonneg (S_ al) (S_ am);exact A8i T.o oM);have bc:¬ ((i:Int)<i):=oM;clear H Y;go_wp2_with fail;refine(A9y _ _ _ _ zs _ u T.i64).mono ?_;rintro _ w3 ⟨rfl,a8,aA⟩;have D:Bw w w3:=Below.go;go_wp2;go_ret;rw[a3.o]at aA ⊢;exact A2r aA rfl (A0j _).1.i64 D

def C3a (w:World) (xs:List Int) (r:Int) (e:Ending) (w':World):Prop :=
 ∃ v,e=.returned (.tuple #[v,.int .i64 r])/\w'.ownsRow w.1.size 3 1 v xs.length (xs.map (.int .i64))/\Bw w w'

theorem B7n (A:Option Addr) (n c:Nat) (xs:List Int) (ar:List Nat) (d:Int) (w:World) (K:Sl w A n c xs ar) (Z:Lims xs) (I:0<d) (aJ:d<1000000000) (aO:n<=1048576) :
  Calls prog 187 #[.slice A n c,.int .i64 d] w (C3a w (dig (val xs / d).toNat) (val xs % d)):=by
 obtain⟨ak,ab,ah,ai,aj⟩:=info_parts A6b;have az:=A_ K.1;have ao:=A_ K;have am:=A_ Z;have b2:=A_ (by rw[aj];omega:ak.bytes*n<=281474976710656);have aq:=A_ (by unfold maxLen;omega:n<=maxLen);clear K Z;go_enter func187,ntmps187;go_wp2_with (at_make;(refine wpList_make_full _ rfl _ _ 31 rfl w.1.size 3 ak (.int .i64 0) 1 underlying31 ab ah ai .i64 .i64 _ _ n rfl rfl rfl rfl b2 aq (Nat.le_refl _) ?_);intro aS J aa);rw[A8c]at J;have h:=(Below.refl w.1.size w).grown aa (Nat.le_refl _) (by intro k ay;cases ay);clear aa;go_loopw [7,8] (λr i wr=>∃ (b:Nat) (q:Int) (zs:List Int),b<=n/\i=.int .i64 ((b:Int) - 1)/\r=.int .i64 q/\0<=q/\q<d/\wr.ownsRow w.1.size 3 1 (.slice (some ⟨w.1.size,0,none⟩) n n) n (zs.map (.int .i64))/\Hid (Lims zs)/\Hid (val (zs.drop b)*d+q=val (xs.drop b))/\Bw w wr) (λr i wr=>(intOf i+1).toNat);case atStart =>refine⟨n,0,_,Nat.le_refl _,rfl,rfl,Int.le_refl _,I,J,Lims.zeros _,?_,h⟩;show val ((List.replicate n (0:Int)).drop n)*d+0=val (xs.drop n);rw[List.drop_eq_nil_of_le sI,List.drop_eq_nil_of_le (Nat.le_of_eq az.o)];simp[val]
 case round =>
  obtain⟨b,q,zs,X,rfl,rfl,ad,ae,D,u,ag,H⟩:=hrel;clear J h ab ah ai aj;rcases Nat.eq_zero_or_pos b with G|G;·subst G;have e:=A_ (show dig (val xs / d).toNat=trim zs/\val xs % d=q by have W:=ag.o;rw[List.drop_zero,List.drop_zero]at W;obtain⟨au,aw⟩:=D2a I W ad ae;refine⟨?_,aw⟩;rw[au];exact(A8i u (Int.toNat_of_nonneg (S_ u)).symm).symm);have aQ:¬ ((0:Int)<=((0:Nat):Int) - 1):=oM;go_wp2_with fail;refine(A9y _ _ _ _ zs _ D u.i64).mono ?_;rintro _ w3 ⟨rfl,aG,aA⟩;have E:Bw w w3:=Below.go;go_wp2;go_ret2;rw[e.o.1,e.o.2];exact⟨_,rfl,aA,E⟩
  ·obtain⟨j,rfl⟩:∃ j,b=j+1:=⟨b - 1,oM⟩
   have T:(((j+1:Nat):Int) - 1)=j:=oM;rw[T];have ax:j<n:=X;obtain⟨b1,o1,x,rfl,h,O,_,Y⟩:=Sl.getInt ao ax;have S:=am.get O;have ap:=A_ O;have aD:=S.1;have aE:=S.2;have aH:=(H.cell (p:=⟨b1,o1+j,none⟩) h).trans Y;have aF:b1<wr.1.size:=by have:=H.size;omega
   clear S O Y h;obtain⟨aR,af,aB,aC⟩:=u.o.num (j:=j) (by rw[A2n D];omega);obtain⟨aM,aI,aL⟩:=A0t D af;have an:=A_ (by rw[A2n D];omega:j<zs.length);clear af aB aC;have Q:=A_ (D9u I ad ae aD aE);have r:=A_ (D4g an ap ag);have L:=A_ (u.set j Q.1 Q.2.1);have R:=A_ (A3a D j ((q*1000000000+x) / d));have E:=A_ (H.setCell (p:=⟨w.1.size,j,none⟩) (Nat.le_refl _) (.int .i64 ((q*1000000000+x) / d)));have aN:(j:Int)<n:=oM;have aP:(n:Int)<=1048576:=oM;have ac:j<=n:=oM;have aK:1<=d:=oM;have al:(intOf (Value.int .i64 ((j:Int) - 1))+1).toNat<(intOf (Value.int .i64 (j:Int))+1).toNat:=by simp[intOf]
   clear T X G;go_wp2_with fail;first
   |exact⟨⟨j,(q*1000000000+x) % d,_,ac,rfl,rfl,Q.2.2.1,Q.2.2.2,R,L,r,E⟩,al⟩
   |exact⟨by(repeat apply Exists.intro);exact⟨⟨j,(q*1000000000+x) % d,_,ac,rfl,rfl,Q.2.2.1,Q.2.2.2,R,L,r,E⟩,rfl⟩,al⟩

def E2b (w:World) (N:Nat) (V:Int) (e:Ending) (w':World):Prop :=
 ∃ zs,e=.returned (.slice (some ⟨w.1.size,0,none⟩) N N)/\zs.length=N/\Lims zs/\val zs=V/\w'.ownsRow w.1.size 3 1 (.slice (some ⟨w.1.size,0,none⟩) N N) N (zs.map (.int .i64))/\Bw w w'

theorem C2d (A:Option Addr) (n c N:Nat) (xs:List Int) (az:List Nat) (d:Int) (w:World) (ae:Sl w A n c xs az) (aj:Lims xs) (aB:0<d) (aC:d<1000000000) (aL:N<=1048576) (Z:n<=N) (ah:val xs*d<pw N) :
  Calls prog 188 #[.slice A n c,.int .i64 d,.int .i64 N] w (E2b w N (val xs*d)):=by
 obtain⟨aq,al,an,ao,ap⟩:=info_parts A6b;have am:=A_ ae.1;have aw:=A_ ae;have ar:=A_ aj;have au:=A_ ah;have b2:=A_ (by rw[ap];omega:aq.bytes*N<=281474976710656);have ay:=A_ (by unfold maxLen;omega:N<=maxLen);clear ae aj ah;go_enter func188,ntmps188;go_wp2_with (at_make;(refine wpList_make_full _ rfl _ _ 31 rfl w.1.size 3 aq (.int .i64 0) 1 underlying31 al an ao .i64 .i64 _ _ N rfl rfl rfl rfl b2 ay (Nat.le_refl _) ?_);intro aY ac ak);rw[A8c]at ac;have O:=(Below.refl w.1.size w).grown ak (Nat.le_refl _) (by intro k S;cases S);clear ak;go_loopw [8,15] (λy i wr=>∃ (k:Nat) (b:Int) (zs:List Int),k<=N/\0<=b/\b<1000000000/\i=.int .i64 k/\y=.int .i64 b/\wr.ownsRow w.1.size 3 1 (.slice (some ⟨w.1.size,0,none⟩) N N) N (zs.map (.int .i64))/\Hid (Lims zs)/\Hid (∀ j,k<=j->j<N->zs[j]?=some 0)/\Hid (val zs+pw k*b=val (xs.take k)*d)/\Bw w wr) (λy i wr=>N - (intOf i).toNat);case atStart =>refine⟨0,0,_,Nat.zero_le _,Int.le_refl _,oM,rfl,rfl,ac,Lims.zeros _,λj _ aD=>by rw[List.getElem?_replicate,if_pos aD],?_,O⟩;show val _+pw 0*0=val (xs.take 0)*d;rw[A9k,List.take_zero];simp[val]
 case round =>
  obtain⟨k,b,zs,S,aQ,aR,rfl,rfl,T,aa,ag,ad,J⟩:=hrel;clear ac O al an ao ap;rcases Nat.lt_or_ge k N with h|h
  ·have aU:(k:Int)<N:=oM
   have aM:(N:Int)<=1048576:=oM;have ab:=A_ (ag k (Nat.le_refl _) h);obtain⟨aT,aP,aS⟩:=A0t T ab;have X:k+1<=N:=h;rcases Nat.lt_or_ge k n with Y|Y
   ·obtain⟨b1,o1,x,rfl,O,af,_,ai⟩:=Sl.getInt aw Y
    have E:=ar.get af;have ax:=A_ af;have aG:=E.1;have aH:=E.2;have aO:=(J.cell (p:=⟨b1,o1+k,none⟩) O).trans ai;have aN:b1<wr.1.size:=by have:=J.size;omega
    clear E af ai O;have aF:(k:Int)<n:=oM;obtain⟨aW,aX⟩:=C0c aG aH (Int.le_of_lt aB) aC;have G:=A_ (by omega:0<=(b+x*d) / 1000000000);have H:=A_ (by omega:(b+x*d) / 1000000000<1000000000);have L:=A_ (aa.o.set k (u:=(b+x*d) % 1000000000) oM oM);have I:=A_ (show ∀ j,k+1<=j->j<N->(zs.set k ((b+x*d) % 1000000000))[j]?=some 0 by intro j D W;rw[List.getElem?_set_ne oM];exact ag.o j oM W);have r:=A_ (show val (zs.set k ((b+x*d) % 1000000000))+pw (k+1)*((b+x*d) / 1000000000)=val (xs.take (k+1))*d by rw[B3g ab.o ad.o,Y_ ax.o];grind);have R:=A_ (A3a T k ((b+x*d) % 1000000000));have K:=A_ (J.setCell (p:=⟨w.1.size,k,none⟩) (Nat.le_refl _) (.int .i64 ((b+x*d) % 1000000000)));clear Z S;go_wp2_with fail;first
    |exact⟨⟨k+1,(b+x*d) / 1000000000,_,X,G,H,rfl,rfl,R,L,I,r,K⟩,V_ h⟩
    |exact⟨by(repeat apply Exists.intro);exact⟨⟨k+1,(b+x*d) / 1000000000,_,X,G,H,rfl,rfl,R,L,I,r,K⟩,rfl⟩,V_ h⟩
   ·have aF:¬ ((k:Int)<n):=oM
    have G:=A_ (by omega:0<=b / 1000000000);have H:=A_ (by omega:b / 1000000000<1000000000);have L:=A_ (aa.o.set k (u:=b % 1000000000) oM oM);have I:=A_ (show ∀ j,k+1<=j->j<N->(zs.set k (b % 1000000000))[j]?=some 0 by intro j D W;rw[List.getElem?_set_ne oM];exact ag.o j oM W);have r:=A_ (show val (zs.set k (b % 1000000000))+pw (k+1)*(b / 1000000000)=val (xs.take (k+1))*d by
     have E:xs.length<=k:=by rw[am.o];exact Y
     have D:=ad.o;rw[List.take_of_length_le E]at D;rw[B3g ab.o D,List.take_of_length_le (Nat.le_succ_of_le E)];grind)
    have R:=A_ (A3a T k (b % 1000000000));have K:=A_ (J.setCell (p:=⟨w.1.size,k,none⟩) (Nat.le_refl _) (.int .i64 (b % 1000000000)));clear Z S Y;go_wp2_with fail;first
    |exact⟨⟨k+1,b / 1000000000,_,X,G,H,rfl,rfl,R,L,I,r,K⟩,V_ h⟩
    |exact⟨by(repeat apply Exists.intro);exact⟨⟨k+1,b / 1000000000,_,X,G,H,rfl,rfl,R,L,I,r,K⟩,rfl⟩,V_ h⟩
  have aE:k=N:=oM;subst aE;have e:=A_ (show val zs=val xs*d by
   have D:=ad.o;rw[List.take_of_length_le (by rw[am.o];exact Z)]at D;have W:=S_ aa;have aJ:=A5r k;have aK:=au.o;have:b=0:=by
    rcases Int.lt_or_le 0 b with aA|aA;·have:pw k*1<=pw k*b:=Int.mul_le_mul_of_nonneg_left oM oM;omega
    omega
   subst this;omega)
  have aV:¬ ((k:Int)<k):=oM;have aI:=A_ (A2n T);clear h S Z;go_wp2;go_ret;exact⟨zs,rfl,aI,aa,e,T,J⟩
end Go.Proofs.YtbhemnidcleaiaaGreat.X
