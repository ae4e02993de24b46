/- A part of the proof. -/
import Derived.Test.YtbkilakncnlebaaGreatDoorY9
set_option linter.constructorNameAsVariable false
set_option maxHeartbeats 16000000
set_option maxRecDepth 10000
open Bool renaming and_eq_true→CK,false→AF,true→AD
open Decidable renaming decide→AU
open Go renaming Addr→AH,Calls→AR,Oper→BU,Program→DZ,TypeId→BS,Value→AJ,World→J,bodyPost_ret→BI,maxLen→BG,undef→DU,wpList→FF,yielded→GD
open Go.IntKind renaming i64→QO
open Go.Obj renaming cells→AK
open Go.Region renaming wanted→GQ
open Go.Value renaming agg→AM,bool→AC,int→N,slice→QH
open Go.XB.Sl renaming below→AQ,getInt→DB
open Go.XB.TPoint renaming elemA→FC
open Int renaming eq_ofNat_of_zero_le→LN,eq_of_mul_eq_mul_right→PF,gcd→BQ,mul_pos→FX
open List renaming getD→II,map_cons→JT,map_nil→LJ,mem_append→CO,mem_of_getElem?→CH
open Nat renaming gcd_dvd_right→PW,le_trans→BM
open Option renaming none→I,some→QL
namespace Go.XN
open Go.XB
def A7m:List TPoint->Bool
 | [a,b,c]=>(A1b a&&(A1b b&&A1b c))&&AU (0<A9m (A2y a b c))
 |_=>AF
end Go.XN
namespace Go.Proofs.YtbkilakncnlebaaGreatDoor.X
open Go.RowKit Go.XB Go.XN Proofs.Tryz
attribute [local go_sem] L_ opAt N_ M_ Region.wanted yielded
attribute [local simp] N_ M_ MP.eq MP.agg MP.sl A0r
theorem E0p (f:Nat) (af:A4f f) (A:Option AH) (n c:Nat) (xs:List TPoint) (bs:List Nat) (w:J) (p:TPoint->Bool) (h:Sl w A n c xs bs)
  (Y:∀ (v:AJ) (x:TPoint) (b:List Nat) (w:J),x∈xs->Agg w v x b->AR prog f #[v] w (A0b w (AC (p x)))) :
  AR prog 221 #[QH A n c,.func (.func f) #[] #[]] w (B9x w (xs.any p)):=by
 have ab:=A_ h.1;have ad:=A_ h;have ac:=A_ Y;unfold A4f at af;have ai:n<=BG:=BM h.2.1 h.2.2.1;unfold BG at ai;clear h Y;go_enter func221,ntmps221;go_wp2_with fail;go_loopg [8] n (λg s8 wr=>∃ k:Nat,k+g=n/\s8=N QO k/\Hid ((xs.take k).any p=AF)/\Bw w wr);case atStart=>exact⟨0,oS,rfl,by show(xs.take 0).any p=AF;simp,Below.refl _ _⟩
 case round =>
  obtain⟨k,X,rfl,O,G⟩:=hrel;rcases Nat.lt_or_ge k n with u|u
  ·obtain⟨an,aE,x,aj,m1,ao,aF,ak,m2,ap,aG,al,aC,aq,aH,am,aD,ar,aI,rfl,aB,Z,au,aw,ax,ay,az,aA,T⟩:=FC (AQ ad G) u
   have E:=A_ Z;have aa:=A_ T;have ah:(k:Int)<n:=oS;obtain⟨g,rfl⟩:∃ g,gk=g+1:=⟨gk - 1,oS⟩
   have ag:=A_ (by omega:k+1+g=n);clear Z X u T;go_wp2_with fail;refine(ac _ x _ wr (CH E) aa).mono ?_;rintro _ aJ ⟨rfl,ae⟩;have W:=Below.next G ae;cases D:p x
   ·have H:=A_ (B6c E O D)
    clear D;go_wp2_with fail;go_roundg g;case measure=>omega
    case rel=>exact⟨k+1,ag,gN,H,W⟩
   have H:=A_ (D1e E D);clear D;go_wp2;go_ret;exact⟨k,rfl,by rw[H.o];simp,W⟩
  have e:=A_ (show xs.any p=AF by have:=O.o;rwa [List.take_of_length_le (by rw[ab.o];omega)]at this);have ah:¬ ((k:Int)<n):=oS;clear X u;go_wp2;go_ret;exact⟨-1,rfl,by rw[e.o];rfl,G⟩

theorem B8q (f:Nat) (h:A4f f) (A:Option AH) (n c:Nat) (xs:List TPoint) (bs:List Nat) (w:J) (p:TPoint->Bool) (D:Sl w A n c xs bs)
  (u:∀ (v:AJ) (x:TPoint) (b:List Nat) (w:J),x∈xs->Agg w v x b->AR prog f #[v] w (A0b w (AC (p x)))) :
  AR prog 169 #[QH A n c,.func (.func f) #[] #[]] w (A0b w (AC (xs.any p))):=by
 have O:=A_ D;have H:=A_ u;have G:=A_ h;clear D u h;go_enter func169,ntmps169;go_wp2_with fail;refine(E0p f G A n c xs bs _ p (AQ O Below.go) H).mono ?_;rintro _ W ⟨r,rfl,e,T⟩;have E:=A_ e;clear e;go_wp2;go_ret;exact⟨Q_ E,T⟩

theorem B3e:A4f 306:=λa w=>kR
def D0l (x:TPoint):Bool:=!A1b x
theorem B4t (v:AJ) (x:TPoint) (b:List Nat) (w:J) (h:Agg w v x b):AR prog 306 #[v] w (A0b w (AC (D0l x))):=by
 have u:=A_ h;obtain⟨O,ad,Y,ah,T,ae,Z,ai,W,af,aa,aj,X,ag,ab,ak,rfl,rfl,D,E,G,H⟩:=TPoint.agg h;clear D E G H h;go_enter func306,ntmps306;go_wp2_with fail;refine(B2j _ x _ _ (Agg.below u Below.go)).mono ?_;rintro _ al ⟨rfl,ac⟩;go_wp2;go_ret;exact⟨rfl,Below.go⟩

theorem B2m (A:Option AH) (n c:Nat) (xs:List TPoint) (bs:List Nat) (w:J) (W:Sl w A n c xs bs) :
  AR prog 292 #[QH A n c] w (A0b w (AC (A7m xs))):=by
 have Z:=A_ W;by_cases al:n=3
 ·subst al
  have ab:=A_ (by rw[List.not_all_eq_any_not];rfl:xs.any D0l=!xs.all A1b);cases X:xs.all A1b
  ·have Y:=A_ (show A7m xs=AF by
    match xs,W.1 with
    | [a,E,c'],_ =>
     simp only[List.all_cons,List.all_nil,Bool.and_true]at X
     show((A1b a&&(A1b E&&A1b c'))&&_)=AF
     rw[X];rfl)
   have ac:=A_ (by rw[ab.o,X];rfl:xs.any D0l=AD)
   clear X ab W
   go_enter func292,ntmps292
   go_wp2_with fail
   refine A0g ?_
   iterate 5 refine C_ _ ?_
   refine D_ (MP.eq (AC AD)) ?_ ?_
   ·intro G H D u b;obtain⟨af,ag⟩:=F_ u;simp at b;refine G_ ?_;exact A0i (by have C:=B8q 306 B3e A 3 c xs bs D D0l (AQ Z u) (λv x E w _ h=>B4t v x E w h);rwa [ac.o]at C)
   iterate 3 refine C_ _ ?_
   iterate 12 apply A4m;case h =>intro G H D u b;simp at b;go_simp;first|done|(simp[DU];done)
   iterate 2 refine C_ _ ?_
   intro G H ap u b aa
   clear aa
   simp at b
   go_simp
   clear b
   go_wp2
   go_ret
   rw[Y.o]
   exact⟨rfl,u⟩
  ·have ac:=A_ (by rw[ab.o,X];rfl:xs.any D0l=AF)
   have ah:=A_ X;clear X ab;have aw:=W;obtain⟨O,b1,T,rfl⟩:∃ a E c',xs=[a,E,c']:=by
    match xs,W.1 with
    | [a,E,c'],_=>exact⟨a,E,c',rfl⟩
   obtain⟨a3,bF,a2,P1,bo,a7,p1,P2,bp,a8,p2,aT,bq,a9,bI,aU,br,ba,bJ,aP,bl,am,ax,ay,az,aA,aB,aC,ai⟩:=FC Z (by decide:0<3);obtain⟨a4,bG,b2,Q1,bt,bc,q1,Q2,bu,bd,q2,aV,bv,be,bK,aW,bz,bf,bL,ad,aQ,an,aD,aE,aF,aG,aH,aI,aj⟩:=FC Z (by decide:1<3);obtain⟨a5,bH,a6,aX,bA,bg,bM,aY,bB,bh,bN,aZ,bD,bi,bO,a1,bE,bj,bP,ae,aR,ao,aJ,aK,aL,aM,aN,aO,ak⟩:=FC Z (by decide:2<3);subst aP;injection ad with ad;injection ad with h1 h2 _;subst h1;subst h2;injection ae with ae;injection ae with h1 h2 _;subst h1;subst h2;simp at am an ao;subst am;subst an;subst ao;simp at ax ay az aA aB aC aD aE aF aG aH aI aJ aK aL aM aN aO;have aq:=A_ ai;have ar:=A_ aj;have au:=A_ ak;clear aQ aR ai aj ak W aw;have Y:=A_ (show AU (0<A9m (A2y O b1 T))=A7m [O,b1,T] by
    have h:=ah.o;simp only[List.all_cons,List.all_nil,Bool.and_true]at h;show _=((A1b O&&(A1b b1&&A1b T))&&_)
    rw[h];rfl)
   clear ah;go_enter func292,ntmps292;go_wp2_with fail;refine A0g ?_;iterate 5 refine C_ _ ?_
   refine D_ (MP.eq (AC AF)) ?_ ?_;·intro G H D u b;obtain⟨af,ag⟩:=F_ u;simp at b;refine G_ ?_;exact A0i (by have C:=B8q 306 B3e _ 3 c [O,b1,T] bs D D0l (AQ Z u) (λv x E w _ h=>B4t v x E w h);rwa [ac.o]at C)
   iterate 3 refine C_ _ ?_
   iterate 9 refine C_ _ ?_
   refine D_ (MP.agg (A2y O b1 T)) ?_ ?_;·intro G H D u b;obtain⟨af,ag⟩:=F_ u;simp at b;refine G_ ?_;exact H_ (A7l _ _ _ O b1 T _ _ _ D (aq.below u) (ar.below u) (au.below u))
   refine D_ (MP.eq (N QO (A9m (A2y O b1 T)))) ?_ ?_;·intro G H D u b;obtain⟨af,ag⟩:=F_ u;simp at b;refine G_ ?_;exact A0i (B8u _ (A2y O b1 T) _ D b.1.1)
   iterate 3 refine C_ _ ?_
   intro G H ap u b aa;clear aa;simp at b;go_simp;clear b;go_wp2;go_ret;exact⟨Q_ Y,u⟩
 have Y:=A_ (show A7m xs=AF by
  have aS:=W.1;match xs with
  | []=>rfl
  | [_]=>rfl
  | [_,_]=>rfl
  | [_,_,_]=>exact absurd aS.symm al
  |_::_::_::_::_=>rfl)
 have bn:¬ ((n:Int)=3):=oS;have bm:((n:Int)==3)=AF:=oR;clear W;go_enter func292,ntmps292;go_wp2_with fail;refine A0g ?_;iterate 4 refine C_ _ ?_
 iterate 3 apply A4m;case h =>intro G H D u b;simp at b;go_simp;first|done|(simp[DU];done)
 iterate 2 refine C_ _ ?_
 iterate 12 apply A4m;case h =>intro G H D u b;simp at b;go_simp;first|done|(simp[DU];done)
 iterate 2 refine C_ _ ?_
 intro G H ap u b aa;clear aa;simp at b;go_simp;clear b;go_wp2;go_ret;rw[Y.o];exact⟨rfl,u⟩
def at0 (xs:List Int) (a:Int):Int:=xs.getD a.toNat 0
def E9r (xs ys:List Int) (a b c:Int):Int:=(at0 xs b - at0 xs a)*(at0 ys c - at0 ys a) - (at0 ys b - at0 ys a)*(at0 xs c - at0 xs a)
def A5u (xs ys:List Int) (a b c:Int):Int:=sgn (E9r xs ys a b c)
def A5t (xs ys:List Int) (a b c:Int):Bool:=AU (A5u xs ys a b c=0)&&(inB (min (at0 xs a) (at0 xs b)) (at0 xs c) (max (at0 xs a) (at0 xs b))&&inB (min (at0 ys a) (at0 ys b)) (at0 ys c) (max (at0 ys a) (at0 ys b)))
def A6a (xs:List Int):Prop:=∀ x∈xs,-100<=x/\x<=100
def Plc (w:J) (v:AJ) (n:Nat) (xs ys:List Int):Prop:=∃ (A:Option AH) (c X oX cX Y oY cY:Nat) (bX bY:List Nat),v=AM #[QH A n c,QH (QL ⟨X,oX,I⟩) n cX,QH (QL ⟨Y,oY,I⟩) n cY]/\Sl w (QL ⟨X,oX,I⟩) n cX xs bX/\Sl w (QL ⟨Y,oY,I⟩) n cY ys bY
theorem Plc.below {w w':J} {v:AJ} {n:Nat} {xs ys:List Int} (h:Plc w v n xs ys) (b:Bw w w'):Plc w' v n xs ys:=by
 obtain⟨A,c,u,Y,H,D,Z,O,E,G,T,W,X⟩:=h;exact⟨A,c,u,Y,H,D,Z,O,E,G,T,W.below b,X.below b⟩
theorem D0b {a b:Int} (u:-200<=a/\a<=200) (D:-200<=b/\b<=200):-40000<=a*b/\a*b<=40000:=by
 have h:(a*b).natAbs<=200*200:=by rw[Int.natAbs_mul];exact Nat.mul_le_mul oS oS
 omega
theorem A3v (v:AJ) (n:Nat) (xs ys:List Int) (a b c:Int) (w:J) (ac:Plc w v n xs ys) (O:A6a xs) (T:A6a ys) (Z:0<=a/\a<n) (aa:0<=b/\b<n) (ab:0<=c/\c<n) :
  AR prog 171 #[v,N QO a,N QO b,N QO c] w (A0b w (N QO (A5u xs ys a b c))):=by
 obtain⟨A,aK,aC,a1,aL,aD,a2,aM,aI,aJ,rfl,E,G⟩:=ac;obtain⟨W,rfl⟩:=LN Z.1;obtain⟨X,rfl⟩:=LN aa.1;obtain⟨Y,rfl⟩:=LN ab.1;obtain⟨_,_,u,h,aT,ad,_,aN⟩:=DB E (by omega:W<n);cases h;obtain⟨_,_,aj,h,_,ae,_,aO⟩:=DB E (by omega:X<n);cases h;obtain⟨_,_,ak,h,_,af,_,aP⟩:=DB E (by omega:Y<n);cases h;obtain⟨_,_,D,h,aU,ag,_,aQ⟩:=DB G (by omega:W<n);cases h;obtain⟨_,_,al,h,_,ah,_,aR⟩:=DB G (by omega:X<n);cases h;obtain⟨_,_,am,h,_,ai,_,aS⟩:=DB G (by omega:Y<n);cases h;have an:=A_ (show sgn ((aj - u)*(am - D) - (al - D)*(ak - u))=A5u xs ys W X Y by unfold A5u E9r at0;simp[II,ad,ae,af,ag,ah,ai]);have b1:=O u (CH ad);have b2:=O aj (CH ae);have aE:=O ak (CH af);have aF:=T D (CH ag);have aG:=T al (CH ah);have aH:=T am (CH ai);obtain⟨p,ac⟩:∃ p,aj - u=p:=⟨_,rfl⟩
 obtain⟨q,au⟩:∃ q,am - D=q:=⟨_,rfl⟩
 obtain⟨r,aw⟩:∃ r,al - D=r:=⟨_,rfl⟩
 obtain⟨s,ax⟩:∃ s,ak - u=s:=⟨_,rfl⟩
 have p1:-200<=p/\p<=200:=oS;have q1:-200<=q/\q<=200:=oS;have ay:-200<=r/\r<=200:=oS;have az:-200<=s/\s<=200:=oS;obtain⟨m1,ap⟩:∃ m,p*q=m:=⟨_,rfl⟩
 obtain⟨m2,aq⟩:∃ m,r*s=m:=⟨_,rfl⟩
 have k1:-40000<=m1/\m1<=40000:=by have:=D0b p1 q1;rw[ap]at this;exact this
 have k2:-40000<=m2/\m2<=40000:=by have:=D0b ay az;rw[aq]at this;exact this
 rw[ac,au,aw,ax,ap,aq]at an;have aX:(W:Int)<n:=Z.2;have aY:(X:Int)<n:=aa.2;have aZ:(Y:Int)<n:=ab.2;clear E G ad ae af ag ah ai O T Z aa ab;go_enter func171,ntmps171;go_wp2_with fail;refine A0g ?_;iterate 47 refine C_ _ ?_
 refine D_ (MP.eq (N QO (sgn (m1 - m2)))) ?_ ?_;·intro aA aB a3 ao H;obtain⟨aV,aW⟩:=F_ ao;simp at H;refine G_ ?_;exact A0i (C2j _ _)
 refine C_ _ ?_;intro aA aB wa ao H ar;clear ar;simp at H;go_simp;clear H;go_wp2;go_ret;rw[<-an.o];exact⟨rfl,Below.go⟩
end Go.Proofs.YtbkilakncnlebaaGreatDoor.X

namespace Go
section
variable {P:DZ} (w:J)
theorem D4h (base:Nat) (t ty e:BS) (i:TypeInfo) (z:AJ) (size O:Nat) (W:P.underlying t=QL (.slice e)) (hi:P.info? e=QL i) (af:i.zero=QL z)
  (D:i.size=size) (ac:i.bytes=O) (ao:z.cells.size=size) (am:0<size)
  (g n cap:Nat) (xs:List AJ) (G:w.ownsRow base e size (QH (QL ⟨g,0,I⟩) n cap) n xs)
  (a:AH) (m c:Nat) (b:List AJ) (E:b.length=m*size) (T:∀ j u,b[j]?=QL u->w.cell? (a.add j)=QL u) (Y:∀ u∈b,u.oneCell'=AD)
  (ab:n+m<=BG) (ad:(n+m)*O<=140737488355328) (ah:base<=w.1.size) :
  ∃ g' cap' w',(Builtin.append_ #[t,t] ty #[QH (QL ⟨g,0,I⟩) n cap,QH (QL a) m c]).run P w=.ok (QH (QL ⟨g',0,I⟩) (n+m) cap') w'/\w'.ownsRow base e size (QH (QL ⟨g',0,I⟩) (n+m) cap') (n+m) (xs++b)/\w.grownBy w' (QL g)/\(g'=g\/g'=w.1.size):=by
 obtain⟨ay,w',H,Z,aa,_⟩:=run_append_own (P:=P) w base t ty e i z size O W hi af D ac ao am _ n xs G a m c b E T Y ab ad ah;by_cases ae:n+m<=cap
 ·rcases G.2 with⟨ag,_⟩|⟨aq,ap,X,an,ar,ak,aw,au,ai,ax⟩
  ·cases ag
  cases an;have aj:n*i.size+b.length<=X.size:=by rw[D,E,ai,<-Nat.add_mul];exact Nat.mul_le_mul_right _ ae
  have h:=run_append_room (P:=P) w t ty e i W hi g n cap X ak a m c b (by rw[D];exact E) T Y ae aj;rw[H]at h;cases h;exact⟨_,_,_,H,Z,aa,.inl rfl⟩
 have al:∀ j u,xs[j]?=QL u->w.cell? ((⟨g,0,I⟩:AH).add j)=QL u:=G.cells (g:=g) rfl;have h:=run_append_grow (P:=P) w t ty e i z W hi af ⟨g,0,I⟩ n cap xs (by rw[D];exact G.1) al a m c b (by rw[D];exact E) T oS (by unfold BG at ab;omega) (growslice_fits oS (by rw[ac];exact ad));rw[H]at h;cases h;exact⟨_,_,_,H,Z,aa,.inr rfl⟩

theorem A1m {w:J} {G:Array BU} {rest:List BU} {o:BU} {a:Act} {Q:Exit->Act->J->Prop} (ac:o.guard=I) (s x:Operand) (t:BS)
  (af:o.op=.call { callee:=.builtin .append,args:=#[s,x],argTypes:=#[t,t] })
  (base:Nat) (e:BS) (i:TypeInfo) (z:AJ) (size E:Nat) (al:P.underlying t=QL (.slice e)) (hi:P.info? e=QL i) (an:i.zero=QL z)
  (aj:i.size=size) (aa:i.bytes=E) (ao:z.cells.size=size) (ak:0<size)
  (g n cap:Nat) (xs:List AJ) (ai:a.eval s=QH (QL ⟨g,0,I⟩) n cap) (ag:w.ownsRow base e size (QH (QL ⟨g,0,I⟩) n cap) n xs)
  (D:AH) (m c:Nat) (b:List AJ) (am:a.eval x=QH (QL D) m c) (ad:b.length=m*size) (ae:∀ j u,b[j]?=QL u->w.cell? (D.add j)=QL u) (H:∀ u∈b,u.oneCell'=AD)
  (X:n+m<=BG) (ab:(n+m)*E<=140737488355328) (Z:base<=w.1.size)
  (h:∀ g' cap' w',w'.ownsRow base e size (QH (QL ⟨g',0,I⟩) (n+m) cap') (n+m) (xs++b)->w.grownBy w' (QL g)->(g'=g\/g'=w.1.size)->FF P G Q rest (a.put o.dst (QH (QL ⟨g',0,I⟩) (n+m) cap')) w'):FF P G Q (o::rest) a w:=by
 refine wpList_plain ac λ_ Y=>?_;obtain⟨g',cap',w',ah,O,T,W⟩:=D4h (P:=P) w base t o.type e i z size E al hi an aj aa ao ak g n cap xs ag D m c b ad ae H X ab Z;unfold BU.wp execOp;simp only[af,resolve,invoke,builtin,Sem.run_bind,Sem.run_pure,Result.andThen_ok,List.map_toArray,JT,LJ,ai,am,ah];exact Y _ _ (h g' cap' w' O T W)
end
end Go

namespace Go.XB
open Go.RowKit
def MP.slbox (cs:Array AJ) (t:BS):MP:=⟨λv bs w=>∃ g,v=QH (QL ⟨g,0,I⟩) 1 1/\bs=[g]/\w.1[g]?=QL (AK cs t),λv bs w w' hb h=>by
 obtain⟨g,e,hz,hg⟩:=h;exact⟨g,e,hz,(hb.block g (E_ hg)).trans hg⟩⟩
section
variable {P:DZ} {l:List BU} {a0:Act}
theorem A1d {w0:J} {F:List DP->Prop} {o:BU} {os:List BU} {u:List DP} (m:DP) (O:Cong m (N_ o))
  (h:∀ (y:Nat->AJ) (z:Nat->List Nat) (w:J),Bw w0 w->(∀ k∈N_ o,(u.getD k (λ_=>MP.eq DU) y).p (y k) (z k) w) ->
   GQ o (GD l.toArray (L_ l y a0 (N_ o)).tmps)=AD/\∃ v w',(execOp (L_ l y a0 (N_ o)).eval o).run P w=.ok (.value v) w'/\Bw w w'/\∃ bs,(m y).p v bs w'/\∀ b∈bs,w.1.size<=b/\b<w'.1.size)
  (W:A4c P l w0 a0 F os (u++[m])):A4c P l w0 a0 F (o::os) u:=by
 refine⟨m,O,λy z w H T=>?_,W⟩;obtain⟨D,v,w',E,G⟩:=h y z w H T;rw[if_pos D];unfold B2b;rw[E];exact G
end
theorem A0a {w:J} {g:Nat} {arr:Array AJ} {t:BS} (h:w.1[g]?=QL (AK arr t)):∀ j u,arr.toList[j]?=QL u->w.cell? ((⟨g,0,I⟩:AH).add j)=QL u:=by
 intro j u b;have e:(⟨g,0,I⟩:AH).add j=⟨g,j,I⟩:=by unfold AH.add;split<;>simp_all
 rw[e];exact(B_ h (by simpa using b)).1
end Go.XB
namespace Go.Proofs.YtbkilakncnlebaaGreatDoor.X
open Go.RowKit Go.XB Go.XN Proofs.Tryz
attribute [local go_sem] L_ opAt N_ M_ Region.wanted yielded
attribute [local simp] N_ M_ MP.eq MP.agg MP.sl A0r
theorem D1n:(prog.info? 118).map (λi=>(i.zero,i.size,i.bytes))=QL (QL (AM #[AC AF,QH I 0 0,QH I 0 0,AC AF,QH I 0 0,QH I 0 0]),6,112):=kR

end Go.Proofs.YtbkilakncnlebaaGreatDoor.X

namespace Go.XN
open Go.XB
structure Q where
 n:Int
 d:Int
def Q.ok (q:Q):Bool:=AU (0<q.d)&&(AU (q.d<10 ^ 200)&&(AU (-(10 ^ 200)<q.n)&&AU (q.n<10 ^ 200)))
def toR (q:Q):TRat:=mkR q.n q.d
def E0z (q r:Q):Q:=⟨q.n*r.d+r.n*q.d,q.d*r.d⟩
def E3c (q r:Q):Q:=⟨q.n*r.d - r.n*q.d,q.d*r.d⟩
def C0q (q r:Q):Q:=⟨q.n*r.n,q.d*r.d⟩
def E6c (q:Q):Q:=⟨-q.n,q.d⟩
def D6g (q:Q):Q:=⟨q.d,q.n⟩
def qeq (q r:Q):Bool:=AU (q.n*r.d=r.n*q.d)
def A3u (r s:TRat):TRat:=if (J_ r&&J_ s)&&!s.num.mag.isEmpty then A0d r ⟨⟨s.1.1,s.2⟩,s.1.2⟩else A0h
end Go.XN
namespace Go.Proofs.YtbkilakncnlebaaGreatDoor.X
open Go.RowKit Go.XB Go.XN Proofs.Tryz
attribute [local go_sem] L_ opAt N_ M_ Region.wanted yielded
attribute [local simp] N_ M_ MP.eq MP.agg MP.sl A0r
theorem _root_.dK {p:Prop} (h:p:=by decide +kernel):p:=h
theorem E9h:(10:Int) ^ 200<pw 24:=dK
structure Q.Ok (q:Q):Prop where
 d0:0<q.d
 d1:q.d<10 ^ 200
 n0:-(10 ^ 200)<q.n
 n1:q.n<10 ^ 200
theorem Q.ok_iff {q:Q}:q.ok=AD↔Q.Ok q:=by
 unfold Q.ok;constructor;·intro h;simp only[CK,decide_eq_true_eq]at h;exact⟨h.1,h.2.1,h.2.2.1,h.2.2.2⟩
 intro h;simp only[CK,decide_eq_true_eq];exact⟨h.d0,h.d1,h.n0,h.n1⟩
theorem A8q {q:Q} (h:q.ok=AD):J_ (toR q)=AD:=by
 obtain⟨u,X,Y,Z⟩:=Q.ok_iff.1 h;have af:=E9h;obtain⟨g,a,b,ac,T,aa,ab,_,H,O⟩:=B6r (A:=q.n) u;have ae:b<=q.d:=by have:1*b<=g*b:=Int.mul_le_mul_of_nonneg_right oS oS;omega
 have ad:a.natAbs<=q.n.natAbs:=by rw[T,Int.natAbs_mul];exact Nat.le_mul_of_pos_left _ oS
 have D:toR q=⟨A0f a,dig b.natAbs⟩:=by unfold toR mkR;rw[H,O,if_pos ⟨len_le_iff.2 (by generalize (10:Int) ^ 200=G at *;omega),len_le_iff.2 (by generalize (10:Int) ^ 200=G at *;omega)⟩]
 unfold toR at D ⊢;rw[<-D1c u,D];have E:val (dig b.natAbs)=b:=by rw[A1j];omega
 cases W:dig b.natAbs with
 |nil=>rw[W]at E;simp[val]at E;omega
 |cons _ _=>rfl
theorem B2u {q:Q} (h:q.ok=AD):RatV (toR q):=ratOkB_iff.1 (A8q h)
theorem A6l {q:Q} (h:q.ok=AD):R_ (toR q)*q.d=q.n*T_ (toR q):=E8a (Q.ok_iff.1 h).d0 (A8q h)
theorem D9b {q r:Q} (b:q.ok=AD) (h:r.ok=AD) (u:(E0z q r).ok=AD):A0k (toR q) (toR r)=toR (E0z q r):=by
 have H:=A6l b;have O:=A6l h;have G:=A6l u;rw[E5r (A8q b) (A8q h)];refine A9v (B2u u) (FX (B2u b).den0 (B2u h).den0) ?_;have D:=(Q.ok_iff.1 b).d0;have E:=(Q.ok_iff.1 h).d0;have T:0<q.d*r.d:=FX D E;refine PF (a:=q.d*r.d) oS ?_;simp only[E0z]at G ⊢;grind
theorem E7d {q r:Q} (b:q.ok=AD) (h:r.ok=AD) (u:(E3c q r).ok=AD):A3t (toR q) (toR r)=toR (E3c q r):=by
 have H:=A6l b;have O:=A6l h;have G:=A6l u;unfold A3t;rw[A8q b,A8q h];show mkR _ _=_;refine A9v (B2u u) (FX (B2u b).den0 (B2u h).den0) ?_;have D:=(Q.ok_iff.1 b).d0;have E:=(Q.ok_iff.1 h).d0;have T:0<q.d*r.d:=FX D E;refine PF (a:=q.d*r.d) oS ?_;simp only[E3c]at G ⊢;grind
theorem C3v {q r:Q} (b:q.ok=AD) (h:r.ok=AD) (u:(C0q q r).ok=AD):A0d (toR q) (toR r)=toR (C0q q r):=by
 have H:=A6l b;have O:=A6l h;have G:=A6l u;unfold A0d;rw[A8q b,A8q h];show mkR _ _=_;refine A9v (B2u u) (FX (B2u b).den0 (B2u h).den0) ?_;have D:=(Q.ok_iff.1 b).d0;have E:=(Q.ok_iff.1 h).d0;have T:0<q.d*r.d:=FX D E;refine PF (a:=q.d*r.d) oS ?_;simp only[C0q]at G ⊢;grind
theorem B7t {q r:Q} (u:q.ok=AD) (b:r.ok=AD) (h:qeq q r=AD):toR q=toR r:=by
 have E:=A6l b;have e:q.n*r.d=r.n*q.d:=of_decide_eq_true h;refine A9v (B2u b) (Q.ok_iff.1 u).d0 ?_;have D:=(Q.ok_iff.1 b).d0;refine PF (a:=r.d) oS ?_;grind
theorem E6e {q:Q} (b:q.ok=AD):C3m (toR q)=toR (E6c q):=by
 have D:=A6l b;have V:=B2u b;unfold C3m;rw[A8q b];show(⟨A0f (-R_ (toR q)),(toR q).2⟩:TRat)=_;have ne:A0f (-R_ (toR q))=⟨!(toR q).1.1&&!(toR q).1.2.isEmpty,(toR q).1.2⟩:=B9l V.1;have u:RatV ⟨A0f (-R_ (toR q)),(toR q).2⟩:=by
  refine⟨?_,V.2,V.den0,?_,V.den24,?_⟩;·rw[ne,bigOkB_iff];refine⟨(bigOkB_iff.1 V.1).1,λh e=>?_⟩;simp at h;exact h.2 e
  ·rw[ne];exact V.num24
  rw[ne];exact V.one
 refine(A9v u (Q.ok_iff.1 b).d0 ?_).symm;show -q.n*T_ (toR q)=A0q (A0f (-R_ (toR q)))*q.d;rw[A5m];grind
theorem D6r {n:Int} (G:-1000000<n) (H:n<1000000):RatV (U_ n):=by
 have D:(dig n.natAbs).length<=24:=len_le_iff.2 (by have:=E9h;generalize pw 24=E at *;omega);refine⟨?_,?_,(by decide:0<val [1]),D,(by decide:[(1:Int)].length<=24),?_⟩
 ·rw[bigOkB_iff]
  refine⟨⟨by show(dig n.natAbs).length<=60;omega,A0j _⟩,λu e=>?_⟩;have O:n<0:=by simpa[U_,A0f]using u
  have b:=A1j n.natAbs;have h:dig n.natAbs=[]:=e;rw[h]at b;simp[val]at b;omega
 ·exact(natOkB_iff.1 (by decide:A3m [1]=AD)).2
 show BQ _ (val [1])=1;rw[show val [1]=1 by decide];exact Int.gcd_one
theorem B9z {n:Int} (b:-1000000<n) (h:n<1000000):U_ n=toR ⟨n,1⟩:=by
 refine(A9v (A:=n) (B:=1) (T:=U_ n) (D6r b h) dE ?_).symm;show n*val [1]=A0q (A0f n)*1;rw[A5m];simp[val]
theorem E0d {q r:Q} (H:q.ok=AD) (u:r.ok=AD) (E:0<r.n) (ad:(C0q q (D6g r)).ok=AD):A3u (toR q) (toR r)=toR (C0q q (D6g r)):=by
 have X:=A6l u;have V:=B2u u;obtain⟨T,W,ae,n1⟩:=Q.ok_iff.1 u;have aa:(D6g r).ok=AD:=Q.ok_iff.2 ⟨E,n1,by show -(10 ^ 200)<r.d;omega,W⟩;have Z:=V.den0;have h:0<R_ (toR r):=by
  have Y:0<R_ (toR r)*r.d:=by rw[X];exact FX E Z
  exact Int.pos_of_mul_pos_left Y T
 have G:(toR r).1.1=AF:=by
  cases b:(toR r).1.1 with
  |false=>rfl
  |true =>
   have:=S_ V.mag.1
   unfold R_ A0q at h
   rw[b]at h
   simp at h;omega
 have D:R_ (toR r)=val (toR r).1.2:=by unfold R_ A0q;rw[G];rfl
 have ac:(toR r).1.2.isEmpty=AF:=by
  cases b:(toR r).1.2 with
  |nil=>rw[D,b]at h;simp[val]at h
  |cons _ _=>rfl
 have ab:(⟨⟨(toR r).1.1,(toR r).2⟩,(toR r).1.2⟩:TRat)=toR (D6g r):=by
  have O:RatV ⟨⟨(toR r).1.1,(toR r).2⟩,(toR r).1.2⟩:=by
   refine⟨?_,V.mag,by rw[<-D];exact h,V.den24,V.num24,?_⟩;·rw[bigOkB_iff];refine⟨⟨by have:=V.den24;show(toR r).2.length<=60;omega,V.2⟩,λb=>?_⟩;rw[G]at b;cases b
   show BQ (val (toR r).2) (val (toR r).1.2)=1;rw[Int.gcd_comm];exact V.one
  refine(A9v O (show 0<(D6g r).d from E) ?_).symm;show r.d*val (toR r).1.2=(if (toR r).1.1 then -val (toR r).2 else val (toR r).2)*r.n;rw[G,<-D];show r.d*R_ (toR r)=T_ (toR r)*r.n;grind
 unfold A3u;rw[A8q H,A8q u,ac,ab];exact C3v H aa ad
theorem D4z {q:Q} (u:q.ok=AD):A9m (toR q)=sgn q.n:=by
 have D:=A6l u;have V:=B2u u;have E:=(Q.ok_iff.1 u).d0;have H:=V.den0;unfold A9m;rw[A8q u];show sgn (R_ (toR q))=sgn q.n;have G:0<T_ (toR q):=H;rcases Int.lt_trichotomy q.n 0 with b|b|b
 ·have:R_ (toR q)<0:=by
   rcases Int.lt_or_le (R_ (toR q)) 0 with h|h
   ·exact h
   have:=Int.mul_nonneg h (Int.le_of_lt E)
   have O:=FX (by omega:0 < -q.n) G
   have e:-q.n*T_ (toR q) = -(q.n*T_ (toR q)):=by rw[Int.neg_mul]
   omega
  unfold sgn;rw[if_pos this,if_pos b]
 ·have:R_ (toR q)=0:=by
   rw[b,Int.zero_mul]at D
   exact(Int.mul_eq_zero.1 D).resolve_right oS
  rw[this,b]
 ·have:0<R_ (toR q):=by
   have h:0<R_ (toR q)*q.d:=by rw[D];exact FX b G
   exact Int.pos_of_mul_pos_left h E
  rw[B5h this,B5h b]
theorem ix0 (a b c:Int) (w:J):Sem.run prog (Instr.index 174 (AM #[N QO a,N QO b,N QO c]) (N QO 0)) w=.ok (N QO a) w:=kR
theorem ix1 (a b c:Int) (w:J):Sem.run prog (Instr.index 174 (AM #[N QO a,N QO b,N QO c]) (N QO 1)) w=.ok (N QO b) w:=kR
theorem ix2 (a b c:Int) (w:J):Sem.run prog (Instr.index 174 (AM #[N QO a,N QO b,N QO c]) (N QO 2)) w=.ok (N QO c) w:=kR
def cnr (t:TTri):Nat->Int
 |0=>t.a
 |1=>t.b
 |_=>t.c
theorem ixn (t:TTri) {i:Nat} (h:i<3) (w:J):Sem.run prog (Instr.index 174 (AM #[N QO t.a,N QO t.b,N QO t.c]) (N QO i)) w=.ok (N QO (cnr t i)) w:=by
 obtain rfl|rfl|rfl:i=0\/i=1\/i=2:=oS;·exact ix0 _ _ _ w
 ·exact ix1 _ _ _ w
 exact ix2 _ _ _ w
theorem C7j {t:TTri} {w:J} {g:Nat} (h:w.cell? ⟨g,0,I⟩=QL (N QO t.a)/\w.cell? ⟨g,1,I⟩=QL (N QO t.b)/\w.cell? ⟨g,2,I⟩=QL (N QO t.c)) {i:Nat} (hi:i<3):w.cell? ⟨g,i,I⟩=QL (N QO (cnr t i)):=by
 obtain rfl|rfl|rfl:i=0\/i=1\/i=2:=oS;·exact h.1
 ·exact h.2.1
 exact h.2.2
theorem C3u {t:TTri} (h:I64 t.a/\I64 t.b/\I64 t.c):∀ i,I64 (cnr t i)
 |0=>h.1
 |1=>h.2.1
 |_+2=>h.2.2
theorem F1e {i:Nat} (h:i<3):(((i:Int)+1).tmod 3=((i+1) % 3:Nat)/\((i:Int)+2).tmod 3=((i+2) % 3:Nat))/\(i+1) % 3<3/\(i+2) % 3<3:=by
 obtain rfl|rfl|rfl:i=0\/i=1\/i=2:=oS;all_goals exact⟨⟨rfl,rfl⟩,dE,dE⟩
theorem E1u {t:TTri} {w:J} {g:Nat} {ty:BS} (h:w.1[g]?=QL (AK #[N QO t.a,N QO t.b,N QO t.c] ty)) :
  (w.cell? ⟨g,0,I⟩=QL (N QO t.a)/\w.cell? ⟨g,1,I⟩=QL (N QO t.b)/\w.cell? ⟨g,2,I⟩=QL (N QO t.c))/\g<w.1.size/\∀ {i:Nat} {a:Int},i<3->cnr t i=a->w.cell? ⟨g,i,I⟩=QL (N QO a) :=
 have d:=⟨(B_ h (j:=0) rfl).1,(B_ h (j:=1) rfl).1,(B_ h (j:=2) rfl).1⟩
 ⟨d,E_ h,λhi e=>e ▸ C7j d hi⟩
theorem C5r (v:AJ) (n:Nat) (xs ys:List Int) (a b c:Int) (w:J) (aI:Plc w v n xs ys) (aJ:A6a xs) (aK:A6a ys) (Y:0<=a/\a<n) (Z:0<=b/\b<n) (ab:0<=c/\c<n) (aL:A5u xs ys a b c=0) (T:inB (min (at0 xs a) (at0 xs b)) (at0 xs c) (max (at0 xs a) (at0 xs b))=AF) :
  AR prog 173 #[v,N QO a,N QO b,N QO c] w (A0b w (AC (A5t xs ys a b c))):=by
 have aV:=A_ aI;obtain⟨A,aY,aD,a3,aZ,aE,a4,a1,a7,a8,rfl,W,X⟩:=aI;have aU:=A_ (A3v _ n xs ys a b c (w.alloc (AK #[QH A n aY,QH (QL ⟨aD,a3,I⟩) n aZ,QH (QL ⟨aE,a4,I⟩) n a1] 170)) (aV.below (Below.box _)) aJ aK Y Z ab);have aC:=A_ aL;obtain⟨G,rfl⟩:=LN Y.1;obtain⟨H,rfl⟩:=LN Z.1;obtain⟨O,rfl⟩:=LN ab.1;obtain⟨_,_,ao,u,bi,aM,_,ba⟩:=DB W (by omega:G<n);cases u;obtain⟨_,_,ap,u,_,aN,_,bc⟩:=DB W (by omega:H<n);cases u;obtain⟨_,_,aq,u,_,aO,_,bd⟩:=DB W (by omega:O<n);cases u;obtain⟨_,_,ar,u,bl,aP,_,be⟩:=DB X (by omega:G<n);cases u;obtain⟨_,_,au,u,_,aQ,_,bf⟩:=DB X (by omega:H<n);cases u;obtain⟨_,_,aw,u,_,aR,_,bg⟩:=DB X (by omega:O<n);cases u;have ah:at0 xs G=ao:=by unfold at0;simp[II,aM]
 have ai:at0 xs H=ap:=by unfold at0;simp[II,aN]
 have aj:at0 xs O=aq:=by unfold at0;simp[II,aO]
 have ax:at0 ys G=ar:=by unfold at0;simp[II,aP]
 have ay:at0 ys H=au:=by unfold at0;simp[II,aQ]
 have az:at0 ys O=aw:=by unfold at0;simp[II,aR]
 rw[ah,ai,aj]at T;have aA:=A_ T;obtain⟨lx,ac⟩:∃ l,min ao ap=l:=⟨_,rfl⟩
 obtain⟨am,ad⟩:∃ l,max ao ap=l:=⟨_,rfl⟩
 obtain⟨aS,ak⟩:∃ l,min ar au=l:=⟨_,rfl⟩
 obtain⟨aT,al⟩:∃ l,max ar au=l:=⟨_,rfl⟩
 rw[ac,ad]at aA T;have aB:=A_ (show(inB lx aq am&&inB aS aw aT)=A5t xs ys G H O by unfold A5t;rw[ah,ai,aj,ax,ay,az,aC.o,ac,ad,ak,al];simp);have aW:=A_ ac;have aX:=A_ ad;have a5:=A_ ak;have a6:=A_ al;obtain⟨a9,aF⟩:∃ b,inB aS aw aT=b:=⟨_,rfl⟩
 rw[aF,T]at aB;have bo:(G:Int)<n:=Y.2;have bp:(H:Int)<n:=Z.2;have bq:(O:Int)<n:=ab.2;clear W X aM aN aO aP aQ aR aJ aK Y Z ab aL aF T ac ad ak al ah ai aj ax ay az;go_enter func173,ntmps173;go_wp2_with fail;have C:=aU.o;rw[aC.o]at C;refine C.mono ?_;clear C;rintro _ an ⟨rfl,aa⟩;obtain⟨bm,bn⟩:=F_ aa;have br:w.1.size<an.1.size:=ltg aa;have bh:aD<an.1.size:=by have:=aa.size;simp at this;omega
 have bj:aE<an.1.size:=by have:=aa.size;simp at this;omega
 go_wp2_with fail;refine A0g ?_;iterate 15 refine C_ _ ?_
 refine A2b (N QO lx) ?_ ?_;·intro af ag ae E D;obtain⟨aG,aH⟩:=F_ E;simp at D;refine⟨gD,?_⟩;go_simp;(rw[<-aW.o];split<;>omega)
 iterate 10 refine C_ _ ?_
 refine A2b (N QO am) ?_ ?_;·intro af ag ae E D;obtain⟨aG,aH⟩:=F_ E;simp at D;refine⟨gD,?_⟩;go_simp;(rw[<-aX.o];split<;>omega)
 refine D_ (MP.eq (AC AF)) ?_ ?_;·intro af ag ae E D;obtain⟨aG,aH⟩:=F_ E;simp at D;refine G_ ?_;exact A0i (by have C:=A0s aq lx am ae;rw[aA.o]at C;exact C)
 refine C_ _ ?_;iterate 28 apply A4m;case h =>intro af ag ae E D;simp at D;go_simp;first|done|(simp[DU];done)
 iterate 2 refine C_ _ ?_
 intro af ag wa E D a2;clear a2;simp at D;go_simp;clear D;go_wp2;go_ret;rw[<-aB.o];exact⟨sI,Below.go⟩

theorem C8j (v:AJ) (n:Nat) (xs ys:List Int) (a b c:Int) (w:J) (aJ:Plc w v n xs ys) (aK:A6a xs) (aL:A6a ys) (ac:0<=a/\a<n) (ad:0<=b/\b<n) (af:0<=c/\c<n) (aM:A5u xs ys a b c=0) (X:inB (min (at0 xs a) (at0 xs b)) (at0 xs c) (max (at0 xs a) (at0 xs b))=AD) :
  AR prog 173 #[v,N QO a,N QO b,N QO c] w (A0b w (AC (A5t xs ys a b c))):=by
 have aV:=A_ aJ;obtain⟨A,a2,aH,a6,a3,aI,a7,a4,a8,a9,rfl,aa,ab⟩:=aJ;have aU:=A_ (A3v _ n xs ys a b c (w.alloc (AK #[QH A n a2,QH (QL ⟨aH,a6,I⟩) n a3,QH (QL ⟨aI,a7,I⟩) n a4] 170)) (aV.below (Below.box _)) aK aL ac ad af);have aG:=A_ aM;obtain⟨G,rfl⟩:=LN ac.1;obtain⟨H,rfl⟩:=LN ad.1;obtain⟨O,rfl⟩:=LN af.1;obtain⟨_,_,aw,D,bi,aN,_,ba⟩:=DB aa (by omega:G<n);cases D;obtain⟨_,_,ax,D,_,aO,_,bc⟩:=DB aa (by omega:H<n);cases D;obtain⟨_,_,ay,D,_,aP,_,bd⟩:=DB aa (by omega:O<n);cases D;obtain⟨_,_,az,D,bl,aQ,_,be⟩:=DB ab (by omega:G<n);cases D;obtain⟨_,_,aA,D,_,aR,_,bf⟩:=DB ab (by omega:H<n);cases D;obtain⟨_,_,ak,D,_,aS,_,bg⟩:=DB ab (by omega:O<n);cases D;have al:at0 xs G=aw:=by unfold at0;simp[II,aN]
 have am:at0 xs H=ax:=by unfold at0;simp[II,aO]
 have an:at0 xs O=ay:=by unfold at0;simp[II,aP]
 have aB:at0 ys G=az:=by unfold at0;simp[II,aQ]
 have aC:at0 ys H=aA:=by unfold at0;simp[II,aR]
 have aD:at0 ys O=ak:=by unfold at0;simp[II,aS]
 rw[al,am,an]at X;have aE:=A_ X;obtain⟨lx,ag⟩:∃ l,min aw ax=l:=⟨_,rfl⟩
 obtain⟨ar,ah⟩:∃ l,max aw ax=l:=⟨_,rfl⟩
 obtain⟨ai,ap⟩:∃ l,min az aA=l:=⟨_,rfl⟩
 obtain⟨aj,aq⟩:∃ l,max az aA=l:=⟨_,rfl⟩
 rw[ag,ah]at aE X;have aF:=A_ (show(inB lx ay ar&&inB ai ak aj)=A5t xs ys G H O by unfold A5t;rw[al,am,an,aB,aC,aD,aG.o,ag,ah,ap,aq];simp);have aW:=A_ ag;have aY:=A_ ah;have aX:=A_ ap;have aZ:=A_ aq;obtain⟨a1,ao⟩:∃ b,inB ai ak aj=b:=⟨_,rfl⟩
 have aT:=A_ ao;rw[ao,X]at aF;have bo:(G:Int)<n:=ac.2;have bp:(H:Int)<n:=ad.2;have bq:(O:Int)<n:=af.2;clear aa ab aN aO aP aQ aR aS aK aL ac ad af aM ao X ag ah ap aq al am an aB aC aD;go_enter func173,ntmps173;go_wp2_with fail;have C:=aU.o;rw[aG.o]at C;refine C.mono ?_;clear C;rintro _ au ⟨rfl,ae⟩;obtain⟨bm,bn⟩:=F_ ae;have br:w.1.size<au.1.size:=ltg ae;have bh:aH<au.1.size:=by have:=ae.size;simp at this;omega
 have bj:aI<au.1.size:=by have:=ae.size;simp at this;omega
 go_wp2_with fail;refine A0g ?_;iterate 15 refine C_ _ ?_
 refine A2b (N QO lx) ?_ ?_;·intro T W E u h;obtain⟨Y,Z⟩:=F_ u;simp at h;refine⟨gD,?_⟩;go_simp;(rw[<-aW.o];split<;>omega)
 iterate 10 refine C_ _ ?_
 refine A2b (N QO ar) ?_ ?_;·intro T W E u h;obtain⟨Y,Z⟩:=F_ u;simp at h;refine⟨gD,?_⟩;go_simp;(rw[<-aY.o];split<;>omega)
 refine D_ (MP.eq (AC AD)) ?_ ?_;·intro T W E u h;obtain⟨Y,Z⟩:=F_ u;simp at h;refine G_ ?_;exact A0i (by have C:=A0s ay lx ar E;rw[aE.o]at C;exact C)
 refine C_ _ ?_;iterate 15 refine C_ _ ?_
 refine A2b (N QO ai) ?_ ?_;·intro T W E u h;obtain⟨Y,Z⟩:=F_ u;simp at h;refine⟨gD,?_⟩;go_simp;(rw[<-aX.o];split<;>omega)
 iterate 10 refine C_ _ ?_
 refine A2b (N QO aj) ?_ ?_;·intro T W E u h;obtain⟨Y,Z⟩:=F_ u;simp at h;refine⟨gD,?_⟩;go_simp;(rw[<-aZ.o];split<;>omega)
 refine D_ (MP.eq (AC a1)) ?_ ?_;·intro T W E u h;obtain⟨Y,Z⟩:=F_ u;simp at h;refine G_ ?_;exact A0i (by have C:=A0s ak ai aj E;rw[aT.o]at C;exact C)
 iterate 2 refine C_ _ ?_
 intro T W wa u h a5;clear a5;simp at h;go_simp;clear h;go_wp2;go_ret;rw[<-aF.o];exact⟨sI,Below.go⟩
theorem B2s (v:AJ) (n:Nat) (xs ys:List Int) (a b c:Int) (w:J) (G:Plc w v n xs ys) (H:A6a xs) (O:A6a ys) (u:0<=a/\a<n) (D:0<=b/\b<n) (E:0<=c/\c<n) :
  AR prog 173 #[v,N QO a,N QO b,N QO c] w (A0b w (AC (A5t xs ys a b c))):=by
 by_cases h:A5u xs ys a b c=0
 ·cases W:inB (min (at0 xs a) (at0 xs b)) (at0 xs c) (max (at0 xs a) (at0 xs b))
  ·exact C5r v n xs ys a b c w G H O u D E h W
  exact C8j v n xs ys a b c w G H O u D E h W
 have Z:=A_ G;obtain⟨A,ac,aa,ah,ad,ab,ai,ae,aj,ak,rfl,af,ag⟩:=G;have X:=A_ (A3v _ n xs ys a b c (w.alloc (AK #[QH A n ac,QH (QL ⟨aa,ah,I⟩) n ad,QH (QL ⟨ab,ai,I⟩) n ae] 170)) (Z.below (Below.box _)) H O u D E);have Y:=A_ (by unfold A5t;rw[decide_eq_false h];rfl:AF=A5t xs ys a b c);obtain⟨r,T⟩:∃ r,A5u xs ys a b c=r:=⟨_,rfl⟩
 rw[T]at h;have R:=A_ T;have am:(r==0)=AF:=by simp[h]
 clear af ag H O u D E T;go_enter func173,ntmps173;go_wp2_with fail;have C:=X.o;rw[R.o]at C;refine C.mono ?_;clear C;rintro _ an ⟨rfl,al⟩;go_wp2;go_ret;rw[<-Y.o];exact⟨rfl,Below.go⟩
end Go.Proofs.YtbkilakncnlebaaGreatDoor.X

namespace Go.XN
open Go.XB
structure LF where
 a:Int
 b:Int
 c:Int
 d:Int
 deriving DecidableEq
abbrev A2c:=Int×Int×Int
def A4z:LF:=⟨0,0,0,0⟩
def A4k:LF:=⟨0,0,0,1⟩
def LF.ok (l:LF):Bool:=Nat.ble 1 l.d.toNat&&Nat.ble (l.a.natAbs+(l.b.natAbs+(l.c.natAbs+l.d.natAbs))) 100000000000000000000000000000000000000000000000000000000000000000000000000000000
def LF.at (l:LF) (s:A2c):Q:=⟨l.a*s.1+(l.b*s.2.1+l.c*s.2.2),l.d⟩
structure SrcIn (s:A2c):Prop where
 a0:-3<=s.1
 a1:s.1<=3
 b0:-3<=s.2.1
 b1:s.2.1<=3
 c0:-3<=s.2.2
 c1:s.2.2<=3
def lfG (l:LF):Nat:=Nat.gcd (Nat.gcd l.a.natAbs l.b.natAbs) (Nat.gcd l.c.natAbs l.d.natAbs)
def E9l (g:Nat) (l:LF):LF:=⟨l.a / g,l.b / g,l.c / g,l.d / g⟩
def D9v (l:LF):LF:=bif Nat.beq (lfG l) 1 then l else E9l (lfG l) l
def D1s (g:Bool) (l:LF):LF:=bif g&&l.ok then D9v l else A4z
def C8u (l m:LF):LF:=D1s (l.ok&&m.ok) ⟨l.a*m.d+m.a*l.d,l.b*m.d+m.b*l.d,l.c*m.d+m.c*l.d,l.d*m.d⟩
def E1z (l m:LF):LF:=D1s (l.ok&&m.ok) ⟨l.a*m.d - m.a*l.d,l.b*m.d - m.b*l.d,l.c*m.d - m.c*l.d,l.d*m.d⟩
def E8k (l:LF):LF:=D1s l.ok ⟨-l.a,-l.b,-l.c,l.d⟩
def qOf (k:TRat):Q:=⟨R_ k,T_ k⟩
def E0e (k:TRat):Bool:=J_ k&&(qOf k).ok
def A7p (k:TRat) (l:LF):LF:=D1s (E0e k&&l.ok) ⟨R_ k*l.a,R_ k*l.b,R_ k*l.c,T_ k*l.d⟩
def E6y (l:LF) (k:TRat):LF:=D1s ((E0e k&&AU (0<R_ k))&&l.ok) ⟨T_ k*l.a,T_ k*l.b,T_ k*l.c,R_ k*l.d⟩
def LF.zero (l:LF):Bool:=l.ok&&(AU (l.a=0)&&(AU (l.b=0)&&AU (l.c=0)))
def leq (l m:LF):Bool:=(l.ok&&m.ok)&&(AU (l.a*m.d=m.a*l.d)&&(AU (l.b*m.d=m.b*l.d)&&AU (l.c*m.d=m.c*l.d)))
end Go.XN
namespace Go.Proofs.YtbkilakncnlebaaGreatDoor.X
open Go.RowKit Go.XB Go.XN
theorem F0k:(100000000000000000000000000000000000000000000000000000000000000000000000000000000:Int)<10 ^ 190:=dK
theorem LF.ok_iff {l:LF} (h:l.ok=AD):0<l.d/\(-(10 ^ 190)<l.a/\l.a<10 ^ 190)/\(-(10 ^ 190)<l.b/\l.b<10 ^ 190)/\(-(10 ^ 190)<l.c/\l.c<10 ^ 190)/\(-(10 ^ 190)<l.d/\l.d<10 ^ 190):=by
 unfold LF.ok at h;rw[CK]at h;have u:=Nat.le_of_ble_eq_true h.1;have D:=Nat.le_of_ble_eq_true h.2;have E:=F0k;generalize (10:Int) ^ 190=b at *;omega
theorem B0z {x s T:Int} (b:-T<x) (h:x<T) (u:-3<=s) (D:s<=3):-(3*T)<x*s/\x*s<3*T:=by
 obtain rfl|rfl|rfl|rfl|rfl|rfl|rfl:s = -3\/s = -2\/s = -1\/s=0\/s=1\/s=2\/s=3:=oS;all_goals constructor<;>omega
theorem E9g:9*(10:Int) ^ 190<10 ^ 200:=dK
theorem LF.at_ok {l:LF} {s:A2c} (h:l.ok=AD) (b:SrcIn s):(l.at s).ok=AD:=by
 obtain⟨O,⟨a0,D⟩,⟨E,b1⟩,⟨G,H⟩,⟨Z,aa⟩⟩:=LF.ok_iff h;have ab:=E9g;have T:=B0z a0 D b.a0 b.a1;have W:=B0z E b1 b.b0 b.b1;have X:=B0z G H b.c0 b.c1;refine Q.ok_iff.2 ⟨O,?_,?_,?_⟩;·show l.d<10 ^ 200;clear T W X;generalize (10:Int) ^ 200=S at *;generalize (10:Int) ^ 190=u at *;omega
 ·show -(10 ^ 200)<l.a*s.1+(l.b*s.2.1+l.c*s.2.2)
  generalize l.a*s.1=Y at *;generalize l.b*s.2.1=v at *;generalize l.c*s.2.2=t at *;generalize (10:Int) ^ 200=S at *;generalize (10:Int) ^ 190=u at *;omega
 show l.a*s.1+(l.b*s.2.1+l.c*s.2.2)<10 ^ 200;generalize l.a*s.1=Y at *;generalize l.b*s.2.1=v at *;generalize l.c*s.2.2=t at *;generalize (10:Int) ^ 200=S at *;generalize (10:Int) ^ 190=u at *;omega
theorem C3z {g:Nat} {a:Int} (h:g∣a.natAbs):a=(g:Int)*(a / g):=(Int.mul_ediv_cancel' (Int.ofNat_dvd_left.2 h)).symm
theorem E4s {l:LF} {s:A2c} (h:l.ok=AD) (b:(D9v l).ok=AD) (u:SrcIn s):toR ((D9v l).at s)=toR (l.at s):=by
 unfold D9v at b ⊢;cases Y:Nat.beq (lfG l) 1 with
 |true=>rfl
 |false =>
  rw[Y]at b
  simp only[cond_false]at b ⊢
  have O:lfG l∣l.a.natAbs:=Nat.dvd_trans (Nat.gcd_dvd_left _ _) (Nat.gcd_dvd_left _ _)
  have T:lfG l∣l.b.natAbs:=Nat.dvd_trans (Nat.gcd_dvd_left _ _) (PW _ _)
  have W:lfG l∣l.c.natAbs:=Nat.dvd_trans (PW _ _) (Nat.gcd_dvd_left _ _)
  have X:lfG l∣l.d.natAbs:=Nat.dvd_trans (PW _ _) (PW _ _)
  have D:=C3z O;have E:=C3z T;have G:=C3z W;have H:=C3z X
  refine B7t (LF.at_ok b u) (LF.at_ok h u) ?_
  unfold qeq LF.at E9l
  refine decide_eq_true ?_
  show(l.a / (lfG l:Int)*s.1+(l.b / (lfG l:Int)*s.2.1+l.c / (lfG l:Int)*s.2.2))*l.d=(l.a*s.1+(l.b*s.2.1+l.c*s.2.2))*(l.d / (lfG l:Int))
  generalize l.a / (lfG l:Int)=Z at *
  generalize l.b / (lfG l:Int)=aa at *
  generalize l.c / (lfG l:Int)=ab at *
  generalize l.d / (lfG l:Int)=ac at *
  rw[D,E,G,H]
  grind
def Rep (s:A2c) (l:LF) (r:TRat):Prop:=l.ok=AD->r=toR (l.at s)
theorem Rep.bad {s:A2c} {r:TRat}:Rep s A4z r:=λh=>by cases h
theorem Rep.mk {s:A2c} {l:LF} {r:TRat} {g:Bool} (D:SrcIn s) (h:g=AD->l.ok=AD->r=toR (l.at s)):Rep s (D1s g l) r:=by
 unfold D1s;cases b:g&&l.ok with
 |false=>exact Rep.bad
 |true =>
  rw[CK]at b
  intro u
  exact(h b.1 b.2).trans (E4s b.2 u D).symm
theorem Rep.val {s:A2c} {l:LF} {r:TRat} (h:Rep s l r) (hs:SrcIn s) (hk:l.ok=AD):J_ r=AD:=by rw[h hk];exact A8q (LF.at_ok hk hs)
theorem Rep.add {s:A2c} {l m:LF} {r q:TRat} (h:SrcIn s) (D:Rep s l r) (E:Rep s m q):Rep s (C8u l m) (A0k r q):=by
 refine Rep.mk h λb G=>?_;rw[CK]at b;have e:LF.at ⟨l.a*m.d+m.a*l.d,l.b*m.d+m.b*l.d,l.c*m.d+m.c*l.d,l.d*m.d⟩ s=E0z (l.at s) (m.at s):=by unfold LF.at E0z;congr 1;grind
 have u:=LF.at_ok G h;rw[e]at u ⊢;rw[D b.1,E b.2];exact D9b (LF.at_ok b.1 h) (LF.at_ok b.2 h) u
theorem Rep.sub {s:A2c} {l m:LF} {r q:TRat} (h:SrcIn s) (D:Rep s l r) (E:Rep s m q):Rep s (E1z l m) (A3t r q):=by
 refine Rep.mk h λb G=>?_;rw[CK]at b;have e:LF.at ⟨l.a*m.d - m.a*l.d,l.b*m.d - m.b*l.d,l.c*m.d - m.c*l.d,l.d*m.d⟩ s=E3c (l.at s) (m.at s):=by unfold LF.at E3c;congr 1;grind
 have u:=LF.at_ok G h;rw[e]at u ⊢;rw[D b.1,E b.2];exact E7d (LF.at_ok b.1 h) (LF.at_ok b.2 h) u
theorem Rep.neg {s:A2c} {l:LF} {r:TRat} (h:SrcIn s) (u:Rep s l r):Rep s (E8k l) (C3m r):=by
 refine Rep.mk h λb D=>?_;have e:LF.at ⟨-l.a,-l.b,-l.c,l.d⟩ s=E6c (l.at s):=by unfold LF.at E6c;congr 1;grind
 rw[e,u b];exact E6e (LF.at_ok b h)
theorem C4c {k:TRat} (h:J_ k=AD):toR (qOf k)=k:=by
 have V:=ratOkB_iff.1 h;exact A9v V V.den0 rfl
theorem C0u {k:TRat}:E0e k=AD↔J_ k=AD/\(qOf k).ok=AD:=by unfold E0e;simp
theorem Rep.scale {s:A2c} {k:TRat} {l:LF} {r:TRat} (h:SrcIn s) (D:Rep s l r):Rep s (A7p k l) (A0d k r):=by
 refine Rep.mk h λb E=>?_;rw[CK,C0u]at b;have e:LF.at ⟨R_ k*l.a,R_ k*l.b,R_ k*l.c,T_ k*l.d⟩ s=C0q (qOf k) (l.at s):=by unfold LF.at C0q qOf;congr 1;grind
 have u:=LF.at_ok E h;rw[e]at u ⊢;rw[D b.2];conv=>lhs;rw[<-C4c b.1.1]
 exact C3v b.1.2 (LF.at_ok b.2 h) u
theorem Rep.scale' {s:A2c} {k:TRat} {l:LF} {r:TRat} (h:SrcIn s) (D:Rep s l r):Rep s (A7p k l) (A0d r k):=by
 refine Rep.mk h λb E=>?_;rw[CK,C0u]at b;have e:LF.at ⟨R_ k*l.a,R_ k*l.b,R_ k*l.c,T_ k*l.d⟩ s=C0q (l.at s) (qOf k):=by unfold LF.at C0q qOf;congr 1<;>grind
 have u:=LF.at_ok E h;rw[e]at u ⊢;rw[D b.2];conv=>lhs;rw[<-C4c b.1.1]
 exact C3v (LF.at_ok b.2 h) b.1.2 u
theorem Rep.div {s:A2c} {k:TRat} {l:LF} {r:TRat} (h:SrcIn s) (D:Rep s l r):Rep s (E6y l k) (A3u r k):=by
 refine Rep.mk h λb E=>?_;rw[CK,CK,C0u,decide_eq_true_eq]at b;have e:LF.at ⟨T_ k*l.a,T_ k*l.b,T_ k*l.c,R_ k*l.d⟩ s=C0q (l.at s) (D6g (qOf k)):=by unfold LF.at C0q D6g qOf;congr 1<;>grind
 have u:=LF.at_ok E h;rw[e]at u ⊢;rw[D b.2];conv=>lhs;rw[<-C4c b.1.1.1]
 exact E0d (LF.at_ok b.2 h) b.1.1.2 b.1.2 u
theorem Rep.zero {s:A2c}:Rep s A4k (U_ 0):=λ_=>by
 rw[B9z (n:=0) dE dE]
 show toR ⟨0,1⟩=toR ⟨0*s.1+(0*s.2.1+0*s.2.2),1⟩
 simp
theorem Rep.is_zero {s:A2c} {l:LF} {r:TRat} (u:SrcIn s) (h:Rep s l r) (b:l.zero=AD):J_ r=AD/\A9m r=0:=by
 unfold LF.zero at b;simp only[CK,decide_eq_true_eq]at b;refine⟨h.val u b.1,?_⟩;rw[h b.1,D4z (LF.at_ok b.1 u)];unfold LF.at;rw[b.2.1,b.2.2.1,b.2.2.2];simp[sgn]
theorem Rep.eq {s:A2c} {l m:LF} {r q:TRat} (h:SrcIn s) (u:Rep s l r) (D:Rep s m q) (b:leq l m=AD):r=q:=by
 unfold leq at b;simp only[CK,decide_eq_true_eq]at b;obtain⟨⟨k1,k2⟩,E,G,H⟩:=b;rw[u k1,D k2];refine B7t (LF.at_ok k1 h) (LF.at_ok k2 h) (decide_eq_true ?_);unfold LF.at;show(l.a*s.1+(l.b*s.2.1+l.c*s.2.2))*m.d=(m.a*s.1+(m.b*s.2.1+m.c*s.2.2))*l.d;grind
end Go.Proofs.YtbkilakncnlebaaGreatDoor.X

namespace Go
section
variable {P:DZ}
theorem B0y {w:J} {G:Array BU} {o:BU} {a:Act} {K:Act->J->Prop} {Q:Exit->Act->J->Prop} {H:Prop} (ac:o.guard=I) (s x:Operand) (t:BS)
  (af:o.op=.call { callee:=.builtin .append,args:=#[s,x],argTypes:=#[t,t] })
  (base:Nat) (e:BS) (i:TypeInfo) (z:AJ) (size E:Nat) (al:P.underlying t=QL (.slice e)) (hi:P.info? e=QL i) (ao:i.zero=QL z)
  (aj:i.size=size) (aa:i.bytes=E) (ap:z.cells.size=size) (ak:0<size)
  (g n cap:Nat) (xs:List AJ) (ai:a.eval s=QH (QL ⟨g,0,I⟩) n cap) (ag:w.ownsRow base e size (QH (QL ⟨g,0,I⟩) n cap) n xs)
  (D:AH) (m c:Nat) (b:List AJ) (an:a.eval x=QH (QL D) m c) (ad:b.length=m*size) (ae:∀ j u,b[j]?=QL u->w.cell? (D.add j)=QL u) (O:∀ u∈b,u.oneCell'=AD)
  (Y:n+m<=BG) (ab:(n+m)*E<=140737488355328) (Z:base<=w.1.size)
  (h:∀ g' cap' w',w'.ownsRow base e size (QH (QL ⟨g',0,I⟩) (n+m) cap') (n+m) (xs++b)->w.grownBy w' (QL g)->(g'=g\/g'=w.1.size)->K (a.put o.dst (QH (QL ⟨g',0,I⟩) (n+m) cap')) w') :
  if GQ o (GD G a.tmps)=AD then BU.wp P o a w K Q else H:=by
 have am:GQ o (GD G a.tmps)=AD:=by simp[GQ,ac]
 rw[if_pos am];obtain⟨g',cap',w',ah,T,W,X⟩:=D4h (P:=P) w base t o.type e i z size E al hi ao aj aa ap ak g n cap xs ag D m c b ad ae O Y ab Z;unfold BU.wp execOp;simp only[af,resolve,invoke,builtin,Sem.run_bind,Sem.run_pure,Result.andThen_ok,List.map_toArray,JT,LJ,ai,an,ah];exact h g' cap' w' T W X
end
end Go

namespace Go.Proofs.YtbkilakncnlebaaGreatDoor.X
open Go.RowKit Go.XB Go.XN Proofs.Tryz
attribute [local go_sem] L_ opAt N_ M_ Region.wanted yielded
attribute [local simp] N_ M_ MP.eq MP.agg MP.sl A0r
theorem D2d (v1 v2:AJ) (x y:TBigInt) (b1 b2:List Nat) (w:J) (X:Agg w v1 x b1) (Y:Agg w v2 y b2) (E:A2j x=AD) (G:A2j y=AD) (af:y.mag≠[]) :
  AR prog 121 #[v1,v2] w (A0c w (mkR (C8r (x.neg != y.neg) x.mag) (val y.mag))):=by
 have al:=A_ X;have am:=A_ Y;obtain⟨Z,n1,ac,aU,rfl,rfl,W⟩:=TBigInt.agg X;obtain⟨aa,n2,ad,aV,rfl,rfl,D⟩:=TBigInt.agg Y;have au:=A_ W;have aw:=A_ D;have aq:=A_ E;have ar:=A_ G;have ag:=A_ (bigOkB_iff.1 E).1;have ah:=A_ (bigOkB_iff.1 G).1;have ao:=A_ (by rw[<-W.1];have:=(bigOkB_iff.1 E).1.1;omega:n1<=65536);have ap:=A_ (by rw[<-D.1];have:=(bigOkB_iff.1 G).1.1;omega:n2<=65536);have an:=A_ (by rw[<-D.1];exact List.length_pos_iff.2 af:0<n2);clear W D X Y E G af;go_enter func121,ntmps121;go_wp2_with fail;have C:=B7b _ x _ (((w.alloc (AK #[AC x.neg,QH Z n1 ac] 33)).alloc (AK #[AC y.neg,QH aa n2 ad] 33)).alloc (AK #[AC AF,QH I 0 0,QH I 0 0] 35)) (al.below Below.go);rw[aq.o]at C;refine C.mono ?_;clear C;rintro _ H ⟨rfl,h⟩;obtain⟨aF,aI⟩:=F_ h;have aL:w.1.size<H.1.size:=ltg h;have aO:w.1.size+1<H.1.size:=ltg h;have aR:w.1.size+1+1<H.1.size:=ltg h;go_wp2_with fail;have C:=B7b _ y _ H (am.below Below.go);rw[ar.o]at C;refine C.mono ?_;clear C;rintro _ O ⟨rfl,u⟩;obtain⟨aG,aJ⟩:=F_ u;have aM:w.1.size<O.1.size:=ltg u;have aP:w.1.size+1<O.1.size:=ltg u;have aS:w.1.size+1+1<O.1.size:=ltg u;go_wp2_with fail;refine(D5l (x.neg != y.neg) Z aa n1 n2 ac ad x.mag y.mag _ _ O (au.below Below.go) (aw.below Below.go) ag.2 ah.2 an ao ap).mono ?_;rintro _ wb ⟨aW,sb,rfl,T,ae,b⟩;obtain⟨ai,aB,ay,aD,aj,aC,az,aE,rfl,aA,_,_⟩:=TRat.agg T;have ak:=A_ T;have ab:=A_ ae;clear T ae aA;obtain⟨aH,aK⟩:=F_ b;have aN:w.1.size<wb.1.size:=ltg b;have aQ:w.1.size+1<wb.1.size:=ltg b;have aT:w.1.size+1+1<wb.1.size:=ltg b;go_wp2;refine BI (v:=AM #[AC (mkR (C8r (x.neg != y.neg) x.mag) (val y.mag)).1.1,QH ai aB ay,QH aj aC az]) (by simp[results,results121,go_sem, *]) rfl ?_;refine A1s (lo:=w.1.size+3) ak ab.free (λax b=>by have:=(ab.2 ax b).1;(try simp at this);omega) oS ?_ ?_;·exact Above.go
 exact Below.go

theorem C9y {a d:Int} (u:0<=a) (D:0<d):C8r ((A0f a).neg != (A0f d).neg) (A0f a).mag=a/\val (A0f d).mag=d:=by
 have b:(A0f a).neg=AF:=by unfold A0f;simp;omega
 have h:(A0f d).neg=AF:=by unfold A0f;simp;omega
 rw[b,h];refine⟨?_,?_⟩;·show val (dig a.natAbs)=a;rw[A1j];omega
 show val (dig d.natAbs)=d;rw[A1j];omega
theorem B3j (a d:Int) (u:0<=a) (b:a<=1000) (G:0<d) (al:d<=1000) (w:J):AR prog 73 #[N QO a,N QO d] w (A0c w (mkR a d)):=by
 have V:=A_ (C9y u G);have ag:=A_ (D1g a ⟨oS,oS⟩);have ah:=A_ (D1g d ⟨oS,oS⟩);have af:=A_ (by intro e;have:=(C9y u G).2;rw[e]at this;simp[val]at this;omega:(A0f d).mag≠[]);have ad:=A_ (show I64 a from⟨oS,oS⟩);have ae:=A_ (show I64 d from⟨oS,oS⟩);clear u b G al;go_enter func73,ntmps73;go_wp2_with fail;refine(B2n a _ ad).mono ?_;rintro _ aw ⟨v1,ar,rfl,O,am,T⟩;have ab:=A_ O;clear O am;obtain⟨az,aC⟩:=F_ T;have aF:w.1.size<aw.1.size:=ltg T;go_wp2_with fail;refine(B2n d _ ae).mono ?_;rintro _ X ⟨v2,au,rfl,b,an,E⟩;have ac:=A_ b;clear b an;obtain⟨aA,aD⟩:=F_ E;have aG:w.1.size<X.1.size:=ltg E;go_wp2_with fail;have C:=D2d v1 v2 (A0f a) (A0f d) ar au X (ab.below E) ac ag ah af;rw[V.o.1,V.o.2]at C;refine(C).mono ?_;rintro _ wb ⟨aI,sb,rfl,D,W,h⟩;obtain⟨Y,ap,aj,ax,Z,aq,ak,ay,rfl,ao,_,_⟩:=TRat.agg D;have aa:=A_ D;have H:=A_ W;clear D W ao;obtain⟨aB,aE⟩:=F_ h;have aH:w.1.size<wb.1.size:=ltg h;go_wp2;refine BI (v:=AM #[AC (mkR a d).1.1,QH Y ap aj,QH Z aq ak]) (by simp[results,results73,go_sem, *]) rfl ?_;refine A1s (lo:=w.1.size+1) aa H.free (λai h=>by have:=(H.2 ai h).1;(try simp at this);omega) oS ?_ ?_;·exact Above.go
 exact Below.go
end Go.Proofs.YtbkilakncnlebaaGreatDoor.X

namespace Go.XB
open Go.RowKit Go.Proofs.YtbkilakncnlebaaGreatDoor.X
theorem _root_.iO {p:Prop} (h:p:=by intro e;injection e with e;omega):p:=h
theorem C1x {w w1 w2:J} {r:Option Nat} {x:Nat} (h:w.grownBy w1 r) (h2:w1.grownBy w2 (QL x)) (hx:w.1.size<=x):w.grownBy w2 r :=
 ⟨h2.os.trans h.os,h2.tape.trans h.tape,h2.output.trans h.output,BM h.size h2.size,λk hk hne=>(h2.block k (Nat.lt_of_lt_of_le hk h.size) iO).trans (h.block k hk hne)⟩
theorem Sl.grown {α:Type} [Dat α] {w w':J} {A:Option AH} {n c g:Nat} {xs:List α} {bs:List Nat} (h:Sl w A n c xs bs) (hg:w.grownBy w' (QL g)) (hn:g∉bs):Sl w' A n c xs bs :=
 h.keep λb hb=>hg.block b (h.lt b hb) (by intro e;injection e with e;exact hn (e ▸ hb))
section
variable {α:Type} [Dat α]
def PC (w:J) (e:BS) (wr:J) (gB i cap:Nat) (ps:List α) (zs:List Nat):Prop :=
 ∃ cells fss,wr.ownsRow w.1.size e (Dat.sz α) (QH (QL ⟨gB,0,I⟩) i cap) i cells/\Filled wr cells ps fss/\ps.length=i/\zs=fss.flatten/\gB∉zs/\∀ b∈zs,w.1.size<=b
variable {w wr wa:J} {e:BS} {gB i cap:Nat} {ps:List α} {zs:List Nat}
theorem PC.start {w2:J} (h:w.1.size<=w2.1.size):PC (α:=α) w e (w2.alloc (AK #[] e)) w2.1.size 0 0 [] [] :=
 ⟨[],[],World.ownsRow_made w2 #[] 0 h (Nat.zero_le _) sI,Filled.nil _ _,rfl,rfl,sI,sI⟩
theorem PC.lt (h:PC w e wr gB i cap ps zs):w.1.size<=gB/\gB<wr.1.size:=by obtain⟨_,_,h1,_⟩:=h;exact World.ownsRow.lt h1 _ rfl
theorem PC.zlt (h:PC w e wr gB i cap ps zs):∀ b∈zs,w.1.size<=b/\b<wr.1.size:=by
 obtain⟨cells,fss,G,D,H,rfl,O,E⟩:=h;exact λb u=>⟨E b u,D.lt b u⟩
theorem PC.keep (h:PC w e wr gB i cap ps zs) {x:Nat} (E:wr.grownBy wa (QL x)) (X:x≠gB) (W:x∉zs):PC w e wa gB i cap ps zs:=by
 obtain⟨cells,fss,G,u,H,rfl,O,T⟩:=h;refine⟨cells,fss,G.kept E ?_,u.keep (λb D=>E.block b (u.lt b D) (by intro e;injection e with e;exact W (e ▸ D))),H,rfl,O,T⟩;show QL gB=I\/QL gB≠QL x;exact .inr oR
theorem PC.keepG (h:PC w e wr gB i cap ps zs) {g:Nat} (hk:wr.grownBy wa (QL g)) (hg:g<w.1.size):PC w e wa gB i cap ps zs :=
 h.keep hk (by have:=h.lt;omega) (λhz=>by have:=(h.zlt g hz).1;omega)
theorem PC.below (h:PC w e wr gB i cap ps zs) (b:Bw wr wa):PC w e wa gB i cap ps zs:=by
 obtain⟨cells,fss,u,D,E,G,H,O⟩:=h;exact⟨cells,fss,I_ u b,D.below b,E,G,H,O⟩
theorem PC.sl (h:PC w e wr gB i cap ps zs):∃ bs,Sl wr (QL ⟨gB,0,I⟩) i cap ps bs/\∀ b∈bs,w.1.size<=b:=by
 obtain⟨cells,fss,D,E,G,rfl,Z,H⟩:=h;obtain⟨A,c,bs,X,W,T⟩:=E.sl (α:=α) D G;cases X;refine⟨bs,W,λb u=>?_⟩;rcases T with⟨_,rfl⟩|⟨g',Y,rfl,O,_⟩;·simp at u
 rcases List.mem_cons.1 u with rfl|u;·exact O
 exact H b u
end
end Go.XB
namespace Go
open Go.RowKit Go.XB Go.Proofs.YtbkilakncnlebaaGreatDoor.X
theorem C9k {P:DZ} {α:Type} [Dat α] {w wr:J} {gB k cap:Nat} {ps:List α} {zs:List Nat} {af:Array BU} {rest:List BU} {o:BU} {a:Act} {Q:Exit->Act->J->Prop} (am:o.guard=I) (s x:Operand) (t:BS)
  (ao:o.op=.call { callee:=.builtin .append,args:=#[s,x],argTypes:=#[t,t] })
  (e:BS) (i:TypeInfo) (z:AJ) (T:Nat) (au:P.underlying t=QL (.slice e)) (hi:P.info? e=QL i) (ay:i.zero=QL z)
  (ar:i.size=Dat.sz α) (ak:i.bytes=T) (az:z.cells.size=Dat.sz α) (ac:PC w e wr gB k cap ps zs) (aw:w.1.size<=wr.1.size) (aq:a.eval s=QH (QL ⟨gB,0,I⟩) k cap)
  (O:AH) (c:Nat) (cs:List AJ) (ag:α) (E:List Nat) (ax:a.eval x=QH (QL O) 1 c) (an:∀ j u,cs[j]?=QL u->wr.cell? (O.add j)=QL u)
  (H:Dat.at_ wr cs ag E) (Z:∀ b∈E,w.1.size<=b/\b≠gB) (aj:k+1<=BG) (al:(k+1)*T<=140737488355328)
  (h:∀ g' cap' w8,PC w e w8 g' (k+1) cap' (ps++[ag]) (zs++E)->wr.grownBy w8 (QL gB)->(g'=gB\/g'=wr.1.size)->FF P af Q rest (a.put o.dst (QH (QL ⟨g',0,I⟩) (k+1) cap')) w8):FF P af Q (o::rest) a wr:=by
 have ae:=ac.zlt;obtain⟨cells,fss,W,ah,aa,rfl,ab,ai⟩:=ac;have aA:=World.ownsRow.lt W _ rfl;refine A1m am s x t ao w.1.size e i z (Dat.sz α) T au hi ay ar ak az Dat.pos gB k cap cells aq W O 1 c cs ax (by rw[Nat.one_mul];exact Dat.len H) an (Dat.one H) aj al aw ?_;intro g' cap' w8 ap X Y;refine h g' cap' w8 ?_ X Y;have ad:∀ b∈E,b<wr.1.size:=Dat.lt H;have k1:∀ b∈fss.flatten,w8.1[b]?=wr.1[b]?:=λb G=>X.block b (ae b G).2 (by intro e;injection e with e;exact ab (e ▸ G));have k2:∀ b∈E,w8.1[b]?=wr.1[b]?:=λb G=>X.block b (ad b G) (by intro e;injection e with e;exact(Z b G).2 e);refine⟨_,fss++[E],ap,Filled.push (ah.keep k1) (by rw[W.1,aa]) (Dat.keep H k2),by simp[aa],sI,?_,?_⟩
 ·intro D
  rcases CO.1 D with D|D
  ·rcases Y with rfl|rfl
   ·exact ab D
   have:=(ae _ D).2;omega
  rcases Y with rfl|rfl;·exact(Z _ D).2 rfl
  have:=ad _ D;omega
 intro b D;rcases CO.1 D with D|D
 ·exact ai b D
 exact(Z b D).1
end Go
