/- A part of the proof. -/
import Derived.Test.YtbhemnidcleaiaaGreatY19
import Derived.Test.YtbhemnidcleaiaaGreatY20
import Derived.BigRegion
set_option linter.constructorNameAsVariable false
set_option maxHeartbeats 16000000
set_option maxRecDepth 10000
namespace Go.Proofs.YtbhemnidcleaiaaGreat.X
open Go.RowKit Go.XB Go.XN Go.XS Proofs.Tryz
attribute [local go_sem] L_ opAt N_ M_ Region.wanted yielded
attribute [local simp] N_ M_ MP.eq MP.agg MP.sl A0r
def Row (w:World) (base g n cap:Nat) (us:List Int):Prop:=w.ownsRow base 3 1 (.slice (some ⟨g,0,none⟩) n cap) n (us.map (.int .i64))
def E3r (w:World) (base g n cap:Nat) (us:List Int) (e:Ending) (w':World):Prop:=e=.returned (.tuple #[])/\Row w' base g n cap us/\w.grownBy w' (some g)

theorem Row.set {w:World} {base g n cap:Nat} {us:List Int} (h:Row w base g n cap us) (j:Nat) (u:Int):Row (w.setCell ⟨g,j,none⟩ (.int .i64 u)) base g n cap (us.set j u):=A3a h j u
theorem Row.grown {w:World} {base g n cap:Nat} {us:List Int} (h:Row w base g n cap us) (j:Nat) (u:Value):w.grownBy (w.setCell ⟨g,j,none⟩ u) (some g):=(World.ownsRow.stored h j u).2
theorem Row.drew {w:World} {base g n cap:Nat} {us:List Int} (h:Row w base g n cap us):Row w.drew base g n cap us:=h
theorem D7r (w:World) (r:Option Nat):w.grownBy w.drew r:=⟨rfl,rfl,rfl,Nat.le_refl _,λ_ _ _=>rfl⟩
theorem Row.below {w w':World} {base g n cap:Nat} {us:List Int} (h:Row w base g n cap us) (hb:Bw w w'):Row w' base g n cap us:=I_ h hb
theorem A5h {w w':World} (hb:Bw w w') (r:Option Nat):w.grownBy w' r:=⟨hb.os,hb.tape,hb.output,hb.size,λk hk _=>hb.block k hk⟩

structure Cmp (w0:World) (g n F:Nat) (pv:Value) (cf:Int->Int->Int) (le:Int->Int->Bool):Prop where
 known:A4f F
 call:∀ w',w0.grownBy w' (some g)->∀ x y:Int,(0<=x/\x<n)->(0<=y/\y<n)->Calls prog F #[.int .i64 x,.int .i64 y,pv] w' (A0b w' (.int .i64 (cf x y)))
 less:∀ x y,x<y->cf y x<0->le y x=true
 more:∀ x y,x<y->¬ (cf y x<0)->le x y=true
 ord:LinOrd le

theorem Cmp.from_ {w0 w1:World} {g n F:Nat} {pv:Value} {cf:Int->Int->Int} {le:Int->Int->Bool} (h:Cmp w0 g n F pv cf le) (hg:w0.grownBy w1 (some g)):Cmp w1 g n F pv cf le :=
 ⟨h.known,λw' hw=>h.call w' (hg.trans hw),h.less,h.more,h.ord⟩

theorem C4x {le:Int->Int->Bool} (h:LinOrd le) {T b u:List Int} {x:Int} (e:T.mergeSort le=b++u) (E:∀ y,0<b.length->b[b.length - 1]?=some y->le y x=true) (G:∀ y,u[0]?=some y->le x y=true) :
  (T++[x]).mergeSort le=b++x::u:=by
 rw[E1c h x,<-B9n h (l:=x::T) (m:=x::T.mergeSort le) ((List.mergeSort_perm T le).cons x),e];have I:Srt le (b++u):=by rw[<-e];exact D3w h T
 have:=D4v h I x (j:=b.length) (λy H D=>E y H (by rwa [List.getElem?_append_left oM]at D)) (λy D=>G y (by rwa [List.getElem?_append_right (Nat.le_refl _),Nat.sub_self]at D)) sI;rw[this,List.take_left,List.drop_left]

theorem C7r (base g n cap a b F:Nat) (aV:Value) (ak:Int->Int->Int) (le:Int->Int->Bool) (P B Q:List Int) (w:World) (aA:Row w base g n cap (P++B++Q)) (aK:P.length=a) (ay:P.length+B.length=b) (bB:n<=1048576)
  (az:Cmp w g n F aV ak le) (aH:∀ x∈B,0<=x/\x<n) (aS:B.Pairwise (·<·)) :
  Calls prog 269 #[.slice (some ⟨g,0,none⟩) n cap,.int .i64 a,.int .i64 b,.func (.func F) #[] #[aV]] w (E3r w base g n cap (P++B.mergeSort le++Q)):=by
 have aE:=A_ aA;have aY:=A_ aK;have ab:=A_ az;have aB:=A_ aH;have a2:=A_ aS;have bh:=az.known;unfold A4f at bh;have aQ:=A2n aA;have bi:P.length+B.length+Q.length=n:=by rw[<-aQ];simp;omega
 have bq:a<=b:=oM;have br:b<=n:=oM;have ai:=A_ (by omega:B.length=b - a);clear aA aK ay az aH aS aQ bi;go_enter func269,ntmps269;go_wp2_with fail;go_loopg [8] (b - a) (λgh s wr=>∃ (i:Nat) (G R:List Int),b<=i+gh/\i<=b+1/\s=.int .i64 i/\Hid (B=G++R/\(a+G.length=i\/(B=[]/\i=a+1)))/\Hid (Row wr base g n cap (P++G.mergeSort le++R++Q)/\w.grownBy wr (some g)));case atStart =>
  rcases hcase:B with _|⟨x,l⟩;·refine⟨a+1,[],[],oM,oM,gN,⟨rfl,.inr ⟨rfl,rfl⟩⟩,?_,World.grownBy.refl _ _⟩;have:=aE.o;rw[hcase]at this;simpa using this
  refine⟨a+1,[x],l,oM,by have:=ai.o;rw[hcase]at this;simp at this;omega,gN,⟨rfl,.inl sI⟩,?_,World.grownBy.refl _ _⟩;have:=aE.o;rw[hcase]at this;simpa using this
 case round =>
  obtain⟨i,G,R,aN,bu,rfl,H,ae⟩:=hrel;rcases Nat.lt_or_ge i b with bz|bd
  ·have bA:(i:Int)<b:=oM
   have bv:i<n:=oM;have aJ:a+G.length=i:=by
    rcases H.2 with h|⟨h,_⟩;·exact h
    exfalso;have:=ai.o;rw[h]at this;simp at this;omega
   obtain⟨x,I,aw⟩:∃ x I,R=x::I:=by
    cases R with
    |nil=>exfalso;have T:=ai.o;rw[H.o.1]at T;simp at T;omega
    |cons x l=>exact⟨x,l,rfl⟩
   subst aw;have aT:=aB.o x (by rw[H.o.1];simp);have aI:∀ y∈G,(0<=y/\y<n)/\y<x:=λy aU=>⟨aB.o y (by rw[H.o.1];simp[aU]),by have:=a2.o;rw[H.o.1]at this;exact(List.pairwise_append.1 this).2.2 y aU x sI⟩
   obtain⟨gh,rfl⟩:∃ gh',gk=gh'+1:=⟨gk - 1,oM⟩
   have aD:=A_ (by omega:b<=i+1+gh);have a1:=A_ aI;have aF:=A_ aT;have aq:=A_ aJ;have a9:a<=i:=oM;clear aN aI aT aJ;go_wp2_with fail;go_loopg [9] i (λg2 s2 wr2=>∃ (j:Nat) (W J:List Int),j<=g2/\a<=j/\j<=i/\s2=.int .i64 j/\Hid (G.mergeSort le=W++J/\a+W.length=j/\(∀ y,J[0]?=some y->le x y=true))/\Hid (Row wr2 base g n cap (P++W++x::(J++(I++Q)))/\w.grownBy wr2 (some g)));case atStart =>refine⟨i,G.mergeSort le,[],Nat.le_refl _,a9,Nat.le_refl _,rfl,⟨sI,by rw[List.length_mergeSort];exact aq.o,λy h=>by simp at h⟩,?_,ae.o.2⟩;have:=ae.1;simpa using this
   case round =>
    clear ae;obtain⟨j,W,J,aO,aL,bg,rfl,K,X⟩:=hrel;rcases Nat.lt_or_ge a j with aM|aM
    ·obtain⟨S,y,ax⟩:∃ S y,W=S++[y]:=by
      rcases List.eq_nil_or_concat W with h|⟨l,z,h⟩
      ·exfalso;have:=K.2.1;rw[h]at this;simp at this;omega
      exact⟨l,z,by rw[h,List.concat_eq_append]⟩
     subst ax
     obtain⟨u,rfl⟩:∃ u,j=u+1:=⟨j - 1,oM⟩
     obtain⟨aG,rfl⟩:∃ g',gk=g'+1:=⟨gk - 1,oM⟩
     have bk:y∈G:=(List.mem_mergeSort (le:=le)).1 (by rw[K.o.1];simp)
     have aj:=A_ (a1 y bk)
     have bj:(P++S).length=u:=by have T:=K.2.1;have au:=aY.o;simp at T ⊢;omega
     have am:Row wr base g n cap ((P++S)++y::([]++x::(J++(I++Q)))):=by have:=X.1;simpa using this
     have al:=D1q (P:=P++S) (x:=y) (Q:=[]++x::(J++(I++Q)))
     have g2:=E3p (P:=P++S) (M:=[]) (Q:=J++(I++Q)) (x:=y) (y:=x)
     have an:=E3g (P:=P++S) (M:=[]) (Q:=J++(I++Q)) (x:=y) (y:=x)
     rw[bj]at al g2 an
     simp only[List.length_nil,Nat.add_zero]at g2 an
     have aR:=A_ am
     obtain⟨be,a3,a7⟩:=A0t am al
     obtain⟨_,a4,a8⟩:=A0t am g2
     have aZ:=A_ an;have aW:=A_ al;have aX:=A_ g2
     have aC:=A_ (fun(w':World) (ay:Bw wr w')=>(ab.from_ X.2).from_ (A5h ay _))
     have q1:(u:Int)+1<n:=oM
     have q2:(u:Int)<n:=oM
     have bl:(a:Int)<(u:Int)+1:=oM
     have bD:((u+1:Nat):Int) - 1=(u:Int):=oM
     have ap:=A_ (by omega:u<=aG/\a<=u/\u<=i)
     clear an al g2 am aO aL bg
     by_cases aP:ak x y<0
     ·have ar:=A_ (ab.less y x aj.2 aP)
      go_wp2_with fail;refine A0g ?_;iterate 14 refine C_ _ ?_
      refine D_ (MP.eq (.int .i64 (ak x y))) ?_ ?_;·intro ag ah Z D E;obtain⟨ba,bc⟩:=F_ D;simp at E;refine G_ ?_;exact A0i ((aC Z D).call Z (World.grownBy.refl _ _) x y aF aj.1)
      iterate 2 refine C_ _ ?_
      intro ag ah ao D E (ac:Hid _);simp at E;have O:=A_ (aR.below D);have aa:=A_ ((X.2).trans (A5h D _));go_simp;clear E ac;obtain⟨_,bn,bp⟩:=A0t O aW;obtain⟨bt,a5,a6⟩:=A0t O aX;clear a3 a7 a4 a8 D be;go_wp2_with fail;obtain⟨Y,ad⟩:∃ Y,Y=u+1:=⟨_,rfl⟩
      rw[<-ad]at a5 a6;have bo:((u:Int)+1).toNat=Y:=oM;have bm:=A_ ad;have R:=A_ (show Row ((ao.setCell ⟨g,Y,none⟩ (.int .i64 y)).setCell ⟨g,u,none⟩ (.int .i64 x)) base g n cap (P++S++x::(y::J++(I++Q)))/\w.grownBy ((ao.setCell ⟨g,Y,none⟩ (.int .i64 y)).setCell ⟨g,u,none⟩ (.int .i64 x)) (some g) by refine⟨?_,(aa.trans (O.grown _ _)).trans ((O.set _ _).grown _ _)⟩;have h:=(O.set Y y).set u x;rw[List.set_comm _ _ oM,ad,aZ.o]at h;rw[ad];simpa using h);clear ad;go_big_region;all_goals go_wp2
      go_roundg aG;case measure=>omega
      case rel =>refine⟨u,S,y::J,ap.o.1,ap.o.2.1,ap.o.2.2,gN,⟨by rw[K.o.1];simp,?_,λz af=>by simp at af;subst af;exact ar⟩,R.1.drew,R.2.trans (D7r _ _)⟩;have T:=K.2.1;simp at T;omega
     have ar:=A_ (ab.more y x aj.2 aP)
     go_wp2_with fail
     refine A0g ?_
     iterate 14 refine C_ _ ?_
     refine D_ (MP.eq (.int .i64 (ak x y))) ?_ ?_
     ·intro ag ah Z D E;obtain⟨ba,bc⟩:=F_ D;simp at E;refine G_ ?_;exact A0i ((aC Z D).call Z (World.grownBy.refl _ _) x y aF aj.1)
     iterate 2 refine C_ _ ?_
     intro ag ah ao D E (ac:Hid _)
     simp at E
     have O:=A_ (aR.below D)
     have aa:=A_ ((X.2).trans (A5h D _))
     go_simp
     clear E ac
     go_wp2
     go_roundg gh
     case measure=>omega
     case rel =>refine⟨i+1,G++[x],I,aD.o,oM,gN,⟨by rw[H.o.1];simp,.inl (by have:=aq.o;simp;omega)⟩,?_,aa.o⟩;rw[C4x ab.o.ord K.o.1 (λz _ af=>by simp at af;subst af;exact ar) K.2.2];have:=O.o;simpa using this
    ·have bf:j=a:=oM
     subst bf;have ax:W=[]:=List.eq_nil_of_length_eq_zero (by have:=K.2.1;omega);subst ax;have bl:¬ ((j:Int)<(j:Int)):=oM;clear aM aO aL;go_wp2_with fail;refine A0g ?_;iterate 4 refine C_ _ ?_
     iterate 12 apply A4m;case h =>intro ag ah Z D E;simp at E;go_simp;first|done|(simp[undef];done)
     refine C_ _ ?_;intro ag ah ao D E (ac:Hid _);simp at E;have O:=A_ (X.1.below D);have aa:=A_ ((X.2).trans (A5h D _));go_simp;clear E ac;go_wp2;go_roundg gh;case measure=>omega
     case rel =>refine⟨i+1,G++[x],I,aD.o,oM,gN,⟨by rw[H.o.1];simp,.inl (by have:=aq.o;simp;omega)⟩,?_,aa.o⟩;rw[C4x ab.o.ord K.o.1 (λz h _=>by simp at h) K.o.2.2];have:=O.o;simpa using this
  have bs:¬ ((i:Int)<b):=oM;have aw:R=[]:=by
   apply List.eq_nil_of_length_eq_zero;have T:=ai.o;rcases H.2 with h|⟨h,_⟩
   ·rw[H.o.1,List.length_append]at T;omega
   have au:=H.1;rw[h]at au;have:=congrArg List.length au;simp at this;omega
  subst aw;have R:=A_ (show Row wr base g n cap (P++B.mergeSort le++Q) by have:=ae.1;rw[show B=G by rw[H.o.1];simp];simpa using this);clear aN bd;go_wp2;go_end0;exact⟨rfl,by simpa using R.o,ae.o.2⟩
theorem D1d (base g n cap F:Nat) (h:Value) (u:Int->Int->Int) (le:Int->Int->Bool) (B:List Int) (w:World) (b:Row w base g n cap B) (X:n<20)
  (E:Cmp w g n F h u le) (D:∀ x∈B,0<=x/\x<n) (I:B.Pairwise (·<·)) :
  Calls prog 217 #[.slice (some ⟨g,0,none⟩) n cap,.int .i64 n,.func (.func F) #[] #[h]] w (E3r w base g n cap (B.mergeSort le)):=by
 have O:=A_ (show B.length=n from A2n b);have C:=A_ (C7r base g n cap 0 n F h u le [] B [] w (by simpa using b) rfl (by simpa using O.o) oM E D I);clear b E D I;have W:¬ ((20:Int)<=n):=oM;have T:¬ ((20:Int)<n):=oM;go_enter func217,ntmps217;go_wp2_with fail;go_loopg [7,8] 0 (λgh s1 s2 wr=>s1=.int .i64 0/\s2=.int .i64 20/\wr=w);case atStart=>exact⟨rfl,rfl,rfl⟩
 case round =>
  obtain⟨rfl,rfl,rfl⟩:=hrel;go_wp2_with fail;refine C.mono ?_;rintro _ J ⟨rfl,H,G⟩;have S:=A_ (by simpa using H:Row J base g n cap (B.mergeSort le));have K:=A_ G;clear H G;go_wp2_with fail;go_loopg [6] 0 (λgh s1 wr=>s1=.int .i64 20/\wr=J);case atStart=>exact⟨rfl,rfl⟩
  case round =>obtain⟨rfl,rfl⟩:=hrel;go_wp2;go_end0;exact⟨rfl,S,K⟩
theorem C1i (base g n cap F:Nat) (b:Value) (h:Int->Int->Int) (le:Int->Int->Bool) (B:List Int) (w:World) (G:Row w base g n cap B) (S:n<20)
  (D:Cmp w g n F b h le) (u:∀ x∈B,0<=x/\x<n) (I:B.Pairwise (·<·)) :
  Calls prog 166 #[.slice (some ⟨g,0,none⟩) n cap,.func (.func F) #[] #[b]] w (E3r w base g n cap (B.mergeSort le)):=by
 have J:=A_ (D1d base g n cap F b h le B w G S D u I);clear G D u I;go_enter func166,ntmps166;go_wp2_with fail;refine J.mono ?_;rintro _ T ⟨rfl,H,E⟩;have O:=A_ H;have K:=A_ E;clear H E;go_wp2;go_end0;exact⟨rfl,O,K⟩
end Go.Proofs.YtbhemnidcleaiaaGreat.X
