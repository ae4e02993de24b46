/- A part of the proof. -/
import Derived.Test.YtjcanieccnljfaaGreatY25
import Derived.Test.YtjcanieccnljfaaGreatY29
import Derived.Test.YtjcanieccnljfaaGreatY19
set_option linter.constructorNameAsVariable false
set_option maxHeartbeats 16000000
set_option maxRecDepth 10000
open Bool renaming and_eq_true→DJ,false→AH,true→AF
open Decidable renaming decide→BQ
open Go renaming Addr→AJ,Calls→BL,Value→AU,World→AD
open Go.Code renaming new→DY
open Go.Value renaming bool→J,int→RH,slice→QX
open Go.XB.Below renaming next→BH
open Go.XB.TMesh renaming mkAgg→JN
open Go.XB.TProblem renaming agg→IF
open Int renaming ediv_eq_zero_of_lt→PL,ediv_nonneg→MV,le_refl→II,lt_or_le→FH,mul_le_mul_of_nonneg_right→LZ,mul_nonneg→IQ,mul_pos→GW
open List renaming all_eq_true→CU,drop_succ_cons→GU,drop_zero→FF,eq_nil_of_length_eq_zero→IV,getD_eq_getElem?_getD→EH,getElem?_map→IR,mem_map→JX,mem_of_getElem?→DH,mem_range→JW,range→GE,take_succ_cons→GT,take_zero→FM
namespace Go.Proofs.YtjcanieccnljfaaGreat.X
open Go.RowKit Go.XB Go.XN Proofs.Tryz
section
structure BdD (p:TProblem) (xs ys:List Int) (us fs:List TRat):Prop where
 pr:ProbI p xs ys
 es:B8e p.1
 uz:∀ i∈A3f p.1 AF,A2v (us.getD i.toNat A0h)=0
 fi:FluxI p.1 xs ys fs
 eq:EqD p fs
 ind:IndD p us fs
 t1:1<=p.1.triangles.length
 sm:J_ (A8v (C3k p us fs))=AF
def D3p {α:Type} [Dat α] (w:AD) (x:α) (e:Ending) (w':AD):Prop:=∃ v s,e=.returned (.tuple #[v,J AF])/\Agg w' v x s/\Bw w w'
theorem D3z (p:TProblem) (us fs:List TRat):(C3k p us fs).length=p.1.triangles.length:=B6p p us fs _
theorem E7b {α:Type} [Dat α] {w:AD} {A:Option AJ} {n c:Nat} {xs:List α} {bs:List Nat} (h:Sl w A n c xs bs) (D:0<n):∃ a,A=some a:=by
 obtain⟨_,_,_,_,b⟩:=h;obtain⟨E,G,_,u,_⟩:=b D;exact⟨_,u⟩
attribute [local go_sem] L_ Go.XB.opAt N_ M_ Region.wanted yielded
attribute [local go_sem] D2s
attribute [local simp] N_ M_ MP.eq MP.agg MP.aggS MP.sl MP.slbox MP.box A0r
theorem D9e (f:Nat) (ae:A4f f) (H:AU) (A:Option AJ) (n c:Nat) (xs:List Int) (bs:List Nat) (w:AD) (p:Int->Bool) (b:Sl w A n c xs bs)
  (Y:∀ (x:Int) (w':AD),Bw w w'->x∈xs->BL prog f #[RH .i64 x,H] w' (A0b w' (J (p x)))) :
  BL prog 157 #[QX A n c,.func (.func f) #[] #[H]] w (B9x w (xs.any p)):=by
 have aa:=A_ b.1;have ac:=A_ b;have ab:=A_ Y;unfold A4f at ae;have ag:n<=maxLen:=Nat.le_trans b.2.1 b.2.2.1;unfold maxLen at ag;clear b Y;go_enter func157,ntmps157;go_wp2_with fail;go_loopg [8] n (λg s8 wr=>∃ k:Nat,k+g=n/\s8=RH .i64 k/\Hid ((xs.take k).any p=AH)/\Bw w wr);case atStart=>exact⟨0,oS,rfl,by show(xs.take 0).any p=AH;simp,Below.refl _ _⟩
 case round =>
  obtain⟨k,W,rfl,O,h⟩:=hrel;rcases Nat.lt_or_ge k n with u|u
  ·obtain⟨ah,am,x,rfl,aj,Z,ai,ak⟩:=Sl.getInt (Sl.below ac h) u
   have E:=A_ Z;have af:(k:Int)<n:=oS;obtain⟨g,rfl⟩:∃ g,gk=g+1:=⟨gk - 1,oS⟩
   have X:=A_ (by omega:k+1+g=n);clear Z W u;have al:k+1<=n:=by have:=X.o;omega
   go_wp2_with fail;refine(ab x wr h (DH E)).mono ?_;rintro _ an ⟨rfl,ad⟩;have T:=BH h ad;cases D:p x
   ·have G:=A_ (B6c E O D)
    clear D;go_wp2_with fail;go_roundg g;case measure=>omega
    case rel=>exact⟨k+1,X,gN,G,T⟩
   have G:=A_ (D1e E D);clear D;go_wp2;go_ret;exact⟨k,rfl,by rw[G.o];simp,T⟩
  have e:=A_ (show xs.any p=AH by have:=O.o;rwa [List.take_of_length_le (by rw[aa.o];omega)]at this);have af:¬ ((k:Int)<n):=oS;clear W u;go_wp2;go_ret;exact⟨-1,rfl,by rw[e.o];rfl,h⟩

theorem C8m (f:Nat) (h:A4f f) (b:AU) (A:Option AJ) (n c:Nat) (xs:List Int) (bs:List Nat) (w:AD) (p:Int->Bool) (D:Sl w A n c xs bs)
  (u:∀ (x:Int) (w':AD),Bw w w'->x∈xs->BL prog f #[RH .i64 x,b] w' (A0b w' (J (p x)))) :
  BL prog 94 #[QX A n c,.func (.func f) #[] #[b]] w (A0b w (J (xs.any p))):=by
 have O:=A_ D;have H:=A_ u;have G:=A_ h;clear D u h;go_enter func94,ntmps94;go_wp2_with fail;refine(D9e f G b A n c xs bs _ p O H).mono ?_;rintro _ W ⟨r,rfl,e,T⟩;have E:=A_ e;clear e;go_wp2;go_ret;exact⟨Q_ E,T⟩
theorem D3e:A4f 95:=λa w=>kR
theorem D6x (x:Int) (g:Nat) (B:Option AJ) (n d:Nat) (us:List TRat) (T:List Nat) (w:AD) (b:w.1[g]?=some (.cells #[QX B n d] 27)) (H:Sl w B n d us T) (ai:0<=x) (aj:x<n) (G:us.all J_=AF) (u:A2v (us.getD x.toNat A0h)=0) :
  BL prog 95 #[RH .i64 x,.pointer (some ⟨g,0,none⟩)] w (A0b w (J AH)):=by
 have Z:=A_ b;obtain⟨j,rfl⟩:∃ j:Nat,x=j:=⟨x.toNat,oS⟩
 obtain⟨aa,o,y,X,an,ab,ad,Y,ao,ac,ae,rfl,ak,h,af,ag,ah,E⟩:=TRat.elemA H (k:=j) oS;rw[Int.toNat_natCast,A0e h]at u;have D:=A_ (ratOkB_iff.1 (CU.1 G y (DH h)));have O:=A_ E;obtain⟨aq,ar,am⟩:=bx b;have al:(A2v y != 0)=AH:=by simpa using u
 clear b H G h E u;go_enter func95,ntmps95;go_wp2_with fail;refine(A7y _ y _ w O D.mag (A4h D.1)).mono ?_;rintro _ ap ⟨rfl,W⟩;go_wp2;go_ret;exact⟨rfl,W⟩
theorem B3q (v:AU) (m:TMesh) (b:List Nat) (B:Option AJ) (n d:Nat) (us:List TRat) (O:List Nat) (w:AD) (E:Agg w v m b) (ad:Sl w B n d us O) (T:m.1.length<=40) (W:m.triangles.length<=48) (aa:B8e m) (ab:n=m.1.length) (ac:us.all J_=AF) (ae:∀ i∈A3f m AF,A2v (us.getD i.toNat A0h)=0) :
  BL prog 34 #[v,QX B n d] w (A0b w (J AF)):=by
 have an:=A_ E;have am:=A_ ad;have ag:=A_ T;have ah:=A_ W;have ai:=A_ aa;have ak:=A_ ab;have al:=A_ ac;have ao:=A_ ae;obtain⟨aF,aJ,aH,aK,aG,n1,aI,aL,rfl,rfl,ax,ay⟩:=TMesh.agg E;clear ax ay E ad T W aa ab ac ae;go_enter func34,ntmps34;go_upto_region 1 with fail;refine Code.new2 λau h=>?_;have H:=A_ h.b;have ap:=A_ h.k;have aq:=A_ h.l;clear h;obtain⟨aD,aE,aA⟩:=bx ap;go_wp2_with fail;refine(B6y _ m _ AF au (an.below H) ag ah ai).mono ?_;rintro _ aC ⟨I,aB,aw,az,rfl,X,-,u⟩;have aj:=A_ X;have G:=A_ (BH H u);have ar:=A_ (A0z aq u);clear X u aD aE aA;go_wp2_with fail;have C:=C8m 95 D3e (.pointer (some ⟨w.1.size+1,0,none⟩)) I aB aw (A3f m AF) az aC (λ_=>AH) aj (λx w' Y D=>D6x x (w.1.size+1) B n d us O w' (A0z ar Y) (am.below (BH G Y)) (D8p x D).1 (by have:=(D8p x D).2;rw[ak.o];exact this) al (ao x D));rw[show(A3f m AF).any (λ_=>AH)=AH by simp]at C;refine C.mono ?_;clear C;rintro _ aM ⟨rfl,Z⟩;have af:=A_ (BH G Z);clear Z;go_wp2;go_ret;exact⟨rfl,af⟩
theorem B9n (v:AU) (p:TProblem) (b:List Nat) (xs ys:List Int) (B:Option AJ) (n d:Nat) (h:List TRat) (T:List Nat) (w:AD) (Y:Agg w v p b) (ah:Sl w B n d h T) (ai:ProbI p xs ys) (ae:FluxI p.1 xs ys h) (ag:EqD p h) :
  BL prog 35 #[v,QX B n d] w (A0b w (J AF)):=by
 have ab:=A_ Y;have aa:=A_ ah;have ap:=A_ ai;have an:=A_ ae;have am:=A_ ag;obtain⟨az,aG,aD,aI,aA,n1,aE,aJ,aB,n2,aF,aK,aC,aH,c3,aL,rfl,rfl,aj,ak,au,aw⟩:=IF Y;have ao:=A_ (JN (x:=p.1) aj ak);clear aj ak au aw Y ah ai ae ag;go_enter func35,ntmps35;go_upto_region 1 with fail;refine DY λar O=>?_;have Z:=A_ O.b;have ac:=A_ O.k;clear O;obtain⟨D,E,u⟩:=bx ac;go_wp2_with fail;refine(B5t _ p _ xs ys ar (ab.below Z) ap).mono ?_;rintro _ ax ⟨rfl,W⟩;have G:=A_ (BH Z W);have ad:=A_ (A0z ac W);clear W D E u;obtain⟨D,E,u⟩:=bx ad;go_wp2_with fail;refine(C5c _ p.1 _ xs ys B n d h T ax (ao.below G) (aa.below G) an).mono ?_;rintro _ ay ⟨rfl,X⟩;have H:=A_ (BH G X);have aq:=A_ (A0z ad X);clear X D E u;obtain⟨D,E,u⟩:=bx aq;go_wp2_with fail;refine(B6v _ p _ B n d h T ay (ab.below H) (aa.below H) am).mono ?_;rintro _ w3 ⟨rfl,af⟩;have al:=A_ (BH H af);clear af;go_wp2;go_ret;exact⟨rfl,al⟩
theorem C2f (v:AU) (p:TProblem) (b:List Nat) (xs ys:List Int) (B:Option AJ) (n d:Nat) (us:List TRat) (Y:List Nat) (X:Option AJ) (m c:Nat) (O:List TRat) (es:List Nat) (w:AD) (ap:Agg w v p b) (ao:Sl w B n d us Y) (aC:Sl w X m c O es) (ak:BdD p xs ys us O) :
  BL prog 10 #[v,QX B n d,QX X m c] w (D3p w (A8v (C3k p us O))):=by
 have aj:=A_ ap;have ai:=A_ ao;have aq:=A_ aC;have h:=A_ ak;have ar:=A_ (by rw[<-ak.ind.lin.ul];exact ao.1.symm:n=p.1.1.length);obtain⟨bl,bE,bp,bG,bm,n1,bq,bH,bn,n2,br,bI,bo,bF,c3,bJ,rfl,rfl,aE,aF,a9,ba⟩:=IF ap;have aQ:=A_ (JN (x:=p.1) aE aF);clear aE aF a9 ba ap ao aC ak;go_enter func10,ntmps10;go_upto_region 1 with fail;refine Code.new2 λaZ u=>?_;have ah:=A_ u.b;have ax:=A_ u.k;have R0:=A_ u.l;clear u;obtain⟨E,G,D⟩:=bx ax;go_wp2_with fail;refine(C8z _ p _ xs ys B n d us Y aZ (aj.below ah) h.pr (ai.below ah) h.ind.lin.uo ar).mono ?_;rintro _ bf ⟨rfl,ab⟩;have af:=A_ (BH ah ab);have ay:=A_ (A0z ax ab);have R1:=A_ (A0z R0 ab);clear ab E G D;obtain⟨E,G,D⟩:=bx ay;go_wp2_with fail;refine(B3q _ p.1 _ B n d us Y bf (aQ.below af) (ai.below af) h.ind.lin.n40 h.ind.lin.t48 h.es ar h.ind.lin.uo h.uz).mono ?_;rintro _ bg ⟨rfl,ac⟩;have ag:=A_ (BH af ac);have az:=A_ (A0z ay ac);have R2:=A_ (A0z R1 ac);clear ac E G D;obtain⟨E,G,D⟩:=bx az;go_wp2_with fail;refine(B9n _ p _ xs ys X m c O es bg (aj.below ag) (aq.below ag) h.pr h.fi h.eq).mono ?_;rintro _ w3 ⟨rfl,ad⟩;have W:=A_ (BH ag ad);have aT:=A_ (A0z az ad);have aW:=A_ (A0z R2 ad);clear ad E G D;obtain⟨E,G,D⟩:=bx aT;go_wp2_with fail;refine(C3o _ p _ B n d us Y X m c O es w3 (aj.below W) (ai.below W) (aq.below W) h.ind).mono ?_;rintro _ bh ⟨I,bc,a2,a1,rfl,Z,a8,al⟩;obtain⟨⟨bA,bB,bD⟩,rfl⟩:=E7b Z (by rw[<-Z.1,D3z];exact h.t1);have aP:=A_ Z;have aK:=A_ (BH W al);have aA:=A_ (A0z aW al);clear Z a8 al E G D;go_wp2_with fail;refine(D6a _ bc a2 _ a1 bh aP).mono ?_;rintro _ bL ⟨bK,aH,rfl,an,aD,am⟩;obtain⟨Q1,bd,a3,_,Q2,be,a4,_,rfl,-,_,_⟩:=TRat.agg an;have au:=A_ an;have aL:=A_ (BH aK am);have aX:=A_ (A0z aA am);have aU:=A_ (show ∀ b∈aH,b≠w.1.size+1 from λb a6=>by have:=(aD.2 b a6).1;have:=E_ aA;omega);clear an aD am;obtain⟨T,aa⟩:∃ T,A8v (C3k p us O)=T:=⟨_,rfl⟩
 have aV:=A_ (by rw[<-aa];exact h.sm:J_ T=AF);rw[aa]at au ⊢;have aO:=A_ aa;clear aa;go_upto_region 7 with fail;refine DY λbM u=>?_;have aM:=A_ (BH aL u.b);have aB:=A_ (A0z aX u.b);have aS:=A_ u.k;have aw:=A_ (au.below u.b);clear u;obtain⟨E,G,D⟩:=bx aS;obtain⟨aI,aJ,l1⟩:=bx aB;refine W_ 3 kR kR kR kR kR ?_;simp only[GT,FM,GU,FF];iterate 2 refine C_ _ ?_
 refine D_ (MP.eq (J AF)) ?_ ?_;·intro bj bk bi H ae;obtain⟨bv,bz⟩:=F_ H;simp at ae;refine G_ ?_;have C:=A2p _ T _ bi (aw.below H);rw[C6v aV.o]at C;exact A0i C
 intro bj bk wa H ae (a7:Hid _);simp at ae;obtain⟨aG,_,q2⟩:=ae;have bt:=aG.1.1;have bu:=q2.1.1;have aN:=A_ (BH aM H);have aY:=A_ (A0z aB H);have aR:=A_ (aw.below H);clear a7 aG q2 H E G D aI aJ l1;obtain⟨aI,aJ,l1⟩:=bx aY;go_wp2;refine bodyPost_ret (v:=.tuple #[.agg #[J T.1.1,QX Q1 bd a3,QX Q2 be a4],J AF]) (by simp[results,results10,go_sem, *]) rfl ?_;try rw[aO.o]
 exact⟨_,aH,rfl,aR.o.keepG (A5y (A5y (A5y (B3a _ _)))) (λa5=>aU.o _ a5 rfl),((aN.o.setCell (p:=⟨w.1.size+1,0,none⟩) sI _).setCell (p:=⟨w.1.size+1,1,none⟩) sI _).setCell (p:=⟨w.1.size+1,2,none⟩) sI _⟩
theorem C2g (v:AU) (p:TProblem) (b:List Nat) (xs ys:List Int) (B:Option AJ) (n d:Nat) (us:List TRat) (Y:List Nat) (H:Option AJ) (m c:Nat) (u:List TRat) (es:List Nat) (w:AD) (ad:Agg w v p b) (ac:Sl w B n d us Y) (al:Sl w H m c u es) (Z:BdD p xs ys us u) :
  BL prog 12 #[v,QX B n d,QX H m c] w (A0w w (C3k p us u)):=by
 have ag:=A_ ad;have af:=A_ ac;have ae:=A_ al;have O:=A_ Z;have au:=A_ (by rw[<-Z.ind.lin.ul];exact ac.1.symm:n=p.1.1.length);obtain⟨aG,aN,aK,aP,aH,n1,aL,aQ,aI,n2,aM,aR,aJ,aO,c3,aS,rfl,rfl,an,ao,aB,aC⟩:=IF ad;have ar:=A_ (JN (x:=p.1) an ao);clear an ao aB aC ad ac al Z;go_enter func12,ntmps12;go_upto_region 1 with fail;refine DY λay X=>?_;have W:=A_ X.b;have ah:=A_ X.k;clear X;obtain⟨E,G,D⟩:=bx ah;go_wp2_with fail;refine(C8z _ p _ xs ys B n d us Y ay (ag.below W) O.pr (af.below W) O.ind.lin.uo au).mono ?_;rintro _ aE ⟨rfl,aa⟩;have T:=A_ (BH W aa);have ai:=A_ (A0z ah aa);clear aa E G D;obtain⟨E,G,D⟩:=bx ai;go_wp2_with fail;refine(C5c _ p.1 _ xs ys H m c u es aE (ar.below T) (ae.below T) O.fi).mono ?_;rintro _ aF ⟨rfl,ab⟩;have h:=A_ (BH T ab);have ax:=A_ (A0z ai ab);clear ab E G D;obtain⟨E,G,D⟩:=bx ax;go_wp2_with fail;refine(C3o _ p _ B n d us Y H m c u es aF (ag.below h) (af.below h) (ae.below h) O.ind).mono ?_;rintro _ w3 ⟨I,aD,aA,az,rfl,aj,am,ak⟩;have aq:=A_ aj;have aw:=A_ (am.older (w0:=w) h.size);have ap:=A_ (BH h ak);clear aj am ak E G D;go_wp2;go_ret;exact⟨I,aD,aA,az,rfl,aq,aw,ap⟩
end
structure IsSolD (p:TProblem) (xs ys:List Int) (us:List TRat):Prop where
 sol:SolD p xs ys
 ul:us.length=p.1.1.length
 uo:us.all J_=AF
 uz:∀ i∈A3f p.1 AF,A2v (us.getD i.toNat A0h)=0
 il:(D7i p.1 us).length=inN p
 ap:B4o (stM p) (D7i p.1 us)=A6v p
 flux:FluxD p us
attribute [local go_sem] L_ Go.XB.opAt N_ M_ Region.wanted yielded
attribute [local simp] N_ M_ MP.eq MP.agg MP.aggS MP.aggV MP.sl MP.slbox MP.box A0r
theorem C5q (v:AU) (p:TProblem) (b:List Nat) (xs ys:List Int) (B:Option AJ) (n d:Nat) (us:List TRat) (aa:List Nat) (w:AD) (aA:Agg w v p b) (az:Sl w B n d us aa) (ap:IsSolD p xs ys us) :
  BL prog 21 #[v,QX B n d] w (A0b w (J AF)):=by
 have an:=A_ aA;have am:=A_ az;have h:=A_ ap;have al:=A_ (by rw[<-ap.ul];exact az.1.symm:n=p.1.1.length);obtain⟨bM,bU,bP,bW,bN,n1,bQ,bX,bO,n2,bR,bY,aF,bV,c3,bZ,rfl,rfl,aZ,a1,bB,bD⟩:=IF aA;have aM:=A_ (JN (x:=p.1) aZ a1);clear aZ a1 bB bD aA az ap;go_enter func21,ntmps21;go_upto_region 1 with fail;refine DY λbm ao=>?_;have ai:=A_ ao.b;have aO:=A_ ao.k;clear ao;obtain⟨Y,Z,H⟩:=bx aO;go_wp2_with fail;refine(C8z _ p _ xs ys B n d us aa bm (an.below ai) h.sol.pr (am.below ai) h.uo al).mono ?_;rintro _ bI ⟨rfl,ar⟩;have ag:=A_ (BH ai ar);have aP:=A_ (A0z aO ar);clear ar Y Z H;obtain⟨Y,Z,H⟩:=bx aP;go_wp2_with fail;refine(B3q _ p.1 _ B n d us aa bI (aM.below ag) (am.below ag) h.sol.md.1.n40 h.sol.md.1.t48 h.sol.md.es al h.uo h.uz).mono ?_;rintro _ a6 ⟨rfl,au⟩;have ah:=A_ (BH ag au);have T:=A_ (A0z aP au);clear au Y Z H;obtain⟨aR,-⟩:=B_ T (j:=0) rfl;obtain⟨aS,-⟩:=B_ T (j:=1) rfl;obtain⟨aT,-⟩:=B_ T (j:=2) rfl;obtain⟨aU,-⟩:=B_ T (j:=3) rfl;simp at aR aS aT aU;have H:w.1.size<a6.1.size:=E_ T;go_wp2_with fail;refine W_ 5 kR kR kR kR kR ?_;simp only[GT,FM,GU,FF];refine C_ _ ?_;refine D_ (MP.aggV (spM (stM p))) ?_ ?_;·intro aE O ae E D;obtain⟨bu,bv⟩:=F_ E;simp at D;refine G_ ?_;exact(C6n _ p _ xs ys (stM p) ae (an.o.below (BH ah.o E)) h.o.sol.md h.o.sol.pr.dl rfl (λr aX=>⟨by rw[h.o.sol.fac.sq.row r aX];exact h.sol.fac.sq.n40,h.sol.fac.sq.ok r aX⟩)).mono λ_ _ ⟨u,s,he,ha,hn,G⟩=>⟨u,he,G,s,ha,λb G=>⟨hn b G,ha.lt b G⟩⟩
 refine C_ _ ?_;refine D_ (MP.sl (A6v p)) ?_ ?_;·intro aE O ae E D;obtain⟨bu,bv⟩:=F_ E;simp at D;refine G_ ?_;exact A1c (E1j _ p _ xs ys ae (an.below (BH ah E)) h.sol.md h.sol.pr.sl h.sol.ld)
 refine A1p #[QX none 0 0] 90 ?_ ?_;·intro aE O ae E D;refine⟨gD,?_⟩;go_simp
 intro aE O wa E D (ax:Hid _);simp at D;have q1:=D.2.1;have bG:=D.2.2.2.1;have bH:=D.2.2.2.2;obtain⟨ac,bA⟩:=q1;obtain⟨ba,aB,br,b0,bt,bL,a3⟩:=TMatrix.agg ac;have aW:=a3.1;obtain⟨⟨⟨a9,ad,bq,bT,a4⟩,_⟩,_⟩:=bG;obtain⟨⟨gM,bS,af,ay⟩,aY⟩:=bH;have aH:gM∉O 1:=λG=>by have:=ax 1 4 dE dE dE _ G;rw[af]at this;simp at this
 have aI:gM∉O 3:=λG=>by have:=ax 3 4 dE dE dE _ G;rw[af]at this;simp at this
 have bz:a6.1.size<=gM:=(aY gM (by rw[af];simp)).1;rw[bt]at ac;have aK:=A_ ac;have aN:=A_ a4;have aL:=A_ ay;have aJ:=A_ (And.intro aH aI);have ak:=A_ E;obtain⟨aC,aD,l1⟩:=bx ay;generalize O 1=b4 at *;generalize O 3=b5 at *;clear D ax ac bA bL a3 a4 af ay aY aH aI E aR aS aT aU H;go_upto_region 4 with fail;refine Code.setAt (arr':=#[QX ba aB br]) aL λw3 W=>?_;have aG:=A_ (W.low ak ak.size bz);have aF:=A_ (aK.keepG W.gr aJ.1);have aQ:=A_ (aN.keepG W.gr aJ.2);have bh:=A_ W.k;have bj:=A_ (A0z T aG);have aj:=A_ (BH ah aG);clear W aL aK aN aC aD l1 ak;obtain⟨Y,Z,H⟩:=bx bj;go_wp2_with fail;refine(E0a _ p.1 _ B n d us aa w3 (aM.below aj) h.sol.md.1.n40 h.sol.md.1.t48 h.sol.md.es (am.below aj) al (B6l h.uo)).mono ?_;rintro _ bJ ⟨I,a5,bp,bE,rfl,aq,-,X⟩;have ab:inN p=a5:=by rw[<-aq.1,h.o.il]
 obtain rfl:aB=a5:=by rw[<-aW,<-ab];show((stM p).map B7m).length=_;rw[List.length_map];exact h.sol.fac.sq.len
 obtain rfl:ad=aB:=by rw[<-aQ.o.1,h.o.sol.nl];exact ab
 have SQ:=A_ (by rw[<-ab];exact h.sol.fac.sq:SqM ad (stM p));have bf:=A_ aq;have bc:=A_ (BH aj X);have bi:=A_ (A0z bh X);have a7:=A_ (aF.below X);have bk:=A_ (aQ.below X);clear aq X ab aW Y Z H;obtain⟨aC,aD,l1⟩:=bx bi;go_wp2_with fail;refine(E0t _ (stM p) ad _ I bp (D7i p.1 us) bE bJ a7.o SQ.o bf.o (by rw[h.o.ap];exact h.sol.ld)).mono ?_;rintro _ bK ⟨a8,bF,bo,bn,rfl,a2,aw⟩;have bg:=A_ a2;have bd:=A_ (BH bc aw);have bl:=A_ (bk.below aw);clear a2 aw aC aD l1;go_wp2_with fail;have C:=A5j a8 a9 bF ad bo bq (B4o (stM p) (D7i p.1 us)) (A6v p) bn _ bK bg bl;rw[decide_eq_true h.o.ap]at C;refine C.mono ?_;clear C;rintro _ b3 ⟨rfl,aV⟩;have be:=A_ (BH bd aV);clear aV;go_wp2;go_ret;exact⟨rfl,be⟩
theorem B7p (v:AU) (p:TProblem) (b:List Nat) (xs ys:List Int) (B:Option AJ) (n d:Nat) (us:List TRat) (G:List Nat) (w:AD) (O:Agg w v p b) (af:Sl w B n d us G) (ab:IsSolD p xs ys us) :
  BL prog 6 #[v,QX B n d] w (D9x w (A4i p us)):=by
 have Z:=A_ O;have Y:=A_ af;have D:=A_ ab;obtain⟨ax,aE,aB,aG,ay,n1,aC,aH,az,n2,aD,aI,aA,aF,c3,aJ,rfl,rfl,ao,ap,aq,ar⟩:=IF O;clear ao ap aq ar O af ab;go_enter func6,ntmps6;go_upto_region 1 with fail;refine DY λak E=>?_;have u:=A_ E.b;have aa:=A_ E.k;clear E;obtain⟨W,X,T⟩:=bx aa;go_wp2_with fail;refine(C5q _ p _ xs ys B n d us G ak (Z.below u) (Y.below u) D).mono ?_;rintro _ aw ⟨rfl,H⟩;have h:=A_ (BH u H);have aj:=A_ (A0z aa H);clear H W X T;obtain⟨W,X,T⟩:=bx aj;go_wp2_with fail;refine(E2h _ p _ xs ys B n d us G aw (Z.below h) (Y.below h) D.sol.pr D.flux).mono ?_;rintro _ aK ⟨F,au,am,al,rfl,ac,ae,ad⟩;have ah:=A_ ac;have ai:=A_ ae;have ag:=A_ (BH h ad);clear ac ae ad W X T;go_wp2;go_ret2;exact⟨F,au,am,al,rfl,ah,λb an=>by have:=ai b an;have:=h.size;omega,ag.o⟩
section
def F3s (ps:List TPoint) (fl:List LF) (t:TTri):LF:=A7p (A0d (mkR 1 3) (arC ps t)) (fl.getD t.4.toNat A4z)
def D9k (rows:List Int) (p:Int) (x:LF) (V:List LF):List LF :=
 bif BQ (0<=rows.getD p.toNat (-1))then V.set (rows.getD p.toNat (-1)).toNat (C8u (V.getD (rows.getD p.toNat (-1)).toNat A4z) x)else V
def F3h (rows:List Int) (t:TTri) (x:LF) (V:List LF):Nat->List LF
 |0=>V
 |i+1=>D9k rows (at3 t.a t.b t.c i) x (F3h rows t x V i)
def D3q (m:TMesh) (fl:List LF) (rows:List Int) (n:Nat):Nat->List LF
 |0=>List.replicate n A4k
 |k+1=>F3h rows (m.triangles.getD k D6n) (F3s m.1 fl (m.triangles.getD k D6n)) (D3q m fl rows n k) 3
def D5t (m:TMesh) (fl:List LF):List LF:=D3q m fl (B1i m) (A3f m AH).length m.triangles.length
section
variable {s:A2c}
theorem E3g (E:SrcIn s) {b:List Int} {p:Int} {l:LF} {x:TRat} {V:List LF} {u:List TRat} (D:Rep s l x) (h:RepL s V u):RepL s (D9k b p l V) (A7c b p x u):=by
 unfold D9k A7c;cases BQ (0<=b.getD p.toNat (-1));·exact h
 exact h.set _ (Rep.add E (h.2 _) D)
theorem D8v (hs:SrcIn s) {rows:List Int} {t:TTri} {l:LF} {x:TRat} {V:List LF} {W:List TRat} (h1:Rep s l x) (h:RepL s V W):∀ i,RepL s (F3h rows t l V i) (A7n rows t x W i)
 |0=>h
 |i+1=>E3g hs h1 (D8v hs h1 h i)
theorem C3s (hs:SrcIn s) {p:TProblem} {fl:List LF} (hf:RepL s fl p.3) (rows:List Int) (n:Nat):∀ k,RepL s (D3q p.1 fl rows n k) (A4v p rows n k)
 |0=>RepL.replicate _
 |k+1=>D8v hs (Rep.scale' hs (hf.2 _)) (C3s hs hf rows n k) 3
theorem D0v (hs:SrcIn s) {p:TProblem} {fl:List LF} (hf:RepL s fl p.3):RepL s (D5t p.1 fl) (A6v p):=C3s hs hf _ _ _
def C7e (row:List TRat) (i:Nat) (V:List LF):Nat->List LF
 |0=>V
 |k+1=>(C7e row i V k).set i (E1z ((C7e row i V k).getD i A4z) (A7p (row.getD k A0h) ((C7e row i V k).getD k A4z)))
def E8h (L:List (List TRat)) (V:List LF):Nat->List LF
 |0=>V
 |i+1=>C7e (L.getD i []) i (E8h L V i) i
def E5t (P:List TRat) (V:List LF):Nat->List LF
 |0=>V
 |i+1=>(E5t P V i).set i (E6y ((E5t P V i).getD i A4z) (P.getD i A0h))
def C7d (L:List (List TRat)) (i:Nat) (V:List LF):Nat->List LF
 |0=>V
 |q+1=>(C7d L i V q).set i (E1z ((C7d L i V q).getD i A4z) (A7p ((L.getD (i+1+q) []).getD i A0h) ((C7d L i V q).getD (i+1+q) A4z)))
def F2p (L:List (List TRat)) (n:Nat) (V:List LF):Nat->List LF
 |0=>V
 |m+1=>C7d L (n - 1 - m) (F2p L n V m) m
def F1w (F:TFactor) (n:Nat) (b:List LF):List LF:=F2p F.lower n (E5t F.pivots (E8h F.lower b n) n) n
theorem C9d (hs:SrcIn s) {row:List TRat} {i:Nat} {V:List LF} {W:List TRat} (h:RepL s V W):∀ k,RepL s (C7e row i V k) (B6w row i W k)
 |0=>h
 |k+1=>have ih:=C9d hs (row:=row) (i:=i) h k
  ih.set _ (Rep.sub hs (ih.2 _) (Rep.scale hs (ih.2 _)))
theorem D0x (hs:SrcIn s) {L:List (List TRat)} {V:List LF} {W:List TRat} (h:RepL s V W):∀ k,RepL s (E8h L V k) (C5k L W k)
 |0=>h
 |k+1=>C9d hs (D0x hs h k) _
theorem D1d (hs:SrcIn s) {P:List TRat} {V:List LF} {W:List TRat} (h:RepL s V W):∀ k,RepL s (E5t P V k) (C5l P W k)
 |0=>h
 |k+1=>have ih:=D1d hs (P:=P) h k
  ih.set _ (Rep.div hs (ih.2 _))
theorem C7o (hs:SrcIn s) {L:List (List TRat)} {i:Nat} {V:List LF} {W:List TRat} (h:RepL s V W):∀ k,RepL s (C7d L i V k) (B4s L i W k)
 |0=>h
 |k+1=>have ih:=C7o hs (L:=L) (i:=i) h k
  ih.set _ (Rep.sub hs (ih.2 _) (Rep.scale hs (ih.2 _)))
theorem D1k (hs:SrcIn s) {L:List (List TRat)} {n:Nat} {V:List LF} {W:List TRat} (h:RepL s V W):∀ k,RepL s (F2p L n V k) (C3r L n W k)
 |0=>h
 |k+1=>C7o hs (D1k hs h k) _
theorem E3i (hs:SrcIn s) {F:TFactor} {n:Nat} {V:List LF} {W:List TRat} (h:RepL s V W):RepL s (F1w F n V) (B1g F n W):=D1k hs (D1d hs (D0x hs h _) _) _
def D6k (u:List LF) (i:Int):LF:=bif BQ (0<=i)then u.getD i.toNat A4z else A4k
def E4f (m:TMesh) (u:List LF):List LF:=(B1i m).map (D6k u)
def E8c (m:TMesh) (u:List LF):List LF:=(A3f m AH).map λi=>u.getD i.toNat A4z
theorem RepL.maps {l:List Int} {f:Int->LF} {g:Int->TRat} (h:∀ i,Rep s (f i) (g i)):RepL s (l.map f) (l.map g):=by
 refine⟨sI,λi=>?_⟩;simp only[EH,IR];cases l[i]? with
 |none=>exact Rep.bad
 |some x=>exact h x
theorem D6y {m:TMesh} {u:List LF} {v:List TRat} (h:RepL s u v):RepL s (E4f m u) (B4j m v):=RepL.maps λi=>by
 unfold D6k A8o
 cases BQ (0<=i)
 ·exact Rep.zero
 exact h.2 _
theorem E3b {m:TMesh} {u:List LF} {v:List TRat} (h:RepL s u v):RepL s (E8c m u) (D7i m v):=RepL.maps λ_=>h.2 _
def E8i (R:TRow) (u:List LF):Nat->LF
 |0=>A4k
 |k+1=>C8u (E8i R u k) (A7p (R.vals.getD k A0h) (u.getD (R.cols.getD k 0).toNat A4z))
theorem D0q (hs:SrcIn s) {R:TRow} {u:List LF} {v:List TRat} (h:RepL s u v):∀ k,Rep s (E8i R u k) (C9s R v k)
 |0=>Rep.zero
 |k+1=>Rep.add hs (D0q hs h k) (Rep.scale hs (h.2 _))
def F3i (u:List LF) (r:List TRat):LF:=E8i (B7m r) u (B7m r).cols.length
def D3t (M:List (List TRat)) (u:List LF):List LF:=M.map (F3i u)
theorem E1c (b:SrcIn s) {M:List (List TRat)} {u:List LF} {v:List TRat} (h:RepL s u v):RepL s (D3t M u) (B4o M v):=by
 refine⟨by simp[D3t,B4o],λi=>?_⟩;simp only[D3t,B4o,EH,IR];cases M[i]? with
 |none=>exact Rep.bad
 |some x=>exact D0q b h _
def F2t:List LF->List LF->Bool
 | [],[]=>AF
 |a::l,b::m=>leq a b&&F2t l m
 |_,_=>AH
theorem RepL.tail {a:LF} {l:List LF} {x:TRat} {v:List TRat} (h:RepL s (a::l) (x::v)):Rep s a x/\RepL s l v:=⟨by simpa using h.2 0,by simpa using h.1,λi=>by simpa using h.2 (i+1)⟩
theorem E4b (u:SrcIn s):∀ {l m:List LF} {v w:List TRat},RepL s l v->RepL s m w->F2t l m=AF->v=w
 | [],[],v,w,h1,h2,_=>by
  rw[IV h1.1.symm,IV h2.1.symm]
 |a::l,b::m,v,w,h1,h2,h=>by
  obtain⟨x,v,rfl⟩:∃ x v',v=x::v':=by
   cases v with
   |nil=>have:=h1.1;simp at this
   |cons x v=>exact⟨x,v,rfl⟩
  obtain⟨y,w,rfl⟩:∃ y w',w=y::w':=by
   cases w with
   |nil=>have:=h2.1;simp at this
   |cons x v=>exact⟨x,v,rfl⟩
  unfold F2t at h
  rw[DJ]at h
  obtain⟨D,E⟩:=h1.tail
  obtain⟨b1,b2⟩:=h2.tail
  rw[Rep.eq u D b1 h.1,E4b u E b2 h.2]
 | [],_::_,_,_,_,_,h=>by cases h
 |_::_,[],_,_,_,_,h=>by cases h
end
def sqB (n:Nat) (M:List (List TRat)):Bool:=BQ (M.length=n)&&(BQ (n<=40)&&M.all λr=>BQ (r.length=n)&&(r.all J_&&!(B7m r).cols.isEmpty))
def F3k (n:Nat) (M:List (List TRat)):Bool:=sqB n M&&(GE n).all λi=>((GE n).all λj=>BQ (B4g M i j=B4g M j i))&&(!(A7i (A5h M i) M i i).any A2e&&(J_ (B3s (A5h M i) M i)&&BQ (0<R_ (B3s (A5h M i) M i))))
theorem F2u {n:Nat} {M:List (List TRat)} (h:F3k n M=AF):FacOk n M:=by
 unfold F3k sqB at h;simp only[DJ,decide_eq_true_eq,CU,Bool.not_eq_true',JW]at h;obtain⟨⟨G,H,D⟩,E⟩:=h;refine⟨⟨G,H,λr u=>(D r u).1,λr u=>(D r u).2.1,λr u e=>?_⟩,λi j b O=>(E i b).1 j O,λi b=>(E i b).2.1,λi b=>(E i b).2.2⟩;have:=(D r u).2.2;rw[e]at this;cases this
end
section
def E7h (m:TMesh) (ks:List TRat) (ul fl:List LF) (v:Int) (f:TFan):Bool :=
 (bif f.closed then((C5w m.1 ks ul fl (A6g m.triangles f) v (A6g m.triangles f).length).getD (A6g m.triangles f).length A4z).zero else AF)&&D9c (E8y m ks ul fl f v)
def C5b (m:TMesh) (ks:List TRat) (ul fl:List LF):Bool :=
 ((GE m.1.length).all λv=>(A8x m.triangles v).all λf=>E7h m ks ul fl v f) &&
 (D9c (B2x m ks ul fl) &&
 ((GE m.triangles.length).all λk=>(E3o m.1 fl (m.triangles.getD k A4p)).ok&&leq (E9j (P_ m.triangles) (B2x m ks ul fl) k) (E3o m.1 fl (m.triangles.getD k A4p))))
def B6u:List LF:=[⟨1,0,0,0,0,1⟩,⟨0,1,0,0,0,1⟩,⟨0,0,1,0,0,1⟩]
structure RunD (p:TProblem) (us:List TRat) (ks:List TRat) (ul:List LF) (s:A2c):Prop where
 hs:SrcIn s
 hu:RepL s ul us
 hf:RepL s B6u p.3
 kt:∀ t∈p.1.triangles,kC ks t=B4w p t
 kz:kC ks A4p=B4w p A4p
 run:C5b p.1 ks ul B6u=AF
theorem C4g {r:TRat} (h:J_ r=AF):A2e r=AH:=by
 have:=(ratOkB_iff.1 h).den0;unfold A2e;cases b:r.2 with
 |nil=>exfalso;unfold T_ at this;rw[b]at this;revert this;decide
 |cons _ _=>rfl
theorem D8y {xs:List TRat} (h:∀ r∈xs,J_ r=AF):xs.any A2e=AH:=by
 rw[List.any_eq_false];intro r b;rw[C4g (h r b)];decide
theorem D7d {ts:List TTri} {f:TFan} {t:TTri} (h:t∈A6g ts f):t∈ts\/t=A4p:=by
 unfold A6g at h;obtain⟨k,_,rfl⟩:=JX.1 h;rw[EH];cases b:ts[k.toNat]? with
 |none=>exact .inr rfl
 |some x=>exact .inl (DH b)
section
variable {p:TProblem} {us ks:List TRat} {ul:List LF} {s:A2c}
theorem RunD.ko (h:RunD p us ks ul s):∀ f,D1o p ks (A6g p.1.triangles f):=λf t ht=>by
 rcases D7d ht with h1|rfl
 ·exact h.kt t h1
 exact h.kz
theorem RunD.flux (h:RunD p us ks ul s):RepL s (B2x p.1 ks ul B6u) (A4i p us):=E1h h.hs h.ko h.hu h.hf
theorem RunD.fans (h:RunD p us ks ul s) {v:Nat} (D:v<p.1.1.length) {f:TFan} (u:f∈A8x p.1.triangles v):E7h p.1 ks ul B6u v f=AF:=by
 have b:=h.run;unfold C5b at b;rw[DJ]at b;exact CU.1 (CU.1 b.1 v (JW.2 D)) f u
theorem RunD.ok (h:RunD p us ks ul s):D9c (B2x p.1 ks ul B6u)=AF:=by
 have b:=h.run;unfold C5b at b;rw[DJ,DJ]at b;exact b.2.1
theorem RunD.fluxOk (h:RunD p us ks ul s):(A4i p us).all J_=AF:=CU.2 λr hr=>h.flux.val h.hs h.ok r hr
theorem RunD.fanOk (h:RunD p us ks ul s) {v:Nat} (E:v<p.1.1.length) {f:TFan} (u:f∈A8x p.1.triangles v):(A6f p us f v).any A2e=AH:=by
 have b:=h.fans E u;unfold E7h at b;rw[DJ]at b;exact D8y λr D=>(D3x h.hs (h.ko f) h.hu h.hf).val h.hs b.2 r D
theorem RunD.fanCl (h:RunD p us ks ul s) {v:Nat} (O:v<p.1.1.length) {f:TFan} (H:f∈A8x p.1.triangles v) (G:f.closed=AF) :
  J_ ((A2h (A1h p us f v) f.triangles.length).getD f.triangles.length A0h)=AF/\A2v ((A2h (A1h p us f v) f.triangles.length).getD f.triangles.length A0h)=0:=by
 have u:=h.fans O H;unfold E7h at u;rw[DJ,G]at u;have e:(A6g p.1.triangles f).length=f.triangles.length:=by simp[A6g]
 have E:=(B6i (v:=(v:Int)) h.hs (h.ko f) h.hu h.hf _ (Nat.le_refl (A6g p.1.triangles f).length)).2 (A6g p.1.triangles f).length;have b:=E.is_zero h.hs u.1;rw[e,<-C9j]at b;refine⟨b.1,?_⟩;have D:=b.2;unfold A9m at D;rwa [if_pos b.1]at D
end
end
@[irreducible] def B5e:Int:=10 ^ 84
theorem F2r:0<=B5e:=dK
theorem C2t (n:Nat) (h:n<=1000):(n:Int)*B5e<10 ^ 99:=by
 have b:(n:Int)*B5e<=1000*B5e:=LZ oS F2r;exact Int.lt_of_le_of_lt b dK
theorem D1u {u:Int} (h:0<=u):-(10 ^ 100)<u:=by
 have:(0:Int)<10 ^ 100:=dK;omega
theorem Ov.zeroZ {M u:Int} {r:TRat} (h:Ov M u r):Ov M 0 (U_ 0):=by
 have:=Ov.int (n:=0) dE dE;exact this.cong h.m0 h.m1 dK dK sI
def E3p (a k:TRat):Int:=12 / R_ k*(T_ k*(8 / T_ a*R_ a))
def enW (a k:TRat):Int:=2 / T_ k*(R_ k*(8 / T_ a*R_ a))
theorem ov_third:Ov 3 1 (mkR 1 3):=⟨dE,dK,dK,dK,rfl⟩
theorem D9o {a b c T:Int} (h0:0<=a) (h1:a<=c) (h2:0<=b) (h3:c*b<=T):0<=a*b/\a*b<=T :=
 ⟨IQ h0 h2,Int.le_trans (LZ h1 h2) h3⟩
theorem E5w {b:Int} {a k ad ae af:TRat} {h u D:Int} (Y:0<b) (Z:b<10 ^ 17) (H:(0<=h/\h<2*10 ^ 74)/\Ov (b*b) h ad) (O:(0<=u/\u<2*10 ^ 74)/\Ov (b*b) u ae) (T:(0<=D/\D<2*10 ^ 74)/\Ov (b*b) D af)
  (aa:J_ a=AF) (a0:0<R_ a) (aB:R_ a<100) (W:T_ a*(8 / T_ a)=8) (ab:J_ k=AF) (aw:0<R_ k) (ac:R_ k*(12 / R_ k)=12) (k1:T_ k<100) :
  (0<=E3p a k*(h+u+D)/\E3p a k*(h+u+D)<=B5e)/\Ov (288*(b*b)) (E3p a k*(h+u+D)) (A3u (A0d a (A0d (mkR 1 3) (A0k (A0k (A0k (U_ 0) ad) ae) af))) k):=by
 have am:E3p a k*(h+u+D)=12 / R_ k*(T_ k*(8 / T_ a*(R_ a*(h+u+D)))):=by unfold E3p;generalize 12 / R_ k=c;generalize 8 / T_ a=d;grind
 rw[am];obtain⟨⟨aN,aQ⟩,H⟩:=H;obtain⟨⟨aO,aR⟩,O⟩:=O;obtain⟨⟨aP,aS⟩,T⟩:=T;have aD:0<T_ a:=(ratOkB_iff.1 aa).den0;have aH:0<T_ k:=(ratOkB_iff.1 ab).den0;have ah:0<=8 / T_ a:=MV dE oS;have b1:8 / T_ a<=8:=Int.ediv_le_self _ dE;have ai:0<=12 / R_ k:=MV dE oS;have aj:12 / R_ k<=12:=Int.ediv_le_self _ dE;have aC:R_ k<=12:=by
  rcases FH 12 (R_ k)with E|E;·rw[PL dE E,Int.mul_zero]at ac;omega
  exact E
 have aE:T_ a<=8:=by
  rcases FH 8 (T_ a)with E|E;·rw[PL dE E,Int.mul_zero]at W;omega
  exact E
 have ak:(10:Int) ^ 17*10 ^ 17=10 ^ 34:=dK;have aF:0<b*b:=GW Y Y;have aG:b*b<10 ^ 34:=by have:=(B2p (by have:(0:Int)<10 ^ 17:=dK;omega:-(10 ^ 17)<b) Z (by have:(0:Int)<10 ^ 17:=dK;omega:-(10 ^ 17)<b) Z).2;rwa [ak]at this
 have aJ:288*(10:Int) ^ 34<10 ^ 45:=dK;have aK:1000000000*(10:Int) ^ 74<10 ^ 100:=dK;have aL:1000000000*(10:Int) ^ 74<10 ^ 190:=dK;have aM:1000000000*(10:Int) ^ 74<=B5e:=dK;generalize (10:Int) ^ 74=G at *;have au:=H.zeroZ;have an:=au.add H oS oS;have ao:=an.add O oS oS;have X:=ao.add T oS oS;have al:(0+h+u+D:Int)=h+u+D:=oS;rw[al]at X;have ag:0<=h+u+D:=oS;have aA:h+u+D<=6*G:=oS;generalize h+u+D=S at *;generalize b*b=N at *;have ap:=ov_third.mul X (P:=3*N) (t:=S) oS oS oS oS oS oS (by grind);have ax:=Ov.con aa (by have:(100:Int)<10 ^ 45:=dK;omega) oS oS;have p1:0<=R_ a*S/\R_ a*S<=600*G:=D9o (c:=100) oS oS ag oS;have p2:0<=(8 / T_ a)*(R_ a*S)/\(8 / T_ a)*(R_ a*S)<=4800*G:=D9o (c:=8) ah b1 p1.1 oS;have aq:=ax.mul ap (P:=24*N) (t:=(8 / T_ a)*(R_ a*S)) oS oS oS oS oS oS (by
  calc R_ a*S*(24*N)=R_ a*S*(3*N)*8:=by grind
   _=R_ a*S*(3*N)*(T_ a*(8 / T_ a)):=by rw[W]
   _=_:=by grind)
 generalize (8 / T_ a)*(R_ a*S)=U at *;have ok:=Ov.con ab (by have:(100:Int)<10 ^ 45:=dK;omega) oS oS;have ay:0<=T_ k*U/\T_ k*U<=480000*G:=D9o (c:=100) oS oS p2.1 oS;have az:0<=(12 / R_ k)*(T_ k*U)/\(12 / R_ k)*(T_ k*U)<=5760000*G:=D9o (c:=12) ai aj ay.1 oS;have aI:U*T_ k=T_ k*U:=Int.mul_comm _ _;have ar:=aq.div ok aw (P:=288*N) (t:=(12 / R_ k)*(T_ k*U)) oS oS oS oS oS oS (by
  calc U*T_ k*(288*N)=U*T_ k*(24*N)*12:=by grind
   _=U*T_ k*(24*N)*(R_ k*(12 / R_ k)):=by rw[ac]
   _=_:=by grind)
 exact⟨⟨az.1,oS⟩,ar⟩
def E7r (m:TMesh) (ks:List TRat) (ul xs:List LF) (k:Nat) (t:TTri):List LP :=
 (B5b (Z_ m.1 t.a) (Z_ m.1 t.b) (Z_ m.1 t.c)).map λz=>D4q (E8v (Z_ m.1 t.a) (Z_ m.1 t.b) (Z_ m.1 t.c) (D3b (P_ m.triangles) xs k t) z) (D9j m.1 ks ul t)
def E7w (m:TMesh) (ks:List TRat) (t:TTri):Bool :=
 (BQ (T_ (arC m.1 t)*(8 / T_ (arC m.1 t))=8)&&(J_ (arC m.1 t)&&(BQ (0<R_ (arC m.1 t))&&BQ (R_ (arC m.1 t)<100)))) &&
 (J_ (kC ks t)&&(BQ (0<R_ (kC ks t))&&(BQ (R_ (kC ks t)*(12 / R_ (kC ks t))=12)&&BQ (T_ (kC ks t)*(2 / T_ (kC ks t))=2))))
def sq1 (w D:Int) (P:LP):SQ:=[(w,C7r D P.1),(w,C7r D P.2)]
theorem C6p (w D:Int) (P:LP) (x:List Int):A0o (sq1 w D P) x=w*(A7a (C7r D P.1) x*A7a (C7r D P.1) x+A7a (C7r D P.2) x*A7a (C7r D P.2) x):=by
 unfold sq1;simp only[A0o];grind
theorem E8f {s:A2c} {b:Int} {P:LP} {q:TPoint} (G:SrcIn s) (D:0<b) (E:b<10 ^ 17) (h:RepP s P q) (u:E5n b P=AF) :
  (0<=A0o (sq1 1 b P) (sv s)/\A0o (sq1 1 b P) (sv s)<2*10 ^ 74)/\Ov (b*b) (A0o (sq1 1 b P) (sv s)) (A1k q q):=by
 unfold E5n at u;rw[DJ]at u;obtain⟨H,T⟩:=E2t G D E (h.fst (D9n u.2)) u.1;obtain⟨O,W⟩:=E2t G D E (h.snd (D9n u.1)) u.2;rw[C6p,Int.one_mul];exact E9u D E H O T W
def C2x (D:Int) (m:TMesh) (ks:List TRat) (ul xs:List LF) (k:Nat) (t:TTri):SQ:=(E7r m ks ul xs k t).flatMap (sq1 (E3p (arC m.1 t) (kC ks t)) D)
def C0a (D:Int) (m:TMesh) (ks:List TRat) (ul xs:List LF):Nat->SQ
 |0=>[]
 |k+1=>C0a D m ks ul xs k++C2x D m ks ul xs k (m.triangles.getD k A4p)
def E6i (D:Int) (m:TMesh) (ks:List TRat) (ul xs:List LF):Bool :=
 (BQ (0<D)&&BQ (D<10 ^ 17))&&(GE m.triangles.length).all λk=>E7w m ks (m.triangles.getD k A4p)&&(E7r m ks ul xs k (m.triangles.getD k A4p)).all (E5n D)
theorem E8w {p:TProblem} {us ks u:List TRat} {ul xs:List LF} {s:A2c} {b:Int} (h:RunD p us ks ul s) (aj:RepL s xs u) (D:E6i b p.1 ks ul xs=AF) {i:Nat} (hi:i<p.1.triangles.length) :
  (0<=A0o (C2x b p.1 ks ul xs i (p.1.triangles.getD i A4p)) (sv s)/\A0o (C2x b p.1 ks ul xs i (p.1.triangles.getD i A4p)) (sv s)<=B5e)/\Ov (288*(b*b)) (A0o (C2x b p.1 ks ul xs i (p.1.triangles.getD i A4p)) (sv s)) (D5o p us u i (p.1.triangles.getD i A4p)):=by
 unfold E6i at D;simp only[DJ,decide_eq_true_eq]at D;obtain⟨⟨H,O⟩,D⟩:=D;have T:=CU.1 D i (JW.2 hi);rw[DJ]at T;obtain⟨E,ak⟩:=T;have am:p.1.triangles.getD i A4p∈p.1.triangles:=B9b hi;have W:=h.kt _ am;generalize p.1.triangles.getD i A4p=t at *;have an:=D5z (es:=P_ p.1.triangles) (k:=(i:Int)) (t:=t) h.hs aj;have al:=E1l h.hs W h.hu
 have ap:∀ z,RepP s (D4q (E8v (Z_ p.1.1 t.a) (Z_ p.1.1 t.b) (Z_ p.1.1 t.c) (D3b (P_ p.1.triangles) xs i t) z) (D9j p.1.1 ks ul t)) (A3y (A2q (Z_ p.1.1 t.a) (Z_ p.1.1 t.b) (Z_ p.1.1 t.c) (A7o (P_ p.1.triangles) u i t) z) (B2e p us t)) :=
  λz=>RepP.add h.hs (E4x h.hs an) al
 have q:=λz ao=>E8f h.hs H O (ap z) (CU.1 ak _ (JX.2 ⟨z,ao,rfl⟩));have ag:=q (A2f (Z_ p.1.1 t.b) (Z_ p.1.1 t.c)) (by simp[B5b]);have ah:=q (A2f (Z_ p.1.1 t.c) (Z_ p.1.1 t.a)) (by simp[B5b]);have ai:=q (A2f (Z_ p.1.1 t.a) (Z_ p.1.1 t.b)) (by simp[B5b]);unfold E7w at E;simp only[DJ,decide_eq_true_eq]at E;obtain⟨⟨X,Y,c3,Z⟩,aa,ab,ac,ad⟩:=E;have ae:T_ (kC ks t)<100:=by
  rcases FH 2 (T_ (kC ks t))with G|G;·rw[PL dE G,Int.mul_zero]at ad;omega
  omega
 have r:=E5w H O ag ah ai Y c3 Z X aa ab ac ae;have e:A0o (C2x b p.1 ks ul xs i t) (sv s)=E3p (arC p.1.1 t) (kC ks t)*(A0o (sq1 1 b (D4q (E8v (Z_ p.1.1 t.a) (Z_ p.1.1 t.b) (Z_ p.1.1 t.c) (D3b (P_ p.1.triangles) xs i t) (A2f (Z_ p.1.1 t.b) (Z_ p.1.1 t.c))) (D9j p.1.1 ks ul t))) (sv s)+A0o (sq1 1 b (D4q (E8v (Z_ p.1.1 t.a) (Z_ p.1.1 t.b) (Z_ p.1.1 t.c) (D3b (P_ p.1.triangles) xs i t) (A2f (Z_ p.1.1 t.c) (Z_ p.1.1 t.a))) (D9j p.1.1 ks ul t))) (sv s)+A0o (sq1 1 b (D4q (E8v (Z_ p.1.1 t.a) (Z_ p.1.1 t.b) (Z_ p.1.1 t.c) (D3b (P_ p.1.triangles) xs i t) (A2f (Z_ p.1.1 t.a) (Z_ p.1.1 t.b))) (D9j p.1.1 ks ul t))) (sv s)):=by unfold C2x E7r B5b;simp only[List.map_cons,List.map_nil,List.flatMap_cons,List.flatMap_nil,C3c,C6p,A0o];grind
 have af:D5o p us u i t=A3u (A0d (arC p.1.1 t) (A0d (mkR 1 3) (A0k (A0k (A0k (U_ 0) (A1k (A3y (A2q (Z_ p.1.1 t.a) (Z_ p.1.1 t.b) (Z_ p.1.1 t.c) (A7o (P_ p.1.triangles) u i t) (A2f (Z_ p.1.1 t.b) (Z_ p.1.1 t.c))) (B2e p us t)) (A3y (A2q (Z_ p.1.1 t.a) (Z_ p.1.1 t.b) (Z_ p.1.1 t.c) (A7o (P_ p.1.triangles) u i t) (A2f (Z_ p.1.1 t.b) (Z_ p.1.1 t.c))) (B2e p us t)))) (A1k (A3y (A2q (Z_ p.1.1 t.a) (Z_ p.1.1 t.b) (Z_ p.1.1 t.c) (A7o (P_ p.1.triangles) u i t) (A2f (Z_ p.1.1 t.c) (Z_ p.1.1 t.a))) (B2e p us t)) (A3y (A2q (Z_ p.1.1 t.a) (Z_ p.1.1 t.b) (Z_ p.1.1 t.c) (A7o (P_ p.1.triangles) u i t) (A2f (Z_ p.1.1 t.c) (Z_ p.1.1 t.a))) (B2e p us t)))) (A1k (A3y (A2q (Z_ p.1.1 t.a) (Z_ p.1.1 t.b) (Z_ p.1.1 t.c) (A7o (P_ p.1.triangles) u i t) (A2f (Z_ p.1.1 t.a) (Z_ p.1.1 t.b))) (B2e p us t)) (A3y (A2q (Z_ p.1.1 t.a) (Z_ p.1.1 t.b) (Z_ p.1.1 t.c) (A7o (P_ p.1.triangles) u i t) (A2f (Z_ p.1.1 t.a) (Z_ p.1.1 t.b))) (B2e p us t)))))) (B4w p t):=rfl;rw[af,<-W];rw[<-e]at r;exact r
theorem D3v {b:Int} (h:0<b) (u:b<10 ^ 17):0<b*b/\288*(b*b)<10 ^ 45:=by
 have E:=(B2p (by have:(0:Int)<10 ^ 17:=dK;omega:-(10 ^ 17)<b) u (by have:(0:Int)<10 ^ 17:=dK;omega:-(10 ^ 17)<b) u).2;have e:288*((10:Int) ^ 17*10 ^ 17)<10 ^ 45:=dK;exact⟨GW h h,by generalize (10:Int) ^ 17*10 ^ 17=D at *;omega⟩
theorem E4v {M:Int} (m0:0<M) (m1:M<10 ^ 45):Ov M 0 (U_ 0) :=
 (Ov.int (n:=0) dE dE).cong m0 m1 dK dK sI
theorem E4e {M u v:Int} {r q:TRat} {k:Nat} (G:k<900) (h:(0<=u/\u<=k*B5e)/\Ov M u r) (D:(0<=v/\v<=B5e)/\Ov M v q):(0<=u+v/\u+v<=((k+1:Nat):Int)*B5e)/\Ov M (u+v) (A0k r q):=by
 have e:((k+1:Nat):Int)*B5e=k*B5e+B5e:=by rw[Int.natCast_add,Int.add_mul];simp
 have E:=C2t (k+1) oS;have f:(10:Int) ^ 99<10 ^ 100:=dK;have b:u+v<=((k+1:Nat):Int)*B5e:=oS;exact⟨⟨oS,b⟩,h.2.add D.2 (D1u oS) (Int.lt_trans (Int.lt_of_le_of_lt b E) f)⟩
theorem E7q (xs:List TRat) (x:TRat):A8v (xs++[x])=A0k (A8v xs) x:=by unfold A8v;rw[List.foldl_append];rfl
theorem D9h {p:TProblem} {us ks fs:List TRat} {ul xs:List LF} {s:A2c} {D:Int} (h:RunD p us ks ul s) (hX:RepL s xs fs) (hB:E6i D p.1 ks ul xs=AF) (h48:p.1.triangles.length<=48) :
  ∀ k,k<=p.1.triangles.length->(0<=A0o (C0a D p.1 ks ul xs k) (sv s)/\A0o (C0a D p.1 ks ul xs k) (sv s)<=k*B5e)/\Ov (288*(D*D)) (A0o (C0a D p.1 ks ul xs k) (sv s)) (A8v (B3i p us fs k))
 |0,_=>by
  have hB':=hB
  unfold E6i at hB'
  simp only[DJ,decide_eq_true_eq]at hB'
  obtain⟨d0,d1⟩:=D3v hB'.1.1 hB'.1.2
  exact⟨⟨II _,by simp[C0a,A0o]⟩,E4v oS d1⟩
 |k+1,hk=>by
  have ih:=D9h h hX hB h48 k oS
  have h1:=E8w h hX hB (i:=k) oS
  rw[C0a,C3c,B3i,E7q]
  exact E4e oS ih h1
theorem F3n {b:Int} {a k x:TRat} {S:Int} (af:0<b) (ag:b<10 ^ 17) (h:(0<=S/\S<2*10 ^ 74)/\Ov (b*b) S x)
  (T:J_ a=AF) (a0:0<R_ a) (aj:R_ a<100) (O:T_ a*(8 / T_ a)=8) (W:J_ k=AF) (ah:0<R_ k) (k1:R_ k<100) (X:T_ k*(2 / T_ k)=2) :
  (0<=enW a k*S/\enW a k*S<=B5e)/\Ov (16*(b*b)) (enW a k*S) (A0d (A0d k a) x):=by
 obtain⟨⟨D,ax⟩,h⟩:=h;obtain⟨ak,al⟩:=D3v af ag;have ab:0<T_ a:=(ratOkB_iff.1 T).den0;have ac:0<T_ k:=(ratOkB_iff.1 W).den0;have Y:0<=8 / T_ a:=MV dE oS;have b1:8 / T_ a<=8:=Int.ediv_le_self _ dE;have Z:0<=2 / T_ k:=MV dE oS;have aa:2 / T_ k<=2:=Int.ediv_le_self _ dE;have am:T_ a<=8:=by
  rcases FH 8 (T_ a)with h|h;·rw[PL dE h,Int.mul_zero]at O;omega
  exact h
 have an:T_ k<=2:=by
  rcases FH 2 (T_ k)with h|h;·rw[PL dE h,Int.mul_zero]at X;omega
  exact h
 have ao:1000000000*(10:Int) ^ 74<10 ^ 100:=dK;have ap:1000000000*(10:Int) ^ 74<10 ^ 190:=dK;have aq:1000000000*(10:Int) ^ 74<=B5e:=dK;have ar:(100000:Int)<10 ^ 45:=dK;have au:(100000:Int)<10 ^ 100:=dK;have aw:(100000:Int)<10 ^ 190:=dK;have ai:=Ov.con T oS oS oS;have ok:=Ov.con W oS oS oS;have m1:0<R_ k*R_ a/\R_ k*R_ a<=100*100:=⟨GW ah a0,Int.mul_le_mul oS oS oS dE⟩
 have m2:0<T_ k*T_ a/\T_ k*T_ a<=2*8:=⟨GW ac ab,Int.mul_le_mul oS oS oS dE⟩
 have ae:=ok.mul ai (P:=T_ k*T_ a) (t:=R_ k*R_ a) m2.1 oS oS oS oS oS rfl;have E:0<=8 / T_ a*R_ a/\8 / T_ a*R_ a<=8*100:=⟨IQ Y oS,Int.mul_le_mul b1 oS oS dE⟩
 have G:0<=R_ k*(8 / T_ a*R_ a)/\R_ k*(8 / T_ a*R_ a)<=100*(8*100):=⟨IQ oS E.1,Int.mul_le_mul oS E.2 E.1 dE⟩
 have w3:0<=enW a k/\enW a k<=2*(100*(8*100)):=⟨IQ Z G.1,Int.mul_le_mul aa G.2 G.1 dE⟩
 have ad:enW a k*(T_ k*T_ a)=16*(R_ k*R_ a):=by
  unfold enW
  calc 2 / T_ k*(R_ k*(8 / T_ a*R_ a))*(T_ k*T_ a)=(T_ k*(2 / T_ k))*((T_ a*(8 / T_ a))*(R_ k*R_ a)):=by grind
   _=_:=by rw[O,X];grind
 generalize enW a k=u at *;generalize (10:Int) ^ 74=H at *;have p1:0<=u*S/\u*S<=160000*(2*H):=⟨IQ w3.1 D,Int.mul_le_mul oS oS D dE⟩
 have p2:0<=R_ k*R_ a*S/\R_ k*R_ a*S<=10000*(2*H):=⟨IQ oS D,Int.mul_le_mul oS oS D dE⟩
 exact⟨⟨p1.1,oS⟩,ae.mul h (P:=16*(b*b)) (t:=u*S) oS oS (D1u p1.1) oS oS oS (by
  generalize b*b=N at *
  calc R_ k*R_ a*S*(16*N)=(16*(R_ k*R_ a))*(S*N):=by grind
   _=(u*(T_ k*T_ a))*(S*N):=by rw[ad]
   _=_:=by grind)⟩
def E8s (D:Int) (m:TMesh) (ks:List TRat) (ul:List LF) (t:TTri):SQ:=sq1 (enW (arC m.1 t) (kC ks t)) D (grF m.1 ul t)
def C6c (D:Int) (m:TMesh) (ks:List TRat) (ul:List LF):Nat->SQ
 |0=>[]
 |k+1=>C6c D m ks ul k++E8s D m ks ul (m.triangles.getD k A4p)
def enB (D:Int) (m:TMesh) (ks:List TRat) (ul:List LF):Bool :=
 (BQ (0<D)&&BQ (D<10 ^ 17))&&m.triangles.all λt=>E7w m ks t&&E5n D (grF m.1 ul t)
theorem D5j {p:TProblem} {us ks:List TRat} {ul:List LF} {s:A2c} {b:Int} (E:SrcIn s) (H:RepL s ul us) (O:∀ t∈p.1.triangles,kC ks t=B4w p t) (h:enB b p.1 ks ul=AF) (af:p.1.triangles.length<=48) :
  ∀ k,k<=p.1.triangles.length->(0<=A0o (C6c b p.1 ks ul k) (sv s)/\A0o (C6c b p.1 ks ul k) (sv s)<=k*B5e)/\Ov (16*(b*b)) (A0o (C6c b p.1 ks ul k) (sv s)) (E2i p us k)
 |0,_=>by
  have hB':=h
  unfold enB at hB'
  simp only[DJ,decide_eq_true_eq]at hB'
  obtain⟨d0,d1⟩:=D3v hB'.1.1 hB'.1.2
  exact⟨⟨II _,by simp[C6c,A0o]⟩,E4v oS oS⟩
 |k+1,hk=>by
  have ih:=D5j E H O h af k oS
  unfold enB at h
  simp only[DJ,decide_eq_true_eq]at h
  obtain⟨⟨hD,hD2⟩,h⟩:=h
  have ht:p.1.triangles.getD k A4p∈p.1.triangles:=B9b oS
  have e0:p.1.triangles.getD k ⟨0,0,0,0,0⟩=p.1.triangles.getD k A4p:=by
   simp[EH,List.getElem?_eq_getElem (by omega:k<p.1.triangles.length)]
  have u:=CU.1 h _ ht
  rw[DJ]at u
  have ae:=E8f E hD hD2 (D2k (t:=p.1.triangles.getD k A4p) E H) u.2
  have D:=u.1
  unfold E7w at D
  simp only[DJ,decide_eq_true_eq]at D
  obtain⟨⟨T,W,c3,X⟩,Y,Z,aa,ab⟩:=D
  have ac:R_ (kC ks (p.1.triangles.getD k A4p))<100:=by
   rcases FH 12 (R_ (kC ks (p.1.triangles.getD k A4p)))with G|G
   ·rw[PL dE G,Int.mul_zero]at aa;omega
   omega
  have r:=F3n hD hD2 ae W c3 X T Y Z ac ab
  rw[C6c,C3c,E2i,e0]
  have ad:A0o (E8s b p.1 ks ul (p.1.triangles.getD k A4p)) (sv s)=enW (arC p.1.1 (p.1.triangles.getD k A4p)) (kC ks (p.1.triangles.getD k A4p))*A0o (sq1 1 b (grF p.1.1 ul (p.1.triangles.getD k A4p))) (sv s):=by
   unfold E8s;rw[C6p,C6p,Int.one_mul]
  refine E4e oS ih ?_
  rw[ad,leT,<-O _ ht]
  exact r
end Go.Proofs.YtjcanieccnljfaaGreat.X
