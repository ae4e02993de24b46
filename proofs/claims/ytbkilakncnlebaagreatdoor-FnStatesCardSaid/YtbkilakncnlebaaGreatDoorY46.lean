/- A part of the proof. -/
import Derived.Test.YtbkilakncnlebaaGreatDoorY45
import Derived.Test.YtbkilakncnlebaaGreatDoorY8
set_option linter.constructorNameAsVariable false
set_option maxHeartbeats 16000000
set_option maxRecDepth 10000
open Go renaming World→J,bodyPost_ret→BI,callsIn_wide→MU,results_tmp→FQ,undef→DU
open Go.IntKind renaming i64→QO
open Go.Lib renaming decDigits→FK
open Go.Obj renaming cells→AK
open Go.Value renaming bool→AC,int→N,slice→S
open Go.XB.Below renaming box_→OR,next→AI
open Go.XB.Sl renaming below→AQ,getInt→DB
open Go.XB.TBigInt renaming mkAgg→FB
open Nat renaming le_refl→BH,lt_succ_self→JG
open Option renaming none→I,some→B
namespace Go.Proofs.YtbkilakncnlebaaGreatDoor.X
open Go.RowKit Go.XB Go.XN Proofs.Tryz
section
open Go.Shelf
attribute [local go_sem] Oper.semAt_some
set_option maxRecDepth 100000 in
theorem B8x (A:Option Addr) (n c:Nat) (xs:List Int) (bs:List Nat) (w:J) (ab:Sl w A n c xs bs) (aY:TabOk w) :
  Calls prog 162 #[S A n c] w (A0b w (.string ⟨(B1o xs).toArray⟩)):=by
 have af:=A_ ab.1;have T:=A_ ab;have aD:=A_ aY;have bA:=ab.2.1;have aV:c<=maxLen:=ab.2.2.1;unfold maxLen at aV;clear ab aY;cases ak:A3m xs;·have H:=A_ ak;clear ak;go_enter func162,ntmps162;go_wp2_with fail;have C:=A4l A n c xs bs w T;rw[H.o]at C;refine C.mono ?_;clear C;rintro _ u ⟨rfl,G⟩;go_wp2;refine BI (FQ rfl _ _ _) rfl ⟨?_,G⟩;unfold B1o;rw[H.o];rfl
 have H:=A_ ak;clear ak;obtain _|m:=n
 ·go_enter func162,ntmps162;go_wp2_with fail;have C:=A4l A 0 c xs bs w T;rw[H.o]at C;refine C.mono ?_;clear C;rintro _ u ⟨rfl,G⟩;go_wp2;refine BI (FQ rfl _ _ _) rfl ⟨?_,G⟩;obtain rfl:xs=[]:=List.eq_nil_of_length_eq_zero af;rfl
 have aU:∀ (k:Nat) (x:Int),xs[k]?=B x->0<=x/\x<1000000000:=λk x E=>(natOkB_iff.1 H).2.1 x (List.mem_of_getElem? E);have ag:=A_ aU;have aA:=(natOkB_iff.1 H).1;rw[af.o]at aA;have a4:=A_ aA;have bK:(m:Int)+1<=c:=oS;have bF:(c:Int)<=9223372036854775807:=oS;have a1:((m:Int)+1==0)=false:=oR;clear bA aV aU aA;obtain⟨b,h,x,rfl,O,am,_,aQ⟩:=DB T (JG m);obtain⟨y,rfl⟩:=Int.eq_ofNat_of_zero_le (ag m x am).1;have ao:=A_ (ag m y am).2;have aE:=A_ am;clear am aQ O;refine(MU (n:=3)).1 ?_;refine callsIn_of_wp_marks func162 rfl trivial ?_ rfl;simp only[ntmps162,List.size_toArray,List.length_cons,List.length_nil,Nat.reduceAdd,Nat.reduceSub,Array.replicate_succ,Array.replicate_zero,List.push_toArray,List.append_toArray,List.nil_append,List.cons_append];gi_wp2_with fail;have C:=A4l (B ⟨b,h,I⟩) (m+1) c xs bs w T;rw[H.o]at C;refine⟨trivial,(MU.2 C).mono ?_⟩;clear C;rintro _ u ⟨rfl,G⟩;have ar:=OR G (AK #[.pointer I,S I 0 0] 152);have aN:=Bld.fresh u;obtain⟨b2,o2,z,ah,ax,a2,_,aQ⟩:=DB (AQ T ar) (JG m);obtain⟨rfl,rfl⟩:b=b2/\h=o2:=by cases ah;exact⟨rfl,rfl⟩
 obtain rfl:(y:Int)=z:=by have:=aE.symm.trans a2;simpa using this
 have aB:=A_ ar;have a6:=A_ aN;clear ah a2 aN ax ar;gi_wp2_with fail;refine⟨trivial,(MU.2 (C5h y (by have:=ao.o;omega) _ (aD.o.below aB.o))).mono ?_⟩;rintro _ a3 ⟨rfl,aj⟩;have bl:=A_ (AI aB aj);have ax:=A_ (a6.below aj);have bG:u.1.size<a3.1.size:=by have:=aj.size;simp at this;omega
 clear aj;gi_wp2_with fail;refine⟨trivial,(MU.2 (C3c u.1.size u.1.size [] (FK y) a3 ax (by have:=F5n (x:=(y:Int)) ao;simp at this ⊢;omega) oS)).mono ?_⟩;rintro _ w3 ⟨rfl,ay,aw,bv⟩;rw[List.nil_append]at ay;have Z:=A_ (bl.trans (aw.mono G.size));have bH:u.1.size<w3.1.size:=by have:=aw.size;omega
 have a5:=A_ ay;clear aw bv ay;gi_wp2_with fail;refine⟨trivial,(F7l Fence.wide 2 trivial rfl _ _ _ _).mono ?_⟩;rintro _ _ ⟨rfl,rfl⟩;gi_wp2_with fail;have aO:b<w.1.size:=by obtain⟨be,bB,bD,au,bh,_⟩:=DB T (JG m);cases au;exact bh
 have aJ:∀ j,j<m->(w3.alloc (AK #[S (B ⟨b,h,I⟩) m c] 31)).cell? ⟨b,h+j,I⟩=B (N QO ((F4k xs j).val:Int)):=by intro j bu;obtain⟨be,bB,bD,au,_,bi,_,bj⟩:=DB T (Nat.lt_succ_of_lt bu);cases au;rw[F4c ag.o bi];exact((OR Z _).cell (p:=⟨b,h+j,I⟩) aO).trans bj
 have bJ:m<=60:=by have:=a4.o;omega
 refine wpIn_rangeFunc_ownG rfl oS (gf:=263) (lb:=#[.pointer (B ⟨w3.1.size,0,I⟩)]) rfl trivial (enters_of func263 kR rfl)
  (F4x Fence.wide 2 trivial rfl oS w3.1.size w.1.size b h m c xs oS (w3.alloc (AK #[S (B ⟨b,h,I⟩) m c] 31)) (OR Z.o _).size sI aO (Boxed.new w3 _ _).cell aJ)
  (λE k=>E.trans k) (KpB.book (OR Z _).size) (Below.refl _ _) (λ_=>rfl)
  (λac D=>(Bld u.1.size u.1.size (FK y++ac.flatMap (λp=>C4v (p.2.val:Int))) D/\Boxed D w3.1.size 31 (S (B ⟨b,h,I⟩) m c))/\Bw w D)
  (λ_ _ _=>False)
  (OwnFrom.and (Own.from (λs bc bd row al aR aX=>⟨al.1.own aR aX,boxed_own w3.1.size 31 (λ_=>S (B ⟨b,h,I⟩) m c) s bc bd row al.2 aR aX⟩) _) (ownFrom_below (BH _) (OR Z _).size))
  (λ_ _ _ _ _ al _ _=>al)
  ⟨⟨by rw[List.flatMap_nil,List.append_nil];exact a5.below (Below.box _),Boxed.new w3 _ _⟩,OR Z _⟩
  (λx=>{ tmps:=#[S (B ⟨b,h,I⟩) (m+1) c,DU,.string ⟨#[]⟩,.pointer (B ⟨u.1.size,0,I⟩),N QO m,DU,N QO (x.2.val:Int),S (B ⟨b,h,I⟩) (m+1) c,AC true,AC false,
   S (B ⟨b,h,I⟩) (m+1) c,N QO ((m:Int)+1),AC false,.agg #[.pointer I,S I 0 0],S (B ⟨b,h,I⟩) (m+1) c,N QO ((m:Int)+1),N QO m,S (B ⟨b,h,I⟩) (m+1) c,N QO m,
   .pointer (B ⟨b,h+m,I⟩),N QO y,.string ⟨(FK y).toArray⟩,.tuple #[N QO (FK y).length,.nilIface],S (B ⟨b,h,I⟩) (m+1) c,N QO m,S (B ⟨b,h,I⟩) m c,
   .func (.func 263) #[] #[.pointer (B ⟨w3.1.size,0,I⟩)],N QO (x.1:Int),N QO (x.2.val:Int),DU,DU,DU,DU,DU],defers:=[] }) ?assign ?body ?done ?stop
 case assign =>intro l x D K ai;gi_wp2;exact ai
 case body =>
  rintro l ac x D ⟨⟨O,aP⟩,Y⟩ aW;have an:=A_ O;have ae:=A_ aP;have W:=A_ Y;have a9:=A_ aW;clear O aP Y aW aJ;gi_wp2_with fail;refine⟨trivial,(CallsIn.inRound l (MU.2 (C5h x.2.val x.2.isLt D (aD.below W)))).mono ?_⟩;rintro _ ba ⟨rfl,aK⟩;have az:(FK x.2.val).length<=9:=E3p 8 x.2.isLt;gi_wp2_with fail;refine⟨trivial,(CallsIn.inRound l (MU.2 (F3a (FK x.2.val) az ba))).mono ?_⟩;rintro _ X ⟨rfl,aL⟩;have aa:Bw D X:=AI aK aL;have aC:=A_ (an.below aa);have bI:w3.1.size<X.1.size:=by have:=ae.lt;have:=aa.size;omega
  have aT:(FK y++ac.flatMap (λp=>C4v (p.2.val:Int))).length+(D6y (FK x.2.val)).length<=140737488355328:=by have bg:=F5n (x:=(y:Int)) ao;have aF:=C7i (r:=ac.map (λp=>(p.2.val:Int))) (λz a1=>by obtain⟨p,_,rfl⟩:=List.mem_map.1 a1;have:=p.2.isLt;omega);rw[List.flatMap_map,List.length_map]at aF;rw[List.length_append,aF,F3y az];have:=a9.o;simp at bg;omega
  have a8:=A_ aT;clear aT az aK aL;gi_wp2_with fail;refine⟨trivial,(CallsIn.inRound l (MU.2 (C3c u.1.size u.1.size _ (D6y (FK x.2.val)) X aC.o a8.o oS))).mono ?_⟩;rintro _ ap ⟨rfl,br,aM,aS⟩;have bp:KeepsOthers D ap:=(F3q aa).trans (F4i aC aM aS);have bm:Boxed X w3.1.size 31 (S (B ⟨b,h,I⟩) m c):=by show X.1[_]?=_;rw[aa.block _ ae.o.lt];exact ae
  have aG:Boxed ap w3.1.size 31 (S (B ⟨b,h,I⟩) m c):=aS _ _ bm (by intro e;have e:=Option.some.inj e;omega) (by rintro c' bf e;cases e);have aH:Below w.1.size D ap:=(aa.mono W.size).trans (aM.mono G.size);gi_wp2;refine⟨bp.from _,⟨aH,λv aZ=>?_⟩,⟨?_,aG⟩,W.trans aH⟩;·rw[ae.o.cell]at aZ;cases aZ;exact aG.cell
  rw[List.flatMap_append,<-List.append_assoc];simpa[C4v]using br
 case done =>
  rintro ad ys D bo rfl ⟨⟨O,_⟩,Y⟩ ai;have bt:u.1.size<=D.1.size:=by
   have E:u.1.size<D.1.size:=by rcases O with E|E<;>exact E.lt
   omega
  have an:=A_ O;have W:=A_ Y;have a7:=A_ ai;clear O Y ai;gi_wp2_with fail;refine⟨trivial,(MU.2 (E6s u.1.size u.1.size _ D an bt)).mono ?_⟩;rintro _ aq ⟨rfl,bq,bz⟩;have bE:u.1.size<ad:=by simp at bo;omega
  have aI:aq.1[ad]?=B (.deferred (B [])):=bz _ _ a7 (by intro e;have e:=Option.some.inj e;omega) (by rintro c' bf e;cases e);have bn:Bw w aq:=W.trans (bq.mono G.size);have ah:FK y++(D3o xs m m).flatMap (λp=>C4v (p.2.val:Int))=B1o xs:=by unfold B1o;rw[if_pos H.o,F3v af.o aE.o,F4p (by rw[af.o];omega) ag.o];simp
  rw[ah];gi_wp2;refine⟨sI,.inl ⟨_,_,rfl,run_takeDeferred aI,?_⟩⟩;exact⟨_,FQ rfl _ _ _,rfl,bn.trans (belowK_b (w:=w) (BH _) aq ad _ _ (by have:=G.size;omega) aI rfl rfl)⟩
 case stop =>rintro ad c ac D _ _ E _;exact E.elim
end
section
attribute [local go_sem] L_ opAt N_ M_ Region.wanted yielded B9n
attribute [local simp] N_ M_ MP.eq MP.agg MP.sl A0r
theorem C5q (v:Value) (x:TBigInt) (bs:List Nat) (w:J) (ac:Agg w v x bs) (ab:TabOk w) :
  Calls prog 163 #[v] w (A0b w (.string ⟨(B1w x).toArray⟩)):=by
 have X:=A_ ab;clear ab;obtain⟨D,n1,O,ai,rfl,rfl,aa⟩:=TBigInt.agg ac;have G:=A_ aa;clear aa ac;obtain⟨neg,mag⟩:=x;have ah:(B1o mag).length<=540:=C6p mag;cases b:A2j ⟨neg,mag⟩;·have H:=A_ b;have E:=A_ (by unfold B1w;rw[b];rfl:[]=B1w ⟨neg,mag⟩);clear b;go_enter func163,ntmps163;go_wp2_with fail;have C:=A1o _ ⟨neg,mag⟩ bs (w.alloc (AK #[AC neg,S D n1 O] 33)) (FB (AQ G Below.go));rw[H.o]at C;refine C.mono ?_;clear C;rintro _ u ⟨rfl,h⟩;obtain⟨Y,Z⟩:=F_ h;have ad:w.1.size<u.1.size:=ltg h;go_wp2;refine BI (FQ rfl _ _ _) rfl ⟨?_,Below.go⟩;rw[<-E.o];rfl
 cases neg;·have H:=A_ b;have E:=A_ (by unfold B1w;rw[b];rfl:B1o mag=B1w ⟨false,mag⟩);clear b;go_enter func163,ntmps163;go_wp2_with fail;have C:=A1o _ ⟨false,mag⟩ bs (w.alloc (AK #[AC false,S D n1 O] 33)) (FB (AQ G Below.go));rw[H.o]at C;refine C.mono ?_;clear C;rintro _ u ⟨rfl,h⟩;obtain⟨Y,Z⟩:=F_ h;have ad:w.1.size<u.1.size:=ltg h;go_wp2_with fail;refine(B8x D n1 O mag bs u (AQ G Below.go) (X.below Below.go)).mono ?_;rintro _ W ⟨rfl,T⟩;obtain⟨ae,af⟩:=F_ T;have ag:w.1.size<W.1.size:=ltg T;go_wp2;refine BI (FQ rfl _ _ _) rfl ⟨?_,Below.go⟩;rw[<-E.o];rfl
 have H:=A_ b;have E:=A_ (by unfold B1w;rw[b];rfl:45::B1o mag=B1w ⟨true,mag⟩);clear b;go_enter func163,ntmps163;go_wp2_with fail;have C:=A1o _ ⟨true,mag⟩ bs (w.alloc (AK #[AC true,S D n1 O] 33)) (FB (AQ G Below.go));rw[H.o]at C;refine C.mono ?_;clear C;rintro _ u ⟨rfl,h⟩;obtain⟨Y,Z⟩:=F_ h;have ad:w.1.size<u.1.size:=ltg h;go_wp2_with fail;refine(B8x D n1 O mag bs u (AQ G Below.go) (X.below Below.go)).mono ?_;rintro _ W ⟨rfl,T⟩;obtain⟨ae,af⟩:=F_ T;have ag:w.1.size<W.1.size:=ltg T;go_wp2;refine BI (FQ rfl _ _ _) rfl ⟨?_,Below.go⟩;rw[<-E.o];rfl

theorem C0d (v:Value) (x:TRat) (b:List Nat) (w:J) (H:Agg w v x b) (ax:TabOk w) :
  Calls prog 107 #[v] w (A0b w (.string ⟨(A9t x).toArray⟩)):=by
 have aj:=A_ ax;clear ax;obtain⟨ag,n1,ak,az,T,n2,W,an,rfl,rfl,au,aw⟩:=TRat.agg H;have ao:=A_ au;have ah:=A_ aw;clear au aw;have aG:(B1w x.1).length<=541:=F2p x.1;have aH:(B1o x.2).length<=540:=C6p x.2;cases u:J_ x;·have Z:=A_ u;have Y:=A_ (by unfold A9t;rw[u];rfl:[]=A9t x);clear u;have aa:=A_ H;clear H;go_enter func107,ntmps107;go_wp2_with fail;have C:=A7s _ x _ (w.alloc (AK #[AC x.1.1,S ag n1 ak,S T n2 W] 35)) (Agg.below aa Below.go);rw[Z.o]at C;refine C.mono ?_;clear C;rintro _ O ⟨rfl,E⟩;obtain⟨aq,ar⟩:=F_ E;have ay:w.1.size<O.1.size:=ltg E;go_wp2;refine BI (FQ rfl _ _ _) rfl ⟨?_,Below.go⟩;rw[<-Y.o];rfl
 by_cases X:x.2=[1]
 ·have Z:=A_ u;have ai:=A_ (by simp[X]:decide (x.2=[1])=true);have Y:=A_ (by unfold A9t;rw[u,if_pos X];rfl:B1w x.1=A9t x);clear u X;have aa:=A_ H;clear H;go_enter func107,ntmps107;go_wp2_with fail;have C:=A7s _ x _ (w.alloc (AK #[AC x.1.1,S ag n1 ak,S T n2 W] 35)) (Agg.below aa Below.go);rw[Z.o]at C;refine C.mono ?_;clear C;rintro _ O ⟨rfl,E⟩;obtain⟨aq,ar⟩:=F_ E;have ay:w.1.size<O.1.size:=ltg E;go_wp2_with fail;have C:=B1f T n2 W x.2 an O (AQ ah Below.go);rw[ai.o]at C;refine C.mono ?_;clear C;rintro _ ad ⟨rfl,ab⟩;obtain⟨aA,aC⟩:=F_ ab;have aD:w.1.size<ad.1.size:=ltg ab;go_wp2_with fail;refine(C5q _ x.1 az ad (FB (AQ ao Below.go)) (aj.below Below.go)).mono ?_;rintro _ w3 ⟨rfl,ap⟩;obtain⟨aE,aF⟩:=F_ ap;have aI:w.1.size<w3.1.size:=ltg ap;go_wp2;refine BI (FQ rfl _ _ _) rfl ⟨?_,Below.go⟩;rw[<-Y.o];rfl
 have Z:=A_ u;have ai:=A_ (by simp[X]:decide (x.2=[1])=false);have Y:=A_ (by unfold A9t;rw[u,if_neg X];rfl:B1w x.1++47::B1o x.2=A9t x);clear u X;have aa:=A_ H;clear H;go_enter func107,ntmps107;go_wp2_with fail;have C:=A7s _ x _ (w.alloc (AK #[AC x.1.1,S ag n1 ak,S T n2 W] 35)) (Agg.below aa Below.go);rw[Z.o]at C;refine C.mono ?_;clear C;rintro _ O ⟨rfl,E⟩;obtain⟨aq,ar⟩:=F_ E;have ay:w.1.size<O.1.size:=ltg E;go_wp2_with fail;have C:=B1f T n2 W x.2 an O (AQ ah Below.go);rw[ai.o]at C;refine C.mono ?_;clear C;rintro _ ad ⟨rfl,ab⟩;obtain⟨aA,aC⟩:=F_ ab;have aD:w.1.size<ad.1.size:=ltg ab;go_wp2_with fail;refine X_ sI ?_;dsimp only[List.dropLast,List.getLast,List.length];iterate 2 refine C_ _ ?_
 refine D_ (MP.eq (.string ⟨(B1w x.1).toArray⟩)) ?_ ?_;·intro ae af ac D h;obtain⟨al,am⟩:=F_ D;simp at h;refine G_ ?_;refine(C5q _ x.1 az ac (FB (AQ ao Below.go)) (aj.below Below.go)).mono ?_;rintro e w' ⟨rfl,G⟩;exact⟨_,rfl,G,[],⟨rfl,rfl⟩,λb G=>by simp at G⟩
 refine A2b (.string ⟨(B1w x.1++[47]).toArray⟩) ?_ ?_;·intro ae af ac D h;obtain⟨al,am⟩:=F_ D;simp at h;refine⟨gD,?_⟩;go_simp;omega
 iterate 2 refine C_ _ ?_
 refine D_ (MP.eq (.string ⟨(B1o x.2).toArray⟩)) ?_ ?_;·intro ae af ac D h;obtain⟨al,am⟩:=F_ D;simp at h;refine G_ ?_;refine(B8x T n2 W x.2 an ac (AQ ah Below.go) (aj.below Below.go)).mono ?_;rintro e w' ⟨rfl,G⟩;exact⟨_,rfl,G,[],⟨rfl,rfl⟩,λb G=>by simp at G⟩
 refine A2b (.string ⟨(B1w x.1++[47]++B1o x.2).toArray⟩) ?_ ?_;·intro ae af ac D h;obtain⟨al,am⟩:=F_ D;simp at h;refine⟨gD,?_⟩;go_simp;omega
 intro ae af wa D h aB;clear aB;simp at h;go_simp;go_wp2;refine BI (FQ rfl _ _ _) rfl ⟨?_,Below.go⟩;rw[<-Y.o];rfl
end
end Go.Proofs.YtbkilakncnlebaaGreatDoor.X
