/- A part of the proof. -/
import Derived.Test.YtbhemnidcleaiaaGreatY7
set_option linter.constructorNameAsVariable false
set_option maxHeartbeats 16000000
set_option maxRecDepth 10000
namespace Go.Proofs.YtbhemnidcleaiaaGreat.X
open Go.RowKit Go.XB Go.XN Proofs.Tryz
attribute [local go_sem] L_ opAt N_ M_ Region.wanted yielded
attribute [local simp] N_ M_ MP.eq MP.agg MP.sl A0r
theorem A3n (v:Value) (x:TRat) (b:List Nat) (w:World) (ag:Agg w v x b) (lx:x.1.2.length<=1048576) (ah:x.2.length<=1048576) :
  Calls prog 147 #[v] w (A0c w x):=by
 obtain⟨ak,n1,ay,aO,al,n2,az,aP,rfl,rfl,D,E⟩:=TRat.agg ag;have am:=A_ D;have an:=A_ E;have aE:n1<=1048576:=by rw[<-D.1];exact lx
 have aF:n2<=1048576:=by rw[<-E.1];exact ah
 clear D E ag lx ah;go_enter func147,ntmps147;go_wp2_with fail;refine X_ sI ?_;dsimp only[List.dropLast,List.getLast,List.length];iterate 6 refine C_ _ ?_
 refine D_ (MP.sl x.1.2) ?_ ?_;·intro J K I u h;obtain⟨S,T⟩:=F_ u;simp at h;refine G_ ?_;exact A1c (A9d ak n1 ay x.1.2 _ I (Sl.below am Below.go) aE)
 refine A9h (λG=>.agg #[.bool x.1.1,G 6]) (by intro y G H;simp[N_,M_]at H;simp[H]) ?_ ?_;·intro J K I u h;obtain⟨S,T⟩:=F_ u;simp at h;obtain⟨_,⟨A,n,c,e,_⟩,_⟩:=h;refine⟨gD,?_⟩;go_simp;try simp[*,Value.cells]
 iterate 2 refine C_ _ ?_
 refine D_ (MP.sl x.2) ?_ ?_;·intro J K I u h;obtain⟨S,T⟩:=F_ u;simp at h;refine G_ ?_;exact A1c (A9d al n2 az x.2 _ I (Sl.below an Below.go) aF)
 refine A9h (λG=>.agg ((G 7).cells++#[G 10])) (by intro y G H;simp[N_,M_]at H;simp[H]) ?_ ?_;·intro J K I u h;obtain⟨S,T⟩:=F_ u;simp at h;obtain⟨⟨aJ,_⟩,⟨A,n,c,e,_⟩,_⟩:=h;refine⟨gD,?_⟩;go_simp;try simp[*,Value.cells]
 intro J K wa u h (ab:Hid _);simp at h;go_simp;have aH:=h.2.2.2.2.2.2.1;have aj:=h.2.2.2.2.2.2.2.1;have aG:=h.2.2.2.2.2.2.2.2.2.2.1;have ai:=h.2.2.2.2.2.2.2.2.2.2.2;obtain⟨⟨⟨X,m1,Z,aB,D⟩,ac⟩,ae⟩:=aH;obtain⟨⟨⟨Y,m2,aa,aA,E⟩,ad⟩,af⟩:=aG;have aI:J 11=.agg #[.bool x.1.1,.slice X m1 Z,.slice Y m2 aa]:=by rw[ai.1.1,aj.1.1,aB,aA];rfl
 have aw:=A_ D;have ap:=A_ ac;have ar:=A_ ae;have ax:=A_ E;have aq:=A_ ad;have au:=A_ af;have ao:=A_ (ab 6 10 dE dE dE);clear h ab aj ai D ac ae E ad af;obtain⟨aK,aL⟩:=F_ u;have aM:w.1.size<wa.1.size:=ltg u;have aN:w.1.size+1<wa.1.size:=ltg u;go_wp2;refine bodyPost_ret (v:=.agg #[.bool x.1.1,.slice X m1 Z,.slice Y m2 aa]) (by simp[results,results147,go_sem, *]) rfl ?_;have aC:=fun(W:World) (ha:Above (w.1.size+2) wa W)=>A7j (w:=w) aw.o ap.o (λb O=>(ar.o b O).1) oM ha;have aD:=fun(W:World) (ha:Above (w.1.size+2) wa W)=>A7j (w:=w) ax.o aq.o (λb O=>(au.o b O).1) oM ha;refine B4k (x:=x) (aC _ ?_) (aD _ ?_) ao ?_;·exact Above.go
 ·exact Above.go
 exact Below.go

theorem E2s {x:Int} (h0:0<=x) (h1:x<=18446744073709551615):IntKind.u64.wrap x=x:=by simp[IntKind.wrap,IntKind.signed,IntKind.bits];omega
theorem C0e {a:Int} {g:Nat} (h:(g:Int)∣a):a.tdiv g=a / g:=by
 obtain⟨q,rfl⟩:=h;rcases Nat.eq_zero_or_pos g with b|b;·subst b;simp
 rw[Int.mul_tdiv_cancel_left _ oM,Int.mul_ediv_cancel_left _ oM]
theorem B6e {a M:Int} {g:Nat} (G:0<g) (h:(g:Int)∣a) (D:-M<=a) (E:a<=M):-M<=a / g/\a / g<=M:=by
 obtain⟨q,rfl⟩:=h;rw[Int.mul_ediv_cancel_left _ oM];have b:(1:Int)<=g:=oM;rcases Int.lt_or_le q 0 with u|u;·have:(g:Int)*q<=1*q:=Int.mul_le_mul_of_nonpos_right b oM;omega
 have:1*q<=(g:Int)*q:=Int.mul_le_mul_of_nonneg_right b u;omega
theorem E1o {n d:Int} (h:0<d) (D:-4000000000000000000<=n) (E:n<=4000000000000000000) (u:d<=4000000000000000000) :
  mkR n d=⟨A0f (n / (Int.gcd n d:Nat)),dig (d / (Int.gcd n d:Nat)).toNat⟩:=by
 have b:=A5o (a:=n) h;have G:=B6e b (Int.gcd_dvd_left n d) D E;have H:=B6e b (Int.gcd_dvd_right n d) (by omega:-4000000000000000000<=d) u;have I:0<=d / (Int.gcd n d:Nat):=Int.ediv_nonneg oM oM;have e:(d / (Int.gcd n d:Nat)).natAbs=(d / (Int.gcd n d:Nat)).toNat:=oM;unfold mkR;rw[e,if_pos];have p:=A6t (by decide:3<=24);rw[pw_vals.2.2]at p;exact⟨A4r oM,A4r oM⟩

theorem C2n (n d:Int) (w:World) (aC:0<d) (aJ:-4000000000000000000<=n) (aK:n<=4000000000000000000) (aH:d<=4000000000000000000) :
  Calls prog 66 #[.int .i64 n,.int .i64 d] w (A0c w (mkR n d)):=by
 have aG:=A_ (E1o aC aJ aK aH);have aI:=A5o (a:=n) aC;have am:=A_ (Int.gcd_dvd_left n d);have an:=A_ (Int.gcd_dvd_right n d);have aO:=B6e aI am aJ aK;have aP:=B6e aI an.o (by omega:-4000000000000000000<=d) aH;have al:0<=d / (Int.gcd n d:Nat):=Int.ediv_nonneg oM oM;have a6:(Int.gcd n d:Int)<=d:=Int.gcd_le_right n aC;obtain⟨a2,a3⟩:=aO;obtain⟨a4,a5⟩:=aP;rcases Int.lt_or_le n 0 with aV|aV
 ·have aU:n<=-n:=oM
  go_enter func66,ntmps66;go_wp2_with fail;have C:=B2z (-n) d (w.alloc (.cells #[.bool false,.slice none 0 0,.slice none 0 0] 35)) oM oM oM oM;rw[Int.neg_gcd]at C;refine C.mono ?_;clear C;rintro _ aF ⟨rfl,ad⟩;generalize Int.gcd n d=g at *;obtain⟨aQ,aS⟩:=F_ ad;have aW:w.1.size<aF.1.size:=ltg ad;go_wp2_with fail;refine X_ sI ?_;dsimp only[List.dropLast,List.getLast,List.length];iterate 2 refine C_ _ ?_
  refine A2b (Value.int .i64 (n / g)) ?_ ?_;·intro D E u h b;obtain⟨G,H⟩:=F_ h;simp at b;refine⟨gD,?_⟩;go_simp;(rw[if_neg oM];simp only[C0e am.o];rw[IntWalk.i64_in _ oM])
  refine D_ (MP.agg (A0f (n / g))) ?_ ?_;·intro D E u h b;obtain⟨G,H⟩:=F_ h;simp at b;refine G_ ?_;exact H_ (A9i (n / g) u ⟨oM,oM⟩)
  iterate 2 refine C_ _ ?_
  refine A2b (Value.int .i64 (d / g)) ?_ ?_;·intro D E u h b;obtain⟨G,H⟩:=F_ h;simp at b;refine⟨gD,?_⟩;go_simp;(rw[if_neg oM];first|done|(simp only[C0e an.o];first|done|rw[IntWalk.i64_in _ oM]))
  refine A2b (Value.int .u64 (d / g)) ?_ ?_;·intro D E u h b;obtain⟨G,H⟩:=F_ h;simp at b;refine⟨gD,?_⟩;go_simp;rw[E2s al oM]
  refine D_ (MP.sl (dig (d / g).toNat)) ?_ ?_;·intro D E u h b;obtain⟨G,H⟩:=F_ h;simp at b;refine G_ ?_;exact A1c (B3p (d / g) u al oM)
  refine A9h (λS=>.agg ((S 3).cells++#[S 8])) (by intro y S ab;simp[N_,M_]at ab;simp[ab]) ?_ ?_;·intro D E u h b;obtain⟨G,H⟩:=F_ h;simp at b;obtain⟨⟨aB,_⟩,⟨A,n,c,e,_⟩,_⟩:=b;obtain⟨aL,aY,c',aZ,aM,_,_⟩:=TBigInt.agg aB;refine⟨gD,?_⟩;go_simp;try simp[*,Value.cells]
  intro D E wa h b (ae:Hid _);simp at b;have aD:=b.2.2.2.1;have aE:=b.2.2.2.2.2.2.2.2.1;have ak:=b.2.2.2.2.2.2.2.2.2;obtain⟨⟨ac,K⟩,O⟩:=aD;obtain⟨T,m1,Z,a1,ax,aj,ah⟩:=TBigInt.agg ac;obtain⟨⟨⟨X,m2,aa,ay,ai⟩,af⟩,ag⟩:=aE;have aN:D 9=.agg #[.bool (A0f (n / g)).neg,.slice T m1 Z,.slice X m2 aa]:=by rw[ak.1.1,ax,ay];rfl
  have Y:=A_ (ae 3 8 dE dE dE);rw[aj]at Y K O;have au:=A_ ah;have ao:=A_ K;have aq:=A_ O;have aw:=A_ ai;have ap:=A_ af;have ar:=A_ ag;clear b ae ak ah K O ai af ag ac aj;obtain⟨aR,aT⟩:=F_ h;have aX:w.1.size<wa.1.size:=ltg h;go_wp2;refine bodyPost_ret (v:=.agg #[.bool (A0f (n / g)).neg,.slice T m1 Z,.slice X m2 aa]) (by simp[results,results66,go_sem, *]) rfl ?_;have az:=fun(W:World) (ha:Above (w.1.size+1) wa W)=>A7j (w:=w) au ao (λI J=>by have:=(aq I J).1;omega) oM ha;have aA:=fun(W:World) (ha:Above (w.1.size+1) wa W)=>A7j (w:=w) aw ap (λI J=>by have:=(ar I J).1;omega) oM ha;rw[aG.o];refine B4k (x:=⟨A0f (n / g),dig (d / g).toNat⟩) (az _ ?_) (aA _ ?_) Y ?_;·exact Above.go
  ·exact Above.go
  exact Below.go
 have aU:-n<=n:=oM;go_enter func66,ntmps66;go_wp2_with fail;have C:=B2z n d (w.alloc (.cells #[.bool false,.slice none 0 0,.slice none 0 0] 35)) oM oM oM oM;refine C.mono ?_;clear C;rintro _ aF ⟨rfl,ad⟩;generalize Int.gcd n d=g at *;obtain⟨aQ,aS⟩:=F_ ad;have aW:w.1.size<aF.1.size:=ltg ad;go_wp2_with fail;refine X_ sI ?_;dsimp only[List.dropLast,List.getLast,List.length];iterate 2 refine C_ _ ?_
 refine A2b (Value.int .i64 (n / g)) ?_ ?_;·intro D E u h b;obtain⟨G,H⟩:=F_ h;simp at b;refine⟨gD,?_⟩;go_simp;(rw[if_neg oM];simp only[C0e am.o];rw[IntWalk.i64_in _ oM])
 refine D_ (MP.agg (A0f (n / g))) ?_ ?_;·intro D E u h b;obtain⟨G,H⟩:=F_ h;simp at b;refine G_ ?_;exact H_ (A9i (n / g) u ⟨oM,oM⟩)
 iterate 2 refine C_ _ ?_
 refine A2b (Value.int .i64 (d / g)) ?_ ?_;·intro D E u h b;obtain⟨G,H⟩:=F_ h;simp at b;refine⟨gD,?_⟩;go_simp;(rw[if_neg oM];first|done|(simp only[C0e an.o];first|done|rw[IntWalk.i64_in _ oM]))
 refine A2b (Value.int .u64 (d / g)) ?_ ?_;·intro D E u h b;obtain⟨G,H⟩:=F_ h;simp at b;refine⟨gD,?_⟩;go_simp;rw[E2s al oM]
 refine D_ (MP.sl (dig (d / g).toNat)) ?_ ?_;·intro D E u h b;obtain⟨G,H⟩:=F_ h;simp at b;refine G_ ?_;exact A1c (B3p (d / g) u al oM)
 refine A9h (λS=>.agg ((S 3).cells++#[S 8])) (by intro y S ab;simp[N_,M_]at ab;simp[ab]) ?_ ?_;·intro D E u h b;obtain⟨G,H⟩:=F_ h;simp at b;obtain⟨⟨aB,_⟩,⟨A,n,c,e,_⟩,_⟩:=b;obtain⟨aL,aY,c',aZ,aM,_,_⟩:=TBigInt.agg aB;refine⟨gD,?_⟩;go_simp;try simp[*,Value.cells]
 intro D E wa h b (ae:Hid _);simp at b;have aD:=b.2.2.2.1;have aE:=b.2.2.2.2.2.2.2.2.1;have ak:=b.2.2.2.2.2.2.2.2.2;obtain⟨⟨ac,K⟩,O⟩:=aD;obtain⟨T,m1,Z,a1,ax,aj,ah⟩:=TBigInt.agg ac;obtain⟨⟨⟨X,m2,aa,ay,ai⟩,af⟩,ag⟩:=aE;have aN:D 9=.agg #[.bool (A0f (n / g)).neg,.slice T m1 Z,.slice X m2 aa]:=by rw[ak.1.1,ax,ay];rfl
 have Y:=A_ (ae 3 8 dE dE dE);rw[aj]at Y K O;have au:=A_ ah;have ao:=A_ K;have aq:=A_ O;have aw:=A_ ai;have ap:=A_ af;have ar:=A_ ag;clear b ae ak ah K O ai af ag ac aj;obtain⟨aR,aT⟩:=F_ h;have aX:w.1.size<wa.1.size:=ltg h;go_wp2;refine bodyPost_ret (v:=.agg #[.bool (A0f (n / g)).neg,.slice T m1 Z,.slice X m2 aa]) (by simp[results,results66,go_sem, *]) rfl ?_;have az:=fun(W:World) (ha:Above (w.1.size+1) wa W)=>A7j (w:=w) au ao (λI J=>by have:=(aq I J).1;omega) oM ha;have aA:=fun(W:World) (ha:Above (w.1.size+1) wa W)=>A7j (w:=w) aw ap (λI J=>by have:=(ar I J).1;omega) oM ha;rw[aG.o];refine B4k (x:=⟨A0f (n / g),dig (d / g).toNat⟩) (az _ ?_) (aA _ ?_) Y ?_;·exact Above.go
 ·exact Above.go
 exact Below.go
theorem C2i {x:TBigInt} {ys:List Int} {b B:Option Addr} {n1 h m d:Nat} {b1 b2:List Nat} {w:World} (K:Sl w b n1 h x.mag b1) (O:Sl w B m d ys b2) (u:XN.Can x.mag) (D:XN.Can ys) (I:0<m) (lx:x.mag.length<=65536) (S:m<=65536)
  (G:Int.gcd (val x.mag) (val ys)=1) (H:x.mag.length<=24) (E:m<=24) :
  Calls prog 69 #[.agg #[.bool x.neg,.slice b n1 h],.slice B m d] w (A0b w (.agg #[.bool x.neg,.slice b n1 h,.slice B m d])):=by
 obtain⟨A,n,c,J,_,C⟩:=D7v (TBigInt.mkAgg (x:=x) K) O u D I lx S G H E;cases J;exact C
def _root_.Go.XB.MP.sgd (s:Bool) (mag:List Int) (u:Value):MP:=⟨λv bs w=>v=.agg #[.bool s,u]/\bs=[]/\∃ A n c b',u=.slice A n c/\Sl w A n c mag b',λ_ _ _ _ hb h=>⟨h.1,h.2.1,by obtain⟨A,n,c,b',e,hs⟩:=h.2.2;exact⟨A,n,c,b',e,hs.below hb⟩⟩⟩
theorem D0t {P:Program} {f:FuncId} {args:Array Value} {w:World} {s:Bool} {mag:List Int} {A:Option Addr} {n c:Nat} {b':List Nat} (hs:Sl w A n c mag b') (h:Calls P f args w (A0b w (.agg #[.bool s,.slice A n c]))) :
  Calls P f args w λe w'=>∃ u,e=.returned u/\Bw w w'/\∃ bs,(MP.sgd s mag (.slice A n c)).p u bs w'/\∀ b∈bs,w.1.size<=b/\b<w'.1.size :=
 h.mono λ_ _ ⟨he,hb⟩=>⟨_,he,hb,[],⟨rfl,rfl,A,n,c,b',rfl,hs.below hb⟩,λb hb=>by simp at hb⟩
theorem E4a {X:TBigInt} {ys:List Int} (b:XN.Can X.mag) (H:NegOk X) (h:XN.Can ys) (G:0<val ys) (D:Int.gcd (val X.mag) (val ys)=1) (E:X.mag.length<=24) (u:ys.length<=24):mkR (A0q X) (val ys)=⟨X,ys⟩:=by
 rw[D6t b H G,D,Int.natCast_one,Int.ediv_one,Int.ediv_one,<-b.eq_dig,<-h.eq_dig,if_pos ⟨E,u⟩]

attribute [local simp] MP.sgd

theorem A1s {α:Type} [Dat α] {w u W:World} {lo:Nat} {v:Value} {x:α} {bs:List Nat} (h:Agg u v x bs) (hf:Free u bs) (hr:∀ b∈bs,lo<=b) (hl:w.1.size<=lo) (ha:Above lo u W) (hb:Bw w W):A0c w x (.returned v) W :=
 have hk:∀ g∈bs,W.1[g]?=u.1[g]?:=λg hg=>ha.block g (hr g hg) (h.lt g hg)
 ⟨v,bs,rfl,h.keep hk,⟨hf.1,λb hb=>⟨Nat.le_trans hl (hr b hb),by obtain⟨cs,t,e⟩:=hf.2 b hb;exact⟨cs,t,(hk b hb).trans e⟩⟩⟩,hb⟩
def A0y (x y:TBigInt):TBigInt:=⟨(x.neg != y.neg)&&!x.mag.isEmpty,x.mag⟩
theorem D2z (x y:TBigInt):NegOk (A0y x y):=by
 intro u e;have h:x.mag=[]:=e;have b:((x.neg != y.neg)&&!x.mag.isEmpty)=true:=u;rw[h]at b;simp at b

theorem D3i (v1 v2:Value) (x y:TBigInt) (b1 b2:List Nat) (w:World) (aC:Agg w v1 x b1) (aD:Agg w v2 y b2) (ax:A2j x=true) (ay:A2j y=true) (aE:y.mag≠[]) :
  Calls prog 60 #[v1,v2] w (A0c w (mkR (A0q (A0y x y)) (val y.mag))):=by
 have aG:=A_ aC;have aH:=A_ aD;obtain⟨ah,n1,ao,bG,rfl,rfl,J⟩:=TBigInt.agg aC;obtain⟨ai,n2,ap,bH,rfl,rfl,u⟩:=TBigInt.agg aD;have am:=A_ J;have an:=A_ u;have aY:=A_ (bigOkB_iff.1 ax).1.2;have al:=A_ (bigOkB_iff.1 ay).1.2;have a9:x.mag.length<=60:=(bigOkB_iff.1 ax).1.1;have ba:y.mag.length<=60:=(bigOkB_iff.1 ay).1.1;have aR:0<n2:=by rw[<-u.1];exact List.length_pos_iff.2 aE
 have bD:n1<=60:=by rw[<-J.1];exact a9
 have bE:n2<=60:=by rw[<-u.1];exact ba
 have bc:=A_ (al.pos aE);have aK:=A_ ax;have aL:=A_ ay;have aM:=A_ (show((x.neg != y.neg)&&decide (0<n1))=(A0y x y).neg by unfold A0y;rw[<-J.1];simp only;cases x.mag<;>simp);have aV:((n2:Int)==0)=false:=sO;have aJ:=A_ (D2z x y);have bB:=A_ (show(A0y x y).mag=x.mag from rfl);have aA:=A_ (show XN.Can (A0y x y).mag from aY);have aI:=A_ (by show x.mag.length<=65536;omega:(A0y x y).mag.length<=65536);clear J u aC aD ax ay aE;by_cases aw:Int.gcd (val (A0y x y).mag) (val y.mag)=1/\(A0y x y).mag.length<=24/\y.mag.length<=24
 ·have T:=A_ aw
  clear aw;go_enter func60,ntmps60;go_wp2_with fail;have C:=A1o _ x _ (((w.alloc (.cells #[.bool x.neg,.slice ah n1 ao] 33)).alloc (.cells #[.bool y.neg,.slice ai n2 ap] 33)).alloc (.cells #[.bool false,.slice none 0 0,.slice none 0 0] 35)) (Agg.below aG Below.go);rw[aK.o]at C;refine C.mono ?_;clear C;rintro _ K ⟨rfl,G⟩;obtain⟨bg,bj⟩:=F_ G;have bm:w.1.size<K.1.size:=ltg G;have bp:w.1.size+1<K.1.size:=ltg G;have bs:w.1.size+1+1<K.1.size:=ltg G;go_wp2_with fail;have C:=A1o _ y _ K (Agg.below aH Below.go);rw[aL.o]at C;refine C.mono ?_;clear C;rintro _ Y ⟨rfl,H⟩;obtain⟨bh,bk⟩:=F_ H;have bn:w.1.size<Y.1.size:=ltg H;have bq:w.1.size+1<Y.1.size:=ltg H;have bt:w.1.size+1+1<Y.1.size:=ltg H;go_wp2_with fail;refine X_ sI ?_;dsimp only[List.dropLast,List.getLast,List.length];iterate 7 refine C_ _ ?_
  refine D_ (MP.sl (A0y x y).mag) ?_ ?_;·intro E S D h b;obtain⟨ac,ad⟩:=F_ h;simp at b;refine G_ ?_;exact A1c (A9d ah n1 ao x.mag _ D (Sl.below am.o Below.go) oM)
  refine A3q (λO=>MP.sgd (A0y x y).neg (A0y x y).mag (O 7)) (by intro y O X;simp[N_,M_]at X;simp[X]) ?_ ?_;·intro E S D h b;obtain⟨ac,ad⟩:=F_ h;simp at b;refine G_ ?_;obtain⟨_,⟨A,n,c,e,I⟩,_⟩:=b;rw[e];have C:=A3s (!(x.neg==y.neg)) A n c D;rw[show((!(x.neg==y.neg))&&decide (0<n))=(A0y x y).neg by rw[<-aM.o,<-I.1,<-am.o.1];rfl]at C;exact D0t I C
  iterate 2 refine C_ _ ?_
  refine D_ (MP.sl y.mag) ?_ ?_;·intro E S D h b;obtain⟨ac,ad⟩:=F_ h;simp at b;refine G_ ?_;exact A1c (A9d ai n2 ap y.mag _ D (Sl.below an.o Below.go) oM)
  refine A3q (λO=>MP.eq (.agg ((O 8).cells++#[O 11]))) (by intro y O X;simp[N_,M_]at X;simp[X]) ?_ ?_
  ·intro E S D h b
   obtain⟨ac,ad⟩:=F_ h;simp at b;refine G_ ?_;obtain⟨⟨aB,_,A,n,c,aa,bd,I⟩,⟨aX,bv,c',Z,u⟩,_⟩:=b;first|rw[aB,aa,Z]|rw[aa,Z]
   have ag:=u.1;exact A0i (C2i (x:=A0y x y) I u aA.o al.o (by rw[<-ag,an.o.1];exact aR) aI.o oM T.o.1 T.o.2.1 (by rw[<-ag];exact T.2.2))
  intro E S wa h b (au:Hid _);simp at b;have bA:=b.2.2.2.2.2.2.2.1;have aW:=b.2.2.2.2.2.2.2.2.1;have bz:=b.2.2.2.2.2.2.2.2.2.2.2.1;have az:=b.2.2.2.2.2.2.2.2.2.2.2.2;obtain⟨⟨⟨aj,m1,aq,aa,J⟩,aP⟩,aT⟩:=bA;obtain⟨⟨⟨ak,m2,ar,Z,u⟩,aQ⟩,aU⟩:=bz;have aN:E 12=.agg #[.bool (A0y x y).neg,.slice aj m1 aq,.slice ak m2 ar]:=by rw[az.1.1,aW.1.1,aa,Z];rfl
  have aZ:=A_ (au 7 11 dE dE dE);have a7:=A_ J;have a2:=A_ aP;have a5:=A_ aT;have a8:=A_ u;have a3:=A_ aQ;have a6:=A_ aU;clear b au az aW J aP aT u aQ aU;obtain⟨bi,bl⟩:=F_ h;have bo:w.1.size<wa.1.size:=ltg h;have br:w.1.size+1<wa.1.size:=ltg h;have bu:w.1.size+1+1<wa.1.size:=ltg h;go_wp2;refine bodyPost_ret (v:=.agg #[.bool (A0y x y).neg,.slice aj m1 aq,.slice ak m2 ar]) (by simp[results,results60,go_sem, *]) rfl ?_;rw[E4a aA.o aJ.o al.o bc.o T.o.1 T.o.2.1 T.o.2.2];have bF:w.1.size+3<=Y.1.size:=oM;have be:=fun(W:World) (ab:Above (w.1.size+3) wa W)=>A7j (w:=w) a7 a2 (λae af=>by have:=(a5 ae af).1;omega) oM ab;have bf:=fun(W:World) (ab:Above (w.1.size+3) wa W)=>A7j (w:=w) a8 a3 (λae af=>by have:=(a6 ae af).1;omega) oM ab;refine B4k (x:=⟨A0y x y,y.mag⟩) (be _ ?_) (bf _ ?_) aZ ?_;·exact Above.go
  ·exact Above.go
  exact Below.go
 have T:=A_ aw;clear aw;go_enter func60,ntmps60;go_wp2_with fail;have C:=A1o _ x _ (((w.alloc (.cells #[.bool x.neg,.slice ah n1 ao] 33)).alloc (.cells #[.bool y.neg,.slice ai n2 ap] 33)).alloc (.cells #[.bool false,.slice none 0 0,.slice none 0 0] 35)) (Agg.below aG Below.go);rw[aK.o]at C;refine C.mono ?_;clear C;rintro _ K ⟨rfl,G⟩;obtain⟨bg,bj⟩:=F_ G;have bm:w.1.size<K.1.size:=ltg G;have bp:w.1.size+1<K.1.size:=ltg G;have bs:w.1.size+1+1<K.1.size:=ltg G;go_wp2_with fail;have C:=A1o _ y _ K (Agg.below aH Below.go);rw[aL.o]at C;refine C.mono ?_;clear C;rintro _ Y ⟨rfl,H⟩;obtain⟨bh,bk⟩:=F_ H;have bn:w.1.size<Y.1.size:=ltg H;have bq:w.1.size+1<Y.1.size:=ltg H;have bt:w.1.size+1+1<Y.1.size:=ltg H;go_wp2_with fail;refine X_ sI ?_;dsimp only[List.dropLast,List.getLast,List.length];iterate 7 refine C_ _ ?_
 refine D_ (MP.sl (A0y x y).mag) ?_ ?_;·intro E S D h b;obtain⟨ac,ad⟩:=F_ h;simp at b;refine G_ ?_;exact A1c (A9d ah n1 ao x.mag _ D (Sl.below am.o Below.go) oM)
 refine A3q (λO=>MP.sgd (A0y x y).neg (A0y x y).mag (O 7)) (by intro y O X;simp[N_,M_]at X;simp[X]) ?_ ?_;·intro E S D h b;obtain⟨ac,ad⟩:=F_ h;simp at b;refine G_ ?_;obtain⟨_,⟨A,n,c,e,I⟩,_⟩:=b;rw[e];have C:=A3s (!(x.neg==y.neg)) A n c D;rw[show((!(x.neg==y.neg))&&decide (0<n))=(A0y x y).neg by rw[<-aM.o,<-I.1,<-am.o.1];rfl]at C;exact D0t I C
 iterate 2 refine C_ _ ?_
 refine D_ (MP.sl y.mag) ?_ ?_;·intro E S D h b;obtain⟨ac,ad⟩:=F_ h;simp at b;refine G_ ?_;exact A1c (A9d ai n2 ap y.mag _ D (Sl.below an.o Below.go) oM)
 refine D_ (MP.agg (mkR (A0q (A0y x y)) (val y.mag))) ?_ ?_
 ·intro E S D h b
  obtain⟨ac,ad⟩:=F_ h;simp at b;refine G_ ?_;obtain⟨⟨aB,_,A,n,c,aa,bd,I⟩,⟨aX,bv,c',Z,u⟩,_⟩:=b;first|rw[aB,aa,Z]|rw[aa,Z]
  have ag:=u.1;exact H_ (E0g (TBigInt.mkAgg (x:=A0y x y) I) u aA.o al.o (by rw[<-ag,an.o.1];exact aR) aI.o oM aJ.o (by rw[<-ag];exact T))
 intro E S wa h b (au:Hid _);simp at b;have az:=b.2.2.2.2.2.2.2.2.2.2.2.2;obtain⟨⟨ab,aO⟩,aS⟩:=az;obtain⟨aj,m1,aq,bI,ak,m2,ar,bJ,aN,aV,J,u⟩:=TRat.agg ab;have aF:=A_ ab;have a1:=A_ aO;have a4:=A_ aS;clear b au aV J u ab aO aS;obtain⟨bi,bl⟩:=F_ h;have bo:w.1.size<wa.1.size:=ltg h;have br:w.1.size+1<wa.1.size:=ltg h;have bu:w.1.size+1+1<wa.1.size:=ltg h;go_wp2;refine bodyPost_ret (v:=.agg #[.bool (mkR (A0q (A0y x y)) (val y.mag)).1.1,.slice aj m1 aq,.slice ak m2 ar]) (by simp[results,results60,go_sem, *]) rfl ?_;rw[aN]at aF;refine A1s (lo:=w.1.size+3) aF a1 (λae af=>by have:=(a4 ae af).1;omega) oM ?_ ?_;·exact Above.go
 exact Below.go

theorem D1g (n:Int) (h:I64 n):A2j (A0f n)=true:=by
 rw[bigOkB_iff];refine⟨⟨?_,A7g n⟩,?_⟩;·have p:=A6t (by decide:3<=60);rw[pw_vals.2.2]at p;exact A4r (by have:=h.1;have:=h.2;omega)
 intro b;unfold A0f at b ⊢;simp at b;simp only[Ne,B1x];omega
theorem D1m {n d:Int} (u:0<d):A0q (A0y (A0f n) (A0f d))=n/\val (A0f d).mag=d:=by
 refine⟨?_,by show val (dig d.natAbs)=d;rw[A1j];omega⟩;have e:(A0f d).neg=false:=by unfold A0f;simp;omega
 have h:=D6d (x:=A0y (A0f n) (A0f d));unfold A0y A0q;rw[e];show(if ((A0f n).neg != false&&!(dig n.natAbs).isEmpty)=true then -val (dig n.natAbs)else val (dig n.natAbs))=n;rw[A1j];unfold A0f;by_cases b:n<0
 ·have:dig n.natAbs≠[]:=by rw[Ne,B1x];omega
  rw[if_pos (by simp[b,this])];omega
 rw[if_neg (by simp[b])];omega

theorem A7u (n d:Int) (w:World) (T:I64 n) (S:I64 d) (H:0<d):Calls prog 27 #[.int .i64 n,.int .i64 d] w (A0c w (mkR n d)):=by
 have E:=A_ T;have D:=A_ S;have b:=A_ (D1m (n:=n) H);have aa:=A_ (by intro e;have:=b.2;rw[e]at this;simp[val]at this;omega:(A0f d).mag≠[]);clear T S H;go_enter func27,ntmps27;go_wp2_with fail;refine(A9i n _ E).mono ?_;rintro _ ap ⟨v1,an,rfl,I,ai,K⟩;have ab:=A_ I;clear I ai;obtain⟨aq,aw⟩:=F_ K;have az:w.1.size<ap.1.size:=ltg K;go_wp2_with fail;refine(A9i d _ D).mono ?_;rintro _ X ⟨v2,ao,rfl,J,aj,u⟩;have ac:=A_ J;clear J aj;obtain⟨ar,ax⟩:=F_ u;have aA:w.1.size<X.1.size:=ltg u;go_wp2_with fail;refine(D3i v1 v2 (A0f n) (A0f d) an ao X (Agg.below ab u) ac (D1g n E) (D1g d D) aa).mono ?_;rw[b.o.1,b.o.2];rintro _ w3 ⟨aF,aC,rfl,h,W,O⟩;obtain⟨Y,m1,af,aD,Z,m2,ag,aE,rfl,am,ak,al⟩:=TRat.agg h;have ad:=A_ h;have G:=A_ W;clear am ak al h W;obtain⟨au,ay⟩:=F_ O;have aB:w.1.size<w3.1.size:=ltg O;go_wp2;refine bodyPost_ret (v:=.agg #[.bool (mkR n d).1.1,.slice Y m1 af,.slice Z m2 ag]) (by simp[results,results27,go_sem, *]) rfl ?_;refine A1s (lo:=w.1.size+1) ad G.free (λae ah=>by have:=(G.2 ae ah).1;omega) oM ?_ ?_;·exact Above.go
 exact Below.go

theorem E5y (n:Int) (h:I64 n):mkR n 1=U_ n:=by
 unfold mkR U_;rw[Int.gcd_one_right,Int.natCast_one,Int.ediv_one,Int.ediv_one,if_pos];·rfl
 have p:=A6t (by decide:3<=24);rw[pw_vals.2.2]at p;exact⟨A4r (by have:=h.1;have:=h.2;omega),dE⟩

theorem A0l (n:Int) (w:World) (h:I64 n):Calls prog 6 #[.int .i64 n] w (A0c w (U_ n)):=by
 have K:=A_ h;have I:=A_ (E5y n h);clear h;go_enter func6,ntmps6;go_wp2_with fail;refine(A7u n 1 _ K (by unfold I64;omega) dE).mono ?_;rw[I.o];rintro _ aa ⟨ah,ae,rfl,b,E,D⟩;obtain⟨G,m1,S,af,H,m2,T,ag,rfl,Z,X,Y⟩:=TRat.agg b;have J:=A_ b;have u:=A_ E;clear Z X Y b E;obtain⟨ab,ac⟩:=F_ D;have ad:w.1.size<aa.1.size:=ltg D;go_wp2;refine bodyPost_ret (v:=.agg #[.bool (U_ n).1.1,.slice G m1 S,.slice H m2 T]) (by simp[results,results6,go_sem, *]) rfl ?_;refine A1s (lo:=w.1.size+1) J u.free (λO W=>by have:=(u.2 O W).1;simp at this;omega) oM ?_ ?_;·exact Above.go
 exact Below.go
section
attribute [local simp] MP.box
section
variable {r s:TRat}
theorem _root_.Go.XN.RatV.lim (h:RatV r) (b:A2a r=true):(0<T_ r/\T_ r<1000000000)/\(-1000000000<R_ r/\R_ r<1000000000):=by
 unfold A2a at b;simp only[Bool.and_eq_true,decide_eq_true_eq]at b;exact⟨⟨h.den0,(C5o h.2 b.2).2⟩,C5m h.mag.1 b.1⟩
theorem B1p {a b:Int} (u:-1000000000<a/\a<1000000000) (D:-1000000000<b/\b<1000000000):-1000000000000000000<=a*b/\a*b<=1000000000000000000:=by
 have h:(a*b).natAbs<=1000000000*1000000000:=by rw[Int.natAbs_mul];exact Nat.mul_le_mul oM oM
 omega
theorem B6g {a b:Int} {m n:Nat} (D:(a.natAbs:Int)<pw m) (H:(b.natAbs:Int)<pw n):((a*b).natAbs:Int)<pw (m+n):=by
 rw[Int.natAbs_mul,B0f,Int.natCast_mul];have u:=A5r n;rcases Nat.eq_zero_or_pos b.natAbs with h|h
 ·rw[h];simp;exact Int.mul_pos (A5r m) u
 have E:(a.natAbs:Int)*b.natAbs<pw m*b.natAbs:=Int.mul_lt_mul_of_pos_right D oM;have G:pw m*b.natAbs<=pw m*pw n:=Int.mul_le_mul_of_nonneg_left oM (Int.le_of_lt (A5r m));omega
theorem E5v {a b:Int} {m:Nat} (h:(a.natAbs:Int)<pw m) (u:(b.natAbs:Int)<pw m):((a+b).natAbs:Int)<pw (m+1):=by
 rw[A1l];omega
theorem C3t {T:Int} {m:Nat} (h:(T.natAbs:Int)<pw m):(A0f T).mag.length<=m:=A4r h
theorem B0w (T:Int):NegOk (A0f T):=by
 intro h;unfold A0f at h ⊢;simp only[decide_eq_true_eq]at h;simp only[Ne,B1x];omega
theorem _root_.Go.XN.RatV.numlt (h:RatV r):((R_ r).natAbs:Int)<pw 24:=by
 have b:=A4j h.mag.1;have u:=A6t h.num24;have D:=S_ h.mag.1;unfold R_ A0q;split<;>omega
theorem _root_.Go.XN.RatV.denlt (h:RatV r):((T_ r).natAbs:Int)<pw 24:=by
 have b:=A4j h.2.1;have u:=A6t h.den24;have D:=h.den0;unfold T_;omega
structure DenD (D:Int):Prop where
 can:XN.Can (dig D.toNat)
 v:val (dig D.toNat)=D
 pos:0<(dig D.toNat).length
 le:(dig D.toNat).length<=65536
theorem _root_.Go.XN.RatV.denD (h:RatV r) (b:RatV s):DenD (T_ r*T_ s):=by
 have D:0<T_ r*T_ s:=Int.mul_pos h.den0 b.den0;have u:=B6g h.denlt b.denlt;rw[show 24+24=48 from rfl]at u;refine⟨A0j _,by rw[A1j];omega,List.length_pos_iff.2 (by rw[Ne,B1x];omega),?_⟩;have:(dig (T_ r*T_ s).toNat).length<=48:=A4r oM;omega
end

def _root_.Go.XB.MP.red (X:TBigInt) (ys:List Int) (v:Value) (x:TRat):MP:=⟨λu bs w=>(u=v/\bs=[]/\x=⟨X,ys⟩)\/(Agg w u x bs/\Free w bs),λ_ _ _ _ hb h=>h.imp id λh=>⟨h.1.below hb,h.2.below hb⟩⟩
theorem D0d {T u:Int} {u4 I:Value} {W Y:List Nat} {w:World} (O:Agg w u4 (A0f T) W) (aa:∃ A n c,I=.slice A n c/\Sl w A n c (dig u.toNat) Y) (h:DenD u) (Z:0<u) (J:(A0f T).mag.length<=65536) :
  Calls prog 69 #[u4,I] w λe w'=>∃ v,e=.returned v/\Bw w w'/\∃ bs,(MP.red (A0f T) (dig u.toNat) (.agg (u4.cells++#[I])) (mkR T u)).p v bs w'/\∀ b∈bs,w.1.size<=b/\b<w'.1.size:=by
 obtain⟨ae,n2,ag,rfl,H⟩:=aa;have E:=H.1;by_cases D:Int.gcd (val (A0f T).mag) (val (dig u.toNat))=1/\(A0f T).mag.length<=24/\(dig u.toNat).length<=24;·have K:=E4a (X:=A0f T) (A7g _) (B0w _) h.can (by rw[h.v];exact Z) D.1 D.2.1 D.2.2;rw[A5m,h.v]at K;obtain⟨ad,n1,af,ah,rfl,-,ac⟩:=TBigInt.agg O;refine(C2i ac H (A7g _) h.can (by rw[<-E];exact h.pos) J (by rw[<-E];exact h.le) D.1 D.2.1 (by rw[<-E];exact D.2.2)).mono ?_;rintro _ w' ⟨rfl,G⟩;exact⟨_,rfl,G,[],.inl ⟨rfl,rfl,K⟩,sI⟩
 have C:=E0g O H (A7g _) h.can (by rw[<-E];exact h.pos) J (by rw[<-E];exact h.le) (B0w _) (by rw[<-E];exact D);rw[A5m,h.v]at C;refine C.mono ?_;rintro _ w' ⟨v,bs,rfl,ab,S,G⟩;exact⟨v,rfl,G,bs,.inr ⟨ab,S.free⟩,S.range⟩
theorem D8x {X:TBigInt} {ys:List Int} {x:TRat} {u4 K u:Value} {D E H:List Nat} {w:World} (I:Agg w u4 X D/\Free w D) (O:(∃ A n c,K=.slice A n c/\Sl w A n c ys E)/\Free w E) (h:(MP.red X ys (.agg (u4.cells++#[K])) x).p u H w) (S:∀ b∈D,b∉E) :
  ∃ B1 m1 d1 B2 m2 d2 s,u=.agg #[.bool x.1.1,.slice B1 m1 d1,.slice B2 m2 d2]/\Hid (Agg w (.agg #[.bool x.1.1,.slice B1 m1 d1,.slice B2 m2 d2]) x s)/\Hid (Free w s)/\∀ b∈s,b∈D\/b∈E\/b∈H:=by
 rcases h with⟨rfl,-,rfl⟩|⟨J,T⟩;·obtain⟨aa,n1,ac,ae,rfl,rfl,Y⟩:=TBigInt.agg I.1;obtain⟨⟨ab,n2,ad,rfl,Z⟩,W⟩:=O;exact⟨_,_,_,_,_,_,_,rfl,TRat.mkAgg (x:=⟨X,ys⟩) Y Z,Free.join I.2 W S,λb G=>(List.mem_append.1 G).imp id .inl⟩
 obtain⟨B1,m1,d1,af,B2,m2,d2,ag,rfl,-,-,-⟩:=TRat.agg J;exact⟨_,_,_,_,_,_,_,rfl,J,T,λb G=>.inr (.inr G)⟩
theorem A0n (v1 v2:Value) (r s:TRat) (b1 b2:List Nat) (w:World) (S:Agg w v1 r b1) (aw:Agg w v2 s b2) :
  Calls prog 88 #[v1,v2] w (A0c w (A0d r s)):=by
 have ak:=A_ S;have al:=A_ aw;obtain⟨bo,n1,br,bD,aX,n2,ba,bE,rfl,rfl,aQ,aR⟩:=TRat.agg S;obtain⟨bp,bz,c3,bF,aY,bn,bc,bG,rfl,rfl,aS,aT⟩:=TRat.agg aw;have a3:=A_ aQ;have aG:=A_ aR;have a4:=A_ aS;have aH:=A_ aT;clear aQ aR aS aT S aw;go_enter func88,ntmps88;go_wp2_with fail;refine Calls.new4 λw0 N=>?_;refine(A1r (some ⟨w.1.size+1+1+1,0,none⟩) 2 2 [r,s] _ w0 (sl2 N.n (ak.below N.b) (al.below N.b))).mono ?_;rintro _ aW ⟨rfl,Z⟩;have X:=A_ (Below.next N.b Z);have an:=A_ (A0z N.k Z);have Y:=A_ (A0z N.l Z);have am:=A_ (A0z N.m Z);clear Z N;obtain⟨ax,-,ab⟩:=bx an;obtain⟨ks,-,T⟩:=bx Y;obtain⟨ko,aK,aV⟩:=bx am;rw[show [r,s].all J_=(J_ r&&J_ s) by simp];cases K:J_ r&&J_ s;·have ac:=A_ (by unfold A0d;rw[K];rfl:A0d r s=A0h);clear K;go_wp2;refine bodyPost_ret (v:=.agg #[.bool false,.slice none 0 0,.slice none 0 0]) (by simp[results,results88,go_sem, *]) rfl ?_;rw[ac.o];exact A3e (X.grown (A5y (A5y (A5y (B3a _ _)))) X.size (λx S=>by injection S with S;omega))
 have ac:=A_ (by unfold A0d;rw[K];rfl:A0d r s=mkR (R_ r*R_ s) (T_ r*T_ s));rw[Bool.and_eq_true]at K;have E:=A_ (ratOkB_iff.1 K.1);have G:=A_ (ratOkB_iff.1 K.2);clear K;go_upto_region 3 with fail;go_cut [20] (λs20 wx=>s20=.bool (A2a r&&A2a s)/\Hid (Bw aW wx));case first =>
  go_wp2_with fail;refine(A1g _ r _ aW (ak.below X)).mono ?_;rintro _ W ⟨rfl,H⟩;have O:=A_ H;obtain⟨ks,-,T⟩:=bx (A0z Y H);clear H;cases af:A2a r;·have ao:=A_ af;clear af;go_wp2_with fail;go_meet;exact⟨by rw[ao.o];rfl,O⟩
  have ao:=A_ af;clear af;go_wp2_with fail;refine(A1g _ s _ W (al.below (Below.next X O))).mono ?_;rintro _ w3 ⟨rfl,aa⟩;have ad:=A_ aa;clear aa;go_wp2_with fail;go_meet;exact⟨by rw[ao.o];rfl,Below.next O ad⟩
 case rest =>
 obtain⟨rfl,h⟩:=hcut;rename World=>wx;rename (∀ (a:Act) (w:World),Code.wp _ _ _ a w->_)=>aL;refine aL _ _ ?_;clear aL ax ks ko aK ab T aV;have I:=A_ (Below.next X h);obtain⟨ax,-,ab⟩:=bx (A0z an h);obtain⟨ks,-,T⟩:=bx (A0z Y h);have ae:=A_ (A0z am h);have a8:=A_ (A0z Y h);clear h an Y am;cases au:A2a r&&A2a s
 ·clear au
  have a2:=A_ (E.denD G);have a9:=A_ (show(A0f (R_ r*R_ s)).mag.length<=65536 from Nat.le_trans (C3t (B6g E.numlt G.numlt)) dE);go_wp2_with fail;refine X_ sI ?_;dsimp only[List.dropLast,List.getLast,List.length];iterate 4 refine C_ _ ?_
  refine D_ (MP.agg (A0f (R_ r*R_ s))) ?_ ?_;·intro aE aF ag u D;obtain⟨aM,aO⟩:=F_ u;simp at D;refine G_ ?_;exact H_ (A6e _ _ r.1 s.num _ _ ag (TBigInt.mkAgg (Sl.below a3 (Below.next I u))) (TBigInt.mkAgg (Sl.below a4 (Below.next I u))) E.mag.1 G.mag.1 (Nat.le_trans E.num24 dE) (Nat.le_trans G.num24 dE))
  iterate 4 refine C_ _ ?_
  refine D_ (MP.sl (dig (T_ r*T_ s).toNat)) ?_ ?_;·intro aE aF ag u D;obtain⟨aM,aO⟩:=F_ u;simp at D;refine G_ ?_;exact A1c (B5n aX aY n2 bn ba bc r.2 s.2 _ _ ag (Sl.below aG.o (Below.next I.o u)) (Sl.below aH.o (Below.next I.o u)) E.o.2.1 G.o.2.1 (by rw[<-aG.o.1];exact Nat.le_trans E.o.den24 dE) (by rw[<-aH.o.1];exact Nat.le_trans G.den24 dE))
  refine A3q (λaD=>MP.red (A0f (R_ r*R_ s)) (dig (T_ r*T_ s).toNat) (.agg ((aD 4).cells++#[aD 9])) (mkR (R_ r*R_ s) (T_ r*T_ s))) (by intro y aD J;simp[N_,M_]at J;simp[J]) ?_ ?_;·intro aE aF ag u D;obtain⟨aM,aO⟩:=F_ u;simp at D;refine G_ ?_;exact D0d D.1.1 D.2.1 a2 (Int.mul_pos E.den0 G.den0) a9
  intro aE aF wa u D (aN:Hid _);simp at D;have az:=D.2.2.2.2.1;have aA:=D.2.2.2.2.2.2.2.2.2.1;have ay:=D.2.2.2.2.2.2.2.2.2.2;obtain⟨ah,m1,ap,ai,m2,aq,z,bs,aj,a6,aU⟩:=D8x az.1 aA.1 ay.1 (aN 4 9 dE dE dE)
  have a7:=A_ (show ∀ b∈z,wx.1.size<=b from λb h=>by
   rcases aU b h with J|J|J;·exact(az.2 b J).1
   ·exact(aA.2 b J).1
   exact(ay.2 b J).1)
  have a5:=A_ u;obtain⟨ko,aK,aV⟩:=bx (A0z ae u);have:=E_ ae;clear D aN az aA ay aU u;go_wp2;refine bodyPost_ret (v:=.agg #[.bool (mkR (R_ r*R_ s) (T_ r*T_ s)).1.1,.slice ah m1 ap,.slice ai m2 aq]) (by simp[results,results88,go_sem, *]) rfl ?_;rw[ac.o];exact B8v aj a6 (λb h=>by have:=a7 b h;omega) (Below.next I.o a5.o) oM (A5y (A5y (A5y (B3a _ _))))
 rw[Bool.and_eq_true]at au;obtain⟨aB,aC⟩:=au;have ab:=E.lim aB;have T:=G.lim aC;have aZ:=A_ (A3c _ r _ wx (ak.below I) aB E.mag.1 (A4h E.1));have a1:=A_ (λW (H:Bw wx W)=>A3c _ s _ W (al.below (Below.next I H)) aC G.mag.1 (A4h G.1));clear aB aC;generalize R_ r=a at *;generalize T_ r=b at *;generalize R_ s=c at *;generalize T_ s=d at *;obtain⟨⟨bf,bg⟩,bd,be⟩:=ab;obtain⟨⟨bj,bk⟩,bh,bi⟩:=T;obtain⟨bA,p1⟩:=B1p (a:=a) (b:=c) ⟨bd,be⟩ ⟨bh,bi⟩;obtain⟨_,bB⟩:=B1p (a:=b) (b:=d) ⟨oM,bg⟩ ⟨oM,bk⟩;have p2:=Int.mul_pos bf bj;go_wp2_with fail;refine aZ.mono ?_;rintro _ W ⟨rfl,H⟩;have O:=A_ H;obtain⟨bl,-,bm⟩:=bx (A0z a8 H);clear H ks T ax ab;go_wp2_with fail;refine(a1 W O).mono ?_;rintro _ w3 ⟨rfl,aa⟩;have ad:=A_ (Below.next O aa);clear aa bl bm;go_wp2_with fail;refine(C2n (a*c) (b*d) w3 p2 oM oM oM).mono ?_;rintro _ bJ ⟨v,bq,rfl,ar,aP,h⟩;obtain⟨ah,m1,ap,bH,ai,m2,aq,bI,rfl,-,-,-⟩:=TRat.agg ar;have aj:=A_ ar;have aJ:=A_ aP;have aI:=A_ (Below.next ad h);obtain⟨bu,bt,bv⟩:=bx (A0z ae aI);clear ar aP h;go_wp2;refine bodyPost_ret (v:=.agg #[.bool (mkR (a*c) (b*d)).1.1,.slice ah m1 ap,.slice ai m2 aq]) (by simp[results,results88,go_sem, *]) rfl ?_;rw[ac.o];have:=E_ ae;have:=ad.size;exact B8v aj aJ.free (λb h=>by have:=(aJ.2 b h).1;omega) (Below.next I.o aI.o) oM (A5y (A5y (A5y (B3a _ _))))
end
attribute [local simp] MP.box
def _root_.Go.XB.MP.aggS {α:Type} [Dat α] (x:α):MP:=⟨λv bs w=>bs=[]/\∃ s,Agg w v x s,λ_ _ _ _ hb h=>⟨h.1,by obtain⟨s,hs⟩:=h.2;exact⟨s,hs.below hb⟩⟩⟩
def C4o {α:Type} [Dat α] (w:World) (x:α) (e:Ending) (w':World):Prop:=∃ v s,e=.returned v/\Agg w' v x s/\Bw w w'
theorem A7t {α:Type} [Dat α] {P:Program} {f:FuncId} {args:Array Value} {w:World} {x:α} (h:Calls P f args w (C4o w x)) :
  Calls P f args w λe w'=>∃ u,e=.returned u/\Bw w w'/\∃ bs,(MP.aggS x).p u bs w'/\∀ b∈bs,w.1.size<=b/\b<w'.1.size :=
 h.mono λ_ _ ⟨v,s,he,ha,hb⟩=>⟨v,he,hb,[],⟨rfl,s,ha⟩,λb hb=>by simp at hb⟩
attribute [local simp] MP.aggS

theorem B6n {r:TRat} {W:World} {A:Option Addr} {n c:Nat} {b:List Nat} (h:Sl W A n c r.2 b):Agg W (.agg #[.bool false,.slice A n c]) (⟨false,r.2⟩:TBigInt) b/\A0q ⟨false,r.2⟩=T_ r :=
 ⟨TBigInt.mkAgg (x:=⟨false,r.2⟩) h,by unfold A0q T_;simp⟩

theorem B0t (v1 v2:Value) (r s:TRat) (b1 b2:List Nat) (w:World) (ax:Agg w v1 r b1) (ay:Agg w v2 s b2) (aU:RatV r) (vs:RatV s) :
  Calls prog 105 #[v1,v2] w (A0b w (.int .i64 (A6u r s))):=by
 have aa:=A_ ax;have al:=A_ ay;obtain⟨ah,n1,am,bq,ai,n2,an,br,rfl,rfl,aM,aN⟩:=TRat.agg ax;obtain⟨aj,az,c3,bs,ak,aA,ao,bt,rfl,rfl,aO,aP⟩:=TRat.agg ay;have aE:=A_ aM;have aF:=A_ aN;have aG:=A_ aO;have aH:=A_ aP;have G:=A_ aU;have H:=A_ vs;have aI:=G;have aJ:=H;clear aM aN aO aP ax ay aU vs;by_cases ag:A2a r=true/\A2a s=true
 ·obtain⟨aB,aC⟩:=ag
  have aS:=G.lim aB;have aT:=H.lim aC;have T:=A_ aB;have ab:=A_ aC;clear aB aC;obtain⟨a,ac⟩:∃ a,R_ r=a:=⟨_,rfl⟩
  obtain⟨J,ad⟩:∃ J,T_ r=J:=⟨_,rfl⟩
  obtain⟨c,ae⟩:∃ c,R_ s=c:=⟨_,rfl⟩
  obtain⟨d,af⟩:∃ d,T_ s=d:=⟨_,rfl⟩
  rw[ac,ad]at aS;rw[ae,af]at aT;have aV:=A_ ac;have aW:=A_ ad;have aX:=A_ ae;have aY:=A_ af;have aZ:=A_ (by unfold A6u;rw[ac,ad,ae,af]:sgn (a*d - c*J)=A6u r s);clear ac ad ae af;obtain⟨⟨bm,a8⟩,a6,a7⟩:=aS;obtain⟨⟨bn,bc⟩,a9,ba⟩:=aT;obtain⟨bo,p1⟩:=B1p (a:=a) (b:=d) ⟨a6,a7⟩ ⟨oM,bc⟩;obtain⟨p2,bp⟩:=B1p (a:=c) (b:=J) ⟨a9,ba⟩ ⟨oM,a8⟩;go_enter func105,ntmps105;go_wp2_with fail;have C:=A1g _ r _ ((w.alloc (.cells #[.bool r.1.1,.slice ah n1 am,.slice ai n2 an] 35)).alloc (.cells #[.bool s.1.1,.slice aj az c3,.slice ak aA ao] 35)) (Agg.below aa Below.go);rw[T.o]at C;refine C.mono ?_;clear C;rintro _ I ⟨rfl,E⟩;obtain⟨aK,aL⟩:=F_ E;have aQ:w.1.size<I.1.size:=ltg E;have aR:w.1.size+1<I.1.size:=ltg E;go_wp2_with fail;have C:=A1g _ s _ I (Agg.below al Below.go);rw[ab.o]at C;refine C.mono ?_;clear C;rintro _ W ⟨rfl,K⟩;obtain⟨a2,a3⟩:=F_ K;have a4:w.1.size<W.1.size:=ltg K;have a5:w.1.size+1<W.1.size:=ltg K;go_wp2_with fail;have C:=A3c _ r _ W (Agg.below aa Below.go) T aI.mag.1 (A4h aI.1);rw[aV.o,aW.o]at C;refine C.mono ?_;clear C;rintro _ w3 ⟨rfl,ar⟩;obtain⟨be,bg⟩:=F_ ar;have bi:w.1.size<w3.1.size:=ltg ar;have bk:w.1.size+1<w3.1.size:=ltg ar;go_wp2_with fail;have C:=A3c _ s _ w3 (Agg.below al Below.go) ab aJ.mag.1 (A4h aJ.1);rw[aX.o,aY.o]at C;refine C.mono ?_;clear C;rintro _ aD ⟨rfl,au⟩;obtain⟨bf,bh⟩:=F_ au;have bj:w.1.size<aD.1.size:=ltg au;have bl:w.1.size+1<aD.1.size:=ltg au;go_wp2_with fail;refine(C2j (a*d - c*J) aD).mono ?_;rintro _ bu ⟨rfl,bd⟩;go_wp2;go_ret;exact⟨A1x aZ,Below.go⟩
 cases Z:A2a r
 ·have T:=A_ Z
  clear Z ag;go_enter func105,ntmps105;go_wp2_with fail;have C:=A1g _ r _ ((w.alloc (.cells #[.bool r.1.1,.slice ah n1 am,.slice ai n2 an] 35)).alloc (.cells #[.bool s.1.1,.slice aj az c3,.slice ak aA ao] 35)) (Agg.below aa Below.go);rw[T.o]at C;refine C.mono ?_;clear C;rintro _ I ⟨rfl,E⟩;obtain⟨aK,aL⟩:=F_ E;have aQ:w.1.size<I.1.size:=ltg E;have aR:w.1.size+1<I.1.size:=ltg E;go_wp2_with fail;refine A0g ?_;iterate 5 refine C_ _ ?_
  refine D_ (MP.agg (A0f (R_ r*T_ s))) ?_ ?_;·intro O S h u b;obtain⟨X,Y⟩:=F_ u;simp at b;refine G_ ?_;have D:=B6n (r:=s) (Sl.below aH (show Bw w h from Below.go));have C:=A6e _ _ r.1 ⟨false,s.2⟩ _ _ h (TBigInt.mkAgg (Sl.below aE Below.go)) D.1 G.mag.1 H.2.1 (Nat.le_trans G.num24 dE) (Nat.le_trans H.den24 dE);rw[D.2]at C;exact H_ C
  iterate 5 refine C_ _ ?_
  refine D_ (MP.agg (A0f (R_ s*T_ r))) ?_ ?_;·intro O S h u b;obtain⟨X,Y⟩:=F_ u;simp at b;refine G_ ?_;have D:=B6n (r:=r) (Sl.below aF (show Bw w h from Below.go));have C:=A6e _ _ s.1 ⟨false,r.2⟩ _ _ h (TBigInt.mkAgg (Sl.below aG Below.go)) D.1 H.mag.1 G.2.1 (Nat.le_trans H.num24 dE) (Nat.le_trans G.den24 dE);rw[D.2]at C;exact H_ C
  refine D_ (MP.eq (.int .i64 (A6u r s))) ?_ ?_;·intro O S h u b;obtain⟨X,Y⟩:=F_ u;simp at b;refine G_ ?_;obtain⟨⟨ap,_⟩,aq,_⟩:=b;have C:=C2v _ _ _ _ _ _ h ap aq (A7g _) (A7g _) (B0w _) (B0w _);rw[A5m,A5m]at C;exact A0i C
  refine C_ _ ?_;intro O S wa u b (aw:Hid _);simp at b;go_simp;clear b aw;go_wp2;go_ret;exact⟨rfl,Below.go⟩
 have ab:=A_ (show A2a s=false by cases a1:A2a s;rfl;exact absurd ⟨Z,a1⟩ ag);have T:=A_ Z;clear Z ag;go_enter func105,ntmps105;go_wp2_with fail;have C:=A1g _ r _ ((w.alloc (.cells #[.bool r.1.1,.slice ah n1 am,.slice ai n2 an] 35)).alloc (.cells #[.bool s.1.1,.slice aj az c3,.slice ak aA ao] 35)) (Agg.below aa Below.go);rw[T.o]at C;refine C.mono ?_;clear C;rintro _ I ⟨rfl,E⟩;obtain⟨aK,aL⟩:=F_ E;have aQ:w.1.size<I.1.size:=ltg E;have aR:w.1.size+1<I.1.size:=ltg E;go_wp2_with fail;have C:=A1g _ s _ I (Agg.below al Below.go);rw[ab.o]at C;refine C.mono ?_;clear C;rintro _ W ⟨rfl,K⟩;obtain⟨a2,a3⟩:=F_ K;have a4:w.1.size<W.1.size:=ltg K;have a5:w.1.size+1<W.1.size:=ltg K;go_wp2_with fail;refine A0g ?_;iterate 5 refine C_ _ ?_
 refine D_ (MP.agg (A0f (R_ r*T_ s))) ?_ ?_;·intro O S h u b;obtain⟨X,Y⟩:=F_ u;simp at b;refine G_ ?_;have D:=B6n (r:=s) (Sl.below aH (show Bw w h from Below.go));have C:=A6e _ _ r.1 ⟨false,s.2⟩ _ _ h (TBigInt.mkAgg (Sl.below aE Below.go)) D.1 G.mag.1 H.2.1 (Nat.le_trans G.num24 dE) (Nat.le_trans H.den24 dE);rw[D.2]at C;exact H_ C
 iterate 5 refine C_ _ ?_
 refine D_ (MP.agg (A0f (R_ s*T_ r))) ?_ ?_;·intro O S h u b;obtain⟨X,Y⟩:=F_ u;simp at b;refine G_ ?_;have D:=B6n (r:=r) (Sl.below aF (show Bw w h from Below.go));have C:=A6e _ _ s.1 ⟨false,r.2⟩ _ _ h (TBigInt.mkAgg (Sl.below aG Below.go)) D.1 H.mag.1 G.2.1 (Nat.le_trans H.num24 dE) (Nat.le_trans G.den24 dE);rw[D.2]at C;exact H_ C
 refine D_ (MP.eq (.int .i64 (A6u r s))) ?_ ?_;·intro O S h u b;obtain⟨X,Y⟩:=F_ u;simp at b;refine G_ ?_;obtain⟨⟨ap,_⟩,aq,_⟩:=b;have C:=C2v _ _ _ _ _ _ h ap aq (A7g _) (A7g _) (B0w _) (B0w _);rw[A5m,A5m]at C;exact A0i C
 refine C_ _ ?_;intro O S wa u b (aw:Hid _);simp at b;go_simp;clear b aw;go_wp2;go_ret;exact⟨rfl,Below.go⟩

theorem B9l {x:TBigInt} (h:A2j x=true):A0f (-A0q x)=⟨!x.neg&&!x.mag.isEmpty,x.mag⟩:=by
 have b:=(bigOkB_iff.1 h).1.2;have:=C5a (neg:=!x.neg) b (v:=-A0q x) (by unfold A0q;cases x.neg<;>simp);exact this.symm
theorem B7f (v:Value) (x:TRat) (b:List Nat) (w:World) (I:Agg w v x b) (ok:A2j x.1=true) :
  Calls prog 30 #[v] w (C4o w (⟨A0f (-R_ x),x.2⟩:TRat)):=by
 obtain⟨D,n1,E,X,J,n2,T,Y,rfl,rfl,G,H⟩:=TRat.agg I;have O:=A_ G;have S:=A_ H;have K:=A_ (show A0f (-R_ x)=⟨!x.num.neg&&decide (0<n1),x.1.2⟩ by unfold R_;rw[B9l ok,<-G.1];cases x.1.2<;>simp);clear G H I;go_enter func30,ntmps30;go_wp2_with fail;refine X_ sI ?_;dsimp only[List.dropLast,List.getLast,List.length];iterate 7 refine C_ _ ?_
 refine D_ (MP.eq (.agg #[.bool (!x.num.neg&&decide (0<n1)),.slice D n1 E])) ?_ ?_;·intro aa ab Z h u;obtain⟨ad,af⟩:=F_ h;simp at u;refine G_ ?_;exact A0i (A3s (!x.num.neg) D n1 E Z)
 iterate 3 refine C_ _ ?_
 intro aa ab wa h u (W:Hid _);simp at u;go_simp;clear u W;obtain⟨ac,ae⟩:=F_ h;have ag:w.1.size<wa.1.size:=ltg h;have ah:w.1.size+1<wa.1.size:=ltg h;go_wp2;refine bodyPost_ret (v:=.agg #[.bool (!x.num.neg&&decide (0<n1)),.slice D n1 E,.slice J n2 T]) (by simp[results,results30,go_sem, *]) rfl ?_;refine⟨_,X++Y,rfl,?_,Below.go⟩;rw[K.o];exact TRat.mkAgg (x:=⟨⟨!x.num.neg&&decide (0<n1),x.1.2⟩,x.2⟩) (Sl.below O Below.go) (Sl.below S Below.go)
theorem D0m (v1 v2:Value) (r s:TRat) (b1 b2:List Nat) (w:World) (aF:Agg w v1 r b1) (aG:Agg w v2 s b2) (a8:RatV r) (vs:RatV s) :
  Calls prog 29 #[v1,v2] w (A0c w (mkR (R_ r*T_ s+R_ s*T_ r) (T_ r*T_ s))):=by
 have aQ:=A_ aF;have aR:=A_ aG;obtain⟨bT,n1,bX,cc,bc,n2,bp,cd,rfl,rfl,aZ,a1⟩:=TRat.agg aF;obtain⟨bU,b7,c3,ce,bd,bP,bq,cf,rfl,rfl,a2,a3⟩:=TRat.agg aG;have bg:=A_ aZ;have aw:=A_ a1;have bh:=A_ a2;have ax:=A_ a3;have E:=A_ a8;have G:=A_ vs;clear aZ a1 a2 a3 aF aG a8 vs;go_enter func29,ntmps29;go_upto_region 1 with fail;refine Code.new3 λa9 N=>?_;obtain⟨Z,-,S⟩:=bx N.k;have az:=A_ N.b;have aA:=A_ N.k;have ak:=A_ N.l;have aS:=A_ N.m;clear N;go_cut [15] (λs15 wx=>s15=.bool (A2a r&&A2a s)/\Hid (Bw a9 wx));case first =>
  go_wp2_with fail;refine(A1g _ r _ a9 (aQ.below az)).mono ?_;rintro _ aa ⟨rfl,I⟩;have X:=A_ I;obtain⟨ks,-,T⟩:=bx (A0z ak I);clear I;cases ap:A2a r;·have aB:=A_ ap;clear ap;go_wp2_with fail;go_meet;exact⟨by rw[aB.o];rfl,X⟩
  have aB:=A_ ap;clear ap;go_wp2_with fail;refine(A1g _ s _ aa (aR.below (Below.next az X))).mono ?_;rintro _ w3 ⟨rfl,ag⟩;have ai:=A_ ag;clear ag;go_wp2_with fail;go_meet;exact⟨by rw[aB.o];rfl,Below.next X ai⟩
 case rest =>
 obtain⟨rfl,u⟩:=hcut;rename World=>wx;rename (∀ (a:Act) (w:World),Code.wp _ _ _ a w->_)=>aU;refine aU _ _ ?_;clear aU Z S;have H:=A_ (Below.next az u);obtain⟨Z,-,S⟩:=bx (A0z aA u);obtain⟨ks,-,T⟩:=bx (A0z ak u);have aj:=A_ (A0z aS u);have aT:=A_ (A0z ak u);have bn:=A_ (A0z aA u);clear u aA ak aS;cases aE:A2a r&&A2a s
 ·clear aE
  have bf:=A_ (E.denD G);have bo:=A_ (show(A0f (R_ r*T_ s+R_ s*T_ r)).mag.length<=65536 from Nat.le_trans (C3t (E5v (B6g E.numlt G.denlt) (B6g G.numlt E.denlt))) dE);go_wp2_with fail;refine X_ sI ?_;dsimp only[List.dropLast,List.getLast,List.length];iterate 5 refine C_ _ ?_
  refine D_ (MP.agg (A0f (R_ r*T_ s))) ?_ ?_;·intro W K J h D;obtain⟨am,ao⟩:=F_ h;simp at D;refine G_ ?_;have ac:=B6n (r:=s) (Sl.below ax (Below.next H h));have C:=A6e _ _ r.1 ⟨false,s.2⟩ _ _ J (TBigInt.mkAgg (Sl.below bg (Below.next H h))) ac.1 E.mag.1 G.2.1 (Nat.le_trans E.num24 dE) (Nat.le_trans G.den24 dE);rw[ac.2]at C;exact H_ C
  iterate 5 refine C_ _ ?_
  refine D_ (MP.agg (A0f (R_ s*T_ r))) ?_ ?_;·intro W K J h D;obtain⟨am,ao⟩:=F_ h;simp at D;refine G_ ?_;have ac:=B6n (r:=r) (Sl.below aw (Below.next H h));have C:=A6e _ _ s.1 ⟨false,r.2⟩ _ _ J (TBigInt.mkAgg (Sl.below bh (Below.next H h))) ac.1 G.mag.1 E.2.1 (Nat.le_trans G.num24 dE) (Nat.le_trans E.den24 dE);rw[ac.2]at C;exact H_ C
  refine D_ (MP.agg (A0f (R_ r*T_ s+R_ s*T_ r))) ?_ ?_;·intro W K J h D;obtain⟨am,ao⟩:=F_ h;simp at D;refine G_ ?_;obtain⟨⟨af,_⟩,u,_⟩:=D;have C:=D6e _ _ _ _ _ _ J af u (A7g _) (A7g _) (Nat.le_trans (C3t (B6g E.numlt G.denlt)) dE) (Nat.le_trans (C3t (B6g G.numlt E.denlt)) dE);rw[A5m,A5m]at C;exact H_ C
  refine A1p #[.bool false,.slice none 0 0] 33 ?_ ?_;·intro W K J h D;refine⟨gD,?_⟩;go_simp
  intro W K wa h D (an:Hid _);simp at D;have bQ:=D.2.2.2.2.2.2.2.2.2.2.2.2.1;have bR:=D.2.2.2.2.2.2.2.2.2.2.2.2.2;obtain⟨⟨al,aV⟩,aX⟩:=bQ;obtain⟨ab,m1,ae,bS,bu,-,-⟩:=TBigInt.agg al;obtain⟨⟨g,bZ,a5,aC⟩,aY⟩:=bR;have aD:=A_ (show g∉K 12 from λu=>by have:=an 12 13 dE dE dE g u;rw[a5]at this;simp at this);have bB:wx.1.size<=g:=(aY g (by rw[a5];simp)).1;rw[bu]at al;have ah:=A_ al;have aN:=A_ aV;have aO:=A_ aC;have aL:=A_ h;have bl:=A_ (λb u=>(aX b u).1);obtain⟨bv,gf,bK⟩:=bx aC;generalize K 12=ci at *;clear D an al aV aX aY aC h Z S ks T;go_upto_region 6 with fail;refine Code.set2 aO λbV ad=>?_;have Y:=A_ (ad.low aL aL.size bB);have ay:=A_ (ah.keepG ad.gr aD);have bk:=A_ (Free.keepG aN ad.gr aD);obtain⟨bz,-,bL⟩:=bx ad.k;obtain⟨Z,-,S⟩:=bx (A0z bn Y);obtain⟨ks,-,T⟩:=bx (A0z aT Y);clear bv gf bK ad ah aN aO aD;refine X_ sI ?_;dsimp only[List.dropLast,List.getLast,List.length];iterate 5 refine C_ _ ?_
  refine D_ (MP.sl (dig (T_ r*T_ s).toNat)) ?_ ?_;·intro W K J h D;obtain⟨am,ao⟩:=F_ h;simp at D;refine G_ ?_;exact A1c (B5n bc bd n2 bP bp bq r.2 s.2 _ _ J (Sl.below aw.o (Below.next H.o (Below.next Y.o h))) (Sl.below ax.o (Below.next H.o (Below.next Y.o h))) E.o.2.1 G.o.2.1 (by rw[<-aw.o.1];exact Nat.le_trans E.o.den24 dE) (by rw[<-ax.o.1];exact Nat.le_trans G.den24 dE))
  refine A3q (λba=>MP.red (A0f (R_ r*T_ s+R_ s*T_ r)) (dig (T_ r*T_ s).toNat) (.agg #[.bool (A0f (R_ r*T_ s+R_ s*T_ r)).neg,.slice ab m1 ae,ba 5]) (mkR (R_ r*T_ s+R_ s*T_ r) (T_ r*T_ s))) (by intro y ba O;simp[N_,M_]at O;simp[O]) ?_ ?_;·intro W K J h D;obtain⟨am,ao⟩:=F_ h;simp at D;refine G_ ?_;exact D0d (u4:=.agg #[.bool (A0f (R_ r*T_ s+R_ s*T_ r)).neg,.slice ab m1 ae]) (ay.below h) D.2.1 bf (Int.mul_pos E.den0 G.den0) bo
  intro W K wb h D (an:Hid _);simp at D;have aq:=D.2.2.2.2.2.1;have aH:=D.2.2.2.2.2.2;obtain⟨ar,bN,bs,au,bO,bt,z,bY,bi,bj,a4⟩:=D8x (u4:=.agg #[.bool (A0f (R_ r*T_ s+R_ s*T_ r)).neg,.slice ab m1 ae]) ⟨ay.below h,bk.below h⟩ aq.1 aH.1 (λb u bA=>by have:=(aq.2 b bA).1;have:=ay.lt b u;omega)
  have bm:=A_ (show ∀ b∈z,wx.1.size<=b from λb u=>by
   have:=Y.size;rcases a4 b u with O|O|O
   ·exact bl b O
   ·have:=(aq.2 b O).1;omega
   have:=(aH.2 b O).1;omega)
  have aM:=A_ (Below.next Y h);obtain⟨ko,b0,b5⟩:=bx (A0z aj aM);have:=E_ aj;clear D an aq aH a4 h Z ks S T bz bL;go_wp2;refine bodyPost_ret (v:=.agg #[.bool (mkR (R_ r*T_ s+R_ s*T_ r) (T_ r*T_ s)).1.1,.slice ar bN bs,.slice au bO bt]) (by simp[results,results29,go_sem, *]) rfl ?_;exact B8v bi bj (λb u=>by have:=bm b u;omega) (Below.next H.o aM.o) oM (A5y (A5y (A5y (B3a _ _))))
 rw[Bool.and_eq_true]at aE;obtain⟨aI,aJ⟩:=aE;have S:=E.lim aI;have T:=G.lim aJ;have ar:=A_ (A3c _ r _ wx (aQ.below H) aI E.mag.1 (A4h E.1));have au:=A_ (λaa (I:Bw wx aa)=>A3c _ s _ aa (aR.below (Below.next H I)) aJ G.mag.1 (A4h G.1));clear aI aJ;generalize R_ r=a at *;generalize T_ r=b at *;generalize R_ s=c at *;generalize T_ s=d at *;obtain⟨⟨bF,a6⟩,bD,bE⟩:=S;obtain⟨⟨bI,a7⟩,bG,bH⟩:=T;obtain⟨b8,p1⟩:=B1p (a:=a) (b:=d) ⟨bD,bE⟩ ⟨oM,a7⟩;obtain⟨ca,cb⟩:=B1p (a:=c) (b:=b) ⟨bG,bH⟩ ⟨oM,a6⟩;obtain⟨_,b9⟩:=B1p (a:=b) (b:=d) ⟨oM,a6⟩ ⟨oM,a7⟩;have p2:=Int.mul_pos bF bI;go_wp2_with fail;refine ar.mono ?_;rintro _ aa ⟨rfl,I⟩;have X:=A_ I;obtain⟨bJ,-,bM⟩:=bx (A0z aT I);clear I ks T Z S;go_wp2_with fail;refine(au aa X).mono ?_;rintro _ w3 ⟨rfl,ag⟩;have ai:=A_ (Below.next X ag);clear ag bJ bM;go_wp2_with fail;refine(C2n (a*d+c*b) (b*d) w3 p2 oM oM oM).mono ?_;rintro _ ch ⟨v,bW,rfl,af,aW,u⟩;obtain⟨ab,m1,ae,bS,be,m2,br,cg,rfl,-,-,-⟩:=TRat.agg af;have ah:=A_ af;have aP:=A_ aW;have aK:=A_ (Below.next ai u);obtain⟨b4,b3,b6⟩:=bx (A0z aj aK);clear af aW u;go_wp2;refine bodyPost_ret (v:=.agg #[.bool (mkR (a*d+c*b) (b*d)).1.1,.slice ab m1 ae,.slice be m2 br]) (by simp[results,results29,go_sem, *]) rfl ?_;have:=E_ aj;have:=ai.size;exact B8v ah aP.free (λb u=>by have:=(aP.2 b u).1;omega) (Below.next H.o aK.o) oM (A5y (A5y (A5y (B3a _ _))))

theorem _root_.Go.XN.RatV.neg {x:TRat} (h:RatV x):RatV ⟨A0f (-R_ x),x.2⟩:=by
 have e:A0f (-R_ x)=⟨!x.num.neg&&!x.num.mag.isEmpty,x.1.2⟩:=by unfold R_;exact B9l h.1
 have D:=bigOkB_iff.1 h.1;refine⟨?_,h.2,h.den0,?_,h.den24,?_⟩;·show A2j (A0f (-R_ x))=true;rw[e,bigOkB_iff];refine⟨D.1,λb=>?_⟩;simp at b;simp only;intro u;rw[u]at b;simp at b
 ·show(A0f (-R_ x)).mag.length<=24;rw[e];exact h.num24
 show Int.gcd (val (A0f (-R_ x)).mag) (val x.2)=1;rw[e];exact h.one
theorem D4a (x:TRat):R_ ⟨A0f (-R_ x),x.2⟩ = -R_ x/\T_ ⟨A0f (-R_ x),x.2⟩=T_ x:=⟨by show A0q (A0f (-R_ x))=_;rw[A5m],rfl⟩
theorem A0x (v1 v2:Value) (r s:TRat) (b1 b2:List Nat) (w:World) (h:Agg w v1 r b1) (J:Agg w v2 s b2) :
  Calls prog 98 #[v1,v2] w (A0c w (A0k r s)):=by
 have S:=A_ h;have T:=A_ J;obtain⟨ak,n1,ap,aA,al,n2,aq,aB,rfl,rfl,-,-⟩:=TRat.agg h;obtain⟨am,ay,c3,aC,an,az,ar,aD,rfl,rfl,ah,ai⟩:=TRat.agg J;clear ah ai h J;go_enter func98,ntmps98;go_wp2_with fail;refine Calls.new4 λw0 N=>?_;refine(A1r (some ⟨w.1.size+1+1+1,0,none⟩) 2 2 [r,s] _ w0 (sl2 N.n (S.below N.b) (T.below N.b))).mono ?_;rintro _ aj ⟨rfl,D⟩;have u:=A_ (Below.next N.b D);obtain⟨au,-,aw⟩:=bx (A0z N.k D);obtain⟨ks,-,ax⟩:=bx (A0z N.l D);have H:=A_ (A0z N.m D);clear D N;obtain⟨ko,W,Y⟩:=bx H;rw[show [r,s].all J_=(J_ r&&J_ s) by simp];cases b:J_ r&&J_ s;·have G:=A_ (by unfold A0k;rw[b];rfl:A0k r s=A0h);clear b;go_wp2;refine bodyPost_ret (v:=.agg #[.bool false,.slice none 0 0,.slice none 0 0]) (by simp[results,results98,go_sem, *]) rfl ?_;rw[G.o];exact A3e (u.grown (A5y (A5y (A5y (B3a _ _)))) u.size (λx h=>by injection h with h;omega))
 have G:=A_ (by unfold A0k;rw[b];rfl:A0k r s=mkR (R_ r*T_ s+R_ s*T_ r) (T_ r*T_ s));rw[Bool.and_eq_true]at b;have ac:=A_ (ratOkB_iff.1 b.1);have ad:=A_ (ratOkB_iff.1 b.2);clear b;go_wp2_with fail;refine(D0m _ _ r s _ _ aj (S.below u) (T.below u) ac ad).mono ?_;rintro _ aG ⟨v,ao,rfl,I,X,E⟩;obtain⟨Z,m1,af,aE,aa,m2,ag,aF,rfl,-,-,-⟩:=TRat.agg I;have ab:=A_ I;have O:=A_ X;have K:=A_ E;clear I X E ko W Y;obtain⟨ko,W,Y⟩:=bx (A0z H K);go_wp2;refine bodyPost_ret (v:=.agg #[.bool (mkR (R_ r*T_ s+R_ s*T_ r) (T_ r*T_ s)).1.1,.slice Z m1 af,.slice aa m2 ag]) (by simp[results,results98,go_sem, *]) rfl ?_;rw[G.o];have:=E_ H;exact B8v ab O.free (λae E=>by have:=(O.2 ae E).1;omega) (Below.next u.o K.o) oM (A5y (A5y (A5y (B3a _ _))))
theorem A5b (v1 v2:Value) (r s:TRat) (b1 b2:List Nat) (w:World) (E:Agg w v1 r b1) (K:Agg w v2 s b2) :
  Calls prog 7 #[v1,v2] w (A0c w (A3t r s)):=by
 have T:=A_ E;have W:=A_ K;obtain⟨aA,n1,aE,aM,aB,n2,aF,aN,rfl,rfl,-,-⟩:=TRat.agg E;obtain⟨aC,aK,c3,aO,aD,aL,aG,aP,rfl,rfl,au,aw⟩:=TRat.agg K;clear au aw E K;go_enter func7,ntmps7;go_wp2_with fail;refine Calls.new4 λw0 N=>?_;refine(A1r (some ⟨w.1.size+1+1+1,0,none⟩) 2 2 [r,s] _ w0 (sl2 N.n (T.below N.b) (W.below N.b))).mono ?_;rintro _ aS ⟨rfl,H⟩;have G:=A_ (Below.next N.b H);obtain⟨aH,-,aI⟩:=bx (A0z N.k H);obtain⟨ks,-,aJ⟩:=bx (A0z N.l H);have J:=A_ (A0z N.m H);clear H N;obtain⟨ko,Y,ab⟩:=bx J;rw[show [r,s].all J_=(J_ r&&J_ s) by simp];cases u:J_ r&&J_ s;·have I:=A_ (by unfold A3t;rw[u];rfl:A3t r s=A0h);clear u;go_wp2;refine bodyPost_ret (v:=.agg #[.bool false,.slice none 0 0,.slice none 0 0]) (by simp[results,results7,go_sem, *]) rfl ?_;rw[I.o];exact A3e (G.grown (A5y (A5y (A5y (B3a _ _)))) G.size (λx E=>by injection E with E;omega))
 have I:=A_ (by unfold A3t;rw[u];rfl:A3t r s=mkR (R_ r*T_ s - R_ s*T_ r) (T_ r*T_ s));rw[Bool.and_eq_true]at u;have aj:=A_ (ratOkB_iff.1 u.1);have X:=A_ (ratOkB_iff.1 u.2);clear u;go_wp2_with fail;refine X_ sI ?_;dsimp only[List.dropLast,List.getLast,List.length];iterate 2 refine C_ _ ?_
 refine D_ (MP.aggS (⟨A0f (-R_ s),s.2⟩:TRat)) ?_ ?_;·intro ac ad O b h;obtain⟨ap,ar⟩:=F_ b;simp at h;refine G_ ?_;exact A7t (B7f _ s _ O (W.below (Below.next G b)) X.1)
 refine D_ (MP.agg (mkR (R_ r*T_ s - R_ s*T_ r) (T_ r*T_ s))) ?_ ?_;·intro ac ad O b h;obtain⟨ap,ar⟩:=F_ b;simp at h;refine G_ ?_;obtain⟨_,_,t,D⟩:=h;have C:=D0m _ _ r ⟨A0f (-R_ s),s.2⟩ _ t O (T.below (Below.next G b)) D aj X.neg;rw[(D4a s).1,(D4a s).2,Int.neg_mul,<-Int.sub_eq_add_neg]at C;exact H_ C
 intro ac ad wa b h (aq:Hid _);simp at h;have az:=h.2.2.2;obtain⟨⟨D,Z⟩,aa⟩:=az;obtain⟨ae,ax,al,aQ,af,ay,am,aR,an,-,-,-⟩:=TRat.agg D;rw[an]at D;have ag:=A_ D;have ah:=A_ Z;have ai:=A_ aa;have S:=A_ b;clear h aq D Z aa b ko Y ab;obtain⟨ko,Y,ab⟩:=bx (A0z J S);go_wp2;refine bodyPost_ret (v:=.agg #[.bool (mkR (R_ r*T_ s - R_ s*T_ r) (T_ r*T_ s)).1.1,.slice ae ax al,.slice af ay am]) (by simp[results,results7,go_sem, *]) rfl ?_;rw[I.o];have:=E_ J;exact B8v ag ah (λak ao=>by have:=(ai ak ao).1;omega) (Below.next G.o S.o) oM (A5y (A5y (A5y (B3a _ _))))
theorem A2p (v:Value) (x:TRat) (b:List Nat) (w:World) (u:Agg w v x b) :
  Calls prog 82 #[v] w (A0b w (.bool (!x.den.isEmpty))):=by
 obtain⟨G,n1,I,K,H,n2,J,O,rfl,rfl,E,h⟩:=TRat.agg u;have D:=A_ (show decide (0<n2)=!x.den.isEmpty by rw[<-h.1];cases x.2<;>simp);clear E h u;go_enter func82,ntmps82;go_wp2;go_ret;exact⟨Q_ D,Below.go⟩
end Go.Proofs.YtbhemnidcleaiaaGreat.X
