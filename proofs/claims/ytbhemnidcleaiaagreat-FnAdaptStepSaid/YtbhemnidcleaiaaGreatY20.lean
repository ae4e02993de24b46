/- A part of the proof. -/
import Derived.Test.YtbhemnidcleaiaaGreatY10
import Derived.RegionTactic
set_option linter.constructorNameAsVariable false
set_option maxHeartbeats 16000000
set_option maxRecDepth 10000
namespace Go.XN
open Go.XB
end Go.XN
namespace Go.XB
open Go.RowKit Go.XN
end Go.XB
namespace Go.Proofs.YtbhemnidcleaiaaGreat.X
open Go.RowKit Go.XB Go.XN
attribute [local go_sem] L_ opAt N_ M_ Region.wanted yielded
attribute [local simp] N_ M_ MP.eq MP.agg MP.sl A0r
theorem _root_.Go.XB.TRat.elemB {w w':World} {A:Option Addr} {n c:Nat} {xs:List TRat} {G:List Nat} (h:Sl w A n c xs G) (u:Bw w w') {k:Nat} (K:k<n) :
  ∃ (b off:Nat) (x:TRat) (A1:Option Addr) (n1 c1:Nat) (A2:Option Addr) (n2 c2:Nat) (fs:List Nat),A=some ⟨b,off,none⟩/\b<w.1.size/\xs[k]?=some x/\w'.cell? ⟨b,off+k*3,none⟩=some (.bool x.1.1)/\w'.cell? ⟨b,off+k*3+1,none⟩=some (.slice A1 n1 c1)/\w'.cell? ⟨b,off+k*3+2,none⟩=some (.slice A2 n2 c2)/\Agg w' (.agg #[.bool x.1.1,.slice A1 n1 c1,.slice A2 n2 c2]) x fs/\∀ g∈fs,g<w.1.size:=by
 obtain⟨b,off,x,A1,n1,c1,S,A2,n2,c2,T,rfl,D,O,H,I,J,E⟩:=TRat.elemA h K;exact⟨b,off,x,A1,n1,c1,A2,n2,c2,S++T,rfl,D,O,(u.cell (p:=⟨b,_,none⟩) D).trans H,(u.cell (p:=⟨b,_,none⟩) D).trans I,(u.cell (p:=⟨b,_,none⟩) D).trans J,E.below u,E.lt⟩
end Go.Proofs.YtbhemnidcleaiaaGreat.X

namespace Go.XN
open Go.XB
def B3f (p:TRat):Bool:=J_ p&&(decide (0<=A2v p)&&decide (A6u p (U_ 1)<=0))
def A5d (xs:List TRat) (p:TRat):Bool:=xs.all J_&&(B3f p&&!xs.any (λr=>decide (A2v r<0)))
theorem E5m {n:Nat} (h:0<n) (b:n<1000000000):dig n=[(n:Int)]:=by
 cases n with
 |zero=>omega
 |succ n =>
  show C5x (n+1) (n+1)=_
  unfold C5x
  rw[if_neg oM,Nat.mod_eq_of_lt b,Nat.div_eq_of_lt b]
  cases n<;>simp[C5x]
theorem D0c (n:Nat) (b:0<n) (h:n<1000000000):RatV (U_ n):=by
 have e:A0f (n:Int)=⟨false,[(n:Int)]⟩:=by unfold A0f;rw[Int.natAbs_natCast,E5m b h];simp
 unfold U_;rw[e];refine⟨?_,?_,(by decide:0<val [1]),sI,sI,?_⟩;·rw[bigOkB_iff];exact⟨⟨sI,Lims.one oM oM,sO⟩,sI⟩
 ·exact(⟨Lims.one dE dE,dE⟩:Can [1])
 show Int.gcd (val [(n:Int)]) (val [1])=1;simp[val]
end Go.XN
namespace Go.Proofs.YtbhemnidcleaiaaGreat.X
open Go.RowKit Go.XB Go.XN Proofs.Tryz
attribute [local go_sem] L_ opAt N_ M_ Region.wanted yielded
attribute [local simp] N_ M_ MP.eq MP.agg MP.sl A0r
theorem B5g (v:Value) (p:TRat) (b:List Nat) (w:World) (W:Agg w v p b):Calls prog 49 #[v] w (A0b w (.bool (B3f p))):=by
 have O:=A_ W;obtain⟨ab,n1,ad,ag,ac,n2,ae,ah,rfl,rfl,Z,aa⟩:=TRat.agg W;clear Z aa W;cases I:J_ p
 ·have S:=A_ (by unfold B3f;rw[I];rfl:false=B3f p)
  have R:=A_ I;clear I;go_enter func49,ntmps49;go_wp2_with fail;refine A0g ?_;refine C_ _ ?_;refine D_ (MP.eq (.bool false)) ?_ ?_;·intro G H E D u;obtain⟨J,K⟩:=F_ D;simp at u;refine G_ ?_;exact A0i (by have C:=A7s _ p _ E (Agg.below O Below.go);rwa [R.o]at C)
  refine C_ _ ?_;iterate 3 apply A4m;case h =>intro G H E D u;simp at u;go_simp;first|done|(simp[undef];done)
  iterate 2 refine C_ _ ?_
  iterate 4 apply A4m;case h =>intro G H E D u;simp at u;go_simp;first|done|(simp[undef];done)
  iterate 2 refine C_ _ ?_
  intro G H X D u (T:Hid _);simp at u;go_simp;clear u T;go_wp2;go_ret;exact⟨Q_ S,Below.go⟩
 have V:=A_ (ratOkB_iff.1 I);have R:=A_ I;rcases Int.lt_or_le (A2v p) 0 with h|h
 ·have S:=A_ (by unfold B3f;rw[I,decide_eq_false (by omega:¬ 0<=A2v p)];rfl:false=B3f p)
  have af:¬ (0<=A2v p):=oM;clear I;go_enter func49,ntmps49;go_wp2_with fail;refine A0g ?_;refine C_ _ ?_;refine D_ (MP.eq (.bool true)) ?_ ?_;·intro G H E D u;obtain⟨J,K⟩:=F_ D;simp at u;refine G_ ?_;exact A0i (by have C:=A7s _ p _ E (Agg.below O Below.go);rwa [R.o]at C)
  refine C_ _ ?_;refine C_ _ ?_;refine D_ (MP.eq (.int .i64 (A2v p))) ?_ ?_;·intro G H E D u;obtain⟨J,K⟩:=F_ D;simp at u;refine G_ ?_;exact A0i (A7y _ p _ E (Agg.below O Below.go) V.mag (A4h V.1))
  refine A2b (.bool false) ?_ ?_;·intro G H E D u;obtain⟨J,K⟩:=F_ D;simp at u;refine⟨gD,?_⟩;go_simp;all_goals (try simp[*])
  iterate 2 refine C_ _ ?_
  iterate 4 apply A4m;case h =>intro G H E D u;simp at u;go_simp;first|done|(simp[undef];done)
  iterate 2 refine C_ _ ?_
  intro G H X D u (T:Hid _);simp at u;go_simp;clear u T;go_wp2;go_ret;exact⟨Q_ S,Below.go⟩
 have S:=A_ (by unfold B3f;rw[I,decide_eq_true h];simp:decide (A6u p (U_ 1)<=0)=B3f p);have Y:=A_ (D0c 1 dE dE);clear I;go_enter func49,ntmps49;go_wp2_with fail;refine A0g ?_;refine C_ _ ?_;refine D_ (MP.eq (.bool true)) ?_ ?_;·intro G H E D u;obtain⟨J,K⟩:=F_ D;simp at u;refine G_ ?_;exact A0i (by have C:=A7s _ p _ E (Agg.below O Below.go);rwa [R.o]at C)
 refine C_ _ ?_;refine C_ _ ?_;refine D_ (MP.eq (.int .i64 (A2v p))) ?_ ?_;·intro G H E D u;obtain⟨J,K⟩:=F_ D;simp at u;refine G_ ?_;exact A0i (A7y _ p _ E (Agg.below O Below.go) V.mag (A4h V.1))
 refine A2b (.bool true) ?_ ?_;·intro G H E D u;obtain⟨J,K⟩:=F_ D;simp at u;refine⟨gD,?_⟩;go_simp;all_goals (try simp[*])
 iterate 3 refine C_ _ ?_
 refine D_ (MP.agg (U_ 1)) ?_ ?_;·intro G H E D u;obtain⟨J,K⟩:=F_ D;simp at u;refine G_ ?_;exact H_ (A0l 1 E cD)
 refine D_ (MP.eq (.int .i64 (A6u p (U_ 1)))) ?_ ?_;·intro G H E D u;obtain⟨J,K⟩:=F_ D;simp at u;refine G_ ?_;obtain⟨_,⟨t,_⟩,_⟩:=u;exact A0i (B0t _ _ p (U_ 1) _ _ E (Agg.below O Below.go) t V Y)
 iterate 3 refine C_ _ ?_
 intro G H X D u (T:Hid _);simp at u;go_simp;clear u T;go_wp2;go_ret;exact⟨Q_ S,Below.go⟩

theorem B8w:A4f 165:=λa w=>kR
theorem C0m (v:Value) (x:TRat) (b:List Nat) (w:World) (h:Agg w v x b) (u:RatV x):Calls prog 165 #[v] w (A0b w (.bool (decide (A2v x<0)))):=by
 have D:=A_ h;have V:=A_ u;obtain⟨H,n1,J,S,I,n2,K,T,rfl,rfl,E,G⟩:=TRat.agg h;clear E G h u;go_enter func165,ntmps165;go_wp2_with fail;refine(A7y _ x _ _ (Agg.below D Below.go) V.mag (A4h V.1)).mono ?_;rintro _ W ⟨rfl,O⟩;go_wp2;go_ret;exact⟨rfl,Below.go⟩

theorem C7l (A:Option Addr) (n c:Nat) (xs:List TRat) (Y:List Nat) (v:Value) (p:TRat) (b:List Nat) (w:World) (ab:Sl w A n c xs Y) (W:Agg w v p b) :
  Calls prog 110 #[.slice A n c,v] w (A0b w (.bool (A5d xs p))):=by
 have I:=A_ ab;have X:=A_ W;obtain⟨J,n1,O,ak,K,n2,S,al,rfl,rfl,af,ag⟩:=TRat.agg W;clear af ag W ab;cases h:xs.all J_;·have G:=A_ (by unfold A5d;rw[h];rfl:false=A5d xs p);have H:=A_ h;clear h;go_enter func110,ntmps110;go_wp2_with fail;have C:=A1r A n c xs _ (w.alloc (.cells #[.bool p.1.1,.slice J n1 O,.slice K n2 S] 35)) (Sl.below I Below.go);rw[H.o]at C;refine C.mono ?_;clear C;rintro _ D ⟨rfl,u⟩;obtain⟨Z,aa⟩:=F_ u;have ac:w.1.size<D.1.size:=ltg u;go_wp2;go_ret;exact⟨Q_ G,Below.go⟩
 cases E:B3f p;·have G:=A_ (by unfold A5d;rw[h,E];rfl:false=A5d xs p);have H:=A_ h;have P:=A_ E;clear h E;go_enter func110,ntmps110;go_wp2_with fail;have C:=A1r A n c xs _ (w.alloc (.cells #[.bool p.1.1,.slice J n1 O,.slice K n2 S] 35)) (Sl.below I Below.go);rw[H.o]at C;refine C.mono ?_;clear C;rintro _ D ⟨rfl,u⟩;obtain⟨Z,aa⟩:=F_ u;have ac:w.1.size<D.1.size:=ltg u;go_wp2_with fail;have C:=B5g _ p _ D (Agg.below X Below.go);rw[P.o]at C;refine C.mono ?_;clear C;rintro _ ah ⟨rfl,ae⟩;go_wp2;go_ret;exact⟨Q_ G,Below.go⟩
 have G:=A_ (by unfold A5d;rw[h,E];rfl:(!xs.any (λr=>decide (A2v r<0)))=A5d xs p);have H:=A_ h;have P:=A_ E;have V:=A_ (λx (T:x∈xs)=>ratOkB_iff.1 (List.all_eq_true.1 h x T));clear h E;go_enter func110,ntmps110;go_wp2_with fail;have C:=A1r A n c xs _ (w.alloc (.cells #[.bool p.1.1,.slice J n1 O,.slice K n2 S] 35)) (Sl.below I Below.go);rw[H.o]at C;refine C.mono ?_;clear C;rintro _ D ⟨rfl,u⟩;obtain⟨Z,aa⟩:=F_ u;have ac:w.1.size<D.1.size:=ltg u;go_wp2_with fail;have C:=B5g _ p _ D (Agg.below X Below.go);rw[P.o]at C;refine C.mono ?_;clear C;rintro _ ah ⟨rfl,ae⟩;go_wp2_with fail;refine(A7e 165 B8w A n c xs Y _ (λr=>decide (A2v r<0)) (Sl.below I Below.go) (λv x b w T ad=>C0m v x b w ad (V x T))).mono ?_;rintro _ w3 ⟨rfl,aj⟩;generalize xs.any (λr=>decide (A2v r<0))=ai at *;go_wp2;go_ret;exact⟨Q_ G,Below.go⟩
end Go.Proofs.YtbhemnidcleaiaaGreat.X
