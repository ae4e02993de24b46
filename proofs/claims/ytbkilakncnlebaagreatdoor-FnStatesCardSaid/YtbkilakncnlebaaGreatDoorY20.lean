/- A part of the proof. -/
import Derived.Test.YtbkilakncnlebaaGreatDoorY9
import Derived.RegionTactic
set_option linter.constructorNameAsVariable false
set_option maxHeartbeats 16000000
set_option maxRecDepth 10000
open Go.XB.Agg renaming below→DT
namespace Go.XN
open Go.XB
end Go.XN
namespace Go.XB
open Go.RowKit Go.XN
end Go.XB
namespace Go.Proofs.YtbkilakncnlebaaGreatDoor.X
open Go.RowKit Go.XB Go.XN
attribute [local go_sem] L_ opAt N_ M_ Region.wanted yielded
attribute [local simp] N_ M_ MP.eq MP.agg MP.sl A0r

end Go.Proofs.YtbkilakncnlebaaGreatDoor.X

namespace Go.XN
open Go.XB
def B3f (p:TRat):Bool:=J_ p&&(decide (0<=A2v p)&&decide (A6u p (U_ 1)<=0))
theorem E5m {n:Nat} (h:0<n) (b:n<1000000000):dig n=[(n:Int)]:=by
 cases n with
 |zero=>omega
 |succ n =>
  show C5x (n+1) (n+1)=_
  unfold C5x
  rw[if_neg oS,Nat.mod_eq_of_lt b,Nat.div_eq_of_lt b]
  cases n<;>simp[C5x]
theorem D0c (n:Nat) (b:0<n) (h:n<1000000000):RatV (U_ n):=by
 have e:A0f (n:Int)=⟨false,[(n:Int)]⟩:=by unfold A0f;rw[Int.natAbs_natCast,E5m b h];simp
 unfold U_;rw[e];refine⟨?_,?_,(by decide:0<val [1]),sI,sI,?_⟩;·rw[bigOkB_iff];exact⟨⟨sI,Lims.one oS oS,oR⟩,sI⟩
 ·exact(⟨Lims.one dE dE,dE⟩:Can [1])
 show Int.gcd (val [(n:Int)]) (val [1])=1;simp[val]
end Go.XN
namespace Go.Proofs.YtbkilakncnlebaaGreatDoor.X
open Go.RowKit Go.XB Go.XN Proofs.Tryz
attribute [local go_sem] L_ opAt N_ M_ Region.wanted yielded
attribute [local simp] N_ M_ MP.eq MP.agg MP.sl A0r
theorem B5g (v:Value) (p:TRat) (b:List Nat) (w:World) (aa:Agg w v p b):Calls prog 15 #[v] w (A0b w (.bool (B3f p))):=by
 have X:=A_ aa;obtain⟨af,n1,ah,aj,ag,n2,ai,ak,rfl,rfl,ad,ae⟩:=TRat.agg aa;clear ad ae aa;cases O:J_ p
 ·have Y:=A_ (by unfold B3f;rw[O];rfl:false=B3f p)
  have R:=A_ O;clear O;go_enter func15,ntmps15;go_wp2_with fail;refine A0g ?_;refine C_ _ ?_;refine D_ (MP.eq (.bool false)) ?_ ?_;·intro G H E D u;obtain⟨T,W⟩:=F_ D;simp at u;refine G_ ?_;exact A0i (by have C:=A7s _ p _ E (DT X Below.go);rwa [R.o]at C)
  refine C_ _ ?_;iterate 3 apply A4m;case h =>intro G H E D u;simp at u;go_simp;first|done|(simp[undef];done)
  iterate 2 refine C_ _ ?_
  iterate 4 apply A4m;case h =>intro G H E D u;simp at u;go_simp;first|done|(simp[undef];done)
  iterate 2 refine C_ _ ?_
  intro G H ab D u Z;clear Z;simp at u;go_simp;clear u;go_wp2;go_ret;exact⟨Q_ Y,Below.go⟩
 have V:=A_ (ratOkB_iff.1 O);have R:=A_ O;rcases Int.lt_or_le (A2v p) 0 with h|h
 ·have Y:=A_ (by unfold B3f;rw[O,decide_eq_false (by omega:¬ 0<=A2v p)];rfl:false=B3f p)
  clear O;go_enter func15,ntmps15;go_wp2_with fail;refine A0g ?_;refine C_ _ ?_;refine D_ (MP.eq (.bool true)) ?_ ?_;·intro G H E D u;obtain⟨T,W⟩:=F_ D;simp at u;refine G_ ?_;exact A0i (by have C:=A7s _ p _ E (DT X Below.go);rwa [R.o]at C)
  refine C_ _ ?_;refine C_ _ ?_;refine D_ (MP.eq (.int .i64 (A2v p))) ?_ ?_;·intro G H E D u;obtain⟨T,W⟩:=F_ D;simp at u;refine G_ ?_;exact A0i (A7y _ p _ E (DT X Below.go) V.mag (A4h V.1))
  refine A2b (.bool false) ?_ ?_;·intro G H E D u;obtain⟨T,W⟩:=F_ D;simp at u;refine⟨gD,?_⟩;go_simp;all_goals (try simp[*])
  iterate 2 refine C_ _ ?_
  iterate 4 apply A4m;case h =>intro G H E D u;simp at u;go_simp;first|done|(simp[undef];done)
  iterate 2 refine C_ _ ?_
  intro G H ab D u Z;clear Z;simp at u;go_simp;clear u;go_wp2;go_ret;exact⟨Q_ Y,Below.go⟩
 have Y:=A_ (by unfold B3f;rw[O,decide_eq_true h];simp:decide (A6u p (U_ 1)<=0)=B3f p);have ac:=A_ (D0c 1 dE dE);clear O;go_enter func15,ntmps15;go_wp2_with fail;refine A0g ?_;refine C_ _ ?_;refine D_ (MP.eq (.bool true)) ?_ ?_;·intro G H E D u;obtain⟨T,W⟩:=F_ D;simp at u;refine G_ ?_;exact A0i (by have C:=A7s _ p _ E (DT X Below.go);rwa [R.o]at C)
 refine C_ _ ?_;refine C_ _ ?_;refine D_ (MP.eq (.int .i64 (A2v p))) ?_ ?_;·intro G H E D u;obtain⟨T,W⟩:=F_ D;simp at u;refine G_ ?_;exact A0i (A7y _ p _ E (DT X Below.go) V.mag (A4h V.1))
 refine A2b (.bool true) ?_ ?_;·intro G H E D u;obtain⟨T,W⟩:=F_ D;simp at u;refine⟨gD,?_⟩;go_simp;all_goals (try simp[*])
 iterate 3 refine C_ _ ?_
 refine D_ (MP.agg (U_ 1)) ?_ ?_;·intro G H E D u;obtain⟨T,W⟩:=F_ D;simp at u;refine G_ ?_;exact H_ (A0l 1 E oO)
 refine D_ (MP.eq (.int .i64 (A6u p (U_ 1)))) ?_ ?_;·intro G H E D u;obtain⟨T,W⟩:=F_ D;simp at u;refine G_ ?_;obtain⟨_,⟨t,_⟩,_⟩:=u;exact A0i (B0t _ _ p (U_ 1) _ _ E (DT X Below.go) t V ac)
 iterate 3 refine C_ _ ?_
 intro G H ab D u Z;clear Z;simp at u;go_simp;clear u;go_wp2;go_ret;exact⟨Q_ Y,Below.go⟩
end Go.Proofs.YtbkilakncnlebaaGreatDoor.X
