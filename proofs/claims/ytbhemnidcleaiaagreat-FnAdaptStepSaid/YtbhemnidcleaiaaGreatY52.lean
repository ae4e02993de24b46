/- A part of the proof. -/
import Derived.Test.YtbhemnidcleaiaaGreatY37
import Derived.Test.YtbhemnidcleaiaaGreatY11
set_option linter.constructorNameAsVariable false
set_option maxHeartbeats 16000000
set_option maxRecDepth 10000
namespace Go.Proofs.YtbhemnidcleaiaaGreat.X
open Go.RowKit Go.XB Go.XN Proofs.Tryz
attribute [local go_sem] L_ opAt N_ M_ Region.wanted yielded
attribute [local simp] N_ M_ MP.eq MP.agg MP.sl A0r
theorem C8e (A:Option Addr) (n c:Nat) (xs:List TByte) (E:List Nat) (w:World) (K:Sl w A n c xs E) (Z:n<=1048576) :
  Calls prog 19 #[.slice A n c] w (λe w'=>∃ b:Int,(0<=b/\b<=5)/\A0c w (mkR b 5) e w'):=by
 have W:=A_ K;have ah:=A_ (show w.1.size+1∉E from λI=>by have:=K.lt _ I;omega);clear K;go_enter func19,ntmps19;go_wp2_with fail;refine(C2z A n c xs E (w.alloc (.cells #[.bool false,.slice none 0 0,.slice none 0 0] 35)) (W.below (Below.box _)) Z).mono ?_;rintro _ ab ⟨rfl,X,G,ap⟩;have ag:=A_ X;have S:=A_ G;simp at ap;obtain⟨am,an⟩:=F_ G;have D:w.1.size<ab.1.size:=ltg G;clear X;go_wp2_with fail;have C:=A5q 6 dE dE (w.1.size+1) A n c xs E ab ((W.below (Below.box _)).below S) Z (by have:=ag.o;simpa using this) ah.o;refine C.mono ?_;clear C;rintro _ h ⟨O,rfl,Y,al,u⟩;have aG:=u.size;have aI:w.1.size≠w.1.size+1:=oM;have r0:h.cell? ⟨w.1.size,0,none⟩=some (.bool false):=(World.cell?_of_block (a:=⟨w.1.size,0,none⟩) (u.block _ D sI)).trans gS;have aJ:h.cell? ⟨w.1.size,1,none⟩=some (.slice none 0 0):=(World.cell?_of_block (a:=⟨w.1.size,1,none⟩) (u.block _ D sI)).trans gS;have aK:h.cell? ⟨w.1.size,2,none⟩=some (.slice none 0 0):=(World.cell?_of_block (a:=⟨w.1.size,2,none⟩) (u.block _ D sI)).trans gS;have ay:h.frozen? ⟨w.1.size,0,none⟩=false:=(World.frozen?_of_block (a:=⟨w.1.size,0,none⟩) (u.block _ D sI)).trans gS;have az:h.frozen? ⟨w.1.size,1,none⟩=false:=(World.frozen?_of_block (a:=⟨w.1.size,1,none⟩) (u.block _ D sI)).trans gS;have aA:h.frozen? ⟨w.1.size,2,none⟩=false:=(World.frozen?_of_block (a:=⟨w.1.size,2,none⟩) (u.block _ D sI)).trans gS;have af:=A_ (show Bw w h from(Below.next (Below.box _) S.o).grown u oM (λk ao=>by injection ao with I;subst I;simp));have aD:w.1.size+1<h.1.size:=oM;clear al u am an G;go_wp2_with fail;refine(B3j O 5 Y.1 oM dE dE h).mono ?_;rintro _ w3 ⟨aL,aM,rfl,J,aa,H⟩;obtain⟨ac,ar,ai,aw,ad,au,aj,ax,rfl,aq,_,_⟩:=TRat.agg J;have ae:=A_ J;have T:=A_ aa;obtain⟨aB,aC⟩:=F_ H;have aH:w.1.size<w3.1.size:=by have:=H.size;omega
 have aE:=H.size;clear J aa aq;have aF:w.1.size<h.1.size:=oM;go_wp2;refine bodyPost_ret (v:=.agg #[.bool (mkR O 5).1.1,.slice ac ar ai,.slice ad au aj]) (by simp[results,results19,go_sem, *]) rfl ?_;refine⟨O,⟨Y.1,oM⟩,A1s (lo:=w.1.size+1) ae.o T.o.free (λb ak=>by have:=(T.o.2 b ak).1;omega) oM ?_ ?_⟩;·exact Above.go
 exact(((Below.next af H).setCell (p:=⟨w.1.size,0,none⟩) (Nat.le_refl _) _).setCell (p:=⟨w.1.size,1,none⟩) (Nat.le_refl _) _).setCell (p:=⟨w.1.size,2,none⟩) (Nat.le_refl _) _
end Go.Proofs.YtbhemnidcleaiaaGreat.X
