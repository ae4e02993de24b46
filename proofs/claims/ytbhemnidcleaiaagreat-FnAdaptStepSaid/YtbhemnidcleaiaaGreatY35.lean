/- A part of the proof. -/
import Derived.Test.YtbhemnidcleaiaaGreatY29
import Derived.Test.YtbhemnidcleaiaaGreatY34
set_option linter.constructorNameAsVariable false
set_option maxHeartbeats 16000000
set_option maxRecDepth 10000
namespace Go.Proofs.YtbhemnidcleaiaaGreat.X
open Go.RowKit Go.XB Go.XN Proofs.Tryz
structure SdD (p:TProblem) (xs ys:List Int) (os:Option TRat):Prop where
 sol:SolD p xs ys os
 flux:FluxD p (A8r p os)
 eq:EqD p (A4i p (A8r p os))
 ind:IndD p (A8r p os) (A4i p (A8r p os))
 t1:1<=p.1.triangles.length
def A2z (p:TProblem) (os:Option TRat):TSolved:=⟨A8r p os,C3k p (A8r p os) (A4i p (A8r p os)),A8v (C3k p (A8r p os) (A4i p (A8r p os)))⟩
theorem D3z (p:TProblem) (us fs:List TRat):(C3k p us fs).length=p.1.triangles.length:=B6p p us fs _
theorem E7b {α:Type} [Dat α] {w:World} {A:Option Addr} {n c:Nat} {xs:List α} {b:List Nat} (h:Sl w A n c xs b) (E:0<n):∃ a,A=some a:=by
 obtain⟨_,_,_,_,u⟩:=h;obtain⟨G,H,_,D,_⟩:=u E;exact⟨_,D⟩
attribute [local go_sem] L_ Go.XB.opAt N_ M_ Region.wanted yielded
attribute [local simp] N_ M_ MP.eq MP.agg MP.sl MP.box A0r
theorem D5t (v:Value) (p:TProblem) (b:List Nat) (xs ys:List Int) (h:Option TRat) (w:World) (ak:Agg w v p b) (aJ:SdD p xs ys h) :
  Calls prog 50 #[v] w (λe w'=>∃ A0 n0 c0 I m cI A3 n3 c3 A4 n4 c4 bs,e=.returned (.tuple #[.agg #[.slice A0 n0 c0,.slice (some I) m cI,.bool (A2z p h).bound.1.1,.slice A3 n3 c3,.slice A4 n4 c4],.bool true])/\Sl w' (some I) m cI (A2z p h).indicators bs/\Bw w w'):=by
 have T:=A_ ak;have E:=A_ aJ;obtain⟨A0,n0,c0,bd,Z,n1,ae,be,aa,n2,af,bf,A3,n3,c3,bg,rfl,rfl,a4,a5,a6,a7⟩:=TProblem.agg ak;clear a4 a5 a6 a7 ak aJ;go_enter func50,ntmps50;go_upto_region 1 with fail;obtain⟨G,K⟩:∃ G,G=(w.alloc (.cells #[.slice A0 n0 c0,.slice Z n1 ae,.slice aa n2 af,.slice A3 n3 c3] 29)).alloc (.cells #[.slice none 0 0,.slice none 0 0,.bool false,.slice none 0 0,.slice none 0 0] 84):=⟨_,rfl⟩
 have ax:=A_ (by rw[K];exact(Below.box _).alloc sI _:Bw w G);have aB:=A_ (by rw[K];exact K_ (heap_alloc_new w _) (Below.box _):G.1[w.1.size]?=some (.cells #[.slice A0 n0 c0,.slice Z n1 ae,.slice aa n2 af,.slice A3 n3 c3] 29));have aV:=A_ (show G.1[w.1.size+1]?=some (.cells #[.slice none 0 0,.slice none 0 0,.bool false,.slice none 0 0,.slice none 0 0] 84) by rw[K];have:=heap_alloc_new (w.alloc (.cells #[.slice A0 n0 c0,.slice Z n1 ae,.slice aa n2 af,.slice A3 n3 c3] 29)) (.cells #[.slice none 0 0,.slice none 0 0,.bool false,.slice none 0 0,.slice none 0 0] 84);rwa [World.size_alloc]at this);rw[<-K];clear K;obtain⟨u,-,D⟩:=bx aB;go_wp2_with fail;refine(B9m _ p _ xs ys h G (T.below ax) E.sol).mono ?_;rintro _ a8 ⟨U,S,J,aN,rfl,aI,a2,X⟩;have aA:=A_ aI;have ar:=A_ (Below.next ax X);have aC:=A_ (K_ aB X);have aW:=A_ (K_ aV X);clear aI a2 X u D;obtain⟨u,-,D⟩:=bx aC;go_wp2_with fail;refine(E2h _ p _ xs ys U S J (A8r p h) aN a8 (T.below ar) aA E.sol.pr E.flux).mono ?_;rintro _ a9 ⟨F,aM,aG,aF,rfl,aH,-,O⟩;have ay:=A_ aH;have aS:=A_ (aA.below O);have au:=A_ (Below.next ar O);have aD:=A_ (K_ aC O);have aX:=A_ (K_ aW O);clear aH O u D;obtain⟨u,-,D⟩:=bx aD;go_wp2_with fail;refine(B6v _ p _ F aM aG (A4i p (A8r p h)) aF a9 (T.below au) ay E.eq).mono ?_;rintro _ w3 ⟨rfl,H⟩;have aQ:=A_ (ay.below H);have aT:=A_ (aS.below H);have aw:=A_ (Below.next au H);have aU:=A_ (K_ aD H);have aE:=A_ (K_ aX H);clear H u D;obtain⟨u,-,D⟩:=bx aU;go_wp2_with fail;refine(C3o _ p _ U S J (A8r p h) aN F aM aG (A4i p (A8r p h)) aF w3 (T.below aw) aT aQ E.ind).mono ?_;rintro _ ba ⟨I,m,cI,ad,rfl,W,aK,aj⟩;have a1:=A_ (show ∀ b∈ad,b≠w.1.size+1 from λb ai=>by have:=(aK.2 b ai).1;have:=E_ aE;omega);obtain⟨⟨al,am,an⟩,rfl⟩:=E7b W (by rw[<-W.1,D3z];exact E.t1);have az:=A_ W;have aO:=A_ (Below.next aw aj);have aY:=A_ (K_ aE aj);clear W aK aj u D;have q1:∀ (w:World) (a:Option Addr) (n c ao c':Nat),(binOp .eql 27 (.slice a n c) (.slice none ao c')).run prog w=.ok (.bool a.isNone) w:=λw a n c ao c'=>Lib.run_eql_slice_nil w _ _ a n c ao c' underlying27;go_wp2_with fail;refine(D6a _ m cI _ ad ba az).mono ?_;rintro _ bc ⟨bi,bh,rfl,aL,a3,Y⟩;obtain⟨ab,ap,ag,_,ac,aq,ah,_,rfl,-,_,_⟩:=TRat.agg aL;have aP:=A_ (Below.next aO Y);have aZ:=A_ (K_ aY Y);have aR:=A_ (az.below Y);clear aL a3 Y q1;obtain⟨bj,bk,l1⟩:=bx aZ;go_wp2;refine bodyPost_ret (v:=.tuple #[.agg #[.slice U S J,.slice (some ⟨al,am,an⟩) m cI,.bool (A8v (C3k p (A8r p h) (A4i p (A8r p h)))).1.1,.slice ab ap ag,.slice ac aq ah],.bool true]) (by simp[results,results50,go_sem, *]) rfl ?_;exact⟨U,S,J,⟨al,am,an⟩,m,cI,ab,ap,ag,ac,aq,ah,ad,rfl,aR.keep (λb ai=>A0m (w.1.size+1) [.slice U S J,.slice (some ⟨al,am,an⟩) m cI,.bool (A8v (C3k p (A8r p h) (A4i p (A8r p h)))).1.1,.slice ab ap ag,.slice ac aq ah] bc 0 b (a1 b ai)),(Below.setCell (p:=⟨w.1.size+1,4,none⟩) (Below.setCell (p:=⟨w.1.size+1,3,none⟩) (Below.setCell (p:=⟨w.1.size+1,2,none⟩) (Below.setCell (p:=⟨w.1.size+1,1,none⟩) (Below.setCell (p:=⟨w.1.size+1,0,none⟩) aP (Nat.le_succ _) _) (Nat.le_succ _) _) (Nat.le_succ _) _) (Nat.le_succ _) _) (Nat.le_succ _) _)⟩
end Go.Proofs.YtbhemnidcleaiaaGreat.X
