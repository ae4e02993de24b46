/- A part of the proof. -/
import Derived.Test.YtbhemnidcleaiaaGreatY16
import Derived.Test.YtbhemnidcleaiaaGreatY12
import Derived.Test.YtbhemnidcleaiaaGreatY15
import Derived.Deep.DeepCutAuto
import Derived.Deep.CutBlock
import Derived.Deep.CutRange
set_option linter.constructorNameAsVariable false
set_option maxHeartbeats 16000000
set_option maxRecDepth 10000
namespace Go.Proofs.YtbhemnidcleaiaaGreat.X
open Go.RowKit Go.XB Go.XN
theorem B7r {e x:TEdge} {es:List TEdge} (h:B6r x e=true):A3t e (x::es)=A3t e es+1:=by rw[A3t,h];rfl
theorem B9w {e x:TEdge} {es:List TEdge} (h:B6r x e=false):A3t e (x::es)=0:=by rw[A3t,h];rfl
def ER (w:World) (base g n c:Nat) (es:List TEdge):Prop:=w.ownsRow base 70 4 (.slice (some ⟨g,0,none⟩) n c) n (es.flatMap A1h)∧es.length=n∧∀ e∈es,A3f e
theorem ER.below {w w':World} {base g n c:Nat} {es:List TEdge} (h:ER w base g n c es) (hb:Below w.heap.size w w'):ER w' base g n c es:=⟨J_ h.1 hb,h.2⟩
theorem ER.lt {w:World} {base g n c:Nat} {es:List TEdge} (h:ER w base g n c es):base≤g∧g<w.heap.size:=World.ownsRow.lt h.1 _ rfl
theorem ER.at_ {w:World} {base g n c:Nat} {es:List TEdge} (h:ER w base g n c es) {i:Nat} {x:TEdge} (hx:es[i]?=some x) :
  w.cell? ⟨g,i*4,none⟩=some (.int .i64 x.a)∧w.cell? ⟨g,i*4+1,none⟩=some (.int .i64 x.b)∧w.cell? ⟨g,i*4+2,none⟩=some (.int .i64 x.left)∧w.cell? ⟨g,i*4+3,none⟩=some (.int .i64 x.right):=by
 have hk:=(List.getElem?_eq_some_iff.1 hx).1
 have hn:=h.2.1
 have hd:=(A7c es i (by omega)).2
 rw[B7c hx,List.flatMap_cons] at hd
 have key:∀ (j:Nat) (v:Value),(A1h x)[j]?=some v→w.cell? ⟨g,i*4+j,none⟩=some v:=fun j v hv=>by
  have hl:j<4:=by have:=(List.getElem?_eq_some_iff.1 hv).1;simpa [A1h] using this
  rw[World.ownsRow.cellAt h.1 (i*4+j) (by omega),← List.getElem?_drop,hd,List.getElem?_append_left (by simpa [A1h] using hl)]
  exact hv
 exact ⟨key 0 _ rfl,key 1 _ rfl,key 2 _ rfl,key 3 _ rfl⟩
theorem ER.cap {w:World} {base g n c:Nat} {es:List TEdge} (h:ER w base g n c es):n≤c:=by
 rcases h.1.2 with ⟨h1,_⟩ | ⟨g',cap,cur,h1,_,_,h2,_⟩
 ·cases h1
 cases h1;exact h2
theorem B8i (e:TEdge):∀ es:List TEdge,A3t e es≤es.length
 | []=>Nat.le_refl _
 | x::xs=>by
  rw[A3t]
  have:=B8i e xs
  cases B6r x e<;>simp<;>omega
theorem C9i {es:List TEdge} {a b k:Int} {e x:TEdge} (he:A9a a b k=e) (hx:es[A3t e es]?=some x) (h1:x.a=e.a) (h2:x.b=e.b):A9x es a b k=es.modify (A3t e es) (A4s k (!decide (b<a))):=by
 subst he
 unfold A9x
 rw[hx]
 simp[h1,h2]
theorem C8k {es:List TEdge} {a b k:Int} {e x:TEdge} (he:A9a a b k=e) (hx:es[A3t e es]?=some x) (h:¬ (x.a=e.a∧x.b=e.b)):A9x es a b k=A3p es (A3t e es) e:=by
 subst he
 unfold A9x
 rw[hx]
 cases hb:(decide (x.a=(A9a a b k).a)&&decide (x.b=(A9a a b k).b))
 ·simp only [hb,cond_false]
 simp only [Bool.and_eq_true,decide_eq_true_eq] at hb
 exact absurd hb h
theorem D0f {es:List TEdge} {a b k:Int} {e:TEdge} (he:A9a a b k=e) (hx:es[A3t e es]?=none):A9x es a b k=A3p es (A3t e es) e:=by
 subst he
 unfold A9x
 rw[hx]
theorem D3v {a b k:Int} (ha:I64 a) (hb:I64 b) (hk:I64 k):A3f (A9a a b k):=by
 unfold A9a A3f I64 at *
 split<;>(refine ⟨?_,?_,?_,?_⟩<;>(dsimp only;omega))
theorem B5f (es:List TEdge) (a b k:Int):(A9x es a b k).length≤es.length+1:=by
 have h:=A6l (B8i (A9a a b k) es) (A9a a b k)
 unfold A9x
 split
 ·cases decide (_=(A9a a b k).a)&&decide (_=(A9a a b k).b)
  ·simp only [cond_false];omega
  simp only [cond_true,List.length_modify];omega
 omega
theorem ER.mark {w:World} {base g n c:Nat} {es:List TEdge} (h:ER w base g n c es) {i:Nat} (hi:i<n) {k:Int} (hk:I64 k) (lt:Bool) :
  ER (w.setCell ⟨g,i*4+(if lt then 2 else 3),none⟩ (.int .i64 k)) base g n c (es.modify i (A4s k lt))∧w.grownBy (w.setCell ⟨g,i*4+(if lt then 2 else 3),none⟩ (.int .i64 k)) (some g)∧(∃ u,w.cell? ⟨g,i*4+(if lt then 2 else 3),none⟩=some u)∧w.frozen? ⟨g,i*4+(if lt then 2 else 3),none⟩=false:=by
 have hn:=h.2.1
 obtain ⟨h1,h2,h3,h4⟩:=Go.Proofs.YtbhemnidcleaiaaGreat.X.row_set h.1 (i:=i*4+(if lt then 2 else 3)) (by rw[A3d];cases lt<;>simp<;>omega) (.int .i64 k)
 refine ⟨⟨?_,by simpa using hn,C7m hk h.2.2⟩,h2,h3,h4⟩
 rw[A3q k lt es i (by omega)]
 exact h1
theorem ER.markR {w:World} {base g n c:Nat} {es:List TEdge} (h:ER w base g n c es) {i:Nat} (hi:i<n) {k:Int} (hk:I64 k) :
  ER (w.setCell ⟨g,i*4+3,none⟩ (.int .i64 k)) base g n c (es.modify i (A4s k false))∧w.grownBy (w.setCell ⟨g,i*4+3,none⟩ (.int .i64 k)) (some g)∧(∃ u,w.cell? ⟨g,i*4+3,none⟩=some u)∧w.frozen? ⟨g,i*4+3,none⟩=false:=h.mark hi hk false
theorem ER.markL {w:World} {base g n c:Nat} {es:List TEdge} (h:ER w base g n c es) {i:Nat} (hi:i<n) {k:Int} (hk:I64 k) :
  ER (w.setCell ⟨g,i*4+2,none⟩ (.int .i64 k)) base g n c (es.modify i (A4s k true))∧w.grownBy (w.setCell ⟨g,i*4+2,none⟩ (.int .i64 k)) (some g)∧(∃ u,w.cell? ⟨g,i*4+2,none⟩=some u)∧w.frozen? ⟨g,i*4+2,none⟩=false:=h.mark hi hk true
theorem A3j {w w1 w2:World} {r:Option Nat} (h:w.grownBy w1 r) (h2:w1.grownBy w2 r):w.grownBy w2 r :=
 ⟨h2.os.trans h.os,h2.tape.trans h.tape,h2.output.trans h.output,Nat.le_trans h.size h2.size,fun k hk hne=>(h2.block k (Nat.lt_of_lt_of_le hk h.size) hne).trans (h.block k hk hne)⟩
theorem A2f {w w':World} {r:Option Nat} (hb:Below w.heap.size w w'):w.grownBy w' r:=⟨hb.os,hb.tape,hb.output,hb.size,fun k hk _=>hb.block k hk⟩

theorem D1q (b o i:Nat):(⟨b,o,none⟩:Addr).add i=⟨b,o+i,none⟩:=by
 unfold Addr.add
 split
 ·rename_i h;subst h;rfl
 rfl
theorem ER.front {w:World} {base g n c:Nat} {es:List TEdge} (h:ER w base g n c es) {i:Nat} (hi:i≤n) {w':World} (hb:Below w.heap.size w w'):∀ j u,((es.take i).flatMap A1h)[j]?=some u→w'.cell? ((⟨g,0,none⟩:Addr).add j)=some u:=by
 intro j u hu
 have hn:=h.2.1
 rw[← (A7c es i (by omega)).1,List.getElem?_take] at hu
 split at hu
 ·rename_i hj
  rw[hb.cell (by rw[B5m];exact h.lt.2)]
  exact h.1.cells (g:=g) rfl j u hu
 cases hu
theorem ER.back {w:World} {base g n c:Nat} {es:List TEdge} (h:ER w base g n c es) {i:Nat} (hi:i≤n) {w':World} (hb:Below w.heap.size w w'):∀ j u,((es.drop i).flatMap A1h)[j]?=some u→w'.cell? ((⟨g,i*4,none⟩:Addr).add j)=some u:=by
 intro j u hu
 have hn:=h.2.1
 rw[← (A7c es i (by omega)).2,List.getElem?_drop] at hu
 rw[hb.cell (by rw[B5m];exact h.lt.2)]
 have:=h.1.cells (g:=g) rfl (i*4+j) u hu
 rw[D1q,Nat.zero_add] at this
 rw[D1q]
 exact this
def D3k (base g:Nat) (es:List TEdge) (w:World) (e:Ending) (w':World):Prop:=∃ g' n' c',e=.returned (.slice (some ⟨g',0,none⟩) n' c')∧ER w' base g' n' c' es∧w.grownBy w' (some g)∧(g'=g∨w.heap.size≤g')
def C9n (c:Bool) (P:Prop):Prop:=(c=true→P)∧(P→c=true)
def EAt (es:List TEdge) (i:Nat) (e:TEdge):Prop:=∃ x,es[i]?=some x∧x.a=e.a∧x.b=e.b
attribute [local go_sem] O_ opAt P_ M_ Region.wanted yielded
attribute [local simp] P_ M_ MP.eq MP.agg MP.sl A0e
theorem C4d (base g n c:Nat) (es:List TEdge) (a b k:Int) (w:World) (hx:ER w base g n c es) (hn:n≤200) (ia:I64 a) (ib:I64 b) (ik:I64 k) :
  Calls Tryz.prog 231 #[.slice (some ⟨g,0,none⟩) n c,.int .i64 a,.int .i64 b,.int .i64 k] w (D3k base g (A9x es a b k) w):=by
 have HX:=A_ hx
 have HL:=A_ hx.2.1
 have hn':(n:Int)≤200:=by omega
 have hcap:=hx.cap
 have hcapi:(n:Int)≤c:=by omega
 have IE:=A_ (D3v ia ib ik)
 have IK:=A_ ik
 obtain ⟨i0,hi,hz0,hz1,hz2⟩:=info_parts B9m
 clear hx ia ib ik
 obtain ⟨e,he⟩:∃ e,A9a a b k=e:=⟨_,rfl⟩
 rw[he] at IE
 have NE:=A_ he
 clear he
 go_enter Tryz.func231,Tryz.ntmps231
 go_upto_if 18 with fail
 go_cut [] (fun wx=>wx=w.alloc (.cells #[.int .i64 e.a,.int .i64 e.b,.int .i64 e.left,.int .i64 e.right] 70))
 case first =>
  by_cases hab:b<a
  ·have hab':a > b:=hab
   have HE:=A_ (show w.alloc (.cells #[.int .i64 b,.int .i64 a,.int .i64 (-1),.int .i64 k] 70)=w.alloc (.cells #[.int .i64 e.a,.int .i64 e.b,.int .i64 e.left,.int .i64 e.right] 70) by rw[← NE.o];unfold A9a;rw[if_pos hab])
   go_wp2_with fail
   go_meet
   exact HE.o
  have hab':¬ (a > b):=hab
  have HE:=A_ (show w.alloc (.cells #[.int .i64 a,.int .i64 b,.int .i64 k,.int .i64 (-1)] 70)=w.alloc (.cells #[.int .i64 e.a,.int .i64 e.b,.int .i64 e.left,.int .i64 e.right] 70) by rw[← NE.o];unfold A9a;rw[if_neg hab])
  go_wp2_with fail
  go_meet
  exact HE.o
 case rest =>
 have hw1:=hcut
 clear hcut
 have hb1:Below w.heap.size w wc:=by rw[hw1];exact Below.box _
 have hbx:wc.heap[w.heap.size]?=some (.cells #[.int .i64 e.a,.int .i64 e.b,.int .i64 e.left,.int .i64 e.right] 70):=by rw[hw1];exact heap_alloc_new w _
 clear hw1
 rename World=>w1
 have HX1:=A_ (HX.o.below hb1)
 have HB1:=A_ hb1
 have HBX:=A_ hbx
 have hl1:w.heap.size<w1.heap.size:=E_ hbx
 obtain ⟨r0,-⟩:=B_ hbx (j:=0) rfl
 obtain ⟨r1,-⟩:=B_ hbx (j:=1) rfl
 clear hbx hb1
 rename (∀ (a:Act) (w:World),Code.wp _ _ _ a w→_)=>hK
 refine hK _ _ ?_
 clear hK
 go_upto_block 0 with fail
 go_cut [10] (fun s wx=>(∃ i:Nat,s=.int .i64 i∧Hid (i=A3t e es))∧Hid (Below w1.heap.size w1 wx))
 case first =>
  go_wp2_with fail
  go_loopg [10] n (fun g' s wr=>∃ i:Nat,i+g'=n∧s=.int .i64 i∧Hid (A3t e es=i+A3t e (es.drop i))∧Hid (Below w1.heap.size w1 wr))
  case atStart=>exact ⟨0,by omega,rfl,(show A3t e es=0+A3t e es by omega),Below.refl _ _⟩
  case round =>
   obtain ⟨i,hi3,rfl,HF,HB⟩:=hrel
   obtain ⟨q0,q1⟩:=(show wr.cell? ⟨w.heap.size,0,none⟩=some (.int .i64 e.a)∧wr.cell? ⟨w.heap.size,1,none⟩=some (.int .i64 e.b) from ⟨(HB.o.cell (p:=⟨w.heap.size,0,none⟩) hl1).trans r0,(HB.o.cell (p:=⟨w.heap.size,1,none⟩) hl1).trans r1⟩)
   have hlr:w.heap.size<wr.heap.size:=Nat.lt_of_lt_of_le hl1 HB.o.size
   have HXr:=A_ (HX1.o.below HB.o)
   have hgr:g<wr.heap.size:=HXr.o.lt.2
   rcases Nat.lt_or_ge i n with hin | hin
   ·have hii:(i:Int)<n:=by omega
    have hi0:(0:Int)≤i:=by omega
    have hic:(i:Int)<c:=by omega
    obtain ⟨g9,rfl⟩:∃ g9,gk=g9+1:=⟨gk - 1,by omega⟩
    have hi':=A_ (show i+1+g9=n by omega)
    obtain ⟨x,hx1⟩:∃ x,es[i]?=some x:=⟨_,List.getElem?_eq_getElem (by rw[HL.o];exact hin)⟩
    obtain ⟨e0,e1,e2,e3⟩:=HXr.o.at_ hx1
    have HD:=A_ (B7c hx1)
    have HXI:=A_ hx1
    clear hi3 hin hx1
    by_cases p1:x.a<e.a
    ·have HBEF:=A_ (show B6r x e=true by unfold B6r;simp[p1])
     go_wp2_with fail
     refine A0l ?_
     iterate 14
      refine D_ _ ?_
     iterate 18
      apply A2g
      case h =>
       intro yq zq wq hC hd
       simp at hd
       go_simp
       first | done | (simp[undef];done)
     iterate 2
      refine D_ _ ?_
     intro yq zq wa hC hd (hdis:Hid _)
     simp at hd
     go_simp
     clear hd hdis
     have HV:=A_ (show A3t e es=(i+1:Nat)+A3t e (es.drop (i+1)) by rw[HF.o,HD.o,B7r HBEF.o];omega)
     have HBn:=A_ (HB.o.trans (hC.mono HB.o.size))
     go_wp2_with fail
     go_roundg g9
     case measure=>omega
     case rel=>exact ⟨i+1,hi'.o,by go_simp,HV,HBn⟩
    by_cases p2:x.a=e.a
    ·by_cases p3:x.b<e.b
     ·have HBEF:=A_ (show B6r x e=true by unfold B6r;simp[p2,p3])
      go_wp2_with fail
      refine A0l ?_
      iterate 34
       refine D_ _ ?_
      intro yq zq wa hC hd (hdis:Hid _)
      simp at hd
      go_simp
      clear hd hdis
      have HV:=A_ (show A3t e es=(i+1:Nat)+A3t e (es.drop (i+1)) by rw[HF.o,HD.o,B7r HBEF.o];omega)
      have HBn:=A_ (HB.o.trans (hC.mono HB.o.size))
      go_wp2_with fail
      go_roundg g9
      case measure=>omega
      case rel=>exact ⟨i+1,hi'.o,by go_simp,HV,HBn⟩
     have HBEF:=A_ (show B6r x e=false by unfold B6r;simp[p2,p3])
     have HV:=A_ (show i=A3t e es by rw[HF.o,HD.o,B9w HBEF.o];omega)
     go_wp2_with fail
     refine A0l ?_
     iterate 34
      refine D_ _ ?_
     intro yq zq wa hC hd (hdis:Hid _)
     simp at hd
     go_simp
     clear hd hdis
     have HBn:=A_ (HB.o.trans (hC.mono HB.o.size))
     go_wp2_with fail
     go_meet
     exact ⟨⟨i,rfl,HV⟩,HBn⟩
    have HBEF:=A_ (show B6r x e=false by unfold B6r;simp[p1,p2])
    have HV:=A_ (show i=A3t e es by rw[HF.o,HD.o,B9w HBEF.o];omega)
    go_wp2_with fail
    refine A0l ?_
    iterate 23
     refine D_ _ ?_
    iterate 8
     apply A2g
     case h =>
      intro yq zq wq hC hd
      simp at hd
      go_simp
      first | done | (simp[undef];done)
    iterate 3
     refine D_ _ ?_
    intro yq zq wa hC hd (hdis:Hid _)
    simp at hd
    go_simp
    clear hd hdis
    have HBn:=A_ (HB.o.trans (hC.mono HB.o.size))
    go_wp2_with fail
    go_meet
    exact ⟨⟨i,rfl,HV⟩,HBn⟩
   have h3:i=n:=by omega
   subst h3
   have hii:¬ ((i:Int)<i):=by omega
   have HV:=A_ (show i=A3t e es by rw[HF.o,List.drop_of_length_le (by rw[HL.o];exact Nat.le_refl _)];rfl)
   go_wp2_with fail
   refine A0l ?_
   iterate 5
    refine D_ _ ?_
   iterate 28
    apply A2g
    case h =>
     intro yq zq wq hC hd
     simp at hd
     go_simp
     first | done | (simp[undef];done)
   refine D_ _ ?_
   intro yq zq wa hC hd (hdis:Hid _)
   simp at hd
   go_simp
   clear hd hdis
   have HBn:=A_ (HB.o.trans (hC.mono HB.o.size))
   go_wp2_with fail
   go_meet
   exact ⟨⟨i,rfl,HV⟩,HBn⟩
 case rest =>
 obtain ⟨⟨i,rfl,HI⟩,HB⟩:=hcut
 rename World=>wr
 have hin:i≤n:=by rw[HI.o,← HL.o];exact B8i e es
 obtain ⟨q0,q1⟩:=(show wr.cell? ⟨w.heap.size,0,none⟩=some (.int .i64 e.a)∧wr.cell? ⟨w.heap.size,1,none⟩=some (.int .i64 e.b) from ⟨(HB.o.cell (p:=⟨w.heap.size,0,none⟩) hl1).trans r0,(HB.o.cell (p:=⟨w.heap.size,1,none⟩) hl1).trans r1⟩)
 have hlr:w.heap.size<wr.heap.size:=Nat.lt_of_lt_of_le hl1 HB.o.size
 have HXr:=A_ (HX1.o.below HB.o)
 have hgr:g<wr.heap.size:=HXr.o.lt.2
 have hi0:(0:Int)≤i:=by omega
 have hii:(i:Int)≤n:=by omega
 rename (∀ (a:Act) (w:World),Code.wp _ _ _ a w→_)=>hK
 refine hK _ _ ?_
 clear hK
 go_upto_region 7 with fail
 go_cut [82] (fun sb wx=>(∃ cc:Bool,sb=.bool cc∧Hid (C9n cc (EAt es i e)))∧Hid (Below w1.heap.size w1 wx))
 case first =>
  rcases Nat.lt_or_ge i n with hlt | hge
  ·have hlti:(i:Int)<n:=by omega
   have hic:(i:Int)<c:=by omega
   obtain ⟨x,hx1⟩:∃ x,es[i]?=some x:=⟨_,List.getElem?_eq_getElem (by rw[HL.o];exact hlt)⟩
   obtain ⟨e0,e1,e2,e3⟩:=HXr.o.at_ hx1
   by_cases p1:x.a=e.a
   ·by_cases p2:x.b=e.b
    ·have HS:=A_ (show C9n true (EAt es i e) from ⟨fun _=>⟨x,hx1,p1,p2⟩,fun _=>rfl⟩)
     clear hx1 hii
     refine A0l ?_
     iterate 24
      refine D_ _ ?_
     intro yq zq wa hC hd (hdis:Hid _)
     simp at hd
     go_simp
     clear hd hdis
     have HBn:=A_ (HB.o.trans (hC.mono HB.o.size))
     go_wp2_with fail
     go_meet
     exact ⟨⟨true,rfl,HS⟩,HBn⟩
    have HS:=A_ (show C9n false (EAt es i e) from ⟨(fun h=>by cases h),fun ⟨y,h1,_,h2⟩=>by rw[hx1] at h1;cases h1;exact absurd h2 p2⟩)
    clear hx1 hii
    refine A0l ?_
    iterate 24
     refine D_ _ ?_
    intro yq zq wa hC hd (hdis:Hid _)
    simp at hd
    go_simp
    clear hd hdis
    have HBn:=A_ (HB.o.trans (hC.mono HB.o.size))
    go_wp2_with fail
    go_meet
    exact ⟨⟨false,by simp[p2],HS⟩,HBn⟩
   have HS:=A_ (show C9n false (EAt es i e) from ⟨(fun h=>by cases h),fun ⟨y,h1,h2,_⟩=>by rw[hx1] at h1;cases h1;exact absurd h2 p1⟩)
   clear hx1 hii
   refine A0l ?_
   iterate 15
    refine D_ _ ?_
   iterate 8
    apply A2g
    case h =>
     intro yq zq wq hC hd
     simp at hd
     go_simp
     first | done | (simp[undef];done)
   refine D_ _ ?_
   intro yq zq wa hC hd (hdis:Hid _)
   simp at hd
   go_simp
   clear hd hdis
   have HBn:=A_ (HB.o.trans (hC.mono HB.o.size))
   go_wp2_with fail
   go_meet
   exact ⟨⟨false,rfl,HS⟩,HBn⟩
  obtain rfl:i=n:=by omega
  have hnn:¬ ((i:Int)<i):=by omega
  have HS:=A_ (show C9n false (EAt es i e) from ⟨(fun h=>by cases h),fun ⟨y,h1,_,_⟩=>by have:=(List.getElem?_eq_some_iff.1 h1).1;rw[HL.o] at this;omega⟩)
  clear hii
  refine A0l ?_
  iterate 5
   refine D_ _ ?_
  iterate 8
   apply A2g
   case h =>
    intro yq zq wq hC hd
    simp at hd
    go_simp
    first | done | (simp[undef];done)
  iterate 2
   refine D_ _ ?_
  iterate 8
   apply A2g
   case h =>
    intro yq zq wq hC hd
    simp at hd
    go_simp
    first | done | (simp[undef];done)
  refine D_ _ ?_
  intro yq zq wa hC hd (hdis:Hid _)
  simp at hd
  go_simp
  clear hd hdis
  have HBn:=A_ (HB.o.trans (hC.mono HB.o.size))
  go_wp2_with fail
  go_meet
  exact ⟨⟨false,rfl,HS⟩,HBn⟩
 case rest =>
 clear HB q0 q1 hlr HXr hgr
 obtain ⟨⟨cc,rfl,HS⟩,HB⟩:=hcut
 clear wr
 rename World=>wr
 have hlr:w.heap.size<wr.heap.size:=Nat.lt_of_lt_of_le hl1 HB.o.size
 have HXr:=A_ (HX1.o.below HB.o)
 have hgr:g<wr.heap.size:=HXr.o.lt.2
 have HBW:=A_ (HB1.o.trans (HB.o.mono HB1.o.size))
 rename (∀ (a:Act) (w:World),Code.wp _ _ _ a w→_)=>hK
 refine hK _ _ ?_
 clear hK
 cases cc
 ·have PS:=A_ (show A9x es a b k=A3p es i e by
   rw[HI.o]
   cases hq:es[A3t e es]? with
   | none=>exact D0f NE.o hq
   | some x=>exact C8k NE.o hq (fun h=>by have:=HS.o.2 ⟨x,by rw[HI.o];exact hq,h.1,h.2⟩;cases this))
  have hbase:base≤wr.heap.size:=by have:=HXr.o.lt;omega
  have RB:=A_ (World.ownsRow_made (base:=base) (e:=70) (size:=4) wr #[] 0 hbase (Nat.zero_le _) rfl)
  have SRC:=A_ (HXr.o.front hin (Below.box (.cells #[] 70)))
  have T1:=A_ (show ((es.take i).flatMap A1h).length=i*4 by rw[A3d,List.length_take,HL.o];congr 1;omega)
  have C3:=A_ (show 0+i≤maxLen by unfold maxLen;omega)
  have C4:=A_ (show (0+i)*32≤140737488355328 by omega)
  have hbx:wr.heap[w.heap.size]?=some (.cells #[.int .i64 e.a,.int .i64 e.b,.int .i64 e.left,.int .i64 e.right] 70):=(HB.o.block _ hl1).trans HBX.o
  have HBXr:=A_ hbx
  clear HS HI hbx
  have hic:(i:Int)≤c:=by omega
  go_upto_region 13 with (at_builtin;refine A1f rfl _ _ 42 rfl base 70 i0 (.agg #[.int .i64 0,.int .i64 0,.int .i64 0,.int .i64 0]) 4 32 Tryz.underlying42 hi hz0 hz1 hz2 rfl (by decide) wr.heap.size 0 0 [] (by go_simp;done) RB.o ⟨g,0,none⟩ i c ((es.take i).flatMap A1h) (by go_simp;done) T1.o SRC.o A6w C3.o C4.o (A0p hbase _) ?_;intro g1 cap1 w3 hown1 hgr1 hor1)
  have OW1:=A_ (show w3.ownsRow base 70 4 (.slice (some ⟨g1,0,none⟩) i cap1) i ((es.take i).flatMap A1h) by simpa using hown1)
  have HB3:=A_ ((HBW.o.alloc HBW.o.size (.cells #[] 70)).grown hgr1 (by have:=HBW.o.size;simp;omega) (fun k2 hk2=>by injection hk2 with h;have:=HBW.o.size;omega))
  have HX3:=A_ (show Below wr.heap.size wr w3 from (Below.box _).grown hgr1 (by simp) (fun k2 hk2=>by injection hk2 with h;omega))
  have K3:w3.heap[w.heap.size]?=some (.cells #[.int .i64 e.a,.int .i64 e.b,.int .i64 e.left,.int .i64 e.right] 70):=(HX3.o.block _ hlr).trans HBXr.o
  have hl3:w.heap.size<w3.heap.size:=E_ K3
  obtain ⟨y0,-⟩:=B_ K3 (j:=0) rfl
  obtain ⟨y1,-⟩:=B_ K3 (j:=1) rfl
  obtain ⟨y2,-⟩:=B_ K3 (j:=2) rfl
  obtain ⟨y3,-⟩:=B_ K3 (j:=3) rfl
  simp at y0 y1 y2 y3
  have hbase3:base≤w3.heap.size:=by have:=HX3.o.size;omega
  have D3:=A_ (show i+1≤maxLen by unfold maxLen;omega)
  have D4:=A_ (show (i+1)*32≤140737488355328 by omega)
  clear hown1 hgr1 SRC RB T1 C3 C4 K3
  go_upto_region 14 with (at_builtin;refine A1f rfl _ _ 42 rfl base 70 i0 (.agg #[.int .i64 0,.int .i64 0,.int .i64 0,.int .i64 0]) 4 32 Tryz.underlying42 hi hz0 hz1 hz2 rfl (by decide) g1 i cap1 ((es.take i).flatMap A1h) (by go_simp;done) (J_ OW1.o (Below.box _)) ⟨w3.heap.size,0,none⟩ 1 1 (A1h e) (by go_simp;done) rfl (A0k (heap_alloc_new w3 _)) (fun u hu=>A6w (es:=[e]) u (by simpa using hu)) D3.o D4.o (A0p hbase3 _) ?_;intro g2 cap2 w4 hown2 hgr2 hor2)
  have OW2:=A_ (show w4.ownsRow base 70 4 (.slice (some ⟨g2,0,none⟩) (i+1) cap2) (i+1) ((es.take i).flatMap A1h++A1h e) from hown2)
  have hg1:w.heap.size≤g1:=by have:=HX3.o.size;have:=HBW.o.size;rcases hor1 with h | h<;>(try simp at h)<;>omega
  have hg2:w.heap.size≤g2:=by have:=HX3.o.size;rcases hor2 with h | h<;>(try simp at h)<;>omega
  have HB4:=A_ ((HB3.o.alloc HB3.o.size (.cells #[.int .i64 e.a,.int .i64 e.b,.int .i64 e.left,.int .i64 e.right] 70)).grown hgr2 (by have:=HB3.o.size;simp;omega) (fun k2 hk2=>by injection hk2 with h;omega))
  have HX4:=A_ (show Below wr.heap.size wr w4 from (HX3.o.alloc HX3.o.size (.cells #[.int .i64 e.a,.int .i64 e.b,.int .i64 e.left,.int .i64 e.right] 70)).grown hgr2 (by have:=HX3.o.size;simp;omega) (fun k2 hk2=>by injection hk2 with h;have:=HX3.o.size;rcases hor1 with h1 | h1<;>rcases hor2 with h2 | h2<;>(try simp at h1)<;>(try simp at h2)<;>omega))
  have SRC:=A_ (HXr.o.back hin HX4.o)
  have hbase4:base≤w4.heap.size:=by have:=HX4.o.size;omega
  have FIN:=A_ (show (A3p es i e).flatMap A1h=((es.take i).flatMap A1h++A1h e)++(es.drop i).flatMap A1h by
   rw[A8z (by rw[HL.o];exact hin),(A7c es i (by rw[HL.o];exact hin)).1,(A7c es i (by rw[HL.o];exact hin)).2])
  have FL:=A_ (show (A3p es i e).length=n+1 by rw[A6l (by rw[HL.o];exact hin),HL.o])
  have FOK:=A_ (show ∀ x∈A3p es i e,A3f x from fun x hx=>by
   rcases C4e hx with rfl | hx
   ·exact IE.o
   exact HXr.o.2.2 x hx)
  clear hown2 hgr2 hor2 y0 y1 y2 y3 hor1
  rcases Nat.lt_or_ge i n with hlt | hge
  ·have hlti:(i:Int)<n:=by omega
   have hltc:(i:Int)<c:=by omega
   have T3:=A_ (show ((es.drop i).flatMap A1h).length=(n - i)*4 by rw[A3d,List.length_drop,HL.o])
   have E3:=A_ (show i+1+(n - i)≤maxLen by unfold maxLen;omega)
   have E4:=A_ (show (i+1+(n - i))*32≤140737488355328 by omega)
   go_wp2_with (at_builtin;refine A1f rfl _ _ 42 rfl base 70 i0 (.agg #[.int .i64 0,.int .i64 0,.int .i64 0,.int .i64 0]) 4 32 Tryz.underlying42 hi hz0 hz1 hz2 rfl (by decide) g2 (i+1) cap2 _ (by go_simp;done) OW2.o ⟨g,i*4,none⟩ (n - i) (c - i) ((es.drop i).flatMap A1h) (by go_simp;done) T3.o SRC.o A6w E3.o E4.o hbase4 ?_;intro g3 cap3 w5 hown3 hgr3 hor3)
   have HB5:=A_ (HB4.o.grown hgr3 HB4.o.size (fun k2 hk2=>by injection hk2 with h;omega))
   have R5:=A_ (show ER w5 base g3 (i+1+(n - i)) cap3 (A3p es i e) from ⟨by rw[FIN.o];exact hown3,by have:=FL.o;omega,FOK.o⟩)
   have G5:=A_ (show w.heap.size≤g3 by have:=HB4.o.size;rcases hor3 with h | h<;>omega)
   rw[← PS.o] at R5
   have W5:=A_ (A2f (r:=some g) HB5.o)
   clear hown3 hgr3 hor3
   go_wp2
   go_ret
   exact ⟨g3,_,cap3,rfl,R5.o,W5.o,.inr G5.o⟩
  obtain rfl:i=n:=by omega
  have DN:=A_ (show (es.drop i).flatMap A1h=[] by rw[List.drop_of_length_le (by rw[HL.o];exact Nat.le_refl _)];rfl)
  have E3:=A_ (show i+1+0≤maxLen by unfold maxLen;omega)
  have E4:=A_ (show (i+1+0)*32≤140737488355328 by omega)
  have N0:=A_ (show ∀ (j:Nat) (u:Value),([]:List Value)[j]?=some u→w4.cell? ((⟨g,i*4,none⟩:Addr).add j)=some u from fun j u h=>by simp at h)
  have N1:=A_ (show ∀ (j:Nat) (u:Value),([]:List Value)[j]?=some u→w4.cell? ((⟨g,0,none⟩:Addr).add j)=some u from fun j u h=>by simp at h)
  rcases Nat.lt_or_ge i c with hlt | hgec
  ·have hltc:(i:Int)<c:=by omega
   go_wp2_with (at_builtin;refine A1f rfl _ _ 42 rfl base 70 i0 (.agg #[.int .i64 0,.int .i64 0,.int .i64 0,.int .i64 0]) 4 32 Tryz.underlying42 hi hz0 hz1 hz2 rfl (by decide) g2 (i+1) cap2 _ (by go_simp;done) OW2.o ⟨g,i*4,none⟩ 0 (c - i) [] (by go_simp;done) rfl N0.o (fun u hu=>by cases hu) E3.o E4.o hbase4 ?_;intro g3 cap3 w5 hown3 hgr3 hor3)
   have HB5:=A_ (HB4.o.grown hgr3 HB4.o.size (fun k2 hk2=>by injection hk2 with h;omega))
   have R5:=A_ (show ER w5 base g3 (i+1+0) cap3 (A3p es i e) from ⟨by rw[FIN.o];rw[DN.o];exact hown3,by have:=FL.o;omega,FOK.o⟩)
   have G5:=A_ (show w.heap.size≤g3 by have:=HB4.o.size;rcases hor3 with h | h<;>omega)
   rw[← PS.o] at R5
   have W5:=A_ (A2f (r:=some g) HB5.o)
   clear hown3 hgr3 hor3
   go_wp2
   go_ret
   exact ⟨g3,_,cap3,rfl,R5.o,W5.o,.inr G5.o⟩
  obtain rfl:i=c:=by omega
  go_wp2_with (at_builtin;refine A1f rfl _ _ 42 rfl base 70 i0 (.agg #[.int .i64 0,.int .i64 0,.int .i64 0,.int .i64 0]) 4 32 Tryz.underlying42 hi hz0 hz1 hz2 rfl (by decide) g2 (i+1) cap2 _ (by go_simp;done) OW2.o ⟨g,0,none⟩ 0 0 [] (by go_simp;done) rfl N1.o (fun u hu=>by cases hu) E3.o E4.o hbase4 ?_;intro g3 cap3 w5 hown3 hgr3 hor3)
  have HB5:=A_ (HB4.o.grown hgr3 HB4.o.size (fun k2 hk2=>by injection hk2 with h;omega))
  have R5:=A_ (show ER w5 base g3 (i+1+0) cap3 (A3p es i e) from ⟨by rw[FIN.o];rw[DN.o];exact hown3,by have:=FL.o;omega,FOK.o⟩)
  have G5:=A_ (show w.heap.size≤g3 by have:=HB4.o.size;rcases hor3 with h | h<;>omega)
  rw[← PS.o] at R5
  have W5:=A_ (A2f (r:=some g) HB5.o)
  clear hown3 hgr3 hor3
  go_wp2
  go_ret
  exact ⟨g3,_,cap3,rfl,R5.o,W5.o,.inr G5.o⟩
 ·obtain ⟨x,hx1,p1,p2⟩:=HS.o.1 rfl
  have hlt:i<n:=by rw[← HL.o];exact (List.getElem?_eq_some_iff.1 hx1).1
  have hlti:(i:Int)<n:=by omega
  have hic:(i:Int)<c:=by omega
  have PS:=A_ (C9i NE.o (by rw[← HI.o];exact hx1) p1 p2)
  rw[← HI.o] at PS
  clear hx1 p1 p2 HS HI
  by_cases hab:b<a
  ·have hab':a > b:=hab
   obtain ⟨m1,m2,⟨u,m3⟩,m4⟩:=HXr.o.markR hlt IK.o
   rw[show A4s k false=A4s k (!decide (b<a)) by simp[hab]] at m1
   rw[← PS.o] at m1
   have M1:=A_ m1
   have M2:=A_ (A3j (A2f HBW.o) m2)
   clear m1 m2
   go_wp2_with fail
   go_ret
   exact ⟨g,n,c,rfl,M1.o,M2.o,.inl rfl⟩
  have hab':¬ (a > b):=hab
  obtain ⟨m1,m2,⟨u,m3⟩,m4⟩:=HXr.o.markL hlt IK.o
  rw[show A4s k true=A4s k (!decide (b<a)) by simp[hab]] at m1
  rw[← PS.o] at m1
  have M1:=A_ m1
  have M2:=A_ (A3j (A2f HBW.o) m2)
  clear m1 m2
  go_wp2_with fail
  go_ret
  exact ⟨g,n,c,rfl,M1.o,M2.o,.inl rfl⟩
end Go.Proofs.YtbhemnidcleaiaaGreat.X
