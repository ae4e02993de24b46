/- A part of the proof. -/
import Derived.Test.YtbhemnidcleaiaaGreatRows
import Derived.Test.YtbhemnidcleaiaaGreatY1
import Derived.WalkLawsBesides
import Derived.ProofKit
import Derived.Test.YtbhemnidcleaiaaGreatY2
import Derived.BigQuiet
import Derived.Deep.QuietTactic
import Derived.Deep.Slices
import Derived.KernelRfl
set_option linter.constructorNameAsVariable false
set_option maxHeartbeats 16000000
set_option maxRecDepth 10000
namespace Go.Proofs.YtbhemnidcleaiaaGreat.X
open Go.RowKit Go.XB

theorem D3i:(Tryz.prog.info? 3).map (fun i=>(i.zero,i.size,i.bytes))=some (some (.int .i64 0),1,8):=by kernel_rfl

end Go.Proofs.YtbhemnidcleaiaaGreat.X
namespace Go.Proofs.YtbhemnidcleaiaaGreat.X
open Go.RowKit Go.XB
theorem A6p (A A':Option Addr) (n n' c c':Nat) (xs ys:List Int) (bs bs':List Nat) (w:World) (hx:Sl w A n c xs bs) (hy:Sl w A' n' c' ys bs') :
  Calls Tryz.prog 311 #[.slice A n c,.slice A' n' c'] w (A0j w (.bool (decide (xs=ys)))):=by
 have hn:n≤maxLen:=Nat.le_trans hx.2.1 hx.2.2.1
 have hn':n'≤maxLen:=Nat.le_trans hy.2.1 hy.2.2.1
 have HL:Hid (xs.length=n):=hx.1
 have HL':Hid (ys.length=n'):=hy.1
 unfold maxLen at hn hn'
 have HX:Hid (Sl w A n c xs bs):=hx
 have HY:Hid (Sl w A' n' c' ys bs'):=hy
 clear hx hy
 by_cases hne:n=n'
 ·subst hne
  go_enter Tryz.func311,Tryz.ntmps311
  go_wp2
  go_loopw [5,13] (fun _ i wr=>∃ k:Nat,k≤n∧i=.int .i64 k∧Hid (xs.take k=ys.take k)∧∃ m,wr=w.drewN m) (fun _ i wr=>n - (intOf i).toNat)
  case atStart=>exact ⟨0,Nat.zero_le _,rfl,rfl,0,rfl⟩
  case round =>
   obtain ⟨k,hk,rfl,ht,m,rfl⟩:=hrel
   by_cases hlt:k<n
   ·obtain ⟨b,off,x,rfl,hbl,hxk,_,hcx⟩:=Sl.getInt HX.o hlt
    obtain ⟨b',off',y,rfl,hbl',hyk,_,hcy⟩:=Sl.getInt HY.o hlt
    have HXk:Hid (xs[k]?=some x):=hxk
    have HYk:Hid (ys[k]?=some y):=hyk
    clear hxk hyk
    have hi1:(0:Int)≤k:=by omega
    have hi2:(k:Int)<n:=by omega
    by_cases hxy:x=y
    ·have hb:(x != y)=false:=by simp[hxy]
     go_wp2
     go_quiet (fail)
     go_wp2
     go_roundw
     case rel=>exact ⟨k+1,by omega,by go_num,B4q HXk.o HYk.o ht hxy,_,rfl⟩
     case measure=>simp[intOf];omega
    have hb:(x != y)=true:=by simp[hxy]
    go_wp2
    go_quiet (fail)
    go_wp2
    go_ret
    exact ⟨R_ (by simp[D3w HXk.o HYk.o hxy]),⟨rfl,rfl,rfl,Nat.le_refl _,fun _ _=>rfl⟩⟩
   go_wp2
   go_ret
   exact ⟨R_ (by simp[B6n HL.o HL'.o (by omega) ht.o]),⟨rfl,rfl,rfl,Nat.le_refl _,fun _ _=>rfl⟩⟩
 have hb:((n:Int) != n')=true:=by simp;omega
 go_enter Tryz.func311,Tryz.ntmps311
 go_wp2
 go_ret
 exact ⟨R_ (by
  have:xs≠ys:=fun e=>hne (by rw[← HL.o,← HL'.o,e])
  simp[this]),Below.refl _ _⟩
theorem A2p (A A':Option Addr) (n n' c c':Nat) (xs ys:List Int) (bs bs':List Nat) (w:World) (hx:Sl w A n c xs bs) (hy:Sl w A' n' c' ys bs') :
  Calls Tryz.prog 40 #[.slice A n c,.slice A' n' c'] w (A0j w (.bool (decide (xs=ys)))):=by
 have hn:n≤maxLen:=Nat.le_trans hx.2.1 hx.2.2.1
 have hn':n'≤maxLen:=Nat.le_trans hy.2.1 hy.2.2.1
 have HL:Hid (xs.length=n):=hx.1
 have HL':Hid (ys.length=n'):=hy.1
 unfold maxLen at hn hn'
 have HX:Hid (Sl w A n c xs bs):=hx
 have HY:Hid (Sl w A' n' c' ys bs'):=hy
 clear hx hy
 by_cases hne:n=n'
 ·subst hne
  go_enter Tryz.func40,Tryz.ntmps40
  go_wp2
  go_loopw [5,13] (fun _ i wr=>∃ k:Nat,k≤n∧i=.int .i64 k∧Hid (xs.take k=ys.take k)∧∃ m,wr=w.drewN m) (fun _ i wr=>n - (intOf i).toNat)
  case atStart=>exact ⟨0,Nat.zero_le _,rfl,rfl,0,rfl⟩
  case round =>
   obtain ⟨k,hk,rfl,ht,m,rfl⟩:=hrel
   by_cases hlt:k<n
   ·obtain ⟨b,off,x,rfl,hbl,hxk,_,hcx⟩:=Sl.getInt HX.o hlt
    obtain ⟨b',off',y,rfl,hbl',hyk,_,hcy⟩:=Sl.getInt HY.o hlt
    have HXk:Hid (xs[k]?=some x):=hxk
    have HYk:Hid (ys[k]?=some y):=hyk
    clear hxk hyk
    have hi1:(0:Int)≤k:=by omega
    have hi2:(k:Int)<n:=by omega
    by_cases hxy:x=y
    ·have hb:(x != y)=false:=by simp[hxy]
     go_wp2
     go_quiet (fail)
     go_wp2
     go_roundw
     case rel=>exact ⟨k+1,by omega,by go_num,B4q HXk.o HYk.o ht hxy,_,rfl⟩
     case measure=>simp[intOf];omega
    have hb:(x != y)=true:=by simp[hxy]
    go_wp2
    go_quiet (fail)
    go_wp2
    go_ret
    exact ⟨R_ (by simp[D3w HXk.o HYk.o hxy]),⟨rfl,rfl,rfl,Nat.le_refl _,fun _ _=>rfl⟩⟩
   go_wp2
   go_ret
   exact ⟨R_ (by simp[B6n HL.o HL'.o (by omega) ht.o]),⟨rfl,rfl,rfl,Nat.le_refl _,fun _ _=>rfl⟩⟩
 have hb:((n:Int) != n')=true:=by simp;omega
 go_enter Tryz.func40,Tryz.ntmps40
 go_wp2
 go_ret
 exact ⟨R_ (by
  have:xs≠ys:=fun e=>hne (by rw[← HL.o,← HL'.o,e])
  simp[this]),Below.refl _ _⟩
end Go.Proofs.YtbhemnidcleaiaaGreat.X
namespace Go.Proofs.YtbhemnidcleaiaaGreat.X
open Go.RowKit Go.XB
attribute [local go_sem] O_ opAt P_ M_ Region.wanted yielded
attribute [local simp] P_ M_ MP.eq A0e
end Go.Proofs.YtbhemnidcleaiaaGreat.X
namespace Go.Proofs.YtbhemnidcleaiaaGreat.X
open Go.RowKit Go.XB
attribute [local go_sem] O_ opAt P_ M_ Region.wanted yielded
attribute [local simp] P_ M_ MP.eq A0e
end Go.Proofs.YtbhemnidcleaiaaGreat.X

namespace Go.XB
open Go.RowKit Go.ChangeShapes Go.WideShapes Go.Deep

def Opens (P:Program) (t:TypeId) (α:Type) [Dat α]:Prop :=
 ∀ {H:Type} (enc:TypeId×Value→H) (w:World) (fuel:Nat) (cs:List Value) (y:DataW H×List MemPlace),DataW.trod enc P w 0 (fun _=>true) true fuel t cs=some y→∃ (x:α) (bs:List Nat),Dat.at_ w cs x bs

section
variable {P:Program} {t e:TypeId}

theorem C4k {α:Type} (p:Nat→α→List Nat→Prop):∀ n,(∀ i,i<n→∃ x fs,p i x fs)→∃ (xs:List α) (fss:List (List Nat)),xs.length=n∧fss.length=n∧∀ i x fs,xs[i]?=some x→fss[i]?=some fs→p i x fs
 | 0,_=>⟨[],[],rfl,rfl,fun i x fs h=>by simp at h⟩
 | n+1,h=>by
  obtain ⟨xs,fss,h1,h2,h3⟩:=C4k p n fun i hi=>h i (by omega)
  obtain ⟨x,fs,hp⟩:=h n (by omega)
  refine ⟨xs++[x],fss++[fs],by simp[h1],by simp[h2],fun i y gs hy hg=>?_⟩
  by_cases hi:i<n
  ·rw[List.getElem?_append_left (by omega)] at hy hg
   exact h3 i y gs hy hg
  have hin:i=n:=by have:=(List.getElem?_eq_some_iff.1 hy).1;simp at this;omega
  subst hin
  rw[List.getElem?_append_right (by omega),h1] at hy
  rw[List.getElem?_append_right (by omega),h2] at hg
  simp at hy hg
  subst hy;subst hg
  exact hp

theorem Opens.slice {α:Type} [Dat α] (ht:P.underlying t=some (.slice e)) (hc:P.cellsOf e=Dat.sz α) (ho:Opens P e α):Opens P t (List α):=fun enc w fuel cs y h=>by
 rcases open_slice ht h with ⟨rfl,_⟩ | ⟨a,len,cap,m,n,DD,Pl,rfl,_,hl,hm,hmm,_,hi⟩
 ·exact ⟨[],[],none,0,0,rfl,Sl.nil w⟩
 have hlm:len≤m:=by rw[hmm];simpa using hl
 rcases Nat.eq_zero_or_pos len with h0 | h0
 ·subst h0
  exact ⟨[],[],_,0,cap,rfl,rfl,hl,hm,fun _=>rfl,fun h=>absurd h (by omega)⟩
 obtain ⟨xs,fss,h1,h2,h3⟩:=C4k (α:=α) (fun i x fs=>∃ cs',w.cells? 0 (a.add (i*Dat.sz α)) (Dat.sz α)=some cs'∧Dat.at_ w cs' x fs) len fun i hil=>by
  obtain ⟨cs',hcs,ht'⟩:=hi i (by omega)
  rw[hc] at hcs
  obtain ⟨x,fs,ha⟩:=ho enc w _ _ _ ht'
  exact ⟨x,fs,cs',hcs,ha⟩
 have hpos:0<Dat.sz α:=Dat.pos
 obtain ⟨cs0,hcs0,_⟩:=h3 0 _ _ (List.getElem?_eq_getElem (by omega)) (List.getElem?_eq_getElem (by omega))
 obtain ⟨_,hl0,hat0⟩:=World.cells?_some hcs0
 have hc0:=hat0 (i:=0) (by omega)
 rw[Nat.zero_mul] at hc0
 have hspot:a.spot=none:=by
  have he:w.cell? ((a.add 0).add 0)=some (cs0[0]'(by omega)):=by rw[hc0];exact List.getElem?_eq_getElem (by omega)
  simp only [Addr.add,if_true] at he
  unfold World.cell? at he
  split at he
  ·split at he
   ·cases he
   rename_i hs;simpa using hs
  cases he
 have hblk:a.block<w.heap.size:=by
  have he:w.cell? ((a.add 0).add 0)=some (cs0[0]'(by omega)):=by rw[hc0];exact List.getElem?_eq_getElem (by omega)
  have:=block_lt_of_cell he
  simpa [B5m] using this
 refine ⟨xs,a.block::fss.flatten,_,len,cap,rfl,h1,hl,hm,fun h=>absurd h (by omega),fun _=>⟨a.block,a.off,fss,?_,rfl,by rw[h1,h2],hblk,fun k x fs hx hf=>?_⟩⟩
 ·cases a;simp only at hspot;subst hspot;rfl
 obtain ⟨cs',hcs,ha⟩:=h3 k x fs hx hf
 obtain ⟨_,hlc,hat⟩:=World.cells?_some hcs
 refine ⟨cs',fun j u hu=>?_,ha⟩
 have hj:j<Dat.sz α:=by rw[← hlc];exact (List.getElem?_eq_some_iff.1 hu).1
 have:=hat (i:=j) hj
 rw[hu] at this
 rw[← this]
 congr 1
 cases a
 simp only at hspot
 subst hspot
 unfold Addr.add
 by_cases hz1:k*Dat.sz α=0<;>by_cases hz2:j=0<;>simp[hz1,hz2,Nat.add_assoc]

theorem Opens.sl {α:Type} [Dat α] (ho:Opens P t (List α)) (ht:P.underlying t=some (.slice e)) {H:Type} {enc:TypeId×Value→H} {w:World} {r:Reach} {b0:Nat} {v:Value} {d:DataW H} {p:List MemPlace}
  (hv:Value.okWide P w r b0 t v) (h:DataW.Trod enc P w 0 (fun _=>true) true t v d p):∃ (A:Option Addr) (n c:Nat) (xs:List α) (bs:List Nat),v=.slice A n c∧Sl w A n c xs bs:=by
 obtain ⟨A,n,c,rfl⟩:=okWide_slice ht hv
 obtain ⟨fuel,hf⟩:=h
 obtain ⟨xs,bs,A',n',c',hcs,hs⟩:=ho enc w _ _ _ hf
 simp[Value.cells] at hcs
 obtain ⟨rfl,rfl,rfl⟩:=hcs
 exact ⟨_,_,_,xs,bs,rfl,hs⟩
end
end Go.XB

namespace Go.Proofs.YtbhemnidcleaiaaGreat.X
open Go.XB
end Go.Proofs.YtbhemnidcleaiaaGreat.X
namespace Go.Proofs.YtbhemnidcleaiaaGreat.X
open Go.RowKit Go.XB
attribute [local go_sem] O_ opAt P_ M_ Region.wanted yielded
attribute [local simp] P_ M_ MP.eq A0e
theorem C2w {x y:TRat} (a:x.num.neg=y.num.neg) (b:x.num.mag=y.num.mag) (c:x.den=y.den):x=y:=by
 obtain ⟨⟨_,_⟩,_⟩:=x;obtain ⟨⟨_,_⟩,_⟩:=y;simp only at a b c;rw[a,b,c]
theorem B9g {x y:TPoint} (a:x.x=y.x) (b:x.y=y.y):x=y:=by
 obtain ⟨_,_⟩:=x;obtain ⟨_,_⟩:=y;simp only at a b;rw[a,b]
theorem A4z (v v':Value) (x y:TRat) (bs bs':List Nat) (w:World) (hx:Agg w v x bs) (hy:Agg w v' y bs'):Calls Tryz.prog 12 #[v,v'] w (A0j w (.bool (decide (x=y)))):=by
 obtain ⟨A1,nA1,cA1,sA1,A2,nA2,cA2,sA2,rfl,rfl,w1,w2⟩:=TRat.agg hx
 obtain ⟨B1,nB1,cB1,sB1,B2,nB2,cB2,sB2,rfl,rfl,v1,v2⟩:=TRat.agg hy
 have W1:=A_ w1;have V1:=A_ v1
 have W2:=A_ w2;have V2:=A_ v2
 clear hx hy w1 v1 w2 v2
 by_cases q0:x.num.neg=y.num.neg
 rotate_left
 ·have g0:(x.num.neg==y.num.neg)=false:=by simp[q0]
  have Q:=A_ q0;clear q0
  go_enter Tryz.func12,Tryz.ntmps12
  go_wp2
  go_ret
  exact ⟨R_ (by have:x≠y:=fun e=>Q.o (by rw[e]);simp[this]),Below.go⟩
 have g0:(x.num.neg==y.num.neg)=true:=by simp[q0]
 have Q0:=A_ q0;clear q0
 by_cases q1:x.num.mag=y.num.mag
 rotate_left
 ·have g1:decide (x.num.mag=y.num.mag)=false:=by simp[q1]
  have Q:=A_ q1;clear q1
  go_enter Tryz.func12,Tryz.ntmps12
  go_wp2_with fail
  refine (A2p _ _ _ _ _ _ x.num.mag y.num.mag _ _ _ (Sl.below W1.o Below.go) (Sl.below V1.o Below.go)).mono ?_
  rintro e u1 ⟨rfl,hb1⟩
  obtain ⟨hc1,hf1⟩:=C_ hb1
  have hz1:w.heap.size<u1.heap.size∧w.heap.size+1<u1.heap.size:=by have:=hb1.size;(try simp at this);omega
  obtain ⟨hz1a,hz1b⟩:=hz1
  go_wp2
  go_ret
  exact ⟨R_ (by have:x≠y:=fun e=>Q.o (by rw[e]);simp[this]),Below.go⟩
 have g1:decide (x.num.mag=y.num.mag)=true:=by simp[q1]
 have Q1:=A_ q1;clear q1
 by_cases q2:x.den=y.den
 rotate_left
 ·have g2:decide (x.den=y.den)=false:=by simp[q2]
  have Q:=A_ q2;clear q2
  go_enter Tryz.func12,Tryz.ntmps12
  go_wp2_with fail
  refine (A2p _ _ _ _ _ _ x.num.mag y.num.mag _ _ _ (Sl.below W1.o Below.go) (Sl.below V1.o Below.go)).mono ?_
  rintro e u1 ⟨rfl,hb1⟩
  obtain ⟨hc1,hf1⟩:=C_ hb1
  have hz1:w.heap.size<u1.heap.size∧w.heap.size+1<u1.heap.size:=by have:=hb1.size;(try simp at this);omega
  obtain ⟨hz1a,hz1b⟩:=hz1
  go_wp2_with fail
  refine (A2p _ _ _ _ _ _ x.den y.den _ _ _ (Sl.below W2.o Below.go) (Sl.below V2.o Below.go)).mono ?_
  rintro e u2 ⟨rfl,hb2⟩
  obtain ⟨hc2,hf2⟩:=C_ hb2
  have hz2:w.heap.size<u2.heap.size∧w.heap.size+1<u2.heap.size:=by have:=hb2.size;(try simp at this);omega
  obtain ⟨hz2a,hz2b⟩:=hz2
  go_wp2
  go_ret
  exact ⟨R_ (by have:x≠y:=fun e=>Q.o (by rw[e]);simp[this]),Below.go⟩
 have g2:decide (x.den=y.den)=true:=by simp[q2]
 have Q2:=A_ q2;clear q2
 go_enter Tryz.func12,Tryz.ntmps12
 go_wp2_with fail
 refine (A2p _ _ _ _ _ _ x.num.mag y.num.mag _ _ _ (Sl.below W1.o Below.go) (Sl.below V1.o Below.go)).mono ?_
 rintro e u1 ⟨rfl,hb1⟩
 obtain ⟨hc1,hf1⟩:=C_ hb1
 have hz1:w.heap.size<u1.heap.size∧w.heap.size+1<u1.heap.size:=by have:=hb1.size;(try simp at this);omega
 obtain ⟨hz1a,hz1b⟩:=hz1
 go_wp2_with fail
 refine (A2p _ _ _ _ _ _ x.den y.den _ _ _ (Sl.below W2.o Below.go) (Sl.below V2.o Below.go)).mono ?_
 rintro e u2 ⟨rfl,hb2⟩
 obtain ⟨hc2,hf2⟩:=C_ hb2
 have hz2:w.heap.size<u2.heap.size∧w.heap.size+1<u2.heap.size:=by have:=hb2.size;(try simp at this);omega
 obtain ⟨hz2a,hz2b⟩:=hz2
 go_wp2
 go_ret
 have heq:x=y:=@C2w x y Q0.o Q1.o Q2.o
 exact ⟨R_ (by simp[heq]),Below.go⟩
theorem B2b (v v':Value) (x y:TPoint) (bs bs':List Nat) (w:World) (hx:Agg w v x bs) (hy:Agg w v' y bs'):Calls Tryz.prog 15 #[v,v'] w (A0j w (.bool (decide (x=y)))):=by
 obtain ⟨A1,nA1,cA1,sA1,A2,nA2,cA2,sA2,A4,nA4,cA4,sA4,A5,nA5,cA5,sA5,rfl,rfl,w1,w2,w4,w5⟩:=TPoint.agg hx
 obtain ⟨B1,nB1,cB1,sB1,B2,nB2,cB2,sB2,B4,nB4,cB4,sB4,B5,nB5,cB5,sB5,rfl,rfl,v1,v2,v4,v5⟩:=TPoint.agg hy
 have W1:=A_ w1;have V1:=A_ v1
 have W2:=A_ w2;have V2:=A_ v2
 have W4:=A_ w4;have V4:=A_ v4
 have W5:=A_ w5;have V5:=A_ v5
 clear hx hy w1 v1 w2 v2 w4 v4 w5 v5
 by_cases q0:x.x=y.x
 rotate_left
 ·have g0:decide (x.x=y.x)=false:=by simp[q0]
  have Q:=A_ q0;clear q0
  go_enter Tryz.func15,Tryz.ntmps15
  go_wp2_with fail
  refine (A4z _ _ x.x y.x _ _ _ (TRat.mkAgg (Sl.below W1.o Below.go) (Sl.below W2.o Below.go)) (TRat.mkAgg (Sl.below V1.o Below.go) (Sl.below V2.o Below.go))).mono ?_
  rintro e u0 ⟨rfl,hb0⟩
  obtain ⟨hc0,hf0⟩:=C_ hb0
  have hz0:w.heap.size<u0.heap.size∧w.heap.size+1<u0.heap.size:=by have:=hb0.size;(try simp at this);omega
  obtain ⟨hz0a,hz0b⟩:=hz0
  go_wp2
  go_ret
  exact ⟨R_ (by have:x≠y:=fun e=>Q.o (by rw[e]);simp[this]),Below.go⟩
 have g0:decide (x.x=y.x)=true:=by simp[q0]
 have Q0:=A_ q0;clear q0
 by_cases q1:x.y=y.y
 rotate_left
 ·have g1:decide (x.y=y.y)=false:=by simp[q1]
  have Q:=A_ q1;clear q1
  go_enter Tryz.func15,Tryz.ntmps15
  go_wp2_with fail
  refine (A4z _ _ x.x y.x _ _ _ (TRat.mkAgg (Sl.below W1.o Below.go) (Sl.below W2.o Below.go)) (TRat.mkAgg (Sl.below V1.o Below.go) (Sl.below V2.o Below.go))).mono ?_
  rintro e u0 ⟨rfl,hb0⟩
  obtain ⟨hc0,hf0⟩:=C_ hb0
  have hz0:w.heap.size<u0.heap.size∧w.heap.size+1<u0.heap.size:=by have:=hb0.size;(try simp at this);omega
  obtain ⟨hz0a,hz0b⟩:=hz0
  go_wp2_with fail
  refine (A4z _ _ x.y y.y _ _ _ (TRat.mkAgg (Sl.below W4.o Below.go) (Sl.below W5.o Below.go)) (TRat.mkAgg (Sl.below V4.o Below.go) (Sl.below V5.o Below.go))).mono ?_
  rintro e u1 ⟨rfl,hb1⟩
  obtain ⟨hc1,hf1⟩:=C_ hb1
  have hz1:w.heap.size<u1.heap.size∧w.heap.size+1<u1.heap.size:=by have:=hb1.size;(try simp at this);omega
  obtain ⟨hz1a,hz1b⟩:=hz1
  go_wp2
  go_ret
  exact ⟨R_ (by have:x≠y:=fun e=>Q.o (by rw[e]);simp[this]),Below.go⟩
 have g1:decide (x.y=y.y)=true:=by simp[q1]
 have Q1:=A_ q1;clear q1
 go_enter Tryz.func15,Tryz.ntmps15
 go_wp2_with fail
 refine (A4z _ _ x.x y.x _ _ _ (TRat.mkAgg (Sl.below W1.o Below.go) (Sl.below W2.o Below.go)) (TRat.mkAgg (Sl.below V1.o Below.go) (Sl.below V2.o Below.go))).mono ?_
 rintro e u0 ⟨rfl,hb0⟩
 obtain ⟨hc0,hf0⟩:=C_ hb0
 have hz0:w.heap.size<u0.heap.size∧w.heap.size+1<u0.heap.size:=by have:=hb0.size;(try simp at this);omega
 obtain ⟨hz0a,hz0b⟩:=hz0
 go_wp2_with fail
 refine (A4z _ _ x.y y.y _ _ _ (TRat.mkAgg (Sl.below W4.o Below.go) (Sl.below W5.o Below.go)) (TRat.mkAgg (Sl.below V4.o Below.go) (Sl.below V5.o Below.go))).mono ?_
 rintro e u1 ⟨rfl,hb1⟩
 obtain ⟨hc1,hf1⟩:=C_ hb1
 have hz1:w.heap.size<u1.heap.size∧w.heap.size+1<u1.heap.size:=by have:=hb1.size;(try simp at this);omega
 obtain ⟨hz1a,hz1b⟩:=hz1
 go_wp2
 go_ret
 have heq:x=y:=@B9g x y Q0.o Q1.o
 exact ⟨R_ (by simp[heq]),Below.go⟩
theorem A5u (v v':Value) (x y:TRat) (bs bs':List Nat) (w:World) (hx:Agg w v x bs) (hy:Agg w v' y bs'):Calls Tryz.prog 303 #[v,v'] w (A0j w (.bool (decide (x=y)))):=by
 obtain ⟨A1,nA1,cA1,sA1,A2,nA2,cA2,sA2,rfl,rfl,w1,w2⟩:=TRat.agg hx
 obtain ⟨B1,nB1,cB1,sB1,B2,nB2,cB2,sB2,rfl,rfl,v1,v2⟩:=TRat.agg hy
 have W1:=A_ w1;have V1:=A_ v1
 have W2:=A_ w2;have V2:=A_ v2
 clear hx hy w1 v1 w2 v2
 by_cases q0:x.num.neg=y.num.neg
 rotate_left
 ·have g0:(x.num.neg==y.num.neg)=false:=by simp[q0]
  have Q:=A_ q0;clear q0
  go_enter Tryz.func303,Tryz.ntmps303
  go_wp2
  go_ret
  exact ⟨R_ (by have:x≠y:=fun e=>Q.o (by rw[e]);simp[this]),Below.go⟩
 have g0:(x.num.neg==y.num.neg)=true:=by simp[q0]
 have Q0:=A_ q0;clear q0
 by_cases q1:x.num.mag=y.num.mag
 rotate_left
 ·have g1:decide (x.num.mag=y.num.mag)=false:=by simp[q1]
  have Q:=A_ q1;clear q1
  go_enter Tryz.func303,Tryz.ntmps303
  go_wp2_with fail
  refine (A6p _ _ _ _ _ _ x.num.mag y.num.mag _ _ _ (Sl.below W1.o Below.go) (Sl.below V1.o Below.go)).mono ?_
  rintro e u1 ⟨rfl,hb1⟩
  obtain ⟨hc1,hf1⟩:=C_ hb1
  have hz1:w.heap.size<u1.heap.size∧w.heap.size+1<u1.heap.size:=by have:=hb1.size;(try simp at this);omega
  obtain ⟨hz1a,hz1b⟩:=hz1
  go_wp2
  go_ret
  exact ⟨R_ (by have:x≠y:=fun e=>Q.o (by rw[e]);simp[this]),Below.go⟩
 have g1:decide (x.num.mag=y.num.mag)=true:=by simp[q1]
 have Q1:=A_ q1;clear q1
 by_cases q2:x.den=y.den
 rotate_left
 ·have g2:decide (x.den=y.den)=false:=by simp[q2]
  have Q:=A_ q2;clear q2
  go_enter Tryz.func303,Tryz.ntmps303
  go_wp2_with fail
  refine (A6p _ _ _ _ _ _ x.num.mag y.num.mag _ _ _ (Sl.below W1.o Below.go) (Sl.below V1.o Below.go)).mono ?_
  rintro e u1 ⟨rfl,hb1⟩
  obtain ⟨hc1,hf1⟩:=C_ hb1
  have hz1:w.heap.size<u1.heap.size∧w.heap.size+1<u1.heap.size:=by have:=hb1.size;(try simp at this);omega
  obtain ⟨hz1a,hz1b⟩:=hz1
  go_wp2_with fail
  refine (A6p _ _ _ _ _ _ x.den y.den _ _ _ (Sl.below W2.o Below.go) (Sl.below V2.o Below.go)).mono ?_
  rintro e u2 ⟨rfl,hb2⟩
  obtain ⟨hc2,hf2⟩:=C_ hb2
  have hz2:w.heap.size<u2.heap.size∧w.heap.size+1<u2.heap.size:=by have:=hb2.size;(try simp at this);omega
  obtain ⟨hz2a,hz2b⟩:=hz2
  go_wp2
  go_ret
  exact ⟨R_ (by have:x≠y:=fun e=>Q.o (by rw[e]);simp[this]),Below.go⟩
 have g2:decide (x.den=y.den)=true:=by simp[q2]
 have Q2:=A_ q2;clear q2
 go_enter Tryz.func303,Tryz.ntmps303
 go_wp2_with fail
 refine (A6p _ _ _ _ _ _ x.num.mag y.num.mag _ _ _ (Sl.below W1.o Below.go) (Sl.below V1.o Below.go)).mono ?_
 rintro e u1 ⟨rfl,hb1⟩
 obtain ⟨hc1,hf1⟩:=C_ hb1
 have hz1:w.heap.size<u1.heap.size∧w.heap.size+1<u1.heap.size:=by have:=hb1.size;(try simp at this);omega
 obtain ⟨hz1a,hz1b⟩:=hz1
 go_wp2_with fail
 refine (A6p _ _ _ _ _ _ x.den y.den _ _ _ (Sl.below W2.o Below.go) (Sl.below V2.o Below.go)).mono ?_
 rintro e u2 ⟨rfl,hb2⟩
 obtain ⟨hc2,hf2⟩:=C_ hb2
 have hz2:w.heap.size<u2.heap.size∧w.heap.size+1<u2.heap.size:=by have:=hb2.size;(try simp at this);omega
 obtain ⟨hz2a,hz2b⟩:=hz2
 go_wp2
 go_ret
 have heq:x=y:=@C2w x y Q0.o Q1.o Q2.o
 exact ⟨R_ (by simp[heq]),Below.go⟩
theorem B8v (v v':Value) (x y:TPoint) (bs bs':List Nat) (w:World) (hx:Agg w v x bs) (hy:Agg w v' y bs'):Calls Tryz.prog 282 #[v,v'] w (A0j w (.bool (decide (x=y)))):=by
 obtain ⟨A1,nA1,cA1,sA1,A2,nA2,cA2,sA2,A4,nA4,cA4,sA4,A5,nA5,cA5,sA5,rfl,rfl,w1,w2,w4,w5⟩:=TPoint.agg hx
 obtain ⟨B1,nB1,cB1,sB1,B2,nB2,cB2,sB2,B4,nB4,cB4,sB4,B5,nB5,cB5,sB5,rfl,rfl,v1,v2,v4,v5⟩:=TPoint.agg hy
 have W1:=A_ w1;have V1:=A_ v1
 have W2:=A_ w2;have V2:=A_ v2
 have W4:=A_ w4;have V4:=A_ v4
 have W5:=A_ w5;have V5:=A_ v5
 clear hx hy w1 v1 w2 v2 w4 v4 w5 v5
 by_cases q0:x.x=y.x
 rotate_left
 ·have g0:decide (x.x=y.x)=false:=by simp[q0]
  have Q:=A_ q0;clear q0
  go_enter Tryz.func282,Tryz.ntmps282
  go_wp2_with fail
  refine (A5u _ _ x.x y.x _ _ _ (TRat.mkAgg (Sl.below W1.o Below.go) (Sl.below W2.o Below.go)) (TRat.mkAgg (Sl.below V1.o Below.go) (Sl.below V2.o Below.go))).mono ?_
  rintro e u0 ⟨rfl,hb0⟩
  obtain ⟨hc0,hf0⟩:=C_ hb0
  have hz0:w.heap.size<u0.heap.size∧w.heap.size+1<u0.heap.size:=by have:=hb0.size;(try simp at this);omega
  obtain ⟨hz0a,hz0b⟩:=hz0
  go_wp2
  go_ret
  exact ⟨R_ (by have:x≠y:=fun e=>Q.o (by rw[e]);simp[this]),Below.go⟩
 have g0:decide (x.x=y.x)=true:=by simp[q0]
 have Q0:=A_ q0;clear q0
 by_cases q1:x.y=y.y
 rotate_left
 ·have g1:decide (x.y=y.y)=false:=by simp[q1]
  have Q:=A_ q1;clear q1
  go_enter Tryz.func282,Tryz.ntmps282
  go_wp2_with fail
  refine (A5u _ _ x.x y.x _ _ _ (TRat.mkAgg (Sl.below W1.o Below.go) (Sl.below W2.o Below.go)) (TRat.mkAgg (Sl.below V1.o Below.go) (Sl.below V2.o Below.go))).mono ?_
  rintro e u0 ⟨rfl,hb0⟩
  obtain ⟨hc0,hf0⟩:=C_ hb0
  have hz0:w.heap.size<u0.heap.size∧w.heap.size+1<u0.heap.size:=by have:=hb0.size;(try simp at this);omega
  obtain ⟨hz0a,hz0b⟩:=hz0
  go_wp2_with fail
  refine (A5u _ _ x.y y.y _ _ _ (TRat.mkAgg (Sl.below W4.o Below.go) (Sl.below W5.o Below.go)) (TRat.mkAgg (Sl.below V4.o Below.go) (Sl.below V5.o Below.go))).mono ?_
  rintro e u1 ⟨rfl,hb1⟩
  obtain ⟨hc1,hf1⟩:=C_ hb1
  have hz1:w.heap.size<u1.heap.size∧w.heap.size+1<u1.heap.size:=by have:=hb1.size;(try simp at this);omega
  obtain ⟨hz1a,hz1b⟩:=hz1
  go_wp2
  go_ret
  exact ⟨R_ (by have:x≠y:=fun e=>Q.o (by rw[e]);simp[this]),Below.go⟩
 have g1:decide (x.y=y.y)=true:=by simp[q1]
 have Q1:=A_ q1;clear q1
 go_enter Tryz.func282,Tryz.ntmps282
 go_wp2_with fail
 refine (A5u _ _ x.x y.x _ _ _ (TRat.mkAgg (Sl.below W1.o Below.go) (Sl.below W2.o Below.go)) (TRat.mkAgg (Sl.below V1.o Below.go) (Sl.below V2.o Below.go))).mono ?_
 rintro e u0 ⟨rfl,hb0⟩
 obtain ⟨hc0,hf0⟩:=C_ hb0
 have hz0:w.heap.size<u0.heap.size∧w.heap.size+1<u0.heap.size:=by have:=hb0.size;(try simp at this);omega
 obtain ⟨hz0a,hz0b⟩:=hz0
 go_wp2_with fail
 refine (A5u _ _ x.y y.y _ _ _ (TRat.mkAgg (Sl.below W4.o Below.go) (Sl.below W5.o Below.go)) (TRat.mkAgg (Sl.below V4.o Below.go) (Sl.below V5.o Below.go))).mono ?_
 rintro e u1 ⟨rfl,hb1⟩
 obtain ⟨hc1,hf1⟩:=C_ hb1
 have hz1:w.heap.size<u1.heap.size∧w.heap.size+1<u1.heap.size:=by have:=hb1.size;(try simp at this);omega
 obtain ⟨hz1a,hz1b⟩:=hz1
 go_wp2
 go_ret
 have heq:x=y:=@B9g x y Q0.o Q1.o
 exact ⟨R_ (by simp[heq]),Below.go⟩
end Go.Proofs.YtbhemnidcleaiaaGreat.X
