/- A part of the proof. -/
import Derived.Test.YtbhemnidcleaiaaGreatY6
import Derived.Test.YtbhemnidcleaiaaGreatY3
import Derived.Deep.LoopGhost
set_option linter.constructorNameAsVariable false
set_option maxHeartbeats 16000000
set_option maxRecDepth 10000
namespace Go.Proofs.YtbhemnidcleaiaaGreat.X
open Go.RowKit Go.XB Go.XN
attribute [local go_sem] O_ opAt P_ M_ Region.wanted yielded
attribute [local simp] P_ M_ MP.eq A0e

theorem B5d {a b:Int}:Int.gcd b (a % b)=Int.gcd a b:=by
 have h:=Int.gcd_add_mul_left_right b (a % b) (a / b)
 rw[Int.emod_add_mul_ediv] at h
 rw[← h,Int.gcd_comm]
theorem A6u {w:World} {b b':Nat} {e:TypeId} {size:Nat} {v:Value} {n:Nat} {xs:List Value} (h:w.ownsRow b e size v n xs) (hb:b'≤b):w.ownsRow b' e size v n xs:=by
 refine ⟨h.1,?_⟩
 rcases h.2 with h2 | ⟨g,cap,cur,h1,h2,h3⟩
 ·exact .inl h2
 exact .inr ⟨g,cap,cur,h1,Nat.le_trans hb h2,h3⟩

theorem B6i (A B:Option Addr) (n m c d:Nat) (xs ys:List Int) (bs ds:List Nat) (w:World) (hx:Sl w A n c xs bs) (hy:Sl w B m d ys ds) (hcx:XN.Can xs) (hcy:XN.Can ys) (hn:n≤65536) (hm:m≤65536) :
  Calls Tryz.prog 87 #[.slice A n c,.slice B m d] w (A6t w 3 (dig (Int.gcd (G_ xs) (G_ ys)))):=by
 have HX:=A_ hx
 have HY:=A_ hy
 have CX:=A_ hcx
 have CY:=A_ hcy
 clear hx hy hcx hcy
 go_enter Tryz.func87,Tryz.ntmps87
 go_wp2_with fail
 go_loopg [0,1,6] (G_ ys).toNat (fun g s0 s1 s6 wr=>∃ (A B:Option Addr) (n m c d:Nat) (x y:List Int) (bs ds:List Nat),s0=.slice A n c∧s1=.slice B m d∧Hid (Sl wr A n c x bs)∧Hid (Sl wr B m d y ds)∧Hid (XN.Can x)∧Hid (XN.Can y)∧n≤65536∧m≤65536∧Hid (Int.gcd (G_ x) (G_ y)=Int.gcd (G_ xs) (G_ ys))∧Hid (G_ y=g)∧Below w.heap.size w wr)
 case atStart=>exact ⟨A,B,n,m,c,d,xs,ys,bs,ds,rfl,rfl,HX.o,HY.o,CX,CY,hn,hm,rfl,(Int.toNat_of_nonneg (T_ CY.o.1)).symm,Below.refl _ _⟩
 case round =>
  obtain ⟨A,B,n,m,c,d,x,y,bs,ds,rfl,rfl,hx,hy,cx,cy,hn,hm,hg,hk,hb⟩:=hrel
  have hl:=A_ (show y.length=m from hy.o.1)
  by_cases hm0:0<m
  ·have hyp:=A_ (cy.o.pos (by intro e;have:=hl.o;rw[e] at this;simp at this;omega))
   go_wp2_with fail
   refine (B1p A B n m c d x y bs ds wr hx.o hy.o cx.o cy.o hn hm0).mono ?_
   rintro _ w1 ⟨A1,n1,c1,b1,A2,n2,c2,b2,rfl,hq,hr,ho,hb1⟩
   have HR:=A_ hr
   have HY1:=A_ (Sl.below hy.o hb1)
   have hb2:Below w.heap.size w w1:=Below.next hb hb1
   have rl:=A_ (show n2≤m by
    rw[← hr.1]
    refine A3h ?_
    have h1:=Int.emod_lt_of_pos (G_ x) hyp.o
    have h2:=Int.emod_nonneg (G_ x) (show G_ y≠0 by have:=hyp.o;omega)
    have h3:=A2r cy.o.1
    rw[hl.o] at h3
    omega)
   have r1:=A_ (show Int.gcd (G_ y) (G_ (dig (G_ x % G_ y).toNat))=Int.gcd (G_ xs) (G_ ys) by
    rw[A1n,Int.toNat_of_nonneg (Int.emod_nonneg _ (by have:=hyp.o;omega)),B5d];exact hg.o)
   have r2:=A_ (show G_ (dig (G_ x % G_ y).toNat)=((G_ x % G_ y).toNat:Int) from A1n _)
   have rm:=A_ (show (G_ x % G_ y).toNat<gk by
    have h1:=Int.emod_lt_of_pos (G_ x) hyp.o
    have h2:=hk.o
    have h3:=hyp.o
    omega)
   have rn:=A_ (show n2≤65536 from Nat.le_trans rl.o hm)
   clear hq hr ho hb hb1
   have CR:=A_ (W_ (G_ x % G_ y).toNat)
   go_wp2_with fail
   go_roundg (G_ x % G_ y).toNat
   case measure=>exact rm.o
   case rel=>exact ⟨B,A2,m,n2,d,c2,y,_,ds,b2,rfl,rfl,HY1.o,HR.o,cy,CR.o,hm,rn.o,r1.o,r2.o,hb2⟩
  obtain rfl:m=0:=by omega
  have e:=A_ (show x=dig (Int.gcd (G_ xs) (G_ ys)) by
   rw[← hg.o,show G_ y=0 by rw[List.eq_nil_of_length_eq_zero hl.o];rfl,Int.gcd_zero_right]
   exact (cx.o.dig_natAbs).symm)
  go_wp2_with fail
  refine (B2n A n c x bs wr hx.o (Nat.le_trans hn (by decide))).mono ?_
  rintro _ w1 ⟨v1,rfl,hown,hb1⟩
  have hb2:Below w.heap.size w w1:=Below.next hb hb1
  have hown1:=A6u hown hb.size
  rw[e.o] at hown1
  go_wp2
  go_ret
  exact ⟨_,rfl,hown1,hb2⟩

theorem B0c (a b:Int) (w:World) (ha:0≤a) (hb:0≤b) (ha1:a≤9223372036854775807) (hb1:b≤9223372036854775807) :
  Calls Tryz.prog 85 #[.int .i64 a,.int .i64 b] w (A0j w (.int .i64 (Int.gcd a b))):=by
 go_enter Tryz.func85,Tryz.ntmps85
 go_wp2_with fail
 go_loopg [0,1] b.toNat (fun g s0 s1 wr=>∃ x y:Int,s0=.int .i64 x∧s1=.int .i64 y∧0≤x∧x≤9223372036854775807∧0≤y∧y≤9223372036854775807∧Hid (Int.gcd x y=Int.gcd a b)∧Hid (y=g)∧Below w.heap.size w wr)
 case atStart=>exact ⟨a,b,rfl,rfl,ha,ha1,hb,hb1,rfl,(Int.toNat_of_nonneg hb).symm,Below.refl _ _⟩
 case round =>
  obtain ⟨x,y,rfl,rfl,hx0,hx1,hy0,hy1,hg,hk,hbw⟩:=hrel
  by_cases hy:0<y
  ·have r0:=A_ (show 0≤x % y∧x % y<y from ⟨Int.emod_nonneg _ (by omega),Int.emod_lt_of_pos _ hy⟩)
   have r1:=A_ (show Int.gcd y (x % y)=Int.gcd a b by rw[B5d];exact hg.o)
   have rm:=A_ (show (x % y).toNat<gk∧x % y≤9223372036854775807∧x % y=((x % y).toNat:Int) by have:=r0.o;have:=hk.o;omega)
   go_wp2_with fail
   refine A0l ?_
   iterate 3
    refine D_ _ ?_
   refine A3r (Value.int .i64 (x % y)) ?_ ?_
   ·intro yq zq wq hC hd
    obtain ⟨hcq,hfq⟩:=C_ hC
    simp at hd
    refine ⟨by go_simp;done,?_⟩
    go_simp
    rw[if_neg (by omega),Int.tmod_eq_emod_of_nonneg hx0]
   iterate 2
    refine D_ _ ?_
   intro yq zq wa hC hd (hdis:Hid _)
   simp at hd
   go_simp
   clear hd hdis
   have hb2:=Below.next hbw hC
   clear hC
   go_wp2_with fail
   go_roundg (x % y).toNat
   case measure=>exact rm.o.1
   case rel=>exact ⟨y,x % y,rfl,rfl,hy0,hy1,r0.o.1,rm.o.2.1,r1,rm.o.2.2,hb2⟩
  obtain rfl:y=0:=by omega
  have e:=A_ (show x=(Int.gcd a b:Int) by rw[← hg.o,Int.gcd_zero_right];omega)
  go_wp2
  go_ret
  exact ⟨A1d e.o,hbw⟩

theorem A8m (A:Option Addr) (n c:Nat) (xs:List Int) (bs:List Nat) (w:World) (hx:Sl w A n c xs bs) :
  Calls Tryz.prog 86 #[.slice A n c] w (A0j w (.bool (decide (xs=[1])))):=by
 have HL:=A_ hx.1
 by_cases h1:n=1
 ·subst h1
  obtain ⟨b,off,x,rfl,hbl,hx1,hI,hc⟩:=Sl.getInt hx (k:=0) (by decide)
  simp only [Nat.add_zero] at hc
  have e:=A_ (show (x==1)=decide (xs=[1]) by
   have h:=HL.o
   match xs,h with
   | [y],_=>simp at hx1;subst hx1;simp;rfl)
  clear hx hx1
  go_enter Tryz.func86,Tryz.ntmps86
  go_wp2
  go_ret
  exact ⟨R_ e.o,Below.go⟩
 have e:=A_ (show decide (xs=[1])=false by
  simp;intro h;apply h1;rw[← HL.o,h];rfl)
 have hn:((n:Int)==1)=false:=by simp;omega
 clear hx h1
 go_enter Tryz.func86,Tryz.ntmps86
 go_wp2
 go_ret
 exact ⟨R_ e.o.symm,Below.go⟩

theorem A3x (neg:Bool) (A:Option Addr) (n c:Nat) (w:World) :
  Calls Tryz.prog 71 #[.bool neg,.slice A n c] w (A0j w (.agg #[.bool (neg&&decide (0<n)),.slice A n c])):=by
 cases neg
 ·go_enter Tryz.func71,Tryz.ntmps71
  go_wp2
  exact bodyPost_ret (v:=.agg #[.bool false,.slice A n c]) (by simp[results,Tryz.results71,go_sem]) rfl ⟨rfl,Below.go⟩
 by_cases h0:0<n
 ·have e:decide (0<n)=true:=by simpa using h0
  rw[e]
  go_enter Tryz.func71,Tryz.ntmps71
  go_wp2
  exact bodyPost_ret (v:=.agg #[.bool true,.slice A n c]) (by simp[results,Tryz.results71,go_sem]) rfl ⟨rfl,Below.go⟩
 obtain rfl:n=0:=by omega
 go_enter Tryz.func71,Tryz.ntmps71
 go_wp2
 exact bodyPost_ret (v:=.agg #[.bool false,.slice A 0 c]) (by simp[results,Tryz.results71,go_sem]) rfl ⟨rfl,Below.go⟩

theorem D2x {n:Int} (h0:n<0) (h1:-9223372036854775808≤n):IntKind.u64.wrap (-IntKind.u64.wrap n) = -n:=by
 simp[IntKind.wrap,IntKind.signed,IntKind.bits];omega
theorem A6b {α:Type} [Dat α] {w w0 u W:World} {lo:Nat} {A:Option Addr} {n c:Nat} {xs:List α} {bs:List Nat} (h:Sl u A n c xs bs) (ho:Own w0 u bs) (hs:w.heap.size≤w0.heap.size) (hl:lo≤w0.heap.size) (ha:Above lo u W):Sl W A n c xs bs∧Own w W bs :=
 ⟨Sl.above h ho ha hl,(ho.above ha hl).older hs⟩

theorem A7k (N:Int) (w:World) (h:I64 N):Calls Tryz.prog 61 #[.int .i64 N] w (X_ w (Q_ N)):=by
 have h0:=h.1
 have h1:=h.2
 rcases Int.lt_or_le N 0 with hN | hN
 ·have E:=A_ (D2x hN h0)
  have E1:=A_ (show 0≤IntKind.u64.wrap (-IntKind.u64.wrap N)∧IntKind.u64.wrap (-IntKind.u64.wrap N)≤18446744073709551615 by rw[E.o];omega)
  have E3:=A_ (show dig (IntKind.u64.wrap (-IntKind.u64.wrap N)).toNat=(Q_ N).mag by rw[E.o,show (-N).toNat=N.natAbs by omega];rfl)
  go_enter Tryz.func61,Tryz.ntmps61
  go_wp2_with fail
  refine (B0u (IntKind.u64.wrap (-IntKind.u64.wrap N)) _ E1.o.1 E1.o.2).mono ?_
  rintro _ w1 ⟨A,n,c,bs,rfl,hs,ho,hb1⟩
  rw[E3.o] at hs
  have HS:=A_ hs
  have HO:=A_ ho
  obtain ⟨hc_w1,hf_w1⟩:=C_ hb1
  have hz0_w1:w.heap.size<w1.heap.size:=N_ hb1
  have E2:=A_ (show (true&&decide (0<n))=(Q_ N).neg by
   have:=hs.1
   unfold Q_ at this ⊢
   simp only [hN,Bool.true_and,decide_true,decide_eq_true_eq]
   rw[← this]
   have:dig N.natAbs≠[]:=by rw[Ne,A9e];omega
   exact List.length_pos_iff.2 this)
  clear hs ho
  go_wp2_with fail
  have C:=A3x true A n c w1
  rw[E2.o] at C
  refine C.mono ?_
  clear C
  rintro _ w2 ⟨rfl,hb2⟩
  obtain ⟨hc_w2,hf_w2⟩:=C_ hb2
  have hz0_w2:w.heap.size<w2.heap.size:=N_ hb2
  go_wp2
  refine bodyPost_ret (v:=.agg #[.bool (Q_ N).neg,.slice A n c]) (by simp[results,Tryz.results61,go_sem, *]) rfl ?_
  have f:=fun (W:World) (ha:Above (w.heap.size+1) w1 W)=>A6b (w:=w) HS.o HO.o (by simp) (by simp) ha
  exact ⟨_,bs,rfl,TBigInt.mkAgg (f _ Above.go).1,(f _ Above.go).2,Below.go⟩
 have E3:=A_ (show dig N.toNat=(Q_ N).mag by rw[show N.toNat=N.natAbs by omega];rfl)
 go_enter Tryz.func61,Tryz.ntmps61
 go_wp2_with fail
 refine (B0u N _ hN (by omega)).mono ?_
 rintro _ w1 ⟨A,n,c,bs,rfl,hs,ho,hb1⟩
 rw[E3.o] at hs
 have HS:=A_ hs
 have HO:=A_ ho
 obtain ⟨hc_w1,hf_w1⟩:=C_ hb1
 have hz0_w1:w.heap.size<w1.heap.size:=N_ hb1
 clear hs ho
 go_wp2_with fail
 have E2:=A_ (show (false&&decide (0<n))=(Q_ N).neg by unfold Q_;simp;omega)
 have C:=A3x false A n c w1
 rw[E2.o] at C
 refine C.mono ?_
 clear C
 rintro _ w2 ⟨rfl,hb2⟩
 obtain ⟨hc_w2,hf_w2⟩:=C_ hb2
 have hz0_w2:w.heap.size<w2.heap.size:=N_ hb2
 go_wp2
 refine bodyPost_ret (v:=.agg #[.bool (Q_ N).neg,.slice A n c]) (by simp[results,Tryz.results61,go_sem, *]) rfl ?_
 have f:=fun (W:World) (ha:Above (w.heap.size+1) w1 W)=>A6b (w:=w) HS.o HO.o (by simp) (by simp) ha
 exact ⟨_,bs,rfl,TBigInt.mkAgg (f _ Above.go).1,(f _ Above.go).2,Below.go⟩
end Go.Proofs.YtbhemnidcleaiaaGreat.X
namespace Go.Proofs.YtbhemnidcleaiaaGreat.X
open Go.RowKit Go.XB Go.XN
attribute [local go_sem] O_ opAt P_ M_ Region.wanted yielded
attribute [local simp] P_ M_ MP.eq MP.agg MP.sl A0e

theorem _root_.Go.XN.enc_of {neg:Bool} {N:Nat} {v:Int} (hv:v=if neg then -(N:Int) else N):(Q_ v).mag=dig N∧(Q_ v).neg=(neg&&decide (0<(dig N).length)):=by
 have:=B8r (neg:=neg) (W_ N) (v:=v) (by rw[A1n];exact hv)
 rw[← this]
 refine ⟨rfl,?_⟩
 cases dig N<;>simp
theorem _root_.Go.XN.mul_val {x y:TBigInt} (hx:Lims x.mag) (hy:Lims y.mag):A0f x*A0f y=if x.neg != y.neg then -((G_ x.mag*G_ y.mag).toNat:Int) else (G_ x.mag*G_ y.mag).toNat:=by
 have h:=Int.mul_nonneg (T_ hx) (T_ hy)
 rw[Int.toNat_of_nonneg h]
 unfold A0f
 cases x.neg<;>cases y.neg<;>simp[Int.neg_mul,Int.mul_neg]
theorem B7f {w W:World} {t:Int} {A:Option Addr} {n c:Nat} {bs:List Nat} (h:Sl W A n c (Q_ t).mag bs∧Own w W bs) (hb:Below w.heap.size w W):X_ w (Q_ t) (.returned (.agg #[.bool (Q_ t).neg,.slice A n c])) W :=
 ⟨_,bs,rfl,TBigInt.mkAgg h.1,h.2,hb⟩

theorem A2c {α:Type} [Dat α] {w u W:World} {lo:Nat} {A:Option Addr} {n c:Nat} {xs:List α} {bs:List Nat} (h:Sl u A n c xs bs) (hf:Free u bs) (hr:∀ b∈bs,lo≤b) (hl:w.heap.size≤lo) (ha:Above lo u W):Sl W A n c xs bs∧Own w W bs :=
 have hk:∀ g∈bs,W.heap[g]?=u.heap[g]?:=fun g hg=>ha.block g (hr g hg) (h.lt g hg)
 ⟨h.keep hk,hf.1,fun b hb=>⟨Nat.le_trans hl (hr b hb),by obtain ⟨cs,t,e⟩:=hf.2 b hb;exact ⟨cs,t,(hk b hb).trans e⟩⟩⟩

theorem A2l (v1 v2:Value) (x y:TBigInt) (b1 b2:List Nat) (w:World) (hx:Agg w v1 x b1) (hy:Agg w v2 y b2) (cx:Lims x.mag) (cy:Lims y.mag) (lx:x.mag.length≤1048576) (ly:y.mag.length≤1048576) :
  Calls Tryz.prog 68 #[v1,v2] w (X_ w (Q_ (A0f x*A0f y))):=by
 obtain ⟨A1,n1,c1,s1,rfl,rfl,hs1⟩:=TBigInt.agg hx
 obtain ⟨A2,n2,c2,s2,rfl,rfl,hs2⟩:=TBigInt.agg hy
 have H1:=A_ hs1;have H2:=A_ hs2
 have E:=A_ (enc_of (mul_val cx cy))
 have CX:=A_ cx;have CY:=A_ cy;have LX:=A_ lx;have LY:=A_ ly
 clear hs1 hs2 hx hy cx cy lx ly
 go_enter Tryz.func68,Tryz.ntmps68
 go_wp2_with fail
 refine Z_ (by simp) ?_
 dsimp only [List.dropLast,List.getLast,List.length]
 iterate 9
  refine D_ _ ?_
 refine F_ (MP.sl (Q_ (A0f x*A0f y)).mag) ?_ ?_
 ·intro yq zq wq hC hd
  obtain ⟨hcq,hfq⟩:=C_ hC
  simp at hd
  refine H_ ?_
  have:=A3w A1 A2 n1 n2 c1 c2 x.mag y.mag _ _ wq (Sl.below H1.o Below.go) (Sl.below H2.o Below.go) CX.o CY.o (by rw[← H1.o.1];exact LX.o) (by rw[← H2.o.1];exact LY.o)
  rw[← E.o.1] at this
  exact A0q this
 refine A2a (fun y'=>MP.eq (.agg #[.bool (Q_ (A0f x*A0f y)).neg,y' 9])) (by intro y y' h;simp[P_,M_] at h;simp[h]) ?_ ?_
 ·intro yq zq wq hC hd
  obtain ⟨hcq,hfq⟩:=C_ hC
  simp at hd
  refine H_ ?_
  obtain ⟨_,⟨A,n,c,e,hs⟩,_⟩:=hd
  rw[e]
  have C:=A3x (!(x.neg==y.neg)) A n c wq
  rw[show ((!(x.neg==y.neg))&&decide (0<n))=(Q_ (A0f x*A0f y)).neg by rw[E.o.2,← E.o.1,hs.1];rfl] at C
  exact A0t C
 intro yq zq wa hC hd (hdis:Hid _)
 simp at hd
 go_simp
 have q9:=hd.2.2.2.2.2.2.2.2.2.1
 have q10:=hd.2.2.2.2.2.2.2.2.2.2
 obtain ⟨⟨⟨A,n,c,e9,hs⟩,hf⟩,hr⟩:=q9
 have e10:=q10.1.1
 have HS:=A_ hs;have HF:=A_ hf;have HR:=A_ hr
 clear hd hdis q10 hs hf hr
 obtain ⟨hc_wa,hf_wa⟩:=C_ hC
 have hz0_wa:w.heap.size<wa.heap.size:=N_ hC
 have hz1_wa:w.heap.size+1<wa.heap.size:=N_ hC
 have hz2_wa:w.heap.size+1+1<wa.heap.size:=N_ hC
 go_wp2
 refine bodyPost_ret (v:=.agg #[.bool (Q_ (A0f x*A0f y)).neg,.slice A n c]) (by simp[results,Tryz.results68,go_sem, *]) rfl ?_
 have f:=fun (W:World) (ha:Above (w.heap.size+3) wa W)=>A2c (w:=w) HS.o HF.o (fun b hb=>(HR.o b hb).1) (by omega) ha
 exact B7f (f _ Above.go) Below.go

theorem _root_.Go.XN.add_same {x y:TBigInt} (hx:Lims x.mag) (hy:Lims y.mag) (h:x.neg=y.neg):A0f x+A0f y=if x.neg then -((G_ x.mag+G_ y.mag).toNat:Int) else (G_ x.mag+G_ y.mag).toNat:=by
 have h1:=T_ hx;have h2:=T_ hy
 unfold A0f
 rw[← h]
 cases x.neg<;>simp<;>omega
theorem _root_.Go.XN.add_ge {x y:TBigInt} (h:¬ x.neg=y.neg) (hle:G_ y.mag≤G_ x.mag):A0f x+A0f y=if x.neg then -((G_ x.mag - G_ y.mag).toNat:Int) else (G_ x.mag - G_ y.mag).toNat:=by
 unfold A0f
 cases hx:x.neg<;>cases hy:y.neg<;>simp_all<;>omega
theorem _root_.Go.XN.add_lt {x y:TBigInt} (h:¬ x.neg=y.neg) (hle:G_ x.mag≤G_ y.mag):A0f x+A0f y=if y.neg then -((G_ y.mag - G_ x.mag).toNat:Int) else (G_ y.mag - G_ x.mag).toNat:=by
 unfold A0f
 cases hx:x.neg<;>cases hy:y.neg<;>simp_all<;>omega

theorem A9k (v1 v2:Value) (x y:TBigInt) (b1 b2:List Nat) (w:World) (hx:Agg w v1 x b1) (hy:Agg w v2 y b2) (cx:XN.Can x.mag) (cy:XN.Can y.mag) (lx:x.mag.length≤1048576) (ly:y.mag.length≤1048576) :
  Calls Tryz.prog 67 #[v1,v2] w (X_ w (Q_ (A0f x+A0f y))):=by
 obtain ⟨A1,n1,c1,s1,rfl,rfl,hs1⟩:=TBigInt.agg hx
 obtain ⟨A2,n2,c2,s2,rfl,rfl,hs2⟩:=TBigInt.agg hy
 have H1:=A_ hs1;have H2:=A_ hs2
 have CX:=A_ cx;have CY:=A_ cy;have LX:=A_ lx;have LY:=A_ ly
 clear hs1 hs2 hx hy cx cy lx ly
 by_cases hn:x.neg=y.neg
 ·have E:=A_ (enc_of (add_same CX.o.1 CY.o.1 hn))
  have hb:(x.neg==y.neg)=true:=by simp[hn]
  have HN:=A_ hn
  clear hn
  go_enter Tryz.func67,Tryz.ntmps67
  go_wp2_with fail
  refine Z_ (by simp) ?_
  dsimp only [List.dropLast,List.getLast,List.length]
  iterate 6
   refine D_ _ ?_
  refine F_ (MP.sl (Q_ (A0f x+A0f y)).mag) ?_ ?_
  ·intro yq zq wq hC hd
   obtain ⟨hcq,hfq⟩:=C_ hC
   simp at hd
   refine H_ ?_
   have:=C3b A1 A2 n1 n2 c1 c2 x.mag y.mag _ _ wq (Sl.below H1.o Below.go) (Sl.below H2.o Below.go) CX.o CY.o (by rw[← H1.o.1];exact LX.o) (by rw[← H2.o.1];exact LY.o)
   rw[← E.o.1] at this
   exact A0q this
  refine A2a (fun y'=>MP.eq (.agg #[.bool (Q_ (A0f x+A0f y)).neg,y' 6])) (by intro y y' h;simp[P_,M_] at h;simp[h]) ?_ ?_
  ·intro yq zq wq hC hd
   obtain ⟨hcq,hfq⟩:=C_ hC
   simp at hd
   refine H_ ?_
   obtain ⟨_,⟨A,n,c,e,hs⟩,_⟩:=hd
   rw[e]
   have C:=A3x x.neg A n c wq
   rw[show (x.neg&&decide (0<n))=(Q_ (A0f x+A0f y)).neg by rw[E.o.2,← E.o.1,hs.1]] at C
   exact A0t C
  intro yq zq wa hC hd (hdis:Hid _)
  simp at hd
  go_simp
  have q6:=hd.2.2.2.2.2.2.1
  have q7:=hd.2.2.2.2.2.2.2
  obtain ⟨⟨⟨A,n,c,e6,hs⟩,hf⟩,hr⟩:=q6
  have e7:=q7.1.1
  have HS:=A_ hs;have HF:=A_ hf;have HR:=A_ hr
  clear hd hdis q7 hs hf hr
  obtain ⟨hc_wa,hf_wa⟩:=C_ hC
  have hz0_wa:w.heap.size<wa.heap.size:=N_ hC
  have hz1_wa:w.heap.size+1<wa.heap.size:=N_ hC
  have hz2_wa:w.heap.size+1+1<wa.heap.size:=N_ hC
  go_wp2
  refine bodyPost_ret (v:=.agg #[.bool (Q_ (A0f x+A0f y)).neg,.slice A n c]) (by simp[results,Tryz.results67,go_sem, *]) rfl ?_
  have f:=fun (W:World) (ha:Above (w.heap.size+3) wa W)=>A2c (w:=w) HS.o HF.o (fun b hb=>by have:=(HR.o b hb).1;omega) (by omega) ha
  exact B7f (f _ Above.go) Below.go
 have hb:(x.neg==y.neg)=false:=by simp[hn]
 rcases Int.lt_or_le (G_ x.mag) (G_ y.mag) with hc | hc
 ·have E:=A_ (enc_of (add_lt hn (Int.le_of_lt hc)))
  have S:=A_ (A7s hc)
  have HC:=A_ hc
  clear hn hc
  go_enter Tryz.func67,Tryz.ntmps67
  go_wp2_with fail
  refine (B1t A1 A2 n1 n2 c1 c2 x.mag y.mag _ _ _ (Sl.below H1.o Below.go) (Sl.below H2.o Below.go) CX.o CY.o).mono ?_
  rintro _ w1 ⟨rfl,hb1⟩
  rw[S.o]
  obtain ⟨hc_w1,hf_w1⟩:=C_ hb1
  have hz0_w1:w.heap.size<w1.heap.size:=N_ hb1
  have hz1_w1:w.heap.size+1<w1.heap.size:=N_ hb1
  have hz2_w1:w.heap.size+1+1<w1.heap.size:=N_ hb1
  go_wp2_with fail
  refine Z_ (by simp) ?_
  dsimp only [List.dropLast,List.getLast,List.length]
  iterate 6
   refine D_ _ ?_
  refine F_ (MP.sl (Q_ (A0f x+A0f y)).mag) ?_ ?_
  ·intro yq zq wq hC hd
   obtain ⟨hcq,hfq⟩:=C_ hC
   simp at hd
   refine H_ ?_
   have:=B6o A2 A1 n2 n1 c2 c1 y.mag x.mag _ _ wq (Sl.below H2.o Below.go) (Sl.below H1.o Below.go) CY.o CX.o (by rw[← H2.o.1];exact LY.o) (Int.le_of_lt HC.o)
   rw[← E.o.1] at this
   exact A0q this
  refine A2a (fun y'=>MP.eq (.agg #[.bool (Q_ (A0f x+A0f y)).neg,y' 6])) (by intro y y' h;simp[P_,M_] at h;simp[h]) ?_ ?_
  ·intro yq zq wq hC hd
   obtain ⟨hcq,hfq⟩:=C_ hC
   simp at hd
   refine H_ ?_
   obtain ⟨_,⟨A,n,c,e,hs⟩,_⟩:=hd
   rw[e]
   have C:=A3x y.neg A n c wq
   rw[show (y.neg&&decide (0<n))=(Q_ (A0f x+A0f y)).neg by rw[E.o.2,← E.o.1,hs.1]] at C
   exact A0t C
  intro yq zq wa hC hd (hdis:Hid _)
  simp at hd
  go_simp
  have q6:=hd.2.2.2.2.2.2.1
  have q7:=hd.2.2.2.2.2.2.2
  obtain ⟨⟨⟨A,n,c,e6,hs⟩,hf⟩,hr⟩:=q6
  have e7:=q7.1.1
  have HS:=A_ hs;have HF:=A_ hf;have HR:=A_ hr
  clear hd hdis q7 hs hf hr
  obtain ⟨hc_wa,hf_wa⟩:=C_ hC
  have hz0_wa:w.heap.size<wa.heap.size:=N_ hC
  have hz1_wa:w.heap.size+1<wa.heap.size:=N_ hC
  have hz2_wa:w.heap.size+1+1<wa.heap.size:=N_ hC
  go_wp2
  refine bodyPost_ret (v:=.agg #[.bool (Q_ (A0f x+A0f y)).neg,.slice A n c]) (by simp[results,Tryz.results67,go_sem, *]) rfl ?_
  have f:=fun (W:World) (ha:Above (w.heap.size+3) wa W)=>A2c (w:=w) HS.o HF.o (fun b hb=>by have:=(HR.o b hb).1;omega) (by omega) ha
  exact B7f (f _ Above.go) Below.go
 have E:=A_ (enc_of (add_ge hn hc))
 have S:=B0w hc
 have HC:=A_ hc
 clear hn hc
 go_enter Tryz.func67,Tryz.ntmps67
 go_wp2_with fail
 refine (B1t A1 A2 n1 n2 c1 c2 x.mag y.mag _ _ _ (Sl.below H1.o Below.go) (Sl.below H2.o Below.go) CX.o CY.o).mono ?_
 rintro _ w1 ⟨rfl,hb1⟩
 generalize sgn (G_ x.mag - G_ y.mag)=sg at *
 obtain ⟨hc_w1,hf_w1⟩:=C_ hb1
 have hz0_w1:w.heap.size<w1.heap.size:=N_ hb1
 have hz1_w1:w.heap.size+1<w1.heap.size:=N_ hb1
 have hz2_w1:w.heap.size+1+1<w1.heap.size:=N_ hb1
 go_wp2_with fail
 refine Z_ (by simp) ?_
 dsimp only [List.dropLast,List.getLast,List.length]
 iterate 6
  refine D_ _ ?_
 refine F_ (MP.sl (Q_ (A0f x+A0f y)).mag) ?_ ?_
 ·intro yq zq wq hC hd
  obtain ⟨hcq,hfq⟩:=C_ hC
  simp at hd
  refine H_ ?_
  have:=B6o A1 A2 n1 n2 c1 c2 x.mag y.mag _ _ wq (Sl.below H1.o Below.go) (Sl.below H2.o Below.go) CX.o CY.o (by rw[← H1.o.1];exact LX.o) HC.o
  rw[← E.o.1] at this
  exact A0q this
 refine A2a (fun y'=>MP.eq (.agg #[.bool (Q_ (A0f x+A0f y)).neg,y' 6])) (by intro y y' h;simp[P_,M_] at h;simp[h]) ?_ ?_
 ·intro yq zq wq hC hd
  obtain ⟨hcq,hfq⟩:=C_ hC
  simp at hd
  refine H_ ?_
  obtain ⟨_,⟨A,n,c,e,hs⟩,_⟩:=hd
  rw[e]
  have C:=A3x x.neg A n c wq
  rw[show (x.neg&&decide (0<n))=(Q_ (A0f x+A0f y)).neg by rw[E.o.2,← E.o.1,hs.1]] at C
  exact A0t C
 intro yq zq wa hC hd (hdis:Hid _)
 simp at hd
 go_simp
 have q6:=hd.2.2.2.2.2.2.1
 have q7:=hd.2.2.2.2.2.2.2
 obtain ⟨⟨⟨A,n,c,e6,hs⟩,hf⟩,hr⟩:=q6
 have e7:=q7.1.1
 have HS:=A_ hs;have HF:=A_ hf;have HR:=A_ hr
 clear hd hdis q7 hs hf hr
 obtain ⟨hc_wa,hf_wa⟩:=C_ hC
 have hz0_wa:w.heap.size<wa.heap.size:=N_ hC
 have hz1_wa:w.heap.size+1<wa.heap.size:=N_ hC
 have hz2_wa:w.heap.size+1+1<wa.heap.size:=N_ hC
 go_wp2
 refine bodyPost_ret (v:=.agg #[.bool (Q_ (A0f x+A0f y)).neg,.slice A n c]) (by simp[results,Tryz.results67,go_sem, *]) rfl ?_
 have f:=fun (W:World) (ha:Above (w.heap.size+3) wa W)=>A2c (w:=w) HS.o HF.o (fun b hb=>by have:=(HR.o b hb).1;omega) (by omega) ha
 exact B7f (f _ Above.go) Below.go

def NegOk (x:TBigInt):Prop:=x.neg=true→x.mag≠[]
theorem NegOk.lt {x:TBigInt} (h:NegOk x) (hc:XN.Can x.mag) (hn:x.neg=true):A0f x<0:=by
 have:=hc.pos (h hn)
 unfold A0f;rw[if_pos hn];omega
theorem NegOk.ge {x:TBigInt} (hc:XN.Can x.mag) (hn:x.neg=false):0≤A0f x:=by
 have:=T_ hc.1
 unfold A0f;rw[if_neg (by simp[hn])];omega
theorem C4i {a:Int} (h:a<0):sgn a = -1:=by unfold sgn;rw[if_pos h]
theorem C3h {a:Int} (h:0<a):sgn a=1:=by unfold sgn;rw[if_neg (by omega),if_pos h]
theorem D0u {a:Int} (h:a=0):sgn a=0:=by subst h;rfl

theorem C4l (n:Int) (w:World):Calls Tryz.prog 153 #[.int .i64 n] w (A0j w (.int .i64 (sgn n))):=by
 rcases Int.lt_trichotomy n 0 with h | h | h
 ·have E:=A_ (C4i h)
  go_enter Tryz.func153,Tryz.ntmps153
  go_wp2
  go_ret
  exact ⟨A1d E.o.symm,Below.go⟩
 ·subst h
  go_enter Tryz.func153,Tryz.ntmps153
  go_wp2
  go_ret
  exact ⟨rfl,Below.go⟩
 have E:=A_ (C3h h)
 have h':¬ n<0:=by omega
 go_enter Tryz.func153,Tryz.ntmps153
 go_wp2
 go_ret
 exact ⟨A1d E.o.symm,Below.go⟩

def inB (lo n hi:Int):Bool:=decide (lo≤n)&&decide (n≤hi)

theorem A0z (n lo hi:Int) (w:World):Calls Tryz.prog 43 #[.int .i64 n,.int .i64 lo,.int .i64 hi] w (A0j w (.bool (inB lo n hi))):=by
 rcases Int.lt_or_le n lo with h | h
 ·have E:=A_ (show false=inB lo n hi by unfold inB;simp;omega)
  have h':¬ (lo≤n):=by omega
  go_enter Tryz.func43,Tryz.ntmps43
  go_wp2
  go_ret
  exact ⟨R_ E.o,Below.go⟩
 have E:=A_ (show decide (n≤hi)=inB lo n hi by unfold inB;simp[h])
 go_enter Tryz.func43,Tryz.ntmps43
 go_wp2
 go_ret
 exact ⟨R_ E.o,Below.go⟩

theorem C0r (v:Value) (x:TRat) (b:List Nat) (w:World) (hx:Agg w v x b) (cx:XN.Can x.num.mag) (nx:NegOk x.num) :
  Calls Tryz.prog 37 #[v] w (A0j w (.int .i64 (B5z x))):=by
 obtain ⟨A1,n1,c1,s1,A2,n2,c2,s2,rfl,rfl,hs1,hs2⟩:=TRat.agg hx
 have L1:=A_ hs1.1
 clear hs1 hs2 hx
 rcases Nat.eq_zero_or_pos n1 with h0 | h0
 ·subst h0
  have E:=A_ (D0u (a:=A0f x.num) (by
   have:=List.eq_nil_of_length_eq_zero L1.o
   unfold A0f;rw[this];simp[G_]))
  clear cx nx
  go_enter Tryz.func37,Tryz.ntmps37
  go_wp2
  go_ret
  exact ⟨A1d E.o.symm,Below.go⟩
 have hz:((n1:Int)==0)=false:=by simp;omega
 cases hn:x.num.neg
 ·have E:=A_ (C3h (a:=A0f x.num) (by
   have:=cx.pos (by intro e;have:=L1.o;rw[e] at this;simp at this;omega)
   unfold A0f;rw[if_neg (by simp[hn])];exact this))
  clear cx nx hn
  go_enter Tryz.func37,Tryz.ntmps37
  go_wp2
  go_ret
  exact ⟨A1d E.o.symm,Below.go⟩
 ·have E:=A_ (C4i (nx.lt cx hn))
  clear cx nx hn
  go_enter Tryz.func37,Tryz.ntmps37
  go_wp2
  go_ret
  exact ⟨A1d E.o.symm,Below.go⟩

def A1t (x:TRat):Bool:=decide (x.num.mag.length≤1)&&decide (x.den.length=1)

theorem A0s (v:Value) (x:TRat) (b:List Nat) (w:World) (hx:Agg w v x b) :
  Calls Tryz.prog 64 #[v] w (A0j w (.bool (A1t x))):=by
 obtain ⟨A1,n1,c1,s1,A2,n2,c2,s2,rfl,rfl,hs1,hs2⟩:=TRat.agg hx
 have L1:=A_ hs1.1;have L2:=A_ hs2.1
 clear hs1 hs2 hx
 rcases Nat.lt_or_ge 1 n1 with h0 | h0
 ·have E:=A_ (show false=A1t x by unfold A1t;rw[L1.o];simp;omega)
  have hz:¬ ((n1:Int)≤1):=by omega
  go_enter Tryz.func64,Tryz.ntmps64
  go_wp2
  go_ret
  exact ⟨R_ E.o,Below.go⟩
 have E:=A_ (show ((n2:Int)==1)=A1t x by
  unfold A1t;rw[L1.o,L2.o,decide_eq_true h0,Bool.true_and,Bool.eq_iff_iff];simp;omega)
 have hz:(n1:Int)≤1:=by omega
 go_enter Tryz.func64,Tryz.ntmps64
 go_wp2
 go_ret
 exact ⟨R_ E.o,Below.go⟩

def C8q (w:World) (a b:Int) (e:Ending) (w':World):Prop:=e=.returned (.tuple #[.int .i64 a,.int .i64 b])∧Below w.heap.size w w'

theorem C8f {x:TRat} {d:Int} (h:x.den=[d]):I_ x=d:=by unfold I_;rw[h];simp[G_]
theorem C5q {x:TRat} (h:x.num.mag=[]):L_ x=0:=by unfold L_ A0f;rw[h];simp[G_]
theorem C5e {x:TRat} {a:Int} (h:x.num.mag=[a]):L_ x=if x.num.neg then -a else a:=by unfold L_ A0f;rw[h];simp[G_]

theorem A4f (v:Value) (x:TRat) (b:List Nat) (w:World) (hx:Agg w v x b) (hs:A1t x=true) (hl:Lims x.num.mag) (hn:NegOk x.num) :
  Calls Tryz.prog 65 #[v] w (C8q w (L_ x) (I_ x)):=by
 obtain ⟨A1,n1,c1,s1,A2,n2,c2,s2,rfl,rfl,hs1,hs2⟩:=TRat.agg hx
 have L1:=A_ hs1.1;have L2:=A_ hs2.1
 unfold A1t at hs
 rw[hs1.1,hs2.1] at hs
 simp only [Bool.and_eq_true,decide_eq_true_eq] at hs
 obtain ⟨h1,rfl⟩:=hs
 obtain ⟨bd,od,d,rfl,hbd,hd1,hdI,hdc⟩:=Sl.getInt hs2 (show 0<1 by decide)
 have D:=A_ (C8f (x:=x) (d:=d) (by
  match x.den,hs2.1,hd1 with
  | [y],_,h=>simp at h;rw[h]))
 simp only [Nat.add_zero] at hdc
 rcases Nat.eq_zero_or_pos n1 with h0 | h0
 ·subst h0
  have hm:x.num.mag=[]:=List.eq_nil_of_length_eq_zero L1.o
  have E:=A_ (C5q (x:=x) hm)
  have hng:x.num.neg=false:=by
   cases h:x.num.neg
   ·rfl
   exact absurd hm (hn h)
  clear hs1 hs2 hx hd1 hl hn hm h1
  go_enter Tryz.func65,Tryz.ntmps65
  go_wp2_with fail
  refine A0l ?_
  iterate 7
   refine D_ _ ?_
  intro yq zq wa hC hd (hdis:Hid _)
  simp at hd
  go_simp
  clear hd hdis
  go_wp2
  go_ret2
  refine ⟨?_,Below.go⟩
  rw[E.o,D.o]
  rfl
 obtain rfl:n1=1:=by omega
 obtain ⟨bn,on,a,rfl,hbn,hn1,hnI,hnc⟩:=Sl.getInt hs1 (show 0<1 by decide)
 have hm:x.num.mag=[a]:=by
  match x.num.mag,hs1.1,hn1 with
  | [y],_,h=>simp at h;rw[h]
 have E:=A_ (C5e (x:=x) (a:=a) hm)
 have hal:=hl a (by rw[hm];simp)
 obtain ⟨ha0,ha1⟩:=hal
 simp only [Nat.add_zero] at hnc
 cases hng:x.num.neg
 all_goals
  rw[hng] at E
  clear hs1 hs2 hx hd1 hl hn hm h1 hn1
  go_enter Tryz.func65,Tryz.ntmps65
  go_wp2_with fail
  refine A0l ?_
  iterate 7
   refine D_ _ ?_
  intro yq zq wa hC hd (hdis:Hid _)
  simp at hd
  go_simp
  clear hd hdis
  go_wp2
  go_ret2
  refine ⟨?_,Below.go⟩
  rw[E.o,D.o]
  rfl

def B4s (w:World) (b:Bool) (e:Ending) (w':World):Prop:=∃ r:Int,e=.returned (.int .i64 r)∧decide (0≤r)=b∧Below w.heap.size w w'

def A7g (x:Int):Bool:=!inB 0 x 999999999

theorem B5a (x:Int) (w:World):Calls Tryz.prog 135 #[.int .i64 x] w (A0j w (.bool (A7g x))):=by
 go_enter Tryz.func135,Tryz.ntmps135
 go_wp2_with fail
 refine (A0z x 0 999999999 w).mono ?_
 rintro _ w1 ⟨rfl,hb1⟩
 go_wp2
 go_ret
 exact ⟨rfl,hb1⟩

theorem C1j {α:Type} {xs:List α} {p:α→Bool} {k:Nat} {x:α} (h:xs[k]?=some x) (hp:p x=true):xs.any p=true :=
 List.any_eq_true.2 ⟨x,List.mem_of_getElem? h,hp⟩
theorem B2c {α:Type} {xs:List α} {p:α→Bool} {k:Nat} {x:α} (h:xs[k]?=some x) (h0:(xs.take k).any p=false) (hp:p x=false):(xs.take (k+1)).any p=false:=by
 rw[take_step h,List.any_append,h0];simp[hp]

def A5r (f:Nat):Prop:=∀ (a:Array Value) (w:World),Sem.run Tryz.prog (callFunc f a) w=.ok (.enter f a) w
theorem B2z:A5r 135:=fun a w=>by kernel_rfl

theorem C5f (f:Nat) (hf:A5r f) (A:Option Addr) (n c:Nat) (xs:List Int) (bs:List Nat) (w:World) (p:Int→Bool) (hx:Sl w A n c xs bs)
  (hp:∀ (x:Int) (w:World),Calls Tryz.prog f #[.int .i64 x] w (A0j w (.bool (p x)))) :
  Calls Tryz.prog 194 #[.slice A n c,.func (.func f) #[] #[]] w (B4s w (xs.any p)):=by
 have HL:=A_ hx.1
 have HX:=A_ hx
 have HP:=A_ hp
 unfold A5r at hf
 have hm:n≤maxLen:=Nat.le_trans hx.2.1 hx.2.2.1
 unfold maxLen at hm
 clear hx hp
 go_enter Tryz.func194,Tryz.ntmps194
 go_wp2_with fail
 go_loopg [8] n (fun g s8 wr=>∃ k:Nat,k+g=n∧s8=.int .i64 k∧Hid ((xs.take k).any p=false)∧Below w.heap.size w wr)
 case atStart=>exact ⟨0,by omega,rfl,by show (xs.take 0).any p=false;simp,Below.refl _ _⟩
 case round =>
  obtain ⟨k,hk,rfl,ha,hb⟩:=hrel
  rcases Nat.lt_or_ge k n with hkn | hkn
  ·obtain ⟨b,off,x,rfl,hbl,hx1,hI,hc⟩:=Sl.getInt (Sl.below HX.o hb) hkn
   have HX1:=A_ hx1
   have hki:(k:Int)<n:=by omega
   obtain ⟨g,rfl⟩:∃ g,gk=g+1:=⟨gk - 1,by omega⟩
   have hk':=A_ (show k+1+g=n by omega)
   clear hx1 hk hkn
   have hkj:k+1≤n:=by have:=hk'.o;omega
   go_wp2_with fail
   refine (HP.o x wr).mono ?_
   rintro _ w1 ⟨rfl,hb1⟩
   have hb2:=Below.next hb hb1
   cases hpx:p x
   ·have r1:=A_ (B2c HX1.o ha.o hpx)
    clear hpx
    go_wp2_with fail
    go_roundg g
    case measure=>omega
    case rel=>exact ⟨k+1,hk'.o,by go_num,r1,hb2⟩
   have r1:=A_ (C1j HX1.o hpx)
   clear hpx
   go_wp2
   go_ret
   exact ⟨k,rfl,by rw[r1.o];simp,hb2⟩
  have e:=A_ (show xs.any p=false by
   have:=ha.o
   rwa [List.take_of_length_le (by rw[HL.o];omega)] at this)
  have hki:¬ ((k:Int)<n):=by omega
  clear hk hkn
  go_wp2
  go_ret
  exact ⟨-1,rfl,by rw[e.o];rfl,hb⟩

theorem B3d (f:Nat) (hf:A5r f) (A:Option Addr) (n c:Nat) (xs:List Int) (bs:List Nat) (w:World) (p:Int→Bool) (hx:Sl w A n c xs bs)
  (hp:∀ (x:Int) (w:World),Calls Tryz.prog f #[.int .i64 x] w (A0j w (.bool (p x)))) :
  Calls Tryz.prog 134 #[.slice A n c,.func (.func f) #[] #[]] w (A0j w (.bool (xs.any p))):=by
 have HX:=A_ hx
 have HP:=A_ hp
 have HF:=A_ hf
 clear hx hp hf
 go_enter Tryz.func134,Tryz.ntmps134
 go_wp2_with fail
 refine (C5f f HF.o A n c xs bs _ p (Sl.below HX.o Below.go) HP.o).mono ?_
 rintro _ w1 ⟨r,rfl,e,hb1⟩
 have E:=A_ e
 clear e
 go_wp2
 go_ret
 exact ⟨R_ E.o,hb1⟩

theorem A4r (xs:List Int):A3c xs=(decide (xs.length≤60)&&(decide (xs.getLast?≠some 0)&&!xs.any A7g)):=by
 unfold A3c
 rw[Bool.and_comm (xs.all _)]
 congr 1;congr 1
 rw[List.not_any_eq_all_not]
 congr 1
 funext x
 unfold A7g inB
 rw[Bool.not_not,Bool.eq_iff_iff];simp;omega

theorem A4h (A:Option Addr) (n c:Nat) (xs:List Int) (bs:List Nat) (w:World) (hx:Sl w A n c xs bs) :
  Calls Tryz.prog 84 #[.slice A n c] w (A0j w (.bool (A3c xs))):=by
 have HL:=A_ hx.1
 have HX:=A_ hx
 have hm:n≤maxLen:=Nat.le_trans hx.2.1 hx.2.2.1
 unfold maxLen at hm
 rcases Nat.lt_or_ge 60 n with h60 | h60
 ·have e:=A_ (show false=A3c xs by rw[A4r,HL.o];simp;omega)
  have h1:¬ ((n:Int)≤60):=by omega
  clear hx
  go_enter Tryz.func84,Tryz.ntmps84
  go_wp2
  go_ret
  exact ⟨R_ e.o,Below.go⟩
 have h1:(n:Int)≤60:=by omega
 rcases Nat.eq_zero_or_pos n with h0 | h0
 ·subst h0
  have e:=A_ (show (!xs.any A7g)=A3c xs by rw[A4r,List.eq_nil_of_length_eq_zero HL.o];rfl)
  clear hx
  go_enter Tryz.func84,Tryz.ntmps84
  go_wp2_with fail
  refine (B3d 135 B2z A 0 c xs bs _ A7g (Sl.below HX.o Below.go) B5a).mono ?_
  rintro _ w1 ⟨rfl,hb1⟩
  go_wp2
  go_ret
  exact ⟨R_ e.o,hb1⟩
 obtain ⟨k,rfl⟩:∃ k,n=k+1:=⟨n - 1,by omega⟩
 obtain ⟨b,off,x,rfl,hbl,hx1,hI,hc⟩:=Sl.getInt hx (show k<k+1 by omega)
 have hlast:=A_ (show xs.getLast?=some x by rw[List.getLast?_eq_getElem?,HL.o];exact hx1)
 have hz:((k:Int)+1==0)=false:=by simp;omega
 by_cases hx0:x=0
 ·have e:=A_ (show false=A3c xs by rw[A4r,hlast.o,hx0];simp)
  have hb:(x != 0)=false:=by simp[hx0]
  clear hx hx1 hx0
  go_enter Tryz.func84,Tryz.ntmps84
  go_wp2
  go_ret
  exact ⟨R_ e.o,Below.go⟩
 have e:=A_ (show (!xs.any A7g)=A3c xs by rw[A4r,hlast.o,HL.o,decide_eq_true h60];simp[hx0])
 have hb:(x != 0)=true:=by simp[hx0]
 clear hx hx1 hx0
 go_enter Tryz.func84,Tryz.ntmps84
 go_wp2_with fail
 refine (B3d 135 B2z _ (k+1) c xs bs _ A7g (Sl.below HX.o Below.go) B5a).mono ?_
 rintro _ w1 ⟨rfl,hb1⟩
 go_wp2
 go_ret
 exact ⟨R_ e.o,hb1⟩

theorem A1p (v:Value) (x:TBigInt) (bs:List Nat) (w:World) (hx:Agg w v x bs) :
  Calls Tryz.prog 83 #[v] w (A0j w (.bool (A1x x))):=by
 obtain ⟨A1,n1,c1,s1,rfl,rfl,hs1⟩:=TBigInt.agg hx
 have H1:=A_ hs1
 clear hs1 hx
 have E:=A_ (show A1x x=(A3c x.mag&&(!x.neg || decide (0<n1))) by
  unfold A1x
  congr 1;congr 1
  rw[← H1.o.1]
  cases x.mag<;>simp)
 cases hn:A3c x.mag
 ·go_enter Tryz.func83,Tryz.ntmps83
  go_wp2_with fail
  have C:=A4h A1 n1 c1 x.mag bs (w.alloc (.cells #[.bool x.neg,.slice A1 n1 c1] 33)) (Sl.below H1.o Below.go)
  rw[hn] at C
  refine C.mono ?_
  clear C
  rintro _ w1 ⟨rfl,hb1⟩
  obtain ⟨hc_w1,hf_w1⟩:=C_ hb1
  have hz0_w1:w.heap.size<w1.heap.size:=N_ hb1
  go_wp2
  go_ret
  exact ⟨R_ (by rw[E.o,hn];rfl),Below.go⟩
 have HN:=A_ hn
 clear hn
 rw[HN.o,Bool.true_and] at E
 cases hg:x.neg
 ·have E2:=A_ (show true=A1x x by rw[E.o,hg];rfl)
  clear E
  go_enter Tryz.func83,Tryz.ntmps83
  go_wp2_with fail
  have C:=A4h A1 n1 c1 x.mag bs (w.alloc (.cells #[.bool false,.slice A1 n1 c1] 33)) (Sl.below H1.o Below.go)
  rw[HN.o] at C
  refine C.mono ?_
  clear C
  rintro _ w1 ⟨rfl,hb1⟩
  obtain ⟨hc_w1,hf_w1⟩:=C_ hb1
  have hz0_w1:w.heap.size<w1.heap.size:=N_ hb1
  go_wp2
  go_ret
  exact ⟨R_ E2.o,Below.go⟩
 have E2:=A_ (show decide (0<n1)=A1x x by rw[E.o,hg];rfl)
 clear E
 go_enter Tryz.func83,Tryz.ntmps83
 go_wp2_with fail
 have C:=A4h A1 n1 c1 x.mag bs (w.alloc (.cells #[.bool true,.slice A1 n1 c1] 33)) (Sl.below H1.o Below.go)
 rw[HN.o] at C
 refine C.mono ?_
 clear C
 rintro _ w1 ⟨rfl,hb1⟩
 obtain ⟨hc_w1,hf_w1⟩:=C_ hb1
 have hz0_w1:w.heap.size<w1.heap.size:=N_ hb1
 go_wp2
 go_ret
 exact ⟨R_ E2.o,Below.go⟩

theorem C6v {N:Nat}:(dig N=[1])↔N=1:=by
 constructor
 ·intro h
  have:=A1n N
  rw[h] at this
  simp[G_] at this
  omega
 rintro rfl;rfl
theorem B1n {x:TRat} {b1 b2:Bool} {n1 n2:Nat} (h1:A1x x.num=b1) (h2:A3c x.den=b2) (l1:x.num.mag.length=n1) (l2:x.den.length=n2) :
  S_ x=(b1&&(b2&&(decide (0<n2)&&(decide (n1≤24)&&(decide (n2≤24)&&decide (Int.gcd (G_ x.num.mag) (G_ x.den)=1)))))):=by
 unfold S_
 rw[h1,h2,l1,l2]
 congr 2;congr 1
 rw[← l2]
 cases x.den<;>simp
theorem D2j (x:TRat):Int.gcd (L_ x) (I_ x)=Int.gcd (G_ x.num.mag) (G_ x.den):=by
 unfold L_ I_ A0f;split<;>simp
theorem B8f {x:TRat} (h:XN.Can x.den) (hl:x.den.length=1):0≤I_ x∧I_ x<1000000000:=by
 unfold I_
 have:=A2r h.1;have:=T_ h.1
 rw[hl,pw_vals.1] at *
 omega
theorem B9a {x:TRat} (h:Lims x.num.mag) (hl:x.num.mag.length≤1):-1000000000<L_ x∧L_ x<1000000000:=by
 have h1:=A2r h;have h2:=T_ h
 have h3:=A2x hl
 rw[pw_vals.1] at h3
 unfold L_ A0f
 split<;>omega
theorem A8n {x:TBigInt} (h:A1x x=true):NegOk x:=(bigOkB_iff.1 h).2

theorem B3m (v:Value) (x:TRat) (b:List Nat) (w:World) (hx:Agg w v x b) :
  Calls Tryz.prog 36 #[v] w (A0j w (.bool (S_ x))):=by
 have HX:=A_ hx
 obtain ⟨A1,n1,c1,s1,A2,n2,c2,s2,rfl,rfl,hs1,hs2⟩:=TRat.agg hx
 have H1:=A_ hs1;have H2:=A_ hs2
 clear hs1 hs2 hx
 cases hb1:A1x x.num
 ·have E:=A_ (show false=S_ x by rw[B1n hb1 rfl rfl rfl];rfl)
  have HB1:=A_ hb1
  clear hb1
  go_enter Tryz.func36,Tryz.ntmps36
  go_wp2_with fail
  have C:=A1p _ x.num s1 (w.alloc (.cells #[.bool x.num.neg,.slice A1 n1 c1,.slice A2 n2 c2] 35)) (TBigInt.mkAgg (Sl.below H1.o Below.go))
  rw[HB1.o] at C
  refine C.mono ?_
  clear C
  rintro _ w1 ⟨rfl,hb1⟩
  obtain ⟨hc_w1,hf_w1⟩:=C_ hb1
  have hz0_w1:w.heap.size<w1.heap.size:=N_ hb1
  go_wp2
  go_ret
  exact ⟨R_ (E.o),Below.go⟩
 have HB1:=A_ hb1
 cases hb2:A3c x.den
 ·have E:=A_ (show false=S_ x by rw[B1n hb1 hb2 rfl rfl];rfl)
  have HB2:=A_ hb2
  clear hb1 hb2
  go_enter Tryz.func36,Tryz.ntmps36
  go_wp2_with fail
  have C:=A1p _ x.num s1 (w.alloc (.cells #[.bool x.num.neg,.slice A1 n1 c1,.slice A2 n2 c2] 35)) (TBigInt.mkAgg (Sl.below H1.o Below.go))
  rw[HB1.o] at C
  refine C.mono ?_
  clear C
  rintro _ w1 ⟨rfl,hb1⟩
  obtain ⟨hc_w1,hf_w1⟩:=C_ hb1
  have hz0_w1:w.heap.size<w1.heap.size:=N_ hb1
  go_wp2_with fail
  have C:=A4h A2 n2 c2 x.den s2 w1 (Sl.below H2.o Below.go)
  rw[HB2.o] at C
  refine C.mono ?_
  clear C
  rintro _ w2 ⟨rfl,hb2⟩
  obtain ⟨hc_w2,hf_w2⟩:=C_ hb2
  have hz0_w2:w.heap.size<w2.heap.size:=N_ hb2
  go_wp2
  go_ret
  exact ⟨R_ (E.o),Below.go⟩
 have HB2:=A_ hb2
 have S:=A_ (B1n hb1 hb2 H1.o.1 H2.o.1)
 rw[Bool.true_and,Bool.true_and] at S
 clear hb1 hb2
 rcases Nat.eq_zero_or_pos n2 with h0 | h0
 ·have E:=A_ (show false=S_ x by rw[S.o,h0];rfl)
  have z0:((n2:Int)==0)=true:=by simp[h0]
  clear h0
  go_enter Tryz.func36,Tryz.ntmps36
  go_wp2_with fail
  have C:=A1p _ x.num s1 (w.alloc (.cells #[.bool x.num.neg,.slice A1 n1 c1,.slice A2 n2 c2] 35)) (TBigInt.mkAgg (Sl.below H1.o Below.go))
  rw[HB1.o] at C
  refine C.mono ?_
  clear C
  rintro _ w1 ⟨rfl,hb1⟩
  obtain ⟨hc_w1,hf_w1⟩:=C_ hb1
  have hz0_w1:w.heap.size<w1.heap.size:=N_ hb1
  go_wp2_with fail
  have C:=A4h A2 n2 c2 x.den s2 w1 (Sl.below H2.o Below.go)
  rw[HB2.o] at C
  refine C.mono ?_
  clear C
  rintro _ w2 ⟨rfl,hb2⟩
  obtain ⟨hc_w2,hf_w2⟩:=C_ hb2
  have hz0_w2:w.heap.size<w2.heap.size:=N_ hb2
  go_wp2
  go_ret
  exact ⟨R_ (E.o),Below.go⟩
 have z0:((n2:Int)==0)=false:=by simp;omega
 rcases Nat.lt_or_ge 24 n1 with h1 | h1
 ·have E:=A_ (show false=S_ x by rw[S.o];simp;omega)
  have z1:(24:Int)<n1:=by omega
  clear h0 h1
  go_enter Tryz.func36,Tryz.ntmps36
  go_wp2_with fail
  have C:=A1p _ x.num s1 (w.alloc (.cells #[.bool x.num.neg,.slice A1 n1 c1,.slice A2 n2 c2] 35)) (TBigInt.mkAgg (Sl.below H1.o Below.go))
  rw[HB1.o] at C
  refine C.mono ?_
  clear C
  rintro _ w1 ⟨rfl,hb1⟩
  obtain ⟨hc_w1,hf_w1⟩:=C_ hb1
  have hz0_w1:w.heap.size<w1.heap.size:=N_ hb1
  go_wp2_with fail
  have C:=A4h A2 n2 c2 x.den s2 w1 (Sl.below H2.o Below.go)
  rw[HB2.o] at C
  refine C.mono ?_
  clear C
  rintro _ w2 ⟨rfl,hb2⟩
  obtain ⟨hc_w2,hf_w2⟩:=C_ hb2
  have hz0_w2:w.heap.size<w2.heap.size:=N_ hb2
  go_wp2
  go_ret
  exact ⟨R_ (E.o),Below.go⟩
 have z1:¬ ((24:Int)<n1):=by omega
 rcases Nat.lt_or_ge 24 n2 with h2 | h2
 ·have E:=A_ (show false=S_ x by rw[S.o];simp;omega)
  have z2:(24:Int)<n2:=by omega
  clear h0 h1 h2
  go_enter Tryz.func36,Tryz.ntmps36
  go_wp2_with fail
  have C:=A1p _ x.num s1 (w.alloc (.cells #[.bool x.num.neg,.slice A1 n1 c1,.slice A2 n2 c2] 35)) (TBigInt.mkAgg (Sl.below H1.o Below.go))
  rw[HB1.o] at C
  refine C.mono ?_
  clear C
  rintro _ w1 ⟨rfl,hb1⟩
  obtain ⟨hc_w1,hf_w1⟩:=C_ hb1
  have hz0_w1:w.heap.size<w1.heap.size:=N_ hb1
  go_wp2_with fail
  have C:=A4h A2 n2 c2 x.den s2 w1 (Sl.below H2.o Below.go)
  rw[HB2.o] at C
  refine C.mono ?_
  clear C
  rintro _ w2 ⟨rfl,hb2⟩
  obtain ⟨hc_w2,hf_w2⟩:=C_ hb2
  have hz0_w2:w.heap.size<w2.heap.size:=N_ hb2
  go_wp2
  go_ret
  exact ⟨R_ (E.o),Below.go⟩
 have z2:¬ ((24:Int)<n2):=by omega
 have S2:=A_ (show S_ x=decide (Int.gcd (G_ x.num.mag) (G_ x.den)=1) by rw[S.o,decide_eq_true h0,decide_eq_true h1,decide_eq_true h2];rfl)
 have CN:=A_ (bigOkB_iff.1 HB1.o).1.2
 have CD:=A_ (natOkB_iff.1 HB2.o).2
 have NG:=A_ (A8n HB1.o)
 have hn1:n1≤65536:=by omega
 have hn2:n2≤65536:=by omega
 clear S h1 h2
 cases hs:A1t x
 ·have HS:=A_ hs
  clear hs h0
  have E:=A_ (show decide (dig (Int.gcd (G_ x.num.mag) (G_ x.den))=[1])=S_ x by rw[S2.o];simp only [C6v])
  go_enter Tryz.func36,Tryz.ntmps36
  go_wp2_with fail
  have C:=A1p _ x.num s1 (w.alloc (.cells #[.bool x.num.neg,.slice A1 n1 c1,.slice A2 n2 c2] 35)) (TBigInt.mkAgg (Sl.below H1.o Below.go))
  rw[HB1.o] at C
  refine C.mono ?_
  clear C
  rintro _ w1 ⟨rfl,hb1⟩
  obtain ⟨hc_w1,hf_w1⟩:=C_ hb1
  have hz0_w1:w.heap.size<w1.heap.size:=N_ hb1
  go_wp2_with fail
  have C:=A4h A2 n2 c2 x.den s2 w1 (Sl.below H2.o Below.go)
  rw[HB2.o] at C
  refine C.mono ?_
  clear C
  rintro _ w2 ⟨rfl,hb2⟩
  obtain ⟨hc_w2,hf_w2⟩:=C_ hb2
  have hz0_w2:w.heap.size<w2.heap.size:=N_ hb2
  go_wp2_with fail
  have C:=A0s _ x _ w2 (Agg.below HX.o Below.go)
  rw[HS.o] at C
  refine C.mono ?_
  clear C
  rintro _ w3 ⟨rfl,hb3⟩
  obtain ⟨hc_w3,hf_w3⟩:=C_ hb3
  have hz0_w3:w.heap.size<w3.heap.size:=N_ hb3
  go_wp2_with fail
  refine (B6i A1 A2 n1 n2 c1 c2 x.num.mag x.den _ _ _ (Sl.below H1.o Below.go) (Sl.below H2.o Below.go) CN.o CD.o hn1 hn2).mono ?_
  rintro _ w4 ⟨v4,rfl,hown,hb4⟩
  obtain ⟨A4,c4,s4,rfl,hs4,_⟩:=C2i hown (W_ _).1.i64
  have HS4:=A_ hs4
  clear hown hs4
  go_wp2_with fail
  refine (A8m A4 _ c4 _ s4 w4 HS4.o).mono ?_
  rintro _ w5 ⟨rfl,hb5⟩
  go_wp2
  go_ret
  exact ⟨R_ (E.o),Below.go⟩
 have HS:=A_ hs
 have sm:=hs
 unfold A1t at sm
 simp only [Bool.and_eq_true,decide_eq_true_eq] at sm
 have d1:=B8f CD.o sm.2
 have m1:=B9a CN.o.1 sm.1
 have d0:0<I_ x:=CD.o.pos (by intro e;have:=H2.o.1;rw[e] at this;simp at this;omega)
 have E:=A_ (show ((Int.gcd (L_ x) (I_ x):Int)==1)=S_ x by rw[S2.o,D2j];rw[Bool.eq_iff_iff];simp;omega)
 clear hs h0 sm
 have HN:=A_ (show L_ x=L_ x from rfl)
 generalize hnv:L_ x=nv at *
 generalize hdv:I_ x=dv at *
 have HNV:=A_ hnv;have HDV:=A_ hdv
 clear hnv hdv
 rcases Int.lt_or_le nv 0 with hneg | hneg
 ·have hm:nv≤-nv:=by omega
  have E':=E
  clear E
  go_enter Tryz.func36,Tryz.ntmps36
  go_wp2_with fail
  have C:=A1p _ x.num s1 (w.alloc (.cells #[.bool x.num.neg,.slice A1 n1 c1,.slice A2 n2 c2] 35)) (TBigInt.mkAgg (Sl.below H1.o Below.go))
  rw[HB1.o] at C
  refine C.mono ?_
  clear C
  rintro _ w1 ⟨rfl,hb1⟩
  obtain ⟨hc_w1,hf_w1⟩:=C_ hb1
  have hz0_w1:w.heap.size<w1.heap.size:=N_ hb1
  go_wp2_with fail
  have C:=A4h A2 n2 c2 x.den s2 w1 (Sl.below H2.o Below.go)
  rw[HB2.o] at C
  refine C.mono ?_
  clear C
  rintro _ w2 ⟨rfl,hb2⟩
  obtain ⟨hc_w2,hf_w2⟩:=C_ hb2
  have hz0_w2:w.heap.size<w2.heap.size:=N_ hb2
  go_wp2_with fail
  have C:=A0s _ x _ w2 (Agg.below HX.o Below.go)
  rw[HS.o] at C
  refine C.mono ?_
  clear C
  rintro _ w3 ⟨rfl,hb3⟩
  obtain ⟨hc_w3,hf_w3⟩:=C_ hb3
  have hz0_w3:w.heap.size<w3.heap.size:=N_ hb3
  go_wp2_with fail
  have C:=A4f _ x _ w3 (Agg.below HX.o Below.go) HS.o CN.o.1 NG.o
  rw[HNV.o,HDV.o] at C
  refine C.mono ?_
  clear C
  rintro _ w4 ⟨rfl,hb4⟩
  obtain ⟨hc_w4,hf_w4⟩:=C_ hb4
  have hz0_w4:w.heap.size<w4.heap.size:=N_ hb4
  go_wp2_with fail
  refine (B0c (-nv) dv w4 (by omega) (by omega) (by omega) (by omega)).mono ?_
  rintro _ w5 ⟨rfl,hb5⟩
  go_wp2
  go_ret
  exact ⟨R_ (E'.o),Below.go⟩
 have hm:-nv≤nv:=by omega
 have E':=E
 clear E
 go_enter Tryz.func36,Tryz.ntmps36
 go_wp2_with fail
 have C:=A1p _ x.num s1 (w.alloc (.cells #[.bool x.num.neg,.slice A1 n1 c1,.slice A2 n2 c2] 35)) (TBigInt.mkAgg (Sl.below H1.o Below.go))
 rw[HB1.o] at C
 refine C.mono ?_
 clear C
 rintro _ w1 ⟨rfl,hb1⟩
 obtain ⟨hc_w1,hf_w1⟩:=C_ hb1
 have hz0_w1:w.heap.size<w1.heap.size:=N_ hb1
 go_wp2_with fail
 have C:=A4h A2 n2 c2 x.den s2 w1 (Sl.below H2.o Below.go)
 rw[HB2.o] at C
 refine C.mono ?_
 clear C
 rintro _ w2 ⟨rfl,hb2⟩
 obtain ⟨hc_w2,hf_w2⟩:=C_ hb2
 have hz0_w2:w.heap.size<w2.heap.size:=N_ hb2
 go_wp2_with fail
 have C:=A0s _ x _ w2 (Agg.below HX.o Below.go)
 rw[HS.o] at C
 refine C.mono ?_
 clear C
 rintro _ w3 ⟨rfl,hb3⟩
 obtain ⟨hc_w3,hf_w3⟩:=C_ hb3
 have hz0_w3:w.heap.size<w3.heap.size:=N_ hb3
 go_wp2_with fail
 have C:=A4f _ x _ w3 (Agg.below HX.o Below.go) HS.o CN.o.1 NG.o
 rw[HNV.o,HDV.o] at C
 refine C.mono ?_
 clear C
 rintro _ w4 ⟨rfl,hb4⟩
 obtain ⟨hc_w4,hf_w4⟩:=C_ hb4
 have hz0_w4:w.heap.size<w4.heap.size:=N_ hb4
 go_wp2_with fail
 refine (B0c nv dv w4 (by omega) (by omega) (by omega) (by omega)).mono ?_
 rintro _ w5 ⟨rfl,hb5⟩
 go_wp2
 go_ret
 exact ⟨R_ (E'.o),Below.go⟩

theorem C6k (f:Nat) (hf:A5r f) (A:Option Addr) (n c:Nat) (xs:List TRat) (bs:List Nat) (w:World) (p:TRat→Bool) (hx:Sl w A n c xs bs)
  (hp:∀ (v:Value) (x:TRat) (b:List Nat) (w:World),x∈xs→Agg w v x b→Calls Tryz.prog f #[v] w (A0j w (.bool (p x)))) :
  Calls Tryz.prog 123 #[.slice A n c,.func (.func f) #[] #[]] w (B4s w (xs.any p)):=by
 have HL:=A_ hx.1
 have HX:=A_ hx
 have HP:=A_ hp
 unfold A5r at hf
 have hm:n≤maxLen:=Nat.le_trans hx.2.1 hx.2.2.1
 unfold maxLen at hm
 clear hx hp
 go_enter Tryz.func123,Tryz.ntmps123
 go_wp2_with fail
 go_loopg [8] n (fun g s8 wr=>∃ k:Nat,k+g=n∧s8=.int .i64 k∧Hid ((xs.take k).any p=false)∧Below w.heap.size w wr)
 case atStart=>exact ⟨0,by omega,rfl,by show (xs.take 0).any p=false;simp,Below.refl _ _⟩
 case round =>
  obtain ⟨k,hk,rfl,ha,hb⟩:=hrel
  rcases Nat.lt_or_ge k n with hkn | hkn
  ·obtain ⟨be,offe,x,A1,m1,d1,s1,A2,m2,d2,s2,rfl,hble,hx1,e0,e1,e2,hag⟩:=TRat.elemA (Sl.below HX.o hb) hkn
   have HX1:=A_ hx1
   have HAG:=A_ hag
   have hki:(k:Int)<n:=by omega
   obtain ⟨g,rfl⟩:∃ g,gk=g+1:=⟨gk - 1,by omega⟩
   have hk':=A_ (show k+1+g=n by omega)
   have hkj:k+1≤n:=hkn
   clear hx1 hk hkn hag
   go_wp2_with fail
   refine (HP.o _ x _ wr (List.mem_of_getElem? HX1.o) HAG.o).mono ?_
   rintro _ w1 ⟨rfl,hb1⟩
   have hb2:=Below.next hb hb1
   cases hpx:p x
   ·have r1:=A_ (B2c HX1.o ha.o hpx)
    clear hpx
    go_wp2_with fail
    go_roundg g
    case measure=>omega
    case rel=>exact ⟨k+1,hk'.o,by go_num,r1,hb2⟩
   have r1:=A_ (C1j HX1.o hpx)
   clear hpx
   go_wp2
   go_ret
   exact ⟨k,rfl,by rw[r1.o];simp,hb2⟩
  have e:=A_ (show xs.any p=false by
   have:=ha.o
   rwa [List.take_of_length_le (by rw[HL.o];omega)] at this)
  have hki:¬ ((k:Int)<n):=by omega
  clear hk hkn
  go_wp2
  go_ret
  exact ⟨-1,rfl,by rw[e.o];rfl,hb⟩

theorem A9y (f:Nat) (hf:A5r f) (A:Option Addr) (n c:Nat) (xs:List TRat) (bs:List Nat) (w:World) (p:TRat→Bool) (hx:Sl w A n c xs bs)
  (hp:∀ (v:Value) (x:TRat) (b:List Nat) (w:World),x∈xs→Agg w v x b→Calls Tryz.prog f #[v] w (A0j w (.bool (p x)))) :
  Calls Tryz.prog 62 #[.slice A n c,.func (.func f) #[] #[]] w (A0j w (.bool (xs.any p))):=by
 have HX:=A_ hx
 have HP:=A_ hp
 have HF:=A_ hf
 clear hx hp hf
 go_enter Tryz.func62,Tryz.ntmps62
 go_wp2_with fail
 refine (C6k f HF.o A n c xs bs _ p (Sl.below HX.o Below.go) HP.o).mono ?_
 rintro _ w1 ⟨r,rfl,e,hb1⟩
 have E:=A_ e
 clear e
 go_wp2
 go_ret
 exact ⟨R_ E.o,hb1⟩

theorem B7b:A5r 63:=fun a w=>by kernel_rfl
def C1k (x:TRat):Bool:=!S_ x
theorem B8o (v:Value) (x:TRat) (b:List Nat) (w:World) (hx:Agg w v x b):Calls Tryz.prog 63 #[v] w (A0j w (.bool (C1k x))):=by
 have HX:=A_ hx
 obtain ⟨A1,n1,c1,s1,A2,n2,c2,s2,rfl,rfl,hs1,hs2⟩:=TRat.agg hx
 clear hs1 hs2 hx
 go_enter Tryz.func63,Tryz.ntmps63
 go_wp2_with fail
 refine (B3m _ x _ _ (Agg.below HX.o Below.go)).mono ?_
 rintro _ w1 ⟨rfl,hb1⟩
 go_wp2
 go_ret
 exact ⟨rfl,Below.go⟩

theorem A1r (A:Option Addr) (n c:Nat) (xs:List TRat) (bs:List Nat) (w:World) (hx:Sl w A n c xs bs) :
  Calls Tryz.prog 28 #[.slice A n c] w (A0j w (.bool (xs.all S_))):=by
 have HX:=A_ hx
 have E:=A_ (show (!xs.any C1k)=xs.all S_ by rw[List.not_any_eq_all_not];congr 1;funext x;unfold C1k;rw[Bool.not_not])
 clear hx
 go_enter Tryz.func28,Tryz.ntmps28
 go_wp2_with fail
 refine (A9y 63 B7b A n c xs bs _ C1k (Sl.below HX.o Below.go) (fun v x b w _ h=>B8o v x b w h)).mono ?_
 rintro _ w1 ⟨rfl,hb1⟩
 go_wp2
 go_ret
 exact ⟨R_ E.o,Below.go⟩

theorem A4y {a D:Int} (hD:0<D):0<Int.gcd a D:=Int.gcd_pos_of_ne_zero_right a (by omega)
theorem D3b {x:TBigInt} {D:Int} (hc:XN.Can x.mag) (hn:NegOk x) (hD:0<D) :
  Q_ (A0f x / (Int.gcd (G_ x.mag) D:Nat))=⟨x.neg,dig (G_ x.mag / (Int.gcd (G_ x.mag) D:Nat)).toNat⟩:=by
 have hg:=A4y (a:=G_ x.mag) hD
 obtain ⟨q,hq⟩:=Int.gcd_dvd_left (G_ x.mag) D
 generalize Int.gcd (G_ x.mag) D=g at *
 have h0:=T_ hc.1
 have hg':(0:Int)<g:=by omega
 have hq0:0≤q:=by
  rcases Int.lt_or_le q 0 with h | h
  ·have:=Int.mul_neg_of_pos_of_neg hg' h;omega
  exact h
 unfold A0f
 cases hx:x.neg
 ·rw[if_neg (by simp),hq,Int.mul_ediv_cancel_left _ (by omega)]
  unfold Q_
  rw[show q.natAbs=q.toNat by omega]
  congr 1
  simp;omega
 have hp:=hc.pos (hn hx)
 have hq1:0<q:=by
  rcases Int.lt_or_le 0 q with h | h
  ·exact h
  have:q=0:=by omega
  rw[this] at hq;omega
 rw[if_pos rfl,hq,show -((g:Int)*q)=g * -q by rw[Int.mul_neg],Int.mul_ediv_cancel_left _ (by omega),Int.mul_ediv_cancel_left _ (by omega)]
 unfold Q_
 rw[show (-q).natAbs=q.toNat by omega]
 congr 1
 simp;omega
theorem D3g (x:TBigInt) (D:Int):Int.gcd (A0f x) D=Int.gcd (G_ x.mag) D:=by unfold A0f;split<;>simp
theorem C5k {x:TBigInt} {D:Int} (hc:XN.Can x.mag) (hn:NegOk x) (hD:0<D) :
  mkR (A0f x) D=if (dig (G_ x.mag / (Int.gcd (G_ x.mag) D:Nat)).toNat).length≤24∧(dig (D / (Int.gcd (G_ x.mag) D:Nat)).toNat).length≤24 then
   ⟨⟨x.neg,dig (G_ x.mag / (Int.gcd (G_ x.mag) D:Nat)).toNat⟩,dig (D / (Int.gcd (G_ x.mag) D:Nat)).toNat⟩ else A1j:=by
 have e:=D3b hc hn hD
 unfold mkR
 rw[D3g]
 have e1:dig (A0f x / (Int.gcd (G_ x.mag) D:Nat)).natAbs=dig (G_ x.mag / (Int.gcd (G_ x.mag) D:Nat)).toNat:=by
  have:=congrArg TBigInt.mag e;exact this
 have e2:(D / (Int.gcd (G_ x.mag) D:Nat)).natAbs=(D / (Int.gcd (G_ x.mag) D:Nat)).toNat:=by
  have:=Int.ediv_nonneg (a:=D) (b:=(Int.gcd (G_ x.mag) D:Nat)) (by omega) (by omega);omega
 rw[e1,e2,e]
theorem Own.left {w0 w:World} {a b:List Nat} (h:Own w0 w (a++b)):Own w0 w a:=⟨(List.nodup_append.1 h.1).1,fun g hg=>h.2 g (List.mem_append_left _ hg)⟩
theorem B2q (A B:Option Addr) (n m c d:Nat) (xs ys:List Int) (bs ds:List Nat) (w:World) (hx:Sl w A n c xs bs) (hy:Sl w B m d ys ds) (hcx:XN.Can xs) (hcy:XN.Can ys) (hn:n≤65536) (hm:m≤65536) :
  Calls Tryz.prog 87 #[.slice A n c,.slice B m d] w (A2t w (dig (Int.gcd (G_ xs) (G_ ys)))) :=
 (B6i A B n m c d xs ys bs ds w hx hy hcx hcy hn hm).mono fun _ _ ⟨_,he,ho,hb⟩=>by subst he;exact A2w ho rfl (W_ _).1.i64 hb
theorem D0d (w:World):Agg w (.agg #[.bool false,.slice none 0 0,.slice none 0 0]) A1j []:=TRat.mkAgg (x:=A1j) (Sl.nil w) (Sl.nil w)
theorem A1w {w W:World} (hb:Below w.heap.size w W):X_ w A1j (.returned (.agg #[.bool false,.slice none 0 0,.slice none 0 0])) W:=⟨_,[],rfl,D0d W,Own.nil _ _,hb⟩

theorem A5m {w W:World} {x:TRat} {A1 A2:Option Addr} {n1 c1 n2 c2:Nat} {b1 b2:List Nat} (h1:Sl W A1 n1 c1 x.num.mag b1∧Own w W b1) (h2:Sl W A2 n2 c2 x.den b2∧Own w W b2) (hd:∀ b∈b1,b∉b2) (hb:Below w.heap.size w W) :
  X_ w x (.returned (.agg #[.bool x.num.neg,.slice A1 n1 c1,.slice A2 n2 c2])) W :=
 ⟨_,b1++b2,rfl,TRat.mkAgg h1.1 h2.1,Own.append h1.2 h2.2 hd,hb⟩

section
variable {x:TBigInt} {ys:List Int} {v:Value} {B:Option Addr} {m d:Nat} {b1 b2:List Nat} {w:World}

theorem C5p (hx:Agg w v x b1) (hy:Sl w B m d ys b2) (cx:XN.Can x.mag) (cy:XN.Can ys) (hm0:0<m) (lx:x.mag.length≤65536) (ly:m≤65536) (h1:Int.gcd (G_ x.mag) (G_ ys)=1) (h24:x.mag.length≤24) (d24:m≤24) :
  ∃ A1 n1 c1,v=.agg #[.bool x.neg,.slice A1 n1 c1]∧Sl w A1 n1 c1 x.mag b1∧Calls Tryz.prog 69 #[v,.slice B m d] w (A0j w (.agg #[.bool x.neg,.slice A1 n1 c1,.slice B m d])):=by
 obtain ⟨A1,n1,c1,s1,rfl,rfl,hs1⟩:=TBigInt.agg hx
 refine ⟨A1,n1,c1,rfl,hs1,?_⟩
 have L1:=A_ hs1.1
 have H1:=A_ hs1;have H2:=A_ hy
 have CX:=A_ cx;have CY:=A_ cy
 have HD:=A_ (cy.pos (by intro e;rw[← hy.1,e] at hm0;simp at hm0))
 have hn1:n1≤65536:=by have:=hs1.1;omega
 have ISO:=A_ (show decide (dig (Int.gcd (G_ x.mag) (G_ ys))=[1])=true by rw[h1];rfl)
 have z1:¬ ((24:Int)<n1):=by have:=hs1.1;omega
 have z2:¬ ((24:Int)<m):=by omega
 clear hx hy cx cy hs1 h1 h24 d24 hm0 lx
 go_enter Tryz.func69,Tryz.ntmps69
 go_wp2_with fail
 refine (B2q A1 B n1 m c1 d x.mag ys _ _ _ (Sl.below H1.o Below.go) (Sl.below H2.o Below.go) CX.o CY.o hn1 ly).mono ?_
 rintro _ w1 ⟨A3,n3,c3,s3,rfl,hs3,ho3,hb1⟩
 have HS3:=A_ hs3
 have HO3:=A_ ho3
 have HG3:=A_ hs3.1
 clear hs3 ho3
 obtain ⟨hc_w1,hf_w1⟩:=C_ hb1
 have hz0_w1:w.heap.size<w1.heap.size:=N_ hb1
 have hz1_w1:w.heap.size+1<w1.heap.size:=N_ hb1
 go_wp2_with fail
 have C:=A8m A3 n3 c3 _ s3 w1 HS3.o
 rw[ISO.o] at C
 refine C.mono ?_
 clear C
 rintro _ w2 ⟨rfl,hb2⟩
 obtain ⟨hc_w2,hf_w2⟩:=C_ hb2
 have hz0_w2:w.heap.size<w2.heap.size:=N_ hb2
 have hz1_w2:w.heap.size+1<w2.heap.size:=N_ hb2
 go_wp2
 exact bodyPost_ret (v:=.agg #[.bool x.neg,.slice A1 n1 c1,.slice B m d]) (by simp[results,Tryz.results69,go_sem, *]) rfl ⟨rfl,Below.go⟩

theorem B4e (hx:Agg w v x b1) (hy:Sl w B m d ys b2) (cx:XN.Can x.mag) (cy:XN.Can ys) (hm0:0<m) (lx:x.mag.length≤65536) (ly:m≤65536) (nx:NegOk x) (h1:¬ (Int.gcd (G_ x.mag) (G_ ys)=1∧x.mag.length≤24∧m≤24)) :
  Calls Tryz.prog 69 #[v,.slice B m d] w (X_ w (mkR (A0f x) (G_ ys))):=by
 obtain ⟨A1,n1,c1,s1,rfl,rfl,hs1⟩:=TBigInt.agg hx
 have L1:=A_ hs1.1
 have H1:=A_ hs1;have H2:=A_ hy
 have CX:=A_ cx;have CY:=A_ cy
 have HD:=A_ (cy.pos (by intro e;rw[← hy.1,e] at hm0;simp at hm0))
 have hn1:n1≤65536:=by have:=hs1.1;omega
 have MK:=A_ (C5k cx nx HD.o)
 have HG:=A_ (A4y (a:=G_ x.mag) HD.o)
 have HL:=A_ (show m=ys.length from hy.1.symm)
 by_cases hg:Int.gcd (G_ x.mag) (G_ ys)=1
 ·have E:=A_ (show mkR (A0f x) (G_ ys)=A1j by
   rw[MK.o,hg,if_neg]
   rw[Int.natCast_one,Int.ediv_one,Int.ediv_one,← CX.o.eq_dig,← CY.o.eq_dig,← HL.o]
   intro h;exact h1 ⟨hg,h⟩)
  have ISO:=A_ (show decide (dig (Int.gcd (G_ x.mag) (G_ ys))=[1])=true by rw[hg];rfl)
  rw[E.o]
  rcases Nat.lt_or_ge 24 n1 with h24 | h24
  ·have z1:(24:Int)<n1:=by omega
   clear hx hy cx cy nx hs1 h1 h24 hm0 lx hg MK
   go_enter Tryz.func69,Tryz.ntmps69
   go_wp2_with fail
   refine (B2q A1 B n1 m c1 d x.mag ys _ _ _ (Sl.below H1.o Below.go) (Sl.below H2.o Below.go) CX.o CY.o hn1 ly).mono ?_
   rintro _ w1 ⟨A3,n3,c3,s3,rfl,hs3,ho3,hb1⟩
   have HS3:=A_ hs3
   have HO3:=A_ ho3
   have HG3:=A_ hs3.1
   clear hs3 ho3
   obtain ⟨hc_w1,hf_w1⟩:=C_ hb1
   have hz0_w1:w.heap.size<w1.heap.size:=N_ hb1
   have hz1_w1:w.heap.size+1<w1.heap.size:=N_ hb1
   go_wp2_with fail
   have C:=A8m A3 n3 c3 _ s3 w1 HS3.o
   rw[ISO.o] at C
   refine C.mono ?_
   clear C
   rintro _ w2 ⟨rfl,hb2⟩
   obtain ⟨hc_w2,hf_w2⟩:=C_ hb2
   have hz0_w2:w.heap.size<w2.heap.size:=N_ hb2
   have hz1_w2:w.heap.size+1<w2.heap.size:=N_ hb2
   go_wp2
   refine bodyPost_ret (v:=.agg #[.bool false,.slice none 0 0,.slice none 0 0]) (by simp[results,Tryz.results69,go_sem, *]) rfl ?_;try rw[E.o]
   exact A1w Below.go
  have z1:¬ ((24:Int)<n1):=by omega
  have z2:(24:Int)<m:=by
   rcases Nat.lt_or_ge 24 m with h | h
   ·omega
   exact absurd ⟨hg,by rw[hs1.1];exact h24,h⟩ h1
  clear hx hy cx cy nx hs1 h1 h24 hm0 lx hg MK
  go_enter Tryz.func69,Tryz.ntmps69
  go_wp2_with fail
  refine (B2q A1 B n1 m c1 d x.mag ys _ _ _ (Sl.below H1.o Below.go) (Sl.below H2.o Below.go) CX.o CY.o hn1 ly).mono ?_
  rintro _ w1 ⟨A3,n3,c3,s3,rfl,hs3,ho3,hb1⟩
  have HS3:=A_ hs3
  have HO3:=A_ ho3
  have HG3:=A_ hs3.1
  clear hs3 ho3
  obtain ⟨hc_w1,hf_w1⟩:=C_ hb1
  have hz0_w1:w.heap.size<w1.heap.size:=N_ hb1
  have hz1_w1:w.heap.size+1<w1.heap.size:=N_ hb1
  go_wp2_with fail
  have C:=A8m A3 n3 c3 _ s3 w1 HS3.o
  rw[ISO.o] at C
  refine C.mono ?_
  clear C
  rintro _ w2 ⟨rfl,hb2⟩
  obtain ⟨hc_w2,hf_w2⟩:=C_ hb2
  have hz0_w2:w.heap.size<w2.heap.size:=N_ hb2
  have hz1_w2:w.heap.size+1<w2.heap.size:=N_ hb2
  go_wp2
  refine bodyPost_ret (v:=.agg #[.bool false,.slice none 0 0,.slice none 0 0]) (by simp[results,Tryz.results69,go_sem, *]) rfl ?_;try rw[E.o]
  exact A1w Below.go
 ·have ISO:=A_ (show decide (dig (Int.gcd (G_ x.mag) (G_ ys))=[1])=false by simp only [C6v];simpa using hg)
  have GC:=A_ (W_ (Int.gcd (G_ x.mag) (G_ ys)))
  have GV:=A_ (A1n (Int.gcd (G_ x.mag) (G_ ys)))
  clear hx hy cx cy nx hs1 h1 hm0 lx hg
  go_enter Tryz.func69,Tryz.ntmps69
  go_wp2_with fail
  refine (B2q A1 B n1 m c1 d x.mag ys _ _ _ (Sl.below H1.o Below.go) (Sl.below H2.o Below.go) CX.o CY.o hn1 ly).mono ?_
  rintro _ w1 ⟨A3,n3,c3,s3,rfl,hs3,ho3,hb1⟩
  have HS3:=A_ hs3
  have HO3:=A_ ho3
  have HG3:=A_ hs3.1
  clear hs3 ho3
  obtain ⟨hc_w1,hf_w1⟩:=C_ hb1
  have hz0_w1:w.heap.size<w1.heap.size:=N_ hb1
  have hz1_w1:w.heap.size+1<w1.heap.size:=N_ hb1
  go_wp2_with fail
  have C:=A8m A3 n3 c3 _ s3 w1 HS3.o
  rw[ISO.o] at C
  refine C.mono ?_
  clear C
  rintro _ w2 ⟨rfl,hb2⟩
  obtain ⟨hc_w2,hf_w2⟩:=C_ hb2
  have hz0_w2:w.heap.size<w2.heap.size:=N_ hb2
  have hz1_w2:w.heap.size+1<w2.heap.size:=N_ hb2
  have hn3:0<n3:=by
   have h:dig (Int.gcd (G_ x.mag) (G_ ys))≠[]:=by rw[Ne,A9e];have:=HG.o;omega
   have:=HG3.o
   have:=List.length_pos_iff.2 h
   omega
  go_wp2_with fail
  refine (B1p A1 A3 n1 n3 c1 c3 x.mag _ _ s3 w2 (Sl.below H1.o Below.go) (Sl.below HS3.o hb2) CX.o GC.o hn1 hn3).mono ?_
  rintro _ w3 ⟨Q1,k1,e1,t1,R1,l1,f1,u1,rfl,hq1,_,ho1,hb3⟩
  have HQ1:=A_ hq1
  have HO1:=A_ (Own.left ho1)
  clear hq1 ho1
  obtain ⟨hc_w3,hf_w3⟩:=C_ hb3
  have hz0_w3:w.heap.size<w3.heap.size:=N_ hb3
  have hz1_w3:w.heap.size+1<w3.heap.size:=N_ hb3
  have HS3':=A_ (fun (W:World) (ha:Above (w.heap.size+2) w1 W)=>(A6b (w:=w) HS3.o HO3.o (by simp;omega) (by simp) ha).1)
  go_wp2_with fail
  refine (B1p B A3 m n3 d c3 ys _ _ s3 _ (Sl.below H2.o Below.go) (HS3'.o _ Above.go) CY.o GC.o ly hn3).mono ?_
  rintro _ w4 ⟨Q2,k2,e2,t2,R2,l2,f2,u2,rfl,hq2,_,ho2,hb4⟩
  have HQ2:=A_ hq2
  have HO2:=A_ (Own.left ho2)
  clear hq2 ho2
  obtain ⟨hc_w4,hf_w4⟩:=C_ hb4
  have hz0_w4:w.heap.size<w4.heap.size:=N_ hb4
  have hz1_w4:w.heap.size+1<w4.heap.size:=N_ hb4
  have g1:w3.cell? ⟨w.heap.size,1,none⟩=some (.slice A1 n1 c1):=by
   rw[hc_w3 _ _ hz0_w2,hc_w2 _ _ hz0_w1,hc_w1 _ _ (by simp;omega)];go_simp
  have G1:=World.cell?_setCell_same w3 _ (.slice Q1 k1 e1) g1
  have G0:(w3.setCell ⟨w.heap.size,1,none⟩ (.slice Q1 k1 e1)).cell? ⟨w.heap.size,0,none⟩=some (.bool x.neg):=by
   have h:w3.cell? ⟨w.heap.size,0,none⟩=some (.bool x.neg):=by rw[hc_w3 _ _ hz0_w2,hc_w2 _ _ hz0_w1,hc_w1 _ _ (by simp;omega)];go_simp
   exact (World.cell?_setCell_other w3 ⟨w.heap.size,1,none⟩ ⟨w.heap.size,0,none⟩ (.slice Q1 k1 e1) (by simp)).trans h
  clear g1
  rw[GV.o] at HQ1 HQ2
  have K1:=A_ HQ1.o.1
  have K2:=A_ HQ2.o.1
  have hw31:w.heap.size+2≤w2.heap.size:=by have:=hb1.size;have:=hb2.size;simp at *;omega
  have hw43:w2.heap.size≤w3.heap.size:=hb3.size
  rcases Nat.lt_or_ge 24 k1 with h24 | h24
  ·have E:=A_ (show mkR (A0f x) (G_ ys)=A1j by rw[MK.o,if_neg];rw[K1.o];omega)
   have z1:(24:Int)<k1:=by omega
   clear h24
   go_wp2
   refine bodyPost_ret (v:=.agg #[.bool false,.slice none 0 0,.slice none 0 0]) (by simp[results,Tryz.results69,go_sem, *]) rfl ?_;try rw[E.o]
   exact A1w Below.go
  have z1:¬ ((24:Int)<k1):=by omega
  rcases Nat.lt_or_ge 24 k2 with d24 | d24
  ·have E:=A_ (show mkR (A0f x) (G_ ys)=A1j by rw[MK.o,if_neg];rw[K2.o];omega)
   have z2:(24:Int)<k2:=by omega
   clear h24 d24
   go_wp2
   refine bodyPost_ret (v:=.agg #[.bool false,.slice none 0 0,.slice none 0 0]) (by simp[results,Tryz.results69,go_sem, *]) rfl ?_;try rw[E.o]
   exact A1w Below.go
  have z2:¬ ((24:Int)<k2):=by omega
  have E:=A_ (show mkR (A0f x) (G_ ys)=⟨⟨x.neg,dig (G_ x.mag / (Int.gcd (G_ x.mag) (G_ ys):Nat)).toNat⟩,dig (G_ ys / (Int.gcd (G_ x.mag) (G_ ys):Nat)).toNat⟩ by rw[MK.o,if_pos];rw[K1.o,K2.o];exact ⟨h24,d24⟩)
  clear h24 d24
  go_wp2
  refine bodyPost_ret (v:=.agg #[.bool x.neg,.slice Q1 k1 e1,.slice Q2 k2 e2]) (by simp[results,Tryz.results69,go_sem, *]) rfl ?_
  have f1:=fun (W:World) (ha:Above (w.heap.size+2) w3 W)=>A6b (w:=w) HQ1.o HO1.o (by omega) hw31 ha
  have f2:=fun (W:World) (ha:Above (w.heap.size+2) w4 W)=>A6b (w:=w) HQ2.o HO2.o (by simp;omega) (by simp;omega) ha
  rw[E.o]
  refine A5m (x:=⟨⟨x.neg,dig (G_ x.mag / (Int.gcd (G_ x.mag) (G_ ys):Nat)).toNat⟩,dig (G_ ys / (Int.gcd (G_ x.mag) (G_ ys):Nat)).toNat⟩) (f1 _ ?_) (f2 _ ?_) (A6d (N:=w3.heap.size) HO1.o.lt (fun b hb=>by have:=(HO2.o.2 b hb).1;simp at this;exact this)) ?_
  ·exact Above.go
  ·exact Above.go
  exact Below.go
end
end Go.Proofs.YtbhemnidcleaiaaGreat.X
