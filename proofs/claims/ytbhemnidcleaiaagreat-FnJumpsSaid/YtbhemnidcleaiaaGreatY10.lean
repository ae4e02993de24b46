/- A part of the proof. -/
import Derived.Test.YtbhemnidcleaiaaGreatY8
import Derived.Test.YtbhemnidcleaiaaGreatY2
import Derived.Test.YtbhemnidcleaiaaGreatY9
import Derived.Deep.CutBlock
import Derived.Deep.DeepCutAuto
set_option linter.constructorNameAsVariable false
set_option maxHeartbeats 16000000
set_option maxRecDepth 10000
namespace Go.Proofs.YtbhemnidcleaiaaGreat.X
open Go.RowKit Go.XB Go.XN
attribute [local go_sem] O_ opAt P_ M_ Region.wanted yielded
attribute [local simp] P_ M_ MP.eq MP.agg MP.sl A0e

theorem Own.right_ {w0 w:World} {a b:List Nat} (h:Own w0 w (a++b)):Own w0 w b:=⟨(List.nodup_append.1 h.1).2.1,fun g hg=>h.2 g (List.mem_append_right _ hg)⟩

theorem B1m (A B:Option Addr) (n m c d:Nat) (xs ys:List Int) (bs ds:List Nat) (w:World) (hx:Sl w A n c xs bs) (hy:Sl w B m d ys ds) (hcx:XN.Can xs) (hcy:XN.Can ys) (hn:n≤65536) (hm:m≤65536) :
  Calls Tryz.prog 201 #[.slice A n c,.slice B m d] w (A2t w (dig (Int.gcd (G_ xs) (G_ ys)))):=by
 obtain ⟨i0,hi,hz0,hz1,hz2⟩:=info_parts A5v
 have HX:=A_ hx
 have HY:=A_ hy
 have CX:=A_ hcx
 have CY:=A_ hcy
 have hn':=A_ (Nat.le_trans hn (show 65536≤1048576 by decide))
 have hm':=A_ (Nat.le_trans hm (show 65536≤1048576 by decide))
 clear hx hy hcx hcy
 go_enter Tryz.func201,Tryz.ntmps201
 go_wp2_with (first
  | (at_builtin;(refine A5n rfl _ _ 31 rfl 3 i0 Tryz.underlying31 hi hz0 hz1 hz2 _ rfl A n c xs bs rfl (Sl.below HX.o Below.go) hn'.o ?_);intro A1 c1 s1 w1 hs1 ho1 hb1)
  | (at_builtin;(refine A5n rfl _ _ 31 rfl 3 i0 Tryz.underlying31 hi hz0 hz1 hz2 _ rfl B m d ys ds rfl (Sl.below HY.o Below.go) hm'.o ?_);intro A2 c2 s2 w2 hs2 ho2 hb2))
 have bb1:Below w.heap.size w w1:=Below.go
 have bb2:Below w.heap.size w w2:=Below.go
 have hs1':=A_ (Sl.below (Sl.below hs1 (show Below w1.heap.size w1 _ from (Below.refl _ _).alloc (Nat.le_refl _) _)) hb2)
 have ho1':=A_ (Own.older (Own.below (Own.below ho1 (show Below w1.heap.size w1 _ from (Below.refl _ _).alloc (Nat.le_refl _) _)) hb2) (show w.heap.size≤_ by simp))
 have hs2':=A_ hs2
 have ho2':=A_ (Own.older ho2 (show w.heap.size≤_ by have:=bb1.size;simp;omega))
 clear hs1 ho1 hs2 ho2 hb1 hb2 bb1
 go_loopg [5,6] (G_ ys).toNat (fun g s0 s1 wr=>∃ (A B:Option Addr) (n m c d:Nat) (x y:List Int) (bs ds:List Nat),s0=.slice A n c∧s1=.slice B m d∧Hid (Sl wr A n c x bs)∧Hid (Own w wr bs)∧Hid (Sl wr B m d y ds)∧Hid (Own w wr ds)∧Hid (XN.Can x)∧Hid (XN.Can y)∧n≤65536∧m≤65536∧Hid (Int.gcd (G_ x) (G_ y)=Int.gcd (G_ xs) (G_ ys))∧Hid (G_ y=g)∧Below w.heap.size w wr)
 case atStart=>exact ⟨A1,A2,n,m,c1,c2,xs,ys,s1,s2,rfl,rfl,hs1',ho1',hs2',ho2',CX,CY,hn,hm,rfl,(Int.toNat_of_nonneg (T_ CY.o.1)).symm,bb2⟩
 case round =>
  obtain ⟨A,B,n,m,c,d,x,y,bs,ds,rfl,rfl,hx,ox,hy,oy,cx,cy,hn,hm,hg,hk,hb⟩:=hrel
  clear hs1' ho1' hs2' ho2' bb2 hn' hm'
  have hl:=A_ (show y.length=m from hy.o.1)
  have hlx:=A_ (show x.length=n from hx.o.1)
  by_cases hm0:0<m
  ·have hyp:=A_ (cy.o.pos (by intro e;have:=hl.o;rw[e] at this;simp at this;omega))
   by_cases hsm:n<3∧m<3
   ·have hn3:(n:Int)<3:=by omega
    have hm3:(m:Int)<3:=by omega
    have X0:=A_ (T_ cx.o.1)
    have Y0:=A_ (T_ cy.o.1)
    have X1:=A_ (show G_ x≤9223372036854775807 by
     have h1:=A2r cx.o.1
     have h2:=A2x (show x.length≤2 by rw[hlx.o];omega)
     rw[pw_vals.2.1] at h2;omega)
    have Y1:=A_ (show G_ y≤9223372036854775807 by
     have h1:=A2r cy.o.1
     have h2:=A2x (show y.length≤2 by rw[hl.o];omega)
     rw[pw_vals.2.1] at h2;omega)
    have hn2:=A_ (show n≤2 by omega)
    have hm2:=A_ (show m≤2 by omega)
    clear hsm
    go_wp2_with fail
    refine (B3f A n c x bs wr hx.o cx.o hn2.o).mono ?_
    rintro _ w3 ⟨rfl,hb3⟩
    have hb3':=Below.next hb hb3
    go_wp2_with fail
    refine (B3f B m d y ds w3 (Sl.below hy.o hb3) cy.o hm2.o).mono ?_
    rintro _ w4 ⟨rfl,hb4⟩
    have hb4':=Below.next hb3' hb4
    go_wp2_with fail
    refine (C0m (G_ x) (G_ y) w4 X0.o Y0.o X1.o Y1.o).mono ?_
    rintro _ w5 ⟨v5,rfl,hown5,hb5⟩
    have hb5':=Below.next hb4' hb5
    rw[hg.o] at hown5
    go_wp2
    go_ret
    exact A2w (A6u hown5 hb4'.size) rfl (W_ _).1.i64 hb5'
   have rl:=A_ (show (dig (G_ x % G_ y).toNat).length≤m from by
    refine A3h ?_
    have h1:=Int.emod_lt_of_pos (G_ x) hyp.o
    have h2:=Int.emod_nonneg (G_ x) (show G_ y≠0 by have:=hyp.o;omega)
    have h3:=A2r cy.o.1
    rw[hl.o] at h3
    omega)
   have r1:=A_ (show Int.gcd (G_ y) (G_ (dig (G_ x % G_ y).toNat))=Int.gcd (G_ xs) (G_ ys) by
    rw[A1n,Int.toNat_of_nonneg (Int.emod_nonneg _ (by have:=hyp.o;omega)),B5d];exact hg.o)
   have r2:=A_ (show G_ (dig (G_ x % G_ y).toNat)=((G_ x % G_ y).toNat:Int) from A1n _)
   have rm:=A_ (show (G_ x % G_ y).toNat<gk by
    have h1:=Int.emod_lt_of_pos (G_ x) hyp.o
    have h2:=hk.o
    have h3:=hyp.o
    omega)
   have CR:=A_ (W_ (G_ x % G_ y).toNat)
   rcases Nat.lt_or_ge n 3 with h3 | h3
   ·have hn3:(n:Int)<3:=by omega
    have hm3:¬ ((m:Int)<3):=by omega
    clear hsm h3
    go_wp2_with fail
    refine (A9o A B n m c d x y bs ds wr hx.o hy.o cx.o cy.o hn hm0 hm).mono ?_
    rintro _ w1 ⟨A1,n1,c1,b1,A2,n2,c2,b2,rfl,hq,hr,ho,hb1⟩
    have HR:=A_ hr
    have HO:=A_ (Own.older (Own.right_ ho) hb.size)
    have HY1:=A_ (Sl.below hy.o hb1)
    have OY1:=A_ (Own.below oy.o hb1)
    have hb2:Below w.heap.size w w1:=Below.next hb hb1
    have rn:=A_ (show n2≤65536 from Nat.le_trans (by rw[← hr.1];exact rl.o) hm)
    clear hq hr ho hb hb1
    go_wp2_with fail
    go_roundg (G_ x % G_ y).toNat
    case measure=>exact rm.o
    case rel=>exact ⟨B,A2,m,n2,d,c2,y,_,ds,b2,rfl,rfl,HY1,OY1,HR,HO,cy,CR,hm,rn.o,r1,r2,hb2⟩
   have hn3:¬ ((n:Int)<3):=by omega
   clear hsm h3
   go_wp2_with fail
   refine (A9o A B n m c d x y bs ds wr hx.o hy.o cx.o cy.o hn hm0 hm).mono ?_
   rintro _ w1 ⟨A1,n1,c1,b1,A2,n2,c2,b2,rfl,hq,hr,ho,hb1⟩
   have HR:=A_ hr
   have HO:=A_ (Own.older (Own.right_ ho) hb.size)
   have HY1:=A_ (Sl.below hy.o hb1)
   have OY1:=A_ (Own.below oy.o hb1)
   have hb2:Below w.heap.size w w1:=Below.next hb hb1
   have rn:=A_ (show n2≤65536 from Nat.le_trans (by rw[← hr.1];exact rl.o) hm)
   clear hq hr ho hb hb1
   go_wp2_with fail
   go_roundg (G_ x % G_ y).toNat
   case measure=>exact rm.o
   case rel=>exact ⟨B,A2,m,n2,d,c2,y,_,ds,b2,rfl,rfl,HY1,OY1,HR,HO,cy,CR,hm,rn.o,r1,r2,hb2⟩
  obtain rfl:m=0:=by omega
  have e:=A_ (show x=dig (Int.gcd (G_ xs) (G_ ys)) by
   rw[← hg.o,show G_ y=0 by rw[List.eq_nil_of_length_eq_zero hl.o];rfl,Int.gcd_zero_right]
   exact (cx.o.dig_natAbs).symm)
  go_wp2
  go_ret
  rw[← e.o]
  exact ⟨A,n,c,bs,rfl,hx.o,ox.o,hb⟩

theorem A2e (v:Value) (x:TBigInt) (bs:List Nat) (w:World) (hx:Agg w v x bs) :
  Calls Tryz.prog 149 #[v] w (A0j w (.bool (A1x x))):=by
 obtain ⟨A1,n1,c1,s1,rfl,rfl,hs1⟩:=TBigInt.agg hx
 have H1:=A_ hs1
 clear hs1 hx
 have E:=A_ (show A1x x=(A3c x.mag&&(!x.neg || decide (0<n1))) by
  unfold A1x
  congr 1;congr 1
  rw[← H1.o.1]
  cases x.mag<;>simp)
 cases hn:A3c x.mag
 ·go_enter Tryz.func149,Tryz.ntmps149
  go_wp2_with fail
  have C:=A4w A1 n1 c1 x.mag bs (w.alloc (.cells #[.bool x.neg,.slice A1 n1 c1] 33)) (Sl.below H1.o Below.go)
  rw[hn] at C
  refine C.mono ?_
  clear C
  rintro _ w1 ⟨rfl,hb1⟩
  obtain ⟨hc_w1,hf_w1⟩:=C_ hb1
  have hz0_w1:w.heap.size<w1.heap.size:=N_ hb1
  go_wp2
  go_ret
  exact ⟨R_ (by rw[E.o,hn];rfl),Below.go⟩
 have HN:=A_ hn
 clear hn
 rw[HN.o,Bool.true_and] at E
 cases hg:x.neg
 ·have E2:=A_ (show true=A1x x by rw[E.o,hg];rfl)
  clear E
  go_enter Tryz.func149,Tryz.ntmps149
  go_wp2_with fail
  have C:=A4w A1 n1 c1 x.mag bs (w.alloc (.cells #[.bool false,.slice A1 n1 c1] 33)) (Sl.below H1.o Below.go)
  rw[HN.o] at C
  refine C.mono ?_
  clear C
  rintro _ w1 ⟨rfl,hb1⟩
  obtain ⟨hc_w1,hf_w1⟩:=C_ hb1
  have hz0_w1:w.heap.size<w1.heap.size:=N_ hb1
  go_wp2
  go_ret
  exact ⟨R_ E2.o,Below.go⟩
 have E2:=A_ (show decide (0<n1)=A1x x by rw[E.o,hg];rfl)
 clear E
 go_enter Tryz.func149,Tryz.ntmps149
 go_wp2_with fail
 have C:=A4w A1 n1 c1 x.mag bs (w.alloc (.cells #[.bool true,.slice A1 n1 c1] 33)) (Sl.below H1.o Below.go)
 rw[HN.o] at C
 refine C.mono ?_
 clear C
 rintro _ w1 ⟨rfl,hb1⟩
 obtain ⟨hc_w1,hf_w1⟩:=C_ hb1
 have hz0_w1:w.heap.size<w1.heap.size:=N_ hb1
 go_wp2
 go_ret
 exact ⟨R_ E2.o,Below.go⟩

theorem A1o (neg:Bool) (A:Option Addr) (n c:Nat) (xs:List Int) (bs:List Nat) (w:World) (hx:Sl w A n c xs bs) (hcx:XN.Can xs) (hn:n≤60) :
  Calls Tryz.prog 151 #[.bool neg,.slice A n c] w (X_ w (⟨neg&&decide (0<n),xs⟩:TBigInt)):=by
 obtain ⟨i0,hi,hz0,hz1,hz2⟩:=info_parts A5v
 have HX:=A_ hx
 have hn':=A_ (Nat.le_trans hn (show 60≤1048576 by decide))
 have TL:=A_ (show (trim xs).length=n by rw[hcx.trim_eq];exact hx.1)
 clear hx hcx
 cases neg
 ·show Calls _ _ _ w (X_ w (⟨false,xs⟩:TBigInt))
  go_enter Tryz.func151,Tryz.ntmps151
  go_wp2_with fail
  have C:=B2a A n c xs bs (w.alloc (.cells #[.bool false,.slice none 0 0] 33)) (Sl.below HX.o Below.go) (by rw[TL.o];exact hn)
  rw[TL.o] at C
  refine C.mono ?_
  clear C
  rintro _ w1 ⟨rfl,hb1⟩
  obtain ⟨hc_w1,hf_w1⟩:=C_ hb1
  have hz0_w1:w.heap.size<w1.heap.size:=N_ hb1
  have HX1:=A_ (Sl.below (Sl.below HX.o (Below.box (.cells #[.bool false,.slice none 0 0] 33))) hb1)
  have hzz:w.heap.size<w1.heap.size+1:=by omega
  have hsz:w.heap.size+1≤w1.heap.size:=by have:=hb1.size;simp at this;omega
  go_wp2_with (at_builtin;(refine A5n rfl _ _ 31 rfl 3 i0 Tryz.underlying31 hi hz0 hz1 hz2 _ rfl A n c xs bs rfl (Sl.below HX1.o Below.go) hn'.o ?_);intro A3 c3 s3 w3 hs3 ho3 hb3;obtain ⟨hc_w3,hf_w3⟩:=C_ hb3;have hz0_w3:w.heap.size<w3.heap.size:=by (have h:=hb3.size;simp at h;omega))
  have HS3:=A_ hs3
  have HO3:=A_ ho3
  clear hs3 ho3
  refine bodyPost_ret (v:=.agg #[.bool false,.slice A3 n c3]) (by simp[results,Tryz.results151,go_sem, *]) rfl ?_
  have f:=fun (W:World) (ha:Above (w.heap.size+1) w3 W)=>A6b (w:=w) HS3.o HO3.o (by simp;omega) (by simp;omega) ha
  refine ⟨_,s3,rfl,TBigInt.mkAgg (x:=⟨false,xs⟩) (f _ ?_).1,(f _ ?_).2,?_⟩
  ·exact Above.go
  ·exact Above.go
  exact Below.go
 rcases Nat.eq_zero_or_pos n with h0 | h0
 ·subst h0
  show Calls _ _ _ w (X_ w (⟨false,xs⟩:TBigInt))
  go_enter Tryz.func151,Tryz.ntmps151
  go_wp2_with fail
  have C:=B2a A 0 c xs bs (w.alloc (.cells #[.bool false,.slice none 0 0] 33)) (Sl.below HX.o Below.go) (by rw[TL.o];exact hn)
  rw[TL.o] at C
  refine C.mono ?_
  clear C
  rintro _ w1 ⟨rfl,hb1⟩
  obtain ⟨hc_w1,hf_w1⟩:=C_ hb1
  have hz0_w1:w.heap.size<w1.heap.size:=N_ hb1
  have HX1:=A_ (Sl.below (Sl.below HX.o (Below.box (.cells #[.bool false,.slice none 0 0] 33))) hb1)
  have hzz:w.heap.size<w1.heap.size+1:=by omega
  have hsz:w.heap.size+1≤w1.heap.size:=by have:=hb1.size;simp at this;omega
  go_wp2_with (at_builtin;(refine A5n rfl _ _ 31 rfl 3 i0 Tryz.underlying31 hi hz0 hz1 hz2 _ rfl A 0 c xs bs rfl (Sl.below HX1.o Below.go) hn'.o ?_);intro A3 c3 s3 w3 hs3 ho3 hb3;obtain ⟨hc_w3,hf_w3⟩:=C_ hb3;have hz0_w3:w.heap.size<w3.heap.size:=by (have h:=hb3.size;simp at h;omega))
  have HS3:=A_ hs3
  have HO3:=A_ ho3
  clear hs3 ho3
  refine bodyPost_ret (v:=.agg #[.bool false,.slice A3 0 c3]) (by simp[results,Tryz.results151,go_sem, *]) rfl ?_
  have f:=fun (W:World) (ha:Above (w.heap.size+1) w3 W)=>A6b (w:=w) HS3.o HO3.o (by simp;omega) (by simp;omega) ha
  refine ⟨_,s3,rfl,TBigInt.mkAgg (x:=⟨false,xs⟩) (f _ ?_).1,(f _ ?_).2,?_⟩
  ·exact Above.go
  ·exact Above.go
  exact Below.go
 have e:(true&&decide (0<n))=true:=by simp[h0]
 rw[e]
 go_enter Tryz.func151,Tryz.ntmps151
 go_wp2_with fail
 have C:=B2a A n c xs bs (w.alloc (.cells #[.bool false,.slice none 0 0] 33)) (Sl.below HX.o Below.go) (by rw[TL.o];exact hn)
 rw[TL.o] at C
 refine C.mono ?_
 clear C
 rintro _ w1 ⟨rfl,hb1⟩
 obtain ⟨hc_w1,hf_w1⟩:=C_ hb1
 have hz0_w1:w.heap.size<w1.heap.size:=N_ hb1
 have HX1:=A_ (Sl.below (Sl.below HX.o (Below.box (.cells #[.bool false,.slice none 0 0] 33))) hb1)
 have hzz:w.heap.size<w1.heap.size+1:=by omega
 have hsz:w.heap.size+1≤w1.heap.size:=by have:=hb1.size;simp at this;omega
 go_wp2_with (at_builtin;(refine A5n rfl _ _ 31 rfl 3 i0 Tryz.underlying31 hi hz0 hz1 hz2 _ rfl A n c xs bs rfl (Sl.below HX1.o Below.go) hn'.o ?_);intro A3 c3 s3 w3 hs3 ho3 hb3;obtain ⟨hc_w3,hf_w3⟩:=C_ hb3;have hz0_w3:w.heap.size<w3.heap.size:=by (have h:=hb3.size;simp at h;omega))
 have HS3:=A_ hs3
 have HO3:=A_ ho3
 clear hs3 ho3
 refine bodyPost_ret (v:=.agg #[.bool true,.slice A3 n c3]) (by simp[results,Tryz.results151,go_sem, *]) rfl ?_
 have f:=fun (W:World) (ha:Above (w.heap.size+1) w3 W)=>A6b (w:=w) HS3.o HO3.o (by simp;omega) (by simp;omega) ha
 refine ⟨_,s3,rfl,TBigInt.mkAgg (x:=⟨true,xs⟩) (f _ ?_).1,(f _ ?_).2,?_⟩
 ·exact Above.go
 ·exact Above.go
 exact Below.go

theorem A3u (A:Option Addr) (n c:Nat) (xs:List Int) (bs:List Nat) (w:World) (hx:Sl w A n c xs bs) :
  Calls Tryz.prog 200 #[.slice A n c] w (A0j w (.bool (decide (xs=[1])))):=by
 have HL:=A_ hx.1
 by_cases h1:n=1
 ·subst h1
  obtain ⟨b,off,x,rfl,hbl,hx1,hI,hc⟩:=Sl.getInt hx (k:=0) (by decide)
  simp only [Nat.add_zero] at hc
  have e:=A_ (show (x==1)=decide (xs=[1]) by
   have h:=HL.o
   match xs,h with
   | [y],_=>simp at hx1;subst hx1;simp;rfl)
  clear hx hx1
  go_enter Tryz.func200,Tryz.ntmps200
  go_wp2
  go_ret
  exact ⟨R_ e.o,Below.go⟩
 have e:=A_ (show decide (xs=[1])=false by
  simp;intro h;apply h1;rw[← HL.o,h];rfl)
 have hn:((n:Int)==1)=false:=by simp;omega
 clear hx h1
 go_enter Tryz.func200,Tryz.ntmps200
 go_wp2
 go_ret
 exact ⟨R_ e.o.symm,Below.go⟩

theorem C6r (N:Nat):(⟨true&&decide (0<(dig N).length),dig N⟩:TBigInt)=Q_ (-(N:Int)):=by
 obtain ⟨h1,h2⟩:=enc_of (neg:=true) (N:=N) (v:=-(N:Int)) (by simp)
 rw[← h2,← h1]
theorem D1n (N:Nat):(⟨false&&decide (0<(dig N).length),dig N⟩:TBigInt)=Q_ (N:Int):=by
 obtain ⟨h1,h2⟩:=enc_of (neg:=false) (N:=N) (v:=(N:Int)) (by simp)
 rw[← h2,← h1]

theorem min_can:XN.Can [854775808,223372036,9]:=⟨Lims.cons (by decide) (by decide) (Lims.cons (by decide) (by decide) (Lims.one (by decide) (by decide))),by decide⟩
theorem D3p:(⟨true&&decide (0<3),[854775808,223372036,9]⟩:TBigInt)=Q_ (-9223372036854775808):=by
 have h:G_ [854775808,223372036,9]=9223372036854775808:=by decide
 generalize hN:(9223372036854775808:Nat)=N
 have hv:G_ [854775808,223372036,9]=(N:Int):=by rw[h,← hN];rfl
 have e:[854775808,223372036,9]=dig N:=min_can.of_val hv
 have e2:(-9223372036854775808:Int) = -(N:Int):=by rw[← hN];rfl
 rw[e2,← C6r,← e];rfl

theorem A5y (N:Int) (w:World) (h:I64 N):Calls Tryz.prog 103 #[.int .i64 N] w (X_ w (Q_ N)):=by
 have h0:=h.1
 have h1:=h.2
 clear h
 rcases Int.lt_or_le N 0 with hN | hN
 ·by_cases hm:N = -9223372036854775808
  ·subst hm
   have LC:=A_ min_can
   go_enter Tryz.func103,Tryz.ntmps103
   go_wp2_with fail
   obtain ⟨ls,hls⟩:=A5a (B5c (w.alloc (.cells #[.bool false,.slice none 0 0] 33)) [854775808,223372036,9] (by simp[maxLen])) (fun x hx=>LC.o.1.i64 x hx)
   rw[show (w.alloc (.cells #[.bool false,.slice none 0 0] 33)).heap.size=w.heap.size+1 by simp] at hls
   have C:=A1o true (some ⟨w.heap.size+1,0,none⟩) 3 3 _ ls ((w.alloc (.cells #[.bool false,.slice none 0 0] 33)).alloc (.cells #[.int .i64 854775808,.int .i64 223372036,.int .i64 9] 3)) hls LC.o (by decide)
   have E:=A_ D3p
   refine C.mono ?_
   clear C
   rintro _ w2 ⟨v2,s2,rfl,ha2,ho2,hb2⟩
   rw[E.o] at ha2
   obtain ⟨A2,n2,c2,_,rfl,rfl,hs2⟩:=TBigInt.agg ha2
   have HS2:=A_ hs2
   have HO2:=A_ ho2
   clear hs2 ho2 ha2
   obtain ⟨hc_w2,hf_w2⟩:=C_ hb2
   have hsz2:=A_ (show w.heap.size+1≤((w.alloc (.cells #[.bool false,.slice none 0 0] 33)).alloc (.cells #[.int .i64 854775808,.int .i64 223372036,.int .i64 9] 3)).heap.size by simp)
   have hz0_w2:w.heap.size<w2.heap.size:=by have:=hb2.size;have:=hsz2.o;omega
   have hzz1:w.heap.size<w.heap.size+1+1:=by omega
   go_wp2
   refine bodyPost_ret (v:=.agg #[.bool (Q_ (-9223372036854775808)).neg,.slice A2 n2 c2]) (by simp[results,Tryz.results103,go_sem, *]) rfl ?_
   have f:=fun (W:World) (ha:Above (w.heap.size+1) w2 W)=>A6b (w:=w) HS2.o HO2.o (by have:=hsz2.o;omega) hsz2.o ha
   refine ⟨_,s2,rfl,TBigInt.mkAgg (f _ ?_).1,(f _ ?_).2,?_⟩
   ·exact Above.go
   ·exact Above.go
   exact Below.go
  have hz:(N==-9223372036854775808)=false:=by simp;exact hm
  have hm':-9223372036854775807≤N:=by omega
  have hn9:=A_ (show -N≤9223372036854775807 by omega)
  have hdl:=A_ (show (dig (-N).toNat).length≤60 from Nat.le_trans (A3h (k:=3) (by rw[pw_vals.2.2];omega)) (by decide))
  have E:=A_ (show Q_ (-((-N).toNat:Int))=Q_ N by rw[Int.toNat_of_nonneg (by omega),Int.neg_neg])
  go_enter Tryz.func103,Tryz.ntmps103
  go_wp2_with fail
  refine (A8o (-N) (w.alloc (.cells #[.bool false,.slice none 0 0] 33)) hn9.o).mono ?_
  rintro _ w1 ⟨A1,n1,c1,s1,rfl,hs1,ho1,hb1⟩
  have EL:=A_ hs1.1
  have HS1:=A_ hs1
  clear hs1 ho1
  obtain ⟨hc_w1,hf_w1⟩:=C_ hb1
  have hz0_w1:w.heap.size<w1.heap.size:=N_ hb1
  go_wp2_with fail
  have C:=A1o true A1 n1 c1 _ s1 w1 HS1.o (W_ _) (by rw[← EL.o];exact hdl.o)
  refine C.mono ?_
  clear C
  rintro _ w2 ⟨v2,s2,rfl,ha2,ho2,hb2⟩
  rw[← EL.o,C6r,E.o] at ha2
  obtain ⟨A2,n2,c2,_,rfl,rfl,hs2⟩:=TBigInt.agg ha2
  have HS2:=A_ hs2
  have HO2:=A_ ho2
  clear hs2 ho2 ha2
  obtain ⟨hc_w2,hf_w2⟩:=C_ hb2
  have hsz2:=A_ (show w.heap.size+1≤w1.heap.size by omega)
  have hz0_w2:w.heap.size<w2.heap.size:=by have:=hb2.size;have:=hsz2.o;omega
  have hzz1:w.heap.size<w.heap.size+1+1:=by omega
  go_wp2
  refine bodyPost_ret (v:=.agg #[.bool (Q_ N).neg,.slice A2 n2 c2]) (by simp[results,Tryz.results103,go_sem, *]) rfl ?_
  have f:=fun (W:World) (ha:Above (w.heap.size+1) w2 W)=>A6b (w:=w) HS2.o HO2.o (by have:=hsz2.o;omega) hsz2.o ha
  refine ⟨_,s2,rfl,TBigInt.mkAgg (f _ ?_).1,(f _ ?_).2,?_⟩
  ·exact Above.go
  ·exact Above.go
  exact Below.go
 have hz:(N==-9223372036854775808)=false:=by simp;omega
 have hN':¬ (N<0):=by omega
 have hn9:=A_ (show N≤9223372036854775807 by omega)
 have hdl:=A_ (show (dig N.toNat).length≤60 from Nat.le_trans (A3h (k:=3) (by rw[pw_vals.2.2];omega)) (by decide))
 have E:=A_ (show Q_ ((N.toNat:Nat):Int)=Q_ N by rw[Int.toNat_of_nonneg hN])
 go_enter Tryz.func103,Tryz.ntmps103
 go_wp2_with fail
 refine (A8o N (w.alloc (.cells #[.bool false,.slice none 0 0] 33)) hn9.o).mono ?_
 rintro _ w1 ⟨A1,n1,c1,s1,rfl,hs1,ho1,hb1⟩
 have EL:=A_ hs1.1
 have HS1:=A_ hs1
 clear hs1 ho1
 obtain ⟨hc_w1,hf_w1⟩:=C_ hb1
 have hz0_w1:w.heap.size<w1.heap.size:=N_ hb1
 go_wp2_with fail
 have C:=A1o false A1 n1 c1 _ s1 w1 HS1.o (W_ _) (by rw[← EL.o];exact hdl.o)
 refine C.mono ?_
 clear C
 rintro _ w2 ⟨v2,s2,rfl,ha2,ho2,hb2⟩
 rw[← EL.o,D1n,E.o] at ha2
 obtain ⟨A2,n2,c2,_,rfl,rfl,hs2⟩:=TBigInt.agg ha2
 have HS2:=A_ hs2
 have HO2:=A_ ho2
 clear hs2 ho2 ha2
 obtain ⟨hc_w2,hf_w2⟩:=C_ hb2
 have hsz2:=A_ (show w.heap.size+1≤w1.heap.size by omega)
 have hz0_w2:w.heap.size<w2.heap.size:=by have:=hb2.size;have:=hsz2.o;omega
 have hzz1:w.heap.size<w.heap.size+1+1:=by omega
 go_wp2
 refine bodyPost_ret (v:=.agg #[.bool (Q_ N).neg,.slice A2 n2 c2]) (by simp[results,Tryz.results103,go_sem, *]) rfl ?_
 have f:=fun (W:World) (ha:Above (w.heap.size+1) w2 W)=>A6b (w:=w) HS2.o HO2.o (by have:=hsz2.o;omega) hsz2.o ha
 refine ⟨_,s2,rfl,TBigInt.mkAgg (f _ ?_).1,(f _ ?_).2,?_⟩
 ·exact Above.go
 ·exact Above.go
 exact Below.go

def B1i (neg:Bool) (xs:List Int):Int:=if neg then -G_ xs else G_ xs
theorem D4t {neg:Bool} {xs:List Int} {D:Int} (hc:XN.Can xs) (hD:0<D) :
  mkR (B1i neg xs) D=if (dig (G_ xs / (Int.gcd (G_ xs) D:Nat)).toNat).length≤24∧(dig (D / (Int.gcd (G_ xs) D:Nat)).toNat).length≤24 then
   ⟨⟨neg&&decide (0<(dig (G_ xs / (Int.gcd (G_ xs) D:Nat)).toNat).length),dig (G_ xs / (Int.gcd (G_ xs) D:Nat)).toNat⟩,dig (D / (Int.gcd (G_ xs) D:Nat)).toNat⟩ else A1j:=by
 have hg:=A4y (a:=G_ xs) hD
 have e1:B1i neg xs=A0f ⟨neg&&decide (xs≠[]),xs⟩:=by
  unfold B1i A0f
  by_cases h:xs=[]
  ·subst h;cases neg<;>simp[G_]
  cases neg<;>simp[h]
 have e2:(neg&&decide (0<(dig (G_ xs / (Int.gcd (G_ xs) D:Nat)).toNat).length))=(neg&&decide (xs≠[])):=by
  congr 1
  by_cases h:xs=[]
  ·subst h
   have:G_ ([]:List Int)=0:=rfl
   rw[this,Int.zero_ediv];simp;rfl
  have hp:=hc.pos h
  have hq:0<G_ xs / (Int.gcd (G_ xs) D:Nat):=Int.ediv_pos_of_pos_of_dvd hp (by omega) (Int.gcd_dvd_left _ _)
  have:dig (G_ xs / (Int.gcd (G_ xs) D:Nat)).toNat≠[]:=by rw[Ne,A9e];omega
  simp[h,List.length_pos_iff.2 this]
 rw[e1,C5k (x:=⟨neg&&decide (xs≠[]),xs⟩) hc (by intro h;simp at h;exact h.2) hD,e2]

theorem A6g (neg:Bool) (A B:Option Addr) (n m c d:Nat) (xs ys:List Int) (bs ds:List Nat) (w:World) (hx:Sl w A n c xs bs) (hy:Sl w B m d ys ds) (hcx:XN.Can xs) (hcy:XN.Can ys) (hm0:0<m) (hn:n≤65536) (hm:m≤65536) :
  Calls Tryz.prog 150 #[.bool neg,.slice A n c,.slice B m d] w (X_ w (mkR (B1i neg xs) (G_ ys))):=by
 obtain ⟨i0,hi,hz0,hz1,hz2⟩:=info_parts A5v
 have HX:=A_ hx
 have HY:=A_ hy
 have CX:=A_ hcx
 have CY:=A_ hcy
 have TX:=A_ (show (trim xs).length=n by rw[hcx.trim_eq];exact hx.1)
 have TY:=A_ (show (trim ys).length=m by rw[hcy.trim_eq];exact hy.1)
 have HD:=A_ (hcy.pos (by intro e;rw[← hy.1,e] at hm0;simp at hm0))
 have MK:=A_ (D4t (neg:=neg) hcx HD.o)
 have PX:=A_ (T_ hcx.1)
 have HG:=A_ (A4y (a:=G_ xs) HD.o)
 have hz:((m:Int)==0)=false:=by simp;omega
 clear hx hy hcx hcy
 go_enter Tryz.func150,Tryz.ntmps150
 go_wp2_with fail
 have C:=A8e A n c xs bs (w.alloc (.cells #[.bool false,.slice none 0 0,.slice none 0 0] 35)) (Sl.below HX.o Below.go)
 rw[TX.o] at C
 refine C.mono ?_
 clear C
 rintro _ w1 ⟨rfl,hb1⟩
 go_wp2_with fail
 have C:=A8e B m d ys ds w1 (Sl.below HY.o (Below.next Below.go hb1))
 rw[TY.o] at C
 refine C.mono ?_
 clear C
 rintro _ w2 ⟨rfl,hb2⟩
 have bb2:=Below.next hb1 hb2
 have HX2:=A_ (Sl.below (Sl.below HX.o (Below.box (.cells #[.bool false,.slice none 0 0,.slice none 0 0] 35))) bb2)
 have HY2:=A_ (Sl.below (Sl.below HY.o (Below.box (.cells #[.bool false,.slice none 0 0,.slice none 0 0] 35))) bb2)
 clear hb1 hb2 HX HY
 go_wp2_with fail
 obtain ⟨b1,hb1⟩:∃ b,b=decide (ys=[1]):=⟨_,rfl⟩
 have C:=A3u B m d ys ds w2 HY2.o
 rw[← hb1] at C
 have HB1:=A_ hb1
 clear hb1
 refine C.mono ?_
 clear C
 rintro _ w3 ⟨rfl,hb3⟩
 have HX3:=A_ (Sl.below HX2.o hb3)
 have HY3:=A_ (Sl.below HY2.o hb3)
 have bb3:=Below.next bb2 hb3
 clear HX2 HY2 bb2 hb3
 go_upto_if 20 with fail
 go_cut [7,8] (fun a b wx=>∃ (A7 B8:Option Addr) (n7 c7 m8 d8:Nat) (s7 s8:List Nat),a=.slice A7 n7 c7∧b=.slice B8 m8 d8∧Hid (Sl wx A7 n7 c7 (dig (G_ xs / (Int.gcd (G_ xs) (G_ ys):Nat)).toNat) s7)∧Hid (Sl wx B8 m8 d8 (dig (G_ ys / (Int.gcd (G_ xs) (G_ ys):Nat)).toNat) s8)∧Below (w.alloc (.cells #[.bool false,.slice none 0 0,.slice none 0 0] 35)).heap.size (w.alloc (.cells #[.bool false,.slice none 0 0,.slice none 0 0] 35)) wx)
 case first =>
  by_cases hg1:Int.gcd (G_ xs) (G_ ys)=1
  ·have EX:=A_ (show dig (G_ xs / (Int.gcd (G_ xs) (G_ ys):Nat)).toNat=xs by rw[hg1,Int.natCast_one,Int.ediv_one];exact CX.o.eq_dig.symm)
   have EY:=A_ (show dig (G_ ys / (Int.gcd (G_ xs) (G_ ys):Nat)).toNat=ys by rw[hg1,Int.natCast_one,Int.ediv_one];exact CY.o.eq_dig.symm)
   have HG1:=A_ hg1
   clear hg1
   cases b1
   rotate_left
   ·go_wp2_with fail
    go_meet
    exact ⟨A,B,n,c,m,d,bs,ds,rfl,rfl,by rw[EX.o];exact HX3,by rw[EY.o];exact HY3,bb3⟩
   have G1:=A_ (show decide (dig (Int.gcd (G_ xs) (G_ ys))=[1])=true by rw[HG1.o];rfl)
   go_wp2_with fail
   refine (B1m A B n m c d xs ys bs ds w3 HX3.o HY3.o CX.o CY.o hn hm).mono ?_
   rintro _ w4 ⟨A4,n4,c4,s4,rfl,hs4,ho4,hb4⟩
   have HS4:=A_ hs4
   have HX4:=A_ (Sl.below HX3.o hb4)
   have HY4:=A_ (Sl.below HY3.o hb4)
   have bb4:=Below.next bb3 hb4
   clear hs4 ho4 hb4
   go_wp2_with fail
   have C:=A3u A4 n4 c4 _ s4 w4 HS4.o
   rw[G1.o] at C
   refine C.mono ?_
   clear C
   rintro _ w5 ⟨rfl,hb5⟩
   have HX5:=A_ (Sl.below HX4.o hb5)
   have HY5:=A_ (Sl.below HY4.o hb5)
   have bb5:=Below.next bb4 hb5
   go_wp2_with fail
   go_meet
   exact ⟨A,B,n,c,m,d,bs,ds,rfl,rfl,by rw[EX.o];exact HX5,by rw[EY.o];exact HY5,bb5⟩
  have Y1:b1=false:=by
   rw[HB1.o];simp;intro h;apply hg1;rw[h];show Int.gcd (G_ xs) 1=1;simp
  subst Y1
  have GV:=A_ (show G_ (dig (Int.gcd (G_ xs) (G_ ys)))=(Int.gcd (G_ xs) (G_ ys):Nat) from A1n _)
  have G1:=A_ (show decide (dig (Int.gcd (G_ xs) (G_ ys))=[1])=false by
   simp;intro h;apply hg1
   have:=GV.o
   rw[h] at this
   have h2:G_ [1]=1:=rfl
   omega)
  have GL:=A_ (show (dig (Int.gcd (G_ xs) (G_ ys))).length≤65536 from Nat.le_trans (A3h (k:=m) (by
   have h1:=Int.le_of_dvd HD.o (Int.gcd_dvd_right (G_ xs) (G_ ys))
   have h2:=A2r CY.o.1
   rw[show ys.length=m by rw[← TY.o,CY.o.trim_eq]] at h2
   omega)) hm)
  have GN:=A_ (show 0<(dig (Int.gcd (G_ xs) (G_ ys))).length from List.length_pos_iff.2 (by rw[Ne,A9e];have:=HG.o;omega))
  clear hg1
  go_wp2_with fail
  refine (B1m A B n m c d xs ys bs ds w3 HX3.o HY3.o CX.o CY.o hn hm).mono ?_
  rintro _ w4 ⟨A4,n4,c4,s4,rfl,hs4,ho4,hb4⟩
  have HS4:=A_ hs4
  have n4l:=A_ (show n4≤65536 by rw[← hs4.1];exact GL.o)
  have n4p:=A_ (show 0<n4 by rw[← hs4.1];exact GN.o)
  have HX4:=A_ (Sl.below HX3.o hb4)
  have HY4:=A_ (Sl.below HY3.o hb4)
  have bb4:=Below.next bb3 hb4
  clear hs4 ho4 hb4
  go_wp2_with fail
  have C:=A3u A4 n4 c4 _ s4 w4 HS4.o
  rw[G1.o] at C
  refine C.mono ?_
  clear C
  rintro _ w5 ⟨rfl,hb5⟩
  have HS5:=A_ (Sl.below HS4.o hb5)
  have HX5:=A_ (Sl.below HX4.o hb5)
  have HY5:=A_ (Sl.below HY4.o hb5)
  have bb5:=Below.next bb4 hb5
  clear HX4 HY4 bb4 HS4 hb5
  go_wp2_with fail
  refine (A9o A A4 n n4 c c4 xs _ bs s4 w5 HX5.o HS5.o CX.o (W_ _) hn n4p.o n4l.o).mono ?_
  rintro _ w6 ⟨Aq,nq,cq,sq,Ar,nr,cr,sr,rfl,hq,hr,ho,hb6⟩
  rw[GV.o] at hq
  have HQ6:=A_ hq
  have HS6:=A_ (Sl.below HS5.o hb6)
  have HY6:=A_ (Sl.below HY5.o hb6)
  have bb6:=Below.next bb5 hb6
  clear hq hr ho hb6 HX5 HS5 HY5 bb5
  go_wp2_with fail
  refine (A9o B A4 m n4 d c4 ys _ ds s4 w6 HY6.o HS6.o CY.o (W_ _) hm n4p.o n4l.o).mono ?_
  rintro _ w7 ⟨Ap,np,cp,sp,Ar2,nr2,cr2,sr2,rfl,hp,hr2,ho2,hb7⟩
  rw[GV.o] at hp
  have HP7:=A_ hp
  have HQ7:=A_ (Sl.below HQ6.o hb7)
  have bb7:=Below.next bb6 hb7
  clear hp hr2 ho2 hb7 HQ6 HS6 HY6 bb6
  go_wp2_with fail
  go_meet
  exact ⟨Aq,Ap,nq,cq,np,cp,sq,sp,rfl,rfl,HQ7,HP7,bb7⟩
 case rest =>
  obtain ⟨A7,B8,n7,c7,m8,d8,s7,s8,rfl,rfl,H7,H8,bb⟩:=hcut
  have CA:=A_ (W_ (G_ xs / (Int.gcd (G_ xs) (G_ ys):Nat)).toNat)
  have CB:=A_ (W_ (G_ ys / (Int.gcd (G_ xs) (G_ ys):Nat)).toNat)
  generalize dig (G_ xs / (Int.gcd (G_ xs) (G_ ys):Nat)).toNat=X at *
  generalize dig (G_ ys / (Int.gcd (G_ xs) (G_ ys):Nat)).toNat=Y at *
  have LA:=A_ (show X.length=n7 from H7.o.1)
  have LB:=A_ (show Y.length=m8 from H8.o.1)
  clear HG PX HD TX TY CX CY HB1 hz hn hm hm0
  obtain ⟨hc_wc,hf_wc⟩:=C_ bb
  have hz0_wc:w.heap.size<wc.heap.size:=N_ bb
  rcases Nat.lt_or_ge 24 n7 with h7 | h7
  ·have E:=A_ (show mkR (B1i neg xs) (G_ ys)=A1j by rw[MK.o,LA.o,if_neg (by omega)])
   have z1:(24:Int)<n7:=by omega
   clear h7 MK
   go_wp2
   refine bodyPost_ret (v:=.agg #[.bool false,.slice none 0 0,.slice none 0 0]) (by simp[results,Tryz.results150,go_sem, *]) rfl ?_
   rw[E.o]
   exact A1w Below.go
  rcases Nat.lt_or_ge 24 m8 with h8 | h8
  ·have E:=A_ (show mkR (B1i neg xs) (G_ ys)=A1j by rw[MK.o,LA.o,LB.o,if_neg (by omega)])
   have z1:¬ ((24:Int)<n7):=by omega
   have z2:(24:Int)<m8:=by omega
   clear h7 h8 MK
   go_wp2
   refine bodyPost_ret (v:=.agg #[.bool false,.slice none 0 0,.slice none 0 0]) (by simp[results,Tryz.results150,go_sem, *]) rfl ?_
   rw[E.o]
   exact A1w Below.go
  have E:=A_ (show mkR (B1i neg xs) (G_ ys)=⟨⟨neg&&decide (0<n7),X⟩,Y⟩ by rw[MK.o,LA.o,LB.o,if_pos ⟨h7,h8⟩])
  have z1:¬ ((24:Int)<n7):=by omega
  have z2:¬ ((24:Int)<m8):=by omega
  have h60:=A_ (show n7≤60 by omega)
  have hm8:=A_ (show m8≤1048576 by omega)
  clear h7 h8 MK
  go_wp2_with fail
  refine (A1o neg A7 n7 c7 X s7 wc H7.o CA.o h60.o).mono ?_
  rintro _ w3 ⟨v3,s3,rfl,ha3,ho3,hb3⟩
  obtain ⟨A9,n9,c9,_,rfl,rfl,hs9⟩:=TBigInt.agg ha3
  have HS9:=A_ hs9
  have HO9:=A_ ho3
  have H83:=A_ (Sl.below H8.o hb3)
  have hwz:=A_ (show w.heap.size+1≤wc.heap.size by omega)
  clear hs9 ho3 ha3
  obtain ⟨hc_w3,hf_w3⟩:=C_ hb3
  have hz0_w3:w.heap.size<w3.heap.size:=N_ hb3
  have hzz:w.heap.size<w3.heap.size+1:=by omega
  go_wp2_with (at_builtin;(refine A5n rfl _ _ 31 rfl 3 i0 Tryz.underlying31 hi hz0 hz1 hz2 _ rfl B8 m8 d8 Y s8 rfl (Sl.below H83.o Below.go) hm8.o ?_);intro A4 c4 s4 w4 hs4 ho4 hb4;obtain ⟨hc_w4,hf_w4⟩:=C_ hb4;have hz0_w4:w.heap.size<w4.heap.size:=by (have h:=hb4.size;simp at h;omega))
  have HS4:=A_ hs4
  have HO4:=A_ ho4
  have HS9':=A_ (Sl.below (Sl.below HS9.o (show Below w3.heap.size w3 _ from Below.box (.cells #[] 3))) hb4)
  have HO9':=A_ (Own.below (Own.below HO9.o (show Below w3.heap.size w3 _ from Below.box (.cells #[] 3))) hb4)
  have AP:=A_ (A6d (N:=w3.heap.size) (b2:=s4) HS9.o.lt (fun b hb=>by have:=(HO4.o.2 b hb).1;simp at this;omega))
  refine bodyPost_ret (v:=.agg #[.bool (neg&&decide (0<n7)),.slice A9 n9 c9,.slice A4 m8 c4]) (by simp[results,Tryz.results150,go_sem, *]) rfl ?_
  rw[E.o]
  have f1:=fun (W:World) (ha:Above (w.heap.size+1) w4 W)=>A6b (w:=w) HS9'.o HO9'.o (by have:=hwz.o;omega) hwz.o ha
  have f2:=fun (W:World) (ha:Above (w.heap.size+1) w4 W)=>A6b (w:=w) HS4.o HO4.o (by simp;omega) (by simp;omega) ha
  refine A5m (x:=⟨⟨neg&&decide (0<n7),X⟩,Y⟩) (f1 _ ?_) (f2 _ ?_) AP.o ?_
  ·exact Above.go
  ·exact Above.go
  exact Below.go

theorem B1d (w:World) (o:Obj) (k:Nat) (h:k<w.heap.size):(w.alloc o).heap[k]?=w.heap[k]?:=(World.grownBy_alloc w o none).block k h (by simp)
theorem Above.alloc2 {lo:Nat} {w W:World} {o:Obj} (h:Above lo w W) (hs:W.heap.size=w.heap.size):Above lo (w.alloc o) (W.alloc o):=by
 refine ⟨by simp[hs],fun b hb hl=>?_⟩
 simp at hl
 rcases Nat.lt_or_ge b w.heap.size with h1 | h1
 ·rw[B1d W o b (by omega),B1d w o b h1];exact h.block b hb h1
 have e:b=w.heap.size:=by omega
 have e1:=heap_alloc_new W o
 rw[hs] at e1
 rw[e,e1,heap_alloc_new w o]
theorem D1h (w:World) (xs:List Int) (hm:xs.length≤maxLen) (hi:∀ x∈xs,I64 x) :
  ∃ bs,Sl (w.alloc (.cells (xs.map (.int .i64)).toArray 3)) (some ⟨w.heap.size,0,none⟩) xs.length xs.length xs bs∧Own w (w.alloc (.cells (xs.map (.int .i64)).toArray 3)) bs:=by
 obtain ⟨A',n',c',bs',e',hs',ho',_⟩:=A2w (B5c w xs hm) rfl hi (Below.box _)
 injection e' with e1
 injection e1 with e2 e3 e4
 subst e2;subst e3;subst e4
 exact ⟨bs',hs',ho'⟩

theorem A7u (N:Int) (w:World) (h:I64 N):Calls Tryz.prog 118 #[.int .i64 N] w (X_ w (A1y N)):=by
 go_enter Tryz.func118,Tryz.ntmps118
 go_wp2_with fail
 refine (A5y N _ h).mono ?_
 rintro _ w1 ⟨v1,s1,rfl,ha1,ho1,hb1⟩
 obtain ⟨A1,n1,c1,_,rfl,rfl,hs1⟩:=TBigInt.agg ha1
 have HS1:=A_ hs1
 have HO1:=A_ ho1
 clear hs1 ho1 ha1
 obtain ⟨hc_w1,hf_w1⟩:=C_ hb1
 have hz0_w1:w.heap.size<w1.heap.size:=N_ hb1
 have hwz:=A_ (show w.heap.size+1≤w1.heap.size by omega)
 have hzz:w.heap.size<w1.heap.size+1:=by omega
 obtain ⟨s2,hs2,ho2⟩:=D1h w1 [1] (by simp[maxLen]) (by simp[I64])
 have HS2:=A_ hs2
 have HO2:=A_ ho2
 clear hs2 ho2
 go_wp2
 have AP:=A_ (A6d (N:=w1.heap.size) (b2:=s2) HS1.o.lt (fun b hb=>(HO2.o.2 b hb).1))
 refine bodyPost_ret (v:=.agg #[.bool (Q_ N).neg,.slice A1 n1 c1,.slice (some ⟨w1.heap.size,0,none⟩) 1 1]) (by simp[results,Tryz.results118,go_sem, *]) rfl ?_
 have f1:=fun (W:World) (ha:Above (w.heap.size+1) w1 W)=>A6b (w:=w) HS1.o HO1.o (by simp) (by simp) ha
 have f2:=fun (W:World) (ha:Above (w.heap.size+1) (w1.alloc (.cells #[.int .i64 1] 3)) W)=>A6b (w:=w) (A:=some ⟨w1.heap.size,0,none⟩) (n:=1) (c:=1) (xs:=[(1:Int)]) HS2.o HO2.o (by have:=hwz.o;omega) hwz.o ha
 refine A5m (x:=A1y N) (f1 _ ?_) (f2 _ ?_) AP.o ?_
 ·exact Above.go
 ·refine Above.alloc2 ?_ (by simp)
  exact Above.go
 exact Below.go

theorem A0n (v:Value) (x:TRat) (b:List Nat) (w:World) (hx:Agg w v x b) :
  Calls Tryz.prog 284 #[v] w (A0j w (.bool (S_ x))):=by
 obtain ⟨A1,n1,c1,s1,A2,n2,c2,s2,rfl,rfl,hs1,hs2⟩:=TRat.agg hx
 have H1:=A_ hs1;have H2:=A_ hs2
 have L1:=A_ hs1.1;have L2:=A_ hs2.1
 clear hs1 hs2 hx
 cases hb:A1x x.num
 ·have HB:=A_ hb
  have E:=A_ (show false=S_ x by unfold S_;rw[hb];rfl)
  clear hb
  go_enter Tryz.func284,Tryz.ntmps284
  go_wp2_with fail
  have C:=A2e _ x.num s1 (w.alloc (.cells #[.bool x.num.neg,.slice A1 n1 c1,.slice A2 n2 c2] 35)) (TBigInt.mkAgg (Sl.below H1.o Below.go))
  rw[HB.o] at C
  refine C.mono ?_
  clear C
  rintro _ w1 ⟨rfl,hb1⟩
  obtain ⟨hc_w1,hf_w1⟩:=C_ hb1
  have hz0_w1:w.heap.size<w1.heap.size:=N_ hb1
  go_wp2
  go_ret
  exact ⟨R_ E.o,Below.go⟩
 have HB:=A_ hb
 cases hn:A3c x.den
 ·have HN:=A_ hn
  have E:=A_ (show false=S_ x by unfold S_;rw[hb,hn];rfl)
  clear hb hn
  go_enter Tryz.func284,Tryz.ntmps284
  go_wp2_with fail
  have C:=A2e _ x.num s1 (w.alloc (.cells #[.bool x.num.neg,.slice A1 n1 c1,.slice A2 n2 c2] 35)) (TBigInt.mkAgg (Sl.below H1.o Below.go))
  rw[HB.o] at C
  refine C.mono ?_
  clear C
  rintro _ w1 ⟨rfl,hb1⟩
  obtain ⟨hc_w1,hf_w1⟩:=C_ hb1
  have hz0_w1:w.heap.size<w1.heap.size:=N_ hb1
  go_wp2_with fail
  have C:=A4w A2 n2 c2 x.den s2 w1 (Sl.below H2.o Below.go)
  rw[HN.o] at C
  refine C.mono ?_
  clear C
  rintro _ w2 ⟨rfl,hb2⟩
  obtain ⟨hc_w2,hf_w2⟩:=C_ hb2
  have hz0_w2:w.heap.size<w2.heap.size:=N_ hb2
  go_wp2
  go_ret
  exact ⟨R_ E.o,Below.go⟩
 have HN:=A_ hn
 have CB:=A_ (bigOkB_iff.1 hb).1
 have CN:=A_ (natOkB_iff.1 hn)
 rcases Nat.eq_zero_or_pos n2 with h0 | h0
 ·subst h0
  have E:=A_ (show false=S_ x by unfold S_;rw[hb,hn,List.eq_nil_of_length_eq_zero L2.o];rfl)
  clear hb hn
  go_enter Tryz.func284,Tryz.ntmps284
  go_wp2_with fail
  have C:=A2e _ x.num s1 (w.alloc (.cells #[.bool x.num.neg,.slice A1 n1 c1,.slice A2 0 c2] 35)) (TBigInt.mkAgg (Sl.below H1.o Below.go))
  rw[HB.o] at C
  refine C.mono ?_
  clear C
  rintro _ w1 ⟨rfl,hb1⟩
  obtain ⟨hc_w1,hf_w1⟩:=C_ hb1
  have hz0_w1:w.heap.size<w1.heap.size:=N_ hb1
  go_wp2_with fail
  have C:=A4w A2 0 c2 x.den s2 w1 (Sl.below H2.o Below.go)
  rw[HN.o] at C
  refine C.mono ?_
  clear C
  rintro _ w2 ⟨rfl,hb2⟩
  obtain ⟨hc_w2,hf_w2⟩:=C_ hb2
  have hz0_w2:w.heap.size<w2.heap.size:=N_ hb2
  go_wp2
  go_ret
  exact ⟨R_ E.o,Below.go⟩
 have z0:((n2:Int)==0)=false:=by simp;omega
 rcases Nat.lt_or_ge 24 n2 with h2 | h2
 ·have E:=A_ (show false=S_ x by unfold S_;rw[hb,hn,L2.o,show decide (n2≤24)=false by simp;omega];simp)
  have z2:(24:Int)<n2:=by omega
  clear hb hn h2 h0
  go_enter Tryz.func284,Tryz.ntmps284
  go_wp2_with fail
  have C:=A2e _ x.num s1 (w.alloc (.cells #[.bool x.num.neg,.slice A1 n1 c1,.slice A2 n2 c2] 35)) (TBigInt.mkAgg (Sl.below H1.o Below.go))
  rw[HB.o] at C
  refine C.mono ?_
  clear C
  rintro _ w1 ⟨rfl,hb1⟩
  obtain ⟨hc_w1,hf_w1⟩:=C_ hb1
  have hz0_w1:w.heap.size<w1.heap.size:=N_ hb1
  go_wp2_with fail
  have C:=A4w A2 n2 c2 x.den s2 w1 (Sl.below H2.o Below.go)
  rw[HN.o] at C
  refine C.mono ?_
  clear C
  rintro _ w2 ⟨rfl,hb2⟩
  obtain ⟨hc_w2,hf_w2⟩:=C_ hb2
  have hz0_w2:w.heap.size<w2.heap.size:=N_ hb2
  go_wp2
  go_ret
  exact ⟨R_ E.o,Below.go⟩
 have z2:¬ ((24:Int)<n2):=by omega
 rcases Nat.lt_or_ge 24 n1 with h1 | h1
 ·have E:=A_ (show false=S_ x by unfold S_;rw[hb,hn,L1.o,show decide (n1≤24)=false by simp;omega];simp)
  have z1:(24:Int)<n1:=by omega
  clear hb hn h2 h0 h1
  go_enter Tryz.func284,Tryz.ntmps284
  go_wp2_with fail
  have C:=A2e _ x.num s1 (w.alloc (.cells #[.bool x.num.neg,.slice A1 n1 c1,.slice A2 n2 c2] 35)) (TBigInt.mkAgg (Sl.below H1.o Below.go))
  rw[HB.o] at C
  refine C.mono ?_
  clear C
  rintro _ w1 ⟨rfl,hb1⟩
  obtain ⟨hc_w1,hf_w1⟩:=C_ hb1
  have hz0_w1:w.heap.size<w1.heap.size:=N_ hb1
  go_wp2_with fail
  have C:=A4w A2 n2 c2 x.den s2 w1 (Sl.below H2.o Below.go)
  rw[HN.o] at C
  refine C.mono ?_
  clear C
  rintro _ w2 ⟨rfl,hb2⟩
  obtain ⟨hc_w2,hf_w2⟩:=C_ hb2
  have hz0_w2:w.heap.size<w2.heap.size:=N_ hb2
  go_wp2
  go_ret
  exact ⟨R_ E.o,Below.go⟩
 have z1:¬ ((24:Int)<n1):=by omega
 have E:=A_ (show decide (dig (Int.gcd (G_ x.num.mag) (G_ x.den))=[1])=S_ x by
  unfold S_
  rw[hb,hn,L1.o,L2.o,decide_eq_true h1,decide_eq_true h2]
  have:x.den.isEmpty=false:=by
   cases hd:x.den with
   | nil=>have:=L2.o;rw[hd] at this;simp at this;omega
   | cons _ _=>rfl
  rw[this]
  simp only [Bool.not_false,Bool.true_and]
  congr 1
  rw[eq_iff_iff]
  refine ⟨fun h=>?_,fun h=>by rw[h];rfl⟩
  have h3:=A1n (Int.gcd (G_ x.num.mag) (G_ x.den))
  rw[h] at h3
  have h4:G_ [1]=1:=rfl
  omega)
 have hn1:=A_ (show n1≤65536 by omega)
 have hn2:=A_ (show n2≤65536 by omega)
 clear hb hn h0 h1 h2
 go_enter Tryz.func284,Tryz.ntmps284
 go_wp2_with fail
 have C:=A2e _ x.num s1 (w.alloc (.cells #[.bool x.num.neg,.slice A1 n1 c1,.slice A2 n2 c2] 35)) (TBigInt.mkAgg (Sl.below H1.o Below.go))
 rw[HB.o] at C
 refine C.mono ?_
 clear C
 rintro _ w1 ⟨rfl,hb1⟩
 obtain ⟨hc_w1,hf_w1⟩:=C_ hb1
 have hz0_w1:w.heap.size<w1.heap.size:=N_ hb1
 go_wp2_with fail
 have C:=A4w A2 n2 c2 x.den s2 w1 (Sl.below H2.o Below.go)
 rw[HN.o] at C
 refine C.mono ?_
 clear C
 rintro _ w2 ⟨rfl,hb2⟩
 obtain ⟨hc_w2,hf_w2⟩:=C_ hb2
 have hz0_w2:w.heap.size<w2.heap.size:=N_ hb2
 go_wp2_with fail
 have b12:Below w.heap.size w w2:=Below.go
 refine (B1m A1 A2 n1 n2 c1 c2 x.num.mag x.den _ _ w2 (Sl.below H1.o b12) (Sl.below H2.o b12) CB.o.2 CN.o.2 hn1.o hn2.o).mono ?_
 rintro _ w3 ⟨A4,n4,c4,s4,rfl,hs4,ho4,hb4⟩
 have HS4:=A_ hs4
 clear hs4 ho4
 obtain ⟨hc_w3,hf_w3⟩:=C_ hb4
 have hz0_w3:w.heap.size<w3.heap.size:=N_ hb4
 go_wp2_with fail
 have C:=A3u A4 n4 c4 _ s4 w3 HS4.o
 rw[E.o] at C
 refine C.mono ?_
 clear C
 rintro _ w5 ⟨rfl,hb5⟩
 have b5:=Below.next (Below.next b12 hb4) hb5
 go_wp2
 go_ret
 exact ⟨rfl,b5⟩

theorem C5u {neg:Bool} {N n:Nat} {v:Int} (E:(Q_ v).mag=dig N∧(Q_ v).neg=(neg&&decide (0<(dig N).length))) (hl:(Q_ v).mag.length=n):(⟨neg&&decide (0<n),(Q_ v).mag⟩:TBigInt)=Q_ v:=by
 rw[← hl,E.1,← E.2,← E.1]
theorem A3o {w w':World} {xs:List Int} {e:Ending} (hi:∀ x∈xs,I64 x) (h:A6t w 3 xs e w'):A2t w xs e w':=by
 obtain ⟨v,rfl,ho,hb⟩:=h
 exact A2w ho rfl hi hb
theorem D2e {k:Nat} {xs ys:List Int} (hx:Lims xs) (hy:Lims ys) (lx:xs.length≤k) (ly:ys.length≤k):(dig (G_ xs+G_ ys).toNat).length≤k+1:=by
 have h1:=A2r hx;have h2:=A2r hy
 have h3:=A2x lx;have h4:=A2x ly
 have h5:=T_ hx;have h6:=T_ hy
 refine A3h ?_
 rw[A1l];omega
theorem C7g {k:Nat} {xs ys:List Int} (hx:Lims xs) (hy:Lims ys) (lx:xs.length≤k):(dig (G_ xs - G_ ys).toNat).length≤k+1:=by
 have h1:=A2r hx
 have h3:=A2x lx
 have h5:=T_ hx;have h6:=T_ hy
 have h7:=A4q k
 refine A3h ?_
 rw[A1l];omega

theorem B1o (v1 v2:Value) (x y:TBigInt) (b1 b2:List Nat) (w:World) (hx:Agg w v1 x b1) (hy:Agg w v2 y b2) (cx:XN.Can x.mag) (cy:XN.Can y.mag) (lx:x.mag.length≤59) (ly:y.mag.length≤59) :
  Calls Tryz.prog 310 #[v1,v2] w (X_ w (Q_ (A0f x+A0f y))):=by
 obtain ⟨A1,n1,c1,s1,rfl,rfl,hs1⟩:=TBigInt.agg hx
 obtain ⟨A2,n2,c2,s2,rfl,rfl,hs2⟩:=TBigInt.agg hy
 have H1:=A_ hs1;have H2:=A_ hs2
 have CX:=A_ cx;have CY:=A_ cy;have LX:=A_ lx;have LY:=A_ ly
 have N1:=A_ (show n1≤1048576 by rw[← hs1.1];omega)
 have N2:=A_ (show n2≤1048576 by rw[← hs2.1];omega)
 clear hs1 hs2 hx hy cx cy lx ly
 by_cases hn:x.neg=y.neg
 ·have E:=A_ (enc_of (add_same CX.o.1 CY.o.1 hn))
  have hb:(x.neg==y.neg)=true:=by simp[hn]
  clear hn
  go_enter Tryz.func310,Tryz.ntmps310
  go_wp2_with fail
  refine Z_ (by simp) ?_
  dsimp only [List.dropLast,List.getLast,List.length]
  iterate 6
   refine D_ _ ?_
  refine F_ (MP.sl (Q_ (A0f x+A0f y)).mag) ?_ ?_
  ·intro yq zq wq hC hd
   obtain ⟨hcq,hfq⟩:=C_ hC
   simp at hd
   refine H_ ?_
   have:=(C3m A1 A2 n1 n2 c1 c2 x.mag y.mag _ _ wq (Sl.below H1.o Below.go) (Sl.below H2.o Below.go) CX.o CY.o N1.o N2.o).mono fun _ _ h=>A3o (W_ _).1.i64 h
   rw[← E.o.1] at this
   exact A0q this
  refine F_ (MP.agg (Q_ (A0f x+A0f y))) ?_ ?_
  ·intro yq zq wq hC hd
   obtain ⟨hcq,hfq⟩:=C_ hC
   simp at hd
   refine H_ ?_
   obtain ⟨_,⟨A,n,c,e,hs⟩,_⟩:=hd
   rw[e]
   have C:=A1o x.neg A n c _ _ wq hs (A0y _) (by rw[← hs.1,E.o.1];exact D2e CX.o.1 CY.o.1 LX.o LY.o)
   rw[C5u E.o hs.1] at C
   exact K_ C
  intro yq zq wa hC hd (hdis:Hid _)
  simp at hd
  go_simp
  have q7:=hd.2.2.2.2.2.2.2
  obtain ⟨⟨ha,hf⟩,hr⟩:=q7
  obtain ⟨B1,m1,d1,t1,e7,hz,hs1⟩:=TBigInt.agg ha
  have HA:=A_ ha;have HF:=A_ hf;have HR:=A_ hr
  clear hd hdis hz hs1 ha hf hr
  obtain ⟨hc_wa,hf_wa⟩:=C_ hC
  have hz0_wa:w.heap.size<wa.heap.size:=N_ hC
  have hz1_wa:w.heap.size+1<wa.heap.size:=N_ hC
  have hz2_wa:w.heap.size+1+1<wa.heap.size:=N_ hC
  go_wp2
  refine bodyPost_ret (v:=.agg #[.bool (Q_ (A0f x+A0f y)).neg,.slice B1 m1 d1]) (by simp[results,Tryz.results310,go_sem, *]) rfl ?_
  rw[e7] at HA
  refine A0o (lo:=w.heap.size+3) HA.o HF.o (fun b hb=>by have:=(HR.o b hb).1;omega) (by omega) ?_ ?_
  ·exact Above.go
  exact Below.go
 have hb:(x.neg==y.neg)=false:=by simp[hn]
 rcases Int.lt_or_le (G_ x.mag) (G_ y.mag) with hc | hc
 ·have E:=A_ (enc_of (add_lt hn (Int.le_of_lt hc)))
  have S:=A_ (show ¬ (0≤sgn (G_ x.mag - G_ y.mag)) by rw[A7s hc];decide)
  have HC:=A_ (Int.le_of_lt hc)
  clear hn hc
  go_enter Tryz.func310,Tryz.ntmps310
  go_wp2_with fail
  refine (A4d A1 A2 n1 n2 c1 c2 x.mag y.mag _ _ _ (Sl.below H1.o Below.go) (Sl.below H2.o Below.go) CX.o CY.o).mono ?_
  rintro _ w1 ⟨rfl,hb1⟩
  have SG:=S.o
  generalize sgn (G_ x.mag - G_ y.mag)=sg at *
  obtain ⟨hc_w1,hf_w1⟩:=C_ hb1
  have hz0_w1:w.heap.size<w1.heap.size:=N_ hb1
  have hz1_w1:w.heap.size+1<w1.heap.size:=N_ hb1
  have hz2_w1:w.heap.size+1+1<w1.heap.size:=N_ hb1
  go_wp2_with fail
  refine Z_ (by simp) ?_
  dsimp only [List.dropLast,List.getLast,List.length]
  iterate 6
   refine D_ _ ?_
  refine F_ (MP.sl (Q_ (A0f x+A0f y)).mag) ?_ ?_
  ·intro yq zq wq hC hd
   obtain ⟨hcq,hfq⟩:=C_ hC
   simp at hd
   refine H_ ?_
   have:=(B6m A2 A1 n2 n1 c2 c1 y.mag x.mag _ _ wq (Sl.below H2.o Below.go) (Sl.below H1.o Below.go) CY.o CX.o N2.o HC.o).mono fun _ _ h=>A3o (W_ _).1.i64 h
   rw[← E.o.1] at this
   exact A0q this
  refine F_ (MP.agg (Q_ (A0f x+A0f y))) ?_ ?_
  ·intro yq zq wq hC hd
   obtain ⟨hcq,hfq⟩:=C_ hC
   simp at hd
   refine H_ ?_
   obtain ⟨_,⟨A,n,c,e,hs⟩,_⟩:=hd
   rw[e]
   have C:=A1o y.neg A n c _ _ wq hs (A0y _) (by rw[← hs.1,E.o.1];exact C7g CY.o.1 CX.o.1 LY.o)
   rw[C5u E.o hs.1] at C
   exact K_ C
  intro yq zq wa hC hd (hdis:Hid _)
  simp at hd
  go_simp
  have q7:=hd.2.2.2.2.2.2.2
  obtain ⟨⟨ha,hf⟩,hr⟩:=q7
  obtain ⟨B1,m1,d1,t1,e7,hz,hs1⟩:=TBigInt.agg ha
  have HA:=A_ ha;have HF:=A_ hf;have HR:=A_ hr
  clear hd hdis hz hs1 ha hf hr
  obtain ⟨hc_wa,hf_wa⟩:=C_ hC
  have hz0_wa:w.heap.size<wa.heap.size:=N_ hC
  have hz1_wa:w.heap.size+1<wa.heap.size:=N_ hC
  have hz2_wa:w.heap.size+1+1<wa.heap.size:=N_ hC
  go_wp2
  refine bodyPost_ret (v:=.agg #[.bool (Q_ (A0f x+A0f y)).neg,.slice B1 m1 d1]) (by simp[results,Tryz.results310,go_sem, *]) rfl ?_
  rw[e7] at HA
  refine A0o (lo:=w.heap.size+3) HA.o HF.o (fun b hb=>by have:=(HR.o b hb).1;omega) (by omega) ?_ ?_
  ·exact Above.go
  exact Below.go
 have E:=A_ (enc_of (add_ge hn hc))
 have S:=A_ (show 0≤sgn (G_ x.mag - G_ y.mag) by have:=B0w hc;omega)
 have HC:=A_ hc
 clear hn hc
 go_enter Tryz.func310,Tryz.ntmps310
 go_wp2_with fail
 refine (A4d A1 A2 n1 n2 c1 c2 x.mag y.mag _ _ _ (Sl.below H1.o Below.go) (Sl.below H2.o Below.go) CX.o CY.o).mono ?_
 rintro _ w1 ⟨rfl,hb1⟩
 have SG:=S.o
 generalize sgn (G_ x.mag - G_ y.mag)=sg at *
 obtain ⟨hc_w1,hf_w1⟩:=C_ hb1
 have hz0_w1:w.heap.size<w1.heap.size:=N_ hb1
 have hz1_w1:w.heap.size+1<w1.heap.size:=N_ hb1
 have hz2_w1:w.heap.size+1+1<w1.heap.size:=N_ hb1
 go_wp2_with fail
 refine Z_ (by simp) ?_
 dsimp only [List.dropLast,List.getLast,List.length]
 iterate 6
  refine D_ _ ?_
 refine F_ (MP.sl (Q_ (A0f x+A0f y)).mag) ?_ ?_
 ·intro yq zq wq hC hd
  obtain ⟨hcq,hfq⟩:=C_ hC
  simp at hd
  refine H_ ?_
  have:=(B6m A1 A2 n1 n2 c1 c2 x.mag y.mag _ _ wq (Sl.below H1.o Below.go) (Sl.below H2.o Below.go) CX.o CY.o N1.o HC.o).mono fun _ _ h=>A3o (W_ _).1.i64 h
  rw[← E.o.1] at this
  exact A0q this
 refine F_ (MP.agg (Q_ (A0f x+A0f y))) ?_ ?_
 ·intro yq zq wq hC hd
  obtain ⟨hcq,hfq⟩:=C_ hC
  simp at hd
  refine H_ ?_
  obtain ⟨_,⟨A,n,c,e,hs⟩,_⟩:=hd
  rw[e]
  have C:=A1o x.neg A n c _ _ wq hs (A0y _) (by rw[← hs.1,E.o.1];exact C7g CX.o.1 CY.o.1 LX.o)
  rw[C5u E.o hs.1] at C
  exact K_ C
 intro yq zq wa hC hd (hdis:Hid _)
 simp at hd
 go_simp
 have q7:=hd.2.2.2.2.2.2.2
 obtain ⟨⟨ha,hf⟩,hr⟩:=q7
 obtain ⟨B1,m1,d1,t1,e7,hz,hs1⟩:=TBigInt.agg ha
 have HA:=A_ ha;have HF:=A_ hf;have HR:=A_ hr
 clear hd hdis hz hs1 ha hf hr
 obtain ⟨hc_wa,hf_wa⟩:=C_ hC
 have hz0_wa:w.heap.size<wa.heap.size:=N_ hC
 have hz1_wa:w.heap.size+1<wa.heap.size:=N_ hC
 have hz2_wa:w.heap.size+1+1<wa.heap.size:=N_ hC
 go_wp2
 refine bodyPost_ret (v:=.agg #[.bool (Q_ (A0f x+A0f y)).neg,.slice B1 m1 d1]) (by simp[results,Tryz.results310,go_sem, *]) rfl ?_
 rw[e7] at HA
 refine A0o (lo:=w.heap.size+3) HA.o HF.o (fun b hb=>by have:=(HR.o b hb).1;omega) (by omega) ?_ ?_
 ·exact Above.go
 exact Below.go

theorem C9h {x y:TBigInt} (hx:Lims x.mag) (hy:Lims y.mag):B1i (x.neg != y.neg) (dig (G_ x.mag*G_ y.mag).toNat)=A0f x*A0f y:=by
 rw[mul_val hx hy];unfold B1i;rw[A1n]
theorem D4n {x:TBigInt} {ys:List Int} (hx:Lims x.mag) (hy:Lims ys):A0f x*G_ ys=if x.neg then -((G_ x.mag*G_ ys).toNat:Int) else (G_ x.mag*G_ ys).toNat:=by
 have h:=Int.mul_nonneg (T_ hx) (T_ hy)
 rw[Int.toNat_of_nonneg h]
 unfold A0f
 cases x.neg<;>simp[Int.neg_mul]
theorem B0r {k m:Nat} {xs ys:List Int} (hx:Lims xs) (hy:Lims ys) (lx:xs.length≤k) (ly:ys.length≤m):(dig (G_ xs*G_ ys).toNat).length≤k+m:=by
 have h1:=A2r hx;have h2:=A2r hy
 have h3:=A2x lx;have h4:=A2x ly
 have h5:=T_ hx;have h6:=T_ hy
 have h7:=Int.mul_nonneg h5 h6
 refine A3h ?_
 rw[Int.toNat_of_nonneg h7,A7a]
 have h8:G_ xs*G_ ys≤G_ xs*pw m:=Int.mul_le_mul_of_nonneg_left (by omega) h5
 have h9:G_ xs*pw m<pw k*pw m:=Int.mul_lt_mul_of_pos_right (by omega) (A4q m)
 omega

theorem C3f (v1 v2:Value) (r s:TRat) (b1 b2:List Nat) (w:World) (hx:Agg w v1 r b1) (hy:Agg w v2 s b2) (vr:RatV r) (vs:RatV s) :
  Calls Tryz.prog 301 #[v1,v2] w (X_ w (mkR (L_ r*L_ s) (I_ r*I_ s))):=by
 obtain ⟨A1,n1,c1,s1,A2,n2,c2,s2,rfl,rfl,hs1,hs2⟩:=TRat.agg hx
 obtain ⟨A3,n3,c3,s3,A4,n4,c4,s4,rfl,rfl,hs3,hs4⟩:=TRat.agg hy
 have H1:=A_ hs1;have H2:=A_ hs2;have H3:=A_ hs3;have H4:=A_ hs4
 have VR:=A_ vr;have VS:=A_ vs
 have N1:=A_ (show n1≤1048576 by rw[← hs1.1];have:=vr.num24;omega)
 have N2:=A_ (show n2≤1048576 by rw[← hs2.1];have:=vr.den24;omega)
 have N3:=A_ (show n3≤1048576 by rw[← hs3.1];have:=vs.num24;omega)
 have N4:=A_ (show n4≤1048576 by rw[← hs4.1];have:=vs.den24;omega)
 have DD:=A_ (vr.denD vs)
 have LN:=A_ (show (dig (G_ r.num.mag*G_ s.num.mag).toNat).length≤65536 from Nat.le_trans (B0r vr.mag.1 vs.mag.1 vr.num24 vs.num24) (by decide))
 clear hs1 hs2 hs3 hs4 hx hy vr vs
 go_enter Tryz.func301,Tryz.ntmps301
 go_wp2_with fail
 refine Z_ (by simp) ?_
 dsimp only [List.dropLast,List.getLast,List.length]
 iterate 13
  refine D_ _ ?_
 refine F_ (MP.sl (dig (G_ r.num.mag*G_ s.num.mag).toNat)) ?_ ?_
 ·intro yq zq wq hC hd
  obtain ⟨hcq,hfq⟩:=C_ hC
  simp at hd
  refine H_ ?_
  exact A0q ((A2b A1 A3 n1 n3 c1 c3 r.num.mag s.num.mag _ _ wq (Sl.below H1.o Below.go) (Sl.below H3.o Below.go) VR.o.mag.1 VS.o.mag.1 N1.o N3.o).mono fun _ _ h=>A3o (W_ _).1.i64 h)
 iterate 4
  refine D_ _ ?_
 refine F_ (MP.sl (dig (I_ r*I_ s).toNat)) ?_ ?_
 ·intro yq zq wq hC hd
  obtain ⟨hcq,hfq⟩:=C_ hC
  simp at hd
  refine H_ ?_
  exact A0q ((A2b A2 A4 n2 n4 c2 c4 r.den s.den _ _ wq (Sl.below H2.o Below.go) (Sl.below H4.o Below.go) VR.o.den.1 VS.o.den.1 N2.o N4.o).mono fun _ _ h=>A3o (W_ _).1.i64 h)
 refine F_ (MP.agg (mkR (L_ r*L_ s) (I_ r*I_ s))) ?_ ?_
 ·intro yq zq wq hC hd
  obtain ⟨hcq,hfq⟩:=C_ hC
  simp at hd
  refine H_ ?_
  obtain ⟨_,⟨⟨A,n,c,e,hs⟩,_⟩,⟨A',n',c',e',hs'⟩,_⟩:=hd
  rw[e,e']
  have C:=A6g (r.num.neg != s.num.neg) A A' n n' c c' _ _ _ _ wq hs hs' (W_ _) (W_ _) (by rw[← hs'.1];exact DD.o.pos) (by rw[← hs.1];exact LN.o) (by rw[← hs'.1];exact DD.o.le)
  rw[C9h VR.o.mag.1 VS.o.mag.1,DD.o.v] at C
  exact K_ C
 intro yq zq wa hC hd (hdis:Hid _)
 simp at hd
 go_simp
 have q19:=hd.2.2.2.2.2.2.2.2.2.2.2.2.2.2.2.2.2.2.2
 obtain ⟨⟨ha,hf⟩,hr⟩:=q19
 obtain ⟨B1,m1,d1,t1,B2,m2,d2,t2,e19,hz,hs1,hs2⟩:=TRat.agg ha
 have HA:=A_ ha;have HF:=A_ hf;have HR:=A_ hr
 clear hd hdis hz hs1 hs2 ha hf hr
 obtain ⟨hc_wa,hf_wa⟩:=C_ hC
 have hz0_wa:w.heap.size<wa.heap.size:=N_ hC
 have hz1_wa:w.heap.size+1<wa.heap.size:=N_ hC
 have hz2_wa:w.heap.size+1+1<wa.heap.size:=N_ hC
 go_wp2
 refine bodyPost_ret (v:=.agg #[.bool (mkR (L_ r*L_ s) (I_ r*I_ s)).num.neg,.slice B1 m1 d1,.slice B2 m2 d2]) (by simp[results,Tryz.results301,go_sem, *]) rfl ?_
 rw[e19] at HA
 refine A0o (lo:=w.heap.size+3) HA.o HF.o (fun b hb=>by have:=(HR.o b hb).1;omega) (by omega) ?_ ?_
 ·exact Above.go
 exact Below.go

theorem C3w (v1 v2:Value) (x y:TBigInt) (b1 b2:List Nat) (w:World) (hx:Agg w v1 x b1) (hy:Agg w v2 y b2) (cx:XN.Can x.mag) (cy:XN.Can y.mag) (nx:NegOk x) (ny:NegOk y) :
  Calls Tryz.prog 312 #[v1,v2] w (A0j w (.int .i64 (sgn (A0f x - A0f y)))):=by
 obtain ⟨A1,n1,c1,s1,rfl,rfl,hs1⟩:=TBigInt.agg hx
 obtain ⟨A2,n2,c2,s2,rfl,rfl,hs2⟩:=TBigInt.agg hy
 have H1:=A_ hs1;have H2:=A_ hs2
 have CX:=A_ cx;have CY:=A_ cy
 clear hs1 hs2 hx hy
 cases hxn:x.neg<;>cases hyn:y.neg
 ·have E:=A_ (show sgn (G_ x.mag - G_ y.mag)=sgn (A0f x - A0f y) by unfold A0f;rw[hxn,hyn];simp)
  clear hxn hyn cx cy nx ny
  go_enter Tryz.func312,Tryz.ntmps312
  go_wp2_with fail
  refine (A4d A1 A2 n1 n2 c1 c2 x.mag y.mag _ _ _ (Sl.below H1.o Below.go) (Sl.below H2.o Below.go) CX.o CY.o).mono ?_
  rintro _ w1 ⟨rfl,hb1⟩
  go_wp2
  go_ret
  exact ⟨A1d E.o,Below.go⟩
 ·have E:=A_ (show (1:Int)=sgn (A0f x - A0f y) by
   have h1:=NegOk.ge cx hxn;have h2:=ny.lt cy hyn
   rw[B3w (by omega)])
  clear hxn hyn cx cy nx ny
  go_enter Tryz.func312,Tryz.ntmps312
  go_wp2
  go_ret
  exact ⟨A1d E.o,Below.go⟩
 ·have E:=A_ (show (-1:Int)=sgn (A0f x - A0f y) by
   have h1:=NegOk.ge cy hyn;have h2:=nx.lt cx hxn
   rw[A7s (by omega)])
  clear hxn hyn cx cy nx ny
  go_enter Tryz.func312,Tryz.ntmps312
  go_wp2
  go_ret
  exact ⟨A1d E.o,Below.go⟩
 ·have E:=A_ (show sgn (G_ y.mag - G_ x.mag)=sgn (A0f x - A0f y) by
   unfold A0f;rw[hxn,hyn];simp only [if_true];congr 1;omega)
  clear hxn hyn cx cy nx ny
  go_enter Tryz.func312,Tryz.ntmps312
  go_wp2_with fail
  refine (A4d A2 A1 n2 n1 c2 c1 y.mag x.mag _ _ _ (Sl.below H2.o Below.go) (Sl.below H1.o Below.go) CY.o CX.o).mono ?_
  rintro _ w1 ⟨rfl,hb1⟩
  go_wp2
  go_ret
  exact ⟨A1d E.o,Below.go⟩

theorem C0z {r s:TRat} {n:Nat} (hx:Lims r.num.mag) (hy:Lims s.den) (hl:(dig (G_ r.num.mag*G_ s.den).toNat).length=n):(⟨r.num.neg&&decide (0<n),dig (G_ r.num.mag*G_ s.den).toNat⟩:TBigInt)=Q_ (L_ r*I_ s):=by
 have E:=enc_of (D4n hx hy)
 have h:L_ r*I_ s=A0f r.num*G_ s.den:=rfl
 rw[h,← hl,← E.2,← E.1]

theorem C3c (v1 v2:Value) (r s:TRat) (b1 b2:List Nat) (w:World) (hx:Agg w v1 r b1) (hy:Agg w v2 s b2) (vr:RatV r) (vs:RatV s) :
  Calls Tryz.prog 305 #[v1,v2] w (A0j w (.int .i64 (C1f r s))):=by
 obtain ⟨A1,n1,c1,s1,A2,n2,c2,s2,rfl,rfl,hs1,hs2⟩:=TRat.agg hx
 obtain ⟨A3,n3,c3,s3,A4,n4,c4,s4,rfl,rfl,hs3,hs4⟩:=TRat.agg hy
 have H1:=A_ hs1;have H2:=A_ hs2;have H3:=A_ hs3;have H4:=A_ hs4
 have VR:=A_ vr;have VS:=A_ vs
 have N1:=A_ (show n1≤1048576 by rw[← hs1.1];have:=vr.num24;omega)
 have N2:=A_ (show n2≤1048576 by rw[← hs2.1];have:=vr.den24;omega)
 have N3:=A_ (show n3≤1048576 by rw[← hs3.1];have:=vs.num24;omega)
 have N4:=A_ (show n4≤1048576 by rw[← hs4.1];have:=vs.den24;omega)
 clear hs1 hs2 hs3 hs4 hx hy vr vs
 go_enter Tryz.func305,Tryz.ntmps305
 go_wp2_with fail
 refine Z_ (by simp) ?_
 dsimp only [List.dropLast,List.getLast,List.length]
 iterate 8
  refine D_ _ ?_
 refine F_ (MP.sl (dig (G_ r.num.mag*G_ s.den).toNat)) ?_ ?_
 ·intro yq zq wq hC hd
  obtain ⟨hcq,hfq⟩:=C_ hC
  simp at hd
  refine H_ ?_
  exact A0q ((A2b A1 A4 n1 n4 c1 c4 r.num.mag s.den _ _ wq (Sl.below H1.o Below.go) (Sl.below H4.o Below.go) VR.o.mag.1 VS.o.den.1 N1.o N4.o).mono fun _ _ h=>A3o (W_ _).1.i64 h)
 refine F_ (MP.agg (Q_ (L_ r*I_ s))) ?_ ?_
 ·intro yq zq wq hC hd
  obtain ⟨hcq,hfq⟩:=C_ hC
  simp at hd
  refine H_ ?_
  obtain ⟨_,⟨A,n,c,e,hs⟩,_⟩:=hd
  rw[e]
  have C:=A1o r.num.neg A n c _ _ wq hs (W_ _) (by rw[← hs.1];exact Nat.le_trans (B0r VR.o.mag.1 VS.o.den.1 VR.o.num24 VS.o.den24) (by decide))
  rw[C0z VR.o.mag.1 VS.o.den.1 hs.1] at C
  exact K_ C
 iterate 8
  refine D_ _ ?_
 refine F_ (MP.sl (dig (G_ s.num.mag*G_ r.den).toNat)) ?_ ?_
 ·intro yq zq wq hC hd
  obtain ⟨hcq,hfq⟩:=C_ hC
  simp at hd
  refine H_ ?_
  exact A0q ((A2b A3 A2 n3 n2 c3 c2 s.num.mag r.den _ _ wq (Sl.below H3.o Below.go) (Sl.below H2.o Below.go) VS.o.mag.1 VR.o.den.1 N3.o N2.o).mono fun _ _ h=>A3o (W_ _).1.i64 h)
 refine F_ (MP.agg (Q_ (L_ s*I_ r))) ?_ ?_
 ·intro yq zq wq hC hd
  obtain ⟨hcq,hfq⟩:=C_ hC
  simp at hd
  refine H_ ?_
  obtain ⟨_,⟨A,n,c,e,hs⟩,_⟩:=hd
  rw[e]
  have C:=A1o s.num.neg A n c _ _ wq hs (W_ _) (by rw[← hs.1];exact Nat.le_trans (B0r VS.o.mag.1 VR.o.den.1 VS.o.num24 VR.o.den24) (by decide))
  rw[C0z VS.o.mag.1 VR.o.den.1 hs.1] at C
  exact K_ C
 refine F_ (MP.eq (.int .i64 (C1f r s))) ?_ ?_
 ·intro yq zq wq hC hd
  obtain ⟨hcq,hfq⟩:=C_ hC
  simp at hd
  refine H_ ?_
  obtain ⟨⟨ha,_⟩,hb,_⟩:=hd
  have C:=C3w _ _ _ _ _ _ wq ha hb (A0y _) (A0y _) (A6j _) (A6j _)
  rw[A1m,A1m] at C
  exact A0t C
 intro yq zq wa hC hd (hdis:Hid _)
 simp at hd
 go_simp
 clear hd hdis
 go_wp2
 go_ret
 exact ⟨rfl,Below.go⟩
end Go.Proofs.YtbhemnidcleaiaaGreat.X
namespace Go.Proofs.YtbhemnidcleaiaaGreat.X
open Go.RowKit Go.XB Go.XN

def MP.lit0:MP:=⟨fun v bs _=>(∃ g,v=.slice (some ⟨g,0,none⟩) 0 0)∧bs=[],fun _ _ _ _ _ h=>h⟩

theorem A6r {P:Program} {w w':World} {o:Oper} {ev:Operand→Value} {v v1 v2:Value} (s x:Operand) (t:TypeId) (ho:o.op=.call { callee:=.builtin .append,args:=#[s,x],argTypes:=#[t,t] }) (hs:ev s=v1) (hx:ev x=v2)
  (hrun:(Builtin.append_ #[t,t] o.type #[v1,v2]).run P w=.ok v w'):(execOp ev o).run P w=.ok (.value v) w':=by
 simp[execOp,ho,resolve,invoke,builtin,hs,hx,hrun,Result.andThen]

attribute [local go_sem] O_ opAt P_ M_ Region.wanted yielded
attribute [local simp] P_ M_ MP.eq MP.agg MP.sl MP.lit0 A0e

theorem D5i {x:TBigInt} {n:Nat} (hc:XN.Can x.mag) (hl:x.mag.length=n):(⟨!x.neg&&decide (0<n),x.mag⟩:TBigInt)=Q_ (-A0f x):=by
 have e:x.mag=dig (G_ x.mag).toNat:=hc.eq_dig
 have E:=enc_of (neg:=!x.neg) (N:=(G_ x.mag).toNat) (v:=-A0f x) (by unfold A0f;rw[Int.toNat_of_nonneg (T_ hc.1)];cases x.neg<;>simp)
 rw[← e] at E
 rw[← hl,← E.2]
 exact congrArg (TBigInt.mk _) E.1.symm

theorem B4v (v:Value) (x:TRat) (b:List Nat) (w:World) (hx:Agg w v x b) (lx:x.num.mag.length≤1048576) (ly:x.den.length≤1048576) :
  Calls Tryz.prog 276 #[v] w (X_ w x):=by
 obtain ⟨i0,hi,hz0,hz1,hz2⟩:=info_parts A5v
 obtain ⟨A1,n1,c1,s1,A2,n2,c2,s2,rfl,rfl,hs1,hs2⟩:=TRat.agg hx
 have H1:=A_ hs1;have H2:=A_ hs2
 have N1:=A_ (show n1≤1048576 by rw[← hs1.1];exact lx)
 have N2:=A_ (show n2≤1048576 by rw[← hs2.1];exact ly)
 clear hs1 hs2 hx lx ly
 go_enter Tryz.func276,Tryz.ntmps276
 go_wp2_with fail
 refine Z_ (by simp) ?_
 dsimp only [List.dropLast,List.getLast,List.length]
 iterate 3
  refine D_ _ ?_
 refine A8i MP.lit0 ?_ ?_
 ·intro yq zq wq hC hd
  refine ⟨by go_simp;done,.slice (some ⟨wq.heap.size,0,none⟩) 0 0,wq.alloc (.cells #[] 3),?_,Below.box _,[],⟨⟨_,rfl⟩,rfl⟩,fun b hb=>by simp at hb⟩
  go_simp
 iterate 3
  refine D_ _ ?_
 refine A8i (MP.sl x.num.mag) ?_ ?_
 ·intro yq zq wq hC hd
  obtain ⟨hcq,hfq⟩:=C_ hC
  simp at hd
  obtain ⟨⟨⟨g,e3⟩,_⟩,e6,_⟩:=hd
  obtain ⟨A',c',bs',w',hrun,h1,h2,h3⟩:=B2o (P:=Tryz.prog) (w:=wq) 31 31 3 i0 Tryz.underlying31 hi hz0 hz1 hz2 g A1 n1 c1 x.num.mag _ (Sl.below H1.o Below.go) N1.o
  refine ⟨by go_simp;done,_,w',?_,h3,bs',⟨⟨A',n1,c',rfl,h1⟩,h2.free⟩,h2.range⟩
  refine A6r _ _ _ rfl ?_ ?_ hrun
  ·go_simp
  go_simp
 refine A6z (fun y'=>.agg #[.bool x.num.neg,y' 7]) (by intro y y' h;simp[P_,M_] at h;simp[h]) ?_ ?_
 ·intro yq zq wq hC hd
  obtain ⟨hcq,hfq⟩:=C_ hC
  simp at hd
  obtain ⟨_,⟨A,n,c,e,_⟩,_⟩:=hd
  refine ⟨by go_simp;done,?_⟩
  go_simp
  try simp[*,Value.cells]
 refine A8i MP.lit0 ?_ ?_
 ·intro yq zq wq hC hd
  refine ⟨by go_simp;done,.slice (some ⟨wq.heap.size,0,none⟩) 0 0,wq.alloc (.cells #[] 3),?_,Below.box _,[],⟨⟨_,rfl⟩,rfl⟩,fun b hb=>by simp at hb⟩
  go_simp
 iterate 2
  refine D_ _ ?_
 refine A8i (MP.sl x.den) ?_ ?_
 ·intro yq zq wq hC hd
  obtain ⟨hcq,hfq⟩:=C_ hC
  simp at hd
  obtain ⟨⟨⟨g,e3⟩,_⟩,e6,_⟩:=hd
  obtain ⟨A',c',bs',w',hrun,h1,h2,h3⟩:=B2o (P:=Tryz.prog) (w:=wq) 31 31 3 i0 Tryz.underlying31 hi hz0 hz1 hz2 g A2 n2 c2 x.den _ (Sl.below H2.o Below.go) N2.o
  refine ⟨by go_simp;done,_,w',?_,h3,bs',⟨⟨A',n2,c',rfl,h1⟩,h2.free⟩,h2.range⟩
  refine A6r _ _ _ rfl ?_ ?_ hrun
  ·go_simp
  go_simp
 refine A6z (fun y'=>.agg ((y' 8).cells++#[y' 12])) (by intro y y' h;simp[P_,M_] at h;simp[h]) ?_ ?_
 ·intro yq zq wq hC hd
  obtain ⟨hcq,hfq⟩:=C_ hC
  simp at hd
  obtain ⟨⟨h7,_⟩,⟨A,n,c,e,_⟩,_⟩:=hd
  refine ⟨by go_simp;done,?_⟩
  go_simp
  try simp[*,Value.cells]
 intro yq zq wa hC hd (hdis:Hid _)
 simp at hd
 go_simp
 have q7:=hd.2.2.2.2.2.2.2.1
 have q8:=hd.2.2.2.2.2.2.2.2.1
 have q12:=hd.2.2.2.2.2.2.2.2.2.2.2.2.1
 have q13:=hd.2.2.2.2.2.2.2.2.2.2.2.2.2
 obtain ⟨⟨⟨B1,m1,d1,e7,hs1⟩,hf1⟩,hr1⟩:=q7
 obtain ⟨⟨⟨B2,m2,d2,e12,hs2⟩,hf2⟩,hr2⟩:=q12
 have e13:yq 13=.agg #[.bool x.num.neg,.slice B1 m1 d1,.slice B2 m2 d2]:=by rw[q13.1.1,q8.1.1,e7,e12];rfl
 have HS1:=A_ hs1;have HF1:=A_ hf1;have HR1:=A_ hr1
 have HS2:=A_ hs2;have HF2:=A_ hf2;have HR2:=A_ hr2
 have HDIS:=A_ (hdis.o 7 12 (by decide) (by decide) (by decide))
 clear hd hdis q8 q13 hs1 hf1 hr1 hs2 hf2 hr2
 obtain ⟨hc_wa,hf_wa⟩:=C_ hC
 have hz0_wa:w.heap.size<wa.heap.size:=N_ hC
 have hz1_wa:w.heap.size+1<wa.heap.size:=N_ hC
 go_wp2
 refine bodyPost_ret (v:=.agg #[.bool x.num.neg,.slice B1 m1 d1,.slice B2 m2 d2]) (by simp[results,Tryz.results276,go_sem, *]) rfl ?_
 have f1:=fun (W:World) (ha:Above (w.heap.size+2) wa W)=>A2c (w:=w) HS1.o HF1.o (fun b hb=>by have:=(HR1.o b hb).1;omega) (by omega) ha
 have f2:=fun (W:World) (ha:Above (w.heap.size+2) wa W)=>A2c (w:=w) HS2.o HF2.o (fun b hb=>by have:=(HR2.o b hb).1;omega) (by omega) ha
 refine A5m (x:=x) (f1 _ ?_) (f2 _ ?_) HDIS.o ?_
 ·exact Above.go
 ·exact Above.go
 exact Below.go

theorem C3d (v:Value) (x:TRat) (b:List Nat) (w:World) (hx:Agg w v x b) (vx:RatV x) :
  Calls Tryz.prog 313 #[v] w (X_ w (⟨Q_ (-L_ x),x.den⟩:TRat)):=by
 obtain ⟨i0,hi,hz0,hz1,hz2⟩:=info_parts A5v
 obtain ⟨A1,n1,c1,s1,A2,n2,c2,s2,rfl,rfl,hs1,hs2⟩:=TRat.agg hx
 have H1:=A_ hs1;have H2:=A_ hs2
 have N1:=A_ (show n1≤60 by rw[← hs1.1];have:=vx.num24;omega)
 have N2:=A_ (show n2≤1048576 by rw[← hs2.1];have:=vx.den24;omega)
 have VX:=A_ vx
 clear hs1 hs2 hx vx
 go_enter Tryz.func313,Tryz.ntmps313
 go_wp2_with fail
 refine Z_ (by simp) ?_
 dsimp only [List.dropLast,List.getLast,List.length]
 iterate 7
  refine D_ _ ?_
 refine F_ (MP.agg (Q_ (-L_ x))) ?_ ?_
 ·intro yq zq wq hC hd
  obtain ⟨hcq,hfq⟩:=C_ hC
  simp at hd
  refine H_ ?_
  have C:=A1o (!x.num.neg) A1 n1 c1 x.num.mag _ wq (Sl.below H1.o Below.go) VX.o.mag N1.o
  rw[D5i VX.o.mag H1.o.1] at C
  exact K_ C
 refine A8i MP.lit0 ?_ ?_
 ·intro yq zq wq hC hd
  refine ⟨by go_simp;done,.slice (some ⟨wq.heap.size,0,none⟩) 0 0,wq.alloc (.cells #[] 3),?_,Below.box _,[],⟨⟨_,rfl⟩,rfl⟩,fun b hb=>by simp at hb⟩
  go_simp
 iterate 2
  refine D_ _ ?_
 refine A8i (MP.sl x.den) ?_ ?_
 ·intro yq zq wq hC hd
  obtain ⟨hcq,hfq⟩:=C_ hC
  simp at hd
  obtain ⟨⟨⟨g,e3⟩,_⟩,e6,_⟩:=hd
  obtain ⟨A',c',bs',w',hrun,h1,h2,h3⟩:=B2o (P:=Tryz.prog) (w:=wq) 31 31 3 i0 Tryz.underlying31 hi hz0 hz1 hz2 g A2 n2 c2 x.den _ (Sl.below H2.o Below.go) N2.o
  refine ⟨by go_simp;done,_,w',?_,h3,bs',⟨⟨A',n2,c',rfl,h1⟩,h2.free⟩,h2.range⟩
  refine A6r _ _ _ rfl ?_ ?_ hrun
  ·go_simp
  go_simp
 refine A6z (fun y'=>.agg ((y' 7).cells++#[y' 11])) (by intro y y' h;simp[P_,M_] at h;simp[h]) ?_ ?_
 ·intro yq zq wq hC hd
  obtain ⟨hcq,hfq⟩:=C_ hC
  simp at hd
  obtain ⟨⟨ha,_⟩,⟨A,n,c,e,_⟩,_⟩:=hd
  obtain ⟨B1,m1,d1,t1,e7,hz,hs1⟩:=TBigInt.agg ha
  refine ⟨by go_simp;done,?_⟩
  go_simp
  try simp[*,Value.cells]
 intro yq zq wa hC hd (hdis:Hid _)
 simp at hd
 have q7:=hd.2.2.2.2.2.2.2.1
 have q11:=hd.2.2.2.2.2.2.2.2.2.2.2.1
 have q12:=hd.2.2.2.2.2.2.2.2.2.2.2.2
 obtain ⟨⟨ha,hf1⟩,hr1⟩:=q7
 obtain ⟨B1,m1,d1,t1,e7,hz,hs1⟩:=TBigInt.agg ha
 rw[hz] at hf1 hr1
 obtain ⟨⟨⟨B2,m2,d2,e11,hs2⟩,hf2⟩,hr2⟩:=q11
 have e12:yq 12=.agg #[.bool (Q_ (-L_ x)).neg,.slice B1 m1 d1,.slice B2 m2 d2]:=by rw[q12.1.1,e7,e11];rfl
 have HS1:=A_ hs1;have HF1:=A_ hf1;have HR1:=A_ hr1
 have HS2:=A_ hs2;have HF2:=A_ hf2;have HR2:=A_ hr2
 have HDIS:=A_ (hdis.o 7 11 (by decide) (by decide) (by decide))
 rw[hz] at HDIS
 clear hd hdis q12 hs1 hf1 hr1 hs2 hf2 hr2 ha hz
 obtain ⟨hc_wa,hf_wa⟩:=C_ hC
 have hz0_wa:w.heap.size<wa.heap.size:=N_ hC
 have hz1_wa:w.heap.size+1<wa.heap.size:=N_ hC
 go_wp2
 refine bodyPost_ret (v:=.agg #[.bool (Q_ (-L_ x)).neg,.slice B1 m1 d1,.slice B2 m2 d2]) (by simp[results,Tryz.results313,go_sem, *]) rfl ?_
 have f1:=fun (W:World) (ha:Above (w.heap.size+2) wa W)=>A2c (w:=w) HS1.o HF1.o (fun b hb=>by have:=(HR1.o b hb).1;omega) (by omega) ha
 have f2:=fun (W:World) (ha:Above (w.heap.size+2) wa W)=>A2c (w:=w) HS2.o HF2.o (fun b hb=>by have:=(HR2.o b hb).1;omega) (by omega) ha
 refine A5m (x:=⟨Q_ (-L_ x),x.den⟩) (f1 _ ?_) (f2 _ ?_) HDIS.o ?_
 ·exact Above.go
 ·exact Above.go
 exact Below.go
end Go.Proofs.YtbhemnidcleaiaaGreat.X
