/- A part of the proof. -/
import Derived.Test.YtbhemnidcleaiaaGreatRows
import Derived.Test.YtbhemnidcleaiaaGreatY3
import Derived.Test.YtbhemnidcleaiaaGreatY1
import Derived.Test.YtbhemnidcleaiaaGreatY2
import Derived.WalkLawsBesides
import Derived.ProofKit
import Derived.Lib.SliceRun
set_option linter.constructorNameAsVariable false
set_option maxHeartbeats 16000000
set_option maxRecDepth 10000
namespace Go.Proofs.YtbhemnidcleaiaaGreat.X
open Go.RowKit Go.XB Go.XN
attribute [local go_sem] O_ opAt P_ M_ Region.wanted yielded
attribute [local simp] P_ M_ MP.eq A0e

theorem A5v:(Tryz.prog.info? 3).map (fun i=>(i.zero,i.size,i.bytes))=some (some (.int .i64 0),1,8):=by kernel_rfl

theorem A9g (x y:Int) (w:World):Calls Tryz.prog 131 #[.int .i64 x,.int .i64 y] w (A0j w (.int .i64 (sgn (x - y)))):=by
 rcases Int.lt_trichotomy x y with h | h | h
 ·have e:=A_ (show sgn (x - y) = -1 by unfold sgn;rw[if_pos (by omega)])
  go_enter Tryz.func131,Tryz.ntmps131
  go_wp2
  go_ret
  exact ⟨A1d e.o.symm,Below.go⟩
 ·have e:=A_ (show sgn (x - y)=0 by unfold sgn;rw[if_neg (by omega),if_neg (by omega)])
  subst h
  go_enter Tryz.func131,Tryz.ntmps131
  go_wp2
  go_ret
  exact ⟨A1d e.o.symm,Below.go⟩
 have e:=A_ (show sgn (x - y)=1 by unfold sgn;rw[if_neg (by omega),if_pos (by omega)])
 have h':¬ x<y:=by omega
 go_enter Tryz.func131,Tryz.ntmps131
 go_wp2
 go_ret
 exact ⟨A1d e.o.symm,Below.go⟩

def C9o:Value→Nat | .slice _ n _=>n | _=>0

theorem C1z (A:Option Addr) (n c:Nat) (xs:List Int) (bs:List Nat) (w:World) (hx:Sl w A n c xs bs) :
  Calls Tryz.prog 128 #[.slice A n c] w (A0j w (.slice A (trim xs).length c)):=by
 have hnc:n≤c:=hx.2.1
 have hcm:c≤maxLen:=hx.2.2.1
 unfold maxLen at hcm
 have HL:=A_ hx.1
 have HX:=A_ hx
 clear hx
 go_enter Tryz.func128,Tryz.ntmps128
 go_wp2
 go_loopw [0] (fun s wr=>∃ k:Nat,k≤n∧s=.slice A k c∧Hid (trim (xs.take k)=trim xs)∧Below w.heap.size w wr) (fun s wr=>C9o s)
 case atStart=>exact ⟨n,Nat.le_refl _,rfl,by rw[List.take_of_length_le (Nat.le_of_eq HL.o)];rfl,Below.refl _ _⟩
 case round =>
  obtain ⟨k,hk,rfl,ht,hb⟩:=hrel
  rcases Nat.eq_zero_or_pos k with h0 | h0
  ·subst h0
   go_wp2
   go_ret
   refine ⟨?_,hb⟩
   rw[← ht.o];rfl
  obtain ⟨j,rfl⟩:∃ j,k=j+1:=⟨k - 1,by omega⟩
  obtain ⟨b,off,x,rfl,hbl,hxk,_,hcx⟩:=Sl.getInt (Sl.below HX.o hb) (show j<n by omega)
  have HXk:=A_ hxk
  clear hxk
  have hj1:(j:Int)+1≤c:=by omega
  by_cases hz:x=0
  ·have hzb:(x==0)=true:=by simp[hz]
   have r3:=A_ (show trim (xs.take j)=trim xs by rw[← ht.o,take_step HXk.o,hz,A8t])
   clear hz
   have hjc:j≤c:=by omega
   have rm:C9o (.slice (some ⟨b,off,none⟩) j c)<C9o (.slice (some ⟨b,off,none⟩) (j+1) c):=Nat.lt_succ_self j
   have rj:j≤n:=by omega
   go_wp2
   first
   | exact ⟨⟨j,rj,rfl,r3,hb⟩,rm⟩
   | exact ⟨by (repeat apply Exists.intro);exact ⟨⟨j,rj,rfl,r3,hb⟩,rfl⟩,rm⟩
  have hzb:(x==0)=false:=by simp[hz]
  have r3:=A_ (show trim xs=xs.take (j+1) by rw[← ht.o,take_step HXk.o,B5w hz])
  clear hz
  go_wp2
  go_ret
  refine ⟨?_,hb⟩
  have hlen:(trim xs).length=j+1:=by rw[r3.o,List.length_take];have:=HL.o;omega
  rw[hlen];rfl

theorem _root_.Go.XN.Lims.i64 {l:List Int} (h:Lims l):∀ x∈l,I64 x:=fun x hx=>by have:=h x hx;unfold I64;omega
theorem C0q (q:Int) (h:0≤q):((q.toNat % 1000000000:Nat):Int)=q % 1000000000∧q.toNat / 1000000000=(q / 1000000000).toNat:=by omega

theorem C1h (N:Int) (w:World) (h0:0≤N) (h1:N≤18446744073709551615):Calls Tryz.prog 122 #[.int .u64 N] w (A6t w 3 (dig N.toNat)):=by
 have hlen:(dig N.toNat).length≤3:=A3h (by rw[pw_vals.2.2];omega)
 obtain ⟨i0,hi,hz0,hz1,hz2⟩:=info_parts A5v
 have HLen:=A_ hlen
 clear hlen
 go_enter Tryz.func122,Tryz.ntmps122
 go_wp2
 go_loopw [0,3] (fun m v wr=>∃ (q:Int) (out:List Int),m=.int .u64 q∧wr.ownsRow w.heap.size 3 1 v out.length (out.map (.int .i64))∧Hid (dig N.toNat=out++dig q.toNat)∧0≤q∧q≤18446744073709551615∧Below w.heap.size w wr) (fun m v wr=>(intOf m).toNat)
 case atStart=>exact ⟨N,[],rfl,World.ownsRow_made w #[] 0 (Nat.le_refl _) (Nat.zero_le _) rfl,rfl,h0,h1,Below.go⟩
 case round =>
  obtain ⟨q,out,rfl,hown,hd,hq0,hq1,hb⟩:=hrel
  have hol:out.length≤3:=by have:=HLen.o;rw[hd.o,List.length_append] at this;omega
  by_cases hp:0<q
  ·have C3:=A_ (show out.length+1≤maxLen by unfold maxLen;omega)
   have C4:=A_ (show (out.length+1)*8≤140737488355328 by omega)
   have C5:=A_ hb.size
   have r3:=A_ (show dig N.toNat=(out++[q % 1000000000])++dig (q / 1000000000).toNat by rw[hd.o,B4g (by omega),(C0q q hq0).1,(C0q q hq0).2];simp)
   have r4:=A_ (show 0≤q / 1000000000 by omega)
   have r5:=A_ (show q / 1000000000≤18446744073709551615 by omega)
   have rm:=A_ (show (intOf (.int .u64 (q / 1000000000))).toNat<(intOf (.int .u64 q)).toNat by simp[intOf];omega)
   clear h0 h1 hol
   go_wp2_with (first | (at_builtin;refine wpList_append_own _ rfl _ _ 31 rfl w.heap.size 3 i0 (.int .i64 0) 1 8 Tryz.underlying31 hi hz0 hz1 hz2 rfl (by decide) _ _ _ rfl (hown.alloc _) ⟨wr.heap.size,0,none⟩ 1 1 [.int .i64 (q % 1000000000)] rfl rfl (cell_one_new _ _ _) (fun x hx=>by simp at hx;subst hx;rfl) C3.o C4.o (A0p C5.o _) ?_;intro v' w3 hown' hgrow' hnil'))
   have hb':=A1s hb hown hgrow'
   first
   | exact ⟨⟨q / 1000000000,out++[q % 1000000000],rfl,A1a hown',r3.o,r4.o,r5.o,hb'⟩,rm.o⟩
   | exact ⟨by (repeat apply Exists.intro);exact ⟨⟨q / 1000000000,out++[q % 1000000000],rfl,A1a hown',r3.o,r4.o,r5.o,hb'⟩,rfl⟩,rm.o⟩
  have hz:q=0:=by omega
  subst hz
  go_wp2
  go_ret
  have e:=hd.o
  rw[show dig (Int.toNat 0)=[] from rfl,List.append_nil] at e
  rw[e]
  exact ⟨_,rfl,hown,hb⟩

theorem B0u (N:Int) (w:World) (h0:0≤N) (h1:N≤18446744073709551615):Calls Tryz.prog 122 #[.int .u64 N] w (A2t w (dig N.toNat)) :=
 (C1h N w h0 h1).mono fun _ _ ⟨_,he,ho,hb⟩=>by subst he;exact A2w ho rfl (W_ _).1.i64 hb

theorem A7s {a b:Int} (h:a<b):sgn (a - b) = -1:=by unfold sgn;rw[if_pos (by omega)]
theorem B3w {a b:Int} (h:b<a):sgn (a - b)=1:=by unfold sgn;rw[if_neg (by omega),if_pos (by omega)]

theorem B1t (A B:Option Addr) (n m c d:Nat) (xs ys:List Int) (bs ds:List Nat) (w:World) (hx:Sl w A n c xs bs) (hy:Sl w B m d ys ds) (hcx:XN.Can xs) (hcy:XN.Can ys) :
  Calls Tryz.prog 125 #[.slice A n c,.slice B m d] w (A0j w (.int .i64 (sgn (G_ xs - G_ ys)))):=by
 have hlx:=A_ hx.1
 have hly:=A_ hy.1
 have hcm:c≤maxLen:=hx.2.2.1
 have hnc:n≤c:=hx.2.1
 unfold maxLen at hcm
 have HX:=A_ hx
 have HY:=A_ hy
 have CX:=A_ hcx
 have CY:=A_ hcy
 clear hx hy hcx hcy
 go_enter Tryz.func125,Tryz.ntmps125
 by_cases hnm:n=m
 ·subst hnm
  go_wp2
  go_loopw [4,5] (fun r s wr=>∃ i:Int,-1≤i∧i<n∧s=.int .i64 i∧Hid (xs.drop (i+1).toNat=ys.drop (i+1).toNat)∧Below w.heap.size w wr) (fun r s wr=>(intOf s+1).toNat)
  case atStart =>
   refine ⟨(n:Int) - 1,by omega,by omega,rfl,?_,Below.refl _ _⟩
   have e:((n:Int) - 1+1).toNat=n:=by omega
   rw[e]
   show xs.drop n=ys.drop n
   rw[List.drop_eq_nil_of_le (Nat.le_of_eq hlx.o),List.drop_eq_nil_of_le (Nat.le_of_eq hly.o)]
  case round =>
   obtain ⟨i,hi1,hi2,rfl,hd,hb⟩:=hrel
   rcases Int.lt_or_le i 0 with h0 | h0
   ·have h1:i = -1:=by omega
    subst h1
    go_wp2
    go_ret
    have e:=hd.o
    rw[show (-1+1:Int).toNat=0 from rfl,List.drop_zero,List.drop_zero] at e
    refine ⟨A1d ?_,hb⟩
    rw[e];unfold sgn;simp
   obtain ⟨j,rfl⟩:∃ j:Nat,i=j:=⟨i.toNat,by omega⟩
   have hj:j<n:=by omega
   obtain ⟨b1,o1,x,rfl,hb1,hx1,hxi,hc1⟩:=Sl.getInt (Sl.below HX.o hb) hj
   obtain ⟨b2,o2,y,rfl,hb2,hy1,hyi,hc2⟩:=Sl.getInt (Sl.below HY.o hb) hj
   have HX1:=A_ hx1
   have HY1:=A_ hy1
   clear hx1 hy1
   have e1:=A_ (show (((j:Int)+1).toNat=j+1) by omega)
   have st:=A_ (B4i CX.o.1 CY.o.1 HX1.o HY1.o (by have:=hd.o;rwa [e1.o] at this) (by rw[hlx.o,hly.o]))
   have hjn:(j:Int)<n:=hi2
   have hd':=hd
   clear hd
   by_cases hxy:x=y
   ·have hz:=A_ (show (x != y)=false by simp[hxy])
    have r:=A_ (show xs.drop ((j:Int) - 1+1).toNat=ys.drop ((j:Int) - 1+1).toNat by
     rw[show ((j:Int) - 1+1).toNat=j by omega]
     obtain ⟨hk1,ex⟩:=List.getElem?_eq_some_iff.1 HX1.o
     obtain ⟨hk2,ey⟩:=List.getElem?_eq_some_iff.1 HY1.o
     rw[List.drop_eq_getElem_cons hk1,List.drop_eq_getElem_cons hk2,ex,ey,hxy]
     have:=hd'.o
     rw[e1.o] at this;rw[this])
    clear hxy hd'
    go_wp2_with fail
    refine A0l ?_
    iterate 9
     refine D_ _ ?_
    intro yq zq wa hC hd (hdis:Hid _)
    simp at hd
    go_simp
    have hz:=hz.o
    go_wp2_with fail
    have hb':Below w.heap.size w wa:=Below.go
    have r1:(-1:Int)≤(j:Int) - 1:=by omega
    have r2:(j:Int) - 1<n:=by omega
    have rm:(intOf (Value.int IntKind.i64 ((j:Int) - 1))+1).toNat<(intOf (Value.int IntKind.i64 (j:Int))+1).toNat:=by simp[intOf]
    first
    | exact ⟨⟨(j:Int) - 1,r1,r2,rfl,r,hb'⟩,rm⟩
    | exact ⟨by (repeat apply Exists.intro);exact ⟨⟨(j:Int) - 1,r1,r2,rfl,r,hb'⟩,rfl⟩,rm⟩
   have hz:=A_ (show (x != y)=true by simp[hxy])
   have hne:=A_ hxy
   clear hxy hd'
   go_wp2_with fail
   refine A0l ?_
   iterate 9
    refine D_ _ ?_
   intro yq zq wa hC hd (hdis:Hid _)
   simp at hd
   go_simp
   have hz:=hz.o
   have hba:=hC
   clear hC hd hdis
   have hc1':=((C_ hba).1 b1 (o1+j) hb1).trans hc1
   have hc2':=((C_ hba).1 b2 (o2+j) hb2).trans hc2
   have hb1':b1<wa.heap.size:=by have:=hba.size;omega
   have hb2':b2<wa.heap.size:=by have:=hba.size;omega
   clear hc1 hc2 hb1 hb2
   go_wp2_with fail
   refine A0l ?_
   iterate 8
    refine D_ _ ?_
   refine F_ (MP.eq (.int .i64 (sgn (x - y)))) ?_ ?_
   ·intro yq zq wq hC hd
    obtain ⟨hcq,hfq⟩:=C_ hC
    simp at hd
    refine H_ ?_
    exact A0t (A9g _ _ _)
   refine D_ _ ?_
   intro yq zq wb hC hd (hdis:Hid _)
   simp at hd
   go_simp
   go_wp2_with fail
   go_ret
   refine ⟨A1d ?_,Below.go⟩
   rcases Int.lt_trichotomy x y with h | h | h
   ·rw[A7s h,A7s (st.o.1 h)]
   ·exact absurd h hne.o
   rw[B3w h,B3w (st.o.2 h)]
 have hz:((n:Int) != m)=true:=by simp;omega
 have e:=A_ (show sgn ((n:Int) - m)=sgn (G_ xs - G_ ys) by
  rcases Nat.lt_or_ge n m with h | h
  ·rw[A7s (by omega),A7s (XN.Can.lt_of_len CX.o.1 CY.o (by rw[hlx.o,hly.o];exact h))]
  rw[B3w (by omega),B3w (XN.Can.lt_of_len CY.o.1 CX.o (by rw[hlx.o,hly.o];omega))])
 clear hnm
 go_wp2_with fail
 refine (A9g _ _ _).mono ?_
 rintro _ w1 ⟨rfl,hb⟩
 go_wp2_with fail
 go_ret
 exact ⟨A1d e.o,hb⟩

theorem B2n (A:Option Addr) (n c:Nat) (xs:List Int) (bs:List Nat) (w:World) (hx:Sl w A n c xs bs) (hn:n≤1048576) :
  Calls Tryz.prog 121 #[.slice A n c] w (A6t w 3 xs):=by
 obtain ⟨i0,hi,hz0,hz1,hz2⟩:=info_parts A5v
 cases A with
 | none =>
  have h0:n=0:=by
   rcases Nat.eq_zero_or_pos n with h | h
   ·exact h
   obtain ⟨_,_,_,e,_⟩:=hx.2.2.2.2 h;cases e
  have hxs:xs=[]:=List.eq_nil_of_length_eq_zero (hx.1.trans h0)
  clear hx hi hz0 hz1 hz2 hn
  subst h0;subst hxs
  have q1:∀ (w:World) (a:Option Addr) (n c n' c':Nat),(binOp .eql 31 (.slice a n c) (.slice none n' c')).run Tryz.prog w=.ok (.bool a.isNone) w:=fun w a n c n' c'=>Lib.run_eql_slice_nil w _ _ a n c n' c' Tryz.underlying31
  go_enter Tryz.func121,Tryz.ntmps121
  go_wp2
  go_ret
  exact ⟨_,rfl,World.ownsRow_nil _ _ _ _,Below.refl _ _⟩
 | some a =>
  have C3:=A_ (show 0+n≤maxLen by unfold maxLen;omega)
  have C4:=A_ (show (0+n)*8≤140737488355328 by omega)
  have HX:=A_ hx
  clear hx hn
  have q1:∀ (w:World) (a:Option Addr) (n c n' c':Nat),(binOp .eql 31 (.slice a n c) (.slice none n' c')).run Tryz.prog w=.ok (.bool a.isNone) w:=fun w a n c n' c'=>Lib.run_eql_slice_nil w _ _ a n c n' c' Tryz.underlying31
  go_enter Tryz.func121,Tryz.ntmps121
  go_wp2_with (at_builtin;(refine wpList_append_own _ rfl _ _ 31 rfl w.heap.size 3 i0 (.int .i64 0) 1 8 Tryz.underlying31 hi hz0 hz1 hz2 rfl (by decide) _ 0 [] rfl (World.ownsRow_made w #[] 0 (Nat.le_refl _) (Nat.zero_le _) rfl) a n c (xs.map (.int .i64)) rfl (by rw[List.length_map,HX.o.1,Nat.mul_one]) (Sl.cellsInt (Sl.below HX.o Below.go)) (C3a xs) C3.o C4.o (A0p (Nat.le_refl _) _) ?_);intro v' w3 hown' hgrow' hnil')
  have hb:Below w.heap.size w w3:=((Below.refl _ w).alloc (Nat.le_refl _) _).grown hgrow' (A0p (Nat.le_refl _) _) (B0d (World.ownsRow_made (e:=31) (size:=1) w #[] 0 (Nat.le_refl _) (Nat.zero_le _) rfl))
  go_wp2
  go_ret
  have e:0+n=n:=Nat.zero_add n
  rw[e] at hown'
  rw[← HX.o.1] at hown'
  exact ⟨_,rfl,hown',hb⟩

theorem A7b (A:Option Addr) (n c:Nat) (xs:List Int) (bs:List Nat) (w:World) (hx:Sl w A n c xs bs) (hn:n≤1048576) :
  Calls Tryz.prog 121 #[.slice A n c] w (A2t w xs) :=
 (B2n A n c xs bs w hx hn).mono fun _ _ ⟨_,he,ho,hb⟩=>by subst he;exact A2w ho rfl (Sl.i64 hx) hb

theorem C3b (A B:Option Addr) (n m c d:Nat) (xs ys:List Int) (bs ds:List Nat) (w:World) (hx:Sl w A n c xs bs) (hy:Sl w B m d ys ds) (hcx:XN.Can xs) (hcy:XN.Can ys) (hn:n≤1048576) (hm:m≤1048576) :
  Calls Tryz.prog 124 #[.slice A n c,.slice B m d] w (A2t w (dig (G_ xs+G_ ys).toNat)):=by
 obtain ⟨i0,hi,hz0,hz1,hz2⟩:=info_parts A5v
 have hlx:=A_ hx.1
 have hly:=A_ hy.1
 have HX:=A_ hx
 have HY:=A_ hy
 have CX:=A_ hcx
 have CY:=A_ hcy
 clear hx hy hcx hcy
 go_enter Tryz.func124,Tryz.ntmps124
 rcases Nat.lt_or_ge n m with hnm | hnm
 ·have b2:=A_ (show i0.bytes*(m+1)≤281474976710656 by rw[hz2];omega)
  have b3:=A_ (show m+1≤maxLen by unfold maxLen;omega)
  have hnn:=A_ (show m≤1048576 by omega)
  skip
  have hV:=A_ (T_ CX.o.1)
  go_wp2_with (at_make;(refine wpList_make_own _ rfl _ _ 31 rfl w.heap.size 3 i0 (.int .i64 0) 1 Tryz.underlying31 hi hz0 hz1 .i64 .i64 _ (m+1) rfl rfl rfl b2.o b3.o (Nat.le_refl _) ?_);intro w1 hown1 hgrow1)
  have hb1:=(Below.refl w.heap.size w).grown hgrow1 (Nat.le_refl _) (by intro k hk;cases hk)
  clear hgrow1
  go_loopw [5,6,22] (fun v y i wr=>∃ (k:Nat) (cy:Int) (out:List Int),k≤m∧0≤cy∧cy≤1∧i=.int .i64 k∧y=.int .i64 cy∧wr.ownsRow w.heap.size 3 1 v out.length (out.map (.int .i64))∧Hid (out.length=k)∧Hid (Lims out)∧Hid (G_ out+pw k*cy=G_ (ys.take k)+G_ (xs.take k))∧Below w.heap.size w wr) (fun v y i wr=>m - (intOf i).toNat)
  case atStart=>exact ⟨0,0,[],Nat.zero_le _,by omega,by omega,rfl,rfl,hown1,rfl,Lims.nil,by simp[Hid,G_,A7h],hb1⟩
  case round =>
   obtain ⟨k,cy,out,hk,hcy0,hcy1,rfl,rfl,hown,hol,hlo,hv,hb⟩:=hrel
   rcases Nat.lt_or_ge k m with hkn | hkn
   ·have hki:(k:Int)<m:=by omega
    obtain ⟨b1,o1,x,hA1,hbl1,hx1,hxi,hc1⟩:=Sl.getInt (Sl.below HY.o hb) hkn
    have hxl:=CY.o.1.get hx1
    subst hA1
    have HX1:=A_ hx1
    have hx0':=hxl.1;have hx1':=hxl.2
    clear hx1 hxl hxi
    have hol':out.length≤1048576:=by rw[hol.o];have:=hnn.o;omega
    have C3:=A_ (show out.length+1≤maxLen by unfold maxLen;omega)
    have C4:=A_ (show (out.length+1)*8≤140737488355328 by omega)
    have C5:=A_ hb.size
    have hkb:(k:Int)≤1048576:=by have:=hnn.o;omega
    have hk1:k+1≤m:=hkn
    have hlen1:=A_ (show ∀ x:Int,(out++[x]).length=k+1 by intro x;rw[List.length_append,hol.o];rfl)
    rcases Nat.lt_or_ge k n with hkm | hkm
    ·obtain ⟨b2,o2,y,hA2,hbl2,hy1,hyi,hc2⟩:=Sl.getInt (Sl.below HX.o hb) hkm
     have hyl:=CX.o.1.get hy1
     subst hA2
     have HY1:=A_ hy1
     have hy0':=hyl.1;have hy1':=hyl.2
     clear hy1 hyl hyi
     have hki2:(k:Int)<n:=by omega
     have e0:0≤(x+cy+y) / 1000000000:=by omega
     have e1:(x+cy+y) / 1000000000≤1:=by omega
     have E0:=A_ e0;have E1:=A_ e1
     have L:=A_ (show Lims (out++[(x+cy+y) % 1000000000]) from hlo.o.snoc (by omega) (by omega))
     have r:=A_ (show G_ (out++[(x+cy+y) % 1000000000])+pw (k+1)*((x+cy+y) / 1000000000)=G_ (ys.take (k+1))+G_ (xs.take (k+1)) by
      rw[A6h hol.o,Y_ HX1.o,Y_ HY1.o]
      have:=hv.o
      grind)
     clear e0 e1 hol' hn hm
     go_wp2_with (first | (at_builtin;refine wpList_append_own _ rfl _ _ 31 rfl w.heap.size 3 i0 (.int .i64 0) 1 8 Tryz.underlying31 hi hz0 hz1 hz2 rfl (by decide) _ _ _ rfl (hown.alloc _) ⟨wr.heap.size,0,none⟩ 1 1 [.int .i64 ((x+cy+y) % 1000000000)] rfl rfl (cell_one_new _ _ _) (fun x hx=>by simp at hx;subst hx;rfl) C3.o C4.o (A0p C5.o _) ?_;intro v' w3 hown' hgrow' hnil'))
     have hb':=A1s hb hown hgrow'
     first
     | exact ⟨⟨k+1,(x+cy+y) / 1000000000,out++[(x+cy+y) % 1000000000],hk1,E0.o,E1.o,rfl,rfl,A1a hown',hlen1.o _,L.o,r.o,hb'⟩,A0a hkn⟩
     | exact ⟨by (repeat apply Exists.intro);exact ⟨⟨k+1,(x+cy+y) / 1000000000,out++[(x+cy+y) % 1000000000],hk1,E0.o,E1.o,rfl,rfl,A1a hown',hlen1.o _,L.o,r.o,hb'⟩,rfl⟩,A0a hkn⟩
    ·have hki2:¬ ((k:Int)<n):=by omega
     have E0:=A_ (show 0≤(x+cy) / 1000000000 by omega);have E1:=A_ (show (x+cy) / 1000000000≤1 by omega)
     have L:=A_ (show Lims (out++[(x+cy) % 1000000000]) from hlo.o.snoc (by omega) (by omega))
     have r:=A_ (show G_ (out++[(x+cy) % 1000000000])+pw (k+1)*((x+cy) / 1000000000)=G_ (ys.take (k+1))+G_ (xs.take (k+1)) by
      have hyl:xs.length≤k:=by rw[hlx.o];exact hkm
      have:=hv.o
      rw[List.take_of_length_le hyl] at this
      rw[A6h hol.o,Y_ HX1.o,List.take_of_length_le (show xs.length≤k+1 by omega)]
      grind)
     clear hkm hol' hn hm
     go_wp2_with (first | (at_builtin;refine wpList_append_own _ rfl _ _ 31 rfl w.heap.size 3 i0 (.int .i64 0) 1 8 Tryz.underlying31 hi hz0 hz1 hz2 rfl (by decide) _ _ _ rfl (hown.alloc _) ⟨wr.heap.size,0,none⟩ 1 1 [.int .i64 ((x+cy) % 1000000000)] rfl rfl (cell_one_new _ _ _) (fun x hx=>by simp at hx;subst hx;rfl) C3.o C4.o (A0p C5.o _) ?_;intro v' w3 hown' hgrow' hnil'))
     have hb':=A1s hb hown hgrow'
     first
     | exact ⟨⟨k+1,(x+cy) / 1000000000,out++[(x+cy) % 1000000000],hk1,E0.o,E1.o,rfl,rfl,A1a hown',hlen1.o _,L.o,r.o,hb'⟩,A0a hkn⟩
     | exact ⟨by (repeat apply Exists.intro);exact ⟨⟨k+1,(x+cy) / 1000000000,out++[(x+cy) % 1000000000],hk1,E0.o,E1.o,rfl,rfl,A1a hown',hlen1.o _,L.o,r.o,hb'⟩,rfl⟩,A0a hkn⟩
   have hke:k=m:=by omega
   subst hke
   have fin:=A_ (show (if 0<cy then out++[cy] else out)=dig (G_ xs+G_ ys).toNat by
    have hyl:xs.length≤k:=by rw[hlx.o];omega
    have:=hv.o
    rw[List.take_of_length_le hyl,List.take_of_length_le (Nat.le_of_eq hly.o)] at this
    have:=C7h CY.o hlo.o (by rw[hol.o,hly.o]) (by rw[hly.o];exact this) hV.o hcy0 (by omega)
    rw[this];rw[Int.add_comm])
   have hki2:¬ ((k:Int)<k):=by omega
   have hol':out.length≤1048576:=by rw[hol.o];exact hnn.o
   have C3:=A_ (show out.length+1≤maxLen by unfold maxLen;omega)
   have C4:=A_ (show (out.length+1)*8≤140737488355328 by omega)
   have C5:=A_ hb.size
   clear hol' hn hm
   rcases Int.lt_or_le 0 cy with hc | hc
   ·rw[if_pos hc] at fin
    go_wp2_with (first | (at_builtin;refine wpList_append_own _ rfl _ _ 31 rfl w.heap.size 3 i0 (.int .i64 0) 1 8 Tryz.underlying31 hi hz0 hz1 hz2 rfl (by decide) _ _ _ rfl (hown.alloc _) ⟨wr.heap.size,0,none⟩ 1 1 [.int .i64 (cy)] rfl rfl (cell_one_new _ _ _) (fun x hx=>by simp at hx;subst hx;rfl) C3.o C4.o (A0p C5.o _) ?_;intro v' w3 hown' hgrow' hnil'))
    have hb':=A1s hb hown hgrow'
    go_wp2
    go_ret
    rw[← fin.o]
    refine A2w (A1a hown') rfl ?_ hb'
    rw[fin.o];exact (W_ _).1.i64
   have hc0:cy=0:=by omega
   subst hc0
   rw[if_neg (by omega)] at fin
   go_wp2
   go_ret
   rw[← fin.o]
   refine A2w hown rfl ?_ hb
   rw[fin.o];exact (W_ _).1.i64
 have b2:=A_ (show i0.bytes*(n+1)≤281474976710656 by rw[hz2];omega)
 have b3:=A_ (show n+1≤maxLen by unfold maxLen;omega)
 have hnn:=A_ (show n≤1048576 by omega)
 have hnm':¬ ((n:Int)<m):=by omega
 have hV:=A_ (T_ CY.o.1)
 go_wp2_with (at_make;(refine wpList_make_own _ rfl _ _ 31 rfl w.heap.size 3 i0 (.int .i64 0) 1 Tryz.underlying31 hi hz0 hz1 .i64 .i64 _ (n+1) rfl rfl rfl b2.o b3.o (Nat.le_refl _) ?_);intro w1 hown1 hgrow1)
 have hb1:=(Below.refl w.heap.size w).grown hgrow1 (Nat.le_refl _) (by intro k hk;cases hk)
 clear hgrow1
 go_loopw [5,6,22] (fun v y i wr=>∃ (k:Nat) (cy:Int) (out:List Int),k≤n∧0≤cy∧cy≤1∧i=.int .i64 k∧y=.int .i64 cy∧wr.ownsRow w.heap.size 3 1 v out.length (out.map (.int .i64))∧Hid (out.length=k)∧Hid (Lims out)∧Hid (G_ out+pw k*cy=G_ (xs.take k)+G_ (ys.take k))∧Below w.heap.size w wr) (fun v y i wr=>n - (intOf i).toNat)
 case atStart=>exact ⟨0,0,[],Nat.zero_le _,by omega,by omega,rfl,rfl,hown1,rfl,Lims.nil,by simp[Hid,G_,A7h],hb1⟩
 case round =>
  obtain ⟨k,cy,out,hk,hcy0,hcy1,rfl,rfl,hown,hol,hlo,hv,hb⟩:=hrel
  rcases Nat.lt_or_ge k n with hkn | hkn
  ·have hki:(k:Int)<n:=by omega
   obtain ⟨b1,o1,x,hA1,hbl1,hx1,hxi,hc1⟩:=Sl.getInt (Sl.below HX.o hb) hkn
   have hxl:=CX.o.1.get hx1
   subst hA1
   have HX1:=A_ hx1
   have hx0':=hxl.1;have hx1':=hxl.2
   clear hx1 hxl hxi
   have hol':out.length≤1048576:=by rw[hol.o];have:=hnn.o;omega
   have C3:=A_ (show out.length+1≤maxLen by unfold maxLen;omega)
   have C4:=A_ (show (out.length+1)*8≤140737488355328 by omega)
   have C5:=A_ hb.size
   have hkb:(k:Int)≤1048576:=by have:=hnn.o;omega
   have hk1:k+1≤n:=hkn
   have hlen1:=A_ (show ∀ x:Int,(out++[x]).length=k+1 by intro x;rw[List.length_append,hol.o];rfl)
   rcases Nat.lt_or_ge k m with hkm | hkm
   ·obtain ⟨b2,o2,y,hA2,hbl2,hy1,hyi,hc2⟩:=Sl.getInt (Sl.below HY.o hb) hkm
    have hyl:=CY.o.1.get hy1
    subst hA2
    have HY1:=A_ hy1
    have hy0':=hyl.1;have hy1':=hyl.2
    clear hy1 hyl hyi
    have hki2:(k:Int)<m:=by omega
    have e0:0≤(x+cy+y) / 1000000000:=by omega
    have e1:(x+cy+y) / 1000000000≤1:=by omega
    have E0:=A_ e0;have E1:=A_ e1
    have L:=A_ (show Lims (out++[(x+cy+y) % 1000000000]) from hlo.o.snoc (by omega) (by omega))
    have r:=A_ (show G_ (out++[(x+cy+y) % 1000000000])+pw (k+1)*((x+cy+y) / 1000000000)=G_ (xs.take (k+1))+G_ (ys.take (k+1)) by
     rw[A6h hol.o,Y_ HX1.o,Y_ HY1.o]
     have:=hv.o
     grind)
    clear e0 e1 hol' hn hm
    go_wp2_with (first | (at_builtin;refine wpList_append_own _ rfl _ _ 31 rfl w.heap.size 3 i0 (.int .i64 0) 1 8 Tryz.underlying31 hi hz0 hz1 hz2 rfl (by decide) _ _ _ rfl (hown.alloc _) ⟨wr.heap.size,0,none⟩ 1 1 [.int .i64 ((x+cy+y) % 1000000000)] rfl rfl (cell_one_new _ _ _) (fun x hx=>by simp at hx;subst hx;rfl) C3.o C4.o (A0p C5.o _) ?_;intro v' w3 hown' hgrow' hnil'))
    have hb':=A1s hb hown hgrow'
    first
    | exact ⟨⟨k+1,(x+cy+y) / 1000000000,out++[(x+cy+y) % 1000000000],hk1,E0.o,E1.o,rfl,rfl,A1a hown',hlen1.o _,L.o,r.o,hb'⟩,A0a hkn⟩
    | exact ⟨by (repeat apply Exists.intro);exact ⟨⟨k+1,(x+cy+y) / 1000000000,out++[(x+cy+y) % 1000000000],hk1,E0.o,E1.o,rfl,rfl,A1a hown',hlen1.o _,L.o,r.o,hb'⟩,rfl⟩,A0a hkn⟩
   ·have hki2:¬ ((k:Int)<m):=by omega
    have E0:=A_ (show 0≤(x+cy) / 1000000000 by omega);have E1:=A_ (show (x+cy) / 1000000000≤1 by omega)
    have L:=A_ (show Lims (out++[(x+cy) % 1000000000]) from hlo.o.snoc (by omega) (by omega))
    have r:=A_ (show G_ (out++[(x+cy) % 1000000000])+pw (k+1)*((x+cy) / 1000000000)=G_ (xs.take (k+1))+G_ (ys.take (k+1)) by
     have hyl:ys.length≤k:=by rw[hly.o];exact hkm
     have:=hv.o
     rw[List.take_of_length_le hyl] at this
     rw[A6h hol.o,Y_ HX1.o,List.take_of_length_le (show ys.length≤k+1 by omega)]
     grind)
    clear hkm hol' hn hm
    go_wp2_with (first | (at_builtin;refine wpList_append_own _ rfl _ _ 31 rfl w.heap.size 3 i0 (.int .i64 0) 1 8 Tryz.underlying31 hi hz0 hz1 hz2 rfl (by decide) _ _ _ rfl (hown.alloc _) ⟨wr.heap.size,0,none⟩ 1 1 [.int .i64 ((x+cy) % 1000000000)] rfl rfl (cell_one_new _ _ _) (fun x hx=>by simp at hx;subst hx;rfl) C3.o C4.o (A0p C5.o _) ?_;intro v' w3 hown' hgrow' hnil'))
    have hb':=A1s hb hown hgrow'
    first
    | exact ⟨⟨k+1,(x+cy) / 1000000000,out++[(x+cy) % 1000000000],hk1,E0.o,E1.o,rfl,rfl,A1a hown',hlen1.o _,L.o,r.o,hb'⟩,A0a hkn⟩
    | exact ⟨by (repeat apply Exists.intro);exact ⟨⟨k+1,(x+cy) / 1000000000,out++[(x+cy) % 1000000000],hk1,E0.o,E1.o,rfl,rfl,A1a hown',hlen1.o _,L.o,r.o,hb'⟩,rfl⟩,A0a hkn⟩
  have hke:k=n:=by omega
  subst hke
  have fin:=A_ (show (if 0<cy then out++[cy] else out)=dig (G_ xs+G_ ys).toNat by
   have hyl:ys.length≤k:=by rw[hly.o];omega
   have:=hv.o
   rw[List.take_of_length_le hyl,List.take_of_length_le (Nat.le_of_eq hlx.o)] at this
   have:=C7h CX.o hlo.o (by rw[hol.o,hlx.o]) (by rw[hlx.o];exact this) hV.o hcy0 (by omega)
   rw[this];skip)
  have hki2:¬ ((k:Int)<k):=by omega
  have hol':out.length≤1048576:=by rw[hol.o];exact hnn.o
  have C3:=A_ (show out.length+1≤maxLen by unfold maxLen;omega)
  have C4:=A_ (show (out.length+1)*8≤140737488355328 by omega)
  have C5:=A_ hb.size
  clear hol' hn hm
  rcases Int.lt_or_le 0 cy with hc | hc
  ·rw[if_pos hc] at fin
   go_wp2_with (first | (at_builtin;refine wpList_append_own _ rfl _ _ 31 rfl w.heap.size 3 i0 (.int .i64 0) 1 8 Tryz.underlying31 hi hz0 hz1 hz2 rfl (by decide) _ _ _ rfl (hown.alloc _) ⟨wr.heap.size,0,none⟩ 1 1 [.int .i64 (cy)] rfl rfl (cell_one_new _ _ _) (fun x hx=>by simp at hx;subst hx;rfl) C3.o C4.o (A0p C5.o _) ?_;intro v' w3 hown' hgrow' hnil'))
   have hb':=A1s hb hown hgrow'
   go_wp2
   go_ret
   rw[← fin.o]
   refine A2w (A1a hown') rfl ?_ hb'
   rw[fin.o];exact (W_ _).1.i64
  have hc0:cy=0:=by omega
  subst hc0
  rw[if_neg (by omega)] at fin
  go_wp2
  go_ret
  rw[← fin.o]
  refine A2w hown rfl ?_ hb
  rw[fin.o];exact (W_ _).1.i64

theorem A7m (A:Option Addr) (n c b:Nat) (zs:List Int) (w:World) (h:w.ownsRow b 3 1 (.slice A n c) n (zs.map (.int .i64))) (hi:∀ x∈zs,I64 x) :
  Calls Tryz.prog 128 #[.slice A n c] w (fun e w'=>e=.returned (.slice A (trim zs).length c)∧Below w.heap.size w w'∧w'.ownsRow b 3 1 (.slice A (trim zs).length c) (trim zs).length ((trim zs).map (.int .i64))):=by
 obtain ⟨bs,hs⟩:=A5a h hi
 refine (C1z A n c zs bs w hs).mono fun e w' ⟨he,hb⟩=>⟨he,hb,?_⟩
 have hz:zs.length=n:=hs.1
 have hle:(trim zs).length≤n:=by rw[B0a zs,List.length_take];omega
 have:=B8c (J_ h hb) hle
 rwa [← B0a] at this

theorem B6o (A B:Option Addr) (n m c d:Nat) (xs ys:List Int) (bs ds:List Nat) (w:World) (hx:Sl w A n c xs bs) (hy:Sl w B m d ys ds) (hcx:XN.Can xs) (hcy:XN.Can ys) (hn:n≤1048576) (hle:G_ ys≤G_ xs) :
  Calls Tryz.prog 126 #[.slice A n c,.slice B m d] w (A2t w (dig (G_ xs - G_ ys).toNat)):=by
 have hlx:=A_ hx.1
 have hly:=A_ hy.1
 have HX:=A_ hx
 have HY:=A_ hy
 have CX:=A_ hcx
 have CY:=A_ hcy
 have HLE:=A_ hle
 clear hx hy hcx hcy hle
 go_enter Tryz.func126,Tryz.ntmps126
 go_wp2_with fail
 refine (B2n A n c xs bs w HX.o hn).mono ?_
 rintro _ w1 ⟨v1,rfl,hown1,hb1⟩
 rw[hlx.o] at hown1
 obtain ⟨A1,c1,rfl⟩:=B7h hown1
 go_wp2_with fail
 go_loopw [6,12] (fun y i wr=>∃ (k:Nat) (bw:Int) (zs out:List Int),k≤n∧0≤bw∧bw≤1∧i=.int .i64 k∧y=.int .i64 bw∧wr.ownsRow w.heap.size 3 1 (.slice A1 n c1) n (zs.map (.int .i64))∧Hid (zs=out++xs.drop k)∧Hid (out.length=k)∧Hid (Lims out)∧Hid (G_ out=G_ (xs.take k) - G_ (ys.take k)+pw k*bw)∧Below w.heap.size w wr) (fun y i wr=>n - (intOf i).toNat)
 case atStart=>exact ⟨0,0,xs,[],Nat.zero_le _,by omega,by omega,rfl,rfl,hown1,rfl,rfl,Lims.nil,by simp[Hid,G_],hb1⟩
 case round =>
  obtain ⟨k,bw,zs,out,hk,hbw0,hbw1,rfl,rfl,hown,hzs,hol,hlo,hv,hb⟩:=hrel
  clear hown1 hb1
  rcases Nat.lt_or_ge k n with hkn | hkn
  ·obtain ⟨g,rfl,hwg,hgl,hnc,hcm⟩:=D4g hown (by omega)
   have hki:(k:Int)<n:=by omega
   have hkl:k<xs.length:=by rw[hlx.o];exact hkn
   have HX1:=A_ (List.getElem?_eq_getElem hkl)
   have hxl:=CX.o.1.get HX1.o
   generalize xs[k]=x at *
   have hx0:=hxl.1;have hx1:=hxl.2
   have HZ:=A_ (show zs[k]?=some x by rw[hzs.o];exact D2b hol.o HX1.o)
   obtain ⟨_,hc1,hf1⟩:=A1k hown HZ.o
   unfold maxLen at hcm
   have hnc':(n:Int)≤c1:=by omega
   clear hxl
   have hkb:(k:Int)≤1048576:=by omega
   have hk1:k+1≤n:=hkn
   have st1:=row_set hown k (x - bw)
   have hbs1:=hb.setCell (p:=⟨g,k,none⟩) hwg (.int .i64 (x - bw))
   rcases Nat.lt_or_ge k m with hkm | hkm
   ·obtain ⟨b2,o2,y,rfl,hb2,hy1,hyi,hc2⟩:=Sl.getInt HY.o hkm
    have hyl:=CY.o.1.get hy1
    have HY1:=A_ hy1
    have hy0:=hyl.1;have hy1':=hyl.2
    have hki2:(k:Int)<m:=by omega
    clear hyl hyi hy1
    go_wp2_with fail
    have HS:=A_ (show (zs.set k (x - bw))[k]?=some (x - bw) by rw[List.getElem?_set_self (List.getElem?_eq_some_iff.1 HZ.o).1])
    clear hc1 hf1
    generalize wr.setCell ⟨g,k,none⟩ (.int .i64 (x - bw))=W1 at *
    obtain ⟨hgl1,hc1,hf1⟩:=A1k st1 HS.o
    have hc2':=(hbs1.cell (p:=⟨b2,o2+k,none⟩) hb2).trans hc2
    have hb2':b2<W1.heap.size:=by have:=hbs1.size;omega
    clear hc2 hb2
    refine Z_ (by simp) ?_
    dsimp only [List.dropLast,List.getLast,List.length]
    iterate 10
     refine D_ _ ?_
    intro yq zq u hC hd (hdis:Hid _)
    simp at hd
    have stu:=J_ st1 hC
    have hbu:Below w.heap.size w u:=Below.go
    have Hd:=A_ hd
    clear hd hdis hC hc1 hf1
    obtain ⟨hglu,hcu,hfu⟩:=A1k stu HS.o
    have hlen1:=A_ (show ∀ x:Int,(out++[x]).length=k+1 by intro x;rw[List.length_append,hol.o];rfl)
    have HKL:=A_ hkl
    rcases Int.lt_or_le (x - bw - y) 0 with hneg | hneg
    ·have L:=A_ (show Lims (out++[x - bw - y+1000000000]) from hlo.o.snoc (by omega) (by omega))
     have r:=A_ (show G_ (out++[x - bw - y+1000000000])=G_ (xs.take (k+1)) - G_ (ys.take (k+1))+pw (k+1)*1 by
      rw[A4o,hol.o,hv.o,Y_ HX1.o,Y_ HY1.o,A1l];grind)
     have E:=A_ (show ((zs.set k (x - bw)).set k (x - bw - y)).set k (x - bw - y+1000000000)=(out++[x - bw - y+1000000000])++xs.drop (k+1) by
      rw[List.set_set,List.set_set,hzs.o];exact B7e hol.o HKL.o _)
     have R:=A_ (row_set (row_set stu k (x - bw - y)) k (x - bw - y+1000000000))
     have hb':=A_ ((hbu.setCell (p:=⟨g,k,none⟩) hwg (.int .i64 (x - bw - y))).setCell (p:=⟨g,k,none⟩) hwg (.int .i64 (x - bw - y+1000000000)))
     clear hkl
     go_simp
     have hd:=Hd.o
     go_wp2_with fail
     first
     | exact ⟨⟨k+1,1,_,out++[x - bw - y+1000000000],hk1,Int.zero_le_ofNat 1,Int.le_refl 1,rfl,rfl,R.o,E.o,hlen1.o _,L.o,r.o,hb'.o⟩,A0a hkn⟩
     | exact ⟨by (repeat apply Exists.intro);exact ⟨⟨k+1,1,_,out++[x - bw - y+1000000000],hk1,Int.zero_le_ofNat 1,Int.le_refl 1,rfl,rfl,R.o,E.o,hlen1.o _,L.o,r.o,hb'.o⟩,rfl⟩,A0a hkn⟩
    ·have hneg':¬ (x - bw - y<0):=by omega
     have L:=A_ (show Lims (out++[x - bw - y]) from hlo.o.snoc (by omega) (by omega))
     have r:=A_ (show G_ (out++[x - bw - y])=G_ (xs.take (k+1)) - G_ (ys.take (k+1))+pw (k+1)*0 by
      rw[A4o,hol.o,hv.o,Y_ HX1.o,Y_ HY1.o,A1l];grind)
     have E:=A_ (show ((zs.set k (x - bw)).set k (x - bw - y))=(out++[x - bw - y])++xs.drop (k+1) by
      rw[List.set_set,hzs.o];exact B7e hol.o HKL.o _)
     have R:=A_ (row_set stu k (x - bw - y))
     have hb':=A_ (hbu.setCell (p:=⟨g,k,none⟩) hwg (.int .i64 (x - bw - y)))
     clear hkl
     go_simp
     have hd:=Hd.o
     go_wp2_with fail
     first
     | exact ⟨⟨k+1,0,_,out++[x - bw - y],hk1,Int.le_refl 0,Int.zero_le_ofNat 1,rfl,rfl,R.o,E.o,hlen1.o _,L.o,r.o,hb'.o⟩,A0a hkn⟩
     | exact ⟨by (repeat apply Exists.intro);exact ⟨⟨k+1,0,_,out++[x - bw - y],hk1,Int.le_refl 0,Int.zero_le_ofNat 1,rfl,rfl,R.o,E.o,hlen1.o _,L.o,r.o,hb'.o⟩,rfl⟩,A0a hkn⟩
   ·have hki2:¬ ((k:Int)<m):=by omega
    have hyl:=A_ (show ys.length≤k by rw[hly.o];exact hkm)
    have hlen1:=A_ (show ∀ x:Int,(out++[x]).length=k+1 by intro x;rw[List.length_append,hol.o];rfl)
    have HKL:=A_ hkl
    clear hkl
    have hv':=A_ (show G_ out=G_ (xs.take k) - G_ ys+pw k*bw by have:=hv.o;rwa [List.take_of_length_le hyl.o] at this)
    rcases Int.lt_or_le (x - bw) 0 with hneg | hneg
    ·have L:=A_ (show Lims (out++[x - bw+1000000000]) from hlo.o.snoc (by omega) (by omega))
     have r:=A_ (show G_ (out++[x - bw+1000000000])=G_ (xs.take (k+1)) - G_ (ys.take (k+1))+pw (k+1)*1 by
      rw[List.take_of_length_le (show ys.length≤k+1 from Nat.le_succ_of_le hyl.o),A4o,hol.o,hv'.o,Y_ HX1.o,A1l];grind)
     have E:=A_ (show ((zs.set k (x - bw)).set k (x - bw+1000000000))=(out++[x - bw+1000000000])++xs.drop (k+1) by
      rw[List.set_set,hzs.o];exact B7e hol.o HKL.o _)
     have R:=A_ (row_set st1 k (x - bw+1000000000))
     have hb':=A_ (hbs1.setCell (p:=⟨g,k,none⟩) hwg (.int .i64 (x - bw+1000000000)))
     clear st1 hbs1 hkm
     go_wp2_with fail
     first
     | exact ⟨⟨k+1,1,_,out++[x - bw+1000000000],hk1,Int.zero_le_ofNat 1,Int.le_refl 1,rfl,rfl,R.o,E.o,hlen1.o _,L.o,r.o,hb'.o⟩,A0a hkn⟩
     | exact ⟨by (repeat apply Exists.intro);exact ⟨⟨k+1,1,_,out++[x - bw+1000000000],hk1,Int.zero_le_ofNat 1,Int.le_refl 1,rfl,rfl,R.o,E.o,hlen1.o _,L.o,r.o,hb'.o⟩,rfl⟩,A0a hkn⟩
    ·have hneg':¬ (x - bw<0):=by omega
     have L:=A_ (show Lims (out++[x - bw]) from hlo.o.snoc (by omega) (by omega))
     have r:=A_ (show G_ (out++[x - bw])=G_ (xs.take (k+1)) - G_ (ys.take (k+1))+pw (k+1)*0 by
      rw[List.take_of_length_le (show ys.length≤k+1 from Nat.le_succ_of_le hyl.o),A4o,hol.o,hv'.o,Y_ HX1.o,A1l];grind)
     have E:=A_ (show zs.set k (x - bw)=(out++[x - bw])++xs.drop (k+1) by
      rw[hzs.o];exact B7e hol.o HKL.o _)
     have R:=A_ st1
     have hb':=A_ hbs1
     clear st1 hbs1 hkm
     go_wp2_with fail
     first
     | exact ⟨⟨k+1,0,_,out++[x - bw],hk1,Int.le_refl 0,Int.zero_le_ofNat 1,rfl,rfl,R.o,E.o,hlen1.o _,L.o,r.o,hb'.o⟩,A0a hkn⟩
     | exact ⟨by (repeat apply Exists.intro);exact ⟨⟨k+1,0,_,out++[x - bw],hk1,Int.le_refl 0,Int.zero_le_ofNat 1,rfl,rfl,R.o,E.o,hlen1.o _,L.o,r.o,hb'.o⟩,rfl⟩,A0a hkn⟩
  have hke:k=n:=by omega
  subst hke
  have hzo:=A_ (show zs=out by rw[hzs.o,List.drop_eq_nil_of_le (Nat.le_of_eq hlx.o),List.append_nil])
  have ht:=A_ (show trim zs=dig (G_ xs - G_ ys).toNat by
   have h1:=hv.o
   rw[List.take_of_length_le (Nat.le_of_eq hlx.o)] at h1
   have h3:ys.length≤k:=by
    rcases Nat.lt_or_ge xs.length ys.length with h | h
    ·have:=Can.lt_of_len CX.o.1 CY.o h;have:=HLE.o;omega
    rw[← hlx.o];exact h
   rw[List.take_of_length_le h3] at h1
   have h4:=A2r hlo.o
   rw[hol.o] at h4
   have h5:=HLE.o
   have hbw:bw=0:=by
    rcases Int.lt_or_le 0 bw with h | h
    ·have:bw=1:=by omega
     subst this;omega
    omega
   rw[hbw] at h1
   rw[hzo.o]
   exact A6m hlo.o (by omega))
  have hki2:¬ ((k:Int)<k):=by omega
  have hI:=A_ (show ∀ x∈zs,I64 x by rw[hzo.o];exact hlo.o.i64)
  clear hkn hk
  go_wp2_with fail
  refine (A7m _ _ _ _ zs _ hown hI.o).mono ?_
  rintro _ w3 ⟨rfl,hb3,hown3⟩
  have hb':Below w.heap.size w w3:=Below.go
  go_wp2
  go_ret
  rw[ht.o] at hown3 ⊢
  exact A2w hown3 rfl (W_ _).1.i64 hb'

theorem A3w (A B:Option Addr) (n m c d:Nat) (xs ys:List Int) (bs ds:List Nat) (w:World) (hx:Sl w A n c xs bs) (hy:Sl w B m d ys ds) (hcx:Lims xs) (hcy:Lims ys) (hn:n≤1048576) (hm:m≤1048576) :
  Calls Tryz.prog 70 #[.slice A n c,.slice B m d] w (A2t w (dig (G_ xs*G_ ys).toNat)):=by
 obtain ⟨i0,hi,hz0,hz1,hz2⟩:=info_parts A5v
 have hlx:=A_ hx.1
 have hly:=A_ hy.1
 have HX:=A_ hx
 have HY:=A_ hy
 have CX:=A_ hcx
 have CY:=A_ hcy
 have b2:=A_ (show i0.bytes*(n+m)≤281474976710656 by rw[hz2];omega)
 have b3:=A_ (show n+m≤maxLen by unfold maxLen;omega)
 clear hx hy hcx hcy
 go_enter Tryz.func70,Tryz.ntmps70
 go_wp2_with (at_make;(refine wpList_make_full _ rfl _ _ 31 rfl w.heap.size 3 i0 (.int .i64 0) 1 Tryz.underlying31 hi hz0 hz1 .i64 .i64 _ _ (n+m) rfl rfl rfl rfl b2.o b3.o (Nat.le_refl _) ?_);intro w1 hown1 hgrow1)
 rw[A7d] at hown1
 have hb1:=(Below.refl w.heap.size w).grown hgrow1 (Nat.le_refl _) (by intro k hk;cases hk)
 clear hgrow1
 go_loopw [20] (fun i wr=>∃ (k:Nat) (zs:List Int),k≤n∧i=.int .i64 k∧wr.ownsRow w.heap.size 3 1 (.slice (some ⟨w.heap.size,0,none⟩) (n+m) (n+m)) (n+m) (zs.map (.int .i64))∧Hid (Lims zs)∧Hid (∀ j,k+m≤j→j<n+m→zs[j]?=some 0)∧Hid (G_ zs=G_ (xs.take k)*G_ ys)∧Below w.heap.size w wr) (fun i wr=>n - (intOf i).toNat)
 case atStart=>exact ⟨0,_,Nat.zero_le _,rfl,hown1,Lims.zeros _,fun j _ hj=>by rw[List.getElem?_replicate,if_pos hj],by show G_ _=G_ (xs.take 0)*G_ ys;rw[A7j,List.take_zero];simp[G_],hb1⟩
 case round =>
  obtain ⟨i,zs,hk,rfl,hown,hlz,hzz,hv,hb⟩:=hrel
  clear hown1 hb1 hi hz0 hz1 hz2
  obtain ⟨wo,rfl⟩:∃ wo:World,wo=wr:=⟨_,rfl⟩
  rcases Nat.lt_or_ge i n with hkn | hkn
  ·have hki:(i:Int)<n:=by omega
   obtain ⟨b1,o1,x,rfl,hb1,hx1,_,hc1⟩:=Sl.getInt HX.o hkn
   have hxl:=CX.o.get hx1
   have HX1:=A_ hx1
   have hx0:=hxl.1;have hx1':=hxl.2
   clear hxl hx1
   have hc1':=(hb.cell (p:=⟨b1,o1+i,none⟩) hb1).trans hc1
   have hOwnO:=A_ hown
   clear hown
   go_wp2_with fail
   go_loopw [8,27] (fun y j wr=>∃ (k:Nat) (cy:Int) (zs:List Int),k≤m∧0≤cy∧cy<1000000000∧j=.int .i64 k∧y=.int .i64 cy∧wr.ownsRow w.heap.size 3 1 (.slice (some ⟨w.heap.size,0,none⟩) (n+m) (n+m)) (n+m) (zs.map (.int .i64))∧Hid (Lims zs)∧Hid (∀ j,i+m≤j→j<n+m→zs[j]?=some 0)∧Hid (G_ zs+pw (i+k)*cy=G_ (xs.take i)*G_ ys+pw i*(x*G_ (ys.take k)))∧Below w.heap.size w wr) (fun y j wr=>m - (intOf j).toNat)
   case atStart=>exact ⟨0,0,zs,Nat.zero_le _,by omega,by omega,rfl,rfl,hOwnO.o,hlz,hzz,by show G_ zs+pw (i+0)*0=G_ (xs.take i)*G_ ys+pw i*(x*G_ (ys.take 0));rw[hv.o,List.take_zero];simp[G_],hb⟩
   case round =>
    obtain ⟨k,cy,us,hkm,hcy0,hcy1,rfl,rfl,hown,hlu,hzu,hvu,hbu⟩:=hrel
    clear hOwnO hlz hzz hv hb hc1 hb1 hc1'
    rcases Nat.lt_or_ge k m with hkl | hkl
    ·have hkj:(k:Int)<m:=by omega
     obtain ⟨b2,o2,y,rfl,hb2,hy1,_,hc2⟩:=Sl.getInt HY.o hkl
     have hyl:=CY.o.get hy1
     have HY1:=A_ hy1
     have hy0:=hyl.1;have hy1':=hyl.2
     clear hyl hy1
     have hc2':=(hbu.cell (p:=⟨b2,o2+k,none⟩) hb2).trans hc2
     obtain ⟨u,hu,hu0,hu1⟩:=hlu.o.num (j:=i+k) (by rw[A2v hown];omega)
     have HU:=A_ hu
     obtain ⟨hgl,hcu,hfu⟩:=A1k hown hu
     clear hu hc2 hb2
     obtain ⟨hp0,hp1⟩:=B4x hx0 hx1' hy0 hy1'
     have hkb:(k:Int)≤1048576:=by omega
     have hib:(i:Int)≤1048576:=by omega
     have hik:(i:Int)+k<n+m:=by omega
     have hk1:k+1≤m:=hkl
     have E0:=A_ (show 0≤(u+x*y+cy) / 1000000000 by omega)
     have E1:=A_ (show (u+x*y+cy) / 1000000000<1000000000 by omega)
     have L:=A_ (hlu.o.set (i+k) (u:=(u+x*y+cy) % 1000000000) (by omega) (by omega))
     have Z:=A_ (show ∀ j,i+m≤j→j<n+m→(us.set (i+k) ((u+x*y+cy) % 1000000000))[j]?=some 0 by
      intro j h1 h2;rw[List.getElem?_set_ne (by omega)];exact hzu.o j h1 h2)
     have r:=A_ (show G_ (us.set (i+k) ((u+x*y+cy) % 1000000000))+pw (i+(k+1))*((u+x*y+cy) / 1000000000)=G_ (xs.take i)*G_ ys+pw i*(x*G_ (ys.take (k+1))) by
      rw[show i+(k+1)=i+k+1 from rfl,B0j HU.o hvu.o,Y_ HY1.o,A7a]
      grind)
     have R:=A_ (row_set hown (i+k) ((u+x*y+cy) % 1000000000))
     have hb':=A_ (hbu.setCell (p:=⟨w.heap.size,i+k,none⟩) (Nat.le_refl _) (.int .i64 ((u+x*y+cy) % 1000000000)))
     go_wp2_with fail
     first
     | exact ⟨⟨k+1,(u+x*y+cy) / 1000000000,_,hk1,E0.o,E1.o,rfl,rfl,R.o,L.o,Z.o,r.o,hb'.o⟩,A0a hkl⟩
     | exact ⟨by (repeat apply Exists.intro);exact ⟨⟨k+1,(u+x*y+cy) / 1000000000,_,hk1,E0.o,E1.o,rfl,rfl,R.o,L.o,Z.o,r.o,hb'.o⟩,rfl⟩,A0a hkl⟩
    ·have hke:k=m:=by omega
     subst hke
     have hkj:¬ ((k:Int)<k):=by omega
     have HU:=A_ (hzu.o (i+k) (Nat.le_refl _) (by omega))
     obtain ⟨hgl,hcu,hfu⟩:=A1k hown HU.o
     have hkb:(k:Int)≤1048576:=by omega
     have hib:(i:Int)≤1048576:=by omega
     have hik:(i:Int)+k<n+k:=by omega
     have hk1:i+1≤n:=hkn
     have L:=A_ (hlu.o.set (i+k) (u:=cy) hcy0 hcy1)
     have Z:=A_ (show ∀ j,i+1+k≤j→j<n+k→(us.set (i+k) cy)[j]?=some 0 by
      intro j h1 h2;rw[List.getElem?_set_ne (by omega)];exact hzu.o j (by omega) h2)
     have r:=A_ (show G_ (us.set (i+k) cy)=G_ (xs.take (i+1))*G_ ys by
      have h1:=hvu.o
      rw[List.take_of_length_le (Nat.le_of_eq hly.o)] at h1
      rw[B0t HU.o,Y_ HX1.o]
      grind)
     have R:=A_ (row_set hown (i+k) cy)
     have hb':=A_ (hbu.setCell (p:=⟨w.heap.size,i+k,none⟩) (Nat.le_refl _) (.int .i64 cy))
     clear hkl
     go_wp2_with fail
     first
     | exact ⟨⟨i+1,_,hk1,rfl,R.o,L.o,Z.o,r.o,hb'.o⟩,A0a hkn⟩
     | exact ⟨by (repeat apply Exists.intro);exact ⟨⟨i+1,_,hk1,rfl,R.o,L.o,Z.o,r.o,hb'.o⟩,rfl⟩,A0a hkn⟩
  have hke:i=n:=by omega
  subst hke
  have ht:=A_ (show trim zs=dig (G_ xs*G_ ys).toNat by
   have h1:=hv.o
   rw[List.take_of_length_le (Nat.le_of_eq hlx.o)] at h1
   have h2:=Int.mul_nonneg (T_ CX.o) (T_ CY.o)
   exact A6m hlz.o (by omega))
  have hki2:¬ ((i:Int)<i):=by omega
  clear hkn hk
  go_wp2_with fail
  refine (A7m _ _ _ _ zs _ hown hlz.o.i64).mono ?_
  rintro _ w3 ⟨rfl,hb3,hown3⟩
  have hb':Below w.heap.size w w3:=Below.go
  go_wp2
  go_ret
  rw[ht.o] at hown3 ⊢
  exact A2w hown3 rfl (W_ _).1.i64 hb'

def B6g (w:World) (xs:List Int) (r:Int) (e:Ending) (w':World):Prop :=
 ∃ v,e=.returned (.tuple #[v,.int .i64 r])∧w'.ownsRow w.heap.size 3 1 v xs.length (xs.map (.int .i64))∧Below w.heap.size w w'

theorem B3c (A:Option Addr) (n c:Nat) (xs:List Int) (bs:List Nat) (d:Int) (w:World) (hx:Sl w A n c xs bs) (hcx:Lims xs) (hd0:0<d) (hd1:d<1000000000) (hn:n≤1048576) :
  Calls Tryz.prog 187 #[.slice A n c,.int .i64 d] w (B6g w (dig (G_ xs / d).toNat) (G_ xs % d)):=by
 obtain ⟨i0,hi,hz0,hz1,hz2⟩:=info_parts A5v
 have hlx:=A_ hx.1
 have HX:=A_ hx
 have CX:=A_ hcx
 have b2:=A_ (show i0.bytes*n≤281474976710656 by rw[hz2];omega)
 have b3:=A_ (show n≤maxLen by unfold maxLen;omega)
 clear hx hcx
 go_enter Tryz.func187,Tryz.ntmps187
 go_wp2_with (at_make;(refine wpList_make_full _ rfl _ _ 31 rfl w.heap.size 3 i0 (.int .i64 0) 1 Tryz.underlying31 hi hz0 hz1 .i64 .i64 _ _ n rfl rfl rfl rfl b2.o b3.o (Nat.le_refl _) ?_);intro w1 hown1 hgrow1)
 rw[A7d] at hown1
 have hb1:=(Below.refl w.heap.size w).grown hgrow1 (Nat.le_refl _) (by intro k hk;cases hk)
 clear hgrow1
 go_loopw [7,8] (fun r i wr=>∃ (K:Nat) (q:Int) (zs:List Int),K≤n∧i=.int .i64 ((K:Int) - 1)∧r=.int .i64 q∧0≤q∧q<d∧wr.ownsRow w.heap.size 3 1 (.slice (some ⟨w.heap.size,0,none⟩) n n) n (zs.map (.int .i64))∧Hid (Lims zs)∧Hid (G_ (zs.drop K)*d+q=G_ (xs.drop K))∧Below w.heap.size w wr) (fun r i wr=>(intOf i+1).toNat)
 case atStart =>
  refine ⟨n,0,_,Nat.le_refl _,rfl,rfl,Int.le_refl _,hd0,hown1,Lims.zeros _,?_,hb1⟩
  show G_ ((List.replicate n (0:Int)).drop n)*d+0=G_ (xs.drop n)
  rw[List.drop_eq_nil_of_le (by simp),List.drop_eq_nil_of_le (Nat.le_of_eq hlx.o)];simp[G_]
 case round =>
  obtain ⟨K,q,zs,hK,rfl,rfl,hq0,hq1,hown,hlz,hv,hb⟩:=hrel
  clear hown1 hb1 hi hz0 hz1 hz2
  rcases Nat.eq_zero_or_pos K with h0 | h0
  ·subst h0
   have e:=A_ (show dig (G_ xs / d).toNat=trim zs∧G_ xs % d=q by
    have h1:=hv.o
    rw[List.drop_zero,List.drop_zero] at h1
    obtain ⟨e1,e2⟩:=C2j hd0 h1 hq0 hq1
    refine ⟨?_,e2⟩
    rw[e1];exact (A6m hlz.o (Int.toNat_of_nonneg (T_ hlz.o)).symm).symm)
   have hneg:¬ ((0:Int)≤((0:Nat):Int) - 1):=by omega
   go_wp2_with fail
   refine (A7m _ _ _ _ zs _ hown hlz.o.i64).mono ?_
   rintro _ w3 ⟨rfl,hb3,hown3⟩
   have hb':Below w.heap.size w w3:=Below.go
   go_wp2
   go_ret2
   rw[e.o.1,e.o.2]
   exact ⟨_,rfl,hown3,hb'⟩
  ·obtain ⟨j,rfl⟩:∃ j,K=j+1:=⟨K - 1,by omega⟩
   have ej:(((j+1:Nat):Int) - 1)=j:=by omega
   rw[ej]
   have hjn:j<n:=hK
   obtain ⟨b1,o1,x,rfl,hb1,hx1,_,hc1⟩:=Sl.getInt HX.o hjn
   have hxl:=CX.o.get hx1
   have HX1:=A_ hx1
   have hx0:=hxl.1;have hx1':=hxl.2
   have hc1':=(hb.cell (p:=⟨b1,o1+j,none⟩) hb1).trans hc1
   have hb1':b1<wr.heap.size:=by have:=hb.size;omega
   clear hxl hx1 hc1 hb1
   obtain ⟨u,hu,hu0,hu1⟩:=hlz.o.num (j:=j) (by rw[A2v hown];omega)
   obtain ⟨hgl,hcu,hfu⟩:=A1k hown hu
   have HJ:=A_ (show j<zs.length by rw[A2v hown];omega)
   clear hu hu0 hu1
   have Q:=A_ (C7l hd0 hq0 hq1 hx0 hx1')
   have r:=A_ (C2v HJ.o HX1.o hv.o)
   have L:=A_ (hlz.o.set j Q.o.1 Q.o.2.1)
   have R:=A_ (row_set hown j ((q*1000000000+x) / d))
   have hb':=A_ (hb.setCell (p:=⟨w.heap.size,j,none⟩) (Nat.le_refl _) (.int .i64 ((q*1000000000+x) / d)))
   have hjl:(j:Int)<n:=by omega
   have hnb:(n:Int)≤1048576:=by omega
   have hj1:j≤n:=by omega
   have hd1':1≤d:=by omega
   have rm:(intOf (Value.int .i64 ((j:Int) - 1))+1).toNat<(intOf (Value.int .i64 (j:Int))+1).toNat:=by simp[intOf]
   clear ej hK h0
   go_wp2_with fail
   first
   | exact ⟨⟨j,(q*1000000000+x) % d,_,hj1,rfl,rfl,Q.o.2.2.1,Q.o.2.2.2,R.o,L.o,r.o,hb'.o⟩,rm⟩
   | exact ⟨by (repeat apply Exists.intro);exact ⟨⟨j,(q*1000000000+x) % d,_,hj1,rfl,rfl,Q.o.2.2.1,Q.o.2.2.2,R.o,L.o,r.o,hb'.o⟩,rfl⟩,rm⟩

def C8z (w:World) (N:Nat) (V:Int) (e:Ending) (w':World):Prop :=
 ∃ zs,e=.returned (.slice (some ⟨w.heap.size,0,none⟩) N N)∧zs.length=N∧Lims zs∧G_ zs=V∧w'.ownsRow w.heap.size 3 1 (.slice (some ⟨w.heap.size,0,none⟩) N N) N (zs.map (.int .i64))∧Below w.heap.size w w'

theorem B6j (A:Option Addr) (n c N:Nat) (xs:List Int) (bs:List Nat) (d:Int) (w:World) (hx:Sl w A n c xs bs) (hcx:Lims xs) (hd0:0<d) (hd1:d<1000000000) (hN:N≤1048576) (hle:n≤N) (hV:G_ xs*d<pw N) :
  Calls Tryz.prog 188 #[.slice A n c,.int .i64 d,.int .i64 N] w (C8z w N (G_ xs*d)):=by
 obtain ⟨i0,hi,hz0,hz1,hz2⟩:=info_parts A5v
 have hlx:=A_ hx.1
 have HX:=A_ hx
 have CX:=A_ hcx
 have HV:=A_ hV
 have b2:=A_ (show i0.bytes*N≤281474976710656 by rw[hz2];omega)
 have b3:=A_ (show N≤maxLen by unfold maxLen;omega)
 clear hx hcx hV
 go_enter Tryz.func188,Tryz.ntmps188
 go_wp2_with (at_make;(refine wpList_make_full _ rfl _ _ 31 rfl w.heap.size 3 i0 (.int .i64 0) 1 Tryz.underlying31 hi hz0 hz1 .i64 .i64 _ _ N rfl rfl rfl rfl b2.o b3.o (Nat.le_refl _) ?_);intro w1 hown1 hgrow1)
 rw[A7d] at hown1
 have hb1:=(Below.refl w.heap.size w).grown hgrow1 (Nat.le_refl _) (by intro k hk;cases hk)
 clear hgrow1
 go_loopw [8,15] (fun y i wr=>∃ (k:Nat) (cy:Int) (zs:List Int),k≤N∧0≤cy∧cy<1000000000∧i=.int .i64 k∧y=.int .i64 cy∧wr.ownsRow w.heap.size 3 1 (.slice (some ⟨w.heap.size,0,none⟩) N N) N (zs.map (.int .i64))∧Hid (Lims zs)∧Hid (∀ j,k≤j→j<N→zs[j]?=some 0)∧Hid (G_ zs+pw k*cy=G_ (xs.take k)*d)∧Below w.heap.size w wr) (fun y i wr=>N - (intOf i).toNat)
 case atStart =>
  refine ⟨0,0,_,Nat.zero_le _,Int.le_refl _,by omega,rfl,rfl,hown1,Lims.zeros _,fun j _ hj=>by rw[List.getElem?_replicate,if_pos hj],?_,hb1⟩
  show G_ _+pw 0*0=G_ (xs.take 0)*d
  rw[A7j,List.take_zero];simp[G_]
 case round =>
  obtain ⟨k,cy,zs,hk,hcy0,hcy1,rfl,rfl,hown,hlz,hzz,hv,hb⟩:=hrel
  clear hown1 hb1 hi hz0 hz1 hz2
  rcases Nat.lt_or_ge k N with hkn | hkn
  ·have hki:(k:Int)<N:=by omega
   have hNb:(N:Int)≤1048576:=by omega
   have HU:=A_ (hzz.o k (Nat.le_refl _) hkn)
   obtain ⟨hgl,hcu,hfu⟩:=A1k hown HU.o
   have hk1:k+1≤N:=hkn
   rcases Nat.lt_or_ge k n with hkl | hkl
   ·obtain ⟨b1,o1,x,rfl,hb1,hx1,_,hc1⟩:=Sl.getInt HX.o hkl
    have hxl:=CX.o.get hx1
    have HX1:=A_ hx1
    have hx0:=hxl.1;have hx1':=hxl.2
    have hc1':=(hb.cell (p:=⟨b1,o1+k,none⟩) hb1).trans hc1
    have hb1':b1<wr.heap.size:=by have:=hb.size;omega
    clear hxl hx1 hc1 hb1
    have hkl':(k:Int)<n:=by omega
    obtain ⟨hp0,hp1⟩:=B4x hx0 hx1' (Int.le_of_lt hd0) hd1
    have E0:=A_ (show 0≤(cy+x*d) / 1000000000 by omega)
    have E1:=A_ (show (cy+x*d) / 1000000000<1000000000 by omega)
    have L:=A_ (hlz.o.set k (u:=(cy+x*d) % 1000000000) (by omega) (by omega))
    have Z:=A_ (show ∀ j,k+1≤j→j<N→(zs.set k ((cy+x*d) % 1000000000))[j]?=some 0 by
     intro j h1 h2;rw[List.getElem?_set_ne (by omega)];exact hzz.o j (by omega) h2)
    have r:=A_ (show G_ (zs.set k ((cy+x*d) % 1000000000))+pw (k+1)*((cy+x*d) / 1000000000)=G_ (xs.take (k+1))*d by
     rw[B0j HU.o hv.o,Y_ HX1.o]
     grind)
    have R:=A_ (row_set hown k ((cy+x*d) % 1000000000))
    have hb':=A_ (hb.setCell (p:=⟨w.heap.size,k,none⟩) (Nat.le_refl _) (.int .i64 ((cy+x*d) % 1000000000)))
    clear hle hk
    go_wp2_with fail
    first
    | exact ⟨⟨k+1,(cy+x*d) / 1000000000,_,hk1,E0.o,E1.o,rfl,rfl,R.o,L.o,Z.o,r.o,hb'.o⟩,A0a hkn⟩
    | exact ⟨by (repeat apply Exists.intro);exact ⟨⟨k+1,(cy+x*d) / 1000000000,_,hk1,E0.o,E1.o,rfl,rfl,R.o,L.o,Z.o,r.o,hb'.o⟩,rfl⟩,A0a hkn⟩
   ·have hkl':¬ ((k:Int)<n):=by omega
    have E0:=A_ (show 0≤cy / 1000000000 by omega)
    have E1:=A_ (show cy / 1000000000<1000000000 by omega)
    have L:=A_ (hlz.o.set k (u:=cy % 1000000000) (by omega) (by omega))
    have Z:=A_ (show ∀ j,k+1≤j→j<N→(zs.set k (cy % 1000000000))[j]?=some 0 by
     intro j h1 h2;rw[List.getElem?_set_ne (by omega)];exact hzz.o j (by omega) h2)
    have r:=A_ (show G_ (zs.set k (cy % 1000000000))+pw (k+1)*(cy / 1000000000)=G_ (xs.take (k+1))*d by
     have hxl:xs.length≤k:=by rw[hlx.o];exact hkl
     have h1:=hv.o
     rw[List.take_of_length_le hxl] at h1
     rw[B0j HU.o h1,List.take_of_length_le (Nat.le_succ_of_le hxl)]
     grind)
    have R:=A_ (row_set hown k (cy % 1000000000))
    have hb':=A_ (hb.setCell (p:=⟨w.heap.size,k,none⟩) (Nat.le_refl _) (.int .i64 (cy % 1000000000)))
    clear hle hk hkl
    go_wp2_with fail
    first
    | exact ⟨⟨k+1,cy / 1000000000,_,hk1,E0.o,E1.o,rfl,rfl,R.o,L.o,Z.o,r.o,hb'.o⟩,A0a hkn⟩
    | exact ⟨by (repeat apply Exists.intro);exact ⟨⟨k+1,cy / 1000000000,_,hk1,E0.o,E1.o,rfl,rfl,R.o,L.o,Z.o,r.o,hb'.o⟩,rfl⟩,A0a hkn⟩
  have hke:k=N:=by omega
  subst hke
  have e:=A_ (show G_ zs=G_ xs*d by
   have h1:=hv.o
   rw[List.take_of_length_le (by rw[hlx.o];exact hle)] at h1
   have h2:=T_ hlz.o
   have h3:=A4q k
   have h4:=HV.o
   have:cy=0:=by
    rcases Int.lt_or_le 0 cy with h | h
    ·have:pw k*1≤pw k*cy:=Int.mul_le_mul_of_nonneg_left (by omega) (by omega)
     omega
    omega
   subst this;omega)
  have hki2:¬ ((k:Int)<k):=by omega
  have hzl:=A_ (A2v hown)
  clear hkn hk hle
  go_wp2
  go_ret
  exact ⟨zs,rfl,hzl.o,hlz.o,e.o,hown,hb⟩
end Go.Proofs.YtbhemnidcleaiaaGreat.X
