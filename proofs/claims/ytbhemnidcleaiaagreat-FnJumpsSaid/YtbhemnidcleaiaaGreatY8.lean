/- A part of the proof. -/
import Derived.Test.YtbhemnidcleaiaaGreatY7
set_option linter.constructorNameAsVariable false
set_option maxHeartbeats 16000000
set_option maxRecDepth 10000
namespace Go.Proofs.YtbhemnidcleaiaaGreat.X
open Go.RowKit Go.XB Go.XN
attribute [local go_sem] O_ opAt P_ M_ Region.wanted yielded
attribute [local simp] P_ M_ MP.eq MP.agg MP.sl A0e

theorem A4g (n lo hi:Int) (w:World):Calls Tryz.prog 184 #[.int .i64 n,.int .i64 lo,.int .i64 hi] w (A0j w (.bool (inB lo n hi))):=by
 rcases Int.lt_or_le n lo with h | h
 ·have E:=A_ (show false=inB lo n hi by unfold inB;simp;omega)
  have h':¬ (lo≤n):=by omega
  go_enter Tryz.func184,Tryz.ntmps184
  go_wp2
  go_ret
  exact ⟨R_ E.o,Below.go⟩
 have E:=A_ (show decide (n≤hi)=inB lo n hi by unfold inB;simp[h])
 go_enter Tryz.func184,Tryz.ntmps184
 go_wp2
 go_ret
 exact ⟨R_ E.o,Below.go⟩

theorem A8e (A:Option Addr) (n c:Nat) (xs:List Int) (bs:List Nat) (w:World) (hx:Sl w A n c xs bs) :
  Calls Tryz.prog 199 #[.slice A n c] w (A0j w (.slice A (trim xs).length c)):=by
 have hnc:n≤c:=hx.2.1
 have hcm:c≤maxLen:=hx.2.2.1
 unfold maxLen at hcm
 have HL:=A_ hx.1
 have HX:=A_ hx
 clear hx
 go_enter Tryz.func199,Tryz.ntmps199
 go_wp2_with fail
 go_loopg [3] n (fun g s wr=>s=.int .i64 g∧g≤n∧Hid (trim (xs.take g)=trim xs)∧Below w.heap.size w wr)
 case atStart=>exact ⟨rfl,Nat.le_refl _,by rw[List.take_of_length_le (Nat.le_of_eq HL.o)];rfl,Below.refl _ _⟩
 case round =>
  obtain ⟨rfl,hk,ht,hb⟩:=hrel
  rcases Nat.eq_zero_or_pos gk with h0 | h0
  ·subst h0
   go_wp2
   go_ret
   refine ⟨?_,hb⟩
   rw[← ht.o];rfl
  obtain ⟨j,rfl⟩:∃ j,gk=j+1:=⟨gk - 1,by omega⟩
  obtain ⟨b,off,x,rfl,hbl,hxk,_,hcx⟩:=Sl.getInt (Sl.below HX.o hb) (show j<n by omega)
  have HXk:=A_ hxk
  clear hxk
  have hj1:(j:Int)+1≤c:=by omega
  have hjn:(j:Int)<n:=by omega
  by_cases hz:x=0
  ·have hzb:(x==0)=true:=by simp[hz]
   have r3:=A_ (show trim (xs.take j)=trim xs by rw[← ht.o,take_step HXk.o,hz,A8t])
   clear hz
   have rj:j≤n:=by omega
   go_wp2_with fail
   go_roundg j
   case measure=>omega
   case rel=>exact ⟨by go_num,rj,r3,hb⟩
  have hzb:(x==0)=false:=by simp[hz]
  have r3:=A_ (show trim xs=xs.take (j+1) by rw[← ht.o,take_step HXk.o,B5w hz])
  clear hz
  go_wp2
  go_ret
  refine ⟨?_,hb⟩
  have hlen:(trim xs).length=j+1:=by rw[r3.o,List.length_take];have:=HL.o;omega
  rw[hlen];rfl

theorem A5s (A:Option Addr) (n c b:Nat) (zs:List Int) (w:World) (h:w.ownsRow b 3 1 (.slice A n c) n (zs.map (.int .i64))) (hi:∀ x∈zs,I64 x) :
  Calls Tryz.prog 199 #[.slice A n c] w (fun e w'=>e=.returned (.slice A (trim zs).length c)∧Below w.heap.size w w'∧w'.ownsRow b 3 1 (.slice A (trim zs).length c) (trim zs).length ((trim zs).map (.int .i64))):=by
 obtain ⟨bs,hs⟩:=A5a h hi
 have hz:zs.length=n:=by have:=h.1;simpa using this
 refine (A8e A n c zs bs w hs).mono fun e w' ⟨he,hb⟩=>⟨he,hb,?_⟩
 have ht:=B0a zs
 have:=B8c (J_ h hb) (k:=(trim zs).length) (by rw[← hz,ht,List.length_take];omega)
 rw[← ht] at this
 exact this

theorem B2a (A:Option Addr) (n c:Nat) (xs:List Int) (bs:List Nat) (w:World) (hx:Sl w A n c xs bs) (hl:(trim xs).length≤60) :
  Calls Tryz.prog 203 #[.slice A n c] w (A0j w (.slice A (trim xs).length c)):=by
 have HX:=A_ hx
 generalize hm:(trim xs).length=m at *
 have HM:=A_ hm
 have hz:¬ ((60:Int)<m):=by omega
 clear hx hm
 go_enter Tryz.func203,Tryz.ntmps203
 go_wp2_with fail
 have C:=A8e A n c xs bs w HX.o
 rw[HM.o] at C
 refine C.mono ?_
 clear C
 rintro _ w1 ⟨rfl,hb1⟩
 go_wp2
 go_ret
 exact ⟨rfl,hb1⟩

theorem B8b (q:Int) (h:0≤q):((q.toNat % 1000000000:Nat):Int)=q % 1000000000∧q.toNat / 1000000000=(q / 1000000000).toNat:=by omega

theorem A8y (N:Int) (w:World) (h1:N≤9223372036854775807):Calls Tryz.prog 152 #[.int .i64 N] w (A6t w 3 (dig N.toNat)):=by
 have hlen:(dig N.toNat).length≤3:=A3h (by rw[pw_vals.2.2];omega)
 obtain ⟨i0,hi,hz0,hz1,hz2⟩:=info_parts A5v
 have HLen:=A_ hlen
 clear hlen
 go_enter Tryz.func152,Tryz.ntmps152
 go_wp2
 go_loopw [0,3] (fun m v wr=>∃ (q:Int) (out:List Int),m=.int .i64 q∧wr.ownsRow w.heap.size 3 1 v out.length (out.map (.int .i64))∧Hid (dig N.toNat=out++dig q.toNat)∧q≤9223372036854775807∧Below w.heap.size w wr) (fun m v wr=>(intOf m).toNat)
 case atStart=>exact ⟨N,[],rfl,World.ownsRow_made w #[] 0 (Nat.le_refl _) (Nat.zero_le _) rfl,rfl,h1,Below.go⟩
 case round =>
  obtain ⟨q,out,rfl,hown,hd,hq1,hb⟩:=hrel
  have hol:out.length≤3:=by have:=HLen.o;rw[hd.o,List.length_append] at this;omega
  by_cases hp:0<q
  ·have C3:=A_ (show out.length+1≤maxLen by unfold maxLen;omega)
   have C4:=A_ (show (out.length+1)*8≤140737488355328 by omega)
   have C5:=A_ hb.size
   have r3:=A_ (show dig N.toNat=(out++[q % 1000000000])++dig (q / 1000000000).toNat by rw[hd.o,B4g (by omega),(B8b q (by omega)).1,(B8b q (by omega)).2];simp)
   have r5:=A_ (show q / 1000000000≤9223372036854775807 by omega)
   have rm:=A_ (show (intOf (.int .i64 (q / 1000000000))).toNat<(intOf (.int .i64 q)).toNat by simp[intOf];omega)
   clear h1 hol
   go_wp2_with (first | (at_builtin;refine wpList_append_own _ rfl _ _ 31 rfl w.heap.size 3 i0 (.int .i64 0) 1 8 Tryz.underlying31 hi hz0 hz1 hz2 rfl (by decide) _ _ _ rfl (hown.alloc _) ⟨wr.heap.size,0,none⟩ 1 1 [.int .i64 (q % 1000000000)] rfl rfl (cell_one_new _ _ _) (fun x hx=>by simp at hx;subst hx;rfl) C3.o C4.o (A0p C5.o _) ?_;intro v' w3 hown' hgrow' hnil'))
   have hb':=A1s hb hown hgrow'
   first
   | exact ⟨⟨q / 1000000000,out++[q % 1000000000],rfl,A1a hown',r3.o,r5.o,hb'⟩,rm.o⟩
   | exact ⟨by (repeat apply Exists.intro);exact ⟨⟨q / 1000000000,out++[q % 1000000000],rfl,A1a hown',r3.o,r5.o,hb'⟩,rfl⟩,rm.o⟩
  have hz:q.toNat=0:=by omega
  have e:=hd.o
  rw[hz,show dig 0=[] from rfl,List.append_nil] at e
  have E:=A_ e
  clear hz e
  go_wp2
  go_ret
  rw[E.o]
  exact ⟨_,rfl,hown,hb⟩

theorem A8o (N:Int) (w:World) (h1:N≤9223372036854775807):Calls Tryz.prog 152 #[.int .i64 N] w (A2t w (dig N.toNat)) :=
 (A8y N w h1).mono fun _ _ ⟨_,he,ho,hb⟩=>by subst he;exact A2w ho rfl (W_ _).1.i64 hb

theorem A4d (A B:Option Addr) (n m c d:Nat) (xs ys:List Int) (bs ds:List Nat) (w:World) (hx:Sl w A n c xs bs) (hy:Sl w B m d ys ds) (hcx:XN.Can xs) (hcy:XN.Can ys) :
  Calls Tryz.prog 250 #[.slice A n c,.slice B m d] w (A0j w (.int .i64 (sgn (G_ xs - G_ ys)))):=by
 have hlx:=A_ hx.1
 have hly:=A_ hy.1
 have hcm:c≤maxLen:=hx.2.2.1
 have hnc:n≤c:=hx.2.1
 unfold maxLen at hcm
 have HX:=A_ hx
 have HY:=A_ hy
 have CX:=A_ hcx
 have CY:=A_ hcy
 clear hx hy hcx hcy
 by_cases hnm:n=m
 ·subst hnm
  go_enter Tryz.func250,Tryz.ntmps250
  go_wp2_with fail
  go_loopg [5] n (fun g s wr=>s=.int .i64 ((g:Int) - 1)∧g≤n∧Hid (xs.drop g=ys.drop g)∧Below w.heap.size w wr)
  case atStart =>
   refine ⟨rfl,Nat.le_refl _,?_,Below.refl _ _⟩
   show xs.drop n=ys.drop n
   rw[List.drop_eq_nil_of_le (Nat.le_of_eq hlx.o),List.drop_eq_nil_of_le (Nat.le_of_eq hly.o)]
  case round =>
   obtain ⟨rfl,hk,hd,hb⟩:=hrel
   rcases Nat.eq_zero_or_pos gk with h0 | h0
   ·subst h0
    have e:=A_ (show (0:Int)=sgn (G_ xs - G_ ys) by
     have:=hd.o
     rw[List.drop_zero,List.drop_zero] at this
     rw[this];unfold sgn;simp)
    have hneg:¬ ((0:Int)≤((0:Nat):Int) - 1):=by omega
    go_wp2
    go_ret
    exact ⟨A1d e.o,hb⟩
   obtain ⟨j,rfl⟩:∃ j,gk=j+1:=⟨gk - 1,by omega⟩
   have ej:(((j+1:Nat):Int) - 1)=j:=by omega
   rw[ej]
   have hj:j<n:=hk
   obtain ⟨b1,o1,x,rfl,hb1,hx1,hxi,hc1⟩:=Sl.getInt (Sl.below HX.o hb) hj
   obtain ⟨b2,o2,y,rfl,hb2,hy1,hyi,hc2⟩:=Sl.getInt (Sl.below HY.o hb) hj
   have HX1:=A_ hx1
   have HY1:=A_ hy1
   have st:=A_ (B4i CX.o.1 CY.o.1 HX1.o HY1.o hd.o (by rw[hlx.o,hly.o]))
   have hjn:(j:Int)<n:=by omega
   have hd':=hd
   clear hd hx1 hy1 ej
   rcases Int.lt_trichotomy x y with hxy | hxy | hxy
   ·have e:=A_ (show (-1:Int)=sgn (G_ xs - G_ ys) by rw[A7s (st.o.1 hxy)])
    go_wp2_with fail
    refine A0l ?_
    iterate 9
     refine D_ _ ?_
    intro yq zq wa hC hd (hdis:Hid _)
    simp at hd
    go_simp
    clear hd hdis
    have hb':=Below.next hb hC
    go_wp2
    go_ret
    exact ⟨A1d e.o,hb'⟩
   ·subst hxy
    have r:=A_ (show xs.drop j=ys.drop j by
     obtain ⟨hk1,ex⟩:=List.getElem?_eq_some_iff.1 HX1.o
     obtain ⟨hk2,ey⟩:=List.getElem?_eq_some_iff.1 HY1.o
     rw[List.drop_eq_getElem_cons hk1,List.drop_eq_getElem_cons hk2,ex,ey,hd'.o])
    have rj:j≤n:=by omega
    clear st
    go_wp2_with fail
    refine A0l ?_
    iterate 9
     refine D_ _ ?_
    intro yq zq wa hC hd (hdis:Hid _)
    simp at hd
    go_simp
    clear hd hdis
    have hb':=Below.next hb hC
    have hc1':=((C_ hC).1 b1 (o1+j) hb1).trans hc1
    have hc2':=((C_ hC).1 b2 (o2+j) hb2).trans hc2
    have hb1':b1<wa.heap.size:=by have:=hC.size;omega
    have hb2':b2<wa.heap.size:=by have:=hC.size;omega
    clear hc1 hc2 hb1 hb2 hC hb
    go_wp2_with fail
    refine A0l ?_
    iterate 9
     refine D_ _ ?_
    intro yq zq wb hC hd (hdis:Hid _)
    simp at hd
    go_simp
    clear hd hdis
    have hb'':=Below.next hb' hC
    go_wp2_with fail
    go_roundg j
    case measure=>omega
    case rel=>exact ⟨rfl,rj,r,hb''⟩
   have e:=A_ (show (1:Int)=sgn (G_ xs - G_ ys) by rw[B3w (st.o.2 hxy)])
   have hxy':¬ x<y:=by omega
   clear st
   go_wp2_with fail
   refine A0l ?_
   iterate 9
    refine D_ _ ?_
   intro yq zq wa hC hd (hdis:Hid _)
   simp at hd
   go_simp
   clear hd hdis
   have hb':=Below.next hb hC
   have hc1':=((C_ hC).1 b1 (o1+j) hb1).trans hc1
   have hc2':=((C_ hC).1 b2 (o2+j) hb2).trans hc2
   have hb1':b1<wa.heap.size:=by have:=hC.size;omega
   have hb2':b2<wa.heap.size:=by have:=hC.size;omega
   clear hc1 hc2 hb1 hb2 hC hb
   go_wp2_with fail
   refine A0l ?_
   iterate 9
    refine D_ _ ?_
   intro yq zq wb hC hd (hdis:Hid _)
   simp at hd
   go_simp
   clear hd hdis
   have hb'':=Below.next hb' hC
   go_wp2
   go_ret
   exact ⟨A1d e.o,hb''⟩
 have hz:((n:Int) != m)=true:=by simp;omega
 rcases Nat.lt_or_ge n m with h | h
 ·have e:=A_ (show (-1:Int)=sgn (G_ xs - G_ ys) by rw[A7s (XN.Can.lt_of_len CX.o.1 CY.o (by rw[hlx.o,hly.o];exact h))])
  have h':(n:Int)<m:=by omega
  clear hnm h
  go_enter Tryz.func250,Tryz.ntmps250
  go_wp2
  go_ret
  exact ⟨A1d e.o,Below.go⟩
 have e:=A_ (show (1:Int)=sgn (G_ xs - G_ ys) by rw[B3w (XN.Can.lt_of_len CY.o.1 CX.o (by rw[hlx.o,hly.o];omega))])
 have h':¬ ((n:Int)<m):=by omega
 clear hnm h
 go_enter Tryz.func250,Tryz.ntmps250
 go_wp2
 go_ret
 exact ⟨A1d e.o,Below.go⟩

theorem C8s (x:Int):inB 0 x 999999999=!A7g x:=by
 unfold A7g inB;rw[Bool.eq_iff_iff];simp
theorem A4w (A:Option Addr) (n c:Nat) (xs:List Int) (bs:List Nat) (w:World) (hx:Sl w A n c xs bs) :
  Calls Tryz.prog 198 #[.slice A n c] w (A0j w (.bool (A3c xs))):=by
 have HL:=A_ hx.1
 have HX:=A_ hx
 have hnc:=hx.2.1
 have hm:c≤maxLen:=hx.2.2.1
 unfold maxLen at hm
 clear hx
 go_enter Tryz.func198,Tryz.ntmps198
 go_wp2_with fail
 go_loopw [7] (fun i wr=>∃ k:Nat,k≤n∧i=.int .i64 k∧Hid ((xs.take k).any A7g=false)∧Below w.heap.size w wr) (fun i wr=>n - (intOf i).toNat)
 case atStart=>exact ⟨0,Nat.zero_le _,rfl,by simp[Hid],Below.refl _ _⟩
 case round =>
  obtain ⟨k,hk,rfl,ha,hb⟩:=hrel
  rcases Nat.lt_or_ge k n with hkn | hkn
  ·have hki:(k:Int)<n:=by omega
   obtain ⟨b,off,x,rfl,hbl,hxk,_,hcx⟩:=Sl.getInt (Sl.below HX.o hb) hkn
   have HXk:=A_ hxk
   clear hxk
   have hkc:(k:Int)+1≤c:=by omega
   have NB:=A_ (C8s x)
   cases hbad:A7g x
   ·rw[hbad] at NB
    have r:=A_ (show (xs.take (k+1)).any A7g=false from B2c HXk.o ha.o hbad)
    clear hbad
    have hk1:k+1≤n:=hkn
    go_wp2_with fail
    have C:=A4g x 0 999999999 wr
    rw[NB.o] at C
    refine C.mono ?_
    clear C
    rintro _ w1 ⟨rfl,hb1⟩
    have hb':=Below.next hb hb1
    go_wp2_with fail
    first
    | exact ⟨⟨k+1,hk1,rfl,r,hb'⟩,A0a hkn⟩
    | exact ⟨by (repeat apply Exists.intro);exact ⟨⟨k+1,hk1,rfl,r,hb'⟩,rfl⟩,A0a hkn⟩
   rw[hbad] at NB
   have e:=A_ (show false=A3c xs by
    rw[A4r]
    have:xs.any A7g=true:=List.any_eq_true.2 ⟨x,List.mem_of_getElem? HXk.o,hbad⟩
    rw[this];simp)
   clear hbad
   go_wp2_with fail
   have C:=A4g x 0 999999999 wr
   rw[NB.o] at C
   refine C.mono ?_
   clear C
   rintro _ w1 ⟨rfl,hb1⟩
   have hb':=Below.next hb hb1
   go_wp2
   go_ret
   exact ⟨R_ e.o,hb'⟩
  obtain rfl:k=n:=by omega
  have ha':=ha.o
  rw[List.take_of_length_le (Nat.le_of_eq HL.o)] at ha'
  have HA:=A_ ha'
  clear ha' ha
  have hki:¬ ((k:Int)<k):=by omega
  rcases Nat.lt_or_ge 60 k with h60 | h60
  ·have e:=A_ (show false=A3c xs by rw[A4r,HL.o];simp;omega)
   have h1:¬ ((k:Int)≤60):=by omega
   go_wp2
   go_ret
   exact ⟨R_ e.o,hb⟩
  have h1:(k:Int)≤60:=by omega
  rcases Nat.eq_zero_or_pos k with h0 | h0
  ·subst h0
   have e:=A_ (show true=A3c xs by rw[A4r,HA.o,List.eq_nil_of_length_eq_zero HL.o];rfl)
   go_wp2
   go_ret
   exact ⟨R_ e.o,hb⟩
  obtain ⟨j,rfl⟩:∃ j,k=j+1:=⟨k - 1,by omega⟩
  obtain ⟨b,off,x,rfl,hbl,hx1,hI,hcx⟩:=Sl.getInt (Sl.below HX.o hb) (show j<j+1 by omega)
  have hlast:=A_ (show xs.getLast?=some x by rw[List.getLast?_eq_getElem?,HL.o];exact hx1)
  have hz:((j:Int)+1==0)=false:=by simp;omega
  have e:=A_ (show (x != 0)=A3c xs by rw[A4r,HA.o,hlast.o,HL.o,decide_eq_true h60];simp;rfl)
  clear hx1
  go_wp2
  go_ret
  exact ⟨R_ e.o,hb⟩

theorem B2r {xs:List Int} {k:Nat} (h:xs.length≤k):G_ (xs.take (k+1))=G_ (xs.take k)+pw k*0:=by
 rw[List.take_of_length_le h,List.take_of_length_le (by omega)];simp
theorem D3q {xs ys out:List Int} (hx:XN.Can xs) (hy:XN.Can ys) (ho:Lims out) (hl:out.length≤max xs.length ys.length) (hv:G_ out=G_ xs+G_ ys):XN.Can out:=by
 apply XN.Can.of_len ho
 intro hne
 rw[hv]
 have h0:0<out.length:=List.length_pos_iff.2 hne
 have h1:=T_ hx.1
 have h2:=T_ hy.1
 rcases Nat.lt_or_ge xs.length ys.length with h | h
 ·have:=hy.len_le (by intro e;rw[e] at h;simp at h)
  have:=A2x (show out.length - 1≤ys.length - 1 by omega)
  omega
 have:=hx.len_le (by intro e;subst e;simp only [List.length_nil] at hl h;omega)
 have:=A2x (show out.length - 1≤xs.length - 1 by omega)
 omega

theorem C3m (A B:Option Addr) (n m c d:Nat) (xs ys:List Int) (bs ds:List Nat) (w:World) (hx:Sl w A n c xs bs) (hy:Sl w B m d ys ds) (hcx:XN.Can xs) (hcy:XN.Can ys) (hn:n≤1048576) (hm:m≤1048576) :
  Calls Tryz.prog 316 #[.slice A n c,.slice B m d] w (A6t w 3 (dig (G_ xs+G_ ys).toNat)):=by
 obtain ⟨i0,hi,hz0,hz1,hz2⟩:=info_parts A5v
 have hlx:=A_ hx.1
 have hly:=A_ hy.1
 have HX:=A_ hx
 have HY:=A_ hy
 have CX:=A_ hcx
 have CY:=A_ hcy
 clear hx hy hcx hcy
 go_enter Tryz.func316,Tryz.ntmps316
 go_wp2_with fail
 go_loopw [5,6,7] (fun v y i wr=>∃ (k:Nat) (cy:Int) (out:List Int),k≤n+m+1∧0≤cy∧cy≤1∧i=.int .i64 k∧y=.int .i64 cy∧wr.ownsRow w.heap.size 3 1 v out.length (out.map (.int .i64))∧Hid (out.length=k)∧Hid (Lims out)∧Hid (G_ out+pw k*cy=G_ (xs.take k)+G_ (ys.take k))∧Hid ((k≤n∨k≤m)∨(cy=0∧XN.Can out))∧Below w.heap.size w wr) (fun v y i wr=>n+m+2 - (intOf i).toNat)
 case atStart=>exact ⟨0,0,[],Nat.zero_le _,by omega,by omega,rfl,rfl,World.ownsRow_made w #[] 0 (Nat.le_refl _) (Nat.zero_le _) rfl,rfl,Lims.nil,by simp[Hid,G_,A7h],Or.inl (Or.inl (Nat.zero_le _)),Below.go⟩
 case round =>
  obtain ⟨k,cy,out,hk,hcy0,hcy1,rfl,rfl,hown,hol,hlo,hv,hcan,hb⟩:=hrel
  have hol':out.length≤2097153:=by rw[hol.o];omega
  have C3:=A_ (show out.length+1≤maxLen by unfold maxLen;omega)
  have C4:=A_ (show (out.length+1)*8≤140737488355328 by omega)
  have C5:=A_ hb.size
  have hlen1:=A_ (show ∀ x:Int,(out++[x]).length=k+1 by intro x;rw[List.length_append,hol.o];rfl)
  have HK:=A_ hk
  have hkb:(k:Int)≤2097153:=by omega
  clear hol' hk
  rcases Nat.lt_or_ge k n with hkn | hkn
  ·have hki:(k:Int)<n:=by omega
   obtain ⟨b1,o1,x,rfl,hbl1,hx1,_,hc1⟩:=Sl.getInt (Sl.below HX.o hb) hkn
   have hxl:=CX.o.1.get hx1
   have SX:=A_ (Y_ hx1)
   have hx0':=hxl.1;have hx1':=hxl.2
   clear hx1 hxl
   have rk:=A_ (show k+1≤n+m+1 by omega)
   have rm:=A_ (show n+m+2 - (k+1)<n+m+2 - k by omega)
   rcases Nat.lt_or_ge k m with hkm | hkm
   ·have hki2:(k:Int)<m:=by omega
    obtain ⟨b2,o2,y,rfl,hbl2,hy1,_,hc2⟩:=Sl.getInt (Sl.below HY.o hb) hkm
    have hyl:=CY.o.1.get hy1
    have SY:=A_ (Y_ hy1)
    have hy0':=hyl.1;have hy1':=hyl.2
    clear hy1 hyl
    have E0:=A_ (show 0≤(cy+x+y) / 1000000000∧(cy+x+y) / 1000000000≤1 by omega)
    have L:=A_ (show Lims (out++[(cy+x+y) % 1000000000]) from hlo.o.snoc (by omega) (by omega))
    have r:=A_ (show G_ (out++[(cy+x+y) % 1000000000])+pw (k+1)*((cy+x+y) / 1000000000)=G_ (xs.take (k+1))+G_ (ys.take (k+1)) by
     rw[A6h hol.o,SX.o,SY.o]
     have:=hv.o
     grind)
    have rc:Hid ((k+1≤n∨k+1≤m)∨((cy+x+y) / 1000000000=0∧XN.Can (out++[(cy+x+y) % 1000000000]))):=Or.inl (Or.inl hkn)
    clear hn hm
    go_wp2_with (first | (at_builtin;refine wpList_append_own _ rfl _ _ 31 rfl w.heap.size 3 i0 (.int .i64 0) 1 8 Tryz.underlying31 hi hz0 hz1 hz2 rfl (by decide) _ _ _ rfl (hown.alloc _) ⟨wr.heap.size,0,none⟩ 1 1 [.int .i64 ((cy+x+y) % 1000000000)] rfl rfl (cell_one_new _ _ _) (fun x hx=>by simp at hx;subst hx;rfl) C3.o C4.o (A0p C5.o _) ?_;intro v' w3 hown' hgrow' hnil'))
    have hb':=A1s hb hown hgrow'
    first
    | exact ⟨⟨k+1,(cy+x+y) / 1000000000,out++[(cy+x+y) % 1000000000],rk.o,E0.o.1,E0.o.2,rfl,rfl,A1a hown',hlen1.o _,L,r,rc,hb'⟩,rm.o⟩
    | exact ⟨by (repeat apply Exists.intro);exact ⟨⟨k+1,(cy+x+y) / 1000000000,out++[(cy+x+y) % 1000000000],rk.o,E0.o.1,E0.o.2,rfl,rfl,A1a hown',hlen1.o _,L,r,rc,hb'⟩,rfl⟩,rm.o⟩
   ·have hki2:¬ ((k:Int)<m):=by omega
    have SY:=A_ (B2r (k:=k) (by rw[hly.o];exact hkm))
    have E0:=A_ (show 0≤(cy+x) / 1000000000∧(cy+x) / 1000000000≤1 by omega)
    have L:=A_ (show Lims (out++[(cy+x) % 1000000000]) from hlo.o.snoc (by omega) (by omega))
    have r:=A_ (show G_ (out++[(cy+x) % 1000000000])+pw (k+1)*((cy+x) / 1000000000)=G_ (xs.take (k+1))+G_ (ys.take (k+1)) by
     rw[A6h hol.o,SX.o,SY.o]
     have:=hv.o
     grind)
    have rc:Hid ((k+1≤n∨k+1≤m)∨((cy+x) / 1000000000=0∧XN.Can (out++[(cy+x) % 1000000000]))):=Or.inl (Or.inl hkn)
    clear hn hm hkm
    go_wp2_with (first | (at_builtin;refine wpList_append_own _ rfl _ _ 31 rfl w.heap.size 3 i0 (.int .i64 0) 1 8 Tryz.underlying31 hi hz0 hz1 hz2 rfl (by decide) _ _ _ rfl (hown.alloc _) ⟨wr.heap.size,0,none⟩ 1 1 [.int .i64 ((cy+x) % 1000000000)] rfl rfl (cell_one_new _ _ _) (fun x hx=>by simp at hx;subst hx;rfl) C3.o C4.o (A0p C5.o _) ?_;intro v' w3 hown' hgrow' hnil'))
    have hb':=A1s hb hown hgrow'
    first
    | exact ⟨⟨k+1,(cy+x) / 1000000000,out++[(cy+x) % 1000000000],rk.o,E0.o.1,E0.o.2,rfl,rfl,A1a hown',hlen1.o _,L,r,rc,hb'⟩,rm.o⟩
    | exact ⟨by (repeat apply Exists.intro);exact ⟨⟨k+1,(cy+x) / 1000000000,out++[(cy+x) % 1000000000],rk.o,E0.o.1,E0.o.2,rfl,rfl,A1a hown',hlen1.o _,L,r,rc,hb'⟩,rfl⟩,rm.o⟩
  have hki:¬ ((k:Int)<n):=by omega
  have SX:=A_ (B2r (k:=k) (by rw[hlx.o];exact hkn))
  rcases Nat.lt_or_ge k m with hkm | hkm
  ·have hki2:(k:Int)<m:=by omega
   have rk:=A_ (show k+1≤n+m+1 by omega)
   have rm:=A_ (show n+m+2 - (k+1)<n+m+2 - k by omega)
   obtain ⟨b2,o2,y,rfl,hbl2,hy1,_,hc2⟩:=Sl.getInt (Sl.below HY.o hb) hkm
   have hyl:=CY.o.1.get hy1
   have SY:=A_ (Y_ hy1)
   have hy0':=hyl.1;have hy1':=hyl.2
   clear hy1 hyl
   have E0:=A_ (show 0≤(cy+y) / 1000000000∧(cy+y) / 1000000000≤1 by omega)
   have L:=A_ (show Lims (out++[(cy+y) % 1000000000]) from hlo.o.snoc (by omega) (by omega))
   have r:=A_ (show G_ (out++[(cy+y) % 1000000000])+pw (k+1)*((cy+y) / 1000000000)=G_ (xs.take (k+1))+G_ (ys.take (k+1)) by
    rw[A6h hol.o,SX.o,SY.o]
    have:=hv.o
    grind)
   have rc:Hid ((k+1≤n∨k+1≤m)∨((cy+y) / 1000000000=0∧XN.Can (out++[(cy+y) % 1000000000]))):=Or.inl (Or.inr hkm)
   clear hn hm hkn
   go_wp2_with (first | (at_builtin;refine wpList_append_own _ rfl _ _ 31 rfl w.heap.size 3 i0 (.int .i64 0) 1 8 Tryz.underlying31 hi hz0 hz1 hz2 rfl (by decide) _ _ _ rfl (hown.alloc _) ⟨wr.heap.size,0,none⟩ 1 1 [.int .i64 ((cy+y) % 1000000000)] rfl rfl (cell_one_new _ _ _) (fun x hx=>by simp at hx;subst hx;rfl) C3.o C4.o (A0p C5.o _) ?_;intro v' w3 hown' hgrow' hnil'))
   have hb':=A1s hb hown hgrow'
   first
   | exact ⟨⟨k+1,(cy+y) / 1000000000,out++[(cy+y) % 1000000000],rk.o,E0.o.1,E0.o.2,rfl,rfl,A1a hown',hlen1.o _,L,r,rc,hb'⟩,rm.o⟩
   | exact ⟨by (repeat apply Exists.intro);exact ⟨⟨k+1,(cy+y) / 1000000000,out++[(cy+y) % 1000000000],rk.o,E0.o.1,E0.o.2,rfl,rfl,A1a hown',hlen1.o _,L,r,rc,hb'⟩,rfl⟩,rm.o⟩
  have hki2:¬ ((k:Int)<m):=by omega
  rcases Int.lt_or_le 0 cy with hc | hc
  ·obtain rfl:cy=1:=by omega
   have hkk:=A_ (show k=n∨k=m by rcases hcan.o with (h | h) | h<;>omega)
   have SY:=A_ (B2r (k:=k) (by rw[hly.o];exact hkm))
   have rk:=A_ (show k+1≤n+m+1 by rcases hkk.o with h | h<;>omega)
   have rm:=A_ (show n+m+2 - (k+1)<n+m+2 - k by have:=rk.o;omega)
   have L:=A_ (show Lims (out++[1]) from hlo.o.snoc (by omega) (by omega))
   have r:=A_ (show G_ (out++[1])+pw (k+1)*0=G_ (xs.take (k+1))+G_ (ys.take (k+1)) by
    have:=A6h hol.o 1
    rw[show (1:Int) % 1000000000=1 from rfl,show (1:Int) / 1000000000=0 from rfl] at this
    rw[this,SX.o,SY.o]
    have:=hv.o
    grind)
   have rc:Hid ((k+1≤n∨k+1≤m)∨((0:Int)=0∧XN.Can (out++[1]))):=Or.inr ⟨rfl,Can.snoc hlo.o (by omega) (by omega)⟩
   clear hn hm hkn hkm
   go_wp2_with (first | (at_builtin;refine wpList_append_own _ rfl _ _ 31 rfl w.heap.size 3 i0 (.int .i64 0) 1 8 Tryz.underlying31 hi hz0 hz1 hz2 rfl (by decide) _ _ _ rfl (hown.alloc _) ⟨wr.heap.size,0,none⟩ 1 1 [.int .i64 (1)] rfl rfl (cell_one_new _ _ _) (fun x hx=>by simp at hx;subst hx;rfl) C3.o C4.o (A0p C5.o _) ?_;intro v' w3 hown' hgrow' hnil'))
   have hb':=A1s hb hown hgrow'
   first
   | exact ⟨⟨k+1,0,out++[1],rk.o,Int.le_refl 0,Int.zero_le_ofNat 1,rfl,rfl,A1a hown',hlen1.o _,L,r,rc,hb'⟩,rm.o⟩
   | exact ⟨by (repeat apply Exists.intro);exact ⟨⟨k+1,0,out++[1],rk.o,Int.le_refl 0,Int.zero_le_ofNat 1,rfl,rfl,A1a hown',hlen1.o _,L,r,rc,hb'⟩,rfl⟩,rm.o⟩
  obtain rfl:cy=0:=by omega
  have fin:=A_ (show out=dig (G_ xs+G_ ys).toNat by
   have h:=hv.o
   rw[List.take_of_length_le (by rw[hlx.o];exact hkn),List.take_of_length_le (by rw[hly.o];exact hkm),Int.mul_zero,Int.add_zero] at h
   have h1:=T_ CX.o.1
   have h2:=T_ CY.o.1
   have hC:XN.Can out:=by
    rcases hcan.o with h' | ⟨_,h'⟩
    ·refine D3q CX.o CY.o hlo.o ?_ h
     rw[hlx.o,hly.o,hol.o];omega
    exact h'
   exact hC.of_val (by omega))
  clear hn hm
  go_wp2
  go_ret
  rw[← fin.o]
  exact ⟨_,rfl,hown,hb⟩

def C8l (w:World) (t:TypeId) (xs:List Int) (e:Ending) (w':World):Prop :=
 ∃ g c,e=.returned (.slice (some ⟨g,0,none⟩) xs.length c)∧w'.ownsRow w.heap.size t 1 (.slice (some ⟨g,0,none⟩) xs.length c) xs.length (xs.map (.int .i64))∧Below w.heap.size w w'

theorem B3e (A B:Option Addr) (n m c d:Nat) (xs ys:List Int) (bs ds:List Nat) (w:World) (hx:Sl w A n c xs bs) (hy:Sl w B m d ys ds) (hcx:XN.Can xs) (hcy:XN.Can ys) (hn:n≤1048576) (hle:G_ ys≤G_ xs) :
  Calls Tryz.prog 252 #[.slice A n c,.slice B m d] w (C8l w 3 (dig (G_ xs - G_ ys).toNat)):=by
 obtain ⟨i0,hi,hz0,hz1,hz2⟩:=info_parts A5v
 have hlx:=A_ hx.1
 have hly:=A_ hy.1
 have HX:=A_ hx
 have HY:=A_ hy
 have CX:=A_ hcx
 have CY:=A_ hcy
 have HLE:=A_ hle
 clear hx hy hcx hcy hle
 go_enter Tryz.func252,Tryz.ntmps252
 go_wp2_with fail
 go_loopw [5,6,12] (fun v y i wr=>∃ (k:Nat) (bw:Int) (out:List Int),k≤n∧0≤bw∧bw≤1∧i=.int .i64 k∧y=.int .i64 bw∧wr.ownsRow w.heap.size 3 1 v out.length (out.map (.int .i64))∧v≠.slice none 0 0∧Hid (out.length=k)∧Hid (Lims out)∧Hid (G_ out=G_ (xs.take k) - G_ (ys.take k)+pw k*bw)∧Below w.heap.size w wr) (fun v y i wr=>n - (intOf i).toNat)
 case atStart=>exact ⟨0,0,[],Nat.zero_le _,by omega,by omega,rfl,rfl,World.ownsRow_made w #[] 0 (Nat.le_refl _) (Nat.zero_le _) rfl,(fun h=>by cases h),rfl,Lims.nil,by simp[Hid,G_],Below.go⟩
 case round =>
  obtain ⟨k,bw,out,hk,hbw0,hbw1,rfl,rfl,hown,hvn,hol,hlo,hv,hb⟩:=hrel
  rcases Nat.lt_or_ge k n with hkn | hkn
  ·have hki:(k:Int)<n:=by omega
   obtain ⟨b1,o1,x,rfl,hbl1,hx1,_,hc1⟩:=Sl.getInt (Sl.below HX.o hb) hkn
   have hxl:=CX.o.1.get hx1
   have SX:=A_ (Y_ hx1)
   have hx0:=hxl.1;have hx1':=hxl.2
   clear hx1 hxl
   have hol':out.length≤1048576:=by rw[hol.o];omega
   have C3:=A_ (show out.length+1≤maxLen by unfold maxLen;omega)
   have C4:=A_ (show (out.length+1)*8≤140737488355328 by omega)
   have C5:=A_ hb.size
   have hkb:(k:Int)≤1048576:=by omega
   have hk1:k+1≤n:=hkn
   have hlen1:=A_ (show ∀ x:Int,(out++[x]).length=k+1 by intro x;rw[List.length_append,hol.o];rfl)
   clear hol'
   rcases Nat.lt_or_ge k m with hkm | hkm
   ·have hki2:(k:Int)<m:=by omega
    obtain ⟨b2,o2,y,rfl,hbl2,hy1,_,hc2⟩:=Sl.getInt (Sl.below HY.o hb) hkm
    have hyl:=CY.o.1.get hy1
    have SY:=A_ (Y_ hy1)
    have hy0':=hyl.1;have hy1':=hyl.2
    clear hy1 hyl
    rcases Int.lt_or_le (x - bw - y) 0 with hneg | hneg
    ·have L:=A_ (show Lims (out++[x - bw - y+1000000000]) from hlo.o.snoc (by omega) (by omega))
     have r:=A_ (show G_ (out++[x - bw - y+1000000000])=G_ (xs.take (k+1)) - G_ (ys.take (k+1))+pw (k+1)*1 by
      rw[A4o,hol.o,hv.o,SX.o,SY.o,A1l];grind)
     clear hn
     go_wp2_with (first | (at_builtin;refine wpList_append_own _ rfl _ _ 31 rfl w.heap.size 3 i0 (.int .i64 0) 1 8 Tryz.underlying31 hi hz0 hz1 hz2 rfl (by decide) _ _ _ rfl (hown.alloc _) ⟨wr.heap.size,0,none⟩ 1 1 [.int .i64 (x - bw - y+1000000000)] rfl rfl (cell_one_new _ _ _) (fun x hx=>by simp at hx;subst hx;rfl) C3.o C4.o (A0p C5.o _) ?_;intro v' w3 hown' hgrow' hnil'))
     have hb':=A1s hb hown hgrow'
     first
     | exact ⟨⟨k+1,1,out++[x - bw - y+1000000000],hk1,Int.zero_le_ofNat 1,Int.le_refl 1,rfl,rfl,A1a hown',(fun h=>absurd (hnil'.1 h).2 (by decide)),hlen1.o _,L,r,hb'⟩,A0a hkn⟩
     | exact ⟨by (repeat apply Exists.intro);exact ⟨⟨k+1,1,out++[x - bw - y+1000000000],hk1,Int.zero_le_ofNat 1,Int.le_refl 1,rfl,rfl,A1a hown',(fun h=>absurd (hnil'.1 h).2 (by decide)),hlen1.o _,L,r,hb'⟩,rfl⟩,A0a hkn⟩
    ·have hneg':¬ (x - bw - y<0):=by omega
     have L:=A_ (show Lims (out++[x - bw - y]) from hlo.o.snoc (by omega) (by omega))
     have r:=A_ (show G_ (out++[x - bw - y])=G_ (xs.take (k+1)) - G_ (ys.take (k+1))+pw (k+1)*0 by
      rw[A4o,hol.o,hv.o,SX.o,SY.o,A1l];grind)
     clear hn
     go_wp2_with (first | (at_builtin;refine wpList_append_own _ rfl _ _ 31 rfl w.heap.size 3 i0 (.int .i64 0) 1 8 Tryz.underlying31 hi hz0 hz1 hz2 rfl (by decide) _ _ _ rfl (hown.alloc _) ⟨wr.heap.size,0,none⟩ 1 1 [.int .i64 (x - bw - y)] rfl rfl (cell_one_new _ _ _) (fun x hx=>by simp at hx;subst hx;rfl) C3.o C4.o (A0p C5.o _) ?_;intro v' w3 hown' hgrow' hnil'))
     have hb':=A1s hb hown hgrow'
     first
     | exact ⟨⟨k+1,0,out++[x - bw - y],hk1,Int.le_refl 0,Int.zero_le_ofNat 1,rfl,rfl,A1a hown',(fun h=>absurd (hnil'.1 h).2 (by decide)),hlen1.o _,L,r,hb'⟩,A0a hkn⟩
     | exact ⟨by (repeat apply Exists.intro);exact ⟨⟨k+1,0,out++[x - bw - y],hk1,Int.le_refl 0,Int.zero_le_ofNat 1,rfl,rfl,A1a hown',(fun h=>absurd (hnil'.1 h).2 (by decide)),hlen1.o _,L,r,hb'⟩,rfl⟩,A0a hkn⟩
   ·have hki2:¬ ((k:Int)<m):=by omega
    have SY:=A_ (B2r (k:=k) (by rw[hly.o];exact hkm))
    rcases Int.lt_or_le (x - bw) 0 with hneg | hneg
    ·have L:=A_ (show Lims (out++[x - bw+1000000000]) from hlo.o.snoc (by omega) (by omega))
     have r:=A_ (show G_ (out++[x - bw+1000000000])=G_ (xs.take (k+1)) - G_ (ys.take (k+1))+pw (k+1)*1 by
      rw[A4o,hol.o,hv.o,SX.o,SY.o,A1l];grind)
     clear hn hkm
     go_wp2_with (first | (at_builtin;refine wpList_append_own _ rfl _ _ 31 rfl w.heap.size 3 i0 (.int .i64 0) 1 8 Tryz.underlying31 hi hz0 hz1 hz2 rfl (by decide) _ _ _ rfl (hown.alloc _) ⟨wr.heap.size,0,none⟩ 1 1 [.int .i64 (x - bw+1000000000)] rfl rfl (cell_one_new _ _ _) (fun x hx=>by simp at hx;subst hx;rfl) C3.o C4.o (A0p C5.o _) ?_;intro v' w3 hown' hgrow' hnil'))
     have hb':=A1s hb hown hgrow'
     first
     | exact ⟨⟨k+1,1,out++[x - bw+1000000000],hk1,Int.zero_le_ofNat 1,Int.le_refl 1,rfl,rfl,A1a hown',(fun h=>absurd (hnil'.1 h).2 (by decide)),hlen1.o _,L,r,hb'⟩,A0a hkn⟩
     | exact ⟨by (repeat apply Exists.intro);exact ⟨⟨k+1,1,out++[x - bw+1000000000],hk1,Int.zero_le_ofNat 1,Int.le_refl 1,rfl,rfl,A1a hown',(fun h=>absurd (hnil'.1 h).2 (by decide)),hlen1.o _,L,r,hb'⟩,rfl⟩,A0a hkn⟩
    ·have hneg':¬ (x - bw<0):=by omega
     have L:=A_ (show Lims (out++[x - bw]) from hlo.o.snoc (by omega) (by omega))
     have r:=A_ (show G_ (out++[x - bw])=G_ (xs.take (k+1)) - G_ (ys.take (k+1))+pw (k+1)*0 by
      rw[A4o,hol.o,hv.o,SX.o,SY.o,A1l];grind)
     clear hn hkm
     go_wp2_with (first | (at_builtin;refine wpList_append_own _ rfl _ _ 31 rfl w.heap.size 3 i0 (.int .i64 0) 1 8 Tryz.underlying31 hi hz0 hz1 hz2 rfl (by decide) _ _ _ rfl (hown.alloc _) ⟨wr.heap.size,0,none⟩ 1 1 [.int .i64 (x - bw)] rfl rfl (cell_one_new _ _ _) (fun x hx=>by simp at hx;subst hx;rfl) C3.o C4.o (A0p C5.o _) ?_;intro v' w3 hown' hgrow' hnil'))
     have hb':=A1s hb hown hgrow'
     first
     | exact ⟨⟨k+1,0,out++[x - bw],hk1,Int.le_refl 0,Int.zero_le_ofNat 1,rfl,rfl,A1a hown',(fun h=>absurd (hnil'.1 h).2 (by decide)),hlen1.o _,L,r,hb'⟩,A0a hkn⟩
     | exact ⟨by (repeat apply Exists.intro);exact ⟨⟨k+1,0,out++[x - bw],hk1,Int.le_refl 0,Int.zero_le_ofNat 1,rfl,rfl,A1a hown',(fun h=>absurd (hnil'.1 h).2 (by decide)),hlen1.o _,L,r,hb'⟩,rfl⟩,A0a hkn⟩
  obtain rfl:k=n:=by omega
  have ht:=A_ (show trim out=dig (G_ xs - G_ ys).toNat by
   have h1:=hv.o
   rw[List.take_of_length_le (Nat.le_of_eq hlx.o)] at h1
   have h3:ys.length≤k:=by
    rcases Nat.lt_or_ge xs.length ys.length with h | h
    ·have:=Can.lt_of_len CX.o.1 CY.o h;have:=HLE.o;omega
    rw[← hlx.o];exact h
   rw[List.take_of_length_le h3] at h1
   have h4:=A2r hlo.o
   rw[hol.o] at h4
   have h5:=HLE.o
   have hbw:bw=0:=by
    rcases Int.lt_or_le 0 bw with h | h
    ·have:bw=1:=by omega
     subst this;omega
    omega
   rw[hbw] at h1
   exact A6m hlo.o (by omega))
  have hki2:¬ ((k:Int)<k):=by omega
  have hI:=A_ (show ∀ x∈out,I64 x from hlo.o.i64)
  rcases B0i hown with ⟨e,_⟩ | ⟨g1,c1,rfl,_⟩
  ·exact absurd e hvn
  clear hkn hk
  go_wp2_with fail
  refine (A5s _ _ _ _ out _ hown hI.o).mono ?_
  rintro _ w3 ⟨rfl,hb3,hown3⟩
  have hb':Below w.heap.size w w3:=Below.go
  go_wp2
  go_ret
  rw[ht.o] at hown3 ⊢
  exact ⟨_,_,rfl,hown3,hb'⟩

theorem B6m (A B:Option Addr) (n m c d:Nat) (xs ys:List Int) (bs ds:List Nat) (w:World) (hx:Sl w A n c xs bs) (hy:Sl w B m d ys ds) (hcx:XN.Can xs) (hcy:XN.Can ys) (hn:n≤1048576) (hle:G_ ys≤G_ xs) :
  Calls Tryz.prog 252 #[.slice A n c,.slice B m d] w (A6t w 3 (dig (G_ xs - G_ ys).toNat)) :=
 (B3e A B n m c d xs ys bs ds w hx hy hcx hcy hn hle).mono fun _ _ ⟨_,_,he,ho,hb⟩=>⟨_,he,ho,hb⟩

theorem A2b (A B:Option Addr) (n m c d:Nat) (xs ys:List Int) (bs ds:List Nat) (w:World) (hx:Sl w A n c xs bs) (hy:Sl w B m d ys ds) (hcx:Lims xs) (hcy:Lims ys) (hn:n≤1048576) (hm:m≤1048576) :
  Calls Tryz.prog 253 #[.slice A n c,.slice B m d] w (A6t w 3 (dig (G_ xs*G_ ys).toNat)):=by
 obtain ⟨i0,hi,hz0,hz1,hz2⟩:=info_parts A5v
 have hlx:=A_ hx.1
 have hly:=A_ hy.1
 have HX:=A_ hx
 have HY:=A_ hy
 have CX:=A_ hcx
 have CY:=A_ hcy
 have b2:=A_ (show i0.bytes*(n+m)≤281474976710656 by rw[hz2];omega)
 have b3:=A_ (show n+m≤maxLen by unfold maxLen;omega)
 clear hx hy hcx hcy
 rcases Nat.eq_zero_or_pos n with hn0 | hn0
 ·subst hn0
  have e:=A_ (show dig (G_ xs*G_ ys).toNat=[] by rw[List.eq_nil_of_length_eq_zero hlx.o];simp[G_];rfl)
  go_enter Tryz.func253,Tryz.ntmps253
  go_wp2
  go_ret
  rw[e.o]
  exact ⟨_,rfl,World.ownsRow_nil _ _ _ _,Below.go⟩
 rcases Nat.eq_zero_or_pos m with hm0 | hm0
 ·subst hm0
  have e:=A_ (show dig (G_ xs*G_ ys).toNat=[] by rw[List.eq_nil_of_length_eq_zero hly.o];simp[G_];rfl)
  have hz:((n:Int)==0)=false:=by simp;omega
  go_enter Tryz.func253,Tryz.ntmps253
  go_wp2
  go_ret
  rw[e.o]
  exact ⟨_,rfl,World.ownsRow_nil _ _ _ _,Below.go⟩
 have hz:((n:Int)==0)=false:=by simp;omega
 have hzm:((m:Int)==0)=false:=by simp;omega
 go_enter Tryz.func253,Tryz.ntmps253
 go_wp2_with (at_make;(refine wpList_make_full _ rfl _ _ 31 rfl w.heap.size 3 i0 (.int .i64 0) 1 Tryz.underlying31 hi hz0 hz1 .i64 .i64 _ _ (n+m) rfl rfl rfl rfl b2.o b3.o (Nat.le_refl _) ?_);intro w1 hown1 hgrow1)
 rw[A7d] at hown1
 have hb1:=(Below.refl w.heap.size w).grown hgrow1 (Nat.le_refl _) (by intro k hk;cases hk)
 clear hgrow1 hz hzm hn0 hm0
 go_loopw [28] (fun i wr=>∃ (k:Nat) (zs:List Int),k≤n∧i=.int .i64 k∧wr.ownsRow w.heap.size 3 1 (.slice (some ⟨w.heap.size,0,none⟩) (n+m) (n+m)) (n+m) (zs.map (.int .i64))∧Hid (Lims zs)∧Hid (∀ j,k+m≤j→j<n+m→zs[j]?=some 0)∧Hid (G_ zs=G_ (xs.take k)*G_ ys)∧Below w.heap.size w wr) (fun i wr=>n - (intOf i).toNat)
 case atStart=>exact ⟨0,_,Nat.zero_le _,rfl,hown1,Lims.zeros _,fun j _ hj=>by rw[List.getElem?_replicate,if_pos hj],by show G_ _=G_ (xs.take 0)*G_ ys;rw[A7j,List.take_zero];simp[G_],hb1⟩
 case round =>
  obtain ⟨i,zs,hk,rfl,hown,hlz,hzz,hv,hb⟩:=hrel
  clear hown1 hb1 hi hz0 hz1 hz2
  obtain ⟨wo,rfl⟩:∃ wo:World,wo=wr:=⟨_,rfl⟩
  rcases Nat.lt_or_ge i n with hkn | hkn
  ·have hki:(i:Int)<n:=by omega
   obtain ⟨b1,o1,x,rfl,hb1,hx1,_,hc1⟩:=Sl.getInt HX.o hkn
   have hxl:=CX.o.get hx1
   have HX1:=A_ hx1
   have hx0:=hxl.1;have hx1':=hxl.2
   clear hxl hx1
   have hc1':=(hb.cell (p:=⟨b1,o1+i,none⟩) hb1).trans hc1
   have hOwnO:=A_ hown
   clear hown
   go_wp2_with fail
   go_loopw [8,35] (fun y j wr=>∃ (k:Nat) (cy:Int) (zs:List Int),k≤m∧0≤cy∧cy<1000000000∧j=.int .i64 k∧y=.int .i64 cy∧wr.ownsRow w.heap.size 3 1 (.slice (some ⟨w.heap.size,0,none⟩) (n+m) (n+m)) (n+m) (zs.map (.int .i64))∧Hid (Lims zs)∧Hid (∀ j,i+m≤j→j<n+m→zs[j]?=some 0)∧Hid (G_ zs+pw (i+k)*cy=G_ (xs.take i)*G_ ys+pw i*(x*G_ (ys.take k)))∧Below w.heap.size w wr) (fun y j wr=>m - (intOf j).toNat)
   case atStart=>exact ⟨0,0,zs,Nat.zero_le _,by omega,by omega,rfl,rfl,hOwnO.o,hlz,hzz,by show G_ zs+pw (i+0)*0=G_ (xs.take i)*G_ ys+pw i*(x*G_ (ys.take 0));rw[hv.o,List.take_zero];simp[G_],hb⟩
   case round =>
    obtain ⟨k,cy,us,hkm,hcy0,hcy1,rfl,rfl,hown,hlu,hzu,hvu,hbu⟩:=hrel
    clear hOwnO hlz hzz hv hb hc1 hb1 hc1'
    rcases Nat.lt_or_ge k m with hkl | hkl
    ·have hkj:(k:Int)<m:=by omega
     obtain ⟨b2,o2,y,rfl,hb2,hy1,_,hc2⟩:=Sl.getInt HY.o hkl
     have hyl:=CY.o.get hy1
     have HY1:=A_ hy1
     have hy0:=hyl.1;have hy1':=hyl.2
     clear hyl hy1
     have hc2':=(hbu.cell (p:=⟨b2,o2+k,none⟩) hb2).trans hc2
     obtain ⟨u,hu,hu0,hu1⟩:=hlu.o.num (j:=i+k) (by rw[A2v hown];omega)
     have HU:=A_ hu
     obtain ⟨hgl,hcu,hfu⟩:=A1k hown hu
     clear hu hc2 hb2
     obtain ⟨hp0,hp1⟩:=B4x hx0 hx1' hy0 hy1'
     have hkb:(k:Int)≤1048576:=by omega
     have hib:(i:Int)≤1048576:=by omega
     have hik:(i:Int)+k<n+m:=by omega
     have hk1:k+1≤m:=hkl
     have E0:=A_ (show 0≤(u+x*y+cy) / 1000000000 by omega)
     have E1:=A_ (show (u+x*y+cy) / 1000000000<1000000000 by omega)
     have L:=A_ (hlu.o.set (i+k) (u:=(u+x*y+cy) % 1000000000) (by omega) (by omega))
     have Z:=A_ (show ∀ j,i+m≤j→j<n+m→(us.set (i+k) ((u+x*y+cy) % 1000000000))[j]?=some 0 by
      intro j h1 h2;rw[List.getElem?_set_ne (by omega)];exact hzu.o j h1 h2)
     have r:=A_ (show G_ (us.set (i+k) ((u+x*y+cy) % 1000000000))+pw (i+(k+1))*((u+x*y+cy) / 1000000000)=G_ (xs.take i)*G_ ys+pw i*(x*G_ (ys.take (k+1))) by
      rw[show i+(k+1)=i+k+1 from rfl,B0j HU.o hvu.o,Y_ HY1.o,A7a]
      grind)
     have R:=A_ (row_set hown (i+k) ((u+x*y+cy) % 1000000000))
     have hb':=A_ (hbu.setCell (p:=⟨w.heap.size,i+k,none⟩) (Nat.le_refl _) (.int .i64 ((u+x*y+cy) % 1000000000)))
     go_wp2_with fail
     first
     | exact ⟨⟨k+1,(u+x*y+cy) / 1000000000,_,hk1,E0.o,E1.o,rfl,rfl,R.o,L.o,Z.o,r.o,hb'.o⟩,A0a hkl⟩
     | exact ⟨by (repeat apply Exists.intro);exact ⟨⟨k+1,(u+x*y+cy) / 1000000000,_,hk1,E0.o,E1.o,rfl,rfl,R.o,L.o,Z.o,r.o,hb'.o⟩,rfl⟩,A0a hkl⟩
    ·have hke:k=m:=by omega
     subst hke
     have hkj:¬ ((k:Int)<k):=by omega
     have HU:=A_ (hzu.o (i+k) (Nat.le_refl _) (by omega))
     obtain ⟨hgl,hcu,hfu⟩:=A1k hown HU.o
     have hkb:(k:Int)≤1048576:=by omega
     have hib:(i:Int)≤1048576:=by omega
     have hik:(i:Int)+k<n+k:=by omega
     have hk1:i+1≤n:=hkn
     have L:=A_ (hlu.o.set (i+k) (u:=cy) hcy0 hcy1)
     have Z:=A_ (show ∀ j,i+1+k≤j→j<n+k→(us.set (i+k) cy)[j]?=some 0 by
      intro j h1 h2;rw[List.getElem?_set_ne (by omega)];exact hzu.o j (by omega) h2)
     have r:=A_ (show G_ (us.set (i+k) cy)=G_ (xs.take (i+1))*G_ ys by
      have h1:=hvu.o
      rw[List.take_of_length_le (Nat.le_of_eq hly.o)] at h1
      rw[B0t HU.o,Y_ HX1.o]
      grind)
     have R:=A_ (row_set hown (i+k) cy)
     have hb':=A_ (hbu.setCell (p:=⟨w.heap.size,i+k,none⟩) (Nat.le_refl _) (.int .i64 cy))
     clear hkl
     go_wp2_with fail
     first
     | exact ⟨⟨i+1,_,hk1,rfl,R.o,L.o,Z.o,r.o,hb'.o⟩,A0a hkn⟩
     | exact ⟨by (repeat apply Exists.intro);exact ⟨⟨i+1,_,hk1,rfl,R.o,L.o,Z.o,r.o,hb'.o⟩,rfl⟩,A0a hkn⟩
  have hke:i=n:=by omega
  subst hke
  have ht:=A_ (show trim zs=dig (G_ xs*G_ ys).toNat by
   have h1:=hv.o
   rw[List.take_of_length_le (Nat.le_of_eq hlx.o)] at h1
   have h2:=Int.mul_nonneg (T_ CX.o) (T_ CY.o)
   exact A6m hlz.o (by omega))
  have hki2:¬ ((i:Int)<i):=by omega
  clear hkn hk
  go_wp2_with fail
  refine (A5s _ _ _ _ zs _ hown hlz.o.i64).mono ?_
  rintro _ w3 ⟨rfl,hb3,hown3⟩
  have hb':Below w.heap.size w w3:=Below.go
  go_wp2
  go_ret
  rw[ht.o] at hown3 ⊢
  exact ⟨_,rfl,hown3,hb'⟩

theorem C0j (A:Option Addr) (n c:Nat) (xs:List Int) (bs:List Nat) (d:Int) (w:World) (hx:Sl w A n c xs bs) (hcx:Lims xs) (hd0:0<d) (hd1:d<1000000000) (hn:n≤1048576) :
  Calls Tryz.prog 249 #[.slice A n c,.int .i64 d] w (B6g w (dig (G_ xs / d).toNat) (G_ xs % d)):=by
 obtain ⟨i0,hi,hz0,hz1,hz2⟩:=info_parts A5v
 have hlx:=A_ hx.1
 have HX:=A_ hx
 have CX:=A_ hcx
 have b2:=A_ (show i0.bytes*n≤281474976710656 by rw[hz2];omega)
 have b3:=A_ (show n≤maxLen by unfold maxLen;omega)
 clear hx hcx
 go_enter Tryz.func249,Tryz.ntmps249
 go_wp2_with (at_make;(refine wpList_make_full _ rfl _ _ 31 rfl w.heap.size 3 i0 (.int .i64 0) 1 Tryz.underlying31 hi hz0 hz1 .i64 .i64 _ _ n rfl rfl rfl rfl b2.o b3.o (Nat.le_refl _) ?_);intro w1 hown1 hgrow1)
 rw[A7d] at hown1
 have hb1:=(Below.refl w.heap.size w).grown hgrow1 (Nat.le_refl _) (by intro k hk;cases hk)
 clear hgrow1
 go_loopw [7,8] (fun r i wr=>∃ (K:Nat) (q:Int) (zs:List Int),K≤n∧i=.int .i64 ((K:Int) - 1)∧r=.int .i64 q∧0≤q∧q<d∧wr.ownsRow w.heap.size 3 1 (.slice (some ⟨w.heap.size,0,none⟩) n n) n (zs.map (.int .i64))∧Hid (Lims zs)∧Hid (G_ (zs.drop K)*d+q=G_ (xs.drop K))∧Below w.heap.size w wr) (fun r i wr=>(intOf i+1).toNat)
 case atStart =>
  refine ⟨n,0,_,Nat.le_refl _,rfl,rfl,Int.le_refl _,hd0,hown1,Lims.zeros _,?_,hb1⟩
  show G_ ((List.replicate n (0:Int)).drop n)*d+0=G_ (xs.drop n)
  rw[List.drop_eq_nil_of_le (by simp),List.drop_eq_nil_of_le (Nat.le_of_eq hlx.o)];simp[G_]
 case round =>
  obtain ⟨K,q,zs,hK,rfl,rfl,hq0,hq1,hown,hlz,hv,hb⟩:=hrel
  clear hown1 hb1 hi hz0 hz1 hz2
  rcases Nat.eq_zero_or_pos K with h0 | h0
  ·subst h0
   have e:=A_ (show dig (G_ xs / d).toNat=trim zs∧G_ xs % d=q by
    have h1:=hv.o
    rw[List.drop_zero,List.drop_zero] at h1
    obtain ⟨e1,e2⟩:=C2j hd0 h1 hq0 hq1
    refine ⟨?_,e2⟩
    rw[e1];exact (A6m hlz.o (Int.toNat_of_nonneg (T_ hlz.o)).symm).symm)
   have hneg:¬ ((0:Int)≤((0:Nat):Int) - 1):=by omega
   go_wp2_with fail
   refine (A5s _ _ _ _ zs _ hown hlz.o.i64).mono ?_
   rintro _ w3 ⟨rfl,hb3,hown3⟩
   have hb':Below w.heap.size w w3:=Below.go
   go_wp2
   go_ret2
   rw[e.o.1,e.o.2]
   exact ⟨_,rfl,hown3,hb'⟩
  ·obtain ⟨j,rfl⟩:∃ j,K=j+1:=⟨K - 1,by omega⟩
   have ej:(((j+1:Nat):Int) - 1)=j:=by omega
   rw[ej]
   have hjn:j<n:=hK
   obtain ⟨b1,o1,x,rfl,hb1,hx1,_,hc1⟩:=Sl.getInt HX.o hjn
   have hxl:=CX.o.get hx1
   have HX1:=A_ hx1
   have hx0:=hxl.1;have hx1':=hxl.2
   have hc1':=(hb.cell (p:=⟨b1,o1+j,none⟩) hb1).trans hc1
   have hb1':b1<wr.heap.size:=by have:=hb.size;omega
   clear hxl hx1 hc1 hb1
   obtain ⟨u,hu,hu0,hu1⟩:=hlz.o.num (j:=j) (by rw[A2v hown];omega)
   obtain ⟨hgl,hcu,hfu⟩:=A1k hown hu
   have HJ:=A_ (show j<zs.length by rw[A2v hown];omega)
   clear hu hu0 hu1
   have Q:=A_ (C7l hd0 hq0 hq1 hx0 hx1')
   have Q1:0≤q*1000000000+x:=by omega
   have r:=A_ (C2v HJ.o HX1.o hv.o)
   have L:=A_ (hlz.o.set j Q.o.1 Q.o.2.1)
   have R:=A_ (row_set hown j ((q*1000000000+x) / d))
   have hb':=A_ (hb.setCell (p:=⟨w.heap.size,j,none⟩) (Nat.le_refl _) (.int .i64 ((q*1000000000+x) / d)))
   have hjl:(j:Int)<n:=by omega
   have hnb:(n:Int)≤1048576:=by omega
   have hj1:j≤n:=by omega
   have hd1':1≤d:=by omega
   have rm:(intOf (Value.int .i64 ((j:Int) - 1))+1).toNat<(intOf (Value.int .i64 (j:Int))+1).toNat:=by simp[intOf]
   clear ej hK h0
   go_wp2_with fail
   first
   | exact ⟨⟨j,(q*1000000000+x) % d,_,hj1,rfl,rfl,Q.o.2.2.1,Q.o.2.2.2,R.o,L.o,r.o,hb'.o⟩,rm⟩
   | exact ⟨by (repeat apply Exists.intro);exact ⟨⟨j,(q*1000000000+x) % d,_,hj1,rfl,rfl,Q.o.2.2.1,Q.o.2.2.2,R.o,L.o,r.o,hb'.o⟩,rfl⟩,rm⟩

theorem B5c (w:World) (xs:List Int) (hm:xs.length≤maxLen):(w.alloc (.cells (xs.map (.int .i64)).toArray 3)).ownsRow w.heap.size 3 1 (.slice (some ⟨w.heap.size,0,none⟩) xs.length xs.length) xs.length (xs.map (.int .i64)) :=
 ⟨by simp,.inr ⟨w.heap.size,xs.length,_,rfl,Nat.le_refl _,heap_alloc_new w _,Nat.le_refl _,hm,by simp,by simp[← List.map_take]⟩⟩

theorem C9q {a:Int}:sgn a≤0↔a≤0:=by unfold sgn;split<;>(try split)<;>omega

theorem C0l (A B:Option Addr) (n m c d:Nat) (rs ys:List Int) (bs ds:List Nat) (w:World) (hx:Sl w A n c rs bs) (hy:Sl w B m d ys ds) (hcx:XN.Can rs) (hcy:XN.Can ys) (hm:m≤65536) (hy0:0<G_ ys) (hr:G_ rs<1000000000*G_ ys) :
  Calls Tryz.prog 251 #[.slice A n c,.slice B m d] w (A0j w (.int .i64 (G_ rs / G_ ys))):=by
 have HX:=A_ hx
 have HY:=A_ hy
 have CX:=A_ hcx
 have CY:=A_ hcy
 have HY0:=A_ hy0
 have hx0:=T_ hcx.1
 have S1:=A_ (show 0*G_ ys≤G_ rs by omega)
 have S2:=A_ (show G_ rs<(999999999+1)*G_ ys by omega)
 clear hx hy hcx hcy hy0 hr hx0
 go_enter Tryz.func251,Tryz.ntmps251
 go_wp2_with fail
 go_loopw [5,6] (fun a b wr=>∃ lo hi:Int,a=.int .i64 lo∧b=.int .i64 hi∧0≤lo∧lo≤hi∧hi≤999999999∧Hid (lo*G_ ys≤G_ rs)∧Hid (G_ rs<(hi+1)*G_ ys)∧Below w.heap.size w wr) (fun a b wr=>(intOf b - intOf a).toNat)
 case atStart=>exact ⟨0,999999999,rfl,rfl,by omega,by omega,by omega,S1,S2,Below.refl _ _⟩
 case round =>
  obtain ⟨lo,hi,rfl,rfl,h0,h1,h2,hl,hh,hb⟩:=hrel
  rcases Int.lt_or_le lo hi with h | h
  ·obtain ⟨q,hq⟩:∃ q,q=(lo+hi+1) / 2:=⟨_,rfl⟩
   have hq0:lo<q:=by omega
   have hq1:q≤hi:=by omega
   have hdl:=A_ (show (dig q.toNat).length≤65536 from Nat.le_trans (A3h (k:=1) (by rw[pw_vals.1];omega)) (by decide))
   have hq9:q≤9223372036854775807:=by omega
   have EV:=A_ (show G_ ys*G_ (dig q.toNat)=q*G_ ys by rw[A1n,Int.toNat_of_nonneg (by omega),Int.mul_comm])
   have EV2:=A_ (show G_ (dig (G_ ys*G_ (dig q.toNat)).toNat)=q*G_ ys by
    rw[A1n,EV.o,Int.toNat_of_nonneg (Int.mul_nonneg (by omega) (by have:=HY0.o;omega))])
   rcases Int.lt_or_le (G_ rs) (q*G_ ys) with hc | hc
   ·have SG:=A_ (show ¬ (sgn (q*G_ ys - G_ rs)≤0) by rw[C9q];omega)
    have r:=A_ (show G_ rs<(q - 1+1)*G_ ys by rw[Int.sub_add_cancel];exact hc)
    have rm:=A_ (show (intOf (Value.int .i64 (q - 1)) - intOf (.int .i64 lo)).toNat<(intOf (Value.int .i64 hi) - intOf (.int .i64 lo)).toNat by simp[intOf];omega)
    have r1:lo≤q - 1:=by omega
    have r2:q - 1≤999999999:=by omega
    clear hc
    subst hq
    go_wp2_with fail
    refine (A8o ((lo+hi+1) / 2) wr hq9).mono ?_
    rintro _ w1 ⟨A1,n1,c1,s1,rfl,hs1,ho1,hb1⟩
    have H1:=A_ hs1
    have hn1:=A_ (show n1≤65536 by rw[← hs1.1];exact hdl.o)
    clear hs1 ho1
    have hbb1:=Below.next hb hb1
    go_wp2_with fail
    refine (A2b B A1 m n1 d c1 ys _ _ _ w1 (Sl.below HY.o hbb1) H1.o CY.o.1 (W_ _).1 (Nat.le_trans hm (by decide)) (Nat.le_trans hn1.o (by decide))).mono ?_
    rintro _ w2 ⟨v2,rfl,hown2,hb2⟩
    obtain ⟨A2,c2,rfl⟩:=B7h hown2
    obtain ⟨s2,hs2⟩:=A5a hown2 (W_ _).1.i64
    have H2:=A_ hs2
    clear hs2 hown2
    have hbb2:=Below.next hbb1 hb2
    go_wp2_with fail
    have C:=A4d A2 A _ n c2 c _ rs _ _ w2 H2.o (Sl.below HX.o hbb2) (W_ _) CX.o
    rw[EV2.o] at C
    refine C.mono ?_
    clear C
    rintro _ w3 ⟨rfl,hb3⟩
    have hbb3:=Below.next hbb2 hb3
    have SG':=SG.o
    generalize (sgn ((lo+hi+1) / 2*G_ ys - G_ rs))=sg at *
    clear hb hb1 hb2 hb3 hbb1 hbb2 SG H1 H2
    go_wp2_with fail
    first
    | exact ⟨⟨lo,(lo+hi+1) / 2 - 1,rfl,rfl,h0,r1,r2,hl,r,hbb3⟩,rm.o⟩
    | exact ⟨by (repeat apply Exists.intro);exact ⟨⟨lo,(lo+hi+1) / 2 - 1,rfl,rfl,h0,r1,r2,hl,r,hbb3⟩,rfl⟩,rm.o⟩
   ·have SG:=A_ (show sgn (q*G_ ys - G_ rs)≤0 by rw[C9q];omega)
    have r:=A_ (show q*G_ ys≤G_ rs from hc)
    have rm:=A_ (show (intOf (Value.int .i64 hi) - intOf (.int .i64 q)).toNat<(intOf (Value.int .i64 hi) - intOf (.int .i64 lo)).toNat by simp[intOf];omega)
    have r1:0≤q:=by omega
    clear hc
    subst hq
    go_wp2_with fail
    refine (A8o ((lo+hi+1) / 2) wr hq9).mono ?_
    rintro _ w1 ⟨A1,n1,c1,s1,rfl,hs1,ho1,hb1⟩
    have H1:=A_ hs1
    have hn1:=A_ (show n1≤65536 by rw[← hs1.1];exact hdl.o)
    clear hs1 ho1
    have hbb1:=Below.next hb hb1
    go_wp2_with fail
    refine (A2b B A1 m n1 d c1 ys _ _ _ w1 (Sl.below HY.o hbb1) H1.o CY.o.1 (W_ _).1 (Nat.le_trans hm (by decide)) (Nat.le_trans hn1.o (by decide))).mono ?_
    rintro _ w2 ⟨v2,rfl,hown2,hb2⟩
    obtain ⟨A2,c2,rfl⟩:=B7h hown2
    obtain ⟨s2,hs2⟩:=A5a hown2 (W_ _).1.i64
    have H2:=A_ hs2
    clear hs2 hown2
    have hbb2:=Below.next hbb1 hb2
    go_wp2_with fail
    have C:=A4d A2 A _ n c2 c _ rs _ _ w2 H2.o (Sl.below HX.o hbb2) (W_ _) CX.o
    rw[EV2.o] at C
    refine C.mono ?_
    clear C
    rintro _ w3 ⟨rfl,hb3⟩
    have hbb3:=Below.next hbb2 hb3
    have SG':=SG.o
    generalize (sgn ((lo+hi+1) / 2*G_ ys - G_ rs))=sg at *
    clear hb hb1 hb2 hb3 hbb1 hbb2 SG H1 H2
    go_wp2_with fail
    first
    | exact ⟨⟨(lo+hi+1) / 2,hi,rfl,rfl,r1,hq1,h2,r,hh,hbb3⟩,rm.o⟩
    | exact ⟨by (repeat apply Exists.intro);exact ⟨⟨(lo+hi+1) / 2,hi,rfl,rfl,r1,hq1,h2,r,hh,hbb3⟩,rfl⟩,rm.o⟩
  obtain rfl:lo=hi:=by omega
  have e:=A_ (show lo=G_ rs / G_ ys by
   have h3:=HY0.o
   have h4:=hl.o
   have h5:=hh.o
   symm
   refine (Int.ediv_eq_iff_of_pos h3).2 ⟨h4,?_⟩
   rw[Int.add_mul,Int.one_mul] at h5
   exact h5)
  have h':¬ (lo<lo):=by omega
  go_wp2
  go_ret
  exact ⟨A1d e.o,hb⟩

theorem C0m (a b:Int) (w:World) (ha:0≤a) (hb:0≤b) (ha1:a≤9223372036854775807) (hb1:b≤9223372036854775807) :
  Calls Tryz.prog 248 #[.int .i64 a,.int .i64 b] w (A6t w 3 (dig (Int.gcd a b))):=by
 go_enter Tryz.func248,Tryz.ntmps248
 go_wp2_with fail
 go_loopg [0,1] b.toNat (fun g s0 s1 wr=>∃ x y:Int,s0=.int .i64 x∧s1=.int .i64 y∧0≤x∧x≤9223372036854775807∧0≤y∧y≤9223372036854775807∧Hid (Int.gcd x y=Int.gcd a b)∧Hid (y=g)∧Below w.heap.size w wr)
 case atStart=>exact ⟨a,b,rfl,rfl,ha,ha1,hb,hb1,rfl,(Int.toNat_of_nonneg hb).symm,Below.refl _ _⟩
 case round =>
  obtain ⟨x,y,rfl,rfl,hx0,hx1,hy0,hy1,hg,hk,hbw⟩:=hrel
  by_cases hy:0<y
  ·have r0:=A_ (show 0≤x % y∧x % y<y from ⟨Int.emod_nonneg _ (by omega),Int.emod_lt_of_pos _ hy⟩)
   have r1:=A_ (show Int.gcd y (x % y)=Int.gcd a b by rw[B5d];exact hg.o)
   have rm:=A_ (show (x % y).toNat<gk∧x % y≤9223372036854775807∧x % y=((x % y).toNat:Int) by have:=r0.o;have:=hk.o;omega)
   have hy':1≤y:=hy
   go_wp2_with fail
   go_roundg (x % y).toNat
   case measure=>exact rm.o.1
   case rel=>exact ⟨y,x % y,rfl,rfl,hy0,hy1,r0.o.1,rm.o.2.1,r1,rm.o.2.2,hbw⟩
  obtain rfl:y=0:=by omega
  have e:=A_ (show x.toNat=Int.gcd a b by rw[← hg.o,Int.gcd_zero_right];omega)
  go_wp2_with fail
  refine (A8y x _ hx1).mono ?_
  rintro _ w1 ⟨v,rfl,hown,hb2⟩
  have hb':=Below.next hbw hb2
  have hown':=A6u hown hbw.size
  rw[e.o] at hown'
  go_wp2
  go_ret
  exact ⟨_,rfl,hown',hb'⟩

def C6e (w:World) (r:Int) (b:Bool) (e:Ending) (w':World):Prop :=
 e=.returned (.tuple #[.int .i64 r,.bool b])∧Below w.heap.size w w'

theorem B3f (A:Option Addr) (n c:Nat) (xs:List Int) (bs:List Nat) (w:World) (hx:Sl w A n c xs bs) (hcx:XN.Can xs) (hn:n≤2) :
  Calls Tryz.prog 247 #[.slice A n c] w (C6e w (G_ xs) true):=by
 have HL:=A_ hx.1
 have HX:=A_ hx
 have CX:=A_ hcx
 have hok:=A_ (show A3c xs=true from natOkB_iff.2 ⟨by rw[hx.1];omega,hcx⟩)
 have hlim:=A_ (show [854775807,223372036,9].length≤maxLen by decide)
 have LC:=A_ (show XN.Can [854775807,223372036,9] from ⟨Lims.cons (by decide) (by decide) (Lims.cons (by decide) (by decide) (Lims.one (by decide) (by decide))),by decide⟩)
 have SG:=A_ (show sgn (G_ xs - G_ [854775807,223372036,9]) = -1 from A7s (XN.Can.lt_of_len hcx.1 LC.o (by rw[hx.1];simp;omega)))
 have hcm:c≤maxLen:=hx.2.2.1
 have hnc:=hx.2.1
 unfold maxLen at hcm
 clear hx hcx
 go_enter Tryz.func247,Tryz.ntmps247
 go_wp2_with fail
 have C:=A4w A n c xs bs w HX.o
 rw[hok.o] at C
 refine C.mono ?_
 clear C
 rintro _ w1 ⟨rfl,hb1⟩
 go_wp2_with fail
 have RL:=A_ (B5c w1 [854775807,223372036,9] hlim.o)
 obtain ⟨ls,hls⟩:=A5a RL.o (fun x hx=>LC.o.1.i64 x hx)
 have hb2:Below w.heap.size w (w1.alloc (Obj.cells #[.int .i64 854775807,.int .i64 223372036,.int .i64 9] 3)):=Below.go
 have C:=A4d A _ n 3 c 3 xs _ bs ls _ (Sl.below HX.o hb2) hls CX.o LC.o
 rw[SG.o] at C
 refine C.mono ?_
 clear C
 rintro _ w2 ⟨rfl,hb3⟩
 have hb4:=Below.next hb2 hb3
 clear hls RL hb1 hb2 hb3
 go_wp2_with fail
 go_loopw [4,5] (fun a i wr=>∃ (K:Nat) (q:Int),K≤n∧i=.int .i64 ((K:Int) - 1)∧a=.int .i64 q∧Hid (q=G_ (xs.drop K))∧Below w.heap.size w wr) (fun a i wr=>(intOf i+1).toNat)
 case atStart =>
  refine ⟨n,0,Nat.le_refl _,rfl,rfl,?_,hb4⟩
  show 0=G_ (xs.drop n)
  rw[List.drop_eq_nil_of_le (Nat.le_of_eq HL.o)];rfl
 case round =>
  obtain ⟨K,q,hK,rfl,rfl,hq,hb⟩:=hrel
  clear hb4
  rcases Nat.eq_zero_or_pos K with h0 | h0
  ·subst h0
   have e:=A_ (show q=G_ xs by rw[hq.o,List.drop_zero])
   have hneg:¬ ((0:Int)≤((0:Nat):Int) - 1):=by omega
   go_wp2
   go_ret2
   rw[e.o]
   exact ⟨rfl,hb⟩
  ·obtain ⟨j,rfl⟩:∃ j,K=j+1:=⟨K - 1,by omega⟩
   have ej:(((j+1:Nat):Int) - 1)=j:=by omega
   rw[ej]
   have hjn:j<n:=hK
   obtain ⟨b1,o1,x,rfl,hb1,hx1,_,hc1⟩:=Sl.getInt (Sl.below HX.o hb) hjn
   have hxl:=CX.o.1.get hx1
   have r:=A_ (show q*1000000000+x=G_ (xs.drop j) by rw[A4i hx1,← hq.o];omega)
   have hx0:=hxl.1;have hx1':=hxl.2
   have hq0:0≤q:=by rw[hq.o];exact T_ (CX.o.1.drop _)
   have hq1:q<1000000000:=by
    rw[hq.o]
    have h1:=A2r (CX.o.1.drop (j+1))
    have h2:=A2x (show (xs.drop (j+1)).length≤1 by rw[List.length_drop,HL.o];omega)
    rw[pw_vals.1] at h2
    omega
   have hjl:(j:Int)<n:=by omega
   have hnb:(j:Int)+1≤c:=by omega
   have hj1:j≤n:=by omega
   have rm:(intOf (Value.int .i64 ((j:Int) - 1))+1).toNat<(intOf (Value.int .i64 (j:Int))+1).toNat:=by simp[intOf]
   clear ej hK h0 hx1 hxl
   go_wp2_with fail
   first
   | exact ⟨⟨j,q*1000000000+x,hj1,rfl,rfl,r,hb⟩,rm⟩
   | exact ⟨by (repeat apply Exists.intro);exact ⟨⟨j,q*1000000000+x,hj1,rfl,rfl,r,hb⟩,rfl⟩,rm⟩

theorem C0h {w W:World} {lo size n:Nat} {e:TypeId} {v:Value} {xs:List Value} (h:w.ownsRow lo e size v n xs) (ha:Above lo w W):W.ownsRow lo e size v n xs:=by
 refine ⟨h.1,?_⟩
 rcases h.2 with hn | ⟨g,cap,cur,rfl,hb,hgg,rest⟩
 ·exact .inl hn
 exact .inr ⟨g,cap,cur,rfl,hb,(ha.block g hb (E_ hgg)).trans hgg,rest⟩
theorem C7w {x:Int} {rs:List Int} (hx0:0≤x) (hx1:x<1000000000) (hr:Lims rs):trim (x::rs)=dig (x+1000000000*G_ rs).toNat:=by
 have h0:=T_ hr
 exact A6m (Lims.cons hx0 hx1 hr) (by simp only [G_];omega)
theorem D0c {zs xs:List Int} {j:Nat} {x V R:Int} (hz:zs[j]?=some 0) (hx:xs[j]?=some x) (h:G_ (zs.drop (j+1))*V+R=G_ (xs.drop (j+1))):G_ (zs.drop j)*V+(x+1000000000*R)=G_ (xs.drop j):=by
 rw[A4i hz,A4i hx,← h];grind
theorem D2g {zs xs:List Int} {j:Nat} {x V R q:Int} (hz:zs[j]?=some 0) (hx:xs[j]?=some x) (h:G_ (zs.drop (j+1))*V+R=G_ (xs.drop (j+1))):G_ ((zs.set j q).drop j)*V+(x+1000000000*R - q*V)=G_ (xs.drop j):=by
 rw[B7m (List.getElem?_eq_some_iff.1 hz).1,A4i hx,← h];simp only [G_];grind

theorem A9o (A B:Option Addr) (n m c d:Nat) (xs ys:List Int) (bs ds:List Nat) (w:World) (hx:Sl w A n c xs bs) (hy:Sl w B m d ys ds) (hcx:XN.Can xs) (hcy:XN.Can ys) (hn:n≤65536) (hm0:0<m) (hm:m≤65536) :
  Calls Tryz.prog 202 #[.slice A n c,.slice B m d] w (B5v w (dig (G_ xs / G_ ys).toNat) (dig (G_ xs % G_ ys).toNat)):=by
 obtain ⟨i0,hi,hz0,hz1,hz2⟩:=info_parts A5v
 have HX:=A_ hx
 have HY:=A_ hy
 have CX:=A_ hcx
 have CY:=A_ hcy
 have LX:=A_ hx.1
 have LY:=A_ hy.1
 have PX:=A_ (T_ hcx.1)
 have PY:=A_ (hcy.pos (by intro e;rw[← hy.1,e] at hm0;simp at hm0))
 have hcm:c≤maxLen:=hx.2.2.1
 have hnc:=hx.2.1
 unfold maxLen at hcm
 clear hx hy hcx hcy
 by_cases h1:m=1
 ·subst h1
  obtain ⟨b,off,y,rfl,hbl,hy1,hI,hc⟩:=Sl.getInt HY.o (k:=0) (by decide)
  simp only [Nat.add_zero] at hc
  have EY:=A_ (show G_ ys=y by
   have h:=LY.o
   match ys,h with
   | [z],_=>simp at hy1;subst hy1;simp[G_])
  have hyl:=CY.o.1.get hy1
  have hy0:0<y:=by rw[← EY.o];exact PY.o
  have hy2:=hyl.2
  have R0:=A_ (Int.emod_lt_of_pos (G_ xs) hy0)
  clear hy1 hyl hI
  go_enter Tryz.func202,Tryz.ntmps202
  go_wp2_with fail
  refine (C0j A n c xs bs y _ HX.o CX.o.1 hy0 hy2 (Nat.le_trans hn (by decide))).mono ?_
  rintro _ w1 ⟨v1,rfl,hq,hb1⟩
  go_wp2_with fail
  refine (A8y (G_ xs % y) w1 (by have:=R0.o;omega)).mono ?_
  rintro _ w2 ⟨v2,rfl,hr,hb2⟩
  have hq':=J_ hq hb2
  go_wp2
  go_ret2
  rw[EY.o]
  exact A8x hq' hr (W_ _).1.i64 (W_ _).1.i64 (Nat.le_refl _) hb1.size (B4d hq hr) (Below.next hb1 hb2)
 ·have hz:((m:Int)==1)=false:=by simp;omega
  have b2:=A_ (show i0.bytes*n≤281474976710656 by rw[hz2];omega)
  have b3:=A_ (show n≤maxLen by unfold maxLen;omega)
  go_enter Tryz.func202,Tryz.ntmps202
  go_wp2_with (at_make;(refine wpList_make_full _ rfl _ _ 31 rfl w.heap.size 3 i0 (.int .i64 0) 1 Tryz.underlying31 hi hz0 hz1 .i64 .i64 _ _ n rfl rfl rfl rfl b2.o b3.o (Nat.le_refl _) ?_);intro w1 hown1 hgrow1)
  rw[A7d] at hown1
  have hb1:=(Below.refl w.heap.size w).grown hgrow1 (Nat.le_refl _) (by intro k hk;cases hk)
  have hlt1:=(World.ownsRow.lt hown1 _ rfl).2
  clear hgrow1 hz h1
  go_loopw [9,10] (fun v i wr=>∃ (K:Nat) (zs rs:List Int),K≤n∧i=.int .i64 ((K:Int) - 1)∧wr.ownsRow w.heap.size 3 1 (.slice (some ⟨w.heap.size,0,none⟩) n n) n (zs.map (.int .i64))∧wr.ownsRow (w.heap.size+1) 3 1 v rs.length (rs.map (.int .i64))∧v≠.slice none 0 0∧Hid (Lims zs)∧Hid (∀ i,i<K→zs[i]?=some 0)∧Hid (XN.Can rs)∧Hid (G_ rs<G_ ys)∧Hid (G_ (zs.drop K)*G_ ys+G_ rs=G_ (xs.drop K))∧Below w.heap.size w wr) (fun v i wr=>(intOf i+1).toNat)
  case atStart =>
   refine ⟨n,_,[],Nat.le_refl _,rfl,hown1.alloc _,World.ownsRow_made w1 #[] 0 hlt1 (Nat.zero_le _) rfl,(fun h=>by cases h),Lims.zeros n,fun i h=>?_,Can.nil,PY.o,?_,Below.go⟩
   ·rw[List.getElem?_replicate,if_pos h]
   show G_ ((List.replicate n (0:Int)).drop n)*G_ ys+0=G_ (xs.drop n)
   rw[List.drop_eq_nil_of_le (by simp),List.drop_eq_nil_of_le (Nat.le_of_eq LX.o)];simp[G_]
  case round =>
   obtain ⟨K,zs,rs,hK,rfl,hown,hrest,hvn,hlz,hzz,hcr,hrV,hv,hb⟩:=hrel
   clear hown1 hb1 hlt1
   rcases Nat.eq_zero_or_pos K with h0 | h0
   ·subst h0
    have e:=A_ (show trim zs=dig (G_ xs / G_ ys).toNat∧rs=dig (G_ xs % G_ ys).toNat by
     have h1:=hv.o
     rw[List.drop_zero,List.drop_zero] at h1
     obtain ⟨e1,e2⟩:=C2j PY.o h1 (T_ hcr.o.1) hrV.o
     rw[e1,e2]
     exact ⟨A6m hlz.o (Int.toNat_of_nonneg (T_ hlz.o)).symm,hcr.o.eq_dig⟩)
    have hneg:¬ ((0:Int)≤((0:Nat):Int) - 1):=by omega
    go_wp2_with fail
    refine (A5s _ _ _ _ zs _ hown hlz.o.i64).mono ?_
    rintro _ w3 ⟨rfl,hb3,hown3⟩
    have hb':Below w.heap.size w w3:=Below.go
    have hrest3:=J_ hrest hb3
    go_wp2
    go_ret2
    rw[e.o.1] at hown3 ⊢
    rw[e.o.2] at hrest3
    refine A8x hown3 hrest3 (W_ _).1.i64 (W_ _).1.i64 (Nat.le_refl _) (by omega) ?_ hb'
    intro g1 g2 e1 e2
    have:=B0d hrest3 _ e2
    simp[Value.ownBlock] at e1
    omega
   ·obtain ⟨j,rfl⟩:∃ j,K=j+1:=⟨K - 1,by omega⟩
    have ej:(((j+1:Nat):Int) - 1)=j:=by omega
    rw[ej]
    have hjn:j<n:=hK
    rcases B0i hrest with ⟨e,_⟩ | ⟨g2,c2,rfl,_⟩
    ·exact absurd e hvn
    obtain ⟨b1,o1,x,rfl,hb1,hx1,_,hc1⟩:=Sl.getInt (Sl.below HX.o hb) hjn
    have hxl:=CX.o.1.get hx1
    have HX1:=A_ hx1
    have hx0:=hxl.1;have hx1':=hxl.2
    have hlo:=(World.ownsRow.lt hown _ rfl).2
    have rl:=A_ (show rs.length≤m by
     rcases Nat.lt_or_ge m rs.length with h | h
     ·have:=Can.lt_of_len CY.o.1 hcr.o (by rw[LY.o];exact h);have:=hrV.o;omega
     exact h)
    have C3:=A_ (show 1+rs.length≤maxLen by unfold maxLen;have:=rl.o;omega)
    have C4:=A_ (show (1+rs.length)*8≤140737488355328 by have:=rl.o;omega)
    have ROW1:=A_ (show (wr.alloc (.cells #[.int .i64 x] 3)).ownsRow (w.heap.size+1) 3 1 (.slice (some ⟨wr.heap.size,0,none⟩) 1 1) 1 [.int .i64 x] from A6u (B5c wr [x] (by simp[maxLen])) hlo)
    have ROW1b:=A_ (B0d (B5c wr [x] (by simp[maxLen])))
    have HI:=A_ (show ∀ u∈x::rs,I64 u from (Lims.cons hx0 hx1' hcr.o.1).i64)
    have T:=A_ (C7w hx0 hx1' hcr.o.1)
    have HZ0:=A_ (hzz.o j (by omega))
    have R0n:=A_ (show 0≤x+1000000000*G_ rs by have:=T_ hcr.o.1;omega)
    have R0l:=A_ (show x+1000000000*G_ rs<1000000000*G_ ys by have:=hrV.o;omega)
    have EK:=A_ (D0c HZ0.o HX1.o hv.o)
    have EP:=A_ (fun q=>D2g (q:=q) HZ0.o HX1.o hv.o)
    have hjl:(j:Int)<n:=by omega
    have hnb:(j:Int)+1≤c:=by omega
    have hj1:j≤n:=by omega
    have rm:(intOf (Value.int .i64 ((j:Int) - 1))+1).toNat<(intOf (Value.int .i64 (j:Int))+1).toNat:=by simp[intOf]
    have HR:=A_ hrest
    have rz:=A_ (show ∀ i,i<j→zs[i]?=some 0 from fun i h=>hzz.o i (by omega))
    have HO:=A_ hown
    generalize hR0:x+1000000000*G_ rs=R0 at *
    clear ej hK h0 hx1 hxl hv hrest hzz hR0 hown hvn
    have L4:=A_ (show (dig R0.toNat).length≤m+1 by
     rw[← T.o,B0a,List.length_take];have:=rl.o;simp only [List.length_cons];omega)
    have V4:=A_ (show G_ (dig R0.toNat)=R0 by rw[A1n,Int.toNat_of_nonneg R0n.o])
    go_wp2_with (at_builtin;(refine wpList_append_own _ rfl _ _ 31 rfl (w.heap.size+1) 3 i0 (.int .i64 0) 1 8 Tryz.underlying31 hi hz0 hz1 hz2 rfl (by decide) _ 1 [.int .i64 x] rfl ROW1.o ⟨g2,0,none⟩ rs.length c2 (rs.map (.int .i64)) rfl (by simp) ((HR.o.alloc _).cells rfl) (C3a rs) C3.o C4.o (A0p hlo _) ?_);intro v' w3 hown' hgrow' hnil')
    have hb3:Below wr.heap.size wr w3:=((Below.refl _ wr).alloc (Nat.le_refl _) _).grown hgrow' (A0p (Nat.le_refl _) _) ROW1b.o
    have R3:w3.ownsRow (w.heap.size+1) 3 1 v' (x::rs).length ((x::rs).map (.int .i64)):=by have h:=hown';rw[Nat.add_comm 1 rs.length] at h;exact h
    rcases B0i R3 with ⟨e,_⟩ | ⟨g3,c3,rfl,_⟩
    ·have:=(hnil'.1 e).1;cases this
    have hO3:=J_ HO.o hb3
    have hbb3:=Below.next hb hb3
    clear hown' hgrow' hnil' hb3
    go_wp2_with fail
    refine (A5s _ _ _ _ (x::rs) _ R3 HI.o).mono ?_
    rintro _ w4 ⟨rfl,hb4,R4⟩
    rw[T.o] at R4 ⊢
    have hO4:=J_ hO3 hb4
    have hbb4:=Below.next hbb3 hb4
    clear R3 hO3 hbb3 hb4 hb
    obtain ⟨s4,hs4⟩:=A5a R4 (W_ _).1.i64
    have S4:=A_ hs4
    clear hs4
    rcases Int.lt_or_le R0 (G_ ys) with hlt | hge
    ·have SG:=A_ (A7s hlt)
     go_wp2_with fail
     have C:=A4d _ B _ m c3 d _ ys s4 ds w4 S4.o (Sl.below HY.o hbb4) (W_ _) CY.o
     rw[V4.o,SG.o] at C
     refine C.mono ?_
     clear C
     rintro _ w5 ⟨rfl,hb5⟩
     have hbb5:=Below.next hbb4 hb5
     have hO5:=J_ hO4 hb5
     have R5:=J_ R4 hb5
     have rE:=A_ (show G_ (zs.drop j)*G_ ys+G_ (dig R0.toNat)=G_ (xs.drop j) by rw[V4.o];exact EK.o)
     have rV:=A_ (show G_ (dig R0.toNat)<G_ ys by rw[V4.o];exact hlt)
     clear hbb4 hO4 R4 hlt
     go_wp2_with fail
     first
     | exact ⟨⟨j,zs,_,hj1,rfl,hO5,R5,(fun h=>by cases h),hlz,rz,W_ _,rV,rE,hbb5⟩,rm⟩
     | exact ⟨by (repeat apply Exists.intro);exact ⟨⟨j,zs,_,hj1,rfl,hO5,R5,(fun h=>by cases h),hlz,rz,W_ _,rV,rE,hbb5⟩,rfl⟩,rm⟩
    ·have SG:=A_ (B0w hge)
     have HGE:=A_ hge
     clear hge
     have q0:=A_ (Int.ediv_nonneg R0n.o (Int.le_of_lt PY.o))
     have q1:=A_ (show R0 / G_ ys<1000000000 from Int.ediv_lt_of_lt_mul PY.o R0l.o)
     have q2:=A_ (show R0 / G_ ys≤9223372036854775807 by have:=q1.o;omega)
     have EV:=A_ (show G_ ys*G_ (dig (R0 / G_ ys).toNat)=R0 / G_ ys*G_ ys by rw[A1n,Int.toNat_of_nonneg q0.o,Int.mul_comm])
     have EV2:=A_ (show G_ (dig (G_ ys*G_ (dig (R0 / G_ ys).toNat)).toNat)=R0 / G_ ys*G_ ys by
      rw[A1n,EV.o,Int.toNat_of_nonneg (Int.mul_nonneg q0.o (Int.le_of_lt PY.o))])
     have ER:=A_ (show R0 - R0 / G_ ys*G_ ys=R0 % G_ ys by rw[Int.emod_def,Int.mul_comm])
     have RM0:=A_ (Int.emod_nonneg R0 (Int.ne_of_gt PY.o))
     have RM1:=A_ (Int.emod_lt_of_pos R0 PY.o)
     have hdl:=A_ (show (dig (R0 / G_ ys).toNat).length≤65536 from Nat.le_trans (A3h (k:=1) (by rw[pw_vals.1];have:=q0.o;have:=q1.o;omega)) (by decide))
     have HJ:=A_ (show j<zs.length by have:=(List.getElem?_eq_some_iff.1 HZ0.o).1;exact this)
     go_wp2_with fail
     have C:=A4d _ B _ m c3 d _ ys s4 ds w4 S4.o (Sl.below HY.o hbb4) (W_ _) CY.o
     rw[V4.o] at C
     refine C.mono ?_
     clear C
     rintro _ w5 ⟨rfl,hb5⟩
     have SG':=SG.o
     generalize sgn (R0 - G_ ys)=sg at *
     have hbb5:=Below.next hbb4 hb5
     have hO5:=J_ hO4 hb5
     have R5:=J_ R4 hb5
     have S5:=A_ (Sl.below S4.o hb5)
     clear hbb4 hO4 R4 S4
     go_wp2_with fail
     have C:=C0l _ B _ m c3 d _ ys s4 ds w5 S5.o (Sl.below HY.o hbb5) (W_ _) CY.o hm PY.o (by rw[V4.o];exact R0l.o)
     rw[V4.o] at C
     refine C.mono ?_
     clear C
     rintro _ w6 ⟨rfl,hb6⟩
     have hbb6:=Below.next hbb5 hb6
     have hO6:=J_ hO5 hb6
     have R6:=J_ R5 hb6
     clear hbb5 hO5 R5 S5
     obtain ⟨hglu,hcu,hfu⟩:=A1k hO6 HZ0.o
     have hbb7:=hbb6.setCell (p:=⟨w.heap.size,j,none⟩) (Nat.le_refl _) (.int .i64 (R0 / G_ ys))
     have R7:=C0h R6 ((Above.refl (w.heap.size+1) w6).set (p:=⟨w.heap.size,j,none⟩) (Nat.lt_succ_self _) (.int .i64 (R0 / G_ ys)))
     have hO7:=row_set hO6 j (R0 / G_ ys)
     clear hbb6 hO6 R6
     go_wp2_with fail
     generalize w6.setCell ⟨w.heap.size,j,none⟩ (.int .i64 (R0 / G_ ys))=w7 at *
     clear hcu hfu hglu hb6 hb5
     refine (A8o (R0 / G_ ys) w7 q2.o).mono ?_
     rintro _ w8 ⟨A8,n8,c8,s8,rfl,hs8,ho8,hb8⟩
     have H8:=A_ hs8
     have hn8:=A_ (show n8≤65536 by rw[← hs8.1];exact hdl.o)
     have hbb8:=Below.next hbb7 hb8
     have hO8:=J_ hO7 hb8
     have R8:=J_ R7 hb8
     clear hs8 ho8 hbb7 hO7 R7
     go_wp2_with fail
     refine (A2b B A8 m n8 d c8 ys _ _ _ w8 (Sl.below HY.o hbb8) H8.o CY.o.1 (W_ _).1 (Nat.le_trans hm (by decide)) (Nat.le_trans hn8.o (by decide))).mono ?_
     rintro _ w9 ⟨v9,rfl,hown9,hb9⟩
     obtain ⟨A9,c9,rfl⟩:=B7h hown9
     obtain ⟨s9,hs9⟩:=A5a hown9 (W_ _).1.i64
     have H9:=A_ hs9
     have hbb9:=Below.next hbb8 hb9
     have hO9:=J_ hO8 hb9
     have R9:=J_ R8 hb9
     clear hs9 hown9 H8 hbb8 hO8 R8
     obtain ⟨t9,ht9⟩:=A5a R9 (W_ _).1.i64
     have T9:=A_ ht9
     clear ht9
     go_wp2_with fail
     have C:=B3e _ A9 _ _ c3 c9 (dig R0.toNat) _ t9 s9 w9 T9.o H9.o (W_ _) (W_ _) (Nat.le_trans L4.o (by omega)) (by rw[EV2.o,V4.o];exact Int.ediv_mul_le R0 (Int.ne_of_gt PY.o))
     rw[EV2.o,V4.o,ER.o] at C
     refine C.mono ?_
     clear C
     rintro _ wx ⟨gx,cx,rfl,hownx,hbx⟩
     have hbbx:=Below.next hbb9 hbx
     have hOx:=J_ hO9 hbx
     have hownx':=A6u hownx (show w.heap.size+1≤w9.heap.size from Nat.lt_of_lt_of_le (World.ownsRow.lt hO9 _ rfl).2 (Nat.le_refl _))
     have VM:=A_ (show G_ (dig (R0 % G_ ys).toNat)=R0 % G_ ys by rw[A1n,Int.toNat_of_nonneg RM0.o])
     have rE:=A_ (show G_ ((zs.set j (R0 / G_ ys)).drop j)*G_ ys+G_ (dig (R0 % G_ ys).toNat)=G_ (xs.drop j) by
      rw[VM.o,← ER.o];exact EP.o _)
     have rV:=A_ (show G_ (dig (R0 % G_ ys).toNat)<G_ ys by rw[VM.o];exact RM1.o)
     have rL:=A_ (hlz.o.set j q0.o q1.o)
     have rZ:=A_ (show ∀ i,i<j→(zs.set j (R0 / G_ ys))[i]?=some 0 from fun i h=>by
      rw[List.getElem?_set_ne (by omega)];exact rz.o i h)
     clear hbb9 hO9 R9 hownx hbx hb9 hb8
     go_wp2_with fail
     first
     | exact ⟨⟨j,_,_,hj1,rfl,hOx,hownx',(fun h=>by cases h),rL,rZ,W_ _,rV,rE,hbbx⟩,rm⟩
     | exact ⟨by (repeat apply Exists.intro);exact ⟨⟨j,_,_,hj1,rfl,hOx,hownx',(fun h=>by cases h),rL,rZ,W_ _,rV,rE,hbbx⟩,rfl⟩,rm⟩
end Go.Proofs.YtbhemnidcleaiaaGreat.X
