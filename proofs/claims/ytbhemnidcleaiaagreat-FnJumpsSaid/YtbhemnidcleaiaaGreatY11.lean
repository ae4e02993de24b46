/- A part of the proof. -/
import Derived.Test.YtbhemnidcleaiaaGreatY10
set_option linter.constructorNameAsVariable false
set_option maxHeartbeats 16000000
set_option maxRecDepth 10000
namespace Go.Proofs.YtbhemnidcleaiaaGreat.X
open Go.RowKit Go.XB Go.XN
attribute [local go_sem] O_ opAt P_ M_ Region.wanted yielded
attribute [local simp] P_ M_ MP.eq MP.agg MP.sl A0e

theorem A6e (v1 v2:Value) (r s:TRat) (b1 b2:List Nat) (w:World) (hx:Agg w v1 r b1) (hy:Agg w v2 s b2) :
  Calls Tryz.prog 278 #[v1,v2] w (X_ w (A1c r s)):=by
 have HX:=A_ hx;have HY:=A_ hy
 obtain ⟨A1,n1,c1,s1,A2,n2,c2,s2,rfl,rfl,hs1,hs2⟩:=TRat.agg hx
 obtain ⟨A3,n3,c3,s3,A4,n4,c4,s4,rfl,rfl,hs3,hs4⟩:=TRat.agg hy
 clear hs1 hs2 hs3 hs4 hx hy
 cases hr:S_ r
 ·have E:=A_ (show A1c r s=A1j by unfold A1c;rw[hr];rfl)
  have R:=A_ hr
  clear hr
  go_enter Tryz.func278,Tryz.ntmps278
  go_wp2_with fail
  have C:=A0n _ r _ (((w.alloc (.cells #[.bool r.num.neg,.slice A1 n1 c1,.slice A2 n2 c2] 35)).alloc (.cells #[.bool s.num.neg,.slice A3 n3 c3,.slice A4 n4 c4] 35)).alloc (.cells #[.bool false,.slice none 0 0,.slice none 0 0] 35)) (Agg.below HX.o Below.go)
  rw[R.o] at C
  refine C.mono ?_
  clear C
  rintro _ w1 ⟨rfl,hb1⟩
  obtain ⟨hc_w1,hf_w1⟩:=C_ hb1
  have hz0_w1:w.heap.size<w1.heap.size:=N_ hb1
  have hz1_w1:w.heap.size+1<w1.heap.size:=N_ hb1
  have hz2_w1:w.heap.size+1+1<w1.heap.size:=N_ hb1
  go_wp2
  refine bodyPost_ret (v:=.agg #[.bool false,.slice none 0 0,.slice none 0 0]) (by simp[results,Tryz.results278,go_sem, *]) rfl ?_
  rw[E.o]
  exact A1w Below.go
 cases hs:S_ s
 ·have E:=A_ (show A1c r s=A1j by unfold A1c;rw[hr,hs];rfl)
  have R:=A_ hr;have S:=A_ hs
  clear hr hs
  go_enter Tryz.func278,Tryz.ntmps278
  go_wp2_with fail
  have C:=A0n _ r _ (((w.alloc (.cells #[.bool r.num.neg,.slice A1 n1 c1,.slice A2 n2 c2] 35)).alloc (.cells #[.bool s.num.neg,.slice A3 n3 c3,.slice A4 n4 c4] 35)).alloc (.cells #[.bool false,.slice none 0 0,.slice none 0 0] 35)) (Agg.below HX.o Below.go)
  rw[R.o] at C
  refine C.mono ?_
  clear C
  rintro _ w1 ⟨rfl,hb1⟩
  obtain ⟨hc_w1,hf_w1⟩:=C_ hb1
  have hz0_w1:w.heap.size<w1.heap.size:=N_ hb1
  have hz1_w1:w.heap.size+1<w1.heap.size:=N_ hb1
  have hz2_w1:w.heap.size+1+1<w1.heap.size:=N_ hb1
  go_wp2_with fail
  have C:=A0n _ s _ w1 (Agg.below HY.o Below.go)
  rw[S.o] at C
  refine C.mono ?_
  clear C
  rintro _ w2 ⟨rfl,hb2⟩
  obtain ⟨hc_w2,hf_w2⟩:=C_ hb2
  have hz0_w2:w.heap.size<w2.heap.size:=N_ hb2
  have hz1_w2:w.heap.size+1<w2.heap.size:=N_ hb2
  have hz2_w2:w.heap.size+1+1<w2.heap.size:=N_ hb2
  go_wp2
  refine bodyPost_ret (v:=.agg #[.bool false,.slice none 0 0,.slice none 0 0]) (by simp[results,Tryz.results278,go_sem, *]) rfl ?_
  rw[E.o]
  exact A1w Below.go
 have R:=A_ hr;have S:=A_ hs
 have VR:=A_ (ratOkB_iff.1 hr);have VS:=A_ (ratOkB_iff.1 hs)
 have E:=A_ (show A1c r s=mkR (L_ r*L_ s) (I_ r*I_ s) by unfold A1c;rw[hr,hs];rfl)
 clear hr hs
 go_enter Tryz.func278,Tryz.ntmps278
 go_wp2_with fail
 have C:=A0n _ r _ (((w.alloc (.cells #[.bool r.num.neg,.slice A1 n1 c1,.slice A2 n2 c2] 35)).alloc (.cells #[.bool s.num.neg,.slice A3 n3 c3,.slice A4 n4 c4] 35)).alloc (.cells #[.bool false,.slice none 0 0,.slice none 0 0] 35)) (Agg.below HX.o Below.go)
 rw[R.o] at C
 refine C.mono ?_
 clear C
 rintro _ w1 ⟨rfl,hb1⟩
 obtain ⟨hc_w1,hf_w1⟩:=C_ hb1
 have hz0_w1:w.heap.size<w1.heap.size:=N_ hb1
 have hz1_w1:w.heap.size+1<w1.heap.size:=N_ hb1
 have hz2_w1:w.heap.size+1+1<w1.heap.size:=N_ hb1
 go_wp2_with fail
 have C:=A0n _ s _ w1 (Agg.below HY.o Below.go)
 rw[S.o] at C
 refine C.mono ?_
 clear C
 rintro _ w2 ⟨rfl,hb2⟩
 obtain ⟨hc_w2,hf_w2⟩:=C_ hb2
 have hz0_w2:w.heap.size<w2.heap.size:=N_ hb2
 have hz1_w2:w.heap.size+1<w2.heap.size:=N_ hb2
 have hz2_w2:w.heap.size+1+1<w2.heap.size:=N_ hb2
 go_wp2_with fail
 refine (C3f _ _ r s _ _ w2 (Agg.below HX.o Below.go) (Agg.below HY.o Below.go) VR.o VS.o).mono ?_
 rintro _ w4 ⟨v4,s5,rfl,ha4,ho4,hb4⟩
 obtain ⟨B1,m1,d1,t1,B2,m2,d2,t2,rfl,hz,_,_⟩:=TRat.agg ha4
 have HA:=A_ ha4;have HO:=A_ ho4
 have HL:=A_ (show w.heap.size+3≤w2.heap.size by omega)
 clear ha4 ho4 hz
 obtain ⟨hc_w4,hf_w4⟩:=C_ hb4
 have hz0_w4:w.heap.size<w4.heap.size:=N_ hb4
 have hz1_w4:w.heap.size+1<w4.heap.size:=N_ hb4
 have hz2_w4:w.heap.size+1+1<w4.heap.size:=N_ hb4
 go_wp2
 refine bodyPost_ret (v:=.agg #[.bool (mkR (L_ r*L_ s) (I_ r*I_ s)).num.neg,.slice B1 m1 d1,.slice B2 m2 d2]) (by simp[results,Tryz.results278,go_sem, *]) rfl ?_
 rw[E.o]
 refine A0o (lo:=w.heap.size+3) HA.o HO.o.free (fun b hb=>by have:=(HO.o.range b hb).1;have:=HL.o;omega) (by omega) ?_ ?_
 ·exact Above.go
 exact Below.go


theorem A2i (v1 v2:Value) (r s:TRat) (b1 b2:List Nat) (w:World) (hx:Agg w v1 r b1) (hy:Agg w v2 s b2) :
  Calls Tryz.prog 286 #[v1,v2] w (A0j w (.int .i64 (A3a r s))):=by
 have HX:=A_ hx;have HY:=A_ hy
 obtain ⟨A1,n1,c1,s1,A2,n2,c2,s2,rfl,rfl,hs1,hs2⟩:=TRat.agg hx
 obtain ⟨A3,n3,c3,s3,A4,n4,c4,s4,rfl,rfl,hs3,hs4⟩:=TRat.agg hy
 clear hs1 hs2 hs3 hs4 hx hy
 cases hr:S_ r
 ·have E:=A_ (show (0:Int)=A3a r s by unfold A3a;rw[hr];rfl)
  have R:=A_ hr
  clear hr
  go_enter Tryz.func286,Tryz.ntmps286
  go_wp2_with fail
  have C:=A0n _ r _ ((w.alloc (.cells #[.bool r.num.neg,.slice A1 n1 c1,.slice A2 n2 c2] 35)).alloc (.cells #[.bool s.num.neg,.slice A3 n3 c3,.slice A4 n4 c4] 35)) (Agg.below HX.o Below.go)
  rw[R.o] at C
  refine C.mono ?_
  clear C
  rintro _ w1 ⟨rfl,hb1⟩
  obtain ⟨hc_w1,hf_w1⟩:=C_ hb1
  have hz0_w1:w.heap.size<w1.heap.size:=N_ hb1
  have hz1_w1:w.heap.size+1<w1.heap.size:=N_ hb1
  go_wp2
  go_ret
  exact ⟨A1d E.o,Below.go⟩
 cases hs:S_ s
 ·have E:=A_ (show (0:Int)=A3a r s by unfold A3a;rw[hr,hs];rfl)
  have R:=A_ hr;have S:=A_ hs
  clear hr hs
  go_enter Tryz.func286,Tryz.ntmps286
  go_wp2_with fail
  have C:=A0n _ r _ ((w.alloc (.cells #[.bool r.num.neg,.slice A1 n1 c1,.slice A2 n2 c2] 35)).alloc (.cells #[.bool s.num.neg,.slice A3 n3 c3,.slice A4 n4 c4] 35)) (Agg.below HX.o Below.go)
  rw[R.o] at C
  refine C.mono ?_
  clear C
  rintro _ w1 ⟨rfl,hb1⟩
  obtain ⟨hc_w1,hf_w1⟩:=C_ hb1
  have hz0_w1:w.heap.size<w1.heap.size:=N_ hb1
  have hz1_w1:w.heap.size+1<w1.heap.size:=N_ hb1
  go_wp2_with fail
  have C:=A0n _ s _ w1 (Agg.below HY.o Below.go)
  rw[S.o] at C
  refine C.mono ?_
  clear C
  rintro _ w2 ⟨rfl,hb2⟩
  obtain ⟨hc_w2,hf_w2⟩:=C_ hb2
  have hz0_w2:w.heap.size<w2.heap.size:=N_ hb2
  have hz1_w2:w.heap.size+1<w2.heap.size:=N_ hb2
  go_wp2
  go_ret
  exact ⟨A1d E.o,Below.go⟩
 have R:=A_ hr;have S:=A_ hs
 have VR:=A_ (ratOkB_iff.1 hr);have VS:=A_ (ratOkB_iff.1 hs)
 have E:=A_ (show C1f r s=A3a r s by unfold A3a;rw[hr,hs];rfl)
 clear hr hs
 go_enter Tryz.func286,Tryz.ntmps286
 go_wp2_with fail
 have C:=A0n _ r _ ((w.alloc (.cells #[.bool r.num.neg,.slice A1 n1 c1,.slice A2 n2 c2] 35)).alloc (.cells #[.bool s.num.neg,.slice A3 n3 c3,.slice A4 n4 c4] 35)) (Agg.below HX.o Below.go)
 rw[R.o] at C
 refine C.mono ?_
 clear C
 rintro _ w1 ⟨rfl,hb1⟩
 obtain ⟨hc_w1,hf_w1⟩:=C_ hb1
 have hz0_w1:w.heap.size<w1.heap.size:=N_ hb1
 have hz1_w1:w.heap.size+1<w1.heap.size:=N_ hb1
 go_wp2_with fail
 have C:=A0n _ s _ w1 (Agg.below HY.o Below.go)
 rw[S.o] at C
 refine C.mono ?_
 clear C
 rintro _ w2 ⟨rfl,hb2⟩
 obtain ⟨hc_w2,hf_w2⟩:=C_ hb2
 have hz0_w2:w.heap.size<w2.heap.size:=N_ hb2
 have hz1_w2:w.heap.size+1<w2.heap.size:=N_ hb2
 go_wp2_with fail
 refine (C3c _ _ r s _ _ w2 (Agg.below HX.o Below.go) (Agg.below HY.o Below.go) VR.o VS.o).mono ?_
 rintro _ w3 ⟨rfl,hb3⟩
 go_wp2
 go_ret
 exact ⟨A1d E.o,Below.go⟩

theorem A8f (v1:Value) (r:TRat) (b1:List Nat) (w:World) (hx:Agg w v1 r b1) :
  Calls Tryz.prog 285 #[v1] w (A0j w (.int .i64 (A2s r))):=by
 have HX:=A_ hx
 obtain ⟨A1,n1,c1,s1,A2,n2,c2,s2,rfl,rfl,hs1,hs2⟩:=TRat.agg hx
 have L1:=A_ hs1.1
 clear hs1 hs2 hx
 cases hr:S_ r
 ·have E:=A_ (show (0:Int)=A2s r by unfold A2s;rw[hr];rfl)
  have R:=A_ hr
  clear hr
  go_enter Tryz.func285,Tryz.ntmps285
  go_wp2_with fail
  have C:=A0n _ r _ (w.alloc (.cells #[.bool r.num.neg,.slice A1 n1 c1,.slice A2 n2 c2] 35)) (Agg.below HX.o Below.go)
  rw[R.o] at C
  refine C.mono ?_
  clear C
  rintro _ w1 ⟨rfl,hb1⟩
  obtain ⟨hc_w1,hf_w1⟩:=C_ hb1
  have hz0_w1:w.heap.size<w1.heap.size:=N_ hb1
  go_wp2
  go_ret
  exact ⟨A1d E.o,Below.go⟩
 have R:=A_ hr
 have V:=A_ (ratOkB_iff.1 hr)
 have ER:=A_ (show A2s r=sgn (A0f r.num) by unfold A2s;rw[hr];rfl)
 clear hr
 rcases Nat.eq_zero_or_pos n1 with h0 | h0
 ·subst h0
  have E:=A_ (show (0:Int)=A2s r by
   rw[ER.o];unfold A0f;rw[List.eq_nil_of_length_eq_zero L1.o];simp[G_,sgn])
  go_enter Tryz.func285,Tryz.ntmps285
  go_wp2_with fail
  have C:=A0n _ r _ (w.alloc (.cells #[.bool r.num.neg,.slice A1 0 c1,.slice A2 n2 c2] 35)) (Agg.below HX.o Below.go)
  rw[R.o] at C
  refine C.mono ?_
  clear C
  rintro _ w1 ⟨rfl,hb1⟩
  obtain ⟨hc_w1,hf_w1⟩:=C_ hb1
  have hz0_w1:w.heap.size<w1.heap.size:=N_ hb1
  go_wp2
  go_ret
  exact ⟨A1d E.o,Below.go⟩
 have z0:((n1:Int)==0)=false:=by simp;omega
 have P:=A_ (V.o.mag.pos (by intro e;have:=L1.o;rw[e] at this;simp at this;omega))
 clear h0
 cases hn:r.num.neg
 ·have E:=A_ (show (1:Int)=A2s r by
   rw[ER.o];unfold A0f;rw[hn];have:=P.o;unfold sgn;simp;omega)
  have HN:=A_ hn
  rw[hn] at HX
  clear hn
  go_enter Tryz.func285,Tryz.ntmps285
  go_wp2_with fail
  have C:=A0n _ r _ (w.alloc (.cells #[.bool false,.slice A1 n1 c1,.slice A2 n2 c2] 35)) (Agg.below HX.o Below.go)
  rw[R.o] at C
  refine C.mono ?_
  clear C
  rintro _ w1 ⟨rfl,hb1⟩
  obtain ⟨hc_w1,hf_w1⟩:=C_ hb1
  have hz0_w1:w.heap.size<w1.heap.size:=N_ hb1
  go_wp2
  go_ret
  exact ⟨A1d E.o,Below.go⟩
 ·have E:=A_ (show (-1:Int)=A2s r by
   rw[ER.o];unfold A0f;rw[hn];have:=P.o;unfold sgn;simp;omega)
  have HN:=A_ hn
  rw[hn] at HX
  clear hn
  go_enter Tryz.func285,Tryz.ntmps285
  go_wp2_with fail
  have C:=A0n _ r _ (w.alloc (.cells #[.bool true,.slice A1 n1 c1,.slice A2 n2 c2] 35)) (Agg.below HX.o Below.go)
  rw[R.o] at C
  refine C.mono ?_
  clear C
  rintro _ w1 ⟨rfl,hb1⟩
  obtain ⟨hc_w1,hf_w1⟩:=C_ hb1
  have hz0_w1:w.heap.size<w1.heap.size:=N_ hb1
  go_wp2
  go_ret
  exact ⟨A1d E.o,Below.go⟩


theorem B6e (v1 v2:Value) (r s:TRat) (b1 b2:List Nat) (w:World) (hx:Agg w v1 r b1) (hy:Agg w v2 s b2) (vr:RatV r) (vs:RatV s) :
  Calls Tryz.prog 302 #[v1,v2] w (X_ w (mkR (L_ r*I_ s+L_ s*I_ r) (I_ r*I_ s))):=by
 obtain ⟨A1,n1,c1,s1,A2,n2,c2,s2,rfl,rfl,hs1,hs2⟩:=TRat.agg hx
 obtain ⟨A3,n3,c3,s3,A4,n4,c4,s4,rfl,rfl,hs3,hs4⟩:=TRat.agg hy
 have H1:=A_ hs1;have H2:=A_ hs2;have H3:=A_ hs3;have H4:=A_ hs4
 have VR:=A_ vr;have VS:=A_ vs
 have DD:=A_ (vr.denD vs)
 clear hs1 hs2 hs3 hs4 hx hy vr vs
 by_cases hb:r.den=[1]∧s.den=[1]
 ·have R1:=A_ (show decide (r.den=[1])=true by simp[hb.1])
  have S1:=A_ (show decide (s.den=[1])=true by simp[hb.2])
  have ER:=A_ (show L_ r*I_ s+L_ s*I_ r=L_ r+L_ s∧I_ r*I_ s=G_ [1] by
   unfold I_;rw[hb.1,hb.2];have:G_ [1]=1:=rfl
   rw[this];omega)
  clear hb
  go_enter Tryz.func302,Tryz.ntmps302
  go_wp2_with fail
  have C:=A3u A2 n2 c2 r.den _ (((w.alloc (.cells #[.bool r.num.neg,.slice A1 n1 c1,.slice A2 n2 c2] 35)).alloc (.cells #[.bool s.num.neg,.slice A3 n3 c3,.slice A4 n4 c4] 35)).alloc (.cells #[.bool false,.slice none 0 0,.slice none 0 0] 35)) (Sl.below H2.o Below.go)
  rw[R1.o] at C
  refine C.mono ?_
  clear C
  rintro _ w1 ⟨rfl,hb1⟩
  obtain ⟨hc_w1,hf_w1⟩:=C_ hb1
  have hz0_w1:w.heap.size<w1.heap.size:=N_ hb1
  have hz1_w1:w.heap.size+1<w1.heap.size:=N_ hb1
  have hz2_w1:w.heap.size+1+1<w1.heap.size:=N_ hb1
  go_wp2_with fail
  have C:=A3u A4 n4 c4 s.den _ w1 (Sl.below H4.o Below.go)
  rw[S1.o] at C
  refine C.mono ?_
  clear C
  rintro _ w2 ⟨rfl,hb2⟩
  obtain ⟨hc_w2,hf_w2⟩:=C_ hb2
  have hz0_w2:w.heap.size<w2.heap.size:=N_ hb2
  have hz1_w2:w.heap.size+1<w2.heap.size:=N_ hb2
  have hz2_w2:w.heap.size+1+1<w2.heap.size:=N_ hb2
  go_wp2_with fail
  have bb2:Below w.heap.size w w2:=Below.go
  refine (B1o _ _ r.num s.num _ _ w2 (TBigInt.mkAgg (Sl.below H1.o bb2)) (TBigInt.mkAgg (Sl.below H3.o bb2)) VR.o.mag VS.o.mag (Nat.le_trans VR.o.num24 (by decide)) (Nat.le_trans VS.o.num24 (by decide))).mono ?_
  rintro _ w3 ⟨v3,s5,rfl,ha3,ho3,hb3⟩
  obtain ⟨B1,m1,d1,t1,rfl,hz,hs5⟩:=TBigInt.agg ha3
  have HS5:=A_ hs5;have HO5:=A_ ho3
  clear ha3 ho3 hz hs5
  obtain ⟨hc_w3,hf_w3⟩:=C_ hb3
  have hz0_w3:w.heap.size<w3.heap.size:=N_ hb3
  have hz1_w3:w.heap.size+1<w3.heap.size:=N_ hb3
  have hz2_w3:w.heap.size+1+1<w3.heap.size:=N_ hb3
  go_wp2_with fail
  obtain ⟨ls,hls,_⟩:=D1h (w3.alloc (.cells #[.bool (Q_ (A0f r.num+A0f s.num)).neg,.slice B1 m1 d1] 33)) [1] (by simp[maxLen]) (by simp[I64])
  rw[show (w3.alloc (.cells #[.bool (Q_ (A0f r.num+A0f s.num)).neg,.slice B1 m1 d1] 33)).heap.size=w3.heap.size+1 by simp] at hls
  have C:=A6g (Q_ (A0f r.num+A0f s.num)).neg B1 (some ⟨w3.heap.size+1,0,none⟩) m1 1 d1 1 (Q_ (A0f r.num+A0f s.num)).mag [1] t1 ls ((w3.alloc (.cells #[.bool (Q_ (A0f r.num+A0f s.num)).neg,.slice B1 m1 d1] 33)).alloc (.cells #[.int .i64 1] 3)) (Sl.below (Sl.below HS5.o (Below.box _)) (Below.box _)) hls (A0y _) ⟨Lims.one (by decide) (by decide),by decide⟩ (by decide) (by rw[← HS5.o.1];exact Nat.le_trans (A4b (B7d VR.o.numlt VS.o.numlt)) (by decide)) (by decide)
  rw[show B1i (Q_ (A0f r.num+A0f s.num)).neg (Q_ (A0f r.num+A0f s.num)).mag=L_ r+L_ s from A1m _,← ER.o.1,← ER.o.2] at C
  refine C.mono ?_
  clear C hls
  rintro _ w4 ⟨v4,s6,rfl,ha4,ho4,hb4⟩
  obtain ⟨P1,m5,d5,t5,P2,m6,d6,t6,rfl,hz,_,_⟩:=TRat.agg ha4
  have HA:=A_ ha4;have HO:=A_ ho4
  have HL:=A_ (show w.heap.size+3≤w3.heap.size by omega)
  clear ha4 ho4 hz
  obtain ⟨hc_w4,hf_w4⟩:=C_ hb4
  have hz0_w4:w.heap.size<w4.heap.size:=by have:=hb4.size;simp at this;omega
  have hz1_w4:w.heap.size+1<w4.heap.size:=by have:=hb4.size;simp at this;omega
  have hz2_w4:w.heap.size+1+1<w4.heap.size:=by have:=hb4.size;simp at this;omega
  have hzz:w.heap.size+1+1<w3.heap.size+1+1:=by omega
  go_wp2
  refine bodyPost_ret (v:=.agg #[.bool (mkR (L_ r*I_ s+L_ s*I_ r) (I_ r*I_ s)).num.neg,.slice P1 m5 d5,.slice P2 m6 d6]) (by simp[results,Tryz.results302,go_sem, *]) rfl ?_
  refine A0o (lo:=w.heap.size+3) HA.o HO.o.free (fun b hb=>by have:=(HO.o.range b hb).1;have:=HL.o;simp at *;omega) (by omega) ?_ ?_
  ·exact Above.go
  exact Below.go
 have N1:=A_ (show n1≤1048576 by rw[← H1.o.1];have:=VR.o.num24;omega)
 have N2:=A_ (show n2≤1048576 by rw[← H2.o.1];have:=VR.o.den24;omega)
 have N3:=A_ (show n3≤1048576 by rw[← H3.o.1];have:=VS.o.num24;omega)
 have N4:=A_ (show n4≤1048576 by rw[← H4.o.1];have:=VS.o.den24;omega)
 by_cases hr1:r.den=[1]
 ·have R1:=A_ (show decide (r.den=[1])=true by simp[hr1])
  have S1:=A_ (show decide (s.den=[1])=false by simp;intro h;exact hb ⟨hr1,h⟩)
  clear hb hr1
  go_enter Tryz.func302,Tryz.ntmps302
  go_wp2_with fail
  have C:=A3u A2 n2 c2 r.den _ (((w.alloc (.cells #[.bool r.num.neg,.slice A1 n1 c1,.slice A2 n2 c2] 35)).alloc (.cells #[.bool s.num.neg,.slice A3 n3 c3,.slice A4 n4 c4] 35)).alloc (.cells #[.bool false,.slice none 0 0,.slice none 0 0] 35)) (Sl.below H2.o Below.go)
  rw[R1.o] at C
  refine C.mono ?_
  clear C
  rintro _ w0 ⟨rfl,hb0⟩
  obtain ⟨hc_w0,hf_w0⟩:=C_ hb0
  have hz0_w0:w.heap.size<w0.heap.size:=N_ hb0
  have hz1_w0:w.heap.size+1<w0.heap.size:=N_ hb0
  have hz2_w0:w.heap.size+1+1<w0.heap.size:=N_ hb0
  go_wp2_with fail
  have C:=A3u A4 n4 c4 s.den _ w0 (Sl.below H4.o Below.go)
  rw[S1.o] at C
  refine C.mono ?_
  clear C
  rintro _ w1 ⟨rfl,hb1⟩
  obtain ⟨hc_w1,hf_w1⟩:=C_ hb1
  have hz0_w1:w.heap.size<w1.heap.size:=N_ hb1
  have hz1_w1:w.heap.size+1<w1.heap.size:=N_ hb1
  have hz2_w1:w.heap.size+1+1<w1.heap.size:=N_ hb1
  go_wp2_with fail
  refine Z_ (by simp) ?_
  dsimp only [List.dropLast,List.getLast,List.length]
  iterate 8
   refine D_ _ ?_
  refine F_ (MP.sl (dig (G_ r.num.mag*G_ s.den).toNat)) ?_ ?_
  ·intro yq zq wq hC hd
   obtain ⟨hcq,hfq⟩:=C_ hC
   simp at hd
   refine H_ ?_
   exact A0q ((A2b A1 A4 n1 n4 c1 c4 r.num.mag s.den _ _ wq (Sl.below H1.o Below.go) (Sl.below H4.o Below.go) VR.o.mag.1 VS.o.den.1 N1.o N4.o).mono fun _ _ h=>A3o (W_ _).1.i64 h)
  refine F_ (MP.agg (Q_ (L_ r*I_ s))) ?_ ?_
  ·intro yq zq wq hC hd
   obtain ⟨hcq,hfq⟩:=C_ hC
   simp at hd
   refine H_ ?_
   obtain ⟨_,⟨A,n,c,e,hs⟩,_⟩:=hd
   rw[e]
   have C:=A1o r.num.neg A n c _ _ wq hs (W_ _) (by rw[← hs.1];exact Nat.le_trans (B0r VR.o.mag.1 VS.o.den.1 VR.o.num24 VS.o.den24) (by decide))
   rw[C0z VR.o.mag.1 VS.o.den.1 hs.1] at C
   exact K_ C
  refine A1z #[.bool false,.slice none 0 0] 33 ?_ ?_
  ·intro yq zq wq hC hd
   refine ⟨by go_simp;done,?_⟩
   go_simp
  intro yq zq wa hC hd (hdis:Hid _)
  simp at hd
  have q9:=hd.2.2.2.2.2.2.2.2.2.1
  have q10:=hd.2.2.2.2.2.2.2.2.2.2
  obtain ⟨⟨ha9,hf9⟩,hr9⟩:=q9
  obtain ⟨B1,B2,B3,Bt,e9,hz9,hs9⟩:=TBigInt.agg ha9
  obtain ⟨⟨g,e10,hz10,hg⟩,hr10⟩:=q10
  have hgt:∀ b∈Bt,b≠g:=fun b hb e=>by
   have:=hdis.o 9 10 (by decide) (by decide) (by decide) b (by rw[hz9];exact hb)
   rw[hz10] at this;simp at this;exact this e
  rw[hz9] at hf9 hr9
  have hgw:w1.heap.size≤g∧g<wa.heap.size:=by have:=hr10 g (by rw[hz10];simp);omega
  have hgw1:=hgw.1
  obtain ⟨G0,F0⟩:=B_ hg (j:=0) rfl
  obtain ⟨G1,F1⟩:=B_ hg (j:=1) rfl
  obtain ⟨k1,k2⟩:=A9j hs9 hf9 hgt (.bool (Q_ (L_ r*I_ s)).neg) (.slice B1 B2 B3)
  have HK4:=A_ k1
  clear hd hdis hs9 hf9 hr9 hr10 hg hgt k1 k2 ha9 hz9 hz10
  have hb4:Below w.heap.size w ((wa.setCell ⟨g,0,none⟩ (.bool (Q_ (L_ r*I_ s)).neg)).setCell ⟨g,1,none⟩ (.slice B1 B2 B3)):=Below.go
  have K1:((wa.setCell ⟨g,0,none⟩ (.bool (Q_ (L_ r*I_ s)).neg)).setCell ⟨g,1,none⟩ (.slice B1 B2 B3)).cell? ⟨g,1,none⟩=some (.slice B1 B2 B3) :=
   World.cell?_setCell_same _ _ _ ((World.cell?_setCell_other wa ⟨g,0,none⟩ ⟨g,1,none⟩ _ (by simp)).trans G1)
  have K0:((wa.setCell ⟨g,0,none⟩ (.bool (Q_ (L_ r*I_ s)).neg)).setCell ⟨g,1,none⟩ (.slice B1 B2 B3)).cell? ⟨g,0,none⟩=some (.bool (Q_ (L_ r*I_ s)).neg) :=
   (World.cell?_setCell_other _ ⟨g,1,none⟩ ⟨g,0,none⟩ _ (by simp)).trans (World.cell?_setCell_same _ _ _ G0)
  have HBn4:=A_ (show Below w1.heap.size w1 ((wa.setCell ⟨g,0,none⟩ (.bool (Q_ (L_ r*I_ s)).neg)).setCell ⟨g,1,none⟩ (.slice B1 B2 B3)) from (hC.setCell (p:=⟨g,0,none⟩) hgw1 _).setCell (p:=⟨g,1,none⟩) hgw1 _)
  have HKa4:=A_ K0;have HKb4:=A_ K1;have HB4:=A_ hb4
  have HZ4:=A_ (show ((wa.setCell ⟨g,0,none⟩ (.bool (Q_ (L_ r*I_ s)).neg)).setCell ⟨g,1,none⟩ (.slice B1 B2 B3)).heap.size=wa.heap.size by simp)
  have hgl4:=hgw.2
  clear K0 K1 hb4
  obtain ⟨hc_wa,hf_wa⟩:=C_ hC
  have hz0_wa:w.heap.size<wa.heap.size:=N_ hC
  have hz1_wa:w.heap.size+1<wa.heap.size:=N_ hC
  have hz2_wa:w.heap.size+1+1<wa.heap.size:=N_ hC
  go_wp2_with fail
  generalize ((wa.setCell ⟨g,0,none⟩ (.bool (Q_ (L_ r*I_ s)).neg)).setCell ⟨g,1,none⟩ (.slice B1 B2 B3))=W4 at *
  have hgm4:g<W4.heap.size:=by have:=HZ4.o;omega
  have kka4:=HKa4.o
  have kkb4:=HKb4.o
  obtain ⟨hc_W4,hf_W4⟩:=C_ HBn4.o
  have hz4s:w1.heap.size≤W4.heap.size:=HBn4.o.size
  have hz4a:w.heap.size<W4.heap.size:=by omega
  have hz4b:w.heap.size+1<W4.heap.size:=by omega
  have hz4c:w.heap.size+1+1<W4.heap.size:=by omega
  clear G0 G1 F0 F1 hc_wa hf_wa e9 e10 hC hz0_wa hz1_wa hz2_wa hgw hgw1
  have hbW4:=HB4.o
  refine Z_ (by simp) ?_
  dsimp only [List.dropLast,List.getLast,List.length]
  iterate 8
   refine D_ _ ?_
  refine F_ (MP.sl (dig (G_ s.num.mag*G_ r.den).toNat)) ?_ ?_
  ·intro yq zq wq hC hd
   obtain ⟨hcq,hfq⟩:=C_ hC
   simp at hd
   refine H_ ?_
   exact A0q ((A2b A3 A2 n3 n2 c3 c2 s.num.mag r.den _ _ wq (Sl.below H3.o Below.go) (Sl.below H2.o Below.go) VS.o.mag.1 VR.o.den.1 N3.o N2.o).mono fun _ _ h=>A3o (W_ _).1.i64 h)
  refine F_ (MP.agg (Q_ (L_ s*I_ r))) ?_ ?_
  ·intro yq zq wq hC hd
   obtain ⟨hcq,hfq⟩:=C_ hC
   simp at hd
   refine H_ ?_
   obtain ⟨_,⟨A,n,c,e,hs⟩,_⟩:=hd
   rw[e]
   have C:=A1o s.num.neg A n c _ _ wq hs (W_ _) (by rw[← hs.1];exact Nat.le_trans (B0r VS.o.mag.1 VR.o.den.1 VS.o.num24 VR.o.den24) (by decide))
   rw[C0z VS.o.mag.1 VR.o.den.1 hs.1] at C
   exact K_ C
  refine A1z #[.bool false,.slice none 0 0] 33 ?_ ?_
  ·intro yq zq wq hC hd
   refine ⟨by go_simp;done,?_⟩
   go_simp
  intro yq zq wb hC hd (hdis:Hid _)
  simp at hd
  have q9:=hd.2.2.2.2.2.2.2.2.2.1
  have q10:=hd.2.2.2.2.2.2.2.2.2.2
  obtain ⟨⟨ha9,hf9⟩,hr9⟩:=q9
  obtain ⟨D1,D2,D3,Dt,e9,hz9,hs9⟩:=TBigInt.agg ha9
  obtain ⟨⟨g5,e10,hz10,hg⟩,hr10⟩:=q10
  have hgt:∀ b∈Dt,b≠g5:=fun b hb e=>by
   have:=hdis.o 9 10 (by decide) (by decide) (by decide) b (by rw[hz9];exact hb)
   rw[hz10] at this;simp at this;exact this e
  rw[hz9] at hf9 hr9
  have hgw:W4.heap.size≤g5∧g5<wb.heap.size:=by have:=hr10 g5 (by rw[hz10];simp);omega
  have hgw1:=hgw.1
  obtain ⟨G0,F0⟩:=B_ hg (j:=0) rfl
  obtain ⟨G1,F1⟩:=B_ hg (j:=1) rfl
  obtain ⟨k1,k2⟩:=A9j hs9 hf9 hgt (.bool (Q_ (L_ s*I_ r)).neg) (.slice D1 D2 D3)
  have HK5:=A_ k1
  clear hd hdis hs9 hf9 hr9 hr10 hg hgt k1 k2 ha9 hz9 hz10
  have hb4:Below w.heap.size w ((wb.setCell ⟨g5,0,none⟩ (.bool (Q_ (L_ s*I_ r)).neg)).setCell ⟨g5,1,none⟩ (.slice D1 D2 D3)):=Below.go
  have K1:((wb.setCell ⟨g5,0,none⟩ (.bool (Q_ (L_ s*I_ r)).neg)).setCell ⟨g5,1,none⟩ (.slice D1 D2 D3)).cell? ⟨g5,1,none⟩=some (.slice D1 D2 D3) :=
   World.cell?_setCell_same _ _ _ ((World.cell?_setCell_other wb ⟨g5,0,none⟩ ⟨g5,1,none⟩ _ (by simp)).trans G1)
  have K0:((wb.setCell ⟨g5,0,none⟩ (.bool (Q_ (L_ s*I_ r)).neg)).setCell ⟨g5,1,none⟩ (.slice D1 D2 D3)).cell? ⟨g5,0,none⟩=some (.bool (Q_ (L_ s*I_ r)).neg) :=
   (World.cell?_setCell_other _ ⟨g5,1,none⟩ ⟨g5,0,none⟩ _ (by simp)).trans (World.cell?_setCell_same _ _ _ G0)
  have HBn5:=A_ (show Below W4.heap.size W4 ((wb.setCell ⟨g5,0,none⟩ (.bool (Q_ (L_ s*I_ r)).neg)).setCell ⟨g5,1,none⟩ (.slice D1 D2 D3)) from (hC.setCell (p:=⟨g5,0,none⟩) hgw1 _).setCell (p:=⟨g5,1,none⟩) hgw1 _)
  have HKa5:=A_ K0;have HKb5:=A_ K1;have HB5:=A_ hb4
  have HZ5:=A_ (show ((wb.setCell ⟨g5,0,none⟩ (.bool (Q_ (L_ s*I_ r)).neg)).setCell ⟨g5,1,none⟩ (.slice D1 D2 D3)).heap.size=wb.heap.size by simp)
  have hgl5:=hgw.2
  clear K0 K1 hb4
  obtain ⟨hc_wb,hf_wb⟩:=C_ hC
  have hz0_wb:w.heap.size<wb.heap.size:=N_ hC
  have hz1_wb:w.heap.size+1<wb.heap.size:=N_ hC
  have hz2_wb:w.heap.size+1+1<wb.heap.size:=N_ hC
  go_wp2_with fail
  generalize ((wb.setCell ⟨g5,0,none⟩ (.bool (Q_ (L_ s*I_ r)).neg)).setCell ⟨g5,1,none⟩ (.slice D1 D2 D3))=W5 at *
  have hgm5:g5<W5.heap.size:=by have:=HZ5.o;omega
  have kka5:=HKa5.o
  have kkb5:=HKb5.o
  obtain ⟨hc_W5,hf_W5⟩:=C_ HBn5.o
  have hz5s:W4.heap.size≤W5.heap.size:=HBn5.o.size
  have hz5a:w.heap.size<W5.heap.size:=by omega
  have hz5b:w.heap.size+1<W5.heap.size:=by omega
  have hz5c:w.heap.size+1+1<W5.heap.size:=by omega
  clear G0 G1 F0 F1 hc_wb hf_wb e9 e10 hC hz0_wb hz1_wb hz2_wb hgw hgw1
  have hbW5:=HB5.o
  have bb5:Below w.heap.size w W5:=hbW5
  have T4:=A_ (show (Q_ (L_ r*I_ s)).mag.length≤59 from Nat.le_trans (A4b (A2u VR.o.numlt VS.o.denlt)) (by decide))
  have T5:=A_ (show (Q_ (L_ s*I_ r)).mag.length≤59 from Nat.le_trans (A4b (A2u VS.o.numlt VR.o.denlt)) (by decide))
  have T6:=A_ (show (Q_ (L_ r*I_ s+L_ s*I_ r)).mag.length≤65536 by
   have h:=A4b (B7d (A2u VR.o.numlt VS.o.denlt) (A2u VS.o.numlt VR.o.denlt))
   omega)
  go_wp2_with fail
  have C:=B1o _ _ (Q_ (L_ r*I_ s)) (Q_ (L_ s*I_ r)) _ _ W5 (TBigInt.mkAgg (Sl.below HK4.o HBn5.o)) (TBigInt.mkAgg HK5.o) (A0y _) (A0y _) T4.o T5.o
  rw[A1m,A1m] at C
  refine C.mono ?_
  clear C
  rintro _ w6 ⟨v6,s6,rfl,ha6,ho6,hb6⟩
  obtain ⟨E1,E2,E3,Et,rfl,hz,hs6⟩:=TBigInt.agg ha6
  have HS6:=A_ hs6
  clear ha6 ho6 hz hs6 kka4 kkb4 kka5 kkb5
  obtain ⟨hc_w6,hf_w6⟩:=C_ hb6
  have hz0_w6:w.heap.size<w6.heap.size:=N_ hb6
  have hz1_w6:w.heap.size+1<w6.heap.size:=N_ hb6
  have hz2_w6:w.heap.size+1+1<w6.heap.size:=N_ hb6
  go_wp2_with fail
  have bb6:Below w.heap.size w w6:=Below.next bb5 hb6
  refine Z_ (by simp) ?_
  dsimp only [List.dropLast,List.getLast,List.length]
  iterate 8
   refine D_ _ ?_
  refine F_ (MP.sl (dig (I_ r*I_ s).toNat)) ?_ ?_
  ·intro yq zq wq hC hd
   obtain ⟨hcq,hfq⟩:=C_ hC
   simp at hd
   refine H_ ?_
   exact A0q ((A2b A2 A4 n2 n4 c2 c4 r.den s.den _ _ wq (Sl.below H2.o Below.go) (Sl.below H4.o Below.go) VR.o.den.1 VS.o.den.1 N2.o N4.o).mono fun _ _ h=>A3o (W_ _).1.i64 h)
  refine F_ (MP.agg (mkR (L_ r*I_ s+L_ s*I_ r) (I_ r*I_ s))) ?_ ?_
  ·intro yq zq wq hC hd
   obtain ⟨hcq,hfq⟩:=C_ hC
   simp at hd
   refine H_ ?_
   obtain ⟨_,_,⟨A',n',c',e',hs'⟩,_⟩:=hd
   rw[e']
   have C:=A6g (Q_ (L_ r*I_ s+L_ s*I_ r)).neg E1 A' E2 n' E3 c' (Q_ (L_ r*I_ s+L_ s*I_ r)).mag _ _ _ wq (Sl.below (Sl.below HS6.o (Below.box _)) hC) hs' (A0y _) (W_ _) (by rw[← hs'.1];exact DD.o.pos) (by rw[← HS6.o.1];exact T6.o) (by rw[← hs'.1];exact DD.o.le)
   rw[show B1i (Q_ (L_ r*I_ s+L_ s*I_ r)).neg (Q_ (L_ r*I_ s+L_ s*I_ r)).mag=L_ r*I_ s+L_ s*I_ r from A1m _,DD.o.v] at C
   exact K_ C
  intro yq zq wc hC hd (hdis:Hid _)
  simp at hd
  have q9:=hd.2.2.2.2.2.2.2.2.2
  obtain ⟨⟨ha,hf⟩,hr⟩:=q9
  obtain ⟨P1,P2,P3,Pt,Q1,Q2,Q3,Qt,e9,hz,hs1,hs2⟩:=TRat.agg ha
  have HA:=A_ ha;have HF:=A_ hf;have HR:=A_ hr
  clear hd hdis hz hs1 hs2 ha hf hr
  have HL:=A_ (show w.heap.size+3≤(w6.alloc (.cells #[.bool (Q_ (L_ r*I_ s+L_ s*I_ r)).neg,.slice E1 E2 E3] 33)).heap.size by simp;omega)
  obtain ⟨hc_wc,hf_wc⟩:=C_ hC
  have hz0_wc:w.heap.size<wc.heap.size:=by have:=hC.size;simp at this;omega
  have hz1_wc:w.heap.size+1<wc.heap.size:=by have:=hC.size;simp at this;omega
  have hz2_wc:w.heap.size+1+1<wc.heap.size:=by have:=hC.size;simp at this;omega
  have hzz:w.heap.size+1+1<w6.heap.size+1:=by omega
  go_wp2
  refine bodyPost_ret (v:=.agg #[.bool (mkR (L_ r*I_ s+L_ s*I_ r) (I_ r*I_ s)).num.neg,.slice P1 P2 P3,.slice Q1 Q2 Q3]) (by simp[results,Tryz.results302,go_sem, *]) rfl ?_
  rw[e9] at HA
  refine A0o (lo:=w.heap.size+3) HA.o HF.o (fun b hb=>by have:=(HR.o b hb).1;have:=HL.o;omega) (by omega) ?_ ?_
  ·exact Above.go
  exact Below.go
 have R1:=A_ (show decide (r.den=[1])=false by simp[hr1])
 clear hb hr1
 go_enter Tryz.func302,Tryz.ntmps302
 go_wp2_with fail
 have C:=A3u A2 n2 c2 r.den _ (((w.alloc (.cells #[.bool r.num.neg,.slice A1 n1 c1,.slice A2 n2 c2] 35)).alloc (.cells #[.bool s.num.neg,.slice A3 n3 c3,.slice A4 n4 c4] 35)).alloc (.cells #[.bool false,.slice none 0 0,.slice none 0 0] 35)) (Sl.below H2.o Below.go)
 rw[R1.o] at C
 refine C.mono ?_
 clear C
 rintro _ w1 ⟨rfl,hb1⟩
 obtain ⟨hc_w1,hf_w1⟩:=C_ hb1
 have hz0_w1:w.heap.size<w1.heap.size:=N_ hb1
 have hz1_w1:w.heap.size+1<w1.heap.size:=N_ hb1
 have hz2_w1:w.heap.size+1+1<w1.heap.size:=N_ hb1
 go_wp2_with fail
 refine Z_ (by simp) ?_
 dsimp only [List.dropLast,List.getLast,List.length]
 iterate 8
  refine D_ _ ?_
 refine F_ (MP.sl (dig (G_ r.num.mag*G_ s.den).toNat)) ?_ ?_
 ·intro yq zq wq hC hd
  obtain ⟨hcq,hfq⟩:=C_ hC
  simp at hd
  refine H_ ?_
  exact A0q ((A2b A1 A4 n1 n4 c1 c4 r.num.mag s.den _ _ wq (Sl.below H1.o Below.go) (Sl.below H4.o Below.go) VR.o.mag.1 VS.o.den.1 N1.o N4.o).mono fun _ _ h=>A3o (W_ _).1.i64 h)
 refine F_ (MP.agg (Q_ (L_ r*I_ s))) ?_ ?_
 ·intro yq zq wq hC hd
  obtain ⟨hcq,hfq⟩:=C_ hC
  simp at hd
  refine H_ ?_
  obtain ⟨_,⟨A,n,c,e,hs⟩,_⟩:=hd
  rw[e]
  have C:=A1o r.num.neg A n c _ _ wq hs (W_ _) (by rw[← hs.1];exact Nat.le_trans (B0r VR.o.mag.1 VS.o.den.1 VR.o.num24 VS.o.den24) (by decide))
  rw[C0z VR.o.mag.1 VS.o.den.1 hs.1] at C
  exact K_ C
 refine A1z #[.bool false,.slice none 0 0] 33 ?_ ?_
 ·intro yq zq wq hC hd
  refine ⟨by go_simp;done,?_⟩
  go_simp
 intro yq zq wa hC hd (hdis:Hid _)
 simp at hd
 have q9:=hd.2.2.2.2.2.2.2.2.2.1
 have q10:=hd.2.2.2.2.2.2.2.2.2.2
 obtain ⟨⟨ha9,hf9⟩,hr9⟩:=q9
 obtain ⟨B1,B2,B3,Bt,e9,hz9,hs9⟩:=TBigInt.agg ha9
 obtain ⟨⟨g,e10,hz10,hg⟩,hr10⟩:=q10
 have hgt:∀ b∈Bt,b≠g:=fun b hb e=>by
  have:=hdis.o 9 10 (by decide) (by decide) (by decide) b (by rw[hz9];exact hb)
  rw[hz10] at this;simp at this;exact this e
 rw[hz9] at hf9 hr9
 have hgw:w1.heap.size≤g∧g<wa.heap.size:=by have:=hr10 g (by rw[hz10];simp);omega
 have hgw1:=hgw.1
 obtain ⟨G0,F0⟩:=B_ hg (j:=0) rfl
 obtain ⟨G1,F1⟩:=B_ hg (j:=1) rfl
 obtain ⟨k1,k2⟩:=A9j hs9 hf9 hgt (.bool (Q_ (L_ r*I_ s)).neg) (.slice B1 B2 B3)
 have HK4:=A_ k1
 clear hd hdis hs9 hf9 hr9 hr10 hg hgt k1 k2 ha9 hz9 hz10
 have hb4:Below w.heap.size w ((wa.setCell ⟨g,0,none⟩ (.bool (Q_ (L_ r*I_ s)).neg)).setCell ⟨g,1,none⟩ (.slice B1 B2 B3)):=Below.go
 have K1:((wa.setCell ⟨g,0,none⟩ (.bool (Q_ (L_ r*I_ s)).neg)).setCell ⟨g,1,none⟩ (.slice B1 B2 B3)).cell? ⟨g,1,none⟩=some (.slice B1 B2 B3) :=
  World.cell?_setCell_same _ _ _ ((World.cell?_setCell_other wa ⟨g,0,none⟩ ⟨g,1,none⟩ _ (by simp)).trans G1)
 have K0:((wa.setCell ⟨g,0,none⟩ (.bool (Q_ (L_ r*I_ s)).neg)).setCell ⟨g,1,none⟩ (.slice B1 B2 B3)).cell? ⟨g,0,none⟩=some (.bool (Q_ (L_ r*I_ s)).neg) :=
  (World.cell?_setCell_other _ ⟨g,1,none⟩ ⟨g,0,none⟩ _ (by simp)).trans (World.cell?_setCell_same _ _ _ G0)
 have HBn4:=A_ (show Below w1.heap.size w1 ((wa.setCell ⟨g,0,none⟩ (.bool (Q_ (L_ r*I_ s)).neg)).setCell ⟨g,1,none⟩ (.slice B1 B2 B3)) from (hC.setCell (p:=⟨g,0,none⟩) hgw1 _).setCell (p:=⟨g,1,none⟩) hgw1 _)
 have HKa4:=A_ K0;have HKb4:=A_ K1;have HB4:=A_ hb4
 have HZ4:=A_ (show ((wa.setCell ⟨g,0,none⟩ (.bool (Q_ (L_ r*I_ s)).neg)).setCell ⟨g,1,none⟩ (.slice B1 B2 B3)).heap.size=wa.heap.size by simp)
 have hgl4:=hgw.2
 clear K0 K1 hb4
 obtain ⟨hc_wa,hf_wa⟩:=C_ hC
 have hz0_wa:w.heap.size<wa.heap.size:=N_ hC
 have hz1_wa:w.heap.size+1<wa.heap.size:=N_ hC
 have hz2_wa:w.heap.size+1+1<wa.heap.size:=N_ hC
 go_wp2_with fail
 generalize ((wa.setCell ⟨g,0,none⟩ (.bool (Q_ (L_ r*I_ s)).neg)).setCell ⟨g,1,none⟩ (.slice B1 B2 B3))=W4 at *
 have hgm4:g<W4.heap.size:=by have:=HZ4.o;omega
 have kka4:=HKa4.o
 have kkb4:=HKb4.o
 obtain ⟨hc_W4,hf_W4⟩:=C_ HBn4.o
 have hz4s:w1.heap.size≤W4.heap.size:=HBn4.o.size
 have hz4a:w.heap.size<W4.heap.size:=by omega
 have hz4b:w.heap.size+1<W4.heap.size:=by omega
 have hz4c:w.heap.size+1+1<W4.heap.size:=by omega
 clear G0 G1 F0 F1 hc_wa hf_wa e9 e10 hC hz0_wa hz1_wa hz2_wa hgw hgw1
 have hbW4:=HB4.o
 refine Z_ (by simp) ?_
 dsimp only [List.dropLast,List.getLast,List.length]
 iterate 8
  refine D_ _ ?_
 refine F_ (MP.sl (dig (G_ s.num.mag*G_ r.den).toNat)) ?_ ?_
 ·intro yq zq wq hC hd
  obtain ⟨hcq,hfq⟩:=C_ hC
  simp at hd
  refine H_ ?_
  exact A0q ((A2b A3 A2 n3 n2 c3 c2 s.num.mag r.den _ _ wq (Sl.below H3.o Below.go) (Sl.below H2.o Below.go) VS.o.mag.1 VR.o.den.1 N3.o N2.o).mono fun _ _ h=>A3o (W_ _).1.i64 h)
 refine F_ (MP.agg (Q_ (L_ s*I_ r))) ?_ ?_
 ·intro yq zq wq hC hd
  obtain ⟨hcq,hfq⟩:=C_ hC
  simp at hd
  refine H_ ?_
  obtain ⟨_,⟨A,n,c,e,hs⟩,_⟩:=hd
  rw[e]
  have C:=A1o s.num.neg A n c _ _ wq hs (W_ _) (by rw[← hs.1];exact Nat.le_trans (B0r VS.o.mag.1 VR.o.den.1 VS.o.num24 VR.o.den24) (by decide))
  rw[C0z VS.o.mag.1 VR.o.den.1 hs.1] at C
  exact K_ C
 refine A1z #[.bool false,.slice none 0 0] 33 ?_ ?_
 ·intro yq zq wq hC hd
  refine ⟨by go_simp;done,?_⟩
  go_simp
 intro yq zq wb hC hd (hdis:Hid _)
 simp at hd
 have q9:=hd.2.2.2.2.2.2.2.2.2.1
 have q10:=hd.2.2.2.2.2.2.2.2.2.2
 obtain ⟨⟨ha9,hf9⟩,hr9⟩:=q9
 obtain ⟨D1,D2,D3,Dt,e9,hz9,hs9⟩:=TBigInt.agg ha9
 obtain ⟨⟨g5,e10,hz10,hg⟩,hr10⟩:=q10
 have hgt:∀ b∈Dt,b≠g5:=fun b hb e=>by
  have:=hdis.o 9 10 (by decide) (by decide) (by decide) b (by rw[hz9];exact hb)
  rw[hz10] at this;simp at this;exact this e
 rw[hz9] at hf9 hr9
 have hgw:W4.heap.size≤g5∧g5<wb.heap.size:=by have:=hr10 g5 (by rw[hz10];simp);omega
 have hgw1:=hgw.1
 obtain ⟨G0,F0⟩:=B_ hg (j:=0) rfl
 obtain ⟨G1,F1⟩:=B_ hg (j:=1) rfl
 obtain ⟨k1,k2⟩:=A9j hs9 hf9 hgt (.bool (Q_ (L_ s*I_ r)).neg) (.slice D1 D2 D3)
 have HK5:=A_ k1
 clear hd hdis hs9 hf9 hr9 hr10 hg hgt k1 k2 ha9 hz9 hz10
 have hb4:Below w.heap.size w ((wb.setCell ⟨g5,0,none⟩ (.bool (Q_ (L_ s*I_ r)).neg)).setCell ⟨g5,1,none⟩ (.slice D1 D2 D3)):=Below.go
 have K1:((wb.setCell ⟨g5,0,none⟩ (.bool (Q_ (L_ s*I_ r)).neg)).setCell ⟨g5,1,none⟩ (.slice D1 D2 D3)).cell? ⟨g5,1,none⟩=some (.slice D1 D2 D3) :=
  World.cell?_setCell_same _ _ _ ((World.cell?_setCell_other wb ⟨g5,0,none⟩ ⟨g5,1,none⟩ _ (by simp)).trans G1)
 have K0:((wb.setCell ⟨g5,0,none⟩ (.bool (Q_ (L_ s*I_ r)).neg)).setCell ⟨g5,1,none⟩ (.slice D1 D2 D3)).cell? ⟨g5,0,none⟩=some (.bool (Q_ (L_ s*I_ r)).neg) :=
  (World.cell?_setCell_other _ ⟨g5,1,none⟩ ⟨g5,0,none⟩ _ (by simp)).trans (World.cell?_setCell_same _ _ _ G0)
 have HBn5:=A_ (show Below W4.heap.size W4 ((wb.setCell ⟨g5,0,none⟩ (.bool (Q_ (L_ s*I_ r)).neg)).setCell ⟨g5,1,none⟩ (.slice D1 D2 D3)) from (hC.setCell (p:=⟨g5,0,none⟩) hgw1 _).setCell (p:=⟨g5,1,none⟩) hgw1 _)
 have HKa5:=A_ K0;have HKb5:=A_ K1;have HB5:=A_ hb4
 have HZ5:=A_ (show ((wb.setCell ⟨g5,0,none⟩ (.bool (Q_ (L_ s*I_ r)).neg)).setCell ⟨g5,1,none⟩ (.slice D1 D2 D3)).heap.size=wb.heap.size by simp)
 have hgl5:=hgw.2
 clear K0 K1 hb4
 obtain ⟨hc_wb,hf_wb⟩:=C_ hC
 have hz0_wb:w.heap.size<wb.heap.size:=N_ hC
 have hz1_wb:w.heap.size+1<wb.heap.size:=N_ hC
 have hz2_wb:w.heap.size+1+1<wb.heap.size:=N_ hC
 go_wp2_with fail
 generalize ((wb.setCell ⟨g5,0,none⟩ (.bool (Q_ (L_ s*I_ r)).neg)).setCell ⟨g5,1,none⟩ (.slice D1 D2 D3))=W5 at *
 have hgm5:g5<W5.heap.size:=by have:=HZ5.o;omega
 have kka5:=HKa5.o
 have kkb5:=HKb5.o
 obtain ⟨hc_W5,hf_W5⟩:=C_ HBn5.o
 have hz5s:W4.heap.size≤W5.heap.size:=HBn5.o.size
 have hz5a:w.heap.size<W5.heap.size:=by omega
 have hz5b:w.heap.size+1<W5.heap.size:=by omega
 have hz5c:w.heap.size+1+1<W5.heap.size:=by omega
 clear G0 G1 F0 F1 hc_wb hf_wb e9 e10 hC hz0_wb hz1_wb hz2_wb hgw hgw1
 have hbW5:=HB5.o
 have bb5:Below w.heap.size w W5:=hbW5
 have T4:=A_ (show (Q_ (L_ r*I_ s)).mag.length≤59 from Nat.le_trans (A4b (A2u VR.o.numlt VS.o.denlt)) (by decide))
 have T5:=A_ (show (Q_ (L_ s*I_ r)).mag.length≤59 from Nat.le_trans (A4b (A2u VS.o.numlt VR.o.denlt)) (by decide))
 have T6:=A_ (show (Q_ (L_ r*I_ s+L_ s*I_ r)).mag.length≤65536 by
  have h:=A4b (B7d (A2u VR.o.numlt VS.o.denlt) (A2u VS.o.numlt VR.o.denlt))
  omega)
 go_wp2_with fail
 have C:=B1o _ _ (Q_ (L_ r*I_ s)) (Q_ (L_ s*I_ r)) _ _ W5 (TBigInt.mkAgg (Sl.below HK4.o HBn5.o)) (TBigInt.mkAgg HK5.o) (A0y _) (A0y _) T4.o T5.o
 rw[A1m,A1m] at C
 refine C.mono ?_
 clear C
 rintro _ w6 ⟨v6,s6,rfl,ha6,ho6,hb6⟩
 obtain ⟨E1,E2,E3,Et,rfl,hz,hs6⟩:=TBigInt.agg ha6
 have HS6:=A_ hs6
 clear ha6 ho6 hz hs6 kka4 kkb4 kka5 kkb5
 obtain ⟨hc_w6,hf_w6⟩:=C_ hb6
 have hz0_w6:w.heap.size<w6.heap.size:=N_ hb6
 have hz1_w6:w.heap.size+1<w6.heap.size:=N_ hb6
 have hz2_w6:w.heap.size+1+1<w6.heap.size:=N_ hb6
 go_wp2_with fail
 have bb6:Below w.heap.size w w6:=Below.next bb5 hb6
 refine Z_ (by simp) ?_
 dsimp only [List.dropLast,List.getLast,List.length]
 iterate 8
  refine D_ _ ?_
 refine F_ (MP.sl (dig (I_ r*I_ s).toNat)) ?_ ?_
 ·intro yq zq wq hC hd
  obtain ⟨hcq,hfq⟩:=C_ hC
  simp at hd
  refine H_ ?_
  exact A0q ((A2b A2 A4 n2 n4 c2 c4 r.den s.den _ _ wq (Sl.below H2.o Below.go) (Sl.below H4.o Below.go) VR.o.den.1 VS.o.den.1 N2.o N4.o).mono fun _ _ h=>A3o (W_ _).1.i64 h)
 refine F_ (MP.agg (mkR (L_ r*I_ s+L_ s*I_ r) (I_ r*I_ s))) ?_ ?_
 ·intro yq zq wq hC hd
  obtain ⟨hcq,hfq⟩:=C_ hC
  simp at hd
  refine H_ ?_
  obtain ⟨_,_,⟨A',n',c',e',hs'⟩,_⟩:=hd
  rw[e']
  have C:=A6g (Q_ (L_ r*I_ s+L_ s*I_ r)).neg E1 A' E2 n' E3 c' (Q_ (L_ r*I_ s+L_ s*I_ r)).mag _ _ _ wq (Sl.below (Sl.below HS6.o (Below.box _)) hC) hs' (A0y _) (W_ _) (by rw[← hs'.1];exact DD.o.pos) (by rw[← HS6.o.1];exact T6.o) (by rw[← hs'.1];exact DD.o.le)
  rw[show B1i (Q_ (L_ r*I_ s+L_ s*I_ r)).neg (Q_ (L_ r*I_ s+L_ s*I_ r)).mag=L_ r*I_ s+L_ s*I_ r from A1m _,DD.o.v] at C
  exact K_ C
 intro yq zq wc hC hd (hdis:Hid _)
 simp at hd
 have q9:=hd.2.2.2.2.2.2.2.2.2
 obtain ⟨⟨ha,hf⟩,hr⟩:=q9
 obtain ⟨P1,P2,P3,Pt,Q1,Q2,Q3,Qt,e9,hz,hs1,hs2⟩:=TRat.agg ha
 have HA:=A_ ha;have HF:=A_ hf;have HR:=A_ hr
 clear hd hdis hz hs1 hs2 ha hf hr
 have HL:=A_ (show w.heap.size+3≤(w6.alloc (.cells #[.bool (Q_ (L_ r*I_ s+L_ s*I_ r)).neg,.slice E1 E2 E3] 33)).heap.size by simp;omega)
 obtain ⟨hc_wc,hf_wc⟩:=C_ hC
 have hz0_wc:w.heap.size<wc.heap.size:=by have:=hC.size;simp at this;omega
 have hz1_wc:w.heap.size+1<wc.heap.size:=by have:=hC.size;simp at this;omega
 have hz2_wc:w.heap.size+1+1<wc.heap.size:=by have:=hC.size;simp at this;omega
 have hzz:w.heap.size+1+1<w6.heap.size+1:=by omega
 go_wp2
 refine bodyPost_ret (v:=.agg #[.bool (mkR (L_ r*I_ s+L_ s*I_ r) (I_ r*I_ s)).num.neg,.slice P1 P2 P3,.slice Q1 Q2 Q3]) (by simp[results,Tryz.results302,go_sem, *]) rfl ?_
 rw[e9] at HA
 refine A0o (lo:=w.heap.size+3) HA.o HF.o (fun b hb=>by have:=(HR.o b hb).1;have:=HL.o;omega) (by omega) ?_ ?_
 ·exact Above.go
 exact Below.go
end Go.Proofs.YtbhemnidcleaiaaGreat.X
namespace Go.Proofs.YtbhemnidcleaiaaGreat.X
open Go.RowKit Go.XB Go.XN
attribute [local go_sem] O_ opAt P_ M_ Region.wanted yielded
attribute [local simp] P_ M_ MP.eq MP.agg MP.sl A0e

theorem B1v (v1 v2:Value) (r s:TRat) (b1 b2:List Nat) (w:World) (hx:Agg w v1 r b1) (hy:Agg w v2 s b2) :
  Calls Tryz.prog 279 #[v1,v2] w (X_ w (A2d r s)):=by
 have HX:=A_ hx;have HY:=A_ hy
 obtain ⟨A1,n1,c1,s1,A2,n2,c2,s2,rfl,rfl,hs1,hs2⟩:=TRat.agg hx
 obtain ⟨A3,n3,c3,s3,A4,n4,c4,s4,rfl,rfl,hs3,hs4⟩:=TRat.agg hy
 clear hs1 hs2 hs3 hs4 hx hy
 cases hr:S_ r
 ·have E:=A_ (show A2d r s=A1j by unfold A2d;rw[hr];rfl)
  have R:=A_ hr
  clear hr
  go_enter Tryz.func279,Tryz.ntmps279
  go_wp2_with fail
  have C:=A0n _ r _ (((w.alloc (.cells #[.bool r.num.neg,.slice A1 n1 c1,.slice A2 n2 c2] 35)).alloc (.cells #[.bool s.num.neg,.slice A3 n3 c3,.slice A4 n4 c4] 35)).alloc (.cells #[.bool false,.slice none 0 0,.slice none 0 0] 35)) (Agg.below HX.o Below.go)
  rw[R.o] at C
  refine C.mono ?_
  clear C
  rintro _ w1 ⟨rfl,hb1⟩
  obtain ⟨hc_w1,hf_w1⟩:=C_ hb1
  have hz0_w1:w.heap.size<w1.heap.size:=N_ hb1
  have hz1_w1:w.heap.size+1<w1.heap.size:=N_ hb1
  have hz2_w1:w.heap.size+1+1<w1.heap.size:=N_ hb1
  go_wp2
  refine bodyPost_ret (v:=.agg #[.bool false,.slice none 0 0,.slice none 0 0]) (by simp[results,Tryz.results279,go_sem, *]) rfl ?_
  rw[E.o]
  exact A1w Below.go
 cases hs:S_ s
 ·have E:=A_ (show A2d r s=A1j by unfold A2d;rw[hr,hs];rfl)
  have R:=A_ hr;have S:=A_ hs
  clear hr hs
  go_enter Tryz.func279,Tryz.ntmps279
  go_wp2_with fail
  have C:=A0n _ r _ (((w.alloc (.cells #[.bool r.num.neg,.slice A1 n1 c1,.slice A2 n2 c2] 35)).alloc (.cells #[.bool s.num.neg,.slice A3 n3 c3,.slice A4 n4 c4] 35)).alloc (.cells #[.bool false,.slice none 0 0,.slice none 0 0] 35)) (Agg.below HX.o Below.go)
  rw[R.o] at C
  refine C.mono ?_
  clear C
  rintro _ w1 ⟨rfl,hb1⟩
  obtain ⟨hc_w1,hf_w1⟩:=C_ hb1
  have hz0_w1:w.heap.size<w1.heap.size:=N_ hb1
  have hz1_w1:w.heap.size+1<w1.heap.size:=N_ hb1
  have hz2_w1:w.heap.size+1+1<w1.heap.size:=N_ hb1
  go_wp2_with fail
  have C:=A0n _ s _ w1 (Agg.below HY.o Below.go)
  rw[S.o] at C
  refine C.mono ?_
  clear C
  rintro _ w2 ⟨rfl,hb2⟩
  obtain ⟨hc_w2,hf_w2⟩:=C_ hb2
  have hz0_w2:w.heap.size<w2.heap.size:=N_ hb2
  have hz1_w2:w.heap.size+1<w2.heap.size:=N_ hb2
  have hz2_w2:w.heap.size+1+1<w2.heap.size:=N_ hb2
  go_wp2
  refine bodyPost_ret (v:=.agg #[.bool false,.slice none 0 0,.slice none 0 0]) (by simp[results,Tryz.results279,go_sem, *]) rfl ?_
  rw[E.o]
  exact A1w Below.go
 have R:=A_ hr;have S:=A_ hs
 have VR:=A_ (ratOkB_iff.1 hr);have VS:=A_ (ratOkB_iff.1 hs)
 have E:=A_ (show A2d r s=mkR (L_ r*I_ s+L_ s*I_ r) (I_ r*I_ s) by unfold A2d;rw[hr,hs];rfl)
 clear hr hs
 go_enter Tryz.func279,Tryz.ntmps279
 go_wp2_with fail
 have C:=A0n _ r _ (((w.alloc (.cells #[.bool r.num.neg,.slice A1 n1 c1,.slice A2 n2 c2] 35)).alloc (.cells #[.bool s.num.neg,.slice A3 n3 c3,.slice A4 n4 c4] 35)).alloc (.cells #[.bool false,.slice none 0 0,.slice none 0 0] 35)) (Agg.below HX.o Below.go)
 rw[R.o] at C
 refine C.mono ?_
 clear C
 rintro _ w1 ⟨rfl,hb1⟩
 obtain ⟨hc_w1,hf_w1⟩:=C_ hb1
 have hz0_w1:w.heap.size<w1.heap.size:=N_ hb1
 have hz1_w1:w.heap.size+1<w1.heap.size:=N_ hb1
 have hz2_w1:w.heap.size+1+1<w1.heap.size:=N_ hb1
 go_wp2_with fail
 have C:=A0n _ s _ w1 (Agg.below HY.o Below.go)
 rw[S.o] at C
 refine C.mono ?_
 clear C
 rintro _ w2 ⟨rfl,hb2⟩
 obtain ⟨hc_w2,hf_w2⟩:=C_ hb2
 have hz0_w2:w.heap.size<w2.heap.size:=N_ hb2
 have hz1_w2:w.heap.size+1<w2.heap.size:=N_ hb2
 have hz2_w2:w.heap.size+1+1<w2.heap.size:=N_ hb2
 go_wp2_with fail
 refine (B6e _ _ r s _ _ w2 (Agg.below HX.o Below.go) (Agg.below HY.o Below.go) VR.o VS.o).mono ?_
 rintro _ w4 ⟨v4,s5,rfl,ha4,ho4,hb4⟩
 obtain ⟨B1,m1,d1,t1,B2,m2,d2,t2,rfl,hz,_,_⟩:=TRat.agg ha4
 have HA:=A_ ha4;have HO:=A_ ho4
 have HL:=A_ (show w.heap.size+3≤w2.heap.size by omega)
 clear ha4 ho4 hz
 obtain ⟨hc_w4,hf_w4⟩:=C_ hb4
 have hz0_w4:w.heap.size<w4.heap.size:=N_ hb4
 have hz1_w4:w.heap.size+1<w4.heap.size:=N_ hb4
 have hz2_w4:w.heap.size+1+1<w4.heap.size:=N_ hb4
 go_wp2
 refine bodyPost_ret (v:=.agg #[.bool (mkR (L_ r*I_ s+L_ s*I_ r) (I_ r*I_ s)).num.neg,.slice B1 m1 d1,.slice B2 m2 d2]) (by simp[results,Tryz.results279,go_sem, *]) rfl ?_
 rw[E.o]
 refine A0o (lo:=w.heap.size+3) HA.o HO.o.free (fun b hb=>by have:=(HO.o.range b hb).1;have:=HL.o;omega) (by omega) ?_ ?_
 ·exact Above.go
 exact Below.go

theorem B1y (v1 v2:Value) (r s:TRat) (b1 b2:List Nat) (w:World) (hx:Agg w v1 r b1) (hy:Agg w v2 s b2) :
  Calls Tryz.prog 306 #[v1,v2] w (X_ w (A0u r s)):=by
 have HX:=A_ hx;have HY:=A_ hy
 obtain ⟨A1,n1,c1,s1,A2,n2,c2,s2,rfl,rfl,hs1,hs2⟩:=TRat.agg hx
 obtain ⟨A3,n3,c3,s3,A4,n4,c4,s4,rfl,rfl,hs3,hs4⟩:=TRat.agg hy
 clear hs1 hs2 hs3 hs4 hx hy
 cases hr:S_ r
 ·have E:=A_ (show A0u r s=A1j by unfold A0u;rw[hr];rfl)
  have R:=A_ hr
  clear hr
  go_enter Tryz.func306,Tryz.ntmps306
  go_wp2_with fail
  have C:=A0n _ r _ (((w.alloc (.cells #[.bool r.num.neg,.slice A1 n1 c1,.slice A2 n2 c2] 35)).alloc (.cells #[.bool s.num.neg,.slice A3 n3 c3,.slice A4 n4 c4] 35)).alloc (.cells #[.bool false,.slice none 0 0,.slice none 0 0] 35)) (Agg.below HX.o Below.go)
  rw[R.o] at C
  refine C.mono ?_
  clear C
  rintro _ w1 ⟨rfl,hb1⟩
  obtain ⟨hc_w1,hf_w1⟩:=C_ hb1
  have hz0_w1:w.heap.size<w1.heap.size:=N_ hb1
  have hz1_w1:w.heap.size+1<w1.heap.size:=N_ hb1
  have hz2_w1:w.heap.size+1+1<w1.heap.size:=N_ hb1
  go_wp2
  refine bodyPost_ret (v:=.agg #[.bool false,.slice none 0 0,.slice none 0 0]) (by simp[results,Tryz.results306,go_sem, *]) rfl ?_
  rw[E.o]
  exact A1w Below.go
 cases hs:S_ s
 ·have E:=A_ (show A0u r s=A1j by unfold A0u;rw[hr,hs];rfl)
  have R:=A_ hr;have S:=A_ hs
  clear hr hs
  go_enter Tryz.func306,Tryz.ntmps306
  go_wp2_with fail
  have C:=A0n _ r _ (((w.alloc (.cells #[.bool r.num.neg,.slice A1 n1 c1,.slice A2 n2 c2] 35)).alloc (.cells #[.bool s.num.neg,.slice A3 n3 c3,.slice A4 n4 c4] 35)).alloc (.cells #[.bool false,.slice none 0 0,.slice none 0 0] 35)) (Agg.below HX.o Below.go)
  rw[R.o] at C
  refine C.mono ?_
  clear C
  rintro _ w1 ⟨rfl,hb1⟩
  obtain ⟨hc_w1,hf_w1⟩:=C_ hb1
  have hz0_w1:w.heap.size<w1.heap.size:=N_ hb1
  have hz1_w1:w.heap.size+1<w1.heap.size:=N_ hb1
  have hz2_w1:w.heap.size+1+1<w1.heap.size:=N_ hb1
  go_wp2_with fail
  have C:=A0n _ s _ w1 (Agg.below HY.o Below.go)
  rw[S.o] at C
  refine C.mono ?_
  clear C
  rintro _ w2 ⟨rfl,hb2⟩
  obtain ⟨hc_w2,hf_w2⟩:=C_ hb2
  have hz0_w2:w.heap.size<w2.heap.size:=N_ hb2
  have hz1_w2:w.heap.size+1<w2.heap.size:=N_ hb2
  have hz2_w2:w.heap.size+1+1<w2.heap.size:=N_ hb2
  go_wp2
  refine bodyPost_ret (v:=.agg #[.bool false,.slice none 0 0,.slice none 0 0]) (by simp[results,Tryz.results306,go_sem, *]) rfl ?_
  rw[E.o]
  exact A1w Below.go
 have R:=A_ hr;have S:=A_ hs
 have VR:=A_ (ratOkB_iff.1 hr);have VS:=A_ (ratOkB_iff.1 hs)
 have E:=A_ (show A0u r s=mkR (L_ r*I_ s - L_ s*I_ r) (I_ r*I_ s) by unfold A0u;rw[hr,hs];rfl)
 clear hr hs
 go_enter Tryz.func306,Tryz.ntmps306
 go_wp2_with fail
 have C:=A0n _ r _ (((w.alloc (.cells #[.bool r.num.neg,.slice A1 n1 c1,.slice A2 n2 c2] 35)).alloc (.cells #[.bool s.num.neg,.slice A3 n3 c3,.slice A4 n4 c4] 35)).alloc (.cells #[.bool false,.slice none 0 0,.slice none 0 0] 35)) (Agg.below HX.o Below.go)
 rw[R.o] at C
 refine C.mono ?_
 clear C
 rintro _ w1 ⟨rfl,hb1⟩
 obtain ⟨hc_w1,hf_w1⟩:=C_ hb1
 have hz0_w1:w.heap.size<w1.heap.size:=N_ hb1
 have hz1_w1:w.heap.size+1<w1.heap.size:=N_ hb1
 have hz2_w1:w.heap.size+1+1<w1.heap.size:=N_ hb1
 go_wp2_with fail
 have C:=A0n _ s _ w1 (Agg.below HY.o Below.go)
 rw[S.o] at C
 refine C.mono ?_
 clear C
 rintro _ w2 ⟨rfl,hb2⟩
 obtain ⟨hc_w2,hf_w2⟩:=C_ hb2
 have hz0_w2:w.heap.size<w2.heap.size:=N_ hb2
 have hz1_w2:w.heap.size+1<w2.heap.size:=N_ hb2
 have hz2_w2:w.heap.size+1+1<w2.heap.size:=N_ hb2
 go_wp2_with fail
 refine Z_ (by simp) ?_
 dsimp only [List.dropLast,List.getLast,List.length]
 iterate 2
  refine D_ _ ?_
 refine F_ (MP.agg (⟨Q_ (-L_ s),s.den⟩:TRat)) ?_ ?_
 ·intro yq zq wq hC hd
  obtain ⟨hcq,hfq⟩:=C_ hC
  simp at hd
  refine H_ ?_
  exact K_ (C3d _ s _ wq (Agg.below HY.o Below.go) VS.o)
 refine F_ (MP.agg (mkR (L_ r*I_ s - L_ s*I_ r) (I_ r*I_ s))) ?_ ?_
 ·intro yq zq wq hC hd
  obtain ⟨hcq,hfq⟩:=C_ hC
  simp at hd
  refine H_ ?_
  obtain ⟨_,t,_⟩:=hd
  have C:=B6e _ _ r ⟨Q_ (-L_ s),s.den⟩ _ _ wq (Agg.below HX.o Below.go) t VR.o VS.o.neg
  rw[(B4f s).1,(B4f s).2,Int.neg_mul,← Int.sub_eq_add_neg] at C
  exact K_ C
 intro yq zq wa hC hd (hdis:Hid _)
 simp at hd
 have q3:=hd.2.2.2
 obtain ⟨⟨ha,hf⟩,hr⟩:=q3
 obtain ⟨B3,m3,d3,t3,B4,m4,d4,t4,e3,hz,hs1,hs2⟩:=TRat.agg ha
 have HA:=A_ ha;have HF:=A_ hf;have HR:=A_ hr
 have HL:=A_ (show w.heap.size+3≤w2.heap.size by omega)
 clear hd hdis hz hs1 hs2 ha hf hr
 obtain ⟨hc_wa,hf_wa⟩:=C_ hC
 have hz0_wa:w.heap.size<wa.heap.size:=N_ hC
 have hz1_wa:w.heap.size+1<wa.heap.size:=N_ hC
 have hz2_wa:w.heap.size+1+1<wa.heap.size:=N_ hC
 go_wp2
 refine bodyPost_ret (v:=.agg #[.bool (mkR (L_ r*I_ s - L_ s*I_ r) (I_ r*I_ s)).num.neg,.slice B3 m3 d3,.slice B4 m4 d4]) (by simp[results,Tryz.results306,go_sem, *]) rfl ?_
 rw[E.o]
 rw[e3] at HA
 refine A0o (lo:=w.heap.size+3) HA.o HF.o (fun b hb=>by have:=(HR.o b hb).1;have:=HL.o;omega) (by omega) ?_ ?_
 ·exact Above.go
 exact Below.go
end Go.Proofs.YtbhemnidcleaiaaGreat.X

namespace Go.XN
open Go.XB
def B3l (xs:List TRat):TRat:=xs.foldl A2d (A1y 0)
theorem C8u {xs:List TRat} {k:Nat} {x:TRat} (h:xs[k]?=some x):B3l (xs.take (k+1))=A2d (B3l (xs.take k)) x:=by
 unfold B3l;rw[take_step h,List.foldl_append];rfl
end Go.XN
namespace Go.XB
theorem Free.keep {w w':World} {bs:List Nat} (h:Free w bs) (hk:∀ g∈bs,w'.heap[g]?=w.heap[g]?):Free w' bs:=⟨h.1,fun b hb=>by obtain ⟨cs,t,e⟩:=h.2 b hb;exact ⟨cs,t,(hk b hb).trans e⟩⟩
end Go.XB
namespace Go.Proofs.YtbhemnidcleaiaaGreat.X
open Go.RowKit Go.XB Go.XN
attribute [local go_sem] O_ opAt P_ M_ Region.wanted yielded
attribute [local simp] P_ M_ MP.eq MP.agg MP.sl A0e

theorem D0s (A:Option Addr) (n c:Nat) (xs:List TRat) (bs:List Nat) (w:World) (hx:Sl w A n c xs bs) :
  Calls Tryz.prog 41 #[.slice A n c] w (X_ w (B3l xs)):=by
 have HL:=A_ hx.1
 have HX:=A_ hx
 have hm:n≤maxLen:=Nat.le_trans hx.2.1 hx.2.2.1
 unfold maxLen at hm
 clear hx
 go_enter Tryz.func41,Tryz.ntmps41
 go_wp2_with fail
 refine (A2k 0 _ (by constructor<;>decide)).mono ?_
 rintro _ w1 ⟨v1,s1,rfl,ha1,ho1,hb1⟩
 obtain ⟨B1,m1,d1,t1,B2,m2,d2,t2,rfl,hz,_,_⟩:=TRat.agg ha1
 have HA:=A_ ha1;have HO:=A_ ho1
 clear ha1 ho1 hz
 obtain ⟨hc_w1,hf_w1⟩:=C_ hb1
 have hz0_w1:w.heap.size<w1.heap.size:=N_ hb1
 have HZ:=A_ (show w.heap.size+1≤w1.heap.size by have:=hb1.size;simp at this;omega)
 go_wp2_with fail
 go_loopg [9] n (fun g s wr=>∃ (k:Nat) (r:TRat) (A1:Option Addr) (n1 c1:Nat) (A2:Option Addr) (n2 c2:Nat) (rs:List Nat),k+g=n∧s=.int .i64 k∧Hid (r=B3l (xs.take k))∧Hid (Agg wr (.agg #[.bool r.num.neg,.slice A1 n1 c1,.slice A2 n2 c2]) r rs)∧Hid (Free wr rs∧∀ b∈rs,w.heap.size+1≤b∧b≠w1.heap.size)∧Below w.heap.size w wr∧(w1.heap.size<wr.heap.size∧wr.cell? ⟨w.heap.size,0,none⟩=some (.bool false)∧wr.cell? ⟨w.heap.size,1,none⟩=some (.slice none 0 0)∧wr.cell? ⟨w.heap.size,2,none⟩=some (.slice none 0 0)∧wr.frozen? ⟨w.heap.size,0,none⟩=false∧wr.frozen? ⟨w.heap.size,1,none⟩=false∧wr.frozen? ⟨w.heap.size,2,none⟩=false)∧wr.cell? ⟨w1.heap.size,0,none⟩=some (.bool r.num.neg)∧wr.cell? ⟨w1.heap.size,1,none⟩=some (.slice A1 n1 c1)∧wr.cell? ⟨w1.heap.size,2,none⟩=some (.slice A2 n2 c2)∧wr.frozen? ⟨w1.heap.size,0,none⟩=false∧wr.frozen? ⟨w1.heap.size,1,none⟩=false∧wr.frozen? ⟨w1.heap.size,2,none⟩=false)
 case atStart =>
  refine ⟨0,A1y 0,B1,m1,d1,B2,m2,d2,s1,by omega,rfl,by show A1y 0=B3l (xs.take 0);rfl,HA.o.below Below.go,⟨HO.o.free.below Below.go,fun b hb=>by have:=HO.o.range b hb;simp at this;omega⟩,Below.go,?_,?_⟩
  ·refine ⟨by simp,?_,?_,?_,?_,?_,?_⟩<;>go_simp
  refine ⟨?_,?_,?_,?_,?_,?_⟩<;>go_simp
 case round =>
  obtain ⟨k,r,A1,n1,c1,A2,n2,c2,rs,hk,rfl,hr,hag,hfr,hb,hc,ho⟩:=hrel
  have HB:=A_ hb
  obtain ⟨hc1,hc2⟩:=hc
  have HZ2:=A_ hc1
  rcases Nat.lt_or_ge k n with hkn | hkn
  ·obtain ⟨be,offe,x,E1,q1,p1,f1,E2,q2,p2,f2,rfl,hble,hx1,e0,e1,e2,hagx⟩:=TRat.elemA (Sl.below HX.o hb) hkn
   have HX1:=A_ hx1
   have HAG:=A_ hagx
   have hki:(k:Int)<n:=by omega
   obtain ⟨g,rfl⟩:∃ g,gk=g+1:=⟨gk - 1,by omega⟩
   have hk':=A_ (show k+1+g=n by omega)
   have hk1:k+1≤n:=hkn
   have hyw0:w.heap.size<wr.heap.size:=by have:=HZ.o;omega
   have hyw:w.heap.size<wr.heap.size+1:=by omega
   have hyw1:w1.heap.size<wr.heap.size+1:=by omega
   have RS:=A_ (show A2d r x=B3l (xs.take (k+1)) by rw[C8u HX1.o,hr.o])
   clear hx1 hk hkn hagx
   go_wp2_with fail
   refine (A7l _ _ r x _ _ _ (Agg.below hag.o (Below.box _)) (Agg.below HAG.o (Below.box _))).mono ?_
   rintro _ w2 ⟨v2,s2,rfl,ha2,ho2,hb2⟩
   obtain ⟨D1,x1,y1,z1,D2,x2,y2,z2,rfl,hz,_,_⟩:=TRat.agg ha2
   have HA2:=A_ ha2;have HO2:=A_ ho2;have HB2:=A_ hb2
   clear ha2 ho2 hz
   obtain ⟨hc_w2,hf_w2⟩:=C_ hb2
   have hzw:w.heap.size<w2.heap.size:=by have:=hb2.size;simp at this;omega
   have hzw1:w1.heap.size<w2.heap.size:=by have:=hb2.size;simp at this;omega
   have hnew:∀ b∈s2,w.heap.size+1≤b∧b≠w1.heap.size:=fun b hb=>by
    have:=(HO2.o.range b hb).1;simp at this;have:=HZ2.o;have:=HB.o.size;have:=HZ.o;omega
   have HN:=A_ hnew
   have HLE:=A_ (show w.heap.size≤w1.heap.size by have:=HZ.o;omega)
   clear hnew
   go_wp2_with fail
   go_roundg g
   case measure=>omega
   case rel =>
    have hkeep:∀ g∈s2,(((w2.setCell ⟨w1.heap.size,0,none⟩ (.bool (A2d r x).num.neg)).setCell ⟨w1.heap.size,1,none⟩ (.slice D1 x1 y1)).setCell ⟨w1.heap.size,2,none⟩ (.slice D2 x2 y2)).heap[g]?=w2.heap[g]? :=
     fun g hg=>A0b w1.heap.size [.bool (A2d r x).num.neg,.slice D1 x1 y1,.slice D2 x2 y2] w2 0 g (HN.o g hg).2
    refine ⟨k+1,A2d r x,D1,x1,y1,D2,x2,y2,s2,hk'.o,by go_num,RS.o,HA2.o.keep hkeep,⟨HO2.o.free.keep hkeep,HN.o⟩,?_,?_,?_⟩
    ·have hb3:Below w.heap.size w w2:=Below.next (Below.next HB.o (Below.box _)) HB2.o
     exact ((hb3.setCell (p:=⟨w1.heap.size,0,none⟩) HLE.o _).setCell (p:=⟨w1.heap.size,1,none⟩) HLE.o _).setCell (p:=⟨w1.heap.size,2,none⟩) HLE.o _
    ·refine ⟨by simp;omega,?_,?_,?_,?_,?_,?_⟩<;>go_simp
    refine ⟨?_,?_,?_,?_,?_,?_⟩<;>go_simp
  have hki:¬ ((k:Int)<n):=by omega
  have E:=A_ (show r=B3l xs by rw[hr.o,List.take_of_length_le (by rw[HL.o];omega)])
  clear hk hkn
  go_wp2_with fail
  refine bodyPost_ret (v:=.agg #[.bool r.num.neg,.slice A1 n1 c1,.slice A2 n2 c2]) (by simp[results,Tryz.results41,go_sem, *]) rfl ?_
  rw[← E.o]
  have hne:∀ b∈rs,b≠w.heap.size:=fun b hb=>by have:=(hfr.o.2 b hb).1;omega
  have hkeep:∀ g∈rs,(((wr.setCell ⟨w.heap.size,0,none⟩ (.bool r.num.neg)).setCell ⟨w.heap.size,1,none⟩ (.slice A1 n1 c1)).setCell ⟨w.heap.size,2,none⟩ (.slice A2 n2 c2)).heap[g]?=wr.heap[g]? :=
   fun g hg=>A0b w.heap.size [.bool r.num.neg,.slice A1 n1 c1,.slice A2 n2 c2] wr 0 g (hne g hg)
  refine ⟨_,rs,rfl,hag.o.keep hkeep,(hfr.o.1.keep hkeep).own (fun b hb=>by have:=(hfr.o.2 b hb).1;omega),?_⟩
  exact ((HB.o.setCell (p:=⟨w.heap.size,0,none⟩) (Nat.le_refl _) _).setCell (p:=⟨w.heap.size,1,none⟩) (Nat.le_refl _) _).setCell (p:=⟨w.heap.size,2,none⟩) (Nat.le_refl _) _

theorem C5d (A:Option Addr) (n c:Nat) (xs:List TRat) (bs:List Nat) (w:World) (hx:Sl w A n c xs bs) :
  Calls Tryz.prog 13 #[.slice A n c] w (X_ w (B3l xs)):=by
 have HX:=A_ hx
 clear hx
 go_enter Tryz.func13,Tryz.ntmps13
 go_wp2_with fail
 refine (D0s A n c xs _ _ (Sl.below HX.o Below.go)).mono ?_
 rintro _ w1 ⟨v1,s1,rfl,ha1,ho1,hb1⟩
 obtain ⟨B1,m1,d1,t1,B2,m2,d2,t2,rfl,hz,_,_⟩:=TRat.agg ha1
 have HA:=A_ ha1;have HO:=A_ ho1
 clear ha1 ho1 hz
 obtain ⟨hc_w1,hf_w1⟩:=C_ hb1
 have hz0_w1:w.heap.size<w1.heap.size:=N_ hb1
 have uc0:w1.cell? ⟨w.heap.size,0,none⟩=some (.bool false):=by go_simp
 have uf0:w1.frozen? ⟨w.heap.size,0,none⟩=false:=by go_simp
 have uc1:w1.cell? ⟨w.heap.size,1,none⟩=some (.slice none 0 0):=by go_simp
 have uf1:w1.frozen? ⟨w.heap.size,1,none⟩=false:=by go_simp
 have uc2:w1.cell? ⟨w.heap.size,2,none⟩=some (.slice none 0 0):=by go_simp
 have uf2:w1.frozen? ⟨w.heap.size,2,none⟩=false:=by go_simp
 go_wp2
 refine bodyPost_ret (v:=.agg #[.bool (B3l xs).num.neg,.slice B1 m1 d1,.slice B2 m2 d2]) (by simp[results,Tryz.results13,go_sem, *]) rfl ?_
 refine A0o (lo:=w.heap.size+1) HA.o HO.o.free (fun b hb=>by have:=(HO.o.range b hb).1;(try simp at this);omega) (by omega) ?_ ?_
 ·exact Above.go
 exact Below.go
end Go.Proofs.YtbhemnidcleaiaaGreat.X
namespace Go.Proofs.YtbhemnidcleaiaaGreat.X
open Go.RowKit Go.XB Go.XN

theorem C8p {A B:Int} (hB:0<B):∃ g a b:Int,0<g∧A=g*a∧B=g*b∧0<b∧Int.gcd a b=1∧A / Int.gcd A B=a∧B / Int.gcd A B=b:=by
 have hg:0<Int.gcd A B:=Int.gcd_pos_of_ne_zero_right A (by omega)
 have hg':(0:Int)<Int.gcd A B:=by omega
 have h1:=Int.mul_ediv_cancel' (Int.gcd_dvd_left (a:=A) (b:=B))
 have h2:=Int.mul_ediv_cancel' (Int.gcd_dvd_right (a:=A) (b:=B))
 refine ⟨Int.gcd A B,A / Int.gcd A B,B / Int.gcd A B,hg',h1.symm,h2.symm,?_,?_,rfl,rfl⟩
 ·exact Int.ediv_pos_of_pos_of_dvd hB (Int.le_of_lt hg') (Int.gcd_dvd_right _ _)
 exact Int.gcd_ediv_gcd_ediv_gcd hg

def D7k (p:Int) (r:TRat) (u:Int):Prop:=L_ r*p=I_ r*u
end Go.Proofs.YtbhemnidcleaiaaGreat.X
namespace Go.Proofs.YtbhemnidcleaiaaGreat.X
open Go.RowKit Go.XB Go.XN

theorem C4r {A B:Int} (hB:0<B):(!(mkR A B).den.isEmpty)=S_ (mkR A B):=by
 obtain ⟨g,a,b,hg,ha,hb,hb0,h1,e1,e2⟩:=C8p (A:=A) hB
 unfold mkR
 rw[e1,e2]
 split
 ·rename_i h2
  have hv:G_ (dig b.natAbs)=b:=by rw[A1n];omega
  have hne:dig b.natAbs≠[]:=by intro e;rw[e] at hv;simp[G_] at hv;omega
  have hV:S_ ⟨Q_ a,dig b.natAbs⟩=true:=by
   refine ratOkB_iff.2 ⟨?_,W_ _,by rw[hv];exact hb0,?_,h2.2,?_⟩
   ·show A1x (Q_ a)=true
    rw[bigOkB_iff]
    refine ⟨⟨by have:=h2.1;show (dig a.natAbs).length≤_;omega,W_ _⟩,?_⟩
    intro h3
    have h4:a<0:=by simpa [Q_] using h3
    show dig a.natAbs≠[]
    intro e
    have h5:=A1n a.natAbs
    rw[e] at h5
    simp[G_] at h5
    omega
   ·exact h2.1
   show Int.gcd (G_ (dig a.natAbs)) (G_ (dig b.natAbs))=1
   rw[A1n,A1n]
   simpa [Int.gcd] using h1
  rw[hV]
  cases hd:dig b.natAbs with
  | nil=>exact absurd hd hne
  | cons _ _=>rfl
 rfl
theorem C3r (r s:TRat):(!(A2d r s).den.isEmpty)=S_ (A2d r s):=by
 unfold A2d
 split
 ·rename_i h
  rw[Bool.and_eq_true] at h
  exact C4r (Int.mul_pos (ratOkB_iff.1 h.1).den0 (ratOkB_iff.1 h.2).den0)
 rfl
theorem C4n (r s:TRat):(!(A1c r s).den.isEmpty)=S_ (A1c r s):=by
 unfold A1c
 split
 ·rename_i h
  rw[Bool.and_eq_true] at h
  exact C4r (Int.mul_pos (ratOkB_iff.1 h.1).den0 (ratOkB_iff.1 h.2).den0)
 rfl
end Go.Proofs.YtbhemnidcleaiaaGreat.X

namespace Go.XN
open Go.XB
def C7k:TPoint:=⟨A1j,A1j⟩
def A0r (p:TPoint):Bool:=S_ p.x&&S_ p.y
def ifP (p:TPoint):TPoint:=bif A0r p then p else C7k
def A9b (p q:TPoint):TPoint:=ifP ⟨A2d p.x q.x,A2d p.y q.y⟩
def A2h (p q:TPoint):TPoint:=ifP ⟨A0u p.x q.x,A0u p.y q.y⟩
def A2q (r:TRat) (p:TPoint):TPoint:=ifP ⟨A1c r p.x,A1c r p.y⟩
def B2t (p q:TPoint):TRat:=A0u (A1c p.x q.y) (A1c p.y q.x)
def A0i (a b c:TPoint):TRat:=B2t (A2h b a) (A2h c a)
def B4o (p q:TPoint):TPoint:=A2q (mkR 1 2) (A9b p q)
end Go.XN
namespace Go.Proofs.YtbhemnidcleaiaaGreat.X
open Go.RowKit Go.XB Go.XN
attribute [local go_sem] O_ opAt P_ M_ Region.wanted yielded
attribute [local simp] P_ M_ MP.eq MP.agg MP.sl A0e

theorem C3s (r s:TRat):(!(A0u r s).den.isEmpty)=S_ (A0u r s):=by
 unfold A0u
 split
 ·rename_i h
  rw[Bool.and_eq_true] at h
  exact C4r (Int.mul_pos (ratOkB_iff.1 h.1).den0 (ratOkB_iff.1 h.2).den0)
 rfl
theorem C8i (w:World):Agg w (.agg #[.bool false,.slice none 0 0,.slice none 0 0,.bool false,.slice none 0 0,.slice none 0 0]) C7k []:=TPoint.mkAgg (x:=C7k) (Sl.nil w) (Sl.nil w) (Sl.nil w) (Sl.nil w)
theorem A6i {w W:World} (hb:Below w.heap.size w W):X_ w C7k (.returned (.agg #[.bool false,.slice none 0 0,.slice none 0 0,.bool false,.slice none 0 0,.slice none 0 0])) W:=⟨_,[],rfl,C8i W,Own.nil _ _,hb⟩
theorem Free.join {w:World} {a b:List Nat} (h1:Free w a) (h2:Free w b) (hd:∀ x∈a,x∉b):Free w (a++b) :=
 ⟨List.nodup_append.2 ⟨h1.1,h2.1,fun x hx _ hy e=>hd x hx (e ▸ hy)⟩,fun x hx=>(List.mem_append.1 hx).elim (h1.2 x) (h2.2 x)⟩
theorem A5o {w:World} {x:TPoint} {u0 u1 u2 u3 u4 u5:Value} {b1 b2:List Nat} (h1:Agg w (.agg #[u0,u1,u2]) x.x b1) (h2:Agg w (.agg #[u3,u4,u5]) x.y b2):Agg w (.agg #[u0,u1,u2,u3,u4,u5]) x (b1++b2):=by
 obtain ⟨A1,n1,c1,s1,A2,n2,c2,s2,e1,rfl,k1,k2⟩:=TRat.agg h1
 obtain ⟨A4,n4,c4,s4,A5,n5,c5,s5,e2,rfl,k4,k5⟩:=TRat.agg h2
 injection e1 with e1
 injection e2 with e2
 simp at e1 e2
 obtain ⟨rfl,rfl,rfl⟩:=e1
 obtain ⟨rfl,rfl,rfl⟩:=e2
 rw[List.append_assoc]
 exact TPoint.mkAgg k1 k2 k4 k5
theorem D5y {w:World} {x:TPoint} {u0 u1 u2 u3 u4 u5:Value} {b:List Nat} (h:Agg w (.agg #[u0,u1,u2,u3,u4,u5]) x b):∃ b1 b2,b=b1++b2∧Agg w (.agg #[u0,u1,u2]) x.x b1∧Agg w (.agg #[u3,u4,u5]) x.y b2:=by
 obtain ⟨A1,n1,c1,s1,A2,n2,c2,s2,A4,n4,c4,s4,A5,n5,c5,s5,e,rfl,k1,k2,k4,k5⟩:=TPoint.agg h
 injection e with e
 simp at e
 obtain ⟨rfl,rfl,rfl,rfl,rfl,rfl⟩:=e
 exact ⟨s1++s2,s4++s5,by rw[List.append_assoc],TRat.mkAgg k1 k2,TRat.mkAgg k4 k5⟩

theorem B4y (v:Value) (r:TRat) (b:List Nat) (w:World) (hx:Agg w v r b) :
  Calls Tryz.prog 9 #[v] w (A0j w (.int .i64 (A2s r))):=by
 have HX:=A_ hx
 obtain ⟨A1,n1,c1,s1,A2,n2,c2,s2,rfl,rfl,hs1,hs2⟩:=TRat.agg hx
 clear hs1 hs2 hx
 cases hok:S_ r
 ·have E:=A_ (show 0=A2s r by unfold A2s;rw[hok];rfl)
  have OK:=A_ hok
  clear hok
  go_enter Tryz.func9,Tryz.ntmps9
  go_wp2_with fail
  have C:=B3m _ r _ (w.alloc (.cells #[.bool r.num.neg,.slice A1 n1 c1,.slice A2 n2 c2] 35)) (HX.o.below (Below.box _))
  rw[OK.o] at C
  refine C.mono ?_
  clear C
  rintro _ w1 ⟨rfl,hb1⟩
  go_wp2
  go_ret
  exact ⟨A1d E.o,Below.trans (Below.box _) (hb1.mono (by simp))⟩
 have E:=A_ (show B5z r=A2s r by unfold A2s;rw[hok];rfl)
 have VR:=A_ (ratOkB_iff.1 hok)
 have OK:=A_ hok
 clear hok
 go_enter Tryz.func9,Tryz.ntmps9
 go_wp2_with fail
 have C:=B3m _ r _ (w.alloc (.cells #[.bool r.num.neg,.slice A1 n1 c1,.slice A2 n2 c2] 35)) (HX.o.below (Below.box _))
 rw[OK.o] at C
 refine C.mono ?_
 clear C
 rintro _ w1 ⟨rfl,hb1⟩
 obtain ⟨hc_w1,hf_w1⟩:=C_ hb1
 have hz0_w1:w.heap.size<w1.heap.size:=N_ hb1
 go_wp2_with fail
 refine (C0r _ r _ w1 ((HX.o.below (Below.box _)).below hb1) VR.o.mag (A8n VR.o.num)).mono ?_
 rintro _ w2 ⟨rfl,hb2⟩
 go_wp2
 go_ret
 exact ⟨A1d E.o,Below.next (Below.trans (Below.box _) (hb1.mono (by simp))) hb2⟩

theorem A6v (v:Value) (x:TPoint) (b:List Nat) (w:World) (hx:Agg w v x b) (h1:(!x.x.den.isEmpty)=S_ x.x) (h2:(!x.y.den.isEmpty)=S_ x.y) :
  Calls Tryz.prog 77 #[v] w (A0j w (bif A0r x then v else .agg #[.bool false,.slice none 0 0,.slice none 0 0,.bool false,.slice none 0 0,.slice none 0 0])):=by
 obtain ⟨A1,nA1,cA1,s1,A2,nA2,cA2,s2,A4,nA4,cA4,s4,A5,nA5,cA5,s5,rfl,rfl,hs1,hs2,hs4,hs5⟩:=TPoint.agg hx
 have P1:=A_ (TRat.mkAgg (x:=x.x) hs1 hs2);have P2:=A_ (TRat.mkAgg (x:=x.y) hs4 hs5)
 have D1:=A_ h1;have D2:=A_ h2
 clear hs1 hs2 hs4 hs5 hx h1 h2
 cases ho1:S_ x.x
 ·have E:=A_ (show A0r x=false by unfold A0r;rw[ho1];rfl)
  have O1:=A_ ho1
  clear ho1
  go_enter Tryz.func77,Tryz.ntmps77
  go_wp2_with fail
  have C:=A5h _ x.x _ ((w.alloc (.cells #[.bool x.x.num.neg,.slice A1 nA1 cA1,.slice A2 nA2 cA2,.bool x.y.num.neg,.slice A4 nA4 cA4,.slice A5 nA5 cA5] 38)).alloc (.cells #[.bool false,.slice none 0 0,.slice none 0 0,.bool false,.slice none 0 0,.slice none 0 0] 38)) (P1.o.below Below.go)
  rw[D1.o,O1.o] at C
  refine C.mono ?_
  clear C
  rintro _ w1 ⟨rfl,hb1⟩
  obtain ⟨hc_w1,hf_w1⟩:=C_ hb1
  have hz0_w1:w.heap.size<w1.heap.size:=N_ hb1
  have hz1_w1:w.heap.size+1<w1.heap.size:=N_ hb1
  go_wp2
  refine bodyPost_ret (v:=.agg #[.bool false,.slice none 0 0,.slice none 0 0,.bool false,.slice none 0 0,.slice none 0 0]) (by simp[results,Tryz.results77,go_sem, *]) rfl ?_
  rw[E.o]
  exact ⟨rfl,Below.go⟩
 have O1:=A_ ho1
 cases ho2:S_ x.y
 ·have E:=A_ (show A0r x=false by unfold A0r;rw[ho1,ho2];rfl)
  have O2:=A_ ho2
  clear ho1 ho2
  go_enter Tryz.func77,Tryz.ntmps77
  go_wp2_with fail
  have C:=A5h _ x.x _ ((w.alloc (.cells #[.bool x.x.num.neg,.slice A1 nA1 cA1,.slice A2 nA2 cA2,.bool x.y.num.neg,.slice A4 nA4 cA4,.slice A5 nA5 cA5] 38)).alloc (.cells #[.bool false,.slice none 0 0,.slice none 0 0,.bool false,.slice none 0 0,.slice none 0 0] 38)) (P1.o.below Below.go)
  rw[D1.o,O1.o] at C
  refine C.mono ?_
  clear C
  rintro _ w1 ⟨rfl,hb1⟩
  obtain ⟨hc_w1,hf_w1⟩:=C_ hb1
  have hz0_w1:w.heap.size<w1.heap.size:=N_ hb1
  have hz1_w1:w.heap.size+1<w1.heap.size:=N_ hb1
  go_wp2_with fail
  have C:=A5h _ x.y _ w1 (P2.o.below Below.go)
  rw[D2.o,O2.o] at C
  refine C.mono ?_
  clear C
  rintro _ w2 ⟨rfl,hb2⟩
  obtain ⟨hc_w2,hf_w2⟩:=C_ hb2
  have hz0_w2:w.heap.size<w2.heap.size:=N_ hb2
  have hz1_w2:w.heap.size+1<w2.heap.size:=N_ hb2
  go_wp2
  refine bodyPost_ret (v:=.agg #[.bool false,.slice none 0 0,.slice none 0 0,.bool false,.slice none 0 0,.slice none 0 0]) (by simp[results,Tryz.results77,go_sem, *]) rfl ?_
  rw[E.o]
  exact ⟨rfl,Below.go⟩
 have E:=A_ (show A0r x=true by unfold A0r;rw[ho1,ho2];rfl)
 have O2:=A_ ho2
 clear ho1 ho2
 go_enter Tryz.func77,Tryz.ntmps77
 go_wp2_with fail
 have C:=A5h _ x.x _ ((w.alloc (.cells #[.bool x.x.num.neg,.slice A1 nA1 cA1,.slice A2 nA2 cA2,.bool x.y.num.neg,.slice A4 nA4 cA4,.slice A5 nA5 cA5] 38)).alloc (.cells #[.bool false,.slice none 0 0,.slice none 0 0,.bool false,.slice none 0 0,.slice none 0 0] 38)) (P1.o.below Below.go)
 rw[D1.o,O1.o] at C
 refine C.mono ?_
 clear C
 rintro _ w1 ⟨rfl,hb1⟩
 obtain ⟨hc_w1,hf_w1⟩:=C_ hb1
 have hz0_w1:w.heap.size<w1.heap.size:=N_ hb1
 have hz1_w1:w.heap.size+1<w1.heap.size:=N_ hb1
 go_wp2_with fail
 have C:=A5h _ x.y _ w1 (P2.o.below Below.go)
 rw[D2.o,O2.o] at C
 refine C.mono ?_
 clear C
 rintro _ w2 ⟨rfl,hb2⟩
 obtain ⟨hc_w2,hf_w2⟩:=C_ hb2
 have hz0_w2:w.heap.size<w2.heap.size:=N_ hb2
 have hz1_w2:w.heap.size+1<w2.heap.size:=N_ hb2
 go_wp2
 refine bodyPost_ret (v:=.agg #[.bool x.x.num.neg,.slice A1 nA1 cA1,.slice A2 nA2 cA2,.bool x.y.num.neg,.slice A4 nA4 cA4,.slice A5 nA5 cA5]) (by simp[results,Tryz.results77,go_sem, *]) rfl ?_
 rw[E.o]
 exact ⟨rfl,Below.go⟩

theorem A0x (v:Value) (x:TPoint) (b:List Nat) (w:World) (hx:Agg w v x b) :
  Calls Tryz.prog 280 #[v] w (A0j w (.bool (A0r x))):=by
 obtain ⟨A1,nA1,cA1,s1,A2,nA2,cA2,s2,A4,nA4,cA4,s4,A5,nA5,cA5,s5,rfl,rfl,hs1,hs2,hs4,hs5⟩:=TPoint.agg hx
 have P1:=A_ (TRat.mkAgg (x:=x.x) hs1 hs2);have P2:=A_ (TRat.mkAgg (x:=x.y) hs4 hs5)
 clear hs1 hs2 hs4 hs5 hx
 cases ho1:S_ x.x
 ·have E:=A_ (show false=A0r x by unfold A0r;rw[ho1];rfl)
  have O1:=A_ ho1
  clear ho1
  go_enter Tryz.func280,Tryz.ntmps280
  go_wp2_with fail
  have C:=A0n _ x.x _ (w.alloc (.cells #[.bool x.x.num.neg,.slice A1 nA1 cA1,.slice A2 nA2 cA2,.bool x.y.num.neg,.slice A4 nA4 cA4,.slice A5 nA5 cA5] 38)) (P1.o.below Below.go)
  rw[O1.o] at C
  refine C.mono ?_
  clear C
  rintro _ w1 ⟨rfl,hb1⟩
  obtain ⟨hc_w1,hf_w1⟩:=C_ hb1
  have hz0_w1:w.heap.size<w1.heap.size:=N_ hb1
  go_wp2
  go_ret
  exact ⟨R_ E.o,Below.go⟩
 have E:=A_ (show S_ x.y=A0r x by unfold A0r;rw[ho1];rfl)
 have O1:=A_ ho1
 clear ho1
 go_enter Tryz.func280,Tryz.ntmps280
 go_wp2_with fail
 have C:=A0n _ x.x _ (w.alloc (.cells #[.bool x.x.num.neg,.slice A1 nA1 cA1,.slice A2 nA2 cA2,.bool x.y.num.neg,.slice A4 nA4 cA4,.slice A5 nA5 cA5] 38)) (P1.o.below Below.go)
 rw[O1.o] at C
 refine C.mono ?_
 clear C
 rintro _ w1 ⟨rfl,hb1⟩
 obtain ⟨hc_w1,hf_w1⟩:=C_ hb1
 have hz0_w1:w.heap.size<w1.heap.size:=N_ hb1
 go_wp2_with fail
 have C:=A0n _ x.y _ w1 (P2.o.below Below.go)
 refine C.mono ?_
 clear C
 rintro _ w2 ⟨rfl,hb2⟩
 obtain ⟨hc_w2,hf_w2⟩:=C_ hb2
 have hz0_w2:w.heap.size<w2.heap.size:=N_ hb2
 go_wp2
 go_ret
 exact ⟨R_ E.o,Below.go⟩

theorem A9i (v:Value) (x:TPoint) (b:List Nat) (w:World) (hx:Agg w v x b) :
  Calls Tryz.prog 138 #[v] w (A0j w (.bool (A0r x))):=by
 obtain ⟨A1,nA1,cA1,s1,A2,nA2,cA2,s2,A4,nA4,cA4,s4,A5,nA5,cA5,s5,rfl,rfl,hs1,hs2,hs4,hs5⟩:=TPoint.agg hx
 have P1:=A_ (TRat.mkAgg (x:=x.x) hs1 hs2);have P2:=A_ (TRat.mkAgg (x:=x.y) hs4 hs5)
 clear hs1 hs2 hs4 hs5 hx
 have E:=A_ (show (S_ x.x&&S_ x.y)=A0r x from rfl)
 go_enter Tryz.func138,Tryz.ntmps138
 go_wp2_with fail
 have C:=A1r (some ⟨w.heap.size+1,0,none⟩) 2 2 [x.x,x.y] _ ((w.alloc (.cells #[.bool x.x.num.neg,.slice A1 nA1 cA1,.slice A2 nA2 cA2,.bool x.y.num.neg,.slice A4 nA4 cA4,.slice A5 nA5 cA5] 38)).alloc (.cells #[.bool x.x.num.neg,.slice A1 nA1 cA1,.slice A2 nA2 cA2,.bool x.y.num.neg,.slice A4 nA4 cA4,.slice A5 nA5 cA5] 35)) (A7v (P1.o.below Below.go) (P2.o.below Below.go) (by simp) (by go_simp) (by go_simp) (by go_simp) (by go_simp) (by go_simp) (by go_simp))
 refine C.mono ?_
 clear C
 rintro _ w1 ⟨rfl,hb1⟩
 obtain ⟨hc_w1,hf_w1⟩:=C_ hb1
 have hz0_w1:w.heap.size<w1.heap.size:=N_ hb1
 have hz1_w1:w.heap.size+1<w1.heap.size:=N_ hb1
 go_wp2
 go_ret
 exact ⟨R_ E.o,Below.go⟩

theorem A9t (v:Value) (x:TPoint) (b:List Nat) (w:World) (hx:Agg w v x b) :
  Calls Tryz.prog 277 #[v] w (A0j w (bif A0r x then v else .agg #[.bool false,.slice none 0 0,.slice none 0 0,.bool false,.slice none 0 0,.slice none 0 0])):=by
 have HX:=A_ hx
 obtain ⟨A1,nA1,cA1,s1,A2,nA2,cA2,s2,A4,nA4,cA4,s4,A5,nA5,cA5,s5,rfl,rfl,hs1,hs2,hs4,hs5⟩:=TPoint.agg hx
 clear hs1 hs2 hs4 hs5 hx
 cases ho:A0r x
 ·have E:=A_ ho
  clear ho
  go_enter Tryz.func277,Tryz.ntmps277
  go_wp2_with fail
  have C:=A0x _ x _ ((w.alloc (.cells #[.bool x.x.num.neg,.slice A1 nA1 cA1,.slice A2 nA2 cA2,.bool x.y.num.neg,.slice A4 nA4 cA4,.slice A5 nA5 cA5] 38)).alloc (.cells #[.bool false,.slice none 0 0,.slice none 0 0,.bool false,.slice none 0 0,.slice none 0 0] 38)) (HX.o.below Below.go)
  rw[E.o] at C
  refine C.mono ?_
  clear C
  rintro _ w1 ⟨rfl,hb1⟩
  obtain ⟨hc_w1,hf_w1⟩:=C_ hb1
  have hz0_w1:w.heap.size<w1.heap.size:=N_ hb1
  have hz1_w1:w.heap.size+1<w1.heap.size:=N_ hb1
  go_wp2
  refine bodyPost_ret (v:=.agg #[.bool false,.slice none 0 0,.slice none 0 0,.bool false,.slice none 0 0,.slice none 0 0]) (by simp[results,Tryz.results277,go_sem, *]) rfl ?_
  exact ⟨rfl,Below.go⟩
 have E:=A_ ho
 clear ho
 go_enter Tryz.func277,Tryz.ntmps277
 go_wp2_with fail
 have C:=A0x _ x _ ((w.alloc (.cells #[.bool x.x.num.neg,.slice A1 nA1 cA1,.slice A2 nA2 cA2,.bool x.y.num.neg,.slice A4 nA4 cA4,.slice A5 nA5 cA5] 38)).alloc (.cells #[.bool false,.slice none 0 0,.slice none 0 0,.bool false,.slice none 0 0,.slice none 0 0] 38)) (HX.o.below Below.go)
 rw[E.o] at C
 refine C.mono ?_
 clear C
 rintro _ w1 ⟨rfl,hb1⟩
 obtain ⟨hc_w1,hf_w1⟩:=C_ hb1
 have hz0_w1:w.heap.size<w1.heap.size:=N_ hb1
 have hz1_w1:w.heap.size+1<w1.heap.size:=N_ hb1
 go_wp2
 refine bodyPost_ret (v:=.agg #[.bool x.x.num.neg,.slice A1 nA1 cA1,.slice A2 nA2 cA2,.bool x.y.num.neg,.slice A4 nA4 cA4,.slice A5 nA5 cA5]) (by simp[results,Tryz.results277,go_sem, *]) rfl ?_
 exact ⟨rfl,Below.go⟩
end Go.Proofs.YtbhemnidcleaiaaGreat.X
