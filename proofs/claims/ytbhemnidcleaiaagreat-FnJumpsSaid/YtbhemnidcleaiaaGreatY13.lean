/- A part of the proof. -/
import Derived.Test.YtbhemnidcleaiaaGreatY11
import Derived.Test.YtbhemnidcleaiaaGreatY12
set_option linter.constructorNameAsVariable false
set_option maxHeartbeats 16000000
set_option maxRecDepth 10000
namespace Go.Proofs.YtbhemnidcleaiaaGreat.X
open Go.RowKit Go.XB Go.XN
attribute [local go_sem] O_ opAt P_ M_ Region.wanted yielded
attribute [local simp] P_ M_ MP.eq MP.agg MP.sl A0e

theorem B9r (v1 v2:Value) (p q:TPoint) (b1 b2:List Nat) (w:World) (hx:Agg w v1 p b1) (hy:Agg w v2 q b2) :
  Calls Tryz.prog 235 #[v1,v2] w (X_ w (A9b p q)):=by
 obtain ⟨A1,nA1,cA1,s1,A2,nA2,cA2,s2,A4,nA4,cA4,s4,A5,nA5,cA5,s5,rfl,rfl,hs1,hs2,hs4,hs5⟩:=TPoint.agg hx
 obtain ⟨B1,nB1,cB1,t1,B2,nB2,cB2,t2,B4,nB4,cB4,t4,B5,nB5,cB5,t5,rfl,rfl,ht1,ht2,ht4,ht5⟩:=TPoint.agg hy
 have P1:=A_ (TRat.mkAgg (x:=p.x) hs1 hs2);have P2:=A_ (TRat.mkAgg (x:=p.y) hs4 hs5)
 have Q1:=A_ (TRat.mkAgg (x:=q.x) ht1 ht2);have Q2:=A_ (TRat.mkAgg (x:=q.y) ht4 ht5)
 clear hs1 hs2 hs4 hs5 ht1 ht2 ht4 ht5 hx hy
 have E:=A_ (show A9b p q=ifP (⟨A2d p.x q.x,A2d p.y q.y⟩:TPoint) from rfl)
 go_enter Tryz.func235,Tryz.ntmps235
 go_wp2_with fail
 refine A0m 10 (by kernel_rfl) (by kernel_rfl) (by kernel_rfl) (by kernel_rfl) (by kernel_rfl) ?_
 simp only [List.take_succ_cons,List.take_zero,List.drop_succ_cons,List.drop_zero]
 iterate 4
  refine D_ _ ?_
 refine F_ (MP.agg (A2d p.x q.x)) ?_ ?_
 ·intro yq zq wq hC hd
  obtain ⟨hcq,hfq⟩:=C_ hC
  simp at hd
  refine H_ ?_
  exact K_ (B1v _ _ p.x q.x _ _ wq (P1.o.below Below.go) (Q1.o.below Below.go))
 iterate 4
  refine D_ _ ?_
 refine F_ (MP.agg (A2d p.y q.y)) ?_ ?_
 ·intro yq zq wq hC hd
  obtain ⟨hcq,hfq⟩:=C_ hC
  simp at hd
  refine H_ ?_
  exact K_ (B1v _ _ p.y q.y _ _ wq (P2.o.below Below.go) (Q2.o.below Below.go))
 intro yq zq wa hC hd (hdis:Hid _)
 simp at hd
 have q4:=hd.2.2.2.2.1
 have q9:=hd.2.2.2.2.2.2.2.2.2
 obtain ⟨⟨ha4,hf4⟩,hr4⟩:=q4
 obtain ⟨⟨ha9,hf9⟩,hr9⟩:=q9
 obtain ⟨D1,nD1,cD1,d1,D2,nD2,cD2,d2,e4,z4,_,_⟩:=TRat.agg ha4
 obtain ⟨D4,nD4,cD4,d4,D5,nD5,cD5,d5,e9,z9,_,_⟩:=TRat.agg ha9
 rw[e4] at ha4
 rw[e9] at ha9
 have HA:=A_ (A5o (x:=(⟨A2d p.x q.x,A2d p.y q.y⟩:TPoint)) ha4 ha9)
 have HF:=A_ (Free.join hf4 hf9 (hdis.o 4 9 (by decide) (by decide) (by decide)))
 have HR:=A_ (show ∀ b∈zq 4++zq 9,w.heap.size+3≤b from fun b hb=>by
  rcases List.mem_append.1 hb with h | h
  ·have:=(hr4 b h).1;(try simp at this);omega
  have:=(hr9 b h).1;(try simp at this);omega)
 clear hd hdis ha4 hf4 hr4 ha9 hf9 hr9 z4 z9
 generalize zq 4++zq 9=zs at *
 obtain ⟨hc_wa,hf_wa⟩:=C_ hC
 have hz0_wa:w.heap.size<wa.heap.size:=N_ hC
 have hz1_wa:w.heap.size+1<wa.heap.size:=N_ hC
 have hz2_wa:w.heap.size+1+1<wa.heap.size:=N_ hC
 go_wp2_with fail
 have C:=A9t _ (⟨A2d p.x q.x,A2d p.y q.y⟩:TPoint) _ wa HA.o
 cases ho:A0r (⟨A2d p.x q.x,A2d p.y q.y⟩:TPoint)
 ·have O:=A_ ho
  rw[ho] at C
  clear ho
  refine C.mono ?_
  clear C
  rintro _ wb ⟨rfl,hb⟩
  obtain ⟨hc_wb,hf_wb⟩:=C_ hb
  have hz0_wb:w.heap.size<wb.heap.size:=N_ hb
  have hz1_wb:w.heap.size+1<wb.heap.size:=N_ hb
  have hz2_wb:w.heap.size+1+1<wb.heap.size:=N_ hb
  go_wp2
  refine bodyPost_ret (v:=.agg #[.bool false,.slice none 0 0,.slice none 0 0,.bool false,.slice none 0 0,.slice none 0 0]) (by simp[results,Tryz.results235,go_sem, *]) rfl ?_
  rw[E.o]
  unfold ifP
  rw[O.o]
  exact A6i Below.go
 have O:=A_ ho
 rw[ho] at C
 clear ho
 refine C.mono ?_
 clear C
 rintro _ wb ⟨rfl,hb⟩
 obtain ⟨hc_wb,hf_wb⟩:=C_ hb
 have hz0_wb:w.heap.size<wb.heap.size:=N_ hb
 have hz1_wb:w.heap.size+1<wb.heap.size:=N_ hb
 have hz2_wb:w.heap.size+1+1<wb.heap.size:=N_ hb
 go_wp2
 refine bodyPost_ret (v:=.agg #[.bool (A2d p.x q.x).num.neg,.slice D1 nD1 cD1,.slice D2 nD2 cD2,.bool (A2d p.y q.y).num.neg,.slice D4 nD4 cD4,.slice D5 nD5 cD5]) (by simp[results,Tryz.results235,go_sem, *]) rfl ?_
 rw[E.o]
 unfold ifP
 rw[O.o]
 refine A0o (lo:=w.heap.size+3) HA.o HF.o HR.o (by omega) ?_ ?_
 ·exact Above.go
 exact Below.go

theorem A4l (v1 v2:Value) (p q:TPoint) (b1 b2:List Nat) (w:World) (hx:Agg w v1 p b1) (hy:Agg w v2 q b2) :
  Calls Tryz.prog 289 #[v1,v2] w (X_ w (A2h p q)):=by
 obtain ⟨A1,nA1,cA1,s1,A2,nA2,cA2,s2,A4,nA4,cA4,s4,A5,nA5,cA5,s5,rfl,rfl,hs1,hs2,hs4,hs5⟩:=TPoint.agg hx
 obtain ⟨B1,nB1,cB1,t1,B2,nB2,cB2,t2,B4,nB4,cB4,t4,B5,nB5,cB5,t5,rfl,rfl,ht1,ht2,ht4,ht5⟩:=TPoint.agg hy
 have P1:=A_ (TRat.mkAgg (x:=p.x) hs1 hs2);have P2:=A_ (TRat.mkAgg (x:=p.y) hs4 hs5)
 have Q1:=A_ (TRat.mkAgg (x:=q.x) ht1 ht2);have Q2:=A_ (TRat.mkAgg (x:=q.y) ht4 ht5)
 clear hs1 hs2 hs4 hs5 ht1 ht2 ht4 ht5 hx hy
 have E:=A_ (show A2h p q=ifP (⟨A0u p.x q.x,A0u p.y q.y⟩:TPoint) from rfl)
 go_enter Tryz.func289,Tryz.ntmps289
 go_wp2_with fail
 refine A0m 10 (by kernel_rfl) (by kernel_rfl) (by kernel_rfl) (by kernel_rfl) (by kernel_rfl) ?_
 simp only [List.take_succ_cons,List.take_zero,List.drop_succ_cons,List.drop_zero]
 iterate 4
  refine D_ _ ?_
 refine F_ (MP.agg (A0u p.x q.x)) ?_ ?_
 ·intro yq zq wq hC hd
  obtain ⟨hcq,hfq⟩:=C_ hC
  simp at hd
  refine H_ ?_
  exact K_ (B1y _ _ p.x q.x _ _ wq (P1.o.below Below.go) (Q1.o.below Below.go))
 iterate 4
  refine D_ _ ?_
 refine F_ (MP.agg (A0u p.y q.y)) ?_ ?_
 ·intro yq zq wq hC hd
  obtain ⟨hcq,hfq⟩:=C_ hC
  simp at hd
  refine H_ ?_
  exact K_ (B1y _ _ p.y q.y _ _ wq (P2.o.below Below.go) (Q2.o.below Below.go))
 intro yq zq wa hC hd (hdis:Hid _)
 simp at hd
 have q4:=hd.2.2.2.2.1
 have q9:=hd.2.2.2.2.2.2.2.2.2
 obtain ⟨⟨ha4,hf4⟩,hr4⟩:=q4
 obtain ⟨⟨ha9,hf9⟩,hr9⟩:=q9
 obtain ⟨D1,nD1,cD1,d1,D2,nD2,cD2,d2,e4,z4,_,_⟩:=TRat.agg ha4
 obtain ⟨D4,nD4,cD4,d4,D5,nD5,cD5,d5,e9,z9,_,_⟩:=TRat.agg ha9
 rw[e4] at ha4
 rw[e9] at ha9
 have HA:=A_ (A5o (x:=(⟨A0u p.x q.x,A0u p.y q.y⟩:TPoint)) ha4 ha9)
 have HF:=A_ (Free.join hf4 hf9 (hdis.o 4 9 (by decide) (by decide) (by decide)))
 have HR:=A_ (show ∀ b∈zq 4++zq 9,w.heap.size+3≤b from fun b hb=>by
  rcases List.mem_append.1 hb with h | h
  ·have:=(hr4 b h).1;(try simp at this);omega
  have:=(hr9 b h).1;(try simp at this);omega)
 clear hd hdis ha4 hf4 hr4 ha9 hf9 hr9 z4 z9
 generalize zq 4++zq 9=zs at *
 obtain ⟨hc_wa,hf_wa⟩:=C_ hC
 have hz0_wa:w.heap.size<wa.heap.size:=N_ hC
 have hz1_wa:w.heap.size+1<wa.heap.size:=N_ hC
 have hz2_wa:w.heap.size+1+1<wa.heap.size:=N_ hC
 go_wp2_with fail
 have C:=A9t _ (⟨A0u p.x q.x,A0u p.y q.y⟩:TPoint) _ wa HA.o
 cases ho:A0r (⟨A0u p.x q.x,A0u p.y q.y⟩:TPoint)
 ·have O:=A_ ho
  rw[ho] at C
  clear ho
  refine C.mono ?_
  clear C
  rintro _ wb ⟨rfl,hb⟩
  obtain ⟨hc_wb,hf_wb⟩:=C_ hb
  have hz0_wb:w.heap.size<wb.heap.size:=N_ hb
  have hz1_wb:w.heap.size+1<wb.heap.size:=N_ hb
  have hz2_wb:w.heap.size+1+1<wb.heap.size:=N_ hb
  go_wp2
  refine bodyPost_ret (v:=.agg #[.bool false,.slice none 0 0,.slice none 0 0,.bool false,.slice none 0 0,.slice none 0 0]) (by simp[results,Tryz.results289,go_sem, *]) rfl ?_
  rw[E.o]
  unfold ifP
  rw[O.o]
  exact A6i Below.go
 have O:=A_ ho
 rw[ho] at C
 clear ho
 refine C.mono ?_
 clear C
 rintro _ wb ⟨rfl,hb⟩
 obtain ⟨hc_wb,hf_wb⟩:=C_ hb
 have hz0_wb:w.heap.size<wb.heap.size:=N_ hb
 have hz1_wb:w.heap.size+1<wb.heap.size:=N_ hb
 have hz2_wb:w.heap.size+1+1<wb.heap.size:=N_ hb
 go_wp2
 refine bodyPost_ret (v:=.agg #[.bool (A0u p.x q.x).num.neg,.slice D1 nD1 cD1,.slice D2 nD2 cD2,.bool (A0u p.y q.y).num.neg,.slice D4 nD4 cD4,.slice D5 nD5 cD5]) (by simp[results,Tryz.results289,go_sem, *]) rfl ?_
 rw[E.o]
 unfold ifP
 rw[O.o]
 refine A0o (lo:=w.heap.size+3) HA.o HF.o HR.o (by omega) ?_ ?_
 ·exact Above.go
 exact Below.go

theorem B6u (v1 v2:Value) (r:TRat) (p:TPoint) (b1 b2:List Nat) (w:World) (hx:Agg w v1 r b1) (hy:Agg w v2 p b2) :
  Calls Tryz.prog 234 #[v1,v2] w (X_ w (A2q r p)):=by
 have R1:=A_ hx
 obtain ⟨A1,nA1,cA1,s1,A2,nA2,cA2,s2,rfl,rfl,hs1,hs2⟩:=TRat.agg hx
 obtain ⟨B1,nB1,cB1,t1,B2,nB2,cB2,t2,B4,nB4,cB4,t4,B5,nB5,cB5,t5,rfl,rfl,ht1,ht2,ht4,ht5⟩:=TPoint.agg hy
 have Q1:=A_ (TRat.mkAgg (x:=p.x) ht1 ht2);have Q2:=A_ (TRat.mkAgg (x:=p.y) ht4 ht5)
 clear hs1 hs2 ht1 ht2 ht4 ht5 hx hy
 have E:=A_ (show A2q r p=ifP (⟨A1c r p.x,A1c r p.y⟩:TPoint) from rfl)
 go_enter Tryz.func234,Tryz.ntmps234
 go_wp2_with fail
 refine A0m 8 (by kernel_rfl) (by kernel_rfl) (by kernel_rfl) (by kernel_rfl) (by kernel_rfl) ?_
 simp only [List.take_succ_cons,List.take_zero,List.drop_succ_cons,List.drop_zero]
 iterate 3
  refine D_ _ ?_
 refine F_ (MP.agg (A1c r p.x)) ?_ ?_
 ·intro yq zq wq hC hd
  obtain ⟨hcq,hfq⟩:=C_ hC
  simp at hd
  refine H_ ?_
  exact K_ (A6e _ _ r p.x _ _ wq (R1.o.below Below.go) (Q1.o.below Below.go))
 iterate 3
  refine D_ _ ?_
 refine F_ (MP.agg (A1c r p.y)) ?_ ?_
 ·intro yq zq wq hC hd
  obtain ⟨hcq,hfq⟩:=C_ hC
  simp at hd
  refine H_ ?_
  exact K_ (A6e _ _ r p.y _ _ wq (R1.o.below Below.go) (Q2.o.below Below.go))
 intro yq zq wa hC hd (hdis:Hid _)
 simp at hd
 have q4:=hd.2.2.2.1
 have q9:=hd.2.2.2.2.2.2.2
 obtain ⟨⟨ha4,hf4⟩,hr4⟩:=q4
 obtain ⟨⟨ha9,hf9⟩,hr9⟩:=q9
 obtain ⟨D1,nD1,cD1,d1,D2,nD2,cD2,d2,e4,z4,_,_⟩:=TRat.agg ha4
 obtain ⟨D4,nD4,cD4,d4,D5,nD5,cD5,d5,e9,z9,_,_⟩:=TRat.agg ha9
 rw[e4] at ha4
 rw[e9] at ha9
 have HA:=A_ (A5o (x:=(⟨A1c r p.x,A1c r p.y⟩:TPoint)) ha4 ha9)
 have HF:=A_ (Free.join hf4 hf9 (hdis.o 3 7 (by decide) (by decide) (by decide)))
 have HR:=A_ (show ∀ b∈zq 3++zq 7,w.heap.size+3≤b from fun b hb=>by
  rcases List.mem_append.1 hb with h | h
  ·have:=(hr4 b h).1;(try simp at this);omega
  have:=(hr9 b h).1;(try simp at this);omega)
 clear hd hdis ha4 hf4 hr4 ha9 hf9 hr9 z4 z9
 generalize zq 3++zq 7=zs at *
 obtain ⟨hc_wa,hf_wa⟩:=C_ hC
 have hz0_wa:w.heap.size<wa.heap.size:=N_ hC
 have hz1_wa:w.heap.size+1<wa.heap.size:=N_ hC
 have hz2_wa:w.heap.size+1+1<wa.heap.size:=N_ hC
 go_wp2_with fail
 have C:=A9t _ (⟨A1c r p.x,A1c r p.y⟩:TPoint) _ wa HA.o
 cases ho:A0r (⟨A1c r p.x,A1c r p.y⟩:TPoint)
 ·have O:=A_ ho
  rw[ho] at C
  clear ho
  refine C.mono ?_
  clear C
  rintro _ wb ⟨rfl,hb⟩
  obtain ⟨hc_wb,hf_wb⟩:=C_ hb
  have hz0_wb:w.heap.size<wb.heap.size:=N_ hb
  have hz1_wb:w.heap.size+1<wb.heap.size:=N_ hb
  have hz2_wb:w.heap.size+1+1<wb.heap.size:=N_ hb
  go_wp2
  refine bodyPost_ret (v:=.agg #[.bool false,.slice none 0 0,.slice none 0 0,.bool false,.slice none 0 0,.slice none 0 0]) (by simp[results,Tryz.results234,go_sem, *]) rfl ?_
  rw[E.o]
  unfold ifP
  rw[O.o]
  exact A6i Below.go
 have O:=A_ ho
 rw[ho] at C
 clear ho
 refine C.mono ?_
 clear C
 rintro _ wb ⟨rfl,hb⟩
 obtain ⟨hc_wb,hf_wb⟩:=C_ hb
 have hz0_wb:w.heap.size<wb.heap.size:=N_ hb
 have hz1_wb:w.heap.size+1<wb.heap.size:=N_ hb
 have hz2_wb:w.heap.size+1+1<wb.heap.size:=N_ hb
 go_wp2
 refine bodyPost_ret (v:=.agg #[.bool (A1c r p.x).num.neg,.slice D1 nD1 cD1,.slice D2 nD2 cD2,.bool (A1c r p.y).num.neg,.slice D4 nD4 cD4,.slice D5 nD5 cD5]) (by simp[results,Tryz.results234,go_sem, *]) rfl ?_
 rw[E.o]
 unfold ifP
 rw[O.o]
 refine A0o (lo:=w.heap.size+3) HA.o HF.o HR.o (by omega) ?_ ?_
 ·exact Above.go
 exact Below.go


theorem half_val:B1i ((Q_ 1).neg != (Q_ 2).neg) (Q_ 1).mag=1∧G_ (Q_ 2).mag=2:=by decide
theorem C8m (w:World):Calls Tryz.prog 47 #[.int .i64 1,.int .i64 2] w (X_ w (mkR 1 2)):=by
 go_enter Tryz.func47,Tryz.ntmps47
 go_wp2_with fail
 refine (A5y 1 _ (by constructor<;>decide)).mono ?_
 rintro _ w1 ⟨v1,t1,rfl,ha1,ho1,hb1⟩
 have HA1:=A_ ha1
 clear ha1 ho1
 obtain ⟨hc_w1,hf_w1⟩:=C_ hb1
 have hz0_w1:w.heap.size<w1.heap.size:=N_ hb1
 go_wp2_with fail
 refine (A5y 2 _ (by constructor<;>decide)).mono ?_
 rintro _ w2 ⟨v2,t2,rfl,ha2,ho2,hb2⟩
 have HA2:=A_ ha2
 clear ha2 ho2
 obtain ⟨hc_w2,hf_w2⟩:=C_ hb2
 have hz0_w2:w.heap.size<w2.heap.size:=N_ hb2
 go_wp2_with fail
 have C:=B0y v1 v2 (Q_ 1) (Q_ 2) t1 t2 w2 (HA1.o.below hb2) HA2.o (by decide) (by decide) (by decide)
 rw[half_val.1,half_val.2] at C
 refine (C).mono ?_
 rintro _ wb ⟨vb,sb,rfl,hab,hob,hb⟩
 obtain ⟨D1,nD1,cD1,d1,D2,nD2,cD2,d2,rfl,hzb,_,_⟩:=TRat.agg hab
 have HA:=A_ hab;have HO:=A_ hob
 clear hab hob hzb
 obtain ⟨hc_wb,hf_wb⟩:=C_ hb
 have hz0_wb:w.heap.size<wb.heap.size:=N_ hb
 go_wp2
 refine bodyPost_ret (v:=.agg #[.bool (mkR 1 2).num.neg,.slice D1 nD1 cD1,.slice D2 nD2 cD2]) (by simp[results,Tryz.results47,go_sem, *]) rfl ?_
 refine A0o (lo:=w.heap.size+1) HA.o HO.o.free (fun b hb=>by have:=(HO.o.2 b hb).1;(try simp at this);omega) (by omega) ?_ ?_
 ·exact Above.go
 exact Below.go

theorem C5g (v1 v2:Value) (p q:TPoint) (b1 b2:List Nat) (w:World) (hx:Agg w v1 p b1) (hy:Agg w v2 q b2) :
  Calls Tryz.prog 304 #[v1,v2] w (X_ w (B2t p q)):=by
 have HX:=A_ hx;have HY:=A_ hy
 obtain ⟨A1,nA1,cA1,s1,A2,nA2,cA2,s2,A4,nA4,cA4,s4,A5,nA5,cA5,s5,rfl,rfl,hs1,hs2,hs4,hs5⟩:=TPoint.agg hx
 obtain ⟨B1,nB1,cB1,t1,B2,nB2,cB2,t2,B4,nB4,cB4,t4,B5,nB5,cB5,t5,rfl,rfl,ht1,ht2,ht4,ht5⟩:=TPoint.agg hy
 have P1:=A_ (TRat.mkAgg (x:=p.x) hs1 hs2);have P2:=A_ (TRat.mkAgg (x:=p.y) hs4 hs5)
 have Q1:=A_ (TRat.mkAgg (x:=q.x) ht1 ht2);have Q2:=A_ (TRat.mkAgg (x:=q.y) ht4 ht5)
 clear hs1 hs2 hs4 hs5 ht1 ht2 ht4 ht5 hx hy HX HY
 go_enter Tryz.func304,Tryz.ntmps304
 go_wp2_with fail
 refine A0m 10 (by kernel_rfl) (by kernel_rfl) (by kernel_rfl) (by kernel_rfl) (by kernel_rfl) ?_
 simp only [List.take_succ_cons,List.take_zero,List.drop_succ_cons,List.drop_zero]
 iterate 4
  refine D_ _ ?_
 refine F_ (MP.agg (A1c p.x q.y)) ?_ ?_
 ·intro yq zq wq hC hd
  obtain ⟨hcq,hfq⟩:=C_ hC
  simp at hd
  refine H_ ?_
  exact K_ (A6e _ _ p.x q.y _ _ wq (P1.o.below Below.go) (Q2.o.below Below.go))
 iterate 4
  refine D_ _ ?_
 refine F_ (MP.agg (A1c p.y q.x)) ?_ ?_
 ·intro yq zq wq hC hd
  obtain ⟨hcq,hfq⟩:=C_ hC
  simp at hd
  refine H_ ?_
  exact K_ (A6e _ _ p.y q.x _ _ wq (P2.o.below Below.go) (Q1.o.below Below.go))
 intro yq zq wa hC hd (hdis:Hid _)
 simp at hd
 have q4:=hd.2.2.2.2.1
 have q9:=hd.2.2.2.2.2.2.2.2.2
 have H4:=A_ q4.1.1;have H9:=A_ q9.1.1
 clear hd hdis q4 q9
 obtain ⟨hc_wa,hf_wa⟩:=C_ hC
 have hz0_wa:w.heap.size<wa.heap.size:=N_ hC
 have hz1_wa:w.heap.size+1<wa.heap.size:=N_ hC
 have hz2_wa:w.heap.size+1+1<wa.heap.size:=N_ hC
 go_wp2_with fail
 refine (B1y _ _ (A1c p.x q.y) (A1c p.y q.x) _ _ wa H4.o H9.o).mono ?_
 rintro _ wb ⟨vb,sb,rfl,hab,hob,hb⟩
 obtain ⟨D1,nD1,cD1,d1,D2,nD2,cD2,d2,rfl,hzb,_,_⟩:=TRat.agg hab
 have HA:=A_ hab;have HO:=A_ hob
 clear hab hob hzb
 obtain ⟨hc_wb,hf_wb⟩:=C_ hb
 have hz0_wb:w.heap.size<wb.heap.size:=N_ hb
 have hz1_wb:w.heap.size+1<wb.heap.size:=N_ hb
 have hz2_wb:w.heap.size+1+1<wb.heap.size:=N_ hb
 go_wp2
 refine bodyPost_ret (v:=.agg #[.bool (A0u (A1c p.x q.y) (A1c p.y q.x)).num.neg,.slice D1 nD1 cD1,.slice D2 nD2 cD2]) (by simp[results,Tryz.results304,go_sem, *]) rfl ?_
 refine A0o (lo:=w.heap.size+3) HA.o HO.o.free (fun b hb=>by have:=(HO.o.2 b hb).1;(try simp at this);omega) (by omega) ?_ ?_
 ·exact Above.go
 exact Below.go

theorem A7q (v0 v1 v2:Value) (o p q:TPoint) (b0 b1 b2:List Nat) (w:World) (h0:Agg w v0 o b0) (hx:Agg w v1 p b1) (hy:Agg w v2 q b2) :
  Calls Tryz.prog 283 #[v0,v1,v2] w (X_ w (A0i o p q)):=by
 have HO:=A_ h0
 obtain ⟨C1,nC1,cC1,r1,C2,nC2,cC2,r2,C4,nC4,cC4,r4,C5,nC5,cC5,r5,rfl,rfl,hr1,hr2,hr4,hr5⟩:=TPoint.agg h0
 have HX:=A_ hx;have HY:=A_ hy
 obtain ⟨A1,nA1,cA1,s1,A2,nA2,cA2,s2,A4,nA4,cA4,s4,A5,nA5,cA5,s5,rfl,rfl,hs1,hs2,hs4,hs5⟩:=TPoint.agg hx
 obtain ⟨B1,nB1,cB1,t1,B2,nB2,cB2,t2,B4,nB4,cB4,t4,B5,nB5,cB5,t5,rfl,rfl,ht1,ht2,ht4,ht5⟩:=TPoint.agg hy
 clear hr1 hr2 hr4 hr5 hs1 hs2 hs4 hs5 ht1 ht2 ht4 ht5 h0 hx hy
 go_enter Tryz.func283,Tryz.ntmps283
 go_wp2_with fail
 refine A0m 6 (by kernel_rfl) (by kernel_rfl) (by kernel_rfl) (by kernel_rfl) (by kernel_rfl) ?_
 simp only [List.take_succ_cons,List.take_zero,List.drop_succ_cons,List.drop_zero]
 iterate 2
  refine D_ _ ?_
 refine F_ (MP.agg (A2h p o)) ?_ ?_
 ·intro yq zq wq hC hd
  obtain ⟨hcq,hfq⟩:=C_ hC
  simp at hd
  refine H_ ?_
  exact K_ (A4l _ _ p o _ _ wq (HX.o.below Below.go) (HO.o.below Below.go))
 iterate 2
  refine D_ _ ?_
 refine F_ (MP.agg (A2h q o)) ?_ ?_
 ·intro yq zq wq hC hd
  obtain ⟨hcq,hfq⟩:=C_ hC
  simp at hd
  refine H_ ?_
  exact K_ (A4l _ _ q o _ _ wq (HY.o.below Below.go) (HO.o.below Below.go))
 intro yq zq wa hC hd (hdis:Hid _)
 simp at hd
 have q4:=hd.2.2.1
 have q9:=hd.2.2.2.2.2
 have H4:=A_ q4.1.1;have H9:=A_ q9.1.1
 clear hd hdis q4 q9
 obtain ⟨hc_wa,hf_wa⟩:=C_ hC
 have hz0_wa:w.heap.size<wa.heap.size:=N_ hC
 have hz1_wa:w.heap.size+1<wa.heap.size:=N_ hC
 have hz2_wa:w.heap.size+1+1<wa.heap.size:=N_ hC
 have hz3_wa:w.heap.size+1+1+1<wa.heap.size:=N_ hC
 go_wp2_with fail
 refine (C5g _ _ (A2h p o) (A2h q o) _ _ wa H4.o H9.o).mono ?_
 rintro _ wb ⟨vb,sb,rfl,hab,hob,hb⟩
 obtain ⟨D1,nD1,cD1,d1,D2,nD2,cD2,d2,rfl,hzb,_,_⟩:=TRat.agg hab
 have HA:=A_ hab;have HOb:=A_ hob
 clear hab hob hzb
 obtain ⟨hc_wb,hf_wb⟩:=C_ hb
 have hz0_wb:w.heap.size<wb.heap.size:=N_ hb
 have hz1_wb:w.heap.size+1<wb.heap.size:=N_ hb
 have hz2_wb:w.heap.size+1+1<wb.heap.size:=N_ hb
 have hz3_wb:w.heap.size+1+1+1<wb.heap.size:=N_ hb
 go_wp2
 refine bodyPost_ret (v:=.agg #[.bool (B2t (A2h p o) (A2h q o)).num.neg,.slice D1 nD1 cD1,.slice D2 nD2 cD2]) (by simp[results,Tryz.results283,go_sem, *]) rfl ?_
 refine A0o (lo:=w.heap.size+4) HA.o HOb.o.free (fun b hb=>by have:=(HOb.o.2 b hb).1;(try simp at this);omega) (by omega) ?_ ?_
 ·exact Above.go
 exact Below.go

theorem C2r (v1 v2:Value) (p q:TPoint) (b1 b2:List Nat) (w:World) (hx:Agg w v1 p b1) (hy:Agg w v2 q b2) :
  Calls Tryz.prog 181 #[v1,v2] w (X_ w (B4o p q)):=by
 have HX:=A_ hx;have HY:=A_ hy
 obtain ⟨A1,nA1,cA1,s1,A2,nA2,cA2,s2,A4,nA4,cA4,s4,A5,nA5,cA5,s5,rfl,rfl,hs1,hs2,hs4,hs5⟩:=TPoint.agg hx
 obtain ⟨B1,nB1,cB1,t1,B2,nB2,cB2,t2,B4,nB4,cB4,t4,B5,nB5,cB5,t5,rfl,rfl,ht1,ht2,ht4,ht5⟩:=TPoint.agg hy
 clear hs1 hs2 hs4 hs5 ht1 ht2 ht4 ht5 hx hy
 go_enter Tryz.func181,Tryz.ntmps181
 go_wp2_with fail
 refine A0m 4 (by kernel_rfl) (by kernel_rfl) (by kernel_rfl) (by kernel_rfl) (by kernel_rfl) ?_
 simp only [List.take_succ_cons,List.take_zero,List.drop_succ_cons,List.drop_zero]
 refine F_ (MP.agg (mkR 1 2)) ?_ ?_
 ·intro yq zq wq hC hd
  obtain ⟨hcq,hfq⟩:=C_ hC
  simp at hd
  refine H_ ?_
  exact K_ (C8m wq)
 iterate 2
  refine D_ _ ?_
 refine F_ (MP.agg (A9b p q)) ?_ ?_
 ·intro yq zq wq hC hd
  obtain ⟨hcq,hfq⟩:=C_ hC
  simp at hd
  refine H_ ?_
  exact K_ (B9r _ _ p q _ _ wq (HX.o.below Below.go) (HY.o.below Below.go))
 intro yq zq wa hC hd (hdis:Hid _)
 simp at hd
 have q4:=hd.1
 have q9:=hd.2.2.2
 have H4:=A_ q4.1.1;have H9:=A_ q9.1.1
 clear hd hdis q4 q9
 obtain ⟨hc_wa,hf_wa⟩:=C_ hC
 have hz0_wa:w.heap.size<wa.heap.size:=N_ hC
 have hz1_wa:w.heap.size+1<wa.heap.size:=N_ hC
 have hz2_wa:w.heap.size+1+1<wa.heap.size:=N_ hC
 go_wp2_with fail
 refine (B6u _ _ (mkR 1 2) (A9b p q) _ _ wa H4.o H9.o).mono ?_
 rintro _ wb ⟨vb,sb,rfl,hab,hob,hb⟩
 obtain ⟨D1,nD1,cD1,d1,D2,nD2,cD2,d2,D4,nD4,cD4,d4,D5,nD5,cD5,d5,rfl,hzb,_,_,_,_⟩:=TPoint.agg hab
 have HA:=A_ hab;have HO:=A_ hob
 clear hab hob hzb
 obtain ⟨hc_wb,hf_wb⟩:=C_ hb
 have hz0_wb:w.heap.size<wb.heap.size:=N_ hb
 have hz1_wb:w.heap.size+1<wb.heap.size:=N_ hb
 have hz2_wb:w.heap.size+1+1<wb.heap.size:=N_ hb
 go_wp2
 refine bodyPost_ret (v:=.agg #[.bool (A2q (mkR 1 2) (A9b p q)).x.num.neg,.slice D1 nD1 cD1,.slice D2 nD2 cD2,.bool (A2q (mkR 1 2) (A9b p q)).y.num.neg,.slice D4 nD4 cD4,.slice D5 nD5 cD5]) (by simp[results,Tryz.results181,go_sem, *]) rfl ?_
 refine A0o (lo:=w.heap.size+3) HA.o HO.o.free (fun b hb=>by have:=(HO.o.2 b hb).1;(try simp at this);omega) (by omega) ?_ ?_
 ·exact Above.go
 exact Below.go

theorem A9v (A:Option Addr) (n c:Nat) (xs:List TPoint) (bs:List Nat) (w:World) (hx:Sl w A n c xs bs) :
  Calls Tryz.prog 238 #[.slice A n c] w (A0j w (.bool (A3v xs))):=by
 have HX:=A_ hx
 by_cases hn:n=3
 ·subst hn
  have HX0:=hx
  obtain ⟨a1,b1,c1,rfl⟩:∃ a b c',xs=[a,b,c']:=by
   match xs,hx.1 with
   | [a,b,c'],_=>exact ⟨a,b,c',rfl⟩
  obtain ⟨be0,of0,a2,P1,nP1,cP1,p1,P2,nP2,cP2,p2,P4,nP4,cP4,p4,P5,nP5,cP5,p5,hA0,hbl0,hx0,Pe0,Pe1,Pe2,Pe3,Pe4,Pe5,hg0⟩:=TPoint.elemA HX.o (show 0<3 by decide)
  obtain ⟨be1,of1,b2,Q1,nQ1,cQ1,q1,Q2,nQ2,cQ2,q2,Q4,nQ4,cQ4,q4,Q5,nQ5,cQ5,q5,hA1,hbl1,hx1,Qe0,Qe1,Qe2,Qe3,Qe4,Qe5,hg1⟩:=TPoint.elemA HX.o (show 1<3 by decide)
  obtain ⟨be2,of2,c2,R1,nR1,cR1,r1,R2,nR2,cR2,r2,R4,nR4,cR4,r4,R5,nR5,cR5,r5,hA2,hbl2,hx2,Re0,Re1,Re2,Re3,Re4,Re5,hg2⟩:=TPoint.elemA HX.o (show 2<3 by decide)
  subst hA0
  injection hA1 with hA1;injection hA1 with h1 h2 _;subst h1;subst h2
  injection hA2 with hA2;injection hA2 with h1 h2 _;subst h1;subst h2
  simp at hx0 hx1 hx2
  subst hx0;subst hx1;subst hx2
  simp at Pe0 Pe1 Pe2 Pe3 Pe4 Pe5 Qe0 Qe1 Qe2 Qe3 Qe4 Qe5 Re0 Re1 Re2 Re3 Re4 Re5
  have HA:=A_ hg0;have HB:=A_ hg1;have HC:=A_ hg2
  clear hbl1 hbl2 hg0 hg1 hg2 hx HX0
  go_enter Tryz.func238,Tryz.ntmps238
  go_wp2_with fail
  refine A0m 11 (by kernel_rfl) (by kernel_rfl) (by kernel_rfl) (by kernel_rfl) (by kernel_rfl) ?_
  simp only [List.take_succ_cons,List.take_zero,List.drop_succ_cons,List.drop_zero]
  iterate 9
   refine D_ _ ?_
  refine F_ (MP.agg (A0i a1 b1 c1)) ?_ ?_
  ·intro yq zq wq hC hd
   obtain ⟨hcq,hfq⟩:=C_ hC
   simp at hd
   refine H_ ?_
   exact K_ (A7q _ _ _ a1 b1 c1 _ _ _ wq (HA.o.below hC) (HB.o.below hC) (HC.o.below hC))
  refine A1z #[.bool false,.slice none 0 0,.slice none 0 0] 35 ?_ ?_
  ·intro yq zq wq hC hd
   refine ⟨by go_simp;done,?_⟩
   go_simp
  intro yq zq wa hC hd (hdis:Hid _)
  simp at hd
  have q3:=hd.2.2.2.2.2.2.2.2.2.1
  have q4:=hd.2.2.2.2.2.2.2.2.2.2
  obtain ⟨⟨ha3,hf3⟩,hr3⟩:=q3
  obtain ⟨B1,B2,B3,Bt,B4,B5,B6,Bs,y3,hz3,_,_⟩:=TRat.agg ha3
  obtain ⟨⟨g1,y4,z4,hg1⟩,hr4⟩:=q4
  rw[y3] at ha3
  rw[z4] at hr4
  have D3:=A_ (show ∀ b∈zq 9,b≠g1 from fun b hb e=>by have:=hdis.o 9 10 (by decide) (by decide) (by decide) b hb;rw[z4] at this;simp[e] at this)
  have hgr1:=hr4 g1 (by simp)
  obtain ⟨b1c0,b1f0⟩:=B_ hg1 (j:=0) rfl
  obtain ⟨b1c1,b1f1⟩:=B_ hg1 (j:=1) rfl
  obtain ⟨b1c2,b1f2⟩:=B_ hg1 (j:=2) rfl
  have A3:=A_ ha3
  have hg1a:w.heap.size≤g1:=by omega
  have hg1b:g1<wa.heap.size:=hgr1.2
  obtain ⟨hc_wa,hf_wa⟩:=C_ hC
  have HCa:=A_ hC
  clear hd hdis hz3 hr3 hr4 hf3 ha3 hg1 z4
  have hbea:be0<wa.heap.size:=by have:=hC.size;omega
  have hbeg:be0≠g1:=by omega
  have ED:decide (0<A2s (A0i a1 b1 c1))=(S_ (A0i a1 b1 c1)&&decide (0<A2s (A0i a1 b1 c1))):=by
   unfold A2s;cases S_ (A0i a1 b1 c1)<;>simp
  have E:=A_ (show ((A0r a1&&(A0r b1&&A0r c1))&&(S_ (A0i a1 b1 c1)&&decide (0<A2s (A0i a1 b1 c1))))=A3v [a1,b1,c1] by rw[← ED];rfl)
  clear ED
  generalize A0i a1 b1 c1=t at *
  have hkeep:∀ g,g≠g1→(((wa.setCell ⟨g1,0,none⟩ (.bool t.num.neg)).setCell ⟨g1,1,none⟩ (.slice B1 B2 B3)).setCell ⟨g1,2,none⟩ (.slice B4 B5 B6)).heap[g]?=wa.heap[g]?:=fun g h1=>A0b g1 [.bool t.num.neg,.slice B1 B2 B3,.slice B4 B5 B6] wa 0 g h1
  have HT:=A_ (A3.o.keep fun g hg=>hkeep g (D3.o g hg))
  have HBW:=A_ (show Below w.heap.size w (((wa.setCell ⟨g1,0,none⟩ (.bool t.num.neg)).setCell ⟨g1,1,none⟩ (.slice B1 B2 B3)).setCell ⟨g1,2,none⟩ (.slice B4 B5 B6)) from ((hC.setCell (p:=⟨g1,0,none⟩) hg1a _).setCell (p:=⟨g1,1,none⟩) hg1a _).setCell (p:=⟨g1,2,none⟩) hg1a _)
  have k0:(((wa.setCell ⟨g1,0,none⟩ (.bool t.num.neg)).setCell ⟨g1,1,none⟩ (.slice B1 B2 B3)).setCell ⟨g1,2,none⟩ (.slice B4 B5 B6)).cell? ⟨g1,0,none⟩=some (.bool t.num.neg):=by go_simp
  have k1:(((wa.setCell ⟨g1,0,none⟩ (.bool t.num.neg)).setCell ⟨g1,1,none⟩ (.slice B1 B2 B3)).setCell ⟨g1,2,none⟩ (.slice B4 B5 B6)).cell? ⟨g1,1,none⟩=some (.slice B1 B2 B3):=by go_simp
  have k2:(((wa.setCell ⟨g1,0,none⟩ (.bool t.num.neg)).setCell ⟨g1,1,none⟩ (.slice B1 B2 B3)).setCell ⟨g1,2,none⟩ (.slice B4 B5 B6)).cell? ⟨g1,2,none⟩=some (.slice B4 B5 B6):=by go_simp
  have hgw:g1<(((wa.setCell ⟨g1,0,none⟩ (.bool t.num.neg)).setCell ⟨g1,1,none⟩ (.slice B1 B2 B3)).setCell ⟨g1,2,none⟩ (.slice B4 B5 B6)).heap.size:=by simpa using hg1b
  have hbw:be0<(((wa.setCell ⟨g1,0,none⟩ (.bool t.num.neg)).setCell ⟨g1,1,none⟩ (.slice B1 B2 B3)).setCell ⟨g1,2,none⟩ (.slice B4 B5 B6)).heap.size:=by simpa using hbea
  clear hkeep A3 D3
  go_upto_region 3 with fail
  generalize (((wa.setCell ⟨g1,0,none⟩ (.bool t.num.neg)).setCell ⟨g1,1,none⟩ (.slice B1 B2 B3)).setCell ⟨g1,2,none⟩ (.slice B4 B5 B6))=ws at *
  have HA':=A_ (HA.o.below HBW.o);have HB':=A_ (HB.o.below HBW.o);have HC':=A_ (HC.o.below HBW.o)
  clear HA HB HC HCa hC b1c0 b1c1 b1c2 b1f0 b1f1 b1f2
  obtain ⟨hc_ws,hf_ws⟩:=C_ HBW.o
  clear hc_wa hf_wa
  cases ha:A0r a1
  ·have OA:=A_ ha
   rw[ha] at E
   clear ha
   go_wp2_with fail
   have C:=A0x _ a1 _ ws HA'.o
   rw[OA.o] at C
   refine C.mono ?_
   clear C
   rintro _ v1 ⟨rfl,hv1⟩
   obtain ⟨hc_1,hf_1⟩:=C_ hv1
   have hs1:=hv1.size
   have hbe1:be0<v1.heap.size:=by omega
   have hgg1:g1<v1.heap.size:=by omega
   go_wp2
   go_ret
   exact ⟨R_ E.o,Below.next HBW.o hv1⟩
  have OA:=A_ ha
  rw[ha] at E
  clear ha
  cases ha:A0r b1
  ·have OB:=A_ ha
   rw[ha] at E
   clear ha
   go_wp2_with fail
   have C:=A0x _ a1 _ ws HA'.o
   rw[OA.o] at C
   refine C.mono ?_
   clear C
   rintro _ v1 ⟨rfl,hv1⟩
   obtain ⟨hc_1,hf_1⟩:=C_ hv1
   have hs1:=hv1.size
   have hbe1:be0<v1.heap.size:=by omega
   have hgg1:g1<v1.heap.size:=by omega
   go_wp2_with fail
   have C:=A0x _ b1 _ v1 (HB'.o.below hv1)
   rw[OB.o] at C
   refine C.mono ?_
   clear C
   rintro _ v2 ⟨rfl,hv2⟩
   obtain ⟨hc_2,hf_2⟩:=C_ hv2
   have hs2:=hv2.size
   have hbe2:be0<v2.heap.size:=by omega
   have hgg2:g1<v2.heap.size:=by omega
   go_wp2
   go_ret
   exact ⟨R_ E.o,Below.next (Below.next HBW.o hv1) hv2⟩
  have OB:=A_ ha
  rw[ha] at E
  clear ha
  cases ha:A0r c1
  ·have OC:=A_ ha
   rw[ha] at E
   clear ha
   go_wp2_with fail
   have C:=A0x _ a1 _ ws HA'.o
   rw[OA.o] at C
   refine C.mono ?_
   clear C
   rintro _ v1 ⟨rfl,hv1⟩
   obtain ⟨hc_1,hf_1⟩:=C_ hv1
   have hs1:=hv1.size
   have hbe1:be0<v1.heap.size:=by omega
   have hgg1:g1<v1.heap.size:=by omega
   go_wp2_with fail
   have C:=A0x _ b1 _ v1 (HB'.o.below hv1)
   rw[OB.o] at C
   refine C.mono ?_
   clear C
   rintro _ v2 ⟨rfl,hv2⟩
   obtain ⟨hc_2,hf_2⟩:=C_ hv2
   have hs2:=hv2.size
   have hbe2:be0<v2.heap.size:=by omega
   have hgg2:g1<v2.heap.size:=by omega
   go_wp2_with fail
   have C:=A0x _ c1 _ v2 ((HC'.o.below hv1).below hv2)
   rw[OC.o] at C
   refine C.mono ?_
   clear C
   rintro _ v3 ⟨rfl,hv3⟩
   obtain ⟨hc_3,hf_3⟩:=C_ hv3
   have hs3:=hv3.size
   have hbe3:be0<v3.heap.size:=by omega
   have hgg3:g1<v3.heap.size:=by omega
   go_wp2
   go_ret
   exact ⟨R_ E.o,Below.next (Below.next (Below.next HBW.o hv1) hv2) hv3⟩
  have OC:=A_ ha
  rw[ha] at E
  clear ha
  go_wp2_with fail
  have C:=A0x _ a1 _ ws HA'.o
  rw[OA.o] at C
  refine C.mono ?_
  clear C
  rintro _ v1 ⟨rfl,hv1⟩
  obtain ⟨hc_1,hf_1⟩:=C_ hv1
  have hs1:=hv1.size
  have hbe1:be0<v1.heap.size:=by omega
  have hgg1:g1<v1.heap.size:=by omega
  go_wp2_with fail
  have C:=A0x _ b1 _ v1 (HB'.o.below hv1)
  rw[OB.o] at C
  refine C.mono ?_
  clear C
  rintro _ v2 ⟨rfl,hv2⟩
  obtain ⟨hc_2,hf_2⟩:=C_ hv2
  have hs2:=hv2.size
  have hbe2:be0<v2.heap.size:=by omega
  have hgg2:g1<v2.heap.size:=by omega
  go_wp2_with fail
  have C:=A0x _ c1 _ v2 ((HC'.o.below hv1).below hv2)
  rw[OC.o] at C
  refine C.mono ?_
  clear C
  rintro _ v3 ⟨rfl,hv3⟩
  obtain ⟨hc_3,hf_3⟩:=C_ hv3
  have hs3:=hv3.size
  have hbe3:be0<v3.heap.size:=by omega
  have hgg3:g1<v3.heap.size:=by omega
  go_wp2_with fail
  have C:=A0n _ t _ v3 (((HT.o.below hv1).below hv2).below hv3)
  cases ha:S_ t
  ·rw[ha] at E C
   clear ha
   refine C.mono ?_
   clear C
   rintro _ v4 ⟨rfl,hv4⟩
   go_wp2
   go_ret
   exact ⟨R_ E.o,Below.next (Below.next (Below.next (Below.next HBW.o hv1) hv2) hv3) hv4⟩
  rw[ha] at E C
  clear ha
  refine C.mono ?_
  clear C
  rintro _ v4 ⟨rfl,hv4⟩
  obtain ⟨hc_4,hf_4⟩:=C_ hv4
  have hs4:=hv4.size
  have hgg4:g1<v4.heap.size:=by omega
  go_wp2_with fail
  refine (A8f _ t _ v4 ((((HT.o.below hv1).below hv2).below hv3).below hv4)).mono ?_
  rintro _ v5 ⟨rfl,hv5⟩
  go_wp2
  go_ret
  exact ⟨R_ E.o,Below.next (Below.next (Below.next (Below.next (Below.next HBW.o hv1) hv2) hv3) hv4) hv5⟩
 have E:=A_ (show A3v xs=false by
  have hl:=hx.1
  match xs with
  | []=>rfl
  | [_]=>rfl
  | [_,_]=>rfl
  | [_,_,_]=>exact absurd hl.symm hn
  | _::_::_::_::_=>rfl)
 have hni:¬ ((n:Int)=3):=by omega
 have hnb:((n:Int)==3)=false:=by simp;omega
 clear hx
 go_enter Tryz.func238,Tryz.ntmps238
 go_wp2
 go_ret
 rw[E.o]
 exact ⟨rfl,Below.refl _ _⟩
end Go.Proofs.YtbhemnidcleaiaaGreat.X
