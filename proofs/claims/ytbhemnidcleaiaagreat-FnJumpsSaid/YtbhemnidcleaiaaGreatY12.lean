/- A part of the proof. -/
import Derived.Test.YtbhemnidcleaiaaGreatY11
import Derived.Test.YtbhemnidcleaiaaGreatY10
import Derived.Test.YtbhemnidcleaiaaGreatY9
import Derived.Test.YtbhemnidcleaiaaGreatY2
import Derived.Test.YtbhemnidcleaiaaGreatY1
import Derived.Test.YtbhemnidcleaiaaGreatY3
set_option linter.constructorNameAsVariable false
set_option maxHeartbeats 16000000
set_option maxRecDepth 10000
namespace Go.Proofs.YtbhemnidcleaiaaGreat.X
open Go.RowKit Go.XB Go.XN
attribute [local go_sem] O_ opAt P_ M_ Region.wanted yielded
attribute [local simp] P_ M_ MP.eq MP.agg MP.sl A0e

theorem B9l (v1 v2:Value) (p q:TPoint) (b1 b2:List Nat) (w:World) (hx:Agg w v1 p b1) (hy:Agg w v2 q b2) :
  Calls Tryz.prog 146 #[v1,v2] w (X_ w (A9b p q)):=by
 obtain ⟨A1,nA1,cA1,s1,A2,nA2,cA2,s2,A4,nA4,cA4,s4,A5,nA5,cA5,s5,rfl,rfl,hs1,hs2,hs4,hs5⟩:=TPoint.agg hx
 obtain ⟨B1,nB1,cB1,t1,B2,nB2,cB2,t2,B4,nB4,cB4,t4,B5,nB5,cB5,t5,rfl,rfl,ht1,ht2,ht4,ht5⟩:=TPoint.agg hy
 have P1:=A_ (TRat.mkAgg (x:=p.x) hs1 hs2);have P2:=A_ (TRat.mkAgg (x:=p.y) hs4 hs5)
 have Q1:=A_ (TRat.mkAgg (x:=q.x) ht1 ht2);have Q2:=A_ (TRat.mkAgg (x:=q.y) ht4 ht5)
 clear hs1 hs2 hs4 hs5 ht1 ht2 ht4 ht5 hx hy
 have E:=A_ (show A9b p q=ifP (⟨A2d p.x q.x,A2d p.y q.y⟩:TPoint) from rfl)
 go_enter Tryz.func146,Tryz.ntmps146
 go_wp2_with fail
 refine A0m 10 (by kernel_rfl) (by kernel_rfl) (by kernel_rfl) (by kernel_rfl) (by kernel_rfl) ?_
 simp only [List.take_succ_cons,List.take_zero,List.drop_succ_cons,List.drop_zero]
 iterate 4
  refine D_ _ ?_
 refine F_ (MP.agg (A2d p.x q.x)) ?_ ?_
 ·intro yq zq wq hC hd
  obtain ⟨hcq,hfq⟩:=C_ hC
  simp at hd
  refine H_ ?_
  exact K_ (A7l _ _ p.x q.x _ _ wq (P1.o.below Below.go) (Q1.o.below Below.go))
 iterate 4
  refine D_ _ ?_
 refine F_ (MP.agg (A2d p.y q.y)) ?_ ?_
 ·intro yq zq wq hC hd
  obtain ⟨hcq,hfq⟩:=C_ hC
  simp at hd
  refine H_ ?_
  exact K_ (A7l _ _ p.y q.y _ _ wq (P2.o.below Below.go) (Q2.o.below Below.go))
 intro yq zq wa hC hd (hdis:Hid _)
 simp at hd
 have q4:=hd.2.2.2.2.1
 have q9:=hd.2.2.2.2.2.2.2.2.2
 obtain ⟨⟨ha4,hf4⟩,hr4⟩:=q4
 obtain ⟨⟨ha9,hf9⟩,hr9⟩:=q9
 obtain ⟨D1,nD1,cD1,d1,D2,nD2,cD2,d2,e4,z4,_,_⟩:=TRat.agg ha4
 obtain ⟨D4,nD4,cD4,d4,D5,nD5,cD5,d5,e9,z9,_,_⟩:=TRat.agg ha9
 rw[e4] at ha4
 rw[e9] at ha9
 have HA:=A_ (A5o (x:=(⟨A2d p.x q.x,A2d p.y q.y⟩:TPoint)) ha4 ha9)
 have HF:=A_ (Free.join hf4 hf9 (hdis.o 4 9 (by decide) (by decide) (by decide)))
 have HR:=A_ (show ∀ b∈zq 4++zq 9,w.heap.size+3≤b from fun b hb=>by
  rcases List.mem_append.1 hb with h | h
  ·have:=(hr4 b h).1;(try simp at this);omega
  have:=(hr9 b h).1;(try simp at this);omega)
 clear hd hdis ha4 hf4 hr4 ha9 hf9 hr9 z4 z9
 generalize zq 4++zq 9=zs at *
 obtain ⟨hc_wa,hf_wa⟩:=C_ hC
 have hz0_wa:w.heap.size<wa.heap.size:=N_ hC
 have hz1_wa:w.heap.size+1<wa.heap.size:=N_ hC
 have hz2_wa:w.heap.size+1+1<wa.heap.size:=N_ hC
 go_wp2_with fail
 have C:=A6v _ (⟨A2d p.x q.x,A2d p.y q.y⟩:TPoint) _ wa HA.o (C3r _ _) (C3r _ _)
 cases ho:A0r (⟨A2d p.x q.x,A2d p.y q.y⟩:TPoint)
 ·have O:=A_ ho
  rw[ho] at C
  clear ho
  refine C.mono ?_
  clear C
  rintro _ wb ⟨rfl,hb⟩
  obtain ⟨hc_wb,hf_wb⟩:=C_ hb
  have hz0_wb:w.heap.size<wb.heap.size:=N_ hb
  have hz1_wb:w.heap.size+1<wb.heap.size:=N_ hb
  have hz2_wb:w.heap.size+1+1<wb.heap.size:=N_ hb
  go_wp2
  refine bodyPost_ret (v:=.agg #[.bool false,.slice none 0 0,.slice none 0 0,.bool false,.slice none 0 0,.slice none 0 0]) (by simp[results,Tryz.results146,go_sem, *]) rfl ?_
  rw[E.o]
  unfold ifP
  rw[O.o]
  exact A6i Below.go
 have O:=A_ ho
 rw[ho] at C
 clear ho
 refine C.mono ?_
 clear C
 rintro _ wb ⟨rfl,hb⟩
 obtain ⟨hc_wb,hf_wb⟩:=C_ hb
 have hz0_wb:w.heap.size<wb.heap.size:=N_ hb
 have hz1_wb:w.heap.size+1<wb.heap.size:=N_ hb
 have hz2_wb:w.heap.size+1+1<wb.heap.size:=N_ hb
 go_wp2
 refine bodyPost_ret (v:=.agg #[.bool (A2d p.x q.x).num.neg,.slice D1 nD1 cD1,.slice D2 nD2 cD2,.bool (A2d p.y q.y).num.neg,.slice D4 nD4 cD4,.slice D5 nD5 cD5]) (by simp[results,Tryz.results146,go_sem, *]) rfl ?_
 rw[E.o]
 unfold ifP
 rw[O.o]
 refine A0o (lo:=w.heap.size+3) HA.o HF.o HR.o (by omega) ?_ ?_
 ·exact Above.go
 exact Below.go

theorem A5q (v1 v2:Value) (p q:TPoint) (b1 b2:List Nat) (w:World) (hx:Agg w v1 p b1) (hy:Agg w v2 q b2) :
  Calls Tryz.prog 33 #[v1,v2] w (X_ w (A2h p q)):=by
 obtain ⟨A1,nA1,cA1,s1,A2,nA2,cA2,s2,A4,nA4,cA4,s4,A5,nA5,cA5,s5,rfl,rfl,hs1,hs2,hs4,hs5⟩:=TPoint.agg hx
 obtain ⟨B1,nB1,cB1,t1,B2,nB2,cB2,t2,B4,nB4,cB4,t4,B5,nB5,cB5,t5,rfl,rfl,ht1,ht2,ht4,ht5⟩:=TPoint.agg hy
 have P1:=A_ (TRat.mkAgg (x:=p.x) hs1 hs2);have P2:=A_ (TRat.mkAgg (x:=p.y) hs4 hs5)
 have Q1:=A_ (TRat.mkAgg (x:=q.x) ht1 ht2);have Q2:=A_ (TRat.mkAgg (x:=q.y) ht4 ht5)
 clear hs1 hs2 hs4 hs5 ht1 ht2 ht4 ht5 hx hy
 have E:=A_ (show A2h p q=ifP (⟨A0u p.x q.x,A0u p.y q.y⟩:TPoint) from rfl)
 go_enter Tryz.func33,Tryz.ntmps33
 go_wp2_with fail
 refine A0m 10 (by kernel_rfl) (by kernel_rfl) (by kernel_rfl) (by kernel_rfl) (by kernel_rfl) ?_
 simp only [List.take_succ_cons,List.take_zero,List.drop_succ_cons,List.drop_zero]
 iterate 4
  refine D_ _ ?_
 refine F_ (MP.agg (A0u p.x q.x)) ?_ ?_
 ·intro yq zq wq hC hd
  obtain ⟨hcq,hfq⟩:=C_ hC
  simp at hd
  refine H_ ?_
  exact K_ (A3z _ _ p.x q.x _ _ wq (P1.o.below Below.go) (Q1.o.below Below.go))
 iterate 4
  refine D_ _ ?_
 refine F_ (MP.agg (A0u p.y q.y)) ?_ ?_
 ·intro yq zq wq hC hd
  obtain ⟨hcq,hfq⟩:=C_ hC
  simp at hd
  refine H_ ?_
  exact K_ (A3z _ _ p.y q.y _ _ wq (P2.o.below Below.go) (Q2.o.below Below.go))
 intro yq zq wa hC hd (hdis:Hid _)
 simp at hd
 have q4:=hd.2.2.2.2.1
 have q9:=hd.2.2.2.2.2.2.2.2.2
 obtain ⟨⟨ha4,hf4⟩,hr4⟩:=q4
 obtain ⟨⟨ha9,hf9⟩,hr9⟩:=q9
 obtain ⟨D1,nD1,cD1,d1,D2,nD2,cD2,d2,e4,z4,_,_⟩:=TRat.agg ha4
 obtain ⟨D4,nD4,cD4,d4,D5,nD5,cD5,d5,e9,z9,_,_⟩:=TRat.agg ha9
 rw[e4] at ha4
 rw[e9] at ha9
 have HA:=A_ (A5o (x:=(⟨A0u p.x q.x,A0u p.y q.y⟩:TPoint)) ha4 ha9)
 have HF:=A_ (Free.join hf4 hf9 (hdis.o 4 9 (by decide) (by decide) (by decide)))
 have HR:=A_ (show ∀ b∈zq 4++zq 9,w.heap.size+3≤b from fun b hb=>by
  rcases List.mem_append.1 hb with h | h
  ·have:=(hr4 b h).1;(try simp at this);omega
  have:=(hr9 b h).1;(try simp at this);omega)
 clear hd hdis ha4 hf4 hr4 ha9 hf9 hr9 z4 z9
 generalize zq 4++zq 9=zs at *
 obtain ⟨hc_wa,hf_wa⟩:=C_ hC
 have hz0_wa:w.heap.size<wa.heap.size:=N_ hC
 have hz1_wa:w.heap.size+1<wa.heap.size:=N_ hC
 have hz2_wa:w.heap.size+1+1<wa.heap.size:=N_ hC
 go_wp2_with fail
 have C:=A6v _ (⟨A0u p.x q.x,A0u p.y q.y⟩:TPoint) _ wa HA.o (C3s _ _) (C3s _ _)
 cases ho:A0r (⟨A0u p.x q.x,A0u p.y q.y⟩:TPoint)
 ·have O:=A_ ho
  rw[ho] at C
  clear ho
  refine C.mono ?_
  clear C
  rintro _ wb ⟨rfl,hb⟩
  obtain ⟨hc_wb,hf_wb⟩:=C_ hb
  have hz0_wb:w.heap.size<wb.heap.size:=N_ hb
  have hz1_wb:w.heap.size+1<wb.heap.size:=N_ hb
  have hz2_wb:w.heap.size+1+1<wb.heap.size:=N_ hb
  go_wp2
  refine bodyPost_ret (v:=.agg #[.bool false,.slice none 0 0,.slice none 0 0,.bool false,.slice none 0 0,.slice none 0 0]) (by simp[results,Tryz.results33,go_sem, *]) rfl ?_
  rw[E.o]
  unfold ifP
  rw[O.o]
  exact A6i Below.go
 have O:=A_ ho
 rw[ho] at C
 clear ho
 refine C.mono ?_
 clear C
 rintro _ wb ⟨rfl,hb⟩
 obtain ⟨hc_wb,hf_wb⟩:=C_ hb
 have hz0_wb:w.heap.size<wb.heap.size:=N_ hb
 have hz1_wb:w.heap.size+1<wb.heap.size:=N_ hb
 have hz2_wb:w.heap.size+1+1<wb.heap.size:=N_ hb
 go_wp2
 refine bodyPost_ret (v:=.agg #[.bool (A0u p.x q.x).num.neg,.slice D1 nD1 cD1,.slice D2 nD2 cD2,.bool (A0u p.y q.y).num.neg,.slice D4 nD4 cD4,.slice D5 nD5 cD5]) (by simp[results,Tryz.results33,go_sem, *]) rfl ?_
 rw[E.o]
 unfold ifP
 rw[O.o]
 refine A0o (lo:=w.heap.size+3) HA.o HF.o HR.o (by omega) ?_ ?_
 ·exact Above.go
 exact Below.go

theorem B1e (v1 v2:Value) (r:TRat) (p:TPoint) (b1 b2:List Nat) (w:World) (hx:Agg w v1 r b1) (hy:Agg w v2 p b2) :
  Calls Tryz.prog 79 #[v1,v2] w (X_ w (A2q r p)):=by
 have R1:=A_ hx
 obtain ⟨A1,nA1,cA1,s1,A2,nA2,cA2,s2,rfl,rfl,hs1,hs2⟩:=TRat.agg hx
 obtain ⟨B1,nB1,cB1,t1,B2,nB2,cB2,t2,B4,nB4,cB4,t4,B5,nB5,cB5,t5,rfl,rfl,ht1,ht2,ht4,ht5⟩:=TPoint.agg hy
 have Q1:=A_ (TRat.mkAgg (x:=p.x) ht1 ht2);have Q2:=A_ (TRat.mkAgg (x:=p.y) ht4 ht5)
 clear hs1 hs2 ht1 ht2 ht4 ht5 hx hy
 have E:=A_ (show A2q r p=ifP (⟨A1c r p.x,A1c r p.y⟩:TPoint) from rfl)
 go_enter Tryz.func79,Tryz.ntmps79
 go_wp2_with fail
 refine A0m 8 (by kernel_rfl) (by kernel_rfl) (by kernel_rfl) (by kernel_rfl) (by kernel_rfl) ?_
 simp only [List.take_succ_cons,List.take_zero,List.drop_succ_cons,List.drop_zero]
 iterate 3
  refine D_ _ ?_
 refine F_ (MP.agg (A1c r p.x)) ?_ ?_
 ·intro yq zq wq hC hd
  obtain ⟨hcq,hfq⟩:=C_ hC
  simp at hd
  refine H_ ?_
  exact K_ (A3l _ _ r p.x _ _ wq (R1.o.below Below.go) (Q1.o.below Below.go))
 iterate 3
  refine D_ _ ?_
 refine F_ (MP.agg (A1c r p.y)) ?_ ?_
 ·intro yq zq wq hC hd
  obtain ⟨hcq,hfq⟩:=C_ hC
  simp at hd
  refine H_ ?_
  exact K_ (A3l _ _ r p.y _ _ wq (R1.o.below Below.go) (Q2.o.below Below.go))
 intro yq zq wa hC hd (hdis:Hid _)
 simp at hd
 have q4:=hd.2.2.2.1
 have q9:=hd.2.2.2.2.2.2.2
 obtain ⟨⟨ha4,hf4⟩,hr4⟩:=q4
 obtain ⟨⟨ha9,hf9⟩,hr9⟩:=q9
 obtain ⟨D1,nD1,cD1,d1,D2,nD2,cD2,d2,e4,z4,_,_⟩:=TRat.agg ha4
 obtain ⟨D4,nD4,cD4,d4,D5,nD5,cD5,d5,e9,z9,_,_⟩:=TRat.agg ha9
 rw[e4] at ha4
 rw[e9] at ha9
 have HA:=A_ (A5o (x:=(⟨A1c r p.x,A1c r p.y⟩:TPoint)) ha4 ha9)
 have HF:=A_ (Free.join hf4 hf9 (hdis.o 3 7 (by decide) (by decide) (by decide)))
 have HR:=A_ (show ∀ b∈zq 3++zq 7,w.heap.size+3≤b from fun b hb=>by
  rcases List.mem_append.1 hb with h | h
  ·have:=(hr4 b h).1;(try simp at this);omega
  have:=(hr9 b h).1;(try simp at this);omega)
 clear hd hdis ha4 hf4 hr4 ha9 hf9 hr9 z4 z9
 generalize zq 3++zq 7=zs at *
 obtain ⟨hc_wa,hf_wa⟩:=C_ hC
 have hz0_wa:w.heap.size<wa.heap.size:=N_ hC
 have hz1_wa:w.heap.size+1<wa.heap.size:=N_ hC
 have hz2_wa:w.heap.size+1+1<wa.heap.size:=N_ hC
 go_wp2_with fail
 have C:=A6v _ (⟨A1c r p.x,A1c r p.y⟩:TPoint) _ wa HA.o (C4n _ _) (C4n _ _)
 cases ho:A0r (⟨A1c r p.x,A1c r p.y⟩:TPoint)
 ·have O:=A_ ho
  rw[ho] at C
  clear ho
  refine C.mono ?_
  clear C
  rintro _ wb ⟨rfl,hb⟩
  obtain ⟨hc_wb,hf_wb⟩:=C_ hb
  have hz0_wb:w.heap.size<wb.heap.size:=N_ hb
  have hz1_wb:w.heap.size+1<wb.heap.size:=N_ hb
  have hz2_wb:w.heap.size+1+1<wb.heap.size:=N_ hb
  go_wp2
  refine bodyPost_ret (v:=.agg #[.bool false,.slice none 0 0,.slice none 0 0,.bool false,.slice none 0 0,.slice none 0 0]) (by simp[results,Tryz.results79,go_sem, *]) rfl ?_
  rw[E.o]
  unfold ifP
  rw[O.o]
  exact A6i Below.go
 have O:=A_ ho
 rw[ho] at C
 clear ho
 refine C.mono ?_
 clear C
 rintro _ wb ⟨rfl,hb⟩
 obtain ⟨hc_wb,hf_wb⟩:=C_ hb
 have hz0_wb:w.heap.size<wb.heap.size:=N_ hb
 have hz1_wb:w.heap.size+1<wb.heap.size:=N_ hb
 have hz2_wb:w.heap.size+1+1<wb.heap.size:=N_ hb
 go_wp2
 refine bodyPost_ret (v:=.agg #[.bool (A1c r p.x).num.neg,.slice D1 nD1 cD1,.slice D2 nD2 cD2,.bool (A1c r p.y).num.neg,.slice D4 nD4 cD4,.slice D5 nD5 cD5]) (by simp[results,Tryz.results79,go_sem, *]) rfl ?_
 rw[E.o]
 unfold ifP
 rw[O.o]
 refine A0o (lo:=w.heap.size+3) HA.o HF.o HR.o (by omega) ?_ ?_
 ·exact Above.go
 exact Below.go

end Go.Proofs.YtbhemnidcleaiaaGreat.X
namespace Go.Proofs.YtbhemnidcleaiaaGreat.X
open Go.RowKit Go.XB Go.XN
attribute [local go_sem] O_ opAt P_ M_ Region.wanted yielded
attribute [local simp] P_ M_ MP.eq MP.agg MP.sl A0e

theorem C8b (w:World):Calls Tryz.prog 27 #[.int .i64 1,.int .i64 2] w (X_ w (mkR 1 2)) :=
 B8y 1 2 w (by constructor<;>decide) (by constructor<;>decide) (by decide)

theorem B7v (v1 v2:Value) (p q:TPoint) (b1 b2:List Nat) (w:World) (hx:Agg w v1 p b1) (hy:Agg w v2 q b2) :
  Calls Tryz.prog 78 #[v1,v2] w (X_ w (B2t p q)):=by
 have HX:=A_ hx;have HY:=A_ hy
 obtain ⟨A1,nA1,cA1,s1,A2,nA2,cA2,s2,A4,nA4,cA4,s4,A5,nA5,cA5,s5,rfl,rfl,hs1,hs2,hs4,hs5⟩:=TPoint.agg hx
 obtain ⟨B1,nB1,cB1,t1,B2,nB2,cB2,t2,B4,nB4,cB4,t4,B5,nB5,cB5,t5,rfl,rfl,ht1,ht2,ht4,ht5⟩:=TPoint.agg hy
 have P1:=A_ (TRat.mkAgg (x:=p.x) hs1 hs2);have P2:=A_ (TRat.mkAgg (x:=p.y) hs4 hs5)
 have Q1:=A_ (TRat.mkAgg (x:=q.x) ht1 ht2);have Q2:=A_ (TRat.mkAgg (x:=q.y) ht4 ht5)
 clear hs1 hs2 hs4 hs5 ht1 ht2 ht4 ht5 hx hy HX HY
 go_enter Tryz.func78,Tryz.ntmps78
 go_wp2_with fail
 refine A0m 10 (by kernel_rfl) (by kernel_rfl) (by kernel_rfl) (by kernel_rfl) (by kernel_rfl) ?_
 simp only [List.take_succ_cons,List.take_zero,List.drop_succ_cons,List.drop_zero]
 iterate 4
  refine D_ _ ?_
 refine F_ (MP.agg (A1c p.x q.y)) ?_ ?_
 ·intro yq zq wq hC hd
  obtain ⟨hcq,hfq⟩:=C_ hC
  simp at hd
  refine H_ ?_
  exact K_ (A3l _ _ p.x q.y _ _ wq (P1.o.below Below.go) (Q2.o.below Below.go))
 iterate 4
  refine D_ _ ?_
 refine F_ (MP.agg (A1c p.y q.x)) ?_ ?_
 ·intro yq zq wq hC hd
  obtain ⟨hcq,hfq⟩:=C_ hC
  simp at hd
  refine H_ ?_
  exact K_ (A3l _ _ p.y q.x _ _ wq (P2.o.below Below.go) (Q1.o.below Below.go))
 intro yq zq wa hC hd (hdis:Hid _)
 simp at hd
 have q4:=hd.2.2.2.2.1
 have q9:=hd.2.2.2.2.2.2.2.2.2
 have H4:=A_ q4.1.1;have H9:=A_ q9.1.1
 clear hd hdis q4 q9
 obtain ⟨hc_wa,hf_wa⟩:=C_ hC
 have hz0_wa:w.heap.size<wa.heap.size:=N_ hC
 have hz1_wa:w.heap.size+1<wa.heap.size:=N_ hC
 have hz2_wa:w.heap.size+1+1<wa.heap.size:=N_ hC
 go_wp2_with fail
 refine (A3z _ _ (A1c p.x q.y) (A1c p.y q.x) _ _ wa H4.o H9.o).mono ?_
 rintro _ wb ⟨vb,sb,rfl,hab,hob,hb⟩
 obtain ⟨D1,nD1,cD1,d1,D2,nD2,cD2,d2,rfl,hzb,_,_⟩:=TRat.agg hab
 have HA:=A_ hab;have HO:=A_ hob
 clear hab hob hzb
 obtain ⟨hc_wb,hf_wb⟩:=C_ hb
 have hz0_wb:w.heap.size<wb.heap.size:=N_ hb
 have hz1_wb:w.heap.size+1<wb.heap.size:=N_ hb
 have hz2_wb:w.heap.size+1+1<wb.heap.size:=N_ hb
 go_wp2
 refine bodyPost_ret (v:=.agg #[.bool (A0u (A1c p.x q.y) (A1c p.y q.x)).num.neg,.slice D1 nD1 cD1,.slice D2 nD2 cD2]) (by simp[results,Tryz.results78,go_sem, *]) rfl ?_
 refine A0o (lo:=w.heap.size+3) HA.o HO.o.free (fun b hb=>by have:=(HO.o.2 b hb).1;(try simp at this);omega) (by omega) ?_ ?_
 ·exact Above.go
 exact Below.go

theorem A7x (v0 v1 v2:Value) (o p q:TPoint) (b0 b1 b2:List Nat) (w:World) (h0:Agg w v0 o b0) (hx:Agg w v1 p b1) (hy:Agg w v2 q b2) :
  Calls Tryz.prog 136 #[v0,v1,v2] w (X_ w (A0i o p q)):=by
 have HO:=A_ h0
 obtain ⟨C1,nC1,cC1,r1,C2,nC2,cC2,r2,C4,nC4,cC4,r4,C5,nC5,cC5,r5,rfl,rfl,hr1,hr2,hr4,hr5⟩:=TPoint.agg h0
 have HX:=A_ hx;have HY:=A_ hy
 obtain ⟨A1,nA1,cA1,s1,A2,nA2,cA2,s2,A4,nA4,cA4,s4,A5,nA5,cA5,s5,rfl,rfl,hs1,hs2,hs4,hs5⟩:=TPoint.agg hx
 obtain ⟨B1,nB1,cB1,t1,B2,nB2,cB2,t2,B4,nB4,cB4,t4,B5,nB5,cB5,t5,rfl,rfl,ht1,ht2,ht4,ht5⟩:=TPoint.agg hy
 clear hr1 hr2 hr4 hr5 hs1 hs2 hs4 hs5 ht1 ht2 ht4 ht5 h0 hx hy
 go_enter Tryz.func136,Tryz.ntmps136
 go_wp2_with fail
 refine A0m 6 (by kernel_rfl) (by kernel_rfl) (by kernel_rfl) (by kernel_rfl) (by kernel_rfl) ?_
 simp only [List.take_succ_cons,List.take_zero,List.drop_succ_cons,List.drop_zero]
 iterate 2
  refine D_ _ ?_
 refine F_ (MP.agg (A2h p o)) ?_ ?_
 ·intro yq zq wq hC hd
  obtain ⟨hcq,hfq⟩:=C_ hC
  simp at hd
  refine H_ ?_
  exact K_ (A5q _ _ p o _ _ wq (HX.o.below Below.go) (HO.o.below Below.go))
 iterate 2
  refine D_ _ ?_
 refine F_ (MP.agg (A2h q o)) ?_ ?_
 ·intro yq zq wq hC hd
  obtain ⟨hcq,hfq⟩:=C_ hC
  simp at hd
  refine H_ ?_
  exact K_ (A5q _ _ q o _ _ wq (HY.o.below Below.go) (HO.o.below Below.go))
 intro yq zq wa hC hd (hdis:Hid _)
 simp at hd
 have q4:=hd.2.2.1
 have q9:=hd.2.2.2.2.2
 have H4:=A_ q4.1.1;have H9:=A_ q9.1.1
 clear hd hdis q4 q9
 obtain ⟨hc_wa,hf_wa⟩:=C_ hC
 have hz0_wa:w.heap.size<wa.heap.size:=N_ hC
 have hz1_wa:w.heap.size+1<wa.heap.size:=N_ hC
 have hz2_wa:w.heap.size+1+1<wa.heap.size:=N_ hC
 have hz3_wa:w.heap.size+1+1+1<wa.heap.size:=N_ hC
 go_wp2_with fail
 refine (B7v _ _ (A2h p o) (A2h q o) _ _ wa H4.o H9.o).mono ?_
 rintro _ wb ⟨vb,sb,rfl,hab,hob,hb⟩
 obtain ⟨D1,nD1,cD1,d1,D2,nD2,cD2,d2,rfl,hzb,_,_⟩:=TRat.agg hab
 have HA:=A_ hab;have HOb:=A_ hob
 clear hab hob hzb
 obtain ⟨hc_wb,hf_wb⟩:=C_ hb
 have hz0_wb:w.heap.size<wb.heap.size:=N_ hb
 have hz1_wb:w.heap.size+1<wb.heap.size:=N_ hb
 have hz2_wb:w.heap.size+1+1<wb.heap.size:=N_ hb
 have hz3_wb:w.heap.size+1+1+1<wb.heap.size:=N_ hb
 go_wp2
 refine bodyPost_ret (v:=.agg #[.bool (B2t (A2h p o) (A2h q o)).num.neg,.slice D1 nD1 cD1,.slice D2 nD2 cD2]) (by simp[results,Tryz.results136,go_sem, *]) rfl ?_
 refine A0o (lo:=w.heap.size+4) HA.o HOb.o.free (fun b hb=>by have:=(HOb.o.2 b hb).1;(try simp at this);omega) (by omega) ?_ ?_
 ·exact Above.go
 exact Below.go

end Go.Proofs.YtbhemnidcleaiaaGreat.X

namespace Go.XN
open Go.XB
def A3v:List TPoint→Bool
 | [a,b,c]=>(A0r a&&(A0r b&&A0r c))&&decide (0<A2s (A0i a b c))
 | _=>false
end Go.XN
namespace Go.Proofs.YtbhemnidcleaiaaGreat.X
open Go.RowKit Go.XB Go.XN
attribute [local go_sem] O_ opAt P_ M_ Region.wanted yielded
attribute [local simp] P_ M_ MP.eq MP.agg MP.sl A0e

theorem C7v (f:Nat) (hf:A5r f) (A:Option Addr) (n c:Nat) (xs:List TPoint) (bs:List Nat) (w:World) (p:TPoint→Bool) (hx:Sl w A n c xs bs)
  (hp:∀ (v:Value) (x:TPoint) (b:List Nat) (w:World),x∈xs→Agg w v x b→Calls Tryz.prog f #[v] w (A0j w (.bool (p x)))) :
  Calls Tryz.prog 195 #[.slice A n c,.func (.func f) #[] #[]] w (B4s w (xs.any p)):=by
 have HL:=A_ hx.1
 have HX:=A_ hx
 have HP:=A_ hp
 unfold A5r at hf
 have hm:n≤maxLen:=Nat.le_trans hx.2.1 hx.2.2.1
 unfold maxLen at hm
 clear hx hp
 go_enter Tryz.func195,Tryz.ntmps195
 go_wp2_with fail
 go_loopg [8] n (fun g s8 wr=>∃ k:Nat,k+g=n∧s8=.int .i64 k∧Hid ((xs.take k).any p=false)∧Below w.heap.size w wr)
 case atStart=>exact ⟨0,by omega,rfl,by show (xs.take 0).any p=false;simp,Below.refl _ _⟩
 case round =>
  obtain ⟨k,hk,rfl,ha,hb⟩:=hrel
  rcases Nat.lt_or_ge k n with hkn | hkn
  ·obtain ⟨be,offe,x,A1,m1,d1,s1,A2,m2,d2,s2,A4,m4,d4,s4,A5,m5,d5,s5,rfl,hble,hx1,e0,e1,e2,e3,e4,e5,hag⟩:=TPoint.elemA (Sl.below HX.o hb) hkn
   have HX1:=A_ hx1
   have HAG:=A_ hag
   have hki:(k:Int)<n:=by omega
   obtain ⟨g,rfl⟩:∃ g,gk=g+1:=⟨gk - 1,by omega⟩
   have hk':=A_ (show k+1+g=n by omega)
   have hkj:k+1≤n:=hkn
   clear hx1 hk hkn hag
   go_wp2_with fail
   refine (HP.o _ x _ wr (List.mem_of_getElem? HX1.o) HAG.o).mono ?_
   rintro _ w1 ⟨rfl,hb1⟩
   have hb2:=Below.next hb hb1
   cases hpx:p x
   ·have r1:=A_ (B2c HX1.o ha.o hpx)
    clear hpx
    go_wp2_with fail
    go_roundg g
    case measure=>omega
    case rel=>exact ⟨k+1,hk'.o,by go_num,r1,hb2⟩
   have r1:=A_ (C1j HX1.o hpx)
   clear hpx
   go_wp2
   go_ret
   exact ⟨k,rfl,by rw[r1.o];simp,hb2⟩
  have e:=A_ (show xs.any p=false by
   have:=ha.o
   rwa [List.take_of_length_le (by rw[HL.o];omega)] at this)
  have hki:¬ ((k:Int)<n):=by omega
  clear hk hkn
  go_wp2
  go_ret
  exact ⟨-1,rfl,by rw[e.o];rfl,hb⟩

theorem B4l (f:Nat) (hf:A5r f) (A:Option Addr) (n c:Nat) (xs:List TPoint) (bs:List Nat) (w:World) (p:TPoint→Bool) (hx:Sl w A n c xs bs)
  (hp:∀ (v:Value) (x:TPoint) (b:List Nat) (w:World),x∈xs→Agg w v x b→Calls Tryz.prog f #[v] w (A0j w (.bool (p x)))) :
  Calls Tryz.prog 139 #[.slice A n c,.func (.func f) #[] #[]] w (A0j w (.bool (xs.any p))):=by
 have HX:=A_ hx
 have HP:=A_ hp
 have HF:=A_ hf
 clear hx hp hf
 go_enter Tryz.func139,Tryz.ntmps139
 go_wp2_with fail
 refine (C7v f HF.o A n c xs bs _ p (Sl.below HX.o Below.go) HP.o).mono ?_
 rintro _ w1 ⟨r,rfl,e,hb1⟩
 have E:=A_ e
 clear e
 go_wp2
 go_ret
 exact ⟨R_ E.o,hb1⟩

theorem B0h:A5r 246:=fun a w=>by kernel_rfl
def C0x (x:TPoint):Bool:=!A0r x
theorem B1h (v:Value) (x:TPoint) (b:List Nat) (w:World) (hx:Agg w v x b):Calls Tryz.prog 246 #[v] w (A0j w (.bool (C0x x))):=by
 have HX:=A_ hx
 obtain ⟨A1,nA1,cA1,s1,A2,nA2,cA2,s2,A4,nA4,cA4,s4,A5,nA5,cA5,s5,rfl,rfl,hs1,hs2,hs4,hs5⟩:=TPoint.agg hx
 clear hs1 hs2 hs4 hs5 hx
 go_enter Tryz.func246,Tryz.ntmps246
 go_wp2_with fail
 refine (A9i _ x _ _ (Agg.below HX.o Below.go)).mono ?_
 rintro _ w1 ⟨rfl,hb1⟩
 go_wp2
 go_ret
 exact ⟨rfl,Below.go⟩

theorem B2u (A:Option Addr) (n c:Nat) (xs:List TPoint) (bs:List Nat) (w:World) (hx:Sl w A n c xs bs) :
  Calls Tryz.prog 197 #[.slice A n c] w (A0j w (.bool (A3v xs))):=by
 have HX:=A_ hx
 by_cases hn:n=3
 ·subst hn
  have hany:=A_ (show xs.any C0x=!xs.all A0r by rw[List.not_all_eq_any_not];rfl)
  cases hv:xs.all A0r
  ·have E:=A_ (show A3v xs=false by
    match xs,hx.1 with
    | [a,b,c'],_ =>
     simp only [List.all_cons,List.all_nil,Bool.and_true] at hv
     show ((A0r a&&(A0r b&&A0r c'))&&_)=false
     rw[hv];rfl)
   have AN:=A_ (show xs.any C0x=true by rw[hany.o,hv];rfl)
   clear hv hany hx
   go_enter Tryz.func197,Tryz.ntmps197
   go_wp2_with fail
   refine A0l ?_
   iterate 5
    refine D_ _ ?_
   refine F_ (MP.eq (.bool true)) ?_ ?_
   ·intro yq zq wq hC hd
    obtain ⟨hcq,hfq⟩:=C_ hC
    simp at hd
    refine H_ ?_
    exact A0t (by have C:=B4l 246 B0h A 3 c xs bs wq C0x (Sl.below HX.o hC) (fun v x b w _ h=>B1h v x b w h);rwa [AN.o] at C)
   iterate 3
    refine D_ _ ?_
   iterate 12
    apply A2g
    case h =>
     intro yq zq wq hC hd
     simp at hd
     go_simp
     first | done | (simp[undef];done)
   iterate 2
    refine D_ _ ?_
   intro yq zq ux hC hd (hdis:Hid _)
   simp at hd
   go_simp
   clear hd hdis
   go_wp2
   go_ret
   rw[E.o]
   exact ⟨rfl,hC⟩
  ·have AN:=A_ (show xs.any C0x=false by rw[hany.o,hv];rfl)
   have HV:=A_ hv
   clear hv hany
   have HX0:=hx
   obtain ⟨a1,b1,c1,rfl⟩:∃ a b c',xs=[a,b,c']:=by
    match xs,hx.1 with
    | [a,b,c'],_=>exact ⟨a,b,c',rfl⟩
   obtain ⟨be0,of0,a2,P1,nP1,cP1,p1,P2,nP2,cP2,p2,P4,nP4,cP4,p4,P5,nP5,cP5,p5,hA0,hbl0,hx0,Pe0,Pe1,Pe2,Pe3,Pe4,Pe5,hg0⟩:=TPoint.elemA HX.o (show 0<3 by decide)
   obtain ⟨be1,of1,b2,Q1,nQ1,cQ1,q1,Q2,nQ2,cQ2,q2,Q4,nQ4,cQ4,q4,Q5,nQ5,cQ5,q5,hA1,hbl1,hx1,Qe0,Qe1,Qe2,Qe3,Qe4,Qe5,hg1⟩:=TPoint.elemA HX.o (show 1<3 by decide)
   obtain ⟨be2,of2,c2,R1,nR1,cR1,r1,R2,nR2,cR2,r2,R4,nR4,cR4,r4,R5,nR5,cR5,r5,hA2,hbl2,hx2,Re0,Re1,Re2,Re3,Re4,Re5,hg2⟩:=TPoint.elemA HX.o (show 2<3 by decide)
   subst hA0
   injection hA1 with hA1;injection hA1 with h1 h2 _;subst h1;subst h2
   injection hA2 with hA2;injection hA2 with h1 h2 _;subst h1;subst h2
   simp at hx0 hx1 hx2
   subst hx0;subst hx1;subst hx2
   simp at Pe0 Pe1 Pe2 Pe3 Pe4 Pe5 Qe0 Qe1 Qe2 Qe3 Qe4 Qe5 Re0 Re1 Re2 Re3 Re4 Re5
   have HA:=A_ hg0;have HB:=A_ hg1;have HC:=A_ hg2
   clear hbl1 hbl2 hg0 hg1 hg2 hx HX0
   have E:=A_ (show decide (0<A2s (A0i a1 b1 c1))=A3v [a1,b1,c1] by
    have h:=HV.o
    simp only [List.all_cons,List.all_nil,Bool.and_true] at h
    show _=((A0r a1&&(A0r b1&&A0r c1))&&_)
    rw[h];rfl)
   clear HV
   go_enter Tryz.func197,Tryz.ntmps197
   go_wp2_with fail
   refine A0l ?_
   iterate 5
    refine D_ _ ?_
   refine F_ (MP.eq (.bool false)) ?_ ?_
   ·intro yq zq wq hC hd
    obtain ⟨hcq,hfq⟩:=C_ hC
    simp at hd
    refine H_ ?_
    exact A0t (by have C:=B4l 246 B0h _ 3 c [a1,b1,c1] bs wq C0x (Sl.below HX.o hC) (fun v x b w _ h=>B1h v x b w h);rwa [AN.o] at C)
   iterate 3
    refine D_ _ ?_
   iterate 9
    refine D_ _ ?_
   refine F_ (MP.agg (A0i a1 b1 c1)) ?_ ?_
   ·intro yq zq wq hC hd
    obtain ⟨hcq,hfq⟩:=C_ hC
    simp at hd
    refine H_ ?_
    exact K_ (A7x _ _ _ a1 b1 c1 _ _ _ wq (HA.o.below hC) (HB.o.below hC) (HC.o.below hC))
   refine F_ (MP.eq (.int .i64 (A2s (A0i a1 b1 c1)))) ?_ ?_
   ·intro yq zq wq hC hd
    obtain ⟨hcq,hfq⟩:=C_ hC
    simp at hd
    refine H_ ?_
    exact A0t (B4y _ (A0i a1 b1 c1) _ wq hd.1.1)
   iterate 3
    refine D_ _ ?_
   intro yq zq ux hC hd (hdis:Hid _)
   simp at hd
   go_simp
   clear hd hdis
   go_wp2
   go_ret
   exact ⟨R_ E.o,hC⟩
 have E:=A_ (show A3v xs=false by
  have hl:=hx.1
  match xs with
  | []=>rfl
  | [_]=>rfl
  | [_,_]=>rfl
  | [_,_,_]=>exact absurd hl.symm hn
  | _::_::_::_::_=>rfl)
 have hni:¬ ((n:Int)=3):=by omega
 have hnb:((n:Int)==3)=false:=by simp;omega
 clear hx
 go_enter Tryz.func197,Tryz.ntmps197
 go_wp2_with fail
 refine A0l ?_
 iterate 4
  refine D_ _ ?_
 iterate 3
  apply A2g
  case h =>
   intro yq zq wq hC hd
   simp at hd
   go_simp
   first | done | (simp[undef];done)
 iterate 2
  refine D_ _ ?_
 iterate 12
  apply A2g
  case h =>
   intro yq zq wq hC hd
   simp at hd
   go_simp
   first | done | (simp[undef];done)
 iterate 2
  refine D_ _ ?_
 intro yq zq ux hC hd (hdis:Hid _)
 simp at hd
 go_simp
 clear hd hdis
 go_wp2
 go_ret
 rw[E.o]
 exact ⟨rfl,hC⟩
end Go.Proofs.YtbhemnidcleaiaaGreat.X
namespace Go.Proofs.YtbhemnidcleaiaaGreat.X
open Go.RowKit Go.XB Go.XN
def at0 (xs:List Int) (a:Int):Int:=xs.getD a.toNat 0
def D5x (xs ys:List Int) (a b c:Int):Int:=(at0 xs b - at0 xs a)*(at0 ys c - at0 ys a) - (at0 ys b - at0 ys a)*(at0 xs c - at0 xs a)
def A5e (xs ys:List Int) (a b c:Int):Int:=sgn (D5x xs ys a b c)
def A5d (xs ys:List Int) (a b c:Int):Bool:=decide (A5e xs ys a b c=0)&&(inB (min (at0 xs a) (at0 xs b)) (at0 xs c) (max (at0 xs a) (at0 xs b))&&inB (min (at0 ys a) (at0 ys b)) (at0 ys c) (max (at0 ys a) (at0 ys b)))
def A5g (xs:List Int):Prop:=∀ x∈xs,-100≤x∧x≤100
def Plc (w:World) (v:Value) (n:Nat) (xs ys:List Int):Prop:=∃ (A:Option Addr) (c X oX cX Y oY cY:Nat) (bX bY:List Nat),v=.agg #[.slice A n c,.slice (some ⟨X,oX,none⟩) n cX,.slice (some ⟨Y,oY,none⟩) n cY]∧Sl w (some ⟨X,oX,none⟩) n cX xs bX∧Sl w (some ⟨Y,oY,none⟩) n cY ys bY
theorem Plc.below {w w':World} {v:Value} {n:Nat} {xs ys:List Int} (h:Plc w v n xs ys) (hb:Below w.heap.size w w'):Plc w' v n xs ys:=by
 obtain ⟨A,c,X,oX,cX,Y,oY,cY,bX,bY,h1,h2,h3⟩:=h
 exact ⟨A,c,X,oX,cX,Y,oY,cY,bX,bY,h1,h2.below hb,h3.below hb⟩
theorem C0v {a b:Int} (h1:-200≤a∧a≤200) (h2:-200≤b∧b≤200):-40000≤a*b∧a*b≤40000:=by
 have h:(a*b).natAbs≤200*200:=by
  rw[Int.natAbs_mul];exact Nat.mul_le_mul (by omega) (by omega)
 omega
end Go.Proofs.YtbhemnidcleaiaaGreat.X
namespace Go.Proofs.YtbhemnidcleaiaaGreat.X
open Go.RowKit Go.XB Go.XN
attribute [local go_sem] O_ opAt P_ M_ Region.wanted yielded
attribute [local simp] P_ M_ MP.eq MP.agg MP.sl A0e

theorem A3n (v:Value) (n:Nat) (xs ys:List Int) (a b c:Int) (w:World) (hp:Plc w v n xs ys) (hsx:A5g xs) (hsy:A5g ys) (ha:0≤a∧a<n) (hb:0≤b∧b<n) (hc:0≤c∧c<n) :
  Calls Tryz.prog 141 #[v,.int .i64 a,.int .i64 b,.int .i64 c] w (A0j w (.int .i64 (A5e xs ys a b c))):=by
 obtain ⟨A,cA,X,oX,cX,Y,oY,cY,bX,bY,rfl,hX,hY⟩:=hp
 obtain ⟨ja,rfl⟩:=Int.eq_ofNat_of_zero_le ha.1
 obtain ⟨jb,rfl⟩:=Int.eq_ofNat_of_zero_le hb.1
 obtain ⟨jc,rfl⟩:=Int.eq_ofNat_of_zero_le hc.1
 obtain ⟨_,_,xa,e1,hXl,hxa,_,cxa⟩:=Sl.getInt hX (show ja<n by omega);cases e1
 obtain ⟨_,_,xb,e1,_,hxb,_,cxb⟩:=Sl.getInt hX (show jb<n by omega);cases e1
 obtain ⟨_,_,xc,e1,_,hxc,_,cxc⟩:=Sl.getInt hX (show jc<n by omega);cases e1
 obtain ⟨_,_,ya,e1,hYl,hya,_,cya⟩:=Sl.getInt hY (show ja<n by omega);cases e1
 obtain ⟨_,_,yb,e1,_,hyb,_,cyb⟩:=Sl.getInt hY (show jb<n by omega);cases e1
 obtain ⟨_,_,yc,e1,_,hyc,_,cyc⟩:=Sl.getInt hY (show jc<n by omega);cases e1
 have E:=A_ (show sgn ((xb - xa)*(yc - ya) - (yb - ya)*(xc - xa))=A5e xs ys ja jb jc by
  unfold A5e D5x at0;simp[List.getD,hxa,hxb,hxc,hya,hyb,hyc])
 have b1:=hsx xa (List.mem_of_getElem? hxa)
 have b2:=hsx xb (List.mem_of_getElem? hxb)
 have b3:=hsx xc (List.mem_of_getElem? hxc)
 have b4:=hsy ya (List.mem_of_getElem? hya)
 have b5:=hsy yb (List.mem_of_getElem? hyb)
 have b6:=hsy yc (List.mem_of_getElem? hyc)
 obtain ⟨p,hp⟩:∃ p,xb - xa=p:=⟨_,rfl⟩
 obtain ⟨q,hq⟩:∃ q,yc - ya=q:=⟨_,rfl⟩
 obtain ⟨r,hr⟩:∃ r,yb - ya=r:=⟨_,rfl⟩
 obtain ⟨s,hs⟩:∃ s,xc - xa=s:=⟨_,rfl⟩
 have p1:-200≤p∧p≤200:=by omega
 have q1:-200≤q∧q≤200:=by omega
 have r1:-200≤r∧r≤200:=by omega
 have s1:-200≤s∧s≤200:=by omega
 obtain ⟨m1,hm1⟩:∃ m,p*q=m:=⟨_,rfl⟩
 obtain ⟨m2,hm2⟩:∃ m,r*s=m:=⟨_,rfl⟩
 have k1:-40000≤m1∧m1≤40000:=by have:=C0v p1 q1;rw[hm1] at this;exact this
 have k2:-40000≤m2∧m2≤40000:=by have:=C0v r1 s1;rw[hm2] at this;exact this
 rw[hp,hq,hr,hs,hm1,hm2] at E
 have hja:(ja:Int)<n:=ha.2
 have hjb:(jb:Int)<n:=hb.2
 have hjc:(jc:Int)<n:=hc.2
 clear hX hY hxa hxb hxc hya hyb hyc hsx hsy ha hb hc
 go_enter Tryz.func141,Tryz.ntmps141
 go_wp2_with fail
 refine A0l ?_
 iterate 47
  refine D_ _ ?_
 refine F_ (MP.eq (.int .i64 (sgn (m1 - m2)))) ?_ ?_
 ·intro yq zq wq hC hd
  obtain ⟨hcq,hfq⟩:=C_ hC
  simp at hd
  refine H_ ?_
  exact A0t (C4l _ _)
 refine D_ _ ?_
 intro yq zq wa hC hd (hdis:Hid _)
 simp at hd
 go_simp
 clear hd hdis
 go_wp2
 go_ret
 rw[← E.o]
 exact ⟨rfl,Below.go⟩
end Go.Proofs.YtbhemnidcleaiaaGreat.X

namespace Go
section
variable {P:Program} (w:World)
theorem C9g (base:Nat) (t ty e:TypeId) (i:TypeInfo) (z:Value) (size bytes:Nat) (ht:P.underlying t=some (.slice e)) (hi:P.info? e=some i) (hz:i.zero=some z)
  (hsize:i.size=size) (hby:i.bytes=bytes) (hzs:z.cells.size=size) (hsz:0<size)
  (g n cap:Nat) (xs:List Value) (hown:w.ownsRow base e size (.slice (some ⟨g,0,none⟩) n cap) n xs)
  (a:Addr) (m c:Nat) (news:List Value) (hl:news.length=m*size) (hnews:∀ j u,news[j]?=some u→w.cell? (a.add j)=some u) (h1:∀ u∈news,u.oneCell'=true)
  (h63:n+m≤maxLen) (hbytes:(n+m)*bytes≤140737488355328) (hbase:base≤w.heap.size) :
  ∃ g' cap' w',(Builtin.append_ #[t,t] ty #[.slice (some ⟨g,0,none⟩) n cap,.slice (some a) m c]).run P w=.ok (.slice (some ⟨g',0,none⟩) (n+m) cap') w'∧w'.ownsRow base e size (.slice (some ⟨g',0,none⟩) (n+m) cap') (n+m) (xs++news)∧w.grownBy w' (some g)∧(g'=g∨g'=w.heap.size):=by
 obtain ⟨v',w',hr,h2,h3,_⟩:=run_append_own (P:=P) w base t ty e i z size bytes ht hi hz hsize hby hzs hsz _ n xs hown a m c news hl hnews h1 h63 hbytes hbase
 by_cases hroom:n+m≤cap
 ·rcases hown.2 with ⟨h,_⟩ | ⟨g0,cap0,cur,hv,hb,hg,hnc,hcm,hcs,htake⟩
  ·cases h
  cases hv
  have hfit:n*i.size+news.length≤cur.size:=by rw[hsize,hl,hcs,← Nat.add_mul];exact Nat.mul_le_mul_right _ hroom
  have hr2:=run_append_room (P:=P) w t ty e i ht hi g n cap cur hg a m c news (by rw[hsize];exact hl) hnews h1 hroom hfit
  rw[hr] at hr2
  cases hr2
  exact ⟨_,_,_,hr,h2,h3,.inl rfl⟩
 have holds:∀ j u,xs[j]?=some u→w.cell? ((⟨g,0,none⟩:Addr).add j)=some u:=hown.cells (g:=g) rfl
 have hr2:=run_append_grow (P:=P) w t ty e i z ht hi hz ⟨g,0,none⟩ n cap xs (by rw[hsize];exact hown.1) holds a m c news (by rw[hsize];exact hl) hnews (by omega) (by unfold maxLen at h63;omega) (growslice_fits (by omega) (by rw[hby];exact hbytes))
 rw[hr] at hr2
 cases hr2
 exact ⟨_,_,_,hr,h2,h3,.inr rfl⟩

theorem A1f {w:World} {ops:Array Oper} {rest:List Oper} {o:Oper} {a:Act} {Q:Exit→Act→World→Prop} (hgd:o.guard=none) (s x:Operand) (t:TypeId)
  (ho:o.op=.call { callee:=.builtin .append,args:=#[s,x],argTypes:=#[t,t] })
  (base:Nat) (e:TypeId) (i:TypeInfo) (z:Value) (size bytes:Nat) (ht:P.underlying t=some (.slice e)) (hi:P.info? e=some i) (hz:i.zero=some z)
  (hsize:i.size=size) (hby:i.bytes=bytes) (hzs:z.cells.size=size) (hsz:0<size)
  (g n cap:Nat) (xs:List Value) (hs:a.eval s=.slice (some ⟨g,0,none⟩) n cap) (hown:w.ownsRow base e size (.slice (some ⟨g,0,none⟩) n cap) n xs)
  (ad:Addr) (m c:Nat) (news:List Value) (hx:a.eval x=.slice (some ad) m c) (hl:news.length=m*size) (hnews:∀ j u,news[j]?=some u→w.cell? (ad.add j)=some u) (h1:∀ u∈news,u.oneCell'=true)
  (h63:n+m≤maxLen) (hbytes:(n+m)*bytes≤140737488355328) (hbase:base≤w.heap.size)
  (h:∀ g' cap' w',w'.ownsRow base e size (.slice (some ⟨g',0,none⟩) (n+m) cap') (n+m) (xs++news)→w.grownBy w' (some g)→(g'=g∨g'=w.heap.size)→wpList P ops Q rest (a.put o.dst (.slice (some ⟨g',0,none⟩) (n+m) cap')) w'):wpList P ops Q (o::rest) a w:=by
 refine wpList_plain hgd fun _ hK=>?_
 obtain ⟨g',cap',w',hr,h2,h3,h4⟩:=C9g (P:=P) w base t o.type e i z size bytes ht hi hz hsize hby hzs hsz g n cap xs hown ad m c news hl hnews h1 h63 hbytes hbase
 unfold Oper.wp execOp
 simp only [ho,resolve,invoke,builtin,Sem.run_bind,Sem.run_pure,Result.andThen_ok,List.map_toArray,List.map_cons,List.map_nil,hs,hx,hr]
 exact hK _ _ (h g' cap' w' h2 h3 h4)
end
end Go

namespace Go.XB
open Go.RowKit
def MP.slbox (cs:Array Value) (t:TypeId):MP:=⟨fun v bs w=>∃ g,v=.slice (some ⟨g,0,none⟩) 1 1∧bs=[g]∧w.heap[g]?=some (.cells cs t),fun v bs w w' hb h=>by
 obtain ⟨g,e,hz,hg⟩:=h;exact ⟨g,e,hz,(hb.block g (E_ hg)).trans hg⟩⟩
section
variable {P:Program} {l:List Oper} {a0:Act}
theorem B4c {w0:World} {F:List DP→Prop} {o:Oper} {os:List Oper} {acc:List DP} (m:DP) (hcg:Cong m (P_ o))
  (h:∀ (y:Nat→Value) (z:Nat→List Nat) (w:World),Below w0.heap.size w0 w→(∀ k∈P_ o,(acc.getD k (fun _=>MP.eq undef) y).p (y k) (z k) w) →
   Region.wanted o (yielded l.toArray (O_ l y a0 (P_ o)).tmps)=true∧∃ v w',(execOp (O_ l y a0 (P_ o)).eval o).run P w=.ok (.value v) w'∧Below w.heap.size w w'∧∃ bs,(m y).p v bs w'∧∀ b∈bs,w.heap.size≤b∧b<w'.heap.size)
  (hr:A3y P l w0 a0 F os (acc++[m])):A3y P l w0 a0 F (o::os) acc:=by
 refine ⟨m,hcg,fun y z w hC hd=>?_,hr⟩
 obtain ⟨h1,v,w',h2,h3⟩:=h y z w hC hd
 rw[if_pos h1]
 unfold B0l
 rw[h2]
 exact h3
end
theorem A0k {w:World} {g:Nat} {arr:Array Value} {t:TypeId} (h:w.heap[g]?=some (.cells arr t)):∀ j u,arr.toList[j]?=some u→w.cell? ((⟨g,0,none⟩:Addr).add j)=some u:=by
 intro j u hu
 have e:(⟨g,0,none⟩:Addr).add j=⟨g,j,none⟩:=by unfold Addr.add;split<;>simp_all
 rw[e]
 exact (B_ h (by simpa using hu)).1
end Go.XB
namespace Go.Proofs.YtbhemnidcleaiaaGreat.X
open Go.RowKit Go.XB Go.XN
attribute [local go_sem] O_ opAt P_ M_ Region.wanted yielded
attribute [local simp] P_ M_ MP.eq MP.agg MP.sl A0e

theorem D4w:(Tryz.prog.info? 38).map (fun i=>(i.zero,i.size,i.bytes))=some (some (.agg #[.bool false,.slice none 0 0,.slice none 0 0,.bool false,.slice none 0 0,.slice none 0 0]),6,112):=by kernel_rfl
end Go.Proofs.YtbhemnidcleaiaaGreat.X
namespace Go.Proofs.YtbhemnidcleaiaaGreat.X
open Go.RowKit Go.XB Go.XN
attribute [local go_sem] O_ opAt P_ M_ Region.wanted yielded
attribute [local simp] P_ M_ MP.eq MP.agg MP.sl A0e

def D4c (a b c:TPoint):List TPoint:=[B4o b c,B4o c a,B4o a b]
def D6x:List TPoint→List TPoint
 | [a,b,c]=>if A3v [a,b,c]&&(D4c a b c).all A0r then D4c a b c else []
 | _=>[]
end Go.Proofs.YtbhemnidcleaiaaGreat.X

namespace Go.XN
open Go.XB
structure Q where
 n:Int
 d:Int
def Q.ok (q:Q):Bool:=decide (0<q.d)&&(decide (q.d<10 ^ 200)&&(decide (-(10 ^ 200)<q.n)&&decide (q.n<10 ^ 200)))
def toR (q:Q):TRat:=mkR q.n q.d
def D7i (q r:Q):Q:=⟨q.n*r.d+r.n*q.d,q.d*r.d⟩
def D7p (q r:Q):Q:=⟨q.n*r.d - r.n*q.d,q.d*r.d⟩
def D7t (q r:Q):Q:=⟨q.n*r.n,q.d*r.d⟩
def D7o (q:Q):Q:=⟨-q.n,q.d⟩
def D7r (q:Q):Q:=⟨q.d,q.n⟩
def qeq (q r:Q):Bool:=decide (q.n*r.d=r.n*q.d)
def A3g (r s:TRat):TRat:=if (S_ r&&S_ s)&&!s.num.mag.isEmpty then A1c r ⟨⟨s.num.neg,s.den⟩,s.num.mag⟩ else A1j
end Go.XN
namespace Go.Proofs.YtbhemnidcleaiaaGreat.X
open Go.RowKit Go.XB Go.XN

theorem D6p:(10:Int) ^ 200<pw 24:=by decide +kernel
structure Q.Ok (q:Q):Prop where
 d0:0<q.d
 d1:q.d<10 ^ 200
 n0:-(10 ^ 200)<q.n
 n1:q.n<10 ^ 200
theorem D4r {n:Int} (h0:-1000000<n) (h1:n<1000000):RatV (A1y n):=by
 have hl:(dig n.natAbs).length≤24:=len_le_iff.2 (by have:=D6p;generalize pw 24=T at *;omega)
 refine ⟨?_,?_,(by decide:0<G_ [1]),hl,(by decide:[(1:Int)].length≤24),?_⟩
 ·rw[bigOkB_iff]
  refine ⟨⟨by show (dig n.natAbs).length≤60;omega,W_ _⟩,fun h3 e=>?_⟩
  have h4:n<0:=by simpa [A1y,Q_] using h3
  have h5:=A1n n.natAbs
  have e':dig n.natAbs=[]:=e
  rw[e'] at h5
  simp[G_] at h5
  omega
 ·exact (natOkB_iff.1 (by decide:A3c [1]=true)).2
 show Int.gcd _ (G_ [1])=1
 rw[show G_ [1]=1 by decide];exact Int.gcd_one
end Go.Proofs.YtbhemnidcleaiaaGreat.X
namespace Go.Proofs.YtbhemnidcleaiaaGreat.X
open Go.RowKit Go.XB Go.XN
theorem ix0 (a b c:Int) (w:World):Sem.run Tryz.prog (Instr.index 111 (.agg #[.int .i64 a,.int .i64 b,.int .i64 c]) (.int .i64 0)) w=.ok (.int .i64 a) w:=by kernel_rfl
theorem ix1 (a b c:Int) (w:World):Sem.run Tryz.prog (Instr.index 111 (.agg #[.int .i64 a,.int .i64 b,.int .i64 c]) (.int .i64 1)) w=.ok (.int .i64 b) w:=by kernel_rfl
theorem ix2 (a b c:Int) (w:World):Sem.run Tryz.prog (Instr.index 111 (.agg #[.int .i64 a,.int .i64 b,.int .i64 c]) (.int .i64 2)) w=.ok (.int .i64 c) w:=by kernel_rfl
end Go.Proofs.YtbhemnidcleaiaaGreat.X
namespace Go.Proofs.YtbhemnidcleaiaaGreat.X
open Go.RowKit Go.XB Go.XN
attribute [local go_sem] O_ opAt P_ M_ Region.wanted yielded
attribute [local simp] P_ M_ MP.eq MP.agg MP.sl A0e

theorem B8t (v:Value) (n:Nat) (xs ys:List Int) (a b c:Int) (w:World) (hp:Plc w v n xs ys) (hsx:A5g xs) (hsy:A5g ys) (ha:0≤a∧a<n) (hb:0≤b∧b<n) (hc:0≤c∧c<n) (ht:A5e xs ys a b c=0) (hbx:inB (min (at0 xs a) (at0 xs b)) (at0 xs c) (max (at0 xs a) (at0 xs b))=false) :
  Calls Tryz.prog 143 #[v,.int .i64 a,.int .i64 b,.int .i64 c] w (A0j w (.bool (A5d xs ys a b c))):=by
 have HP:=A_ hp
 obtain ⟨A,cA,X,oX,cX,Y,oY,cY,bX,bY,rfl,hX,hY⟩:=hp
 have CT:=A_ (A3n _ n xs ys a b c (w.alloc (.cells #[.slice A n cA,.slice (some ⟨X,oX,none⟩) n cX,.slice (some ⟨Y,oY,none⟩) n cY] 127)) (HP.o.below (Below.box _)) hsx hsy ha hb hc)
 have T0:=A_ ht
 obtain ⟨ja,rfl⟩:=Int.eq_ofNat_of_zero_le ha.1
 obtain ⟨jb,rfl⟩:=Int.eq_ofNat_of_zero_le hb.1
 obtain ⟨jc,rfl⟩:=Int.eq_ofNat_of_zero_le hc.1
 obtain ⟨_,_,xa,e1,hXl,hxa,_,cxa⟩:=Sl.getInt hX (show ja<n by omega);cases e1
 obtain ⟨_,_,xb,e1,_,hxb,_,cxb⟩:=Sl.getInt hX (show jb<n by omega);cases e1
 obtain ⟨_,_,xc,e1,_,hxc,_,cxc⟩:=Sl.getInt hX (show jc<n by omega);cases e1
 obtain ⟨_,_,ya,e1,hYl,hya,_,cya⟩:=Sl.getInt hY (show ja<n by omega);cases e1
 obtain ⟨_,_,yb,e1,_,hyb,_,cyb⟩:=Sl.getInt hY (show jb<n by omega);cases e1
 obtain ⟨_,_,yc,e1,_,hyc,_,cyc⟩:=Sl.getInt hY (show jc<n by omega);cases e1
 have A0:at0 xs ja=xa:=by unfold at0;simp[List.getD,hxa]
 have A1:at0 xs jb=xb:=by unfold at0;simp[List.getD,hxb]
 have A2:at0 xs jc=xc:=by unfold at0;simp[List.getD,hxc]
 have A3:at0 ys ja=ya:=by unfold at0;simp[List.getD,hya]
 have A4:at0 ys jb=yb:=by unfold at0;simp[List.getD,hyb]
 have A5:at0 ys jc=yc:=by unfold at0;simp[List.getD,hyc]
 rw[A0,A1,A2] at hbx
 have BX:=A_ hbx
 obtain ⟨lx,hlx⟩:∃ l,min xa xb=l:=⟨_,rfl⟩
 obtain ⟨mx,hmx⟩:∃ l,max xa xb=l:=⟨_,rfl⟩
 obtain ⟨ly,hly⟩:∃ l,min ya yb=l:=⟨_,rfl⟩
 obtain ⟨my,hmy⟩:∃ l,max ya yb=l:=⟨_,rfl⟩
 rw[hlx,hmx] at BX hbx
 have E:=A_ (show (inB lx xc mx&&inB ly yc my)=A5d xs ys ja jb jc by
  unfold A5d;rw[A0,A1,A2,A3,A4,A5,T0.o,hlx,hmx,hly,hmy];simp)
 have LX:=A_ hlx;have MX:=A_ hmx;have LY:=A_ hly;have MY:=A_ hmy
 obtain ⟨by_,hby⟩:∃ b,inB ly yc my=b:=⟨_,rfl⟩
 have BY:=A_ hby
 rw[hby,hbx] at E
 have hja:(ja:Int)<n:=ha.2
 have hjb:(jb:Int)<n:=hb.2
 have hjc:(jc:Int)<n:=hc.2
 clear hX hY hxa hxb hxc hya hyb hyc hsx hsy ha hb hc ht hby hbx hlx hmx hly hmy A0 A1 A2 A3 A4 A5
 go_enter Tryz.func143,Tryz.ntmps143
 go_wp2_with fail
 have C:=CT.o
 rw[T0.o] at C
 refine C.mono ?_
 clear C
 rintro _ w1 ⟨rfl,hb1⟩
 obtain ⟨hc_w1,hf_w1⟩:=C_ hb1
 have hz0_w1:w.heap.size<w1.heap.size:=N_ hb1
 have hX1:X<w1.heap.size:=by have:=hb1.size;simp at this;omega
 have hY1:Y<w1.heap.size:=by have:=hb1.size;simp at this;omega
 go_wp2_with fail
 refine A0l ?_
 iterate 15
  refine D_ _ ?_
 refine A3r (.int .i64 lx) ?_ ?_
 ·intro yq zq wq hC hd
  obtain ⟨hcq,hfq⟩:=C_ hC
  simp at hd
  refine ⟨by go_simp;done,?_⟩
  go_simp
  (rw[← LX.o];split<;>omega)
 iterate 10
  refine D_ _ ?_
 refine A3r (.int .i64 mx) ?_ ?_
 ·intro yq zq wq hC hd
  obtain ⟨hcq,hfq⟩:=C_ hC
  simp at hd
  refine ⟨by go_simp;done,?_⟩
  go_simp
  (rw[← MX.o];split<;>omega)
 refine F_ (MP.eq (.bool false)) ?_ ?_
 ·intro yq zq wq hC hd
  obtain ⟨hcq,hfq⟩:=C_ hC
  simp at hd
  refine H_ ?_
  exact A0t (by have C:=A0z xc lx mx wq;rw[BX.o] at C;exact C)
 refine D_ _ ?_
 iterate 28
  apply A2g
  case h =>
   intro yq zq wq hC hd
   simp at hd
   go_simp
   first | done | (simp[undef];done)
 iterate 2
  refine D_ _ ?_
 intro yq zq wa hC hd (hdis:Hid _)
 simp at hd
 go_simp
 clear hd hdis
 go_wp2
 go_ret
 rw[← E.o]
 exact ⟨by simp,Below.go⟩

theorem C0a (v:Value) (n:Nat) (xs ys:List Int) (a b c:Int) (w:World) (hp:Plc w v n xs ys) (hsx:A5g xs) (hsy:A5g ys) (ha:0≤a∧a<n) (hb:0≤b∧b<n) (hc:0≤c∧c<n) (ht:A5e xs ys a b c=0) (hbx:inB (min (at0 xs a) (at0 xs b)) (at0 xs c) (max (at0 xs a) (at0 xs b))=true) :
  Calls Tryz.prog 143 #[v,.int .i64 a,.int .i64 b,.int .i64 c] w (A0j w (.bool (A5d xs ys a b c))):=by
 have HP:=A_ hp
 obtain ⟨A,cA,X,oX,cX,Y,oY,cY,bX,bY,rfl,hX,hY⟩:=hp
 have CT:=A_ (A3n _ n xs ys a b c (w.alloc (.cells #[.slice A n cA,.slice (some ⟨X,oX,none⟩) n cX,.slice (some ⟨Y,oY,none⟩) n cY] 127)) (HP.o.below (Below.box _)) hsx hsy ha hb hc)
 have T0:=A_ ht
 obtain ⟨ja,rfl⟩:=Int.eq_ofNat_of_zero_le ha.1
 obtain ⟨jb,rfl⟩:=Int.eq_ofNat_of_zero_le hb.1
 obtain ⟨jc,rfl⟩:=Int.eq_ofNat_of_zero_le hc.1
 obtain ⟨_,_,xa,e1,hXl,hxa,_,cxa⟩:=Sl.getInt hX (show ja<n by omega);cases e1
 obtain ⟨_,_,xb,e1,_,hxb,_,cxb⟩:=Sl.getInt hX (show jb<n by omega);cases e1
 obtain ⟨_,_,xc,e1,_,hxc,_,cxc⟩:=Sl.getInt hX (show jc<n by omega);cases e1
 obtain ⟨_,_,ya,e1,hYl,hya,_,cya⟩:=Sl.getInt hY (show ja<n by omega);cases e1
 obtain ⟨_,_,yb,e1,_,hyb,_,cyb⟩:=Sl.getInt hY (show jb<n by omega);cases e1
 obtain ⟨_,_,yc,e1,_,hyc,_,cyc⟩:=Sl.getInt hY (show jc<n by omega);cases e1
 have A0:at0 xs ja=xa:=by unfold at0;simp[List.getD,hxa]
 have A1:at0 xs jb=xb:=by unfold at0;simp[List.getD,hxb]
 have A2:at0 xs jc=xc:=by unfold at0;simp[List.getD,hxc]
 have A3:at0 ys ja=ya:=by unfold at0;simp[List.getD,hya]
 have A4:at0 ys jb=yb:=by unfold at0;simp[List.getD,hyb]
 have A5:at0 ys jc=yc:=by unfold at0;simp[List.getD,hyc]
 rw[A0,A1,A2] at hbx
 have BX:=A_ hbx
 obtain ⟨lx,hlx⟩:∃ l,min xa xb=l:=⟨_,rfl⟩
 obtain ⟨mx,hmx⟩:∃ l,max xa xb=l:=⟨_,rfl⟩
 obtain ⟨ly,hly⟩:∃ l,min ya yb=l:=⟨_,rfl⟩
 obtain ⟨my,hmy⟩:∃ l,max ya yb=l:=⟨_,rfl⟩
 rw[hlx,hmx] at BX hbx
 have E:=A_ (show (inB lx xc mx&&inB ly yc my)=A5d xs ys ja jb jc by
  unfold A5d;rw[A0,A1,A2,A3,A4,A5,T0.o,hlx,hmx,hly,hmy];simp)
 have LX:=A_ hlx;have MX:=A_ hmx;have LY:=A_ hly;have MY:=A_ hmy
 obtain ⟨by_,hby⟩:∃ b,inB ly yc my=b:=⟨_,rfl⟩
 have BY:=A_ hby
 rw[hby,hbx] at E
 have hja:(ja:Int)<n:=ha.2
 have hjb:(jb:Int)<n:=hb.2
 have hjc:(jc:Int)<n:=hc.2
 clear hX hY hxa hxb hxc hya hyb hyc hsx hsy ha hb hc ht hby hbx hlx hmx hly hmy A0 A1 A2 A3 A4 A5
 go_enter Tryz.func143,Tryz.ntmps143
 go_wp2_with fail
 have C:=CT.o
 rw[T0.o] at C
 refine C.mono ?_
 clear C
 rintro _ w1 ⟨rfl,hb1⟩
 obtain ⟨hc_w1,hf_w1⟩:=C_ hb1
 have hz0_w1:w.heap.size<w1.heap.size:=N_ hb1
 have hX1:X<w1.heap.size:=by have:=hb1.size;simp at this;omega
 have hY1:Y<w1.heap.size:=by have:=hb1.size;simp at this;omega
 go_wp2_with fail
 refine A0l ?_
 iterate 15
  refine D_ _ ?_
 refine A3r (.int .i64 lx) ?_ ?_
 ·intro yq zq wq hC hd
  obtain ⟨hcq,hfq⟩:=C_ hC
  simp at hd
  refine ⟨by go_simp;done,?_⟩
  go_simp
  (rw[← LX.o];split<;>omega)
 iterate 10
  refine D_ _ ?_
 refine A3r (.int .i64 mx) ?_ ?_
 ·intro yq zq wq hC hd
  obtain ⟨hcq,hfq⟩:=C_ hC
  simp at hd
  refine ⟨by go_simp;done,?_⟩
  go_simp
  (rw[← MX.o];split<;>omega)
 refine F_ (MP.eq (.bool true)) ?_ ?_
 ·intro yq zq wq hC hd
  obtain ⟨hcq,hfq⟩:=C_ hC
  simp at hd
  refine H_ ?_
  exact A0t (by have C:=A0z xc lx mx wq;rw[BX.o] at C;exact C)
 refine D_ _ ?_
 iterate 15
  refine D_ _ ?_
 refine A3r (.int .i64 ly) ?_ ?_
 ·intro yq zq wq hC hd
  obtain ⟨hcq,hfq⟩:=C_ hC
  simp at hd
  refine ⟨by go_simp;done,?_⟩
  go_simp
  (rw[← LY.o];split<;>omega)
 iterate 10
  refine D_ _ ?_
 refine A3r (.int .i64 my) ?_ ?_
 ·intro yq zq wq hC hd
  obtain ⟨hcq,hfq⟩:=C_ hC
  simp at hd
  refine ⟨by go_simp;done,?_⟩
  go_simp
  (rw[← MY.o];split<;>omega)
 refine F_ (MP.eq (.bool by_)) ?_ ?_
 ·intro yq zq wq hC hd
  obtain ⟨hcq,hfq⟩:=C_ hC
  simp at hd
  refine H_ ?_
  exact A0t (by have C:=A0z yc ly my wq;rw[BY.o] at C;exact C)
 iterate 2
  refine D_ _ ?_
 intro yq zq wa hC hd (hdis:Hid _)
 simp at hd
 go_simp
 clear hd hdis
 go_wp2
 go_ret
 rw[← E.o]
 exact ⟨by simp,Below.go⟩

theorem A9w (v:Value) (n:Nat) (xs ys:List Int) (a b c:Int) (w:World) (hp:Plc w v n xs ys) (hsx:A5g xs) (hsy:A5g ys) (ha:0≤a∧a<n) (hb:0≤b∧b<n) (hc:0≤c∧c<n) :
  Calls Tryz.prog 143 #[v,.int .i64 a,.int .i64 b,.int .i64 c] w (A0j w (.bool (A5d xs ys a b c))):=by
 by_cases ht:A5e xs ys a b c=0
 ·cases hbx:inB (min (at0 xs a) (at0 xs b)) (at0 xs c) (max (at0 xs a) (at0 xs b))
  ·exact B8t v n xs ys a b c w hp hsx hsy ha hb hc ht hbx
  exact C0a v n xs ys a b c w hp hsx hsy ha hb hc ht hbx
 have HP:=A_ hp
 obtain ⟨A,cA,X,oX,cX,Y,oY,cY,bX,bY,rfl,hX,hY⟩:=hp
 have CT:=A_ (A3n _ n xs ys a b c (w.alloc (.cells #[.slice A n cA,.slice (some ⟨X,oX,none⟩) n cX,.slice (some ⟨Y,oY,none⟩) n cY] 127)) (HP.o.below (Below.box _)) hsx hsy ha hb hc)
 have E:=A_ (show false=A5d xs ys a b c by unfold A5d;rw[decide_eq_false ht];rfl)
 obtain ⟨r,hr⟩:∃ r,A5e xs ys a b c=r:=⟨_,rfl⟩
 rw[hr] at ht
 have R:=A_ hr
 have hrb:(r==0)=false:=by simp[ht]
 clear hX hY hsx hsy ha hb hc hr
 go_enter Tryz.func143,Tryz.ntmps143
 go_wp2_with fail
 have C:=CT.o
 rw[R.o] at C
 refine C.mono ?_
 clear C
 rintro _ w1 ⟨rfl,hb1⟩
 go_wp2
 go_ret
 rw[← E.o]
 exact ⟨rfl,Below.go⟩
end Go.Proofs.YtbhemnidcleaiaaGreat.X
namespace Go.Proofs.YtbhemnidcleaiaaGreat.X
open Go.RowKit Go.XB Go.XN
attribute [local go_sem] O_ opAt P_ M_ Region.wanted yielded
attribute [local simp] P_ M_ MP.eq MP.agg MP.sl A0e

theorem B0y (v1 v2:Value) (x y:TBigInt) (b1 b2:List Nat) (w:World) (hx:Agg w v1 x b1) (hy:Agg w v2 y b2) (ox:A1x x=true) (oy:A1x y=true) (hy0:y.mag≠[]) :
  Calls Tryz.prog 102 #[v1,v2] w (X_ w (mkR (B1i (x.neg != y.neg) x.mag) (G_ y.mag))):=by
 have HX:=A_ hx;have HY:=A_ hy
 obtain ⟨A1,n1,c1,s1,rfl,rfl,hs1⟩:=TBigInt.agg hx
 obtain ⟨A2,n2,c2,s2,rfl,rfl,hs2⟩:=TBigInt.agg hy
 have S1:=A_ hs1;have S2:=A_ hs2
 have OX:=A_ ox;have OY:=A_ oy
 have C1:=A_ (bigOkB_iff.1 ox).1;have C2:=A_ (bigOkB_iff.1 oy).1
 have N1:=A_ (show n1≤65536 by rw[← hs1.1];have:=(bigOkB_iff.1 ox).1.1;omega)
 have N2:=A_ (show n2≤65536 by rw[← hs2.1];have:=(bigOkB_iff.1 oy).1.1;omega)
 have N0:=A_ (show 0<n2 by rw[← hs2.1];exact List.length_pos_iff.2 hy0)
 clear hs1 hs2 hx hy ox oy hy0
 go_enter Tryz.func102,Tryz.ntmps102
 go_wp2_with fail
 have C:=A2e _ x _ (((w.alloc (.cells #[.bool x.neg,.slice A1 n1 c1] 33)).alloc (.cells #[.bool y.neg,.slice A2 n2 c2] 33)).alloc (.cells #[.bool false,.slice none 0 0,.slice none 0 0] 35)) (HX.o.below Below.go)
 rw[OX.o] at C
 refine C.mono ?_
 clear C
 rintro _ w1 ⟨rfl,hb1⟩
 obtain ⟨hc_w1,hf_w1⟩:=C_ hb1
 have hz0_w1:w.heap.size<w1.heap.size:=N_ hb1
 have hz1_w1:w.heap.size+1<w1.heap.size:=N_ hb1
 have hz2_w1:w.heap.size+1+1<w1.heap.size:=N_ hb1
 go_wp2_with fail
 have C:=A2e _ y _ w1 (HY.o.below Below.go)
 rw[OY.o] at C
 refine C.mono ?_
 clear C
 rintro _ w2 ⟨rfl,hb2⟩
 obtain ⟨hc_w2,hf_w2⟩:=C_ hb2
 have hz0_w2:w.heap.size<w2.heap.size:=N_ hb2
 have hz1_w2:w.heap.size+1<w2.heap.size:=N_ hb2
 have hz2_w2:w.heap.size+1+1<w2.heap.size:=N_ hb2
 go_wp2_with fail
 refine (A6g (x.neg != y.neg) A1 A2 n1 n2 c1 c2 x.mag y.mag _ _ w2 (S1.o.below Below.go) (S2.o.below Below.go) C1.o.2 C2.o.2 N0.o N1.o N2.o).mono ?_
 rintro _ wb ⟨vb,sb,rfl,hab,hob,hb⟩
 obtain ⟨D1,nD1,cD1,d1,D2,nD2,cD2,d2,rfl,hzb,_,_⟩:=TRat.agg hab
 have HA:=A_ hab;have HO:=A_ hob
 clear hab hob hzb
 obtain ⟨hc_wb,hf_wb⟩:=C_ hb
 have hz0_wb:w.heap.size<wb.heap.size:=N_ hb
 have hz1_wb:w.heap.size+1<wb.heap.size:=N_ hb
 have hz2_wb:w.heap.size+1+1<wb.heap.size:=N_ hb
 go_wp2
 refine bodyPost_ret (v:=.agg #[.bool (mkR (B1i (x.neg != y.neg) x.mag) (G_ y.mag)).num.neg,.slice D1 nD1 cD1,.slice D2 nD2 cD2]) (by simp[results,Tryz.results102,go_sem, *]) rfl ?_
 refine A0o (lo:=w.heap.size+3) HA.o HO.o.free (fun b hb=>by have:=(HO.o.2 b hb).1;(try simp at this);omega) (by omega) ?_ ?_
 ·exact Above.go
 exact Below.go

theorem C1a {a d:Int} (ha:0≤a) (hd:0<d):B1i ((Q_ a).neg != (Q_ d).neg) (Q_ a).mag=a∧G_ (Q_ d).mag=d:=by
 have e1:(Q_ a).neg=false:=by unfold Q_;simp;omega
 have e2:(Q_ d).neg=false:=by unfold Q_;simp;omega
 rw[e1,e2]
 refine ⟨?_,?_⟩
 ·show G_ (dig a.natAbs)=a;rw[A1n];omega
 show G_ (dig d.natAbs)=d;rw[A1n];omega
theorem B5l (a d:Int) (ha:0≤a) (ha2:a≤1000) (hd:0<d) (hd2:d≤1000) (w:World):Calls Tryz.prog 47 #[.int .i64 a,.int .i64 d] w (X_ w (mkR a d)):=by
 have V:=A_ (C1a ha hd)
 have OA:=A_ (C2f a ⟨by omega,by omega⟩)
 have OD:=A_ (C2f d ⟨by omega,by omega⟩)
 have ND:=A_ (show (Q_ d).mag≠[] by intro e;have:=(C1a ha hd).2;rw[e] at this;simp[G_] at this;omega)
 have IA:=A_ (show I64 a from ⟨by omega,by omega⟩)
 have ID:=A_ (show I64 d from ⟨by omega,by omega⟩)
 clear ha ha2 hd hd2
 go_enter Tryz.func47,Tryz.ntmps47
 go_wp2_with fail
 refine (A5y a _ IA.o).mono ?_
 rintro _ w1 ⟨v1,t1,rfl,ha1,ho1,hb1⟩
 have HA1:=A_ ha1
 clear ha1 ho1
 obtain ⟨hc_w1,hf_w1⟩:=C_ hb1
 have hz0_w1:w.heap.size<w1.heap.size:=N_ hb1
 go_wp2_with fail
 refine (A5y d _ ID.o).mono ?_
 rintro _ w2 ⟨v2,t2,rfl,ha2,ho2,hb2⟩
 have HA2:=A_ ha2
 clear ha2 ho2
 obtain ⟨hc_w2,hf_w2⟩:=C_ hb2
 have hz0_w2:w.heap.size<w2.heap.size:=N_ hb2
 go_wp2_with fail
 have C:=B0y v1 v2 (Q_ a) (Q_ d) t1 t2 w2 (HA1.o.below hb2) HA2.o OA.o OD.o ND.o
 rw[V.o.1,V.o.2] at C
 refine (C).mono ?_
 rintro _ wb ⟨vb,sb,rfl,hab,hob,hb⟩
 obtain ⟨D1,nD1,cD1,d1,D2,nD2,cD2,d2,rfl,hzb,_,_⟩:=TRat.agg hab
 have HA:=A_ hab;have HO:=A_ hob
 clear hab hob hzb
 obtain ⟨hc_wb,hf_wb⟩:=C_ hb
 have hz0_wb:w.heap.size<wb.heap.size:=N_ hb
 go_wp2
 refine bodyPost_ret (v:=.agg #[.bool (mkR a d).num.neg,.slice D1 nD1 cD1,.slice D2 nD2 cD2]) (by simp[results,Tryz.results47,go_sem, *]) rfl ?_
 refine A0o (lo:=w.heap.size+1) HA.o HO.o.free (fun b hb=>by have:=(HO.o.2 b hb).1;(try simp at this);omega) (by omega) ?_ ?_
 ·exact Above.go
 exact Below.go

end Go.Proofs.YtbhemnidcleaiaaGreat.X

namespace Go.XB
open Go.RowKit Go.Proofs.YtbhemnidcleaiaaGreat.X
theorem B6f {w w1 w2:World} {r:Option Nat} {x:Nat} (h:w.grownBy w1 r) (h2:w1.grownBy w2 (some x)) (hx:w.heap.size≤x):w.grownBy w2 r :=
 ⟨h2.os.trans h.os,h2.tape.trans h.tape,h2.output.trans h.output,Nat.le_trans h.size h2.size,fun k hk hne=>(h2.block k (Nat.lt_of_lt_of_le hk h.size) (by intro e;injection e with e;omega)).trans (h.block k hk hne)⟩
theorem Sl.grown {α:Type} [Dat α] {w w':World} {A:Option Addr} {n c g:Nat} {xs:List α} {bs:List Nat} (h:Sl w A n c xs bs) (hg:w.grownBy w' (some g)) (hn:g∉bs):Sl w' A n c xs bs :=
 h.keep fun b hb=>hg.block b (h.lt b hb) (by intro e;injection e with e;exact hn (e ▸ hb))
section
variable {α:Type} [Dat α]
def PC (w:World) (e:TypeId) (wr:World) (gB i cap:Nat) (ps:List α) (zs:List Nat):Prop :=
 ∃ cells fss,wr.ownsRow w.heap.size e (Dat.sz α) (.slice (some ⟨gB,0,none⟩) i cap) i cells∧Filled wr cells ps fss∧ps.length=i∧zs=fss.flatten∧gB∉zs∧∀ b∈zs,w.heap.size≤b
variable {w wr wa:World} {e:TypeId} {gB i cap:Nat} {ps:List α} {zs:List Nat}
theorem PC.start {w2:World} (h:w.heap.size≤w2.heap.size):PC (α:=α) w e (w2.alloc (.cells #[] e)) w2.heap.size 0 0 [] [] :=
 ⟨[],[],World.ownsRow_made w2 #[] 0 h (Nat.zero_le _) (by simp),Filled.nil _ _,rfl,rfl,by simp,by simp⟩
theorem PC.lt (h:PC w e wr gB i cap ps zs):w.heap.size≤gB∧gB<wr.heap.size:=by obtain ⟨_,_,h1,_⟩:=h;exact World.ownsRow.lt h1 _ rfl
theorem PC.zlt (h:PC w e wr gB i cap ps zs):∀ b∈zs,w.heap.size≤b∧b<wr.heap.size:=by
 obtain ⟨cells,fss,h1,h2,h3,rfl,h5,h6⟩:=h
 exact fun b hb=>⟨h6 b hb,h2.lt b hb⟩
theorem PC.keep (h:PC w e wr gB i cap ps zs) {x:Nat} (hk:wr.grownBy wa (some x)) (hx:x≠gB) (hz:x∉zs):PC w e wa gB i cap ps zs:=by
 obtain ⟨cells,fss,h1,h2,h3,rfl,h5,h6⟩:=h
 refine ⟨cells,fss,h1.kept hk ?_,h2.keep (fun b hb=>hk.block b (h2.lt b hb) (by intro e;injection e with e;exact hz (e ▸ hb))),h3,rfl,h5,h6⟩
 show some gB=none∨some gB≠some x
 exact .inr (by simp;omega)
theorem PC.keepG (h:PC w e wr gB i cap ps zs) {g:Nat} (hk:wr.grownBy wa (some g)) (hg:g<w.heap.size):PC w e wa gB i cap ps zs :=
 h.keep hk (by have:=h.lt;omega) (fun hz=>by have:=(h.zlt g hz).1;omega)
theorem PC.below (h:PC w e wr gB i cap ps zs) (hb:Below wr.heap.size wr wa):PC w e wa gB i cap ps zs:=by
 obtain ⟨cells,fss,h1,h2,h3,h4,h5,h6⟩:=h
 exact ⟨cells,fss,J_ h1 hb,h2.below hb,h3,h4,h5,h6⟩
theorem PC.sl (h:PC w e wr gB i cap ps zs):∃ bs,Sl wr (some ⟨gB,0,none⟩) i cap ps bs∧∀ b∈bs,w.heap.size≤b:=by
 have hl:=h.lt
 obtain ⟨cells,fss,h1,h2,h3,rfl,h5,h6⟩:=h
 obtain ⟨A,c,bs,hv,hs,ho⟩:=h2.sl (α:=α) h1 h3
 cases hv
 refine ⟨bs,hs,fun b hb=>?_⟩
 rcases ho with ⟨_,rfl⟩ | ⟨g',e',rfl,hg',_⟩
 ·simp at hb
 rcases List.mem_cons.1 hb with rfl | hb
 ·exact hg'
 exact h6 b hb
end
end Go.XB
namespace Go
open Go.RowKit Go.XB Go.Proofs.YtbhemnidcleaiaaGreat.X
theorem A7f {P:Program} {α:Type} [Dat α] {w wr:World} {gB k cap:Nat} {ps:List α} {zs:List Nat} {ops:Array Oper} {rest:List Oper} {o:Oper} {a:Act} {Q:Exit→Act→World→Prop} (hgd:o.guard=none) (s x:Operand) (t:TypeId)
  (ho:o.op=.call { callee:=.builtin .append,args:=#[s,x],argTypes:=#[t,t] })
  (e:TypeId) (i:TypeInfo) (z:Value) (bytes:Nat) (ht:P.underlying t=some (.slice e)) (hi:P.info? e=some i) (hz:i.zero=some z)
  (hsize:i.size=Dat.sz α) (hby:i.bytes=bytes) (hzs:z.cells.size=Dat.sz α) (hp:PC w e wr gB k cap ps zs) (hw:w.heap.size≤wr.heap.size) (hs:a.eval s=.slice (some ⟨gB,0,none⟩) k cap)
  (ad:Addr) (c:Nat) (cs:List Value) (pt:α) (zb:List Nat) (hx:a.eval x=.slice (some ad) 1 c) (hnews:∀ j u,cs[j]?=some u→wr.cell? (ad.add j)=some u)
  (ha:Dat.at_ wr cs pt zb) (hr:∀ b∈zb,w.heap.size≤b∧b≠gB) (h63:k+1≤maxLen) (hbytes:(k+1)*bytes≤140737488355328)
  (h:∀ g' cap' w8,PC w e w8 g' (k+1) cap' (ps++[pt]) (zs++zb)→wr.grownBy w8 (some gB)→(g'=gB∨g'=wr.heap.size)→wpList P ops Q rest (a.put o.dst (.slice (some ⟨g',0,none⟩) (k+1) cap')) w8):wpList P ops Q (o::rest) a wr:=by
 have hzl:=hp.zlt
 obtain ⟨cells,fss,h1,h2,h3,rfl,h5,h6⟩:=hp
 have hl:=World.ownsRow.lt h1 _ rfl
 refine A1f hgd s x t ho w.heap.size e i z (Dat.sz α) bytes ht hi hz hsize hby hzs Dat.pos gB k cap cells hs h1 ad 1 c cs hx (by rw[Nat.one_mul];exact Dat.len ha) hnews (Dat.one ha) h63 hbytes hw ?_
 intro g' cap' w8 hown hg hor
 refine h g' cap' w8 ?_ hg hor
 have hzbl:∀ b∈zb,b<wr.heap.size:=Dat.lt ha
 have k1:∀ b∈fss.flatten,w8.heap[b]?=wr.heap[b]?:=fun b hb1=>hg.block b (hzl b hb1).2 (by intro e;injection e with e;exact h5 (e ▸ hb1))
 have k2:∀ b∈zb,w8.heap[b]?=wr.heap[b]?:=fun b hb1=>hg.block b (hzbl b hb1) (by intro e;injection e with e;exact (hr b hb1).2 e)
 refine ⟨_,fss++[zb],hown,Filled.push (h2.keep k1) (by rw[h1.1,h3]) (Dat.keep ha k2),by simp[h3],by simp,?_,?_⟩
 ·intro hm
  rcases List.mem_append.1 hm with hm | hm
  ·rcases hor with rfl | rfl
   ·exact h5 hm
   have:=(hzl _ hm).2;omega
  rcases hor with rfl | rfl
  ·exact (hr _ hm).2 rfl
  have:=hzbl _ hm;omega
 intro b hm
 rcases List.mem_append.1 hm with hm | hm
 ·exact h6 b hm
 exact (hr b hm).1
end Go

namespace Go.XB
open Go.RowKit
structure SBox where
 left:TRat
 right:TRat
 low:TRat
 high:TRat
 deriving DecidableEq
instance:Dat SBox:=Dat.via fun x=>(x.left,x.right,x.low,x.high)
theorem SBox.open_ {w:World} {cs:List Value} {x:SBox} {bs:List Nat} (h:Dat.at_ w cs x bs):∃ (A1:Option Addr) (n1 c1:Nat) (s1:List Nat) (A2:Option Addr) (n2 c2:Nat) (s2:List Nat) (A4:Option Addr) (n4 c4:Nat) (s4:List Nat) (A5:Option Addr) (n5 c5:Nat) (s5:List Nat) (A7:Option Addr) (n7 c7:Nat) (s7:List Nat) (A8:Option Addr) (n8 c8:Nat) (s8:List Nat) (A10:Option Addr) (n10 c10:Nat) (s10:List Nat) (A11:Option Addr) (n11 c11:Nat) (s11:List Nat),cs=[.bool x.left.num.neg,.slice A1 n1 c1,.slice A2 n2 c2,.bool x.right.num.neg,.slice A4 n4 c4,.slice A5 n5 c5,.bool x.low.num.neg,.slice A7 n7 c7,.slice A8 n8 c8,.bool x.high.num.neg,.slice A10 n10 c10,.slice A11 n11 c11]∧bs=s1++(s2++(s4++(s5++(s7++(s8++(s10++(s11)))))))∧Sl w A1 n1 c1 x.left.num.mag s1∧Sl w A2 n2 c2 x.left.den s2∧Sl w A4 n4 c4 x.right.num.mag s4∧Sl w A5 n5 c5 x.right.den s5∧Sl w A7 n7 c7 x.low.num.mag s7∧Sl w A8 n8 c8 x.low.den s8∧Sl w A10 n10 c10 x.high.num.mag s10∧Sl w A11 n11 c11 x.high.den s11:=by
 obtain ⟨p1,q1,u1,v1,rfl,rfl,e1,g1⟩:=h
 obtain ⟨p2,q2,u2,v2,rfl,rfl,e2,g2⟩:=e1
 obtain ⟨p3,q3,u3,v3,rfl,rfl,e3,g3⟩:=e2
 obtain ⟨rfl,rfl⟩:=e3
 obtain ⟨A1,n1,c1,rfl,w1⟩:=g3
 obtain ⟨A2,n2,c2,rfl,w2⟩:=g2
 obtain ⟨p4,q4,u4,v4,rfl,rfl,e4,g4⟩:=g1
 obtain ⟨p5,q5,u5,v5,rfl,rfl,e5,g5⟩:=e4
 obtain ⟨p6,q6,u6,v6,rfl,rfl,e6,g6⟩:=e5
 obtain ⟨rfl,rfl⟩:=e6
 obtain ⟨A4,n4,c4,rfl,w4⟩:=g6
 obtain ⟨A5,n5,c5,rfl,w5⟩:=g5
 obtain ⟨p7,q7,u7,v7,rfl,rfl,e7,g7⟩:=g4
 obtain ⟨p8,q8,u8,v8,rfl,rfl,e8,g8⟩:=e7
 obtain ⟨p9,q9,u9,v9,rfl,rfl,e9,g9⟩:=e8
 obtain ⟨rfl,rfl⟩:=e9
 obtain ⟨A7,n7,c7,rfl,w7⟩:=g9
 obtain ⟨A8,n8,c8,rfl,w8⟩:=g8
 obtain ⟨p10,q10,u10,v10,rfl,rfl,e10,g10⟩:=g7
 obtain ⟨p11,q11,u11,v11,rfl,rfl,e11,g11⟩:=e10
 obtain ⟨rfl,rfl⟩:=e11
 obtain ⟨A10,n10,c10,rfl,w10⟩:=g11
 obtain ⟨A11,n11,c11,rfl,w11⟩:=g10
 exact ⟨_,_,_,_,_,_,_,_,_,_,_,_,_,_,_,_,_,_,_,_,_,_,_,_,_,_,_,_,_,_,_,_,rfl,by first | rfl | (simp;done) | simp[List.append_assoc],w1,w2,w4,w5,w7,w8,w10,w11⟩
theorem SBox.shut {w:World} {x:SBox} {A1:Option Addr} {n1 c1:Nat} {s1:List Nat} {A2:Option Addr} {n2 c2:Nat} {s2:List Nat} {A4:Option Addr} {n4 c4:Nat} {s4:List Nat} {A5:Option Addr} {n5 c5:Nat} {s5:List Nat} {A7:Option Addr} {n7 c7:Nat} {s7:List Nat} {A8:Option Addr} {n8 c8:Nat} {s8:List Nat} {A10:Option Addr} {n10 c10:Nat} {s10:List Nat} {A11:Option Addr} {n11 c11:Nat} {s11:List Nat} (w1:Sl w A1 n1 c1 x.left.num.mag s1) (w2:Sl w A2 n2 c2 x.left.den s2) (w4:Sl w A4 n4 c4 x.right.num.mag s4) (w5:Sl w A5 n5 c5 x.right.den s5) (w7:Sl w A7 n7 c7 x.low.num.mag s7) (w8:Sl w A8 n8 c8 x.low.den s8) (w10:Sl w A10 n10 c10 x.high.num.mag s10) (w11:Sl w A11 n11 c11 x.high.den s11):Dat.at_ w [.bool x.left.num.neg,.slice A1 n1 c1,.slice A2 n2 c2,.bool x.right.num.neg,.slice A4 n4 c4,.slice A5 n5 c5,.bool x.low.num.neg,.slice A7 n7 c7,.slice A8 n8 c8,.bool x.high.num.neg,.slice A10 n10 c10,.slice A11 n11 c11] x (s1++(s2++(s4++(s5++(s7++(s8++(s10++(s11)))))))):=by
 have h:Dat.at_ w _ x _:=⟨_,_,_,_,rfl,rfl,⟨_,_,_,_,rfl,rfl,⟨_,_,_,_,rfl,rfl,⟨rfl,rfl⟩,⟨_,_,_,rfl,w1⟩⟩,⟨_,_,_,rfl,w2⟩⟩,⟨_,_,_,_,rfl,rfl,⟨_,_,_,_,rfl,rfl,⟨_,_,_,_,rfl,rfl,⟨rfl,rfl⟩,⟨_,_,_,rfl,w4⟩⟩,⟨_,_,_,rfl,w5⟩⟩,⟨_,_,_,_,rfl,rfl,⟨_,_,_,_,rfl,rfl,⟨_,_,_,_,rfl,rfl,⟨rfl,rfl⟩,⟨_,_,_,rfl,w7⟩⟩,⟨_,_,_,rfl,w8⟩⟩,⟨_,_,_,_,rfl,rfl,⟨_,_,_,_,rfl,rfl,⟨rfl,rfl⟩,⟨_,_,_,rfl,w10⟩⟩,⟨_,_,_,rfl,w11⟩⟩⟩⟩⟩
 first | exact h | (simpa using h) | simpa [List.append_assoc] using h
theorem SBox.agg {w:World} {v:Value} {x:SBox} {bs:List Nat} (h:Agg w v x bs):∃ (A1:Option Addr) (n1 c1:Nat) (s1:List Nat) (A2:Option Addr) (n2 c2:Nat) (s2:List Nat) (A4:Option Addr) (n4 c4:Nat) (s4:List Nat) (A5:Option Addr) (n5 c5:Nat) (s5:List Nat) (A7:Option Addr) (n7 c7:Nat) (s7:List Nat) (A8:Option Addr) (n8 c8:Nat) (s8:List Nat) (A10:Option Addr) (n10 c10:Nat) (s10:List Nat) (A11:Option Addr) (n11 c11:Nat) (s11:List Nat),v=.agg #[.bool x.left.num.neg,.slice A1 n1 c1,.slice A2 n2 c2,.bool x.right.num.neg,.slice A4 n4 c4,.slice A5 n5 c5,.bool x.low.num.neg,.slice A7 n7 c7,.slice A8 n8 c8,.bool x.high.num.neg,.slice A10 n10 c10,.slice A11 n11 c11]∧bs=s1++(s2++(s4++(s5++(s7++(s8++(s10++(s11)))))))∧Sl w A1 n1 c1 x.left.num.mag s1∧Sl w A2 n2 c2 x.left.den s2∧Sl w A4 n4 c4 x.right.num.mag s4∧Sl w A5 n5 c5 x.right.den s5∧Sl w A7 n7 c7 x.low.num.mag s7∧Sl w A8 n8 c8 x.low.den s8∧Sl w A10 n10 c10 x.high.num.mag s10∧Sl w A11 n11 c11 x.high.den s11:=by
 obtain ⟨cs,rfl,h⟩:=h
 obtain ⟨A1,n1,c1,s1,A2,n2,c2,s2,A4,n4,c4,s4,A5,n5,c5,s5,A7,n7,c7,s7,A8,n8,c8,s8,A10,n10,c10,s10,A11,n11,c11,s11,rfl,rfl,w1,w2,w4,w5,w7,w8,w10,w11⟩:=SBox.open_ h
 exact ⟨_,_,_,_,_,_,_,_,_,_,_,_,_,_,_,_,_,_,_,_,_,_,_,_,_,_,_,_,_,_,_,_,rfl,rfl,w1,w2,w4,w5,w7,w8,w10,w11⟩
theorem SBox.mkAgg {w:World} {x:SBox} {A1:Option Addr} {n1 c1:Nat} {s1:List Nat} {A2:Option Addr} {n2 c2:Nat} {s2:List Nat} {A4:Option Addr} {n4 c4:Nat} {s4:List Nat} {A5:Option Addr} {n5 c5:Nat} {s5:List Nat} {A7:Option Addr} {n7 c7:Nat} {s7:List Nat} {A8:Option Addr} {n8 c8:Nat} {s8:List Nat} {A10:Option Addr} {n10 c10:Nat} {s10:List Nat} {A11:Option Addr} {n11 c11:Nat} {s11:List Nat} (w1:Sl w A1 n1 c1 x.left.num.mag s1) (w2:Sl w A2 n2 c2 x.left.den s2) (w4:Sl w A4 n4 c4 x.right.num.mag s4) (w5:Sl w A5 n5 c5 x.right.den s5) (w7:Sl w A7 n7 c7 x.low.num.mag s7) (w8:Sl w A8 n8 c8 x.low.den s8) (w10:Sl w A10 n10 c10 x.high.num.mag s10) (w11:Sl w A11 n11 c11 x.high.den s11):Agg w (.agg #[.bool x.left.num.neg,.slice A1 n1 c1,.slice A2 n2 c2,.bool x.right.num.neg,.slice A4 n4 c4,.slice A5 n5 c5,.bool x.low.num.neg,.slice A7 n7 c7,.slice A8 n8 c8,.bool x.high.num.neg,.slice A10 n10 c10,.slice A11 n11 c11]) x (s1++(s2++(s4++(s5++(s7++(s8++(s10++(s11)))))))) :=
 ⟨_,rfl,SBox.shut w1 w2 w4 w5 w7 w8 w10 w11⟩
theorem SBox.elemA {w:World} {A:Option Addr} {n c:Nat} {xs:List SBox} {bs:List Nat} (h:Sl w A n c xs bs) {k:Nat} (hk:k<n) :
  ∃ (b off:Nat) (x:SBox) (A1:Option Addr) (n1 c1:Nat) (s1:List Nat) (A2:Option Addr) (n2 c2:Nat) (s2:List Nat) (A4:Option Addr) (n4 c4:Nat) (s4:List Nat) (A5:Option Addr) (n5 c5:Nat) (s5:List Nat) (A7:Option Addr) (n7 c7:Nat) (s7:List Nat) (A8:Option Addr) (n8 c8:Nat) (s8:List Nat) (A10:Option Addr) (n10 c10:Nat) (s10:List Nat) (A11:Option Addr) (n11 c11:Nat) (s11:List Nat),A=some ⟨b,off,none⟩∧b<w.heap.size∧xs[k]?=some x∧w.cell? ⟨b,off+k*12,none⟩=some (.bool x.left.num.neg)∧w.cell? ⟨b,off+k*12+1,none⟩=some (.slice A1 n1 c1)∧w.cell? ⟨b,off+k*12+2,none⟩=some (.slice A2 n2 c2)∧w.cell? ⟨b,off+k*12+3,none⟩=some (.bool x.right.num.neg)∧w.cell? ⟨b,off+k*12+4,none⟩=some (.slice A4 n4 c4)∧w.cell? ⟨b,off+k*12+5,none⟩=some (.slice A5 n5 c5)∧w.cell? ⟨b,off+k*12+6,none⟩=some (.bool x.low.num.neg)∧w.cell? ⟨b,off+k*12+7,none⟩=some (.slice A7 n7 c7)∧w.cell? ⟨b,off+k*12+8,none⟩=some (.slice A8 n8 c8)∧w.cell? ⟨b,off+k*12+9,none⟩=some (.bool x.high.num.neg)∧w.cell? ⟨b,off+k*12+10,none⟩=some (.slice A10 n10 c10)∧w.cell? ⟨b,off+k*12+11,none⟩=some (.slice A11 n11 c11)∧Agg w (.agg #[.bool x.left.num.neg,.slice A1 n1 c1,.slice A2 n2 c2,.bool x.right.num.neg,.slice A4 n4 c4,.slice A5 n5 c5,.bool x.low.num.neg,.slice A7 n7 c7,.slice A8 n8 c8,.bool x.high.num.neg,.slice A10 n10 c10,.slice A11 n11 c11]) x (s1++(s2++(s4++(s5++(s7++(s8++(s10++(s11)))))))):=by
 obtain ⟨b,off,x,cs,fs,hA,hb,hx,hc,ha,hg⟩:=Sl.getAt h hk
 obtain ⟨A1,n1,c1,s1,A2,n2,c2,s2,A4,n4,c4,s4,A5,n5,c5,s5,A7,n7,c7,s7,A8,n8,c8,s8,A10,n10,c10,s10,A11,n11,c11,s11,rfl,rfl,w1,w2,w4,w5,w7,w8,w10,w11⟩:=SBox.open_ ha
 exact ⟨b,off,x,_,_,_,_,_,_,_,_,_,_,_,_,_,_,_,_,_,_,_,_,_,_,_,_,_,_,_,_,_,_,_,_,hA,hb,hx,hc 0 _ rfl,hc 1 _ rfl,hc 2 _ rfl,hc 3 _ rfl,hc 4 _ rfl,hc 5 _ rfl,hc 6 _ rfl,hc 7 _ rfl,hc 8 _ rfl,hc 9 _ rfl,hc 10 _ rfl,hc 11 _ rfl,_,rfl,ha⟩

end Go.XB
namespace Go.Proofs.YtbhemnidcleaiaaGreat.X
open Go.RowKit Go.XB Go.XN
def D3r (b:SBox) (p:TPoint):SBox :=
 ⟨bif decide (A3a p.x b.left<0) then p.x else b.left,bif decide (0<A3a p.x b.right) then p.x else b.right,bif decide (A3a p.y b.low<0) then p.y else b.low,bif decide (0<A3a p.y b.high) then p.y else b.high⟩
def C1v (p0:TPoint) (l:List TPoint):SBox:=l.foldl D3r ⟨p0.x,p0.x,p0.y,p0.y⟩
def B3i (a b:SBox):Bool:=decide (A3a a.right b.left≤0) || (decide (A3a b.right a.left≤0) || (decide (A3a a.high b.low≤0) || decide (A3a b.high a.low≤0)))
end Go.Proofs.YtbhemnidcleaiaaGreat.X
namespace Go.Proofs.YtbhemnidcleaiaaGreat.X
open Go.RowKit Go.XB Go.XN
attribute [local go_sem] O_ opAt P_ M_ Region.wanted yielded
attribute [local simp] P_ M_ MP.eq MP.agg MP.sl A0e
theorem B6a (va vb:Value) (a b:SBox) (sa sb:List Nat) (w:World) (ha:Agg w va a sa) (hb:Agg w vb b sb) :
  Calls Tryz.prog 240 #[va,vb] w (A0j w (.bool (B3i a b))):=by
 obtain ⟨aA1,an1,ac1,as1,aA2,an2,ac2,as2,aA4,an4,ac4,as4,aA5,an5,ac5,as5,aA7,an7,ac7,as7,aA8,an8,ac8,as8,aA10,an10,ac10,as10,aA11,an11,ac11,as11,rfl,rfl,aw1,aw2,aw4,aw5,aw7,aw8,aw10,aw11⟩:=SBox.agg ha
 obtain ⟨bA1,bn1,bc1,bs1,bA2,bn2,bc2,bs2,bA4,bn4,bc4,bs4,bA5,bn5,bc5,bs5,bA7,bn7,bc7,bs7,bA8,bn8,bc8,bs8,bA10,bn10,bc10,bs10,bA11,bn11,bc11,bs11,rfl,rfl,bw1,bw2,bw4,bw5,bw7,bw8,bw10,bw11⟩:=SBox.agg hb
 have P0:=A_ (TRat.mkAgg (x:=a.left) aw1 aw2)
 have P1:=A_ (TRat.mkAgg (x:=a.right) aw4 aw5)
 have P2:=A_ (TRat.mkAgg (x:=a.low) aw7 aw8)
 have P3:=A_ (TRat.mkAgg (x:=a.high) aw10 aw11)
 have Q0:=A_ (TRat.mkAgg (x:=b.left) bw1 bw2)
 have Q1:=A_ (TRat.mkAgg (x:=b.right) bw4 bw5)
 have Q2:=A_ (TRat.mkAgg (x:=b.low) bw7 bw8)
 have Q3:=A_ (TRat.mkAgg (x:=b.high) bw10 bw11)
 clear aw1 bw1 aw2 bw2 aw4 bw4 aw5 bw5 aw7 bw7 aw8 bw8 aw10 bw10 aw11 bw11 ha hb
 go_enter Tryz.func240,Tryz.ntmps240
 go_wp2_with fail
 refine (A2i _ _ a.right b.left _ _ _ (P1.o.below Below.go) (Q0.o.below Below.go)).mono ?_
 rintro _ w1 ⟨rfl,hb1⟩
 obtain ⟨hc_w1,hf_w1⟩:=C_ hb1
 have hz0_w1:w.heap.size<w1.heap.size:=N_ hb1
 have hz1_w1:w.heap.size+1<w1.heap.size:=N_ hb1
 have HB1:=A_ (show Below w.heap.size w w1 from Below.go)
 by_cases p0:A3a a.right b.left≤0
 ·have HV:=A_ (show B3i a b=true by unfold B3i;simp[p0])
  go_wp2
  go_ret
  exact ⟨R_ HV.o.symm,HB1.o⟩
 go_wp2_with fail
 refine (A2i _ _ b.right a.left _ _ _ (Q1.o.below Below.go) (P0.o.below Below.go)).mono ?_
 rintro _ w2 ⟨rfl,hb2⟩
 obtain ⟨hc_w2,hf_w2⟩:=C_ hb2
 have hz0_w2:w.heap.size<w2.heap.size:=N_ hb2
 have hz1_w2:w.heap.size+1<w2.heap.size:=N_ hb2
 have HB2:=A_ (show Below w.heap.size w w2 from Below.go)
 by_cases p1:A3a b.right a.left≤0
 ·have HV:=A_ (show B3i a b=true by unfold B3i;simp[p1])
  go_wp2
  go_ret
  exact ⟨R_ HV.o.symm,HB2.o⟩
 go_wp2_with fail
 refine (A2i _ _ a.high b.low _ _ _ (P3.o.below Below.go) (Q2.o.below Below.go)).mono ?_
 rintro _ w3 ⟨rfl,hb3⟩
 obtain ⟨hc_w3,hf_w3⟩:=C_ hb3
 have hz0_w3:w.heap.size<w3.heap.size:=N_ hb3
 have hz1_w3:w.heap.size+1<w3.heap.size:=N_ hb3
 have HB3:=A_ (show Below w.heap.size w w3 from Below.go)
 by_cases p2:A3a a.high b.low≤0
 ·have HV:=A_ (show B3i a b=true by unfold B3i;simp[p2])
  go_wp2
  go_ret
  exact ⟨R_ HV.o.symm,HB3.o⟩
 go_wp2_with fail
 refine (A2i _ _ b.high a.low _ _ _ (Q3.o.below Below.go) (P2.o.below Below.go)).mono ?_
 rintro _ w4 ⟨rfl,hb4⟩
 obtain ⟨hc_w4,hf_w4⟩:=C_ hb4
 have hz0_w4:w.heap.size<w4.heap.size:=N_ hb4
 have hz1_w4:w.heap.size+1<w4.heap.size:=N_ hb4
 have HB4:=A_ (show Below w.heap.size w w4 from Below.go)
 by_cases p3:A3a b.high a.low≤0
 ·have HV:=A_ (show B3i a b=true by unfold B3i;simp[p3])
  go_wp2
  go_ret
  exact ⟨R_ HV.o.symm,HB4.o⟩
 have HV:=A_ (show B3i a b=false by unfold B3i;simp[p0,p1,p2,p3])
 go_wp2
 go_ret
 exact ⟨R_ (by rw[HV.o];simp[p0,p1,p2,p3]),HB4.o⟩
end Go.Proofs.YtbhemnidcleaiaaGreat.X
