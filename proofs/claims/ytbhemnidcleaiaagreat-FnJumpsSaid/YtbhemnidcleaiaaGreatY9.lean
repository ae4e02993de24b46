/- A part of the proof. -/
import Derived.Test.YtbhemnidcleaiaaGreatY7
import Derived.Test.YtbhemnidcleaiaaGreatY2
set_option linter.constructorNameAsVariable false
set_option maxHeartbeats 16000000
set_option maxRecDepth 10000
namespace Go.Proofs.YtbhemnidcleaiaaGreat.X
open Go.RowKit Go.XB Go.XN
attribute [local go_sem] O_ opAt P_ M_ Region.wanted yielded
attribute [local simp] P_ M_ MP.eq MP.agg MP.sl A0e

theorem B1a (v:Value) (x:TRat) (b:List Nat) (w:World) (hx:Agg w v x b) (lx:x.num.mag.length≤1048576) (ly:x.den.length≤1048576) :
  Calls Tryz.prog 147 #[v] w (X_ w x):=by
 obtain ⟨A1,n1,c1,s1,A2,n2,c2,s2,rfl,rfl,hs1,hs2⟩:=TRat.agg hx
 have H1:=A_ hs1;have H2:=A_ hs2
 have hn1:n1≤1048576:=by rw[← hs1.1];exact lx
 have hn2:n2≤1048576:=by rw[← hs2.1];exact ly
 clear hs1 hs2 hx lx ly
 go_enter Tryz.func147,Tryz.ntmps147
 go_wp2_with fail
 refine Z_ (by simp) ?_
 dsimp only [List.dropLast,List.getLast,List.length]
 iterate 6
  refine D_ _ ?_
 refine F_ (MP.sl x.num.mag) ?_ ?_
 ·intro yq zq wq hC hd
  obtain ⟨hcq,hfq⟩:=C_ hC
  simp at hd
  refine H_ ?_
  exact A0q (A7b A1 n1 c1 x.num.mag _ wq (Sl.below H1.o Below.go) hn1)
 refine A6z (fun y'=>.agg #[.bool x.num.neg,y' 6]) (by intro y y' h;simp[P_,M_] at h;simp[h]) ?_ ?_
 ·intro yq zq wq hC hd
  obtain ⟨hcq,hfq⟩:=C_ hC
  simp at hd
  obtain ⟨_,⟨A,n,c,e,_⟩,_⟩:=hd
  refine ⟨by go_simp;done,?_⟩
  go_simp
  try simp[*,Value.cells]
 iterate 2
  refine D_ _ ?_
 refine F_ (MP.sl x.den) ?_ ?_
 ·intro yq zq wq hC hd
  obtain ⟨hcq,hfq⟩:=C_ hC
  simp at hd
  refine H_ ?_
  exact A0q (A7b A2 n2 c2 x.den _ wq (Sl.below H2.o Below.go) hn2)
 refine A6z (fun y'=>.agg ((y' 7).cells++#[y' 10])) (by intro y y' h;simp[P_,M_] at h;simp[h]) ?_ ?_
 ·intro yq zq wq hC hd
  obtain ⟨hcq,hfq⟩:=C_ hC
  simp at hd
  obtain ⟨⟨h7,_⟩,⟨A,n,c,e,_⟩,_⟩:=hd
  refine ⟨by go_simp;done,?_⟩
  go_simp
  try simp[*,Value.cells]
 intro yq zq wa hC hd (hdis:Hid _)
 simp at hd
 go_simp
 have q6:=hd.2.2.2.2.2.2.1
 have q7:=hd.2.2.2.2.2.2.2.1
 have q10:=hd.2.2.2.2.2.2.2.2.2.2.1
 have q11:=hd.2.2.2.2.2.2.2.2.2.2.2
 obtain ⟨⟨⟨B1,m1,d1,e6,hs1⟩,hf1⟩,hr1⟩:=q6
 obtain ⟨⟨⟨B2,m2,d2,e10,hs2⟩,hf2⟩,hr2⟩:=q10
 have e11:yq 11=.agg #[.bool x.num.neg,.slice B1 m1 d1,.slice B2 m2 d2]:=by rw[q11.1.1,q7.1.1,e6,e10];rfl
 have HS1:=A_ hs1;have HF1:=A_ hf1;have HR1:=A_ hr1
 have HS2:=A_ hs2;have HF2:=A_ hf2;have HR2:=A_ hr2
 have HDIS:=A_ (hdis.o 6 10 (by decide) (by decide) (by decide))
 clear hd hdis q7 q11 hs1 hf1 hr1 hs2 hf2 hr2
 obtain ⟨hc_wa,hf_wa⟩:=C_ hC
 have hz0_wa:w.heap.size<wa.heap.size:=N_ hC
 have hz1_wa:w.heap.size+1<wa.heap.size:=N_ hC
 go_wp2
 refine bodyPost_ret (v:=.agg #[.bool x.num.neg,.slice B1 m1 d1,.slice B2 m2 d2]) (by simp[results,Tryz.results147,go_sem, *]) rfl ?_
 have f1:=fun (W:World) (ha:Above (w.heap.size+2) wa W)=>A2c (w:=w) HS1.o HF1.o (fun b hb=>(HR1.o b hb).1) (by omega) ha
 have f2:=fun (W:World) (ha:Above (w.heap.size+2) wa W)=>A2c (w:=w) HS2.o HF2.o (fun b hb=>(HR2.o b hb).1) (by omega) ha
 refine A5m (x:=x) (f1 _ ?_) (f2 _ ?_) HDIS.o ?_
 ·exact Above.go
 ·exact Above.go
 exact Below.go

theorem D1k {x:Int} (h0:0≤x) (h1:x≤18446744073709551615):IntKind.u64.wrap x=x:=by simp[IntKind.wrap,IntKind.signed,IntKind.bits];omega
theorem B5g {a:Int} {g:Nat} (h:(g:Int)∣a):a.tdiv g=a / g:=by
 obtain ⟨q,rfl⟩:=h
 rcases Nat.eq_zero_or_pos g with h0 | h0
 ·subst h0;simp
 rw[Int.mul_tdiv_cancel_left _ (by omega),Int.mul_ediv_cancel_left _ (by omega)]
theorem B2k {a M:Int} {g:Nat} (hg:0<g) (h:(g:Int)∣a) (h0:-M≤a) (h1:a≤M):-M≤a / g∧a / g≤M:=by
 obtain ⟨q,rfl⟩:=h
 rw[Int.mul_ediv_cancel_left _ (by omega)]
 have hg':(1:Int)≤g:=by omega
 rcases Int.lt_or_le q 0 with hq | hq
 ·have:(g:Int)*q≤1*q:=Int.mul_le_mul_of_nonpos_right hg' (by omega)
  omega
 have:1*q≤(g:Int)*q:=Int.mul_le_mul_of_nonneg_right hg' hq
 omega
theorem C7z {n d:Int} (hd:0<d) (hn0:-4000000000000000000≤n) (hn1:n≤4000000000000000000) (hd1:d≤4000000000000000000) :
  mkR n d=⟨Q_ (n / (Int.gcd n d:Nat)),dig (d / (Int.gcd n d:Nat)).toNat⟩:=by
 have hg:=A4y (a:=n) hd
 have h1:=B2k hg (Int.gcd_dvd_left n d) hn0 hn1
 have h2:=B2k hg (Int.gcd_dvd_right n d) (show -4000000000000000000≤d by omega) hd1
 have h3:0≤d / (Int.gcd n d:Nat):=Int.ediv_nonneg (by omega) (by omega)
 have e:(d / (Int.gcd n d:Nat)).natAbs=(d / (Int.gcd n d:Nat)).toNat:=by omega
 unfold mkR
 rw[e,if_pos]
 have p:=A2x (show 3≤24 by decide)
 rw[pw_vals.2.2] at p
 exact ⟨A3h (by omega),A3h (by omega)⟩

theorem B6b (n d:Int) (w:World) (hd0:0<d) (hn0:-4000000000000000000≤n) (hn1:n≤4000000000000000000) (hd1:d≤4000000000000000000) :
  Calls Tryz.prog 66 #[.int .i64 n,.int .i64 d] w (X_ w (mkR n d)):=by
 have MK:=A_ (C7z hd0 hn0 hn1 hd1)
 have hg:=A4y (a:=n) hd0
 have D1:=A_ (Int.gcd_dvd_left n d)
 have D2:=A_ (Int.gcd_dvd_right n d)
 have h1:=B2k hg D1.o hn0 hn1
 have h2:=B2k hg D2.o (show -4000000000000000000≤d by omega) hd1
 have h3:0≤d / (Int.gcd n d:Nat):=Int.ediv_nonneg (by omega) (by omega)
 have hgd:(Int.gcd n d:Int)≤d:=Int.gcd_le_right n hd0
 obtain ⟨h1a,h1b⟩:=h1
 obtain ⟨h2a,h2b⟩:=h2
 rcases Int.lt_or_le n 0 with hneg | hneg
 ·have hm:n≤-n:=by omega
  go_enter Tryz.func66,Tryz.ntmps66
  go_wp2_with fail
  have C:=B0c (-n) d (w.alloc (.cells #[.bool false,.slice none 0 0,.slice none 0 0] 35)) (by omega) (by omega) (by omega) (by omega)
  rw[Int.neg_gcd] at C
  refine C.mono ?_
  clear C
  rintro _ w1 ⟨rfl,hb1⟩
  generalize Int.gcd n d=g at *
  obtain ⟨hc_w1,hf_w1⟩:=C_ hb1
  have hz0_w1:w.heap.size<w1.heap.size:=N_ hb1
  go_wp2_with fail
  refine Z_ (by simp) ?_
  dsimp only [List.dropLast,List.getLast,List.length]
  iterate 2
   refine D_ _ ?_
  refine A3r (Value.int .i64 (n / g)) ?_ ?_
  ·intro yq zq wq hC hd
   obtain ⟨hcq,hfq⟩:=C_ hC
   simp at hd
   refine ⟨by go_simp;done,?_⟩
   go_simp
   (rw[if_neg (by omega)];simp only [B5g D1.o];rw[IntWalk.i64_in _ (by omega)])
  refine F_ (MP.agg (Q_ (n / g))) ?_ ?_
  ·intro yq zq wq hC hd
   obtain ⟨hcq,hfq⟩:=C_ hC
   simp at hd
   refine H_ ?_
   exact K_ (A7k (n / g) wq ⟨by omega,by omega⟩)
  iterate 2
   refine D_ _ ?_
  refine A3r (Value.int .i64 (d / g)) ?_ ?_
  ·intro yq zq wq hC hd
   obtain ⟨hcq,hfq⟩:=C_ hC
   simp at hd
   refine ⟨by go_simp;done,?_⟩
   go_simp
   (rw[if_neg (by omega)];first | done | (simp only [B5g D2.o];first | done | rw[IntWalk.i64_in _ (by omega)]))
  refine A3r (Value.int .u64 (d / g)) ?_ ?_
  ·intro yq zq wq hC hd
   obtain ⟨hcq,hfq⟩:=C_ hC
   simp at hd
   refine ⟨by go_simp;done,?_⟩
   go_simp
   rw[D1k h3 (by omega)]
  refine F_ (MP.sl (dig (d / g).toNat)) ?_ ?_
  ·intro yq zq wq hC hd
   obtain ⟨hcq,hfq⟩:=C_ hC
   simp at hd
   refine H_ ?_
   exact A0q (B0u (d / g) wq h3 (by omega))
  refine A6z (fun y'=>.agg ((y' 3).cells++#[y' 8])) (by intro y y' h;simp[P_,M_] at h;simp[h]) ?_ ?_
  ·intro yq zq wq hC hd
   obtain ⟨hcq,hfq⟩:=C_ hC
   simp at hd
   obtain ⟨⟨h3a,_⟩,⟨A,n,c,e,_⟩,_⟩:=hd
   obtain ⟨A',n',c',s',e',_,_⟩:=TBigInt.agg h3a
   refine ⟨by go_simp;done,?_⟩
   go_simp
   try simp[*,Value.cells]
  intro yq zq wa hC hd (hdis:Hid _)
  simp at hd
  have q3:=hd.2.2.2.1
  have q8:=hd.2.2.2.2.2.2.2.2.1
  have q9:=hd.2.2.2.2.2.2.2.2.2
  obtain ⟨⟨ha3,hf1⟩,hr1⟩:=q3
  obtain ⟨B1,m1,d1,s1,e3,hz3,hs1⟩:=TBigInt.agg ha3
  obtain ⟨⟨⟨B2,m2,d2,e8,hs2⟩,hf2⟩,hr2⟩:=q8
  have e9:yq 9=.agg #[.bool (Q_ (n / g)).neg,.slice B1 m1 d1,.slice B2 m2 d2]:=by rw[q9.1.1,e3,e8];rfl
  have HDIS:=A_ (hdis.o 3 8 (by decide) (by decide) (by decide))
  rw[hz3] at HDIS hf1 hr1
  have HS1:=A_ hs1;have HF1:=A_ hf1;have HR1:=A_ hr1
  have HS2:=A_ hs2;have HF2:=A_ hf2;have HR2:=A_ hr2
  clear hd hdis q9 hs1 hf1 hr1 hs2 hf2 hr2 ha3 hz3
  obtain ⟨hc_wa,hf_wa⟩:=C_ hC
  have hz0_wa:w.heap.size<wa.heap.size:=N_ hC
  go_wp2
  refine bodyPost_ret (v:=.agg #[.bool (Q_ (n / g)).neg,.slice B1 m1 d1,.slice B2 m2 d2]) (by simp[results,Tryz.results66,go_sem, *]) rfl ?_
  have f1:=fun (W:World) (ha:Above (w.heap.size+1) wa W)=>A2c (w:=w) HS1.o HF1.o (fun b hb=>by have:=(HR1.o b hb).1;omega) (by omega) ha
  have f2:=fun (W:World) (ha:Above (w.heap.size+1) wa W)=>A2c (w:=w) HS2.o HF2.o (fun b hb=>by have:=(HR2.o b hb).1;omega) (by omega) ha
  rw[MK.o]
  refine A5m (x:=⟨Q_ (n / g),dig (d / g).toNat⟩) (f1 _ ?_) (f2 _ ?_) HDIS.o ?_
  ·exact Above.go
  ·exact Above.go
  exact Below.go
 have hm:-n≤n:=by omega
 go_enter Tryz.func66,Tryz.ntmps66
 go_wp2_with fail
 have C:=B0c n d (w.alloc (.cells #[.bool false,.slice none 0 0,.slice none 0 0] 35)) (by omega) (by omega) (by omega) (by omega)
 refine C.mono ?_
 clear C
 rintro _ w1 ⟨rfl,hb1⟩
 generalize Int.gcd n d=g at *
 obtain ⟨hc_w1,hf_w1⟩:=C_ hb1
 have hz0_w1:w.heap.size<w1.heap.size:=N_ hb1
 go_wp2_with fail
 refine Z_ (by simp) ?_
 dsimp only [List.dropLast,List.getLast,List.length]
 iterate 2
  refine D_ _ ?_
 refine A3r (Value.int .i64 (n / g)) ?_ ?_
 ·intro yq zq wq hC hd
  obtain ⟨hcq,hfq⟩:=C_ hC
  simp at hd
  refine ⟨by go_simp;done,?_⟩
  go_simp
  (rw[if_neg (by omega)];simp only [B5g D1.o];rw[IntWalk.i64_in _ (by omega)])
 refine F_ (MP.agg (Q_ (n / g))) ?_ ?_
 ·intro yq zq wq hC hd
  obtain ⟨hcq,hfq⟩:=C_ hC
  simp at hd
  refine H_ ?_
  exact K_ (A7k (n / g) wq ⟨by omega,by omega⟩)
 iterate 2
  refine D_ _ ?_
 refine A3r (Value.int .i64 (d / g)) ?_ ?_
 ·intro yq zq wq hC hd
  obtain ⟨hcq,hfq⟩:=C_ hC
  simp at hd
  refine ⟨by go_simp;done,?_⟩
  go_simp
  (rw[if_neg (by omega)];first | done | (simp only [B5g D2.o];first | done | rw[IntWalk.i64_in _ (by omega)]))
 refine A3r (Value.int .u64 (d / g)) ?_ ?_
 ·intro yq zq wq hC hd
  obtain ⟨hcq,hfq⟩:=C_ hC
  simp at hd
  refine ⟨by go_simp;done,?_⟩
  go_simp
  rw[D1k h3 (by omega)]
 refine F_ (MP.sl (dig (d / g).toNat)) ?_ ?_
 ·intro yq zq wq hC hd
  obtain ⟨hcq,hfq⟩:=C_ hC
  simp at hd
  refine H_ ?_
  exact A0q (B0u (d / g) wq h3 (by omega))
 refine A6z (fun y'=>.agg ((y' 3).cells++#[y' 8])) (by intro y y' h;simp[P_,M_] at h;simp[h]) ?_ ?_
 ·intro yq zq wq hC hd
  obtain ⟨hcq,hfq⟩:=C_ hC
  simp at hd
  obtain ⟨⟨h3a,_⟩,⟨A,n,c,e,_⟩,_⟩:=hd
  obtain ⟨A',n',c',s',e',_,_⟩:=TBigInt.agg h3a
  refine ⟨by go_simp;done,?_⟩
  go_simp
  try simp[*,Value.cells]
 intro yq zq wa hC hd (hdis:Hid _)
 simp at hd
 have q3:=hd.2.2.2.1
 have q8:=hd.2.2.2.2.2.2.2.2.1
 have q9:=hd.2.2.2.2.2.2.2.2.2
 obtain ⟨⟨ha3,hf1⟩,hr1⟩:=q3
 obtain ⟨B1,m1,d1,s1,e3,hz3,hs1⟩:=TBigInt.agg ha3
 obtain ⟨⟨⟨B2,m2,d2,e8,hs2⟩,hf2⟩,hr2⟩:=q8
 have e9:yq 9=.agg #[.bool (Q_ (n / g)).neg,.slice B1 m1 d1,.slice B2 m2 d2]:=by rw[q9.1.1,e3,e8];rfl
 have HDIS:=A_ (hdis.o 3 8 (by decide) (by decide) (by decide))
 rw[hz3] at HDIS hf1 hr1
 have HS1:=A_ hs1;have HF1:=A_ hf1;have HR1:=A_ hr1
 have HS2:=A_ hs2;have HF2:=A_ hf2;have HR2:=A_ hr2
 clear hd hdis q9 hs1 hf1 hr1 hs2 hf2 hr2 ha3 hz3
 obtain ⟨hc_wa,hf_wa⟩:=C_ hC
 have hz0_wa:w.heap.size<wa.heap.size:=N_ hC
 go_wp2
 refine bodyPost_ret (v:=.agg #[.bool (Q_ (n / g)).neg,.slice B1 m1 d1,.slice B2 m2 d2]) (by simp[results,Tryz.results66,go_sem, *]) rfl ?_
 have f1:=fun (W:World) (ha:Above (w.heap.size+1) wa W)=>A2c (w:=w) HS1.o HF1.o (fun b hb=>by have:=(HR1.o b hb).1;omega) (by omega) ha
 have f2:=fun (W:World) (ha:Above (w.heap.size+1) wa W)=>A2c (w:=w) HS2.o HF2.o (fun b hb=>by have:=(HR2.o b hb).1;omega) (by omega) ha
 rw[MK.o]
 refine A5m (x:=⟨Q_ (n / g),dig (d / g).toNat⟩) (f1 _ ?_) (f2 _ ?_) HDIS.o ?_
 ·exact Above.go
 ·exact Above.go
 exact Below.go
end Go.Proofs.YtbhemnidcleaiaaGreat.X
namespace Go.Proofs.YtbhemnidcleaiaaGreat.X
open Go.RowKit Go.XB Go.XN

theorem A7o {x:TBigInt} {ys:List Int} {A1 B:Option Addr} {n1 c1 m d:Nat} {b1 b2:List Nat} {w:World} (hx:Sl w A1 n1 c1 x.mag b1) (hy:Sl w B m d ys b2) (cx:XN.Can x.mag) (cy:XN.Can ys) (hm0:0<m) (lx:x.mag.length≤65536) (ly:m≤65536)
  (h1:Int.gcd (G_ x.mag) (G_ ys)=1) (h24:x.mag.length≤24) (d24:m≤24) :
  Calls Tryz.prog 69 #[.agg #[.bool x.neg,.slice A1 n1 c1],.slice B m d] w (A0j w (.agg #[.bool x.neg,.slice A1 n1 c1,.slice B m d])):=by
 obtain ⟨A,n,c,hv,_,C⟩:=C5p (TBigInt.mkAgg (x:=x) hx) hy cx cy hm0 lx ly h1 h24 d24
 cases hv
 exact C
def _root_.Go.XB.MP.sgd (s:Bool) (mag:List Int) (u:Value):MP:=⟨fun v bs w=>v=.agg #[.bool s,u]∧bs=[]∧∃ A n c b',u=.slice A n c∧Sl w A n c mag b',fun _ _ _ _ hb h=>⟨h.1,h.2.1,by obtain ⟨A,n,c,b',e,hs⟩:=h.2.2;exact ⟨A,n,c,b',e,hs.below hb⟩⟩⟩
theorem C0t {P:Program} {f:FuncId} {args:Array Value} {w:World} {s:Bool} {mag:List Int} {A:Option Addr} {n c:Nat} {b':List Nat} (hs:Sl w A n c mag b') (h:Calls P f args w (A0j w (.agg #[.bool s,.slice A n c]))) :
  Calls P f args w fun e w'=>∃ u,e=.returned u∧Below w.heap.size w w'∧∃ bs,(MP.sgd s mag (.slice A n c)).p u bs w'∧∀ b∈bs,w.heap.size≤b∧b<w'.heap.size :=
 h.mono fun _ _ ⟨he,hb⟩=>⟨_,he,hb,[],⟨rfl,rfl,A,n,c,b',rfl,hs.below hb⟩,fun b hb=>by simp at hb⟩
theorem C6h {X:TBigInt} {ys:List Int} (cx:XN.Can X.mag) (nx:NegOk X) (cy:XN.Can ys) (hy:0<G_ ys) (h1:Int.gcd (G_ X.mag) (G_ ys)=1) (h24:X.mag.length≤24) (d24:ys.length≤24):mkR (A0f X) (G_ ys)=⟨X,ys⟩:=by
 rw[C5k cx nx hy,h1,Int.natCast_one,Int.ediv_one,Int.ediv_one,← cx.eq_dig,← cy.eq_dig,if_pos ⟨h24,d24⟩]

attribute [local go_sem] O_ opAt P_ M_ Region.wanted yielded
attribute [local simp] P_ M_ MP.eq MP.agg MP.sl MP.sgd A0e

theorem A0o {α:Type} [Dat α] {w u W:World} {lo:Nat} {v:Value} {x:α} {bs:List Nat} (h:Agg u v x bs) (hf:Free u bs) (hr:∀ b∈bs,lo≤b) (hl:w.heap.size≤lo) (ha:Above lo u W) (hb:Below w.heap.size w W):X_ w x (.returned v) W :=
 have hk:∀ g∈bs,W.heap[g]?=u.heap[g]?:=fun g hg=>ha.block g (hr g hg) (h.lt g hg)
 ⟨v,bs,rfl,h.keep hk,⟨hf.1,fun b hb=>⟨Nat.le_trans hl (hr b hb),by obtain ⟨cs,t,e⟩:=hf.2 b hb;exact ⟨cs,t,(hk b hb).trans e⟩⟩⟩,hb⟩
def A1g (x y:TBigInt):TBigInt:=⟨(x.neg != y.neg)&&!x.mag.isEmpty,x.mag⟩
theorem C2a (x y:TBigInt):NegOk (A1g x y):=by
 intro h e
 have e':x.mag=[]:=e
 have h':((x.neg != y.neg)&&!x.mag.isEmpty)=true:=h
 rw[e'] at h'
 simp at h'

theorem C2e (v1 v2:Value) (x y:TBigInt) (b1 b2:List Nat) (w:World) (hx:Agg w v1 x b1) (hy:Agg w v2 y b2) (ox:A1x x=true) (oy:A1x y=true) (hy0:y.mag≠[]) :
  Calls Tryz.prog 60 #[v1,v2] w (X_ w (mkR (A0f (A1g x y)) (G_ y.mag))):=by
 have HX:=A_ hx;have HY:=A_ hy
 obtain ⟨A1,n1,c1,s1,rfl,rfl,hs1⟩:=TBigInt.agg hx
 obtain ⟨A2,n2,c2,s2,rfl,rfl,hs2⟩:=TBigInt.agg hy
 have H1:=A_ hs1;have H2:=A_ hs2
 have CX:=A_ (bigOkB_iff.1 ox).1.2
 have CY:=A_ (bigOkB_iff.1 oy).1.2
 have LX:x.mag.length≤60:=(bigOkB_iff.1 ox).1.1
 have LY:y.mag.length≤60:=(bigOkB_iff.1 oy).1.1
 have hn2:0<n2:=by rw[← hs2.1];exact List.length_pos_iff.2 hy0
 have hn1:n1≤60:=by rw[← hs1.1];exact LX
 have hn2':n2≤60:=by rw[← hs2.1];exact LY
 have VY:=A_ (CY.o.pos hy0)
 have OX:=A_ ox;have OY:=A_ oy
 have SG:=A_ (show ((x.neg != y.neg)&&decide (0<n1))=(A1g x y).neg by
  unfold A1g;rw[← hs1.1];simp only;cases x.mag<;>simp)
 have hz:((n2:Int)==0)=false:=by simp;omega
 have NG:=A_ (C2a x y)
 have SM:=A_ (show (A1g x y).mag=x.mag from rfl)
 have CS:=A_ (show XN.Can (A1g x y).mag from CX.o)
 have LS:=A_ (show (A1g x y).mag.length≤65536 by show x.mag.length≤65536;omega)
 clear hs1 hs2 hx hy ox oy hy0
 by_cases hsh:Int.gcd (G_ (A1g x y).mag) (G_ y.mag)=1∧(A1g x y).mag.length≤24∧y.mag.length≤24
 ·have HS:=A_ hsh
  clear hsh
  go_enter Tryz.func60,Tryz.ntmps60
  go_wp2_with fail
  have C:=A1p _ x _ (((w.alloc (.cells #[.bool x.neg,.slice A1 n1 c1] 33)).alloc (.cells #[.bool y.neg,.slice A2 n2 c2] 33)).alloc (.cells #[.bool false,.slice none 0 0,.slice none 0 0] 35)) (Agg.below HX.o Below.go)
  rw[OX.o] at C
  refine C.mono ?_
  clear C
  rintro _ w1 ⟨rfl,hb1⟩
  obtain ⟨hc_w1,hf_w1⟩:=C_ hb1
  have hz0_w1:w.heap.size<w1.heap.size:=N_ hb1
  have hz1_w1:w.heap.size+1<w1.heap.size:=N_ hb1
  have hz2_w1:w.heap.size+1+1<w1.heap.size:=N_ hb1
  go_wp2_with fail
  have C:=A1p _ y _ w1 (Agg.below HY.o Below.go)
  rw[OY.o] at C
  refine C.mono ?_
  clear C
  rintro _ w2 ⟨rfl,hb2⟩
  obtain ⟨hc_w2,hf_w2⟩:=C_ hb2
  have hz0_w2:w.heap.size<w2.heap.size:=N_ hb2
  have hz1_w2:w.heap.size+1<w2.heap.size:=N_ hb2
  have hz2_w2:w.heap.size+1+1<w2.heap.size:=N_ hb2
  go_wp2_with fail
  refine Z_ (by simp) ?_
  dsimp only [List.dropLast,List.getLast,List.length]
  iterate 7
   refine D_ _ ?_
  refine F_ (MP.sl (A1g x y).mag) ?_ ?_
  ·intro yq zq wq hC hd
   obtain ⟨hcq,hfq⟩:=C_ hC
   simp at hd
   refine H_ ?_
   exact A0q (A7b A1 n1 c1 x.mag _ wq (Sl.below H1.o Below.go) (by omega))
  refine A2a (fun y'=>MP.sgd (A1g x y).neg (A1g x y).mag (y' 7)) (by intro y y' h;simp[P_,M_] at h;simp[h]) ?_ ?_
  ·intro yq zq wq hC hd
   obtain ⟨hcq,hfq⟩:=C_ hC
   simp at hd
   refine H_ ?_
   obtain ⟨_,⟨A,n,c,e,hs⟩,_⟩:=hd
   rw[e]
   have C:=A3x (!(x.neg==y.neg)) A n c wq
   rw[show ((!(x.neg==y.neg))&&decide (0<n))=(A1g x y).neg by rw[← SG.o,← hs.1,← H1.o.1];rfl] at C
   exact C0t hs C
  iterate 2
   refine D_ _ ?_
  refine F_ (MP.sl y.mag) ?_ ?_
  ·intro yq zq wq hC hd
   obtain ⟨hcq,hfq⟩:=C_ hC
   simp at hd
   refine H_ ?_
   exact A0q (A7b A2 n2 c2 y.mag _ wq (Sl.below H2.o Below.go) (by omega))
  refine A2a (fun y'=>MP.eq (.agg ((y' 8).cells++#[y' 11]))) (by intro y y' h;simp[P_,M_] at h;simp[h]) ?_ ?_
  ·intro yq zq wq hC hd
   obtain ⟨hcq,hfq⟩:=C_ hC
   simp at hd
   refine H_ ?_
   obtain ⟨⟨h8,_,A,n,c,e7,b',hs⟩,⟨A',n',c',e11,hs2⟩,_⟩:=hd
   first | rw[h8,e7,e11] | rw[e7,e11]
   have hl:=hs2.1
   exact A0t (A7o (x:=A1g x y) hs hs2 CS.o CY.o (by rw[← hl,H2.o.1];exact hn2) LS.o (by omega) HS.o.1 HS.o.2.1 (by rw[← hl];exact HS.o.2.2))
  intro yq zq wa hC hd (hdis:Hid _)
  simp at hd
  have q7:=hd.2.2.2.2.2.2.2.1
  have q8:=hd.2.2.2.2.2.2.2.2.1
  have q11:=hd.2.2.2.2.2.2.2.2.2.2.2.1
  have q12:=hd.2.2.2.2.2.2.2.2.2.2.2.2
  obtain ⟨⟨⟨B1,m1,d1,e7,hs1⟩,hf1⟩,hr1⟩:=q7
  obtain ⟨⟨⟨B2,m2,d2,e11,hs2⟩,hf2⟩,hr2⟩:=q11
  have e12:yq 12=.agg #[.bool (A1g x y).neg,.slice B1 m1 d1,.slice B2 m2 d2]:=by rw[q12.1.1,q8.1.1,e7,e11];rfl
  have HDIS:=A_ (hdis.o 7 11 (by decide) (by decide) (by decide))
  have HS1:=A_ hs1;have HF1:=A_ hf1;have HR1:=A_ hr1
  have HS2:=A_ hs2;have HF2:=A_ hf2;have HR2:=A_ hr2
  clear hd hdis q12 q8 hs1 hf1 hr1 hs2 hf2 hr2
  obtain ⟨hc_wa,hf_wa⟩:=C_ hC
  have hz0_wa:w.heap.size<wa.heap.size:=N_ hC
  have hz1_wa:w.heap.size+1<wa.heap.size:=N_ hC
  have hz2_wa:w.heap.size+1+1<wa.heap.size:=N_ hC
  go_wp2
  refine bodyPost_ret (v:=.agg #[.bool (A1g x y).neg,.slice B1 m1 d1,.slice B2 m2 d2]) (by simp[results,Tryz.results60,go_sem, *]) rfl ?_
  rw[C6h CS.o NG.o CY.o VY.o HS.o.1 HS.o.2.1 HS.o.2.2]
  have hw3:w.heap.size+3≤w2.heap.size:=by omega
  have f1:=fun (W:World) (ha:Above (w.heap.size+3) wa W)=>A2c (w:=w) HS1.o HF1.o (fun b hb=>by have:=(HR1.o b hb).1;omega) (by omega) ha
  have f2:=fun (W:World) (ha:Above (w.heap.size+3) wa W)=>A2c (w:=w) HS2.o HF2.o (fun b hb=>by have:=(HR2.o b hb).1;omega) (by omega) ha
  refine A5m (x:=⟨A1g x y,y.mag⟩) (f1 _ ?_) (f2 _ ?_) HDIS.o ?_
  ·exact Above.go
  ·exact Above.go
  exact Below.go
 have HS:=A_ hsh
 clear hsh
 go_enter Tryz.func60,Tryz.ntmps60
 go_wp2_with fail
 have C:=A1p _ x _ (((w.alloc (.cells #[.bool x.neg,.slice A1 n1 c1] 33)).alloc (.cells #[.bool y.neg,.slice A2 n2 c2] 33)).alloc (.cells #[.bool false,.slice none 0 0,.slice none 0 0] 35)) (Agg.below HX.o Below.go)
 rw[OX.o] at C
 refine C.mono ?_
 clear C
 rintro _ w1 ⟨rfl,hb1⟩
 obtain ⟨hc_w1,hf_w1⟩:=C_ hb1
 have hz0_w1:w.heap.size<w1.heap.size:=N_ hb1
 have hz1_w1:w.heap.size+1<w1.heap.size:=N_ hb1
 have hz2_w1:w.heap.size+1+1<w1.heap.size:=N_ hb1
 go_wp2_with fail
 have C:=A1p _ y _ w1 (Agg.below HY.o Below.go)
 rw[OY.o] at C
 refine C.mono ?_
 clear C
 rintro _ w2 ⟨rfl,hb2⟩
 obtain ⟨hc_w2,hf_w2⟩:=C_ hb2
 have hz0_w2:w.heap.size<w2.heap.size:=N_ hb2
 have hz1_w2:w.heap.size+1<w2.heap.size:=N_ hb2
 have hz2_w2:w.heap.size+1+1<w2.heap.size:=N_ hb2
 go_wp2_with fail
 refine Z_ (by simp) ?_
 dsimp only [List.dropLast,List.getLast,List.length]
 iterate 7
  refine D_ _ ?_
 refine F_ (MP.sl (A1g x y).mag) ?_ ?_
 ·intro yq zq wq hC hd
  obtain ⟨hcq,hfq⟩:=C_ hC
  simp at hd
  refine H_ ?_
  exact A0q (A7b A1 n1 c1 x.mag _ wq (Sl.below H1.o Below.go) (by omega))
 refine A2a (fun y'=>MP.sgd (A1g x y).neg (A1g x y).mag (y' 7)) (by intro y y' h;simp[P_,M_] at h;simp[h]) ?_ ?_
 ·intro yq zq wq hC hd
  obtain ⟨hcq,hfq⟩:=C_ hC
  simp at hd
  refine H_ ?_
  obtain ⟨_,⟨A,n,c,e,hs⟩,_⟩:=hd
  rw[e]
  have C:=A3x (!(x.neg==y.neg)) A n c wq
  rw[show ((!(x.neg==y.neg))&&decide (0<n))=(A1g x y).neg by rw[← SG.o,← hs.1,← H1.o.1];rfl] at C
  exact C0t hs C
 iterate 2
  refine D_ _ ?_
 refine F_ (MP.sl y.mag) ?_ ?_
 ·intro yq zq wq hC hd
  obtain ⟨hcq,hfq⟩:=C_ hC
  simp at hd
  refine H_ ?_
  exact A0q (A7b A2 n2 c2 y.mag _ wq (Sl.below H2.o Below.go) (by omega))
 refine F_ (MP.agg (mkR (A0f (A1g x y)) (G_ y.mag))) ?_ ?_
 ·intro yq zq wq hC hd
  obtain ⟨hcq,hfq⟩:=C_ hC
  simp at hd
  refine H_ ?_
  obtain ⟨⟨h8,_,A,n,c,e7,b',hs⟩,⟨A',n',c',e11,hs2⟩,_⟩:=hd
  first | rw[h8,e7,e11] | rw[e7,e11]
  have hl:=hs2.1
  exact K_ (B4e (TBigInt.mkAgg (x:=A1g x y) hs) hs2 CS.o CY.o (by rw[← hl,H2.o.1];exact hn2) LS.o (by omega) NG.o (by rw[← hl];exact HS.o))
 intro yq zq wa hC hd (hdis:Hid _)
 simp at hd
 have q12:=hd.2.2.2.2.2.2.2.2.2.2.2.2
 obtain ⟨⟨ha,hf⟩,hr⟩:=q12
 obtain ⟨B1,m1,d1,t1,B2,m2,d2,t2,e12,hz,hs1,hs2⟩:=TRat.agg ha
 have HA:=A_ ha;have HF:=A_ hf;have HR:=A_ hr
 clear hd hdis hz hs1 hs2 ha hf hr
 obtain ⟨hc_wa,hf_wa⟩:=C_ hC
 have hz0_wa:w.heap.size<wa.heap.size:=N_ hC
 have hz1_wa:w.heap.size+1<wa.heap.size:=N_ hC
 have hz2_wa:w.heap.size+1+1<wa.heap.size:=N_ hC
 go_wp2
 refine bodyPost_ret (v:=.agg #[.bool (mkR (A0f (A1g x y)) (G_ y.mag)).num.neg,.slice B1 m1 d1,.slice B2 m2 d2]) (by simp[results,Tryz.results60,go_sem, *]) rfl ?_
 rw[e12] at HA
 refine A0o (lo:=w.heap.size+3) HA.o HF.o (fun b hb=>by have:=(HR.o b hb).1;omega) (by omega) ?_ ?_
 ·exact Above.go
 exact Below.go

theorem C2f (n:Int) (h:I64 n):A1x (Q_ n)=true:=by
 rw[bigOkB_iff]
 refine ⟨⟨?_,A0y n⟩,?_⟩
 ·have p:=A2x (show 3≤60 by decide)
  rw[pw_vals.2.2] at p
  exact A3h (by have:=h.1;have:=h.2;omega)
 intro hn
 unfold Q_ at hn ⊢
 simp at hn
 simp only [Ne,A9e];omega
theorem C2n {n d:Int} (hd:0<d):A0f (A1g (Q_ n) (Q_ d))=n∧G_ (Q_ d).mag=d:=by
 refine ⟨?_,by show G_ (dig d.natAbs)=d;rw[A1n];omega⟩
 have e:(Q_ d).neg=false:=by unfold Q_;simp;omega
 have h:=C9p (x:=A1g (Q_ n) (Q_ d))
 unfold A1g A0f
 rw[e]
 show (if ((Q_ n).neg != false&&!(dig n.natAbs).isEmpty)=true then -G_ (dig n.natAbs) else G_ (dig n.natAbs))=n
 rw[A1n]
 unfold Q_
 by_cases h0:n<0
 ·have:dig n.natAbs≠[]:=by rw[Ne,A9e];omega
  rw[if_pos (by simp[h0,this])];omega
 rw[if_neg (by simp[h0])];omega

theorem B8y (n d:Int) (w:World) (hn:I64 n) (hd:I64 d) (h0:0<d):Calls Tryz.prog 27 #[.int .i64 n,.int .i64 d] w (X_ w (mkR n d)):=by
 have HN:=A_ hn;have HD:=A_ hd
 have E:=A_ (C2n (n:=n) h0)
 have E2:=A_ (show (Q_ d).mag≠[] by intro e;have:=E.o.2;rw[e] at this;simp[G_] at this;omega)
 clear hn hd h0
 go_enter Tryz.func27,Tryz.ntmps27
 go_wp2_with fail
 refine (A7k n _ HN.o).mono ?_
 rintro _ w1 ⟨v1,t1,rfl,ha1,ho1,hb1⟩
 have HA1:=A_ ha1
 clear ha1 ho1
 obtain ⟨hc_w1,hf_w1⟩:=C_ hb1
 have hz0_w1:w.heap.size<w1.heap.size:=N_ hb1
 go_wp2_with fail
 refine (A7k d _ HD.o).mono ?_
 rintro _ w2 ⟨v2,t2,rfl,ha2,ho2,hb2⟩
 have HA2:=A_ ha2
 clear ha2 ho2
 obtain ⟨hc_w2,hf_w2⟩:=C_ hb2
 have hz0_w2:w.heap.size<w2.heap.size:=N_ hb2
 go_wp2_with fail
 refine (C2e v1 v2 (Q_ n) (Q_ d) t1 t2 w2 (Agg.below HA1.o hb2) HA2.o (C2f n HN.o) (C2f d HD.o) E2.o).mono ?_
 rw[E.o.1,E.o.2]
 rintro _ w3 ⟨v3,t3,rfl,ha3,ho3,hb3⟩
 obtain ⟨B1,m1,d1,t4,B2,m2,d2,t5,rfl,hz,hs1,hs2⟩:=TRat.agg ha3
 have HA3:=A_ ha3;have HO3:=A_ ho3
 clear hz hs1 hs2 ha3 ho3
 obtain ⟨hc_w3,hf_w3⟩:=C_ hb3
 have hz0_w3:w.heap.size<w3.heap.size:=N_ hb3
 go_wp2
 refine bodyPost_ret (v:=.agg #[.bool (mkR n d).num.neg,.slice B1 m1 d1,.slice B2 m2 d2]) (by simp[results,Tryz.results27,go_sem, *]) rfl ?_
 refine A0o (lo:=w.heap.size+1) HA3.o HO3.o.free (fun b hb=>by have:=(HO3.o.2 b hb).1;omega) (by omega) ?_ ?_
 ·exact Above.go
 exact Below.go

theorem D1v (n:Int) (h:I64 n):mkR n 1=A1y n:=by
 unfold mkR A1y
 rw[Int.gcd_one_right,Int.natCast_one,Int.ediv_one,Int.ediv_one,if_pos]
 ·rfl
 have p:=A2x (show 3≤24 by decide)
 rw[pw_vals.2.2] at p
 exact ⟨A3h (by have:=h.1;have:=h.2;omega),by decide⟩

theorem A2k (n:Int) (w:World) (hn:I64 n):Calls Tryz.prog 6 #[.int .i64 n] w (X_ w (A1y n)):=by
 have HN:=A_ hn
 have E:=A_ (D1v n hn)
 clear hn
 go_enter Tryz.func6,Tryz.ntmps6
 go_wp2_with fail
 refine (B8y n 1 _ HN.o (by unfold I64;omega) (by decide)).mono ?_
 rw[E.o]
 rintro _ w1 ⟨v3,t3,rfl,ha3,ho3,hb3⟩
 obtain ⟨B1,m1,d1,t4,B2,m2,d2,t5,rfl,hz,hs1,hs2⟩:=TRat.agg ha3
 have HA3:=A_ ha3;have HO3:=A_ ho3
 clear hz hs1 hs2 ha3 ho3
 obtain ⟨hc_w1,hf_w1⟩:=C_ hb3
 have hz0_w1:w.heap.size<w1.heap.size:=N_ hb3
 go_wp2
 refine bodyPost_ret (v:=.agg #[.bool (A1y n).num.neg,.slice B1 m1 d1,.slice B2 m2 d2]) (by simp[results,Tryz.results6,go_sem, *]) rfl ?_
 refine A0o (lo:=w.heap.size+1) HA3.o HO3.o.free (fun b hb=>by have:=(HO3.o.2 b hb).1;simp at this;omega) (by omega) ?_ ?_
 ·exact Above.go
 exact Below.go
end Go.Proofs.YtbhemnidcleaiaaGreat.X
namespace Go.Proofs.YtbhemnidcleaiaaGreat.X
open Go.RowKit Go.XB Go.XN
attribute [local go_sem] O_ opAt P_ M_ Region.wanted yielded
attribute [local simp] P_ M_ MP.eq MP.agg MP.sl MP.sgd MP.box A0e

section
variable {r s:TRat}
theorem _root_.Go.XN.RatV.lim (h:RatV r) (hs:A1t r=true):(0<I_ r∧I_ r<1000000000)∧(-1000000000<L_ r∧L_ r<1000000000):=by
 unfold A1t at hs
 simp only [Bool.and_eq_true,decide_eq_true_eq] at hs
 exact ⟨⟨h.den0,(B8f h.den hs.2).2⟩,B9a h.mag.1 hs.1⟩
theorem B2f {a b:Int} (ha:-1000000000<a∧a<1000000000) (hb:-1000000000<b∧b<1000000000):-1000000000000000000≤a*b∧a*b≤1000000000000000000:=by
 have h:(a*b).natAbs≤1000000000*1000000000:=by rw[Int.natAbs_mul];exact Nat.mul_le_mul (by omega) (by omega)
 omega
theorem A2u {a b:Int} {m n:Nat} (ha:(a.natAbs:Int)<pw m) (hb:(b.natAbs:Int)<pw n):((a*b).natAbs:Int)<pw (m+n):=by
 rw[Int.natAbs_mul,A7a,Int.natCast_mul]
 have h1:=A4q n
 rcases Nat.eq_zero_or_pos b.natAbs with h | h
 ·rw[h];simp;exact Int.mul_pos (A4q m) h1
 have h2:(a.natAbs:Int)*b.natAbs<pw m*b.natAbs:=Int.mul_lt_mul_of_pos_right ha (by omega)
 have h3:pw m*b.natAbs≤pw m*pw n:=Int.mul_le_mul_of_nonneg_left (by omega) (Int.le_of_lt (A4q m))
 omega
theorem B7d {a b:Int} {m:Nat} (ha:(a.natAbs:Int)<pw m) (hb:(b.natAbs:Int)<pw m):((a+b).natAbs:Int)<pw (m+1):=by
 rw[A1l];omega
theorem A4b {T:Int} {m:Nat} (h:(T.natAbs:Int)<pw m):(Q_ T).mag.length≤m:=A3h h
theorem A6j (T:Int):NegOk (Q_ T):=by
 intro h
 unfold Q_ at h ⊢
 simp only [decide_eq_true_eq] at h
 simp only [Ne,A9e];omega
theorem _root_.Go.XN.RatV.numlt (h:RatV r):((L_ r).natAbs:Int)<pw 24:=by
 have h1:=A2r h.mag.1
 have h2:=A2x h.num24
 have h3:=T_ h.mag.1
 unfold L_ A0f
 split<;>omega
theorem _root_.Go.XN.RatV.denlt (h:RatV r):((I_ r).natAbs:Int)<pw 24:=by
 have h1:=A2r h.den.1
 have h2:=A2x h.den24
 have h3:=h.den0
 unfold I_
 omega
structure DenD (D:Int):Prop where
 can:XN.Can (dig D.toNat)
 v:G_ (dig D.toNat)=D
 pos:0<(dig D.toNat).length
 le:(dig D.toNat).length≤65536
theorem _root_.Go.XN.RatV.denD (h:RatV r) (h':RatV s):DenD (I_ r*I_ s):=by
 have h0:0<I_ r*I_ s:=Int.mul_pos h.den0 h'.den0
 have h1:=A2u h.denlt h'.denlt
 rw[show 24+24=48 from rfl] at h1
 refine ⟨W_ _,by rw[A1n];omega,List.length_pos_iff.2 (by rw[Ne,A9e];omega),?_⟩
 have:(dig (I_ r*I_ s).toNat).length≤48:=A3h (by omega)
 omega
theorem B5y {b:Bool} (h:(S_ r&&S_ s)=b):[r,s].all S_=b:=by rw[← h];simp

end

theorem A3l (v1 v2:Value) (r s:TRat) (b1 b2:List Nat) (w:World) (hx:Agg w v1 r b1) (hy:Agg w v2 s b2) :
  Calls Tryz.prog 88 #[v1,v2] w (X_ w (A1c r s)):=by
 have HX:=A_ hx;have HY:=A_ hy
 obtain ⟨A1,n1,c1,s1,A2,n2,c2,s2,rfl,rfl,hs1,hs2⟩:=TRat.agg hx
 obtain ⟨A3,n3,c3,s3,A4,n4,c4,s4,rfl,rfl,hs3,hs4⟩:=TRat.agg hy
 have H1:=A_ hs1;have H2:=A_ hs2;have H3:=A_ hs3;have H4:=A_ hs4
 clear hs1 hs2 hs3 hs4 hx hy
 cases hok:S_ r&&S_ s
 ·have E:=A_ (show A1c r s=A1j by unfold A1c;rw[hok];rfl)
  have OK:=A_ (B5y hok)
  clear hok
  go_enter Tryz.func88,Tryz.ntmps88
  go_wp2_with fail
  have C:=A1r (some ⟨w.heap.size+1+1+1,0,none⟩) 2 2 [r,s] _ ((((w.alloc (.cells #[.bool r.num.neg,.slice A1 n1 c1,.slice A2 n2 c2] 35)).alloc (.cells #[.bool s.num.neg,.slice A3 n3 c3,.slice A4 n4 c4] 35)).alloc (.cells #[.bool false,.slice none 0 0,.slice none 0 0] 35)).alloc (.cells #[.bool r.num.neg,.slice A1 n1 c1,.slice A2 n2 c2,.bool s.num.neg,.slice A3 n3 c3,.slice A4 n4 c4] 35)) (A7v (Agg.below HX.o Below.go) (Agg.below HY.o Below.go) (by simp) (by go_simp) (by go_simp) (by go_simp) (by go_simp) (by go_simp) (by go_simp))
  rw[OK.o] at C
  refine C.mono ?_
  clear C
  rintro _ w1 ⟨rfl,hb1⟩
  obtain ⟨hc_w1,hf_w1⟩:=C_ hb1
  have hz0_w1:w.heap.size<w1.heap.size:=N_ hb1
  have hz1_w1:w.heap.size+1<w1.heap.size:=N_ hb1
  have hz2_w1:w.heap.size+1+1<w1.heap.size:=N_ hb1
  have hz3_w1:w.heap.size+1+1+1<w1.heap.size:=N_ hb1
  go_wp2
  refine bodyPost_ret (v:=.agg #[.bool false,.slice none 0 0,.slice none 0 0]) (by simp[results,Tryz.results88,go_sem, *]) rfl ?_
  rw[E.o]
  exact A1w Below.go
 have E:=A_ (show A1c r s=mkR (L_ r*L_ s) (I_ r*I_ s) by unfold A1c;rw[hok];rfl)
 have OK:=A_ (B5y hok)
 rw[Bool.and_eq_true] at hok
 have VR:=A_ (ratOkB_iff.1 hok.1);have VS:=A_ (ratOkB_iff.1 hok.2)
 have Vr:=VR;have Vs:=VS
 clear hok
 by_cases hsm:A1t r=true∧A1t s=true
 ·obtain ⟨sr,ss⟩:=hsm
  have lr:=VR.o.lim sr
  have ls:=VS.o.lim ss
  have Sr:=A_ sr;have Ss:=A_ ss
  clear sr ss
  obtain ⟨a,ea⟩:∃ a,L_ r=a:=⟨_,rfl⟩
  obtain ⟨b,eb⟩:∃ b,I_ r=b:=⟨_,rfl⟩
  obtain ⟨c,ec⟩:∃ c,L_ s=c:=⟨_,rfl⟩
  obtain ⟨d,ed⟩:∃ d,I_ s=d:=⟨_,rfl⟩
  rw[ea,eb,ec,ed] at E
  rw[ea,eb] at lr
  rw[ec,ed] at ls
  have EA:=A_ ea;have EB:=A_ eb;have EC:=A_ ec;have ED:=A_ ed
  clear ea eb ec ed
  obtain ⟨⟨kb0,kb1⟩,ka0,ka1⟩:=lr
  obtain ⟨⟨kd0,kd1⟩,kc0,kc1⟩:=ls
  obtain ⟨p0,p1⟩:=B2f (a:=a) (b:=c) ⟨ka0,ka1⟩ ⟨kc0,kc1⟩
  obtain ⟨_,p3⟩:=B2f (a:=b) (b:=d) ⟨by omega,kb1⟩ ⟨by omega,kd1⟩
  have p2:=Int.mul_pos kb0 kd0
  go_enter Tryz.func88,Tryz.ntmps88
  go_wp2_with fail
  have C:=A1r (some ⟨w.heap.size+1+1+1,0,none⟩) 2 2 [r,s] _ ((((w.alloc (.cells #[.bool r.num.neg,.slice A1 n1 c1,.slice A2 n2 c2] 35)).alloc (.cells #[.bool s.num.neg,.slice A3 n3 c3,.slice A4 n4 c4] 35)).alloc (.cells #[.bool false,.slice none 0 0,.slice none 0 0] 35)).alloc (.cells #[.bool r.num.neg,.slice A1 n1 c1,.slice A2 n2 c2,.bool s.num.neg,.slice A3 n3 c3,.slice A4 n4 c4] 35)) (A7v (Agg.below HX.o Below.go) (Agg.below HY.o Below.go) (by simp) (by go_simp) (by go_simp) (by go_simp) (by go_simp) (by go_simp) (by go_simp))
  rw[OK.o] at C
  refine C.mono ?_
  clear C
  rintro _ w1 ⟨rfl,hb1⟩
  obtain ⟨hc_w1,hf_w1⟩:=C_ hb1
  have hz0_w1:w.heap.size<w1.heap.size:=N_ hb1
  have hz1_w1:w.heap.size+1<w1.heap.size:=N_ hb1
  have hz2_w1:w.heap.size+1+1<w1.heap.size:=N_ hb1
  have hz3_w1:w.heap.size+1+1+1<w1.heap.size:=N_ hb1
  go_wp2_with fail
  have C:=A0s _ r _ w1 (Agg.below HX.o Below.go)
  rw[Sr.o] at C
  refine C.mono ?_
  clear C
  rintro _ w2 ⟨rfl,hb2⟩
  obtain ⟨hc_w2,hf_w2⟩:=C_ hb2
  have hz0_w2:w.heap.size<w2.heap.size:=N_ hb2
  have hz1_w2:w.heap.size+1<w2.heap.size:=N_ hb2
  have hz2_w2:w.heap.size+1+1<w2.heap.size:=N_ hb2
  have hz3_w2:w.heap.size+1+1+1<w2.heap.size:=N_ hb2
  go_wp2_with fail
  have C:=A0s _ s _ w2 (Agg.below HY.o Below.go)
  rw[Ss.o] at C
  refine C.mono ?_
  clear C
  rintro _ w3 ⟨rfl,hb3⟩
  obtain ⟨hc_w3,hf_w3⟩:=C_ hb3
  have hz0_w3:w.heap.size<w3.heap.size:=N_ hb3
  have hz1_w3:w.heap.size+1<w3.heap.size:=N_ hb3
  have hz2_w3:w.heap.size+1+1<w3.heap.size:=N_ hb3
  have hz3_w3:w.heap.size+1+1+1<w3.heap.size:=N_ hb3
  go_wp2_with fail
  have C:=A4f _ r _ w3 (Agg.below HX.o Below.go) Sr.o Vr.o.mag.1 (A8n Vr.o.num)
  rw[EA.o,EB.o] at C
  refine C.mono ?_
  clear C
  rintro _ w4 ⟨rfl,hb4⟩
  obtain ⟨hc_w4,hf_w4⟩:=C_ hb4
  have hz0_w4:w.heap.size<w4.heap.size:=N_ hb4
  have hz1_w4:w.heap.size+1<w4.heap.size:=N_ hb4
  have hz2_w4:w.heap.size+1+1<w4.heap.size:=N_ hb4
  have hz3_w4:w.heap.size+1+1+1<w4.heap.size:=N_ hb4
  go_wp2_with fail
  have C:=A4f _ s _ w4 (Agg.below HY.o Below.go) Ss.o Vs.o.mag.1 (A8n Vs.o.num)
  rw[EC.o,ED.o] at C
  refine C.mono ?_
  clear C
  rintro _ w5 ⟨rfl,hb5⟩
  obtain ⟨hc_w5,hf_w5⟩:=C_ hb5
  have hz0_w5:w.heap.size<w5.heap.size:=N_ hb5
  have hz1_w5:w.heap.size+1<w5.heap.size:=N_ hb5
  have hz2_w5:w.heap.size+1+1<w5.heap.size:=N_ hb5
  have hz3_w5:w.heap.size+1+1+1<w5.heap.size:=N_ hb5
  go_wp2_with fail
  refine (B6b (a*c) (b*d) w5 p2 (by omega) (by omega) (by omega)).mono ?_
  rintro _ w6 ⟨v,bs,rfl,ha,ho,hb⟩
  obtain ⟨B1,m1,d1,t1,B2,m2,d2,t2,rfl,hz,hs1,hs2⟩:=TRat.agg ha
  have HA:=A_ ha;have HO:=A_ ho
  clear hz hs1 hs2 ha ho
  obtain ⟨hc_w6,hf_w6⟩:=C_ hb
  have hz0_w6:w.heap.size<w6.heap.size:=N_ hb
  have hz1_w6:w.heap.size+1<w6.heap.size:=N_ hb
  have hz2_w6:w.heap.size+1+1<w6.heap.size:=N_ hb
  have hz3_w6:w.heap.size+1+1+1<w6.heap.size:=N_ hb
  go_wp2
  refine bodyPost_ret (v:=.agg #[.bool (mkR (a*c) (b*d)).num.neg,.slice B1 m1 d1,.slice B2 m2 d2]) (by simp[results,Tryz.results88,go_sem, *]) rfl ?_
  rw[E.o]
  refine A0o (lo:=w.heap.size+4) HA.o HO.o.free (fun b hb=>by have:=(HO.o.2 b hb).1;(try simp at this);omega) (by omega) ?_ ?_
  ·exact Above.go
  exact Below.go
 have DD:=A_ (VR.o.denD VS.o)
 have LT:=A_ (show (Q_ (L_ r*L_ s)).mag.length≤65536 from Nat.le_trans (A4b (A2u VR.o.numlt VS.o.numlt)) (by decide))
 by_cases hsh:Int.gcd (G_ (Q_ (L_ r*L_ s)).mag) (G_ (dig (I_ r*I_ s).toNat))=1∧(Q_ (L_ r*L_ s)).mag.length≤24∧(dig (I_ r*I_ s).toNat).length≤24
 ·have HS:=A_ hsh
  have MK:=A_ (show mkR (L_ r*L_ s) (I_ r*I_ s)=⟨Q_ (L_ r*L_ s),dig (I_ r*I_ s).toNat⟩ by
   have:=C6h (X:=Q_ (L_ r*L_ s)) (A0y _) (A6j _) DD.o.can (by rw[DD.o.v];exact Int.mul_pos VR.o.den0 VS.o.den0) hsh.1 hsh.2.1 hsh.2.2
   rwa [A1m,DD.o.v] at this)
  clear hsh
  cases hsr:A1t r
  ·have Sr:=A_ hsr
   clear hsr hsm
   go_enter Tryz.func88,Tryz.ntmps88
   go_wp2_with fail
   have C:=A1r (some ⟨w.heap.size+1+1+1,0,none⟩) 2 2 [r,s] _ ((((w.alloc (.cells #[.bool r.num.neg,.slice A1 n1 c1,.slice A2 n2 c2] 35)).alloc (.cells #[.bool s.num.neg,.slice A3 n3 c3,.slice A4 n4 c4] 35)).alloc (.cells #[.bool false,.slice none 0 0,.slice none 0 0] 35)).alloc (.cells #[.bool r.num.neg,.slice A1 n1 c1,.slice A2 n2 c2,.bool s.num.neg,.slice A3 n3 c3,.slice A4 n4 c4] 35)) (A7v (Agg.below HX.o Below.go) (Agg.below HY.o Below.go) (by simp) (by go_simp) (by go_simp) (by go_simp) (by go_simp) (by go_simp) (by go_simp))
   rw[OK.o] at C
   refine C.mono ?_
   clear C
   rintro _ w1 ⟨rfl,hb1⟩
   obtain ⟨hc_w1,hf_w1⟩:=C_ hb1
   have hz0_w1:w.heap.size<w1.heap.size:=N_ hb1
   have hz1_w1:w.heap.size+1<w1.heap.size:=N_ hb1
   have hz2_w1:w.heap.size+1+1<w1.heap.size:=N_ hb1
   have hz3_w1:w.heap.size+1+1+1<w1.heap.size:=N_ hb1
   go_wp2_with fail
   have C:=A0s _ r _ w1 (Agg.below HX.o Below.go)
   rw[Sr.o] at C
   refine C.mono ?_
   clear C
   rintro _ w2 ⟨rfl,hb2⟩
   obtain ⟨hc_w2,hf_w2⟩:=C_ hb2
   have hz0_w2:w.heap.size<w2.heap.size:=N_ hb2
   have hz1_w2:w.heap.size+1<w2.heap.size:=N_ hb2
   have hz2_w2:w.heap.size+1+1<w2.heap.size:=N_ hb2
   have hz3_w2:w.heap.size+1+1+1<w2.heap.size:=N_ hb2
   go_wp2_with fail
   refine Z_ (by simp) ?_
   dsimp only [List.dropLast,List.getLast,List.length]
   iterate 4
    refine D_ _ ?_
   refine F_ (MP.agg (Q_ (L_ r*L_ s))) ?_ ?_
   ·intro yq zq wq hC hd
    obtain ⟨hcq,hfq⟩:=C_ hC
    simp at hd
    refine H_ ?_
    exact K_ (A2l _ _ r.num s.num _ _ wq (TBigInt.mkAgg (Sl.below H1.o Below.go)) (TBigInt.mkAgg (Sl.below H3.o Below.go)) VR.o.mag.1 VS.o.mag.1 (Nat.le_trans VR.o.num24 (by decide)) (Nat.le_trans VS.o.num24 (by decide)))
   iterate 4
    refine D_ _ ?_
   refine F_ (MP.sl (dig (I_ r*I_ s).toNat)) ?_ ?_
   ·intro yq zq wq hC hd
    obtain ⟨hcq,hfq⟩:=C_ hC
    simp at hd
    refine H_ ?_
    exact A0q (A3w A2 A4 n2 n4 c2 c4 r.den s.den _ _ wq (Sl.below H2.o Below.go) (Sl.below H4.o Below.go) VR.o.den.1 VS.o.den.1 (by rw[← H2.o.1];exact Nat.le_trans VR.o.den24 (by decide)) (by rw[← H4.o.1];exact Nat.le_trans VS.o.den24 (by decide)))
   refine A2a (fun y'=>MP.eq (.agg ((y' 4).cells++#[y' 9]))) (by intro y y' h;simp[P_,M_] at h;simp[h]) ?_ ?_
   ·intro yq zq wq hC hd
    obtain ⟨hcq,hfq⟩:=C_ hC
    simp at hd
    refine H_ ?_
    obtain ⟨⟨ha,_⟩,⟨A',n',c',e9,hs2⟩,_⟩:=hd
    obtain ⟨B,m,d,t,e4,_,hs⟩:=TBigInt.agg ha
    rw[e4,e9]
    have hl:=hs2.1
    exact A0t (A7o hs hs2 (A0y _) DD.o.can (by rw[← hl];exact DD.o.pos) LT.o (by rw[← hl];exact DD.o.le) HS.o.1 HS.o.2.1 (by rw[← hl];exact HS.o.2.2))
   intro yq zq wa hC hd (hdis:Hid _)
   simp at hd
   have q4:=hd.2.2.2.2.1
   have q9:=hd.2.2.2.2.2.2.2.2.2.1
   have q10:=hd.2.2.2.2.2.2.2.2.2.2
   obtain ⟨⟨ha4,hf1⟩,hr1⟩:=q4
   obtain ⟨B1,m1,d1,t1,e4,hz4,hs1⟩:=TBigInt.agg ha4
   obtain ⟨⟨⟨B2,m2,d2,e9,hs2⟩,hf2⟩,hr2⟩:=q9
   have e10:yq 10=.agg #[.bool (Q_ (L_ r*L_ s)).neg,.slice B1 m1 d1,.slice B2 m2 d2]:=by rw[q10.1.1,e4,e9];rfl
   have HDIS:=A_ (hdis.o 4 9 (by decide) (by decide) (by decide))
   rw[hz4] at HDIS hf1 hr1
   have HS1:=A_ hs1;have HF1:=A_ hf1;have HR1:=A_ hr1
   have HS2:=A_ hs2;have HF2:=A_ hf2;have HR2:=A_ hr2
   clear hd hdis q10 hs1 hf1 hr1 hs2 hf2 hr2 ha4 hz4
   obtain ⟨hc_wa,hf_wa⟩:=C_ hC
   have hz0_wa:w.heap.size<wa.heap.size:=N_ hC
   have hz1_wa:w.heap.size+1<wa.heap.size:=N_ hC
   have hz2_wa:w.heap.size+1+1<wa.heap.size:=N_ hC
   have hz3_wa:w.heap.size+1+1+1<wa.heap.size:=N_ hC
   go_wp2
   refine bodyPost_ret (v:=.agg #[.bool (Q_ (L_ r*L_ s)).neg,.slice B1 m1 d1,.slice B2 m2 d2]) (by simp[results,Tryz.results88,go_sem, *]) rfl ?_
   rw[E.o,MK.o]
   have f1:=fun (W:World) (ha:Above (w.heap.size+4) wa W)=>A2c (w:=w) HS1.o HF1.o (fun b hb=>by have:=(HR1.o b hb).1;omega) (by omega) ha
   have f2:=fun (W:World) (ha:Above (w.heap.size+4) wa W)=>A2c (w:=w) HS2.o HF2.o (fun b hb=>by have:=(HR2.o b hb).1;omega) (by omega) ha
   refine A5m (x:=⟨Q_ (L_ r*L_ s),dig (I_ r*I_ s).toNat⟩) (f1 _ ?_) (f2 _ ?_) HDIS.o ?_
   ·exact Above.go
   ·exact Above.go
   exact Below.go
  have Ss:=A_ (show A1t s=false by cases h:A1t s;rfl;exact absurd ⟨hsr,h⟩ hsm)
  have Sr:=A_ hsr
  clear hsr hsm
  go_enter Tryz.func88,Tryz.ntmps88
  go_wp2_with fail
  have C:=A1r (some ⟨w.heap.size+1+1+1,0,none⟩) 2 2 [r,s] _ ((((w.alloc (.cells #[.bool r.num.neg,.slice A1 n1 c1,.slice A2 n2 c2] 35)).alloc (.cells #[.bool s.num.neg,.slice A3 n3 c3,.slice A4 n4 c4] 35)).alloc (.cells #[.bool false,.slice none 0 0,.slice none 0 0] 35)).alloc (.cells #[.bool r.num.neg,.slice A1 n1 c1,.slice A2 n2 c2,.bool s.num.neg,.slice A3 n3 c3,.slice A4 n4 c4] 35)) (A7v (Agg.below HX.o Below.go) (Agg.below HY.o Below.go) (by simp) (by go_simp) (by go_simp) (by go_simp) (by go_simp) (by go_simp) (by go_simp))
  rw[OK.o] at C
  refine C.mono ?_
  clear C
  rintro _ w1 ⟨rfl,hb1⟩
  obtain ⟨hc_w1,hf_w1⟩:=C_ hb1
  have hz0_w1:w.heap.size<w1.heap.size:=N_ hb1
  have hz1_w1:w.heap.size+1<w1.heap.size:=N_ hb1
  have hz2_w1:w.heap.size+1+1<w1.heap.size:=N_ hb1
  have hz3_w1:w.heap.size+1+1+1<w1.heap.size:=N_ hb1
  go_wp2_with fail
  have C:=A0s _ r _ w1 (Agg.below HX.o Below.go)
  rw[Sr.o] at C
  refine C.mono ?_
  clear C
  rintro _ w2 ⟨rfl,hb2⟩
  obtain ⟨hc_w2,hf_w2⟩:=C_ hb2
  have hz0_w2:w.heap.size<w2.heap.size:=N_ hb2
  have hz1_w2:w.heap.size+1<w2.heap.size:=N_ hb2
  have hz2_w2:w.heap.size+1+1<w2.heap.size:=N_ hb2
  have hz3_w2:w.heap.size+1+1+1<w2.heap.size:=N_ hb2
  go_wp2_with fail
  have C:=A0s _ s _ w2 (Agg.below HY.o Below.go)
  rw[Ss.o] at C
  refine C.mono ?_
  clear C
  rintro _ w3 ⟨rfl,hb3⟩
  obtain ⟨hc_w3,hf_w3⟩:=C_ hb3
  have hz0_w3:w.heap.size<w3.heap.size:=N_ hb3
  have hz1_w3:w.heap.size+1<w3.heap.size:=N_ hb3
  have hz2_w3:w.heap.size+1+1<w3.heap.size:=N_ hb3
  have hz3_w3:w.heap.size+1+1+1<w3.heap.size:=N_ hb3
  go_wp2_with fail
  refine Z_ (by simp) ?_
  dsimp only [List.dropLast,List.getLast,List.length]
  iterate 4
   refine D_ _ ?_
  refine F_ (MP.agg (Q_ (L_ r*L_ s))) ?_ ?_
  ·intro yq zq wq hC hd
   obtain ⟨hcq,hfq⟩:=C_ hC
   simp at hd
   refine H_ ?_
   exact K_ (A2l _ _ r.num s.num _ _ wq (TBigInt.mkAgg (Sl.below H1.o Below.go)) (TBigInt.mkAgg (Sl.below H3.o Below.go)) VR.o.mag.1 VS.o.mag.1 (Nat.le_trans VR.o.num24 (by decide)) (Nat.le_trans VS.o.num24 (by decide)))
  iterate 4
   refine D_ _ ?_
  refine F_ (MP.sl (dig (I_ r*I_ s).toNat)) ?_ ?_
  ·intro yq zq wq hC hd
   obtain ⟨hcq,hfq⟩:=C_ hC
   simp at hd
   refine H_ ?_
   exact A0q (A3w A2 A4 n2 n4 c2 c4 r.den s.den _ _ wq (Sl.below H2.o Below.go) (Sl.below H4.o Below.go) VR.o.den.1 VS.o.den.1 (by rw[← H2.o.1];exact Nat.le_trans VR.o.den24 (by decide)) (by rw[← H4.o.1];exact Nat.le_trans VS.o.den24 (by decide)))
  refine A2a (fun y'=>MP.eq (.agg ((y' 4).cells++#[y' 9]))) (by intro y y' h;simp[P_,M_] at h;simp[h]) ?_ ?_
  ·intro yq zq wq hC hd
   obtain ⟨hcq,hfq⟩:=C_ hC
   simp at hd
   refine H_ ?_
   obtain ⟨⟨ha,_⟩,⟨A',n',c',e9,hs2⟩,_⟩:=hd
   obtain ⟨B,m,d,t,e4,_,hs⟩:=TBigInt.agg ha
   rw[e4,e9]
   have hl:=hs2.1
   exact A0t (A7o hs hs2 (A0y _) DD.o.can (by rw[← hl];exact DD.o.pos) LT.o (by rw[← hl];exact DD.o.le) HS.o.1 HS.o.2.1 (by rw[← hl];exact HS.o.2.2))
  intro yq zq wa hC hd (hdis:Hid _)
  simp at hd
  have q4:=hd.2.2.2.2.1
  have q9:=hd.2.2.2.2.2.2.2.2.2.1
  have q10:=hd.2.2.2.2.2.2.2.2.2.2
  obtain ⟨⟨ha4,hf1⟩,hr1⟩:=q4
  obtain ⟨B1,m1,d1,t1,e4,hz4,hs1⟩:=TBigInt.agg ha4
  obtain ⟨⟨⟨B2,m2,d2,e9,hs2⟩,hf2⟩,hr2⟩:=q9
  have e10:yq 10=.agg #[.bool (Q_ (L_ r*L_ s)).neg,.slice B1 m1 d1,.slice B2 m2 d2]:=by rw[q10.1.1,e4,e9];rfl
  have HDIS:=A_ (hdis.o 4 9 (by decide) (by decide) (by decide))
  rw[hz4] at HDIS hf1 hr1
  have HS1:=A_ hs1;have HF1:=A_ hf1;have HR1:=A_ hr1
  have HS2:=A_ hs2;have HF2:=A_ hf2;have HR2:=A_ hr2
  clear hd hdis q10 hs1 hf1 hr1 hs2 hf2 hr2 ha4 hz4
  obtain ⟨hc_wa,hf_wa⟩:=C_ hC
  have hz0_wa:w.heap.size<wa.heap.size:=N_ hC
  have hz1_wa:w.heap.size+1<wa.heap.size:=N_ hC
  have hz2_wa:w.heap.size+1+1<wa.heap.size:=N_ hC
  have hz3_wa:w.heap.size+1+1+1<wa.heap.size:=N_ hC
  go_wp2
  refine bodyPost_ret (v:=.agg #[.bool (Q_ (L_ r*L_ s)).neg,.slice B1 m1 d1,.slice B2 m2 d2]) (by simp[results,Tryz.results88,go_sem, *]) rfl ?_
  rw[E.o,MK.o]
  have f1:=fun (W:World) (ha:Above (w.heap.size+4) wa W)=>A2c (w:=w) HS1.o HF1.o (fun b hb=>by have:=(HR1.o b hb).1;omega) (by omega) ha
  have f2:=fun (W:World) (ha:Above (w.heap.size+4) wa W)=>A2c (w:=w) HS2.o HF2.o (fun b hb=>by have:=(HR2.o b hb).1;omega) (by omega) ha
  refine A5m (x:=⟨Q_ (L_ r*L_ s),dig (I_ r*I_ s).toNat⟩) (f1 _ ?_) (f2 _ ?_) HDIS.o ?_
  ·exact Above.go
  ·exact Above.go
  exact Below.go
 have HS:=A_ hsh
 clear hsh
 cases hsr:A1t r
 ·have Sr:=A_ hsr
  clear hsr hsm
  go_enter Tryz.func88,Tryz.ntmps88
  go_wp2_with fail
  have C:=A1r (some ⟨w.heap.size+1+1+1,0,none⟩) 2 2 [r,s] _ ((((w.alloc (.cells #[.bool r.num.neg,.slice A1 n1 c1,.slice A2 n2 c2] 35)).alloc (.cells #[.bool s.num.neg,.slice A3 n3 c3,.slice A4 n4 c4] 35)).alloc (.cells #[.bool false,.slice none 0 0,.slice none 0 0] 35)).alloc (.cells #[.bool r.num.neg,.slice A1 n1 c1,.slice A2 n2 c2,.bool s.num.neg,.slice A3 n3 c3,.slice A4 n4 c4] 35)) (A7v (Agg.below HX.o Below.go) (Agg.below HY.o Below.go) (by simp) (by go_simp) (by go_simp) (by go_simp) (by go_simp) (by go_simp) (by go_simp))
  rw[OK.o] at C
  refine C.mono ?_
  clear C
  rintro _ w1 ⟨rfl,hb1⟩
  obtain ⟨hc_w1,hf_w1⟩:=C_ hb1
  have hz0_w1:w.heap.size<w1.heap.size:=N_ hb1
  have hz1_w1:w.heap.size+1<w1.heap.size:=N_ hb1
  have hz2_w1:w.heap.size+1+1<w1.heap.size:=N_ hb1
  have hz3_w1:w.heap.size+1+1+1<w1.heap.size:=N_ hb1
  go_wp2_with fail
  have C:=A0s _ r _ w1 (Agg.below HX.o Below.go)
  rw[Sr.o] at C
  refine C.mono ?_
  clear C
  rintro _ w2 ⟨rfl,hb2⟩
  obtain ⟨hc_w2,hf_w2⟩:=C_ hb2
  have hz0_w2:w.heap.size<w2.heap.size:=N_ hb2
  have hz1_w2:w.heap.size+1<w2.heap.size:=N_ hb2
  have hz2_w2:w.heap.size+1+1<w2.heap.size:=N_ hb2
  have hz3_w2:w.heap.size+1+1+1<w2.heap.size:=N_ hb2
  go_wp2_with fail
  refine Z_ (by simp) ?_
  dsimp only [List.dropLast,List.getLast,List.length]
  iterate 4
   refine D_ _ ?_
  refine F_ (MP.agg (Q_ (L_ r*L_ s))) ?_ ?_
  ·intro yq zq wq hC hd
   obtain ⟨hcq,hfq⟩:=C_ hC
   simp at hd
   refine H_ ?_
   exact K_ (A2l _ _ r.num s.num _ _ wq (TBigInt.mkAgg (Sl.below H1.o Below.go)) (TBigInt.mkAgg (Sl.below H3.o Below.go)) VR.o.mag.1 VS.o.mag.1 (Nat.le_trans VR.o.num24 (by decide)) (Nat.le_trans VS.o.num24 (by decide)))
  iterate 4
   refine D_ _ ?_
  refine F_ (MP.sl (dig (I_ r*I_ s).toNat)) ?_ ?_
  ·intro yq zq wq hC hd
   obtain ⟨hcq,hfq⟩:=C_ hC
   simp at hd
   refine H_ ?_
   exact A0q (A3w A2 A4 n2 n4 c2 c4 r.den s.den _ _ wq (Sl.below H2.o Below.go) (Sl.below H4.o Below.go) VR.o.den.1 VS.o.den.1 (by rw[← H2.o.1];exact Nat.le_trans VR.o.den24 (by decide)) (by rw[← H4.o.1];exact Nat.le_trans VS.o.den24 (by decide)))
  refine F_ (MP.agg (mkR (L_ r*L_ s) (I_ r*I_ s))) ?_ ?_
  ·intro yq zq wq hC hd
   obtain ⟨hcq,hfq⟩:=C_ hC
   simp at hd
   refine H_ ?_
   obtain ⟨⟨ha,_⟩,⟨A',n',c',e9,hs2⟩,_⟩:=hd
   rw[e9]
   have hl:=hs2.1
   have C:=B4e ha hs2 (A0y _) DD.o.can (by rw[← hl];exact DD.o.pos) LT.o (by rw[← hl];exact DD.o.le) (A6j _) (by rw[← hl];exact HS.o)
   rw[A1m,DD.o.v] at C
   exact K_ C
  intro yq zq wa hC hd (hdis:Hid _)
  simp at hd
  have q10:=hd.2.2.2.2.2.2.2.2.2.2
  obtain ⟨⟨ha,hf⟩,hr⟩:=q10
  obtain ⟨B1,m1,d1,t1,B2,m2,d2,t2,e10,hz,hs1,hs2⟩:=TRat.agg ha
  have HA:=A_ ha;have HF:=A_ hf;have HR:=A_ hr
  clear hd hdis hz hs1 hs2 ha hf hr
  obtain ⟨hc_wa,hf_wa⟩:=C_ hC
  have hz0_wa:w.heap.size<wa.heap.size:=N_ hC
  have hz1_wa:w.heap.size+1<wa.heap.size:=N_ hC
  have hz2_wa:w.heap.size+1+1<wa.heap.size:=N_ hC
  have hz3_wa:w.heap.size+1+1+1<wa.heap.size:=N_ hC
  go_wp2
  refine bodyPost_ret (v:=.agg #[.bool (mkR (L_ r*L_ s) (I_ r*I_ s)).num.neg,.slice B1 m1 d1,.slice B2 m2 d2]) (by simp[results,Tryz.results88,go_sem, *]) rfl ?_
  rw[E.o]
  rw[e10] at HA
  refine A0o (lo:=w.heap.size+4) HA.o HF.o (fun b hb=>by have:=(HR.o b hb).1;omega) (by omega) ?_ ?_
  ·exact Above.go
  exact Below.go
 have Ss:=A_ (show A1t s=false by cases h:A1t s;rfl;exact absurd ⟨hsr,h⟩ hsm)
 have Sr:=A_ hsr
 clear hsr hsm
 go_enter Tryz.func88,Tryz.ntmps88
 go_wp2_with fail
 have C:=A1r (some ⟨w.heap.size+1+1+1,0,none⟩) 2 2 [r,s] _ ((((w.alloc (.cells #[.bool r.num.neg,.slice A1 n1 c1,.slice A2 n2 c2] 35)).alloc (.cells #[.bool s.num.neg,.slice A3 n3 c3,.slice A4 n4 c4] 35)).alloc (.cells #[.bool false,.slice none 0 0,.slice none 0 0] 35)).alloc (.cells #[.bool r.num.neg,.slice A1 n1 c1,.slice A2 n2 c2,.bool s.num.neg,.slice A3 n3 c3,.slice A4 n4 c4] 35)) (A7v (Agg.below HX.o Below.go) (Agg.below HY.o Below.go) (by simp) (by go_simp) (by go_simp) (by go_simp) (by go_simp) (by go_simp) (by go_simp))
 rw[OK.o] at C
 refine C.mono ?_
 clear C
 rintro _ w1 ⟨rfl,hb1⟩
 obtain ⟨hc_w1,hf_w1⟩:=C_ hb1
 have hz0_w1:w.heap.size<w1.heap.size:=N_ hb1
 have hz1_w1:w.heap.size+1<w1.heap.size:=N_ hb1
 have hz2_w1:w.heap.size+1+1<w1.heap.size:=N_ hb1
 have hz3_w1:w.heap.size+1+1+1<w1.heap.size:=N_ hb1
 go_wp2_with fail
 have C:=A0s _ r _ w1 (Agg.below HX.o Below.go)
 rw[Sr.o] at C
 refine C.mono ?_
 clear C
 rintro _ w2 ⟨rfl,hb2⟩
 obtain ⟨hc_w2,hf_w2⟩:=C_ hb2
 have hz0_w2:w.heap.size<w2.heap.size:=N_ hb2
 have hz1_w2:w.heap.size+1<w2.heap.size:=N_ hb2
 have hz2_w2:w.heap.size+1+1<w2.heap.size:=N_ hb2
 have hz3_w2:w.heap.size+1+1+1<w2.heap.size:=N_ hb2
 go_wp2_with fail
 have C:=A0s _ s _ w2 (Agg.below HY.o Below.go)
 rw[Ss.o] at C
 refine C.mono ?_
 clear C
 rintro _ w3 ⟨rfl,hb3⟩
 obtain ⟨hc_w3,hf_w3⟩:=C_ hb3
 have hz0_w3:w.heap.size<w3.heap.size:=N_ hb3
 have hz1_w3:w.heap.size+1<w3.heap.size:=N_ hb3
 have hz2_w3:w.heap.size+1+1<w3.heap.size:=N_ hb3
 have hz3_w3:w.heap.size+1+1+1<w3.heap.size:=N_ hb3
 go_wp2_with fail
 refine Z_ (by simp) ?_
 dsimp only [List.dropLast,List.getLast,List.length]
 iterate 4
  refine D_ _ ?_
 refine F_ (MP.agg (Q_ (L_ r*L_ s))) ?_ ?_
 ·intro yq zq wq hC hd
  obtain ⟨hcq,hfq⟩:=C_ hC
  simp at hd
  refine H_ ?_
  exact K_ (A2l _ _ r.num s.num _ _ wq (TBigInt.mkAgg (Sl.below H1.o Below.go)) (TBigInt.mkAgg (Sl.below H3.o Below.go)) VR.o.mag.1 VS.o.mag.1 (Nat.le_trans VR.o.num24 (by decide)) (Nat.le_trans VS.o.num24 (by decide)))
 iterate 4
  refine D_ _ ?_
 refine F_ (MP.sl (dig (I_ r*I_ s).toNat)) ?_ ?_
 ·intro yq zq wq hC hd
  obtain ⟨hcq,hfq⟩:=C_ hC
  simp at hd
  refine H_ ?_
  exact A0q (A3w A2 A4 n2 n4 c2 c4 r.den s.den _ _ wq (Sl.below H2.o Below.go) (Sl.below H4.o Below.go) VR.o.den.1 VS.o.den.1 (by rw[← H2.o.1];exact Nat.le_trans VR.o.den24 (by decide)) (by rw[← H4.o.1];exact Nat.le_trans VS.o.den24 (by decide)))
 refine F_ (MP.agg (mkR (L_ r*L_ s) (I_ r*I_ s))) ?_ ?_
 ·intro yq zq wq hC hd
  obtain ⟨hcq,hfq⟩:=C_ hC
  simp at hd
  refine H_ ?_
  obtain ⟨⟨ha,_⟩,⟨A',n',c',e9,hs2⟩,_⟩:=hd
  rw[e9]
  have hl:=hs2.1
  have C:=B4e ha hs2 (A0y _) DD.o.can (by rw[← hl];exact DD.o.pos) LT.o (by rw[← hl];exact DD.o.le) (A6j _) (by rw[← hl];exact HS.o)
  rw[A1m,DD.o.v] at C
  exact K_ C
 intro yq zq wa hC hd (hdis:Hid _)
 simp at hd
 have q10:=hd.2.2.2.2.2.2.2.2.2.2
 obtain ⟨⟨ha,hf⟩,hr⟩:=q10
 obtain ⟨B1,m1,d1,t1,B2,m2,d2,t2,e10,hz,hs1,hs2⟩:=TRat.agg ha
 have HA:=A_ ha;have HF:=A_ hf;have HR:=A_ hr
 clear hd hdis hz hs1 hs2 ha hf hr
 obtain ⟨hc_wa,hf_wa⟩:=C_ hC
 have hz0_wa:w.heap.size<wa.heap.size:=N_ hC
 have hz1_wa:w.heap.size+1<wa.heap.size:=N_ hC
 have hz2_wa:w.heap.size+1+1<wa.heap.size:=N_ hC
 have hz3_wa:w.heap.size+1+1+1<wa.heap.size:=N_ hC
 go_wp2
 refine bodyPost_ret (v:=.agg #[.bool (mkR (L_ r*L_ s) (I_ r*I_ s)).num.neg,.slice B1 m1 d1,.slice B2 m2 d2]) (by simp[results,Tryz.results88,go_sem, *]) rfl ?_
 rw[E.o]
 rw[e10] at HA
 refine A0o (lo:=w.heap.size+4) HA.o HF.o (fun b hb=>by have:=(HR.o b hb).1;omega) (by omega) ?_ ?_
 ·exact Above.go
 exact Below.go
end Go.Proofs.YtbhemnidcleaiaaGreat.X
namespace Go.Proofs.YtbhemnidcleaiaaGreat.X
open Go.RowKit Go.XB Go.XN
attribute [local go_sem] O_ opAt P_ M_ Region.wanted yielded
attribute [local simp] P_ M_ MP.eq MP.agg MP.sl MP.sgd MP.box A0e

def _root_.Go.XB.MP.aggS {α:Type} [Dat α] (x:α):MP:=⟨fun v bs w=>bs=[]∧∃ s,Agg w v x s,fun _ _ _ _ hb h=>⟨h.1,by obtain ⟨s,hs⟩:=h.2;exact ⟨s,hs.below hb⟩⟩⟩
def C6a {α:Type} [Dat α] (w:World) (x:α) (e:Ending) (w':World):Prop:=∃ v s,e=.returned v∧Agg w' v x s∧Below w.heap.size w w'
theorem B3g {α:Type} [Dat α] {P:Program} {f:FuncId} {args:Array Value} {w:World} {x:α} (h:Calls P f args w (C6a w x)) :
  Calls P f args w fun e w'=>∃ u,e=.returned u∧Below w.heap.size w w'∧∃ bs,(MP.aggS x).p u bs w'∧∀ b∈bs,w.heap.size≤b∧b<w'.heap.size :=
 h.mono fun _ _ ⟨v,s,he,ha,hb⟩=>⟨v,he,hb,[],⟨rfl,s,ha⟩,fun b hb=>by simp at hb⟩
attribute [local simp] MP.aggS

theorem A9p {r:TRat} {W:World} {A:Option Addr} {n c:Nat} {b:List Nat} (h:Sl W A n c r.den b):Agg W (.agg #[.bool false,.slice A n c]) (⟨false,r.den⟩:TBigInt) b∧A0f ⟨false,r.den⟩=I_ r :=
 ⟨TBigInt.mkAgg (x:=⟨false,r.den⟩) h,by unfold A0f I_;simp⟩

theorem C7e {x:TBigInt} (h:A1x x=true):Q_ (-A0f x)=⟨!x.neg&&!x.mag.isEmpty,x.mag⟩:=by
 have hc:=(bigOkB_iff.1 h).1.2
 have:=B8r (neg:=!x.neg) hc (v:=-A0f x) (by unfold A0f;cases x.neg<;>simp)
 exact this.symm
theorem C0f (v:Value) (x:TRat) (b:List Nat) (w:World) (hx:Agg w v x b) (ok:A1x x.num=true) :
  Calls Tryz.prog 30 #[v] w (C6a w (⟨Q_ (-L_ x),x.den⟩:TRat)):=by
 obtain ⟨A1,n1,c1,s1,A2,n2,c2,s2,rfl,rfl,hs1,hs2⟩:=TRat.agg hx
 have H1:=A_ hs1;have H2:=A_ hs2
 have E:=A_ (show Q_ (-L_ x)=⟨!x.num.neg&&decide (0<n1),x.num.mag⟩ by
  unfold L_;rw[C7e ok,← hs1.1];cases x.num.mag<;>simp)
 clear hs1 hs2 hx
 go_enter Tryz.func30,Tryz.ntmps30
 go_wp2_with fail
 refine Z_ (by simp) ?_
 dsimp only [List.dropLast,List.getLast,List.length]
 iterate 7
  refine D_ _ ?_
 refine F_ (MP.eq (.agg #[.bool (!x.num.neg&&decide (0<n1)),.slice A1 n1 c1])) ?_ ?_
 ·intro yq zq wq hC hd
  obtain ⟨hcq,hfq⟩:=C_ hC
  simp at hd
  refine H_ ?_
  exact A0t (A3x (!x.num.neg) A1 n1 c1 wq)
 iterate 3
  refine D_ _ ?_
 intro yq zq wa hC hd (hdis:Hid _)
 simp at hd
 go_simp
 clear hd hdis
 obtain ⟨hc_wa,hf_wa⟩:=C_ hC
 have hz0_wa:w.heap.size<wa.heap.size:=N_ hC
 have hz1_wa:w.heap.size+1<wa.heap.size:=N_ hC
 go_wp2
 refine bodyPost_ret (v:=.agg #[.bool (!x.num.neg&&decide (0<n1)),.slice A1 n1 c1,.slice A2 n2 c2]) (by simp[results,Tryz.results30,go_sem, *]) rfl ?_
 refine ⟨_,s1++s2,rfl,?_,Below.go⟩
 rw[E.o]
 exact TRat.mkAgg (x:=⟨⟨!x.num.neg&&decide (0<n1),x.num.mag⟩,x.den⟩) (Sl.below H1.o Below.go) (Sl.below H2.o Below.go)
end Go.Proofs.YtbhemnidcleaiaaGreat.X
namespace Go.Proofs.YtbhemnidcleaiaaGreat.X
open Go.RowKit Go.XB Go.XN
attribute [local go_sem] O_ opAt P_ M_ Region.wanted yielded
attribute [local simp] P_ M_ MP.eq MP.agg MP.sl MP.sgd MP.box MP.aggS A0e

theorem A9j {α:Type} [Dat α] {w:World} {g:Nat} {A:Option Addr} {n c:Nat} {xs:List α} {bs:List Nat} (h:Sl w A n c xs bs) (hf:Free w bs) (hg:∀ b∈bs,b≠g) (u0 u1:Value) :
  Sl ((w.setCell ⟨g,0,none⟩ u0).setCell ⟨g,1,none⟩ u1) A n c xs bs∧Free ((w.setCell ⟨g,0,none⟩ u0).setCell ⟨g,1,none⟩ u1) bs :=
 have hk:∀ b∈bs,((w.setCell ⟨g,0,none⟩ u0).setCell ⟨g,1,none⟩ u1).heap[b]?=w.heap[b]?:=fun b hb =>
  (Below.heap_setCell _ ⟨g,1,none⟩ u1 b (hg b hb)).trans (Below.heap_setCell w ⟨g,0,none⟩ u0 b (hg b hb))
 ⟨h.keep hk,hf.1,fun b hb=>by obtain ⟨cs,t,e⟩:=hf.2 b hb;exact ⟨cs,t,(hk b hb).trans e⟩⟩

theorem C1b (v1 v2:Value) (r s:TRat) (b1 b2:List Nat) (w:World) (hx:Agg w v1 r b1) (hy:Agg w v2 s b2) (vr:RatV r) (vs:RatV s) :
  Calls Tryz.prog 29 #[v1,v2] w (X_ w (mkR (L_ r*I_ s+L_ s*I_ r) (I_ r*I_ s))):=by
 have HX:=A_ hx;have HY:=A_ hy
 obtain ⟨A1,n1,c1,s1,A2,n2,c2,s2,rfl,rfl,hs1,hs2⟩:=TRat.agg hx
 obtain ⟨A3,n3,c3,s3,A4,n4,c4,s4,rfl,rfl,hs3,hs4⟩:=TRat.agg hy
 have H1:=A_ hs1;have H2:=A_ hs2;have H3:=A_ hs3;have H4:=A_ hs4
 have VR:=A_ vr;have VS:=A_ vs
 have Vr:=VR;have Vs:=VS
 clear hs1 hs2 hs3 hs4 hx hy vr vs
 by_cases hsm:A1t r=true∧A1t s=true
 ·obtain ⟨sr,ss⟩:=hsm
  have lr:=VR.o.lim sr
  have ls:=VS.o.lim ss
  have Sr:=A_ sr;have Ss:=A_ ss
  clear sr ss
  obtain ⟨a,ea⟩:∃ a,L_ r=a:=⟨_,rfl⟩
  obtain ⟨b,eb⟩:∃ b,I_ r=b:=⟨_,rfl⟩
  obtain ⟨c,ec⟩:∃ c,L_ s=c:=⟨_,rfl⟩
  obtain ⟨d,ed⟩:∃ d,I_ s=d:=⟨_,rfl⟩
  rw[ea,eb] at lr
  rw[ec,ed] at ls
  have EA:=A_ ea;have EB:=A_ eb;have EC:=A_ ec;have ED:=A_ ed
  have EQ:=A_ (show mkR (L_ r*I_ s+L_ s*I_ r) (I_ r*I_ s)=mkR (a*d+c*b) (b*d) by rw[ea,eb,ec,ed])
  clear ea eb ec ed
  obtain ⟨⟨kb0,kb1⟩,ka0,ka1⟩:=lr
  obtain ⟨⟨kd0,kd1⟩,kc0,kc1⟩:=ls
  obtain ⟨p0,p1⟩:=B2f (a:=a) (b:=d) ⟨ka0,ka1⟩ ⟨by omega,kd1⟩
  obtain ⟨p2,p3⟩:=B2f (a:=c) (b:=b) ⟨kc0,kc1⟩ ⟨by omega,kb1⟩
  obtain ⟨_,p5⟩:=B2f (a:=b) (b:=d) ⟨by omega,kb1⟩ ⟨by omega,kd1⟩
  have p4:=Int.mul_pos kb0 kd0
  go_enter Tryz.func29,Tryz.ntmps29
  go_wp2_with fail
  have C:=A0s _ r _ (((w.alloc (.cells #[.bool r.num.neg,.slice A1 n1 c1,.slice A2 n2 c2] 35)).alloc (.cells #[.bool s.num.neg,.slice A3 n3 c3,.slice A4 n4 c4] 35)).alloc (.cells #[.bool false,.slice none 0 0,.slice none 0 0] 35)) (Agg.below HX.o Below.go)
  rw[Sr.o] at C
  refine C.mono ?_
  clear C
  rintro _ w1 ⟨rfl,hb1⟩
  obtain ⟨hc_w1,hf_w1⟩:=C_ hb1
  have hz0_w1:w.heap.size<w1.heap.size:=N_ hb1
  have hz1_w1:w.heap.size+1<w1.heap.size:=N_ hb1
  have hz2_w1:w.heap.size+1+1<w1.heap.size:=N_ hb1
  go_wp2_with fail
  have C:=A0s _ s _ w1 (Agg.below HY.o Below.go)
  rw[Ss.o] at C
  refine C.mono ?_
  clear C
  rintro _ w2 ⟨rfl,hb2⟩
  obtain ⟨hc_w2,hf_w2⟩:=C_ hb2
  have hz0_w2:w.heap.size<w2.heap.size:=N_ hb2
  have hz1_w2:w.heap.size+1<w2.heap.size:=N_ hb2
  have hz2_w2:w.heap.size+1+1<w2.heap.size:=N_ hb2
  go_wp2_with fail
  have C:=A4f _ r _ w2 (Agg.below HX.o Below.go) Sr.o Vr.o.mag.1 (A8n Vr.o.num)
  rw[EA.o,EB.o] at C
  refine C.mono ?_
  clear C
  rintro _ w3 ⟨rfl,hb3⟩
  obtain ⟨hc_w3,hf_w3⟩:=C_ hb3
  have hz0_w3:w.heap.size<w3.heap.size:=N_ hb3
  have hz1_w3:w.heap.size+1<w3.heap.size:=N_ hb3
  have hz2_w3:w.heap.size+1+1<w3.heap.size:=N_ hb3
  go_wp2_with fail
  have C:=A4f _ s _ w3 (Agg.below HY.o Below.go) Ss.o Vs.o.mag.1 (A8n Vs.o.num)
  rw[EC.o,ED.o] at C
  refine C.mono ?_
  clear C
  rintro _ w4 ⟨rfl,hb4⟩
  obtain ⟨hc_w4,hf_w4⟩:=C_ hb4
  have hz0_w4:w.heap.size<w4.heap.size:=N_ hb4
  have hz1_w4:w.heap.size+1<w4.heap.size:=N_ hb4
  have hz2_w4:w.heap.size+1+1<w4.heap.size:=N_ hb4
  go_wp2_with fail
  refine (B6b (a*d+c*b) (b*d) w4 p4 (by omega) (by omega) (by omega)).mono ?_
  rintro _ w5 ⟨v,bs,rfl,ha,ho,hb⟩
  obtain ⟨B1,m1,d1,t1,B2,m2,d2,t2,rfl,hz,hs1,hs2⟩:=TRat.agg ha
  have HA:=A_ ha;have HO:=A_ ho
  clear hz hs1 hs2 ha ho
  obtain ⟨hc_w5,hf_w5⟩:=C_ hb
  have hz0_w5:w.heap.size<w5.heap.size:=N_ hb
  have hz1_w5:w.heap.size+1<w5.heap.size:=N_ hb
  have hz2_w5:w.heap.size+1+1<w5.heap.size:=N_ hb
  go_wp2
  refine bodyPost_ret (v:=.agg #[.bool (mkR (a*d+c*b) (b*d)).num.neg,.slice B1 m1 d1,.slice B2 m2 d2]) (by simp[results,Tryz.results29,go_sem, *]) rfl ?_
  rw[EQ.o]
  refine A0o (lo:=w.heap.size+3) HA.o HO.o.free (fun b hb=>by have:=(HO.o.2 b hb).1;(try simp at this);omega) (by omega) ?_ ?_
  ·exact Above.go
  exact Below.go
 have DD:=A_ (VR.o.denD VS.o)
 have LT:=A_ (show (Q_ (L_ r*I_ s+L_ s*I_ r)).mag.length≤65536 from Nat.le_trans (A4b (B7d (A2u VR.o.numlt VS.o.denlt) (A2u VS.o.numlt VR.o.denlt))) (by decide))
 by_cases hsh:Int.gcd (G_ (Q_ (L_ r*I_ s+L_ s*I_ r)).mag) (G_ (dig (I_ r*I_ s).toNat))=1∧(Q_ (L_ r*I_ s+L_ s*I_ r)).mag.length≤24∧(dig (I_ r*I_ s).toNat).length≤24
 ·have HS:=A_ hsh
  have MK:=A_ (show mkR (L_ r*I_ s+L_ s*I_ r) (I_ r*I_ s)=⟨Q_ (L_ r*I_ s+L_ s*I_ r),dig (I_ r*I_ s).toNat⟩ by
   have:=C6h (X:=Q_ (L_ r*I_ s+L_ s*I_ r)) (A0y _) (A6j _) DD.o.can (by rw[DD.o.v];exact Int.mul_pos VR.o.den0 VS.o.den0) hsh.1 hsh.2.1 hsh.2.2
   rwa [A1m,DD.o.v] at this)
  clear hsh
  cases hsr:A1t r
  ·have Sr:=A_ hsr
   clear hsr hsm
   go_enter Tryz.func29,Tryz.ntmps29
   go_wp2_with fail
   have C:=A0s _ r _ (((w.alloc (.cells #[.bool r.num.neg,.slice A1 n1 c1,.slice A2 n2 c2] 35)).alloc (.cells #[.bool s.num.neg,.slice A3 n3 c3,.slice A4 n4 c4] 35)).alloc (.cells #[.bool false,.slice none 0 0,.slice none 0 0] 35)) (Agg.below HX.o Below.go)
   rw[Sr.o] at C
   refine C.mono ?_
   clear C
   rintro _ w1 ⟨rfl,hb1⟩
   obtain ⟨hc_w1,hf_w1⟩:=C_ hb1
   have hz0_w1:w.heap.size<w1.heap.size:=N_ hb1
   have hz1_w1:w.heap.size+1<w1.heap.size:=N_ hb1
   have hz2_w1:w.heap.size+1+1<w1.heap.size:=N_ hb1
   go_wp2_with fail
   refine Z_ (by simp) ?_
   dsimp only [List.dropLast,List.getLast,List.length]
   iterate 5
    refine D_ _ ?_
   refine F_ (MP.agg (Q_ (L_ r*I_ s))) ?_ ?_
   ·intro yq zq wq hC hd
    obtain ⟨hcq,hfq⟩:=C_ hC
    simp at hd
    refine H_ ?_
    have D:=A9p (r:=s) (Sl.below H4.o (show Below w.heap.size w wq from Below.go))
    have C:=A2l _ _ r.num ⟨false,s.den⟩ _ _ wq (TBigInt.mkAgg (Sl.below H1.o Below.go)) D.1 VR.o.mag.1 VS.o.den.1 (Nat.le_trans VR.o.num24 (by decide)) (Nat.le_trans VS.o.den24 (by decide))
    rw[D.2] at C
    exact K_ C
   iterate 5
    refine D_ _ ?_
   refine F_ (MP.agg (Q_ (L_ s*I_ r))) ?_ ?_
   ·intro yq zq wq hC hd
    obtain ⟨hcq,hfq⟩:=C_ hC
    simp at hd
    refine H_ ?_
    have D:=A9p (r:=r) (Sl.below H2.o (show Below w.heap.size w wq from Below.go))
    have C:=A2l _ _ s.num ⟨false,r.den⟩ _ _ wq (TBigInt.mkAgg (Sl.below H3.o Below.go)) D.1 VS.o.mag.1 VR.o.den.1 (Nat.le_trans VS.o.num24 (by decide)) (Nat.le_trans VR.o.den24 (by decide))
    rw[D.2] at C
    exact K_ C
   refine F_ (MP.agg (Q_ (L_ r*I_ s+L_ s*I_ r))) ?_ ?_
   ·intro yq zq wq hC hd
    obtain ⟨hcq,hfq⟩:=C_ hC
    simp at hd
    refine H_ ?_
    obtain ⟨⟨ha,_⟩,hb,_⟩:=hd
    have C:=A9k _ _ _ _ _ _ wq ha hb (A0y _) (A0y _) (Nat.le_trans (A4b (A2u VR.o.numlt VS.o.denlt)) (by decide)) (Nat.le_trans (A4b (A2u VS.o.numlt VR.o.denlt)) (by decide))
    rw[A1m,A1m] at C
    exact K_ C
   refine A1z #[.bool false,.slice none 0 0] 33 ?_ ?_
   ·intro yq zq wq hC hd
    refine ⟨by go_simp;done,?_⟩
    go_simp
   intro yq zq wa hC hd (hdis:Hid _)
   simp at hd
   have q12:=hd.2.2.2.2.2.2.2.2.2.2.2.2.1
   have q13:=hd.2.2.2.2.2.2.2.2.2.2.2.2.2
   obtain ⟨⟨ha12,hf12⟩,hr12⟩:=q12
   obtain ⟨B1,m1,d1,t1,e12,hz12,hs12⟩:=TBigInt.agg ha12
   obtain ⟨⟨g,e13,hz13,hg⟩,hr13⟩:=q13
   have hgt:∀ b∈t1,b≠g:=fun b hb e=>by
    have:=hdis.o 12 13 (by decide) (by decide) (by decide) b (by rw[hz12];exact hb)
    rw[hz13] at this;simp at this;exact this e
   rw[hz12] at hf12 hr12
   have hgw:w1.heap.size≤g∧g<wa.heap.size:=by have:=hr13 g (by rw[hz13];simp);omega
   have hgw1:=hgw.1
   obtain ⟨G0,F0⟩:=B_ hg (j:=0) rfl
   obtain ⟨G1,F1⟩:=B_ hg (j:=1) rfl
   obtain ⟨k1,k2⟩:=A9j hs12 hf12 hgt (.bool (Q_ (L_ r*I_ s+L_ s*I_ r)).neg) (.slice B1 m1 d1)
   have HK1:=A_ k1;have HK2:=A_ k2
   have HR1:=A_ (fun b hb=>(hr12 b hb).1)
   have hb6:Below w.heap.size w ((wa.setCell ⟨g,0,none⟩ (.bool (Q_ (L_ r*I_ s+L_ s*I_ r)).neg)).setCell ⟨g,1,none⟩ (.slice B1 m1 d1)):=Below.go
   have K1:((wa.setCell ⟨g,0,none⟩ (.bool (Q_ (L_ r*I_ s+L_ s*I_ r)).neg)).setCell ⟨g,1,none⟩ (.slice B1 m1 d1)).cell? ⟨g,1,none⟩=some (.slice B1 m1 d1) :=
    World.cell?_setCell_same _ _ _ ((World.cell?_setCell_other wa ⟨g,0,none⟩ ⟨g,1,none⟩ _ (by simp)).trans G1)
   have K0:((wa.setCell ⟨g,0,none⟩ (.bool (Q_ (L_ r*I_ s+L_ s*I_ r)).neg)).setCell ⟨g,1,none⟩ (.slice B1 m1 d1)).cell? ⟨g,0,none⟩=some (.bool (Q_ (L_ r*I_ s+L_ s*I_ r)).neg) :=
    (World.cell?_setCell_other _ ⟨g,1,none⟩ ⟨g,0,none⟩ _ (by simp)).trans (World.cell?_setCell_same _ _ _ G0)
   have hb6':Below w1.heap.size w1 ((wa.setCell ⟨g,0,none⟩ (.bool (Q_ (L_ r*I_ s+L_ s*I_ r)).neg)).setCell ⟨g,1,none⟩ (.slice B1 m1 d1)):=(hC.setCell (p:=⟨g,0,none⟩) hgw1 _).setCell (p:=⟨g,1,none⟩) hgw1 _
   have HB6':=A_ hb6'
   have HK0:=A_ K0;have HKK1:=A_ K1;have HB6:=A_ hb6
   have hz6:((wa.setCell ⟨g,0,none⟩ (.bool (Q_ (L_ r*I_ s+L_ s*I_ r)).neg)).setCell ⟨g,1,none⟩ (.slice B1 m1 d1)).heap.size=wa.heap.size:=by simp
   have HZ6:=A_ hz6
   have hgl:=hgw.2
   clear hd hdis hs12 hf12 hr12 hr13 hg hgt k1 k2 K0 K1 hb6 hb6' hz6 ha12 hz12 hz13
   obtain ⟨hc_wa,hf_wa⟩:=C_ hC
   have hz0_wa:w.heap.size<wa.heap.size:=N_ hC
   have hz1_wa:w.heap.size+1<wa.heap.size:=N_ hC
   have hz2_wa:w.heap.size+1+1<wa.heap.size:=N_ hC
   go_wp2_with fail
   generalize ((wa.setCell ⟨g,0,none⟩ (.bool (Q_ (L_ r*I_ s+L_ s*I_ r)).neg)).setCell ⟨g,1,none⟩ (.slice B1 m1 d1))=W6 at *
   have hgl6:g<W6.heap.size:=by have:=HZ6.o;omega
   have kk0:=HK0.o
   have kk1:=HKK1.o
   obtain ⟨hc_6,hf_6⟩:=C_ HB6'.o
   have hz6s:w1.heap.size≤W6.heap.size:=HB6'.o.size
   have hz6a:w.heap.size<W6.heap.size:=by omega
   have hz6b:w.heap.size+1<W6.heap.size:=by omega
   have hz6c:w.heap.size+1+1<W6.heap.size:=by omega
   clear G0 G1 F0 F1 hc_wa hf_wa e12 e13 hC hz0_wa hz1_wa hz2_wa
   have hbW:=HB6.o
   refine Z_ (by simp) ?_
   dsimp only [List.dropLast,List.getLast,List.length]
   iterate 5
    refine D_ _ ?_
   refine F_ (MP.sl (dig (I_ r*I_ s).toNat)) ?_ ?_
   ·intro yq zq wq hC hd
    obtain ⟨hcq,hfq⟩:=C_ hC
    simp at hd
    refine H_ ?_
    exact A0q (A3w A2 A4 n2 n4 c2 c4 r.den s.den _ _ wq (Sl.below H2.o Below.go) (Sl.below H4.o Below.go) VR.o.den.1 VS.o.den.1 (by rw[← H2.o.1];exact Nat.le_trans VR.o.den24 (by decide)) (by rw[← H4.o.1];exact Nat.le_trans VS.o.den24 (by decide)))
   refine A2a (fun y'=>MP.eq (.agg #[.bool (Q_ (L_ r*I_ s+L_ s*I_ r)).neg,.slice B1 m1 d1,y' 5])) (by intro y y' h;simp[P_,M_] at h;simp[h]) ?_ ?_
   ·intro yq zq wq hC hd
    obtain ⟨hcq,hfq⟩:=C_ hC
    simp at hd
    refine H_ ?_
    obtain ⟨_,⟨A',n',c',e5,hs2⟩,_⟩:=hd
    rw[e5]
    have hl:=hs2.1
    exact A0t (A7o (Sl.below HK1.o hC) hs2 (A0y _) DD.o.can (by rw[← hl];exact DD.o.pos) LT.o (by rw[← hl];exact DD.o.le) HS.o.1 HS.o.2.1 (by rw[← hl];exact HS.o.2.2))
   intro yq zq wb hC hd (hdis:Hid _)
   simp at hd
   have q5:=hd.2.2.2.2.2.1
   have q6:=hd.2.2.2.2.2.2
   obtain ⟨⟨⟨B2,m2,d2,e5,hs2⟩,hf2⟩,hr2⟩:=q5
   have e6:yq 6=.agg #[.bool (Q_ (L_ r*I_ s+L_ s*I_ r)).neg,.slice B1 m1 d1,.slice B2 m2 d2]:=by rw[q6.1.1,e5]
   have HS2:=A_ hs2;have HF2:=A_ hf2;have HR2:=A_ hr2
   clear hd hdis q6 hs2 hf2 hr2
   obtain ⟨hc_wb,hf_wb⟩:=C_ hC
   have hz0_wb:w.heap.size<wb.heap.size:=N_ hC
   have hz1_wb:w.heap.size+1<wb.heap.size:=N_ hC
   have hz2_wb:w.heap.size+1+1<wb.heap.size:=N_ hC
   go_wp2
   refine bodyPost_ret (v:=.agg #[.bool (Q_ (L_ r*I_ s+L_ s*I_ r)).neg,.slice B1 m1 d1,.slice B2 m2 d2]) (by simp[results,Tryz.results29,go_sem, *]) rfl ?_
   rw[MK.o]
   have f1:=fun (W:World) (ha:Above (w.heap.size+3) W6 W)=>A2c (w:=w) HK1.o HK2.o (fun b hb=>by have:=HR1.o b hb;omega) (by omega) ha
   have f2:=fun (W:World) (ha:Above (w.heap.size+3) wb W)=>A2c (w:=w) HS2.o HF2.o (fun b hb=>by have:=(HR2.o b hb).1;omega) (by omega) ha
   refine A5m (x:=⟨Q_ (L_ r*I_ s+L_ s*I_ r),dig (I_ r*I_ s).toNat⟩) (f1 _ ?_) (f2 _ ?_) (A6d (N:=W6.heap.size) HK1.o.lt (fun b hb=>(HR2.o b hb).1)) ?_
   ·exact Above.go
   ·exact Above.go
   exact Below.go
  have Ss:=A_ (show A1t s=false by cases h:A1t s;rfl;exact absurd ⟨hsr,h⟩ hsm)
  have Sr:=A_ hsr
  clear hsr hsm
  go_enter Tryz.func29,Tryz.ntmps29
  go_wp2_with fail
  have C:=A0s _ r _ (((w.alloc (.cells #[.bool r.num.neg,.slice A1 n1 c1,.slice A2 n2 c2] 35)).alloc (.cells #[.bool s.num.neg,.slice A3 n3 c3,.slice A4 n4 c4] 35)).alloc (.cells #[.bool false,.slice none 0 0,.slice none 0 0] 35)) (Agg.below HX.o Below.go)
  rw[Sr.o] at C
  refine C.mono ?_
  clear C
  rintro _ w1 ⟨rfl,hb1⟩
  obtain ⟨hc_w1,hf_w1⟩:=C_ hb1
  have hz0_w1:w.heap.size<w1.heap.size:=N_ hb1
  have hz1_w1:w.heap.size+1<w1.heap.size:=N_ hb1
  have hz2_w1:w.heap.size+1+1<w1.heap.size:=N_ hb1
  go_wp2_with fail
  have C:=A0s _ s _ w1 (Agg.below HY.o Below.go)
  rw[Ss.o] at C
  refine C.mono ?_
  clear C
  rintro _ w2 ⟨rfl,hb2⟩
  obtain ⟨hc_w2,hf_w2⟩:=C_ hb2
  have hz0_w2:w.heap.size<w2.heap.size:=N_ hb2
  have hz1_w2:w.heap.size+1<w2.heap.size:=N_ hb2
  have hz2_w2:w.heap.size+1+1<w2.heap.size:=N_ hb2
  go_wp2_with fail
  refine Z_ (by simp) ?_
  dsimp only [List.dropLast,List.getLast,List.length]
  iterate 5
   refine D_ _ ?_
  refine F_ (MP.agg (Q_ (L_ r*I_ s))) ?_ ?_
  ·intro yq zq wq hC hd
   obtain ⟨hcq,hfq⟩:=C_ hC
   simp at hd
   refine H_ ?_
   have D:=A9p (r:=s) (Sl.below H4.o (show Below w.heap.size w wq from Below.go))
   have C:=A2l _ _ r.num ⟨false,s.den⟩ _ _ wq (TBigInt.mkAgg (Sl.below H1.o Below.go)) D.1 VR.o.mag.1 VS.o.den.1 (Nat.le_trans VR.o.num24 (by decide)) (Nat.le_trans VS.o.den24 (by decide))
   rw[D.2] at C
   exact K_ C
  iterate 5
   refine D_ _ ?_
  refine F_ (MP.agg (Q_ (L_ s*I_ r))) ?_ ?_
  ·intro yq zq wq hC hd
   obtain ⟨hcq,hfq⟩:=C_ hC
   simp at hd
   refine H_ ?_
   have D:=A9p (r:=r) (Sl.below H2.o (show Below w.heap.size w wq from Below.go))
   have C:=A2l _ _ s.num ⟨false,r.den⟩ _ _ wq (TBigInt.mkAgg (Sl.below H3.o Below.go)) D.1 VS.o.mag.1 VR.o.den.1 (Nat.le_trans VS.o.num24 (by decide)) (Nat.le_trans VR.o.den24 (by decide))
   rw[D.2] at C
   exact K_ C
  refine F_ (MP.agg (Q_ (L_ r*I_ s+L_ s*I_ r))) ?_ ?_
  ·intro yq zq wq hC hd
   obtain ⟨hcq,hfq⟩:=C_ hC
   simp at hd
   refine H_ ?_
   obtain ⟨⟨ha,_⟩,hb,_⟩:=hd
   have C:=A9k _ _ _ _ _ _ wq ha hb (A0y _) (A0y _) (Nat.le_trans (A4b (A2u VR.o.numlt VS.o.denlt)) (by decide)) (Nat.le_trans (A4b (A2u VS.o.numlt VR.o.denlt)) (by decide))
   rw[A1m,A1m] at C
   exact K_ C
  refine A1z #[.bool false,.slice none 0 0] 33 ?_ ?_
  ·intro yq zq wq hC hd
   refine ⟨by go_simp;done,?_⟩
   go_simp
  intro yq zq wa hC hd (hdis:Hid _)
  simp at hd
  have q12:=hd.2.2.2.2.2.2.2.2.2.2.2.2.1
  have q13:=hd.2.2.2.2.2.2.2.2.2.2.2.2.2
  obtain ⟨⟨ha12,hf12⟩,hr12⟩:=q12
  obtain ⟨B1,m1,d1,t1,e12,hz12,hs12⟩:=TBigInt.agg ha12
  obtain ⟨⟨g,e13,hz13,hg⟩,hr13⟩:=q13
  have hgt:∀ b∈t1,b≠g:=fun b hb e=>by
   have:=hdis.o 12 13 (by decide) (by decide) (by decide) b (by rw[hz12];exact hb)
   rw[hz13] at this;simp at this;exact this e
  rw[hz12] at hf12 hr12
  have hgw:w2.heap.size≤g∧g<wa.heap.size:=by have:=hr13 g (by rw[hz13];simp);omega
  have hgw1:=hgw.1
  obtain ⟨G0,F0⟩:=B_ hg (j:=0) rfl
  obtain ⟨G1,F1⟩:=B_ hg (j:=1) rfl
  obtain ⟨k1,k2⟩:=A9j hs12 hf12 hgt (.bool (Q_ (L_ r*I_ s+L_ s*I_ r)).neg) (.slice B1 m1 d1)
  have HK1:=A_ k1;have HK2:=A_ k2
  have HR1:=A_ (fun b hb=>(hr12 b hb).1)
  have hb6:Below w.heap.size w ((wa.setCell ⟨g,0,none⟩ (.bool (Q_ (L_ r*I_ s+L_ s*I_ r)).neg)).setCell ⟨g,1,none⟩ (.slice B1 m1 d1)):=Below.go
  have K1:((wa.setCell ⟨g,0,none⟩ (.bool (Q_ (L_ r*I_ s+L_ s*I_ r)).neg)).setCell ⟨g,1,none⟩ (.slice B1 m1 d1)).cell? ⟨g,1,none⟩=some (.slice B1 m1 d1) :=
   World.cell?_setCell_same _ _ _ ((World.cell?_setCell_other wa ⟨g,0,none⟩ ⟨g,1,none⟩ _ (by simp)).trans G1)
  have K0:((wa.setCell ⟨g,0,none⟩ (.bool (Q_ (L_ r*I_ s+L_ s*I_ r)).neg)).setCell ⟨g,1,none⟩ (.slice B1 m1 d1)).cell? ⟨g,0,none⟩=some (.bool (Q_ (L_ r*I_ s+L_ s*I_ r)).neg) :=
   (World.cell?_setCell_other _ ⟨g,1,none⟩ ⟨g,0,none⟩ _ (by simp)).trans (World.cell?_setCell_same _ _ _ G0)
  have hb6':Below w2.heap.size w2 ((wa.setCell ⟨g,0,none⟩ (.bool (Q_ (L_ r*I_ s+L_ s*I_ r)).neg)).setCell ⟨g,1,none⟩ (.slice B1 m1 d1)):=(hC.setCell (p:=⟨g,0,none⟩) hgw1 _).setCell (p:=⟨g,1,none⟩) hgw1 _
  have HB6':=A_ hb6'
  have HK0:=A_ K0;have HKK1:=A_ K1;have HB6:=A_ hb6
  have hz6:((wa.setCell ⟨g,0,none⟩ (.bool (Q_ (L_ r*I_ s+L_ s*I_ r)).neg)).setCell ⟨g,1,none⟩ (.slice B1 m1 d1)).heap.size=wa.heap.size:=by simp
  have HZ6:=A_ hz6
  have hgl:=hgw.2
  clear hd hdis hs12 hf12 hr12 hr13 hg hgt k1 k2 K0 K1 hb6 hb6' hz6 ha12 hz12 hz13
  obtain ⟨hc_wa,hf_wa⟩:=C_ hC
  have hz0_wa:w.heap.size<wa.heap.size:=N_ hC
  have hz1_wa:w.heap.size+1<wa.heap.size:=N_ hC
  have hz2_wa:w.heap.size+1+1<wa.heap.size:=N_ hC
  go_wp2_with fail
  generalize ((wa.setCell ⟨g,0,none⟩ (.bool (Q_ (L_ r*I_ s+L_ s*I_ r)).neg)).setCell ⟨g,1,none⟩ (.slice B1 m1 d1))=W6 at *
  have hgl6:g<W6.heap.size:=by have:=HZ6.o;omega
  have kk0:=HK0.o
  have kk1:=HKK1.o
  obtain ⟨hc_6,hf_6⟩:=C_ HB6'.o
  have hz6s:w2.heap.size≤W6.heap.size:=HB6'.o.size
  have hz6a:w.heap.size<W6.heap.size:=by omega
  have hz6b:w.heap.size+1<W6.heap.size:=by omega
  have hz6c:w.heap.size+1+1<W6.heap.size:=by omega
  clear G0 G1 F0 F1 hc_wa hf_wa e12 e13 hC hz0_wa hz1_wa hz2_wa
  have hbW:=HB6.o
  refine Z_ (by simp) ?_
  dsimp only [List.dropLast,List.getLast,List.length]
  iterate 5
   refine D_ _ ?_
  refine F_ (MP.sl (dig (I_ r*I_ s).toNat)) ?_ ?_
  ·intro yq zq wq hC hd
   obtain ⟨hcq,hfq⟩:=C_ hC
   simp at hd
   refine H_ ?_
   exact A0q (A3w A2 A4 n2 n4 c2 c4 r.den s.den _ _ wq (Sl.below H2.o Below.go) (Sl.below H4.o Below.go) VR.o.den.1 VS.o.den.1 (by rw[← H2.o.1];exact Nat.le_trans VR.o.den24 (by decide)) (by rw[← H4.o.1];exact Nat.le_trans VS.o.den24 (by decide)))
  refine A2a (fun y'=>MP.eq (.agg #[.bool (Q_ (L_ r*I_ s+L_ s*I_ r)).neg,.slice B1 m1 d1,y' 5])) (by intro y y' h;simp[P_,M_] at h;simp[h]) ?_ ?_
  ·intro yq zq wq hC hd
   obtain ⟨hcq,hfq⟩:=C_ hC
   simp at hd
   refine H_ ?_
   obtain ⟨_,⟨A',n',c',e5,hs2⟩,_⟩:=hd
   rw[e5]
   have hl:=hs2.1
   exact A0t (A7o (Sl.below HK1.o hC) hs2 (A0y _) DD.o.can (by rw[← hl];exact DD.o.pos) LT.o (by rw[← hl];exact DD.o.le) HS.o.1 HS.o.2.1 (by rw[← hl];exact HS.o.2.2))
  intro yq zq wb hC hd (hdis:Hid _)
  simp at hd
  have q5:=hd.2.2.2.2.2.1
  have q6:=hd.2.2.2.2.2.2
  obtain ⟨⟨⟨B2,m2,d2,e5,hs2⟩,hf2⟩,hr2⟩:=q5
  have e6:yq 6=.agg #[.bool (Q_ (L_ r*I_ s+L_ s*I_ r)).neg,.slice B1 m1 d1,.slice B2 m2 d2]:=by rw[q6.1.1,e5]
  have HS2:=A_ hs2;have HF2:=A_ hf2;have HR2:=A_ hr2
  clear hd hdis q6 hs2 hf2 hr2
  obtain ⟨hc_wb,hf_wb⟩:=C_ hC
  have hz0_wb:w.heap.size<wb.heap.size:=N_ hC
  have hz1_wb:w.heap.size+1<wb.heap.size:=N_ hC
  have hz2_wb:w.heap.size+1+1<wb.heap.size:=N_ hC
  go_wp2
  refine bodyPost_ret (v:=.agg #[.bool (Q_ (L_ r*I_ s+L_ s*I_ r)).neg,.slice B1 m1 d1,.slice B2 m2 d2]) (by simp[results,Tryz.results29,go_sem, *]) rfl ?_
  rw[MK.o]
  have f1:=fun (W:World) (ha:Above (w.heap.size+3) W6 W)=>A2c (w:=w) HK1.o HK2.o (fun b hb=>by have:=HR1.o b hb;omega) (by omega) ha
  have f2:=fun (W:World) (ha:Above (w.heap.size+3) wb W)=>A2c (w:=w) HS2.o HF2.o (fun b hb=>by have:=(HR2.o b hb).1;omega) (by omega) ha
  refine A5m (x:=⟨Q_ (L_ r*I_ s+L_ s*I_ r),dig (I_ r*I_ s).toNat⟩) (f1 _ ?_) (f2 _ ?_) (A6d (N:=W6.heap.size) HK1.o.lt (fun b hb=>(HR2.o b hb).1)) ?_
  ·exact Above.go
  ·exact Above.go
  exact Below.go
 have HS:=A_ hsh
 clear hsh
 cases hsr:A1t r
 ·have Sr:=A_ hsr
  clear hsr hsm
  go_enter Tryz.func29,Tryz.ntmps29
  go_wp2_with fail
  have C:=A0s _ r _ (((w.alloc (.cells #[.bool r.num.neg,.slice A1 n1 c1,.slice A2 n2 c2] 35)).alloc (.cells #[.bool s.num.neg,.slice A3 n3 c3,.slice A4 n4 c4] 35)).alloc (.cells #[.bool false,.slice none 0 0,.slice none 0 0] 35)) (Agg.below HX.o Below.go)
  rw[Sr.o] at C
  refine C.mono ?_
  clear C
  rintro _ w1 ⟨rfl,hb1⟩
  obtain ⟨hc_w1,hf_w1⟩:=C_ hb1
  have hz0_w1:w.heap.size<w1.heap.size:=N_ hb1
  have hz1_w1:w.heap.size+1<w1.heap.size:=N_ hb1
  have hz2_w1:w.heap.size+1+1<w1.heap.size:=N_ hb1
  go_wp2_with fail
  refine Z_ (by simp) ?_
  dsimp only [List.dropLast,List.getLast,List.length]
  iterate 5
   refine D_ _ ?_
  refine F_ (MP.agg (Q_ (L_ r*I_ s))) ?_ ?_
  ·intro yq zq wq hC hd
   obtain ⟨hcq,hfq⟩:=C_ hC
   simp at hd
   refine H_ ?_
   have D:=A9p (r:=s) (Sl.below H4.o (show Below w.heap.size w wq from Below.go))
   have C:=A2l _ _ r.num ⟨false,s.den⟩ _ _ wq (TBigInt.mkAgg (Sl.below H1.o Below.go)) D.1 VR.o.mag.1 VS.o.den.1 (Nat.le_trans VR.o.num24 (by decide)) (Nat.le_trans VS.o.den24 (by decide))
   rw[D.2] at C
   exact K_ C
  iterate 5
   refine D_ _ ?_
  refine F_ (MP.agg (Q_ (L_ s*I_ r))) ?_ ?_
  ·intro yq zq wq hC hd
   obtain ⟨hcq,hfq⟩:=C_ hC
   simp at hd
   refine H_ ?_
   have D:=A9p (r:=r) (Sl.below H2.o (show Below w.heap.size w wq from Below.go))
   have C:=A2l _ _ s.num ⟨false,r.den⟩ _ _ wq (TBigInt.mkAgg (Sl.below H3.o Below.go)) D.1 VS.o.mag.1 VR.o.den.1 (Nat.le_trans VS.o.num24 (by decide)) (Nat.le_trans VR.o.den24 (by decide))
   rw[D.2] at C
   exact K_ C
  refine F_ (MP.agg (Q_ (L_ r*I_ s+L_ s*I_ r))) ?_ ?_
  ·intro yq zq wq hC hd
   obtain ⟨hcq,hfq⟩:=C_ hC
   simp at hd
   refine H_ ?_
   obtain ⟨⟨ha,_⟩,hb,_⟩:=hd
   have C:=A9k _ _ _ _ _ _ wq ha hb (A0y _) (A0y _) (Nat.le_trans (A4b (A2u VR.o.numlt VS.o.denlt)) (by decide)) (Nat.le_trans (A4b (A2u VS.o.numlt VR.o.denlt)) (by decide))
   rw[A1m,A1m] at C
   exact K_ C
  refine A1z #[.bool false,.slice none 0 0] 33 ?_ ?_
  ·intro yq zq wq hC hd
   refine ⟨by go_simp;done,?_⟩
   go_simp
  intro yq zq wa hC hd (hdis:Hid _)
  simp at hd
  have q12:=hd.2.2.2.2.2.2.2.2.2.2.2.2.1
  have q13:=hd.2.2.2.2.2.2.2.2.2.2.2.2.2
  obtain ⟨⟨ha12,hf12⟩,hr12⟩:=q12
  obtain ⟨B1,m1,d1,t1,e12,hz12,hs12⟩:=TBigInt.agg ha12
  obtain ⟨⟨g,e13,hz13,hg⟩,hr13⟩:=q13
  have hgt:∀ b∈t1,b≠g:=fun b hb e=>by
   have:=hdis.o 12 13 (by decide) (by decide) (by decide) b (by rw[hz12];exact hb)
   rw[hz13] at this;simp at this;exact this e
  rw[hz12] at hf12 hr12
  have hgw:w1.heap.size≤g∧g<wa.heap.size:=by have:=hr13 g (by rw[hz13];simp);omega
  have hgw1:=hgw.1
  obtain ⟨G0,F0⟩:=B_ hg (j:=0) rfl
  obtain ⟨G1,F1⟩:=B_ hg (j:=1) rfl
  obtain ⟨k1,k2⟩:=A9j hs12 hf12 hgt (.bool (Q_ (L_ r*I_ s+L_ s*I_ r)).neg) (.slice B1 m1 d1)
  have HK1:=A_ k1;have HK2:=A_ k2
  have HR1:=A_ (fun b hb=>(hr12 b hb).1)
  have hb6:Below w.heap.size w ((wa.setCell ⟨g,0,none⟩ (.bool (Q_ (L_ r*I_ s+L_ s*I_ r)).neg)).setCell ⟨g,1,none⟩ (.slice B1 m1 d1)):=Below.go
  have K1:((wa.setCell ⟨g,0,none⟩ (.bool (Q_ (L_ r*I_ s+L_ s*I_ r)).neg)).setCell ⟨g,1,none⟩ (.slice B1 m1 d1)).cell? ⟨g,1,none⟩=some (.slice B1 m1 d1) :=
   World.cell?_setCell_same _ _ _ ((World.cell?_setCell_other wa ⟨g,0,none⟩ ⟨g,1,none⟩ _ (by simp)).trans G1)
  have K0:((wa.setCell ⟨g,0,none⟩ (.bool (Q_ (L_ r*I_ s+L_ s*I_ r)).neg)).setCell ⟨g,1,none⟩ (.slice B1 m1 d1)).cell? ⟨g,0,none⟩=some (.bool (Q_ (L_ r*I_ s+L_ s*I_ r)).neg) :=
   (World.cell?_setCell_other _ ⟨g,1,none⟩ ⟨g,0,none⟩ _ (by simp)).trans (World.cell?_setCell_same _ _ _ G0)
  have hb6':Below w1.heap.size w1 ((wa.setCell ⟨g,0,none⟩ (.bool (Q_ (L_ r*I_ s+L_ s*I_ r)).neg)).setCell ⟨g,1,none⟩ (.slice B1 m1 d1)):=(hC.setCell (p:=⟨g,0,none⟩) hgw1 _).setCell (p:=⟨g,1,none⟩) hgw1 _
  have HB6':=A_ hb6'
  have HK0:=A_ K0;have HKK1:=A_ K1;have HB6:=A_ hb6
  have hz6:((wa.setCell ⟨g,0,none⟩ (.bool (Q_ (L_ r*I_ s+L_ s*I_ r)).neg)).setCell ⟨g,1,none⟩ (.slice B1 m1 d1)).heap.size=wa.heap.size:=by simp
  have HZ6:=A_ hz6
  have hgl:=hgw.2
  clear hd hdis hs12 hf12 hr12 hr13 hg hgt k1 k2 K0 K1 hb6 hb6' hz6 ha12 hz12 hz13
  obtain ⟨hc_wa,hf_wa⟩:=C_ hC
  have hz0_wa:w.heap.size<wa.heap.size:=N_ hC
  have hz1_wa:w.heap.size+1<wa.heap.size:=N_ hC
  have hz2_wa:w.heap.size+1+1<wa.heap.size:=N_ hC
  go_wp2_with fail
  generalize ((wa.setCell ⟨g,0,none⟩ (.bool (Q_ (L_ r*I_ s+L_ s*I_ r)).neg)).setCell ⟨g,1,none⟩ (.slice B1 m1 d1))=W6 at *
  have hgl6:g<W6.heap.size:=by have:=HZ6.o;omega
  have kk0:=HK0.o
  have kk1:=HKK1.o
  obtain ⟨hc_6,hf_6⟩:=C_ HB6'.o
  have hz6s:w1.heap.size≤W6.heap.size:=HB6'.o.size
  have hz6a:w.heap.size<W6.heap.size:=by omega
  have hz6b:w.heap.size+1<W6.heap.size:=by omega
  have hz6c:w.heap.size+1+1<W6.heap.size:=by omega
  clear G0 G1 F0 F1 hc_wa hf_wa e12 e13 hC hz0_wa hz1_wa hz2_wa
  have hbW:=HB6.o
  refine Z_ (by simp) ?_
  dsimp only [List.dropLast,List.getLast,List.length]
  iterate 5
   refine D_ _ ?_
  refine F_ (MP.sl (dig (I_ r*I_ s).toNat)) ?_ ?_
  ·intro yq zq wq hC hd
   obtain ⟨hcq,hfq⟩:=C_ hC
   simp at hd
   refine H_ ?_
   exact A0q (A3w A2 A4 n2 n4 c2 c4 r.den s.den _ _ wq (Sl.below H2.o Below.go) (Sl.below H4.o Below.go) VR.o.den.1 VS.o.den.1 (by rw[← H2.o.1];exact Nat.le_trans VR.o.den24 (by decide)) (by rw[← H4.o.1];exact Nat.le_trans VS.o.den24 (by decide)))
  refine F_ (MP.agg (mkR (L_ r*I_ s+L_ s*I_ r) (I_ r*I_ s))) ?_ ?_
  ·intro yq zq wq hC hd
   obtain ⟨hcq,hfq⟩:=C_ hC
   simp at hd
   refine H_ ?_
   obtain ⟨_,⟨A',n',c',e5,hs2⟩,_⟩:=hd
   rw[e5]
   have hl:=hs2.1
   have C:=B4e (TBigInt.mkAgg (Sl.below HK1.o hC)) hs2 (A0y _) DD.o.can (by rw[← hl];exact DD.o.pos) LT.o (by rw[← hl];exact DD.o.le) (A6j _) (by rw[← hl];exact HS.o)
   rw[A1m,DD.o.v] at C
   exact K_ C
  intro yq zq wb hC hd (hdis:Hid _)
  simp at hd
  have q6:=hd.2.2.2.2.2.2
  obtain ⟨⟨ha,hf⟩,hr⟩:=q6
  obtain ⟨B3,m3,d3,t3,B4,m4,d4,t4,e6,hz,hs1,hs2⟩:=TRat.agg ha
  have HA:=A_ ha;have HF:=A_ hf;have HR:=A_ hr
  clear hd hdis hz hs1 hs2 ha hf hr
  obtain ⟨hc_wb,hf_wb⟩:=C_ hC
  have hz0_wb:w.heap.size<wb.heap.size:=N_ hC
  have hz1_wb:w.heap.size+1<wb.heap.size:=N_ hC
  have hz2_wb:w.heap.size+1+1<wb.heap.size:=N_ hC
  go_wp2
  refine bodyPost_ret (v:=.agg #[.bool (mkR (L_ r*I_ s+L_ s*I_ r) (I_ r*I_ s)).num.neg,.slice B3 m3 d3,.slice B4 m4 d4]) (by simp[results,Tryz.results29,go_sem, *]) rfl ?_
  rw[e6] at HA
  refine A0o (lo:=w.heap.size+3) HA.o HF.o (fun b hb=>by have:=(HR.o b hb).1;omega) (by omega) ?_ ?_
  ·exact Above.go
  exact Below.go
 have Ss:=A_ (show A1t s=false by cases h:A1t s;rfl;exact absurd ⟨hsr,h⟩ hsm)
 have Sr:=A_ hsr
 clear hsr hsm
 go_enter Tryz.func29,Tryz.ntmps29
 go_wp2_with fail
 have C:=A0s _ r _ (((w.alloc (.cells #[.bool r.num.neg,.slice A1 n1 c1,.slice A2 n2 c2] 35)).alloc (.cells #[.bool s.num.neg,.slice A3 n3 c3,.slice A4 n4 c4] 35)).alloc (.cells #[.bool false,.slice none 0 0,.slice none 0 0] 35)) (Agg.below HX.o Below.go)
 rw[Sr.o] at C
 refine C.mono ?_
 clear C
 rintro _ w1 ⟨rfl,hb1⟩
 obtain ⟨hc_w1,hf_w1⟩:=C_ hb1
 have hz0_w1:w.heap.size<w1.heap.size:=N_ hb1
 have hz1_w1:w.heap.size+1<w1.heap.size:=N_ hb1
 have hz2_w1:w.heap.size+1+1<w1.heap.size:=N_ hb1
 go_wp2_with fail
 have C:=A0s _ s _ w1 (Agg.below HY.o Below.go)
 rw[Ss.o] at C
 refine C.mono ?_
 clear C
 rintro _ w2 ⟨rfl,hb2⟩
 obtain ⟨hc_w2,hf_w2⟩:=C_ hb2
 have hz0_w2:w.heap.size<w2.heap.size:=N_ hb2
 have hz1_w2:w.heap.size+1<w2.heap.size:=N_ hb2
 have hz2_w2:w.heap.size+1+1<w2.heap.size:=N_ hb2
 go_wp2_with fail
 refine Z_ (by simp) ?_
 dsimp only [List.dropLast,List.getLast,List.length]
 iterate 5
  refine D_ _ ?_
 refine F_ (MP.agg (Q_ (L_ r*I_ s))) ?_ ?_
 ·intro yq zq wq hC hd
  obtain ⟨hcq,hfq⟩:=C_ hC
  simp at hd
  refine H_ ?_
  have D:=A9p (r:=s) (Sl.below H4.o (show Below w.heap.size w wq from Below.go))
  have C:=A2l _ _ r.num ⟨false,s.den⟩ _ _ wq (TBigInt.mkAgg (Sl.below H1.o Below.go)) D.1 VR.o.mag.1 VS.o.den.1 (Nat.le_trans VR.o.num24 (by decide)) (Nat.le_trans VS.o.den24 (by decide))
  rw[D.2] at C
  exact K_ C
 iterate 5
  refine D_ _ ?_
 refine F_ (MP.agg (Q_ (L_ s*I_ r))) ?_ ?_
 ·intro yq zq wq hC hd
  obtain ⟨hcq,hfq⟩:=C_ hC
  simp at hd
  refine H_ ?_
  have D:=A9p (r:=r) (Sl.below H2.o (show Below w.heap.size w wq from Below.go))
  have C:=A2l _ _ s.num ⟨false,r.den⟩ _ _ wq (TBigInt.mkAgg (Sl.below H3.o Below.go)) D.1 VS.o.mag.1 VR.o.den.1 (Nat.le_trans VS.o.num24 (by decide)) (Nat.le_trans VR.o.den24 (by decide))
  rw[D.2] at C
  exact K_ C
 refine F_ (MP.agg (Q_ (L_ r*I_ s+L_ s*I_ r))) ?_ ?_
 ·intro yq zq wq hC hd
  obtain ⟨hcq,hfq⟩:=C_ hC
  simp at hd
  refine H_ ?_
  obtain ⟨⟨ha,_⟩,hb,_⟩:=hd
  have C:=A9k _ _ _ _ _ _ wq ha hb (A0y _) (A0y _) (Nat.le_trans (A4b (A2u VR.o.numlt VS.o.denlt)) (by decide)) (Nat.le_trans (A4b (A2u VS.o.numlt VR.o.denlt)) (by decide))
  rw[A1m,A1m] at C
  exact K_ C
 refine A1z #[.bool false,.slice none 0 0] 33 ?_ ?_
 ·intro yq zq wq hC hd
  refine ⟨by go_simp;done,?_⟩
  go_simp
 intro yq zq wa hC hd (hdis:Hid _)
 simp at hd
 have q12:=hd.2.2.2.2.2.2.2.2.2.2.2.2.1
 have q13:=hd.2.2.2.2.2.2.2.2.2.2.2.2.2
 obtain ⟨⟨ha12,hf12⟩,hr12⟩:=q12
 obtain ⟨B1,m1,d1,t1,e12,hz12,hs12⟩:=TBigInt.agg ha12
 obtain ⟨⟨g,e13,hz13,hg⟩,hr13⟩:=q13
 have hgt:∀ b∈t1,b≠g:=fun b hb e=>by
  have:=hdis.o 12 13 (by decide) (by decide) (by decide) b (by rw[hz12];exact hb)
  rw[hz13] at this;simp at this;exact this e
 rw[hz12] at hf12 hr12
 have hgw:w2.heap.size≤g∧g<wa.heap.size:=by have:=hr13 g (by rw[hz13];simp);omega
 have hgw1:=hgw.1
 obtain ⟨G0,F0⟩:=B_ hg (j:=0) rfl
 obtain ⟨G1,F1⟩:=B_ hg (j:=1) rfl
 obtain ⟨k1,k2⟩:=A9j hs12 hf12 hgt (.bool (Q_ (L_ r*I_ s+L_ s*I_ r)).neg) (.slice B1 m1 d1)
 have HK1:=A_ k1;have HK2:=A_ k2
 have HR1:=A_ (fun b hb=>(hr12 b hb).1)
 have hb6:Below w.heap.size w ((wa.setCell ⟨g,0,none⟩ (.bool (Q_ (L_ r*I_ s+L_ s*I_ r)).neg)).setCell ⟨g,1,none⟩ (.slice B1 m1 d1)):=Below.go
 have K1:((wa.setCell ⟨g,0,none⟩ (.bool (Q_ (L_ r*I_ s+L_ s*I_ r)).neg)).setCell ⟨g,1,none⟩ (.slice B1 m1 d1)).cell? ⟨g,1,none⟩=some (.slice B1 m1 d1) :=
  World.cell?_setCell_same _ _ _ ((World.cell?_setCell_other wa ⟨g,0,none⟩ ⟨g,1,none⟩ _ (by simp)).trans G1)
 have K0:((wa.setCell ⟨g,0,none⟩ (.bool (Q_ (L_ r*I_ s+L_ s*I_ r)).neg)).setCell ⟨g,1,none⟩ (.slice B1 m1 d1)).cell? ⟨g,0,none⟩=some (.bool (Q_ (L_ r*I_ s+L_ s*I_ r)).neg) :=
  (World.cell?_setCell_other _ ⟨g,1,none⟩ ⟨g,0,none⟩ _ (by simp)).trans (World.cell?_setCell_same _ _ _ G0)
 have hb6':Below w2.heap.size w2 ((wa.setCell ⟨g,0,none⟩ (.bool (Q_ (L_ r*I_ s+L_ s*I_ r)).neg)).setCell ⟨g,1,none⟩ (.slice B1 m1 d1)):=(hC.setCell (p:=⟨g,0,none⟩) hgw1 _).setCell (p:=⟨g,1,none⟩) hgw1 _
 have HB6':=A_ hb6'
 have HK0:=A_ K0;have HKK1:=A_ K1;have HB6:=A_ hb6
 have hz6:((wa.setCell ⟨g,0,none⟩ (.bool (Q_ (L_ r*I_ s+L_ s*I_ r)).neg)).setCell ⟨g,1,none⟩ (.slice B1 m1 d1)).heap.size=wa.heap.size:=by simp
 have HZ6:=A_ hz6
 have hgl:=hgw.2
 clear hd hdis hs12 hf12 hr12 hr13 hg hgt k1 k2 K0 K1 hb6 hb6' hz6 ha12 hz12 hz13
 obtain ⟨hc_wa,hf_wa⟩:=C_ hC
 have hz0_wa:w.heap.size<wa.heap.size:=N_ hC
 have hz1_wa:w.heap.size+1<wa.heap.size:=N_ hC
 have hz2_wa:w.heap.size+1+1<wa.heap.size:=N_ hC
 go_wp2_with fail
 generalize ((wa.setCell ⟨g,0,none⟩ (.bool (Q_ (L_ r*I_ s+L_ s*I_ r)).neg)).setCell ⟨g,1,none⟩ (.slice B1 m1 d1))=W6 at *
 have hgl6:g<W6.heap.size:=by have:=HZ6.o;omega
 have kk0:=HK0.o
 have kk1:=HKK1.o
 obtain ⟨hc_6,hf_6⟩:=C_ HB6'.o
 have hz6s:w2.heap.size≤W6.heap.size:=HB6'.o.size
 have hz6a:w.heap.size<W6.heap.size:=by omega
 have hz6b:w.heap.size+1<W6.heap.size:=by omega
 have hz6c:w.heap.size+1+1<W6.heap.size:=by omega
 clear G0 G1 F0 F1 hc_wa hf_wa e12 e13 hC hz0_wa hz1_wa hz2_wa
 have hbW:=HB6.o
 refine Z_ (by simp) ?_
 dsimp only [List.dropLast,List.getLast,List.length]
 iterate 5
  refine D_ _ ?_
 refine F_ (MP.sl (dig (I_ r*I_ s).toNat)) ?_ ?_
 ·intro yq zq wq hC hd
  obtain ⟨hcq,hfq⟩:=C_ hC
  simp at hd
  refine H_ ?_
  exact A0q (A3w A2 A4 n2 n4 c2 c4 r.den s.den _ _ wq (Sl.below H2.o Below.go) (Sl.below H4.o Below.go) VR.o.den.1 VS.o.den.1 (by rw[← H2.o.1];exact Nat.le_trans VR.o.den24 (by decide)) (by rw[← H4.o.1];exact Nat.le_trans VS.o.den24 (by decide)))
 refine F_ (MP.agg (mkR (L_ r*I_ s+L_ s*I_ r) (I_ r*I_ s))) ?_ ?_
 ·intro yq zq wq hC hd
  obtain ⟨hcq,hfq⟩:=C_ hC
  simp at hd
  refine H_ ?_
  obtain ⟨_,⟨A',n',c',e5,hs2⟩,_⟩:=hd
  rw[e5]
  have hl:=hs2.1
  have C:=B4e (TBigInt.mkAgg (Sl.below HK1.o hC)) hs2 (A0y _) DD.o.can (by rw[← hl];exact DD.o.pos) LT.o (by rw[← hl];exact DD.o.le) (A6j _) (by rw[← hl];exact HS.o)
  rw[A1m,DD.o.v] at C
  exact K_ C
 intro yq zq wb hC hd (hdis:Hid _)
 simp at hd
 have q6:=hd.2.2.2.2.2.2
 obtain ⟨⟨ha,hf⟩,hr⟩:=q6
 obtain ⟨B3,m3,d3,t3,B4,m4,d4,t4,e6,hz,hs1,hs2⟩:=TRat.agg ha
 have HA:=A_ ha;have HF:=A_ hf;have HR:=A_ hr
 clear hd hdis hz hs1 hs2 ha hf hr
 obtain ⟨hc_wb,hf_wb⟩:=C_ hC
 have hz0_wb:w.heap.size<wb.heap.size:=N_ hC
 have hz1_wb:w.heap.size+1<wb.heap.size:=N_ hC
 have hz2_wb:w.heap.size+1+1<wb.heap.size:=N_ hC
 go_wp2
 refine bodyPost_ret (v:=.agg #[.bool (mkR (L_ r*I_ s+L_ s*I_ r) (I_ r*I_ s)).num.neg,.slice B3 m3 d3,.slice B4 m4 d4]) (by simp[results,Tryz.results29,go_sem, *]) rfl ?_
 rw[e6] at HA
 refine A0o (lo:=w.heap.size+3) HA.o HF.o (fun b hb=>by have:=(HR.o b hb).1;omega) (by omega) ?_ ?_
 ·exact Above.go
 exact Below.go

theorem _root_.Go.XN.RatV.neg {x:TRat} (h:RatV x):RatV ⟨Q_ (-L_ x),x.den⟩:=by
 have e:Q_ (-L_ x)=⟨!x.num.neg&&!x.num.mag.isEmpty,x.num.mag⟩:=by unfold L_;exact C7e h.num
 have hb:=bigOkB_iff.1 h.num
 refine ⟨?_,h.den,h.den0,?_,h.den24,?_⟩
 ·show A1x (Q_ (-L_ x))=true
  rw[e,bigOkB_iff]
  refine ⟨hb.1,fun hn=>?_⟩
  simp at hn
  simp only
  intro e0;rw[e0] at hn;simp at hn
 ·show (Q_ (-L_ x)).mag.length≤24
  rw[e];exact h.num24
 show Int.gcd (G_ (Q_ (-L_ x)).mag) (G_ x.den)=1
 rw[e];exact h.one
theorem B4f (x:TRat):L_ ⟨Q_ (-L_ x),x.den⟩ = -L_ x∧I_ ⟨Q_ (-L_ x),x.den⟩=I_ x:=⟨by show A0f (Q_ (-L_ x))=_;rw[A1m],rfl⟩
theorem A7l (v1 v2:Value) (r s:TRat) (b1 b2:List Nat) (w:World) (hx:Agg w v1 r b1) (hy:Agg w v2 s b2) :
  Calls Tryz.prog 98 #[v1,v2] w (X_ w (A2d r s)):=by
 have HX:=A_ hx;have HY:=A_ hy
 obtain ⟨A1,n1,c1,s1,A2,n2,c2,s2,rfl,rfl,hs1,hs2⟩:=TRat.agg hx
 obtain ⟨A3,n3,c3,s3,A4,n4,c4,s4,rfl,rfl,hs3,hs4⟩:=TRat.agg hy
 have H1:=A_ hs1;have H2:=A_ hs2;have H3:=A_ hs3;have H4:=A_ hs4
 clear hs1 hs2 hs3 hs4 hx hy
 cases hok:S_ r&&S_ s
 ·have E:=A_ (show A2d r s=A1j by unfold A2d;rw[hok];rfl)
  have OK:=A_ (B5y hok)
  clear hok
  go_enter Tryz.func98,Tryz.ntmps98
  go_wp2_with fail
  have C:=A1r (some ⟨w.heap.size+1+1+1,0,none⟩) 2 2 [r,s] _ ((((w.alloc (.cells #[.bool r.num.neg,.slice A1 n1 c1,.slice A2 n2 c2] 35)).alloc (.cells #[.bool s.num.neg,.slice A3 n3 c3,.slice A4 n4 c4] 35)).alloc (.cells #[.bool false,.slice none 0 0,.slice none 0 0] 35)).alloc (.cells #[.bool r.num.neg,.slice A1 n1 c1,.slice A2 n2 c2,.bool s.num.neg,.slice A3 n3 c3,.slice A4 n4 c4] 35)) (A7v (Agg.below HX.o Below.go) (Agg.below HY.o Below.go) (by simp) (by go_simp) (by go_simp) (by go_simp) (by go_simp) (by go_simp) (by go_simp))
  rw[OK.o] at C
  refine C.mono ?_
  clear C
  rintro _ w1 ⟨rfl,hb1⟩
  obtain ⟨hc_w1,hf_w1⟩:=C_ hb1
  have hz0_w1:w.heap.size<w1.heap.size:=N_ hb1
  have hz1_w1:w.heap.size+1<w1.heap.size:=N_ hb1
  have hz2_w1:w.heap.size+1+1<w1.heap.size:=N_ hb1
  have hz3_w1:w.heap.size+1+1+1<w1.heap.size:=N_ hb1
  go_wp2
  refine bodyPost_ret (v:=.agg #[.bool false,.slice none 0 0,.slice none 0 0]) (by simp[results,Tryz.results98,go_sem, *]) rfl ?_
  rw[E.o]
  exact A1w Below.go
 have E:=A_ (show A2d r s=(mkR (L_ r*I_ s+L_ s*I_ r) (I_ r*I_ s)) by unfold A2d;rw[hok];rfl)
 have OK:=A_ (B5y hok)
 rw[Bool.and_eq_true] at hok
 have VR:=A_ (ratOkB_iff.1 hok.1);have VS:=A_ (ratOkB_iff.1 hok.2)
 clear hok
 go_enter Tryz.func98,Tryz.ntmps98
 go_wp2_with fail
 have C:=A1r (some ⟨w.heap.size+1+1+1,0,none⟩) 2 2 [r,s] _ ((((w.alloc (.cells #[.bool r.num.neg,.slice A1 n1 c1,.slice A2 n2 c2] 35)).alloc (.cells #[.bool s.num.neg,.slice A3 n3 c3,.slice A4 n4 c4] 35)).alloc (.cells #[.bool false,.slice none 0 0,.slice none 0 0] 35)).alloc (.cells #[.bool r.num.neg,.slice A1 n1 c1,.slice A2 n2 c2,.bool s.num.neg,.slice A3 n3 c3,.slice A4 n4 c4] 35)) (A7v (Agg.below HX.o Below.go) (Agg.below HY.o Below.go) (by simp) (by go_simp) (by go_simp) (by go_simp) (by go_simp) (by go_simp) (by go_simp))
 rw[OK.o] at C
 refine C.mono ?_
 clear C
 rintro _ w1 ⟨rfl,hb1⟩
 obtain ⟨hc_w1,hf_w1⟩:=C_ hb1
 have hz0_w1:w.heap.size<w1.heap.size:=N_ hb1
 have hz1_w1:w.heap.size+1<w1.heap.size:=N_ hb1
 have hz2_w1:w.heap.size+1+1<w1.heap.size:=N_ hb1
 have hz3_w1:w.heap.size+1+1+1<w1.heap.size:=N_ hb1
 go_wp2_with fail
 refine (C1b _ _ r s _ _ w1 (Agg.below HX.o Below.go) (Agg.below HY.o Below.go) VR.o VS.o).mono ?_
 rintro _ w6 ⟨v,bs,rfl,ha,ho,hb⟩
 obtain ⟨B1,m1,d1,t1,B2,m2,d2,t2,rfl,hz,hs1,hs2⟩:=TRat.agg ha
 have HA:=A_ ha;have HO:=A_ ho
 clear hz hs1 hs2 ha ho
 obtain ⟨hc_w6,hf_w6⟩:=C_ hb
 have hz0_w6:w.heap.size<w6.heap.size:=N_ hb
 have hz1_w6:w.heap.size+1<w6.heap.size:=N_ hb
 have hz2_w6:w.heap.size+1+1<w6.heap.size:=N_ hb
 have hz3_w6:w.heap.size+1+1+1<w6.heap.size:=N_ hb
 go_wp2
 refine bodyPost_ret (v:=.agg #[.bool (mkR (L_ r*I_ s+L_ s*I_ r) (I_ r*I_ s)).num.neg,.slice B1 m1 d1,.slice B2 m2 d2]) (by simp[results,Tryz.results98,go_sem, *]) rfl ?_
 rw[E.o]
 refine A0o (lo:=w.heap.size+4) HA.o HO.o.free (fun b hb=>by have:=(HO.o.2 b hb).1;(try simp at this);omega) (by omega) ?_ ?_
 ·exact Above.go
 exact Below.go

theorem A3z (v1 v2:Value) (r s:TRat) (b1 b2:List Nat) (w:World) (hx:Agg w v1 r b1) (hy:Agg w v2 s b2) :
  Calls Tryz.prog 7 #[v1,v2] w (X_ w (A0u r s)):=by
 have HX:=A_ hx;have HY:=A_ hy
 obtain ⟨A1,n1,c1,s1,A2,n2,c2,s2,rfl,rfl,hs1,hs2⟩:=TRat.agg hx
 obtain ⟨A3,n3,c3,s3,A4,n4,c4,s4,rfl,rfl,hs3,hs4⟩:=TRat.agg hy
 have H1:=A_ hs1;have H2:=A_ hs2;have H3:=A_ hs3;have H4:=A_ hs4
 clear hs1 hs2 hs3 hs4 hx hy
 cases hok:S_ r&&S_ s
 ·have E:=A_ (show A0u r s=A1j by unfold A0u;rw[hok];rfl)
  have OK:=A_ (B5y hok)
  clear hok
  go_enter Tryz.func7,Tryz.ntmps7
  go_wp2_with fail
  have C:=A1r (some ⟨w.heap.size+1+1+1,0,none⟩) 2 2 [r,s] _ ((((w.alloc (.cells #[.bool r.num.neg,.slice A1 n1 c1,.slice A2 n2 c2] 35)).alloc (.cells #[.bool s.num.neg,.slice A3 n3 c3,.slice A4 n4 c4] 35)).alloc (.cells #[.bool false,.slice none 0 0,.slice none 0 0] 35)).alloc (.cells #[.bool r.num.neg,.slice A1 n1 c1,.slice A2 n2 c2,.bool s.num.neg,.slice A3 n3 c3,.slice A4 n4 c4] 35)) (A7v (Agg.below HX.o Below.go) (Agg.below HY.o Below.go) (by simp) (by go_simp) (by go_simp) (by go_simp) (by go_simp) (by go_simp) (by go_simp))
  rw[OK.o] at C
  refine C.mono ?_
  clear C
  rintro _ w1 ⟨rfl,hb1⟩
  obtain ⟨hc_w1,hf_w1⟩:=C_ hb1
  have hz0_w1:w.heap.size<w1.heap.size:=N_ hb1
  have hz1_w1:w.heap.size+1<w1.heap.size:=N_ hb1
  have hz2_w1:w.heap.size+1+1<w1.heap.size:=N_ hb1
  have hz3_w1:w.heap.size+1+1+1<w1.heap.size:=N_ hb1
  go_wp2
  refine bodyPost_ret (v:=.agg #[.bool false,.slice none 0 0,.slice none 0 0]) (by simp[results,Tryz.results7,go_sem, *]) rfl ?_
  rw[E.o]
  exact A1w Below.go
 have E:=A_ (show A0u r s=(mkR (L_ r*I_ s - L_ s*I_ r) (I_ r*I_ s)) by unfold A0u;rw[hok];rfl)
 have OK:=A_ (B5y hok)
 rw[Bool.and_eq_true] at hok
 have VR:=A_ (ratOkB_iff.1 hok.1);have VS:=A_ (ratOkB_iff.1 hok.2)
 clear hok
 go_enter Tryz.func7,Tryz.ntmps7
 go_wp2_with fail
 have C:=A1r (some ⟨w.heap.size+1+1+1,0,none⟩) 2 2 [r,s] _ ((((w.alloc (.cells #[.bool r.num.neg,.slice A1 n1 c1,.slice A2 n2 c2] 35)).alloc (.cells #[.bool s.num.neg,.slice A3 n3 c3,.slice A4 n4 c4] 35)).alloc (.cells #[.bool false,.slice none 0 0,.slice none 0 0] 35)).alloc (.cells #[.bool r.num.neg,.slice A1 n1 c1,.slice A2 n2 c2,.bool s.num.neg,.slice A3 n3 c3,.slice A4 n4 c4] 35)) (A7v (Agg.below HX.o Below.go) (Agg.below HY.o Below.go) (by simp) (by go_simp) (by go_simp) (by go_simp) (by go_simp) (by go_simp) (by go_simp))
 rw[OK.o] at C
 refine C.mono ?_
 clear C
 rintro _ w1 ⟨rfl,hb1⟩
 obtain ⟨hc_w1,hf_w1⟩:=C_ hb1
 have hz0_w1:w.heap.size<w1.heap.size:=N_ hb1
 have hz1_w1:w.heap.size+1<w1.heap.size:=N_ hb1
 have hz2_w1:w.heap.size+1+1<w1.heap.size:=N_ hb1
 have hz3_w1:w.heap.size+1+1+1<w1.heap.size:=N_ hb1
 go_wp2_with fail
 refine Z_ (by simp) ?_
 dsimp only [List.dropLast,List.getLast,List.length]
 iterate 2
  refine D_ _ ?_
 refine F_ (MP.aggS (⟨Q_ (-L_ s),s.den⟩:TRat)) ?_ ?_
 ·intro yq zq wq hC hd
  obtain ⟨hcq,hfq⟩:=C_ hC
  simp at hd
  refine H_ ?_
  exact B3g (C0f _ s _ wq (Agg.below HY.o Below.go) VS.o.num)
 refine F_ (MP.agg (mkR (L_ r*I_ s - L_ s*I_ r) (I_ r*I_ s))) ?_ ?_
 ·intro yq zq wq hC hd
  obtain ⟨hcq,hfq⟩:=C_ hC
  simp at hd
  refine H_ ?_
  obtain ⟨_,_,t,ha⟩:=hd
  have C:=C1b _ _ r ⟨Q_ (-L_ s),s.den⟩ _ t wq (Agg.below HX.o Below.go) ha VR.o VS.o.neg
  rw[(B4f s).1,(B4f s).2,Int.neg_mul,← Int.sub_eq_add_neg] at C
  exact K_ C
 intro yq zq wa hC hd (hdis:Hid _)
 simp at hd
 have q3:=hd.2.2.2
 obtain ⟨⟨ha,hf⟩,hr⟩:=q3
 obtain ⟨B3,m3,d3,t3,B4,m4,d4,t4,e3,hz,hs1,hs2⟩:=TRat.agg ha
 have HA:=A_ ha;have HF:=A_ hf;have HR:=A_ hr
 clear hd hdis hz hs1 hs2 ha hf hr
 obtain ⟨hc_wa,hf_wa⟩:=C_ hC
 have hz0_wa:w.heap.size<wa.heap.size:=N_ hC
 have hz1_wa:w.heap.size+1<wa.heap.size:=N_ hC
 have hz2_wa:w.heap.size+1+1<wa.heap.size:=N_ hC
 have hz3_wa:w.heap.size+1+1+1<wa.heap.size:=N_ hC
 go_wp2
 refine bodyPost_ret (v:=.agg #[.bool (mkR (L_ r*I_ s - L_ s*I_ r) (I_ r*I_ s)).num.neg,.slice B3 m3 d3,.slice B4 m4 d4]) (by simp[results,Tryz.results7,go_sem, *]) rfl ?_
 rw[E.o]
 rw[e3] at HA
 refine A0o (lo:=w.heap.size+4) HA.o HF.o (fun b hb=>by have:=(HR.o b hb).1;omega) (by omega) ?_ ?_
 ·exact Above.go
 exact Below.go

theorem A5h (v:Value) (x:TRat) (b:List Nat) (w:World) (hx:Agg w v x b) :
  Calls Tryz.prog 82 #[v] w (A0j w (.bool (!x.den.isEmpty))):=by
 obtain ⟨A1,n1,c1,s1,A2,n2,c2,s2,rfl,rfl,hs1,hs2⟩:=TRat.agg hx
 have E:=A_ (show decide (0<n2)=!x.den.isEmpty by rw[← hs2.1];cases x.den<;>simp)
 clear hs1 hs2 hx
 go_enter Tryz.func82,Tryz.ntmps82
 go_wp2
 go_ret
 exact ⟨R_ E.o,Below.go⟩
end Go.Proofs.YtbhemnidcleaiaaGreat.X
