/- A part of the proof. -/
import Derived.Test.YtbhemnidcleaiaaGreatY30
import Derived.Test.YtbhemnidcleaiaaGreatY36
import Derived.Test.YtbhemnidcleaiaaGreatY22
set_option linter.constructorNameAsVariable false
set_option maxHeartbeats 16000000
set_option maxRecDepth 10000
namespace Go.Proofs.YtbhemnidcleaiaaGreat.X
open Go.RowKit Go.XB Go.XN
def D0v (p:TProblem):Prop:=A6x p.mesh∧CoefI p.diffusion p.source 3
def C4o (w:World) (g:Nat) (e:Ending) (w':World):Prop:=∃ (p:TProblem) (v:Value) (s:List Nat),e=.returned v∧D0v p∧Agg w' v p s∧w.grownBy w' (some g)∧∀ b∈s,w.heap.size≤b
theorem C4g {w w1 w2:World} {r:Option Nat} (h:w.grownBy w1 r) (hb:Below w.heap.size w1 w2):w.grownBy w2 r :=
 ⟨hb.os.trans h.os,hb.tape.trans h.tape,hb.output.trans h.output,Nat.le_trans h.size hb.size,fun k hk hne=>(hb.block k hk).trans (h.block k hk hne)⟩
theorem B6l {L b:Nat} {w:World} (h:L≤b) (x0 x1 x2 x3:Value):Below L w ((((w.setCell ⟨b,0,none⟩ x0).setCell ⟨b,1,none⟩ x1).setCell ⟨b,2,none⟩ x2).setCell ⟨b,3,none⟩ x3) :=
 ((((Below.refl L w).setCell (p:=⟨b,0,none⟩) h _).setCell (p:=⟨b,1,none⟩) h _).setCell (p:=⟨b,2,none⟩) h _).setCell (p:=⟨b,3,none⟩) h _
attribute [local go_sem] O_ Go.XB.opAt P_ M_ Region.wanted yielded
attribute [local simp] P_ M_ MP.eq MP.agg MP.sl A0e
theorem C2m (g:Nat) (A:Option Addr) (n c:Nat) (xs:List TByte) (bs:List Nat) (w:World) (hx:Sl w A n c xs bs) (hn:n≤1048576) (hc:Cur w g A n c) (hg:g∉bs) :
  Calls Tryz.prog 25 #[.pointer (some ⟨g,0,none⟩)] w (C4o w g):=by
 have HX:=A_ hx;have HC:=A_ hc;have HG:=A_ hg;have HN:=A_ hn
 have hgl:g<w.heap.size:=hc.lt'
 clear hx hc hg hn
 go_enter Tryz.func25,Tryz.ntmps25
 go_wp2_with fail
 obtain ⟨w0,hw0⟩:∃ x,x=w.alloc (.cells #[.slice none 0 0,.slice none 0 0,.slice none 0 0,.slice none 0 0] 29):=⟨_,rfl⟩
 have HB0:=A_ (show Below w.heap.size w w0 by rw[hw0];exact Below.box _)
 have hbox:w0.heap[w.heap.size]?=some (.cells #[.slice none 0 0,.slice none 0 0,.slice none 0 0,.slice none 0 0] 29):=by rw[hw0];exact heap_alloc_new w _
 have hl0:w0.heap.size=w.heap.size+1:=by rw[hw0];simp
 have HR0:=A_ hbox
 rw[← hw0]
 clear hw0 hbox
 refine (B8z g A n c xs bs w0 (HX.o.below HB0.o) HN.o (HC.o.below' HB0.o) HG.o).mono ?_
 rintro _ w1 ⟨ks,fs,K,cK,F,cF,bK,bF,rfl,hI,hK,hF,hnew,hc1,hg1⟩
 have HI:=A_ hI;have HK:=A_ hK;have HF:=A_ hF;have HC1:=A_ hc1;have HG1:=A_ hg1
 have HN1:=A_ (show ∀ b∈bK++bF,w.heap.size+1≤b∧b<w1.heap.size from fun b hb=>⟨by have:=hnew b hb;omega,by rcases List.mem_append.1 hb with h | h;exact hK.lt b h;exact hF.lt b h⟩)
 have HR1:=A_ ((hg1.block w.heap.size (by omega) (by intro e;injection e with e;omega)).trans HR0.o)
 have HX1:=A_ (show Sl w1 A n c xs bs from (HX.o.below HB0.o).grown hg1 HG.o)
 have hs1:=hg1.size
 clear hI hK hF hnew hc1 hg1
 go_wp2_with fail
 refine (C2p g A n c xs bs w1 HX1.o HN.o HC1.o HG.o).mono ?_
 rintro _ w2 ⟨m,v,s,rfl,hin,ha,hgr,hrs⟩
 obtain ⟨A0,n0,c0,s0,A1,n1,c1,s1,rfl,hzs,hp0,hp1⟩:=TMesh.agg ha
 have hgK:g∉bK:=fun h=>by have:=(HN1.o g (List.mem_append_left _ h)).1;omega
 have hgF:g∉bF:=fun h=>by have:=(HN1.o g (List.mem_append_right _ h)).1;omega
 have AP:=A_ (TProblem.mkAgg (x:=⟨m,ks,fs⟩) hp0 hp1 (HK.o.grown hgr hgK) (HF.o.grown hgr hgF))
 have NB:=A_ (show ∀ b∈s0++(s1++(bK++bF)),w.heap.size+1≤b from fun b hb=>by
  rw[← List.append_assoc] at hb
  rcases List.mem_append.1 hb with h | h
  ·rw[hzs] at hrs
   have:=hrs b h;omega
  exact (HN1.o b h).1)
 have HP:=A_ (show D0v ⟨m,ks,fs⟩ from ⟨hin,HI.o⟩)
 have HR2:=A_ ((hgr.block w.heap.size (by omega) (by intro e;injection e with e;omega)).trans HR1.o)
 have HG2:=A_ (show w.grownBy w2 (some g) from A2j (A2j (A7p (World.grownBy.refl _ _) HB0.o) HG1.o) hgr)
 obtain ⟨r0,e0⟩:=B_ HR2.o (j:=0) rfl
 obtain ⟨r1,e1⟩:=B_ HR2.o (j:=1) rfl
 obtain ⟨r2,e2⟩:=B_ HR2.o (j:=2) rfl
 obtain ⟨r3,e3⟩:=B_ HR2.o (j:=3) rfl
 have hl2:w.heap.size<w2.heap.size:=E_ HR2.o
 clear ha hin hgr hrs hzs hp0 hp1 hgK hgF
 go_wp2
 refine bodyPost_ret (v:=.agg #[.slice A0 n0 c0,.slice A1 n1 c1,.slice K 3 cK,.slice F 3 cF]) (by simp[results,Tryz.results25,go_sem, *]) rfl ?_
 refine ⟨⟨m,ks,fs⟩,_,_,rfl,HP.o,AP.o.keep (fun b hb=>A0b w.heap.size [.slice A0 n0 c0,.slice A1 n1 c1,.slice K 3 cK,.slice F 3 cF] w2 0 b (by have:=NB.o b hb;omega)),C4g HG2.o (B6l (Nat.le_refl _) _ _ _ _),fun b hb=>by have:=NB.o b hb;omega⟩

theorem B5s (A:Option Addr) (n c:Nat) (xs:List TByte) (bs:List Nat) (w:World) (hx:Sl w A n c xs bs) (hn:n≤1048576) :
  Calls Tryz.prog 5 #[.slice A n c] w (fun e w'=>∃ (p:TProblem) (v:Value) (s:List Nat),e=.returned v∧D0v p∧Agg w' v p s∧Below w.heap.size w w'):=by
 have HX:=A_ hx;have HN:=A_ hn
 have HG:=A_ (show w.heap.size+1∉bs from fun h=>by have:=hx.lt _ h;omega)
 clear hx hn
 go_enter Tryz.func5,Tryz.ntmps5
 go_wp2_with fail
 have HB0:=A_ (Below.box (w:=w) (.cells #[.slice none 0 0,.slice none 0 0,.slice none 0 0,.slice none 0 0] 29))
 refine (C3p A n c xs bs (w.alloc (.cells #[.slice none 0 0,.slice none 0 0,.slice none 0 0,.slice none 0 0] 29)) (HX.o.below HB0.o) HN.o).mono ?_
 rintro _ w1 ⟨rfl,hc1,hb1,hl1⟩
 rw[World.size_alloc] at hc1 hb1 hl1
 have HC1:=A_ hc1;have HB1:=A_ hb1
 have HX1:=A_ (show Sl w1 A n c xs bs from (HX.o.below HB0.o).belowB hb1 (fun b hb=>by have:=HX.o.lt b hb;omega))
 have HR1:=A_ (show w1.heap[w.heap.size]?=some (.cells #[.slice none 0 0,.slice none 0 0,.slice none 0 0,.slice none 0 0] 29) from (hb1.block _ (by omega)).trans (heap_alloc_new w _))
 clear hc1 hb1
 go_wp2_with fail
 refine (C2m (w.heap.size+1) A n c xs bs w1 HX1.o HN.o HC1.o HG.o).mono ?_
 rintro _ w2 ⟨p,v,s,rfl,hin,ha,hgr,hrs⟩
 obtain ⟨A0,n0,c0,s0,A1,n1,c1,s1,A2,n2,c2,s2,A3,n3,c3,s3,rfl,hzs,_,_,_,_⟩:=TProblem.agg ha
 have HA:=A_ ha;have HIN:=A_ hin
 have HS:=A_ (show ∀ b∈s,b≠w.heap.size from fun b hb=>by have:=hrs b hb;omega)
 have HR2:=A_ ((hgr.block w.heap.size (by omega) (by intro e;injection e with e;omega)).trans HR1.o)
 have HB2:=A_ (show Below w.heap.size w w2 from ((HB0.o).trans (HB1.o.mono (by omega))).grown hgr (by omega) (fun k hk=>by injection hk with h;omega))
 obtain ⟨r0,e0⟩:=B_ HR2.o (j:=0) rfl
 obtain ⟨r1,e1⟩:=B_ HR2.o (j:=1) rfl
 obtain ⟨r2,e2⟩:=B_ HR2.o (j:=2) rfl
 obtain ⟨r3,e3⟩:=B_ HR2.o (j:=3) rfl
 have hl2:w.heap.size<w2.heap.size:=E_ HR2.o
 clear ha hin hgr hrs hzs
 go_wp2
 refine bodyPost_ret (v:=.agg #[.slice A0 n0 c0,.slice A1 n1 c1,.slice A2 n2 c2,.slice A3 n3 c3]) (by simp[results,Tryz.results5,go_sem, *]) rfl ?_
 exact ⟨p,_,s,rfl,HIN.o,HA.o.keep (fun b hb=>A0b w.heap.size [.slice A0 n0 c0,.slice A1 n1 c1,.slice A2 n2 c2,.slice A3 n3 c3] w2 0 b (HS.o b hb)),HB2.o.trans (B6l (Nat.le_refl _) _ _ _ _)⟩
end Go.Proofs.YtbhemnidcleaiaaGreat.X

namespace Go.XB
open Go.RowKit
theorem D0a {W:World} {g:Nat} {t:TypeId} {r s x:TRat} {b1 b2 b3:List Nat} {u0 u1 u2 u3 u4 u5 u6 u7 u8:Value} (h1:Dat.at_ W [u0,u1,u2] r b1) (h2:Dat.at_ W [u3,u4,u5] s b2) (h3:Dat.at_ W [u6,u7,u8] x b3)
  (hc:W.heap[g]?=some (.cells #[u0,u1,u2,u3,u4,u5,u6,u7,u8] t)):Sl W (some ⟨g,0,none⟩) 3 3 [r,s,x] (g::(b1++(b2++b3))):=by
 refine ⟨rfl,Nat.le_refl _,by decide,fun h=>absurd h (by decide),fun _=>⟨g,0,[b1,b2,b3],rfl,by simp,rfl,E_ hc,fun k x fs hx hf=>?_⟩⟩
 match k,hx,hf with
 | 0,hx,hf =>
  simp at hx hf;subst hx;subst hf
  refine ⟨_,fun j u hu=>?_,h1⟩
  match j,hu with
  | 0,hu=>simp at hu;subst hu;exact (B_ hc (j:=0) rfl).1
  | 1,hu=>simp at hu;subst hu;exact (B_ hc (j:=1) rfl).1
  | 2,hu=>simp at hu;subst hu;exact (B_ hc (j:=2) rfl).1
 | 1,hx,hf =>
  simp at hx hf;subst hx;subst hf
  refine ⟨_,fun j u hu=>?_,h2⟩
  match j,hu with
  | 0,hu=>simp at hu;subst hu;exact (B_ hc (j:=3) rfl).1
  | 1,hu=>simp at hu;subst hu;exact (B_ hc (j:=4) rfl).1
  | 2,hu=>simp at hu;subst hu;exact (B_ hc (j:=5) rfl).1
 | 2,hx,hf =>
  simp at hx hf;subst hx;subst hf
  refine ⟨_,fun j u hu=>?_,h3⟩
  match j,hu with
  | 0,hu=>simp at hu;subst hu;exact (B_ hc (j:=6) rfl).1
  | 1,hu=>simp at hu;subst hu;exact (B_ hc (j:=7) rfl).1
  | 2,hu=>simp at hu;subst hu;exact (B_ hc (j:=8) rfl).1
end Go.XB
namespace Go.Proofs.YtbhemnidcleaiaaGreat.X
open Go.RowKit Go.XB Go.XN
theorem D5d {r:TRat} (h:IsF r):S_ r=true:=by
 obtain ⟨a,ha,rfl⟩:=h
 exact ratOkB_iff.2 (D4r (by omega) (by omega))
theorem D0z {m:TMesh} {ks fs:List TRat} (h:A6x m) (hI:CoefI ks fs 3):ProbI ⟨m,dif2,fs⟩ (xsS m) (ysS m):=by
 refine ⟨(B4w h).1,rfl,(show dif2.all S_=true by decide +kernel),?_,hI.fl,List.all_eq_true.2 fun r hr=>D5d (hI.f r hr),fun t ht=>(B1c h ht).2.1⟩
 intro r hr
 have hr':r=A1y 2:=by simp[dif2] at hr;exact hr
 subst hr'
 decide +kernel
end Go.Proofs.YtbhemnidcleaiaaGreat.X
