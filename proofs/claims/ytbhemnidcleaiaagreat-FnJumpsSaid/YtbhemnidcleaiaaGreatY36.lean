/- A part of the proof. -/
import Derived.Test.YtbhemnidcleaiaaGreatY35
import Derived.Test.YtbhemnidcleaiaaGreatY22
import Derived.Deep.RegionWith
set_option linter.constructorNameAsVariable false
set_option maxHeartbeats 16000000
set_option maxRecDepth 10000
namespace Go.Proofs.YtbhemnidcleaiaaGreat.X
open Go.RowKit Go.XB Go.XN
theorem D2d {W:World} {g:Nat} {q:Int} {t:TypeId} (hc:W.heap[g]?=some (.cells #[.int .i64 q] t)) (hq:I64 q):Sl W (some ⟨g,0,none⟩) 1 1 [q] [g]:=by
 refine ⟨rfl,Nat.le_refl _,by decide,fun h=>absurd h (by decide),fun _=>⟨g,0,[[]],rfl,rfl,rfl,E_ hc,fun k x fs hx hf=>?_⟩⟩
 obtain rfl:k=0:=by have:=(List.getElem?_eq_some_iff.1 hx).1;simp at this;exact this
 simp at hx hf
 subst hx;subst hf
 refine ⟨[.int .i64 q],fun j u hu=>?_,rfl,rfl,hq⟩
 obtain rfl:j=0:=by have:=(List.getElem?_eq_some_iff.1 hu).1;simp at this;exact this
 simp at hu;subst hu
 exact (B_ hc (j:=0) rfl).1
theorem D0l {m:TMesh} {k:Nat} {t:TTri} (h:m.triangles[k]?=some t):A8b m k=A1i (A5t m) t.b t.c:=by
 unfold A8b;rw[List.getD_eq_getElem?_getD,h];rfl
def C6o (w:World) (g:Nat) (e:Ending) (w':World):Prop:=∃ (m:TMesh) (v:Value) (s:List Nat),e=.returned v∧A6x m∧Agg w' v m s∧w.grownBy w' (some g)∧∀ b∈s,w.heap.size≤b
structure MeS (w wr:World) (g:Nat) (A:Option Addr) (n c gB j:Nat) (m:TMesh) (B0:Option Addr) (n0 c0:Nat) (B1:Option Addr) (n1 c1:Nat) (s:List Nat):Prop where
 lv:Lev j m
 kb:wr.heap[gB]?=some (.cells #[.slice B0 n0 c0,.slice B1 n1 c1] 26)
 ag:Agg wr (.agg #[.slice B0 n0 c0,.slice B1 n1 c1]) m s
 nw:∀ b∈s,w.heap.size+1≤b∧b≠gB
 cu:Cur wr g A n c
 gr:w.grownBy wr (some g)
 rs:wr.heap[w.heap.size]?=some (.cells #[.slice none 0 0,.slice none 0 0] 26)
theorem A6s {w w1 w2:World} {r:Option Nat} (h:w.grownBy w1 r) (hb:Below w1.heap.size w1 w2):w.grownBy w2 r:=A3j h (A2f hb)
theorem B1k {w w1 w2:World} {r:Option Nat} (h:w.grownBy w1 r) (hb:Below w.heap.size w1 w2):w.grownBy w2 r :=
 ⟨hb.os.trans h.os,hb.tape.trans h.tape,hb.output.trans h.output,Nat.le_trans h.size hb.size,fun k hk hne=>(hb.block k hk).trans (h.block k hk hne)⟩
theorem D6b {α:Type} [Dat α] {w w':World} {A:Option Addr} {n c g:Nat} {xs:List α} {bs:List Nat} (h:Sl w A n c xs bs) (hg:w.grownBy w' (some g)) (hn:g∉bs):Sl w' A n c xs bs :=
 C2l h hg (fun x hx=>by injection hx with e;exact e ▸ hn)
theorem MeS.next {w wr w5 w6 w7:World} {g:Nat} {A:Option Addr} {n c gB j:Nat} {m:TMesh} {B0:Option Addr} {n0 c0:Nat} {B1:Option Addr} {n1 c1:Nat} {s:List Nat} {E0:Option Addr} {e0 f0:Nat} {E1:Option Addr} {e1 f1:Nat} {s7:List Nat} {o:Obj} {k:Nat}
  (h:MeS w wr g A n c gB j m B0 n0 c0 B1 n1 c1 s) (hj:j≤1) (hk:k<m.triangles.length) (hg5:wr.drew.grownBy w5 (some g)) (hc5:Cur w5 g A n c) (hb6:Below (w5.alloc o).heap.size (w5.alloc o) w6) (hb7:Below w6.heap.size w6 w7)
  (ha7:Agg w7 (.agg #[.slice E0 e0 f0,.slice E1 e1 f1]) (C0k m (A5t m) (onF m (A8b m k))) s7) (hn7:∀ b∈s7,w6.heap.size≤b) (hgl:g<w.heap.size) (hwB:w.heap.size<gB) :
  MeS w ((w7.setCell ⟨gB,0,none⟩ (.slice E0 e0 f0)).setCell ⟨gB,1,none⟩ (.slice E1 e1 f1)) g A n c gB (j+1) (C0k m (A5t m) (onF m (A8b m k))) E0 e0 f0 E1 e1 f1 s7:=by
 have DR:Below wr.heap.size wr wr.drew:=⟨rfl,rfl,rfl,Nat.le_refl _,fun _ _=>rfl⟩
 have K5:w5.heap[gB]?=some (.cells #[.slice B0 n0 c0,.slice B1 n1 c1] 26):=(hg5.block gB (E_ h.kb) (by intro e;injection e with e;omega)).trans h.kb
 have R5:w5.heap[w.heap.size]?=some (.cells #[.slice none 0 0,.slice none 0 0] 26):=(hg5.block w.heap.size (E_ h.rs) (by intro e;injection e with e;omega)).trans h.rs
 have K6:=A0d (A0d K5 (Below.box o)) hb6
 have K7:=A0d K6 hb7
 have R7:=A0d (A0d (A0d R5 (Below.box o)) hb6) hb7
 have l6:=E_ K6
 have l7:=E_ K7
 have KE:∀ b,b≠gB→((w7.setCell ⟨gB,0,none⟩ (.slice E0 e0 f0)).setCell ⟨gB,1,none⟩ (.slice E1 e1 f1)).heap[b]?=w7.heap[b]?:=fun b hb=>A0b gB [.slice E0 e0 f0,.slice E1 e1 f1] w7 0 b hb
 refine ⟨C9z hj h.lv hk,A8w (A8w K7),ha7.keep (fun b hb=>KE b (by have:=hn7 b hb;omega)),fun b hb=>by have:=hn7 b hb;omega,?_,?_,(KE _ (by omega)).trans R7⟩
 ·exact D1m (((hc5.below' (Below.box o)).below' hb6).below' hb7) (KE g (by omega)) (by simp[World.setCell];omega)
 refine B1k (A6s (A6s (A6s (A3j (A6s h.gr DR) hg5) (Below.box o)) hb6) hb7) ?_
 exact ((Below.refl w.heap.size w7).setCell (p:=⟨gB,0,none⟩) (show w.heap.size≤gB by omega) _).setCell (p:=⟨gB,1,none⟩) (show w.heap.size≤gB by omega) _
attribute [local go_sem] O_ Go.XB.opAt P_ M_ Region.wanted yielded
attribute [local simp] P_ M_ MP.eq MP.agg MP.sl MP.box MP.slbox A0e
theorem C2p (g:Nat) (A:Option Addr) (n c:Nat) (xs:List TByte) (bs:List Nat) (w:World) (hx:Sl w A n c xs bs) (hn:n≤1048576) (hc:Cur w g A n c) (hg:g∉bs) :
  Calls Tryz.prog 59 #[.pointer (some ⟨g,0,none⟩)] w (C6o w g):=by
 have HX:=A_ hx;have HC:=A_ hc;have HG:=A_ hg;have HN:=A_ hn
 have hgl:g<w.heap.size:=hc.lt'
 clear hx hc hg hn
 go_enter Tryz.func59,Tryz.ntmps59
 go_upto_region 1 with fail
 obtain ⟨w0,hw0⟩:∃ x,x=w.alloc (.cells #[.slice none 0 0,.slice none 0 0] 26):=⟨_,rfl⟩
 have HB0:=A_ (show Below w.heap.size w w0 by rw[hw0];exact Below.box _)
 have HR0:=A_ (show w0.heap[w.heap.size]?=some (.cells #[.slice none 0 0,.slice none 0 0] 26) by rw[hw0];exact heap_alloc_new w _)
 have HZ0:=A_ (show w0.heap.size=w.heap.size+1 by rw[hw0];simp)
 rw[← hw0]
 clear hw0
 go_wp2_with fail
 refine (B9o g A n c xs bs w0 (HX.o.below HB0.o) HN.o (HC.o.below' HB0.o) HG.o).mono ?_
 rintro _ w1 ⟨m0,v,s,rfl,hin,ha,hgr,hcu,hns⟩
 obtain ⟨B0,n0,c0,s0,B1,n1,c1,s1,rfl,hzs,_,_⟩:=TMesh.agg ha
 have HA1:=A_ ha;have HIN:=A_ (C6j hin);have HC1:=A_ hcu
 have HG1:=A_ hgr
 have HNS:=A_ (show ∀ b∈s,w.heap.size+1≤b∧b<w1.heap.size from fun b hb=>⟨by have:=hns b hb;have:=HZ0.o;omega,ha.lt b hb⟩)
 have HX1:=A_ (D6b (HX.o.below HB0.o) hgr HG.o)
 have HR1:=A_ ((hgr.block w.heap.size (E_ HR0.o) (by intro e;injection e with e;omega)).trans HR0.o)
 clear hin ha hgr hcu hns hzs
 go_upto_region 2 with fail
 obtain ⟨w2,hw2⟩:∃ x,x=w1.alloc (.cells #[.slice B0 n0 c0,.slice B1 n1 c1] 26):=⟨_,rfl⟩
 have HB2:=A_ (show Below w1.heap.size w1 w2 by rw[hw2];exact Below.box _)
 have KB2:=A_ (show w2.heap[w1.heap.size]?=some (.cells #[.slice B0 n0 c0,.slice B1 n1 c1] 26) by rw[hw2];exact heap_alloc_new w1 _)
 rw[← hw2]
 clear hw2
 have hw1l:=E_ HR1.o
 go_wp2_with fail
 refine (A3m 3 (by decide) (by decide) g A n c xs bs w2 (HX1.o.below HB2.o) HN.o (HC1.o.below' HB2.o) HG.o).mono ?_
 rintro _ w3 ⟨x,rfl,hx3,hc3,hg3⟩
 obtain ⟨nn,rfl⟩:∃ nn:Nat,x=nn:=⟨x.toNat,by omega⟩
 have NN2:=A_ (show nn+0≤2 by omega)
 have SZ2:=HB2.o.size
 have S3:=A_ (show MeS w w3 g A n c w1.heap.size 0 m0 B0 n0 c0 B1 n1 c1 s from
  ⟨HIN.o,(hg3.block _ (E_ KB2.o) (by intro e;injection e with e;omega)).trans KB2.o,(HA1.o.below HB2.o).keep (fun b hb=>hg3.block b (by have:=HNS.o b hb;omega) (by intro e;injection e with e;have:=HNS.o b hb;omega)),fun b hb=>by have:=HNS.o b hb;omega,hc3,A3j (A6s (A3j (A2f HB0.o) HG1.o) HB2.o) hg3,(hg3.block _ (by omega) (by intro e;injection e with e;omega)).trans (A0d HR1.o HB2.o)⟩)
 clear hx3 hc3 hg3
 have hwB:w.heap.size<w1.heap.size:=hw1l
 go_wp2_with fail
 go_loopg [4] 2 (fun gh s4 wr=>∃ (j nn:Nat) (m:TMesh) (B0:Option Addr) (n0 c0:Nat) (B1:Option Addr) (n1 c1:Nat) (s:List Nat),s4=.int .i64 nn∧nn≤gh∧nn+j≤2∧Hid (MeS w wr g A n c w1.heap.size j m B0 n0 c0 B1 n1 c1 s))
 case atStart=>exact ⟨0,nn,m0,B0,n0,c0,B1,n1,c1,s,rfl,by have:=NN2.o;omega,NN2.o,S3.o⟩
 case round =>
  clear S3 NN2
  obtain ⟨j,nn,m,B0,n0,c0,B1,n1,c1,s,rfl,hgk,hnj,HS⟩:=hrel
  obtain ⟨y0,-⟩:=B_ HS.o.kb (j:=0) rfl
  obtain ⟨y1,-⟩:=B_ HS.o.kb (j:=1) rfl
  obtain ⟨r0,r0'⟩:=B_ HS.o.rs (j:=0) rfl
  obtain ⟨r1,r1'⟩:=B_ HS.o.rs (j:=1) rfl
  simp at y0 y1 r0 r1
  have lB:w1.heap.size<wr.heap.size:=E_ HS.o.kb
  have lw:w.heap.size<wr.heap.size:=E_ HS.o.rs
  have hgn:g≠w1.heap.size:=by omega
  rcases Nat.eq_zero_or_pos nn with h0 | h0
  ·subst h0
   clear hgk hnj
   go_wp2
   refine bodyPost_ret (v:=.agg #[.slice B0 n0 c0,.slice B1 n1 c1]) (by simp[results,Tryz.results59,go_sem, *]) rfl ?_
   exact ⟨m,_,s,rfl,C7r HS.o.lv,HS.o.ag.keep (fun b hb=>A0b w.heap.size [.slice B0 n0 c0,.slice B1 n1 c1] wr 0 b (by have:=(HS.o.nw b hb).1;omega)),B1k HS.o.gr (((Below.refl w.heap.size wr).setCell (p:=⟨w.heap.size,0,none⟩) (Nat.le_refl _) _).setCell (p:=⟨w.heap.size,1,none⟩) (Nat.le_refl _) _),fun b hb=>by have:=(HS.o.nw b hb).1;omega⟩
  have hni:(0:Int)<nn:=by omega
  obtain ⟨gh,rfl⟩:∃ gh,gk=gh+1:=⟨gk - 1,by omega⟩
  obtain ⟨nn,rfl⟩:∃ k,nn=k+1:=⟨nn - 1,by omega⟩
  have HJ:=A_ (show j≤1 by omega)
  have HNJ:=A_ (show nn+(j+1)≤2 by omega)
  have HNG:=A_ (show nn≤gh by omega)
  have SD:=A_ (C9v HJ.o HS.o.lv)
  have HLM:=A_ (show m.triangles.length=n1 by
   obtain ⟨_,_,_,_,_,_,_,_,e,_,_,h⟩:=TMesh.agg HS.o.ag
   cases e;exact h.1)
  clear hgk hnj h0
  rcases Nat.lt_or_ge n1 10 with h10 | h10
  ·have h10i:(n1:Int)<10:=by omega
   go_upto_block 1 with fail
   have DR:=A_ (show Below wr.heap.size wr wr.drew from ⟨rfl,rfl,rfl,Nat.le_refl _,fun _ _=>rfl⟩)
   have HXr:=A_ (D6b HX.o HS.o.gr HG.o)
   have XD:=A_ (HXr.o.below DR.o)
   have CD:=A_ (HS.o.cu.below' DR.o)
   have AD:=A_ (HS.o.ag.below DR.o)
   have hn1p:(0:Int)<n1:=by have:=SD.o.s.t1;have:=HLM.o;omega
   have hn1q:(n1:Int)≤256:=by omega
   have SNB:=A_ (show ∀ b∈s,b<wr.drew.heap.size∧b≠g∧b≠w1.heap.size from fun b hb=>⟨AD.o.lt b hb,by have:=(HS.o.nw b hb).1;omega,(HS.o.nw b hb).2⟩)
   have KH:=A_ (show ∀ W:World,W.heap[w1.heap.size]?=some (.cells #[.slice B0 n0 c0,.slice B1 n1 c1] 26)→(W.cell? ⟨w1.heap.size,0,none⟩=some (.slice B0 n0 c0)∧W.cell? ⟨w1.heap.size,1,none⟩=some (.slice B1 n1 c1)∧W.frozen? ⟨w1.heap.size,0,none⟩=false∧W.frozen? ⟨w1.heap.size,1,none⟩=false∧w1.heap.size<W.heap.size) from fun W h=>⟨(B_ h (j:=0) rfl).1,(B_ h (j:=1) rfl).1,(B_ h (j:=0) rfl).2,(B_ h (j:=1) rfl).2,E_ h⟩)
   have H5:=A_ (show ∀ W:World,wr.drew.grownBy W (some g)→W.heap[w1.heap.size]?=some (.cells #[.slice B0 n0 c0,.slice B1 n1 c1] 26) from fun W h=>(h.block w1.heap.size lB (by intro e;injection e with e;exact hgn e.symm)).trans HS.o.kb)
   have A5:=A_ (show ∀ W:World,wr.drew.grownBy W (some g)→Agg W (.agg #[.slice B0 n0 c0,.slice B1 n1 c1]) m s from fun W h=>AD.o.keep (fun b hb=>h.block b (SNB.o b hb).1 (by intro e;injection e with e;exact (SNB.o b hb).2.1 e)))
   have HEM:=A_ (show ∀ (W:World) (k:Nat),wr.drew.grownBy W (some g)→(k:Int)<n1→Calls Tryz.prog 120 #[.agg #[.slice B0 n0 c0,.slice B1 n1 c1],.slice (some ⟨W.heap.size,0,none⟩) 1 1] (W.alloc (.cells #[.int .i64 k] 3)) (B7j (W.alloc (.cells #[.int .i64 k] 3)) [A8b m k]) from fun W k h hk=>by
    have hkl:k<m.triangles.length:=by rw[HLM.o];omega
    have hk2:m.triangles[k]?=some m.triangles[k]:=List.getElem?_eq_getElem hkl
    have BD:=SD.o.b k hkl
    rw[D0l hk2] at BD ⊢
    exact B6x _ m s (some ⟨W.heap.size,0,none⟩) 1 k m.triangles[k] [W.heap.size] _ ((A5.o W h).below (Below.box _)) (D2d (heap_alloc_new W _) (by constructor<;>omega)) SD.o.s hk2 ⟨BD.x0,BD.x1⟩)
   have HBI:=A_ (show ∀ (W:World) (AR:Option Addr) (cR:Nat) (bR:List Nat) (k:Nat),Agg W (.agg #[.slice B0 n0 c0,.slice B1 n1 c1]) m s→Sl W AR 1 cR [A8b m k] bR→(k:Int)<n1→Calls Tryz.prog 119 #[.agg #[.slice B0 n0 c0,.slice B1 n1 c1],.slice AR 1 cR] W (C2b W (C0k m (A5t m) (onF m (A8b m k)))) from fun W AR cR bR k ha hl hk =>
    B6v _ m s AR cR (A8b m k) bR W ha hl (SD.o.b k (by rw[HLM.o];omega)))
   have lD:w1.heap.size<wr.drew.heap.size:=lB
   clear r0 r0' r1 r1'
   go_cut [] (fun wx=>∃ (m':TMesh) (E0:Option Addr) (e0 f0:Nat) (E1:Option Addr) (e1 f1:Nat) (s7:List Nat),Hid (MeS w wx g A n c w1.heap.size (j+1) m' E0 e0 f0 E1 e1 f1 s7))
   case first =>
    go_wp2_with fail
    go_region_with (first
     | (go_at_call 48;refine (A3m n1 hn1p hn1q g A n c xs bs _ XD.o HN.o CD.o HG.o).mono ?_;rintro _ w5 ⟨q,rfl,hq,hc5,hg5⟩;obtain ⟨k,rfl⟩:∃ k:Nat,q=k:=⟨q.toNat,by omega⟩;obtain ⟨a0,a1,a2,a3,a4⟩:=KH.o w5 (H5.o w5 hg5))
     | (go_at_call 120;refine (HEM.o w5 k hg5 hq.2).mono ?_;rintro _ w6 ⟨AR,nR,cR,bR,rfl,hsR,hnR,hb6⟩;obtain rfl:1=nR:=hsR.1;obtain ⟨d0,d1,d2,d3,d4⟩:=KH.o w6 (A0d (A0d (H5.o w5 hg5) (Below.box _)) hb6))
     | (go_at_call 119;refine (HBI.o w6 AR cR bR k (((A5.o w5 hg5).below (Below.box _)).below hb6) hsR hq.2).mono ?_;rintro _ w7 ⟨v7,s7,rfl,ha7,hn7,hb7⟩;obtain ⟨E0,e0,f0,u0,E1,e1,f1,u1,rfl,hz7,_,_⟩:=TMesh.agg ha7;obtain ⟨p0,p1,p2,p3,p4⟩:=KH.o w7 (A0d (A0d (A0d (H5.o w5 hg5) (Below.box _)) hb6) hb7)))
    all_goals
     have HKN:=A_ (show k<m.triangles.length by rw[HLM.o];omega)
     have HM9:=A_ (MeS.next HS.o HJ.o HKN.o hg5 hc5 hb6 hb7 ha7 hn7 hgl hwB)
     first
      | (go_wp2_with fail;go_meet;exact ⟨_,_,_,_,_,_,_,_,HM9⟩)
      | (go_step;go_meet;exact ⟨_,_,_,_,_,_,_,_,HM9⟩)
      | (go_step;go_step;go_meet;exact ⟨_,_,_,_,_,_,_,_,HM9⟩)
      | (go_step;refine Met.intro ?_;go_step;(repeat apply Exists.intro);refine ⟨?rel,rfl⟩;exact ⟨_,_,_,_,_,_,_,_,HM9⟩)
   case rest =>
   obtain ⟨m',E0,e0,f0,E1,e1,f1,s7,HM9⟩:=hcut
   clear HXr XD CD AD SNB KH H5 A5 HEM HBI lD y0 y1 lB lw
   have hq1:(nn:Int)≤2:=by have:=HNJ.o;omega
   have hq0:(0:Int)≤nn:=by omega
   go_wp2_with fail
   go_roundg gh
   case measure=>omega
   case rel=>exact ⟨j+1,nn,m',E0,e0,f0,E1,e1,f1,s7,by go_num,HNG.o,HNJ.o,HM9.o⟩
  have h10i:¬ ((n1:Int)<10):=by omega
  go_wp2
  refine bodyPost_ret (v:=.agg #[.slice B0 n0 c0,.slice B1 n1 c1]) (by simp[results,Tryz.results59,go_sem, *]) rfl ?_
  exact ⟨m,_,s,rfl,C7r HS.o.lv,HS.o.ag.keep (fun b hb=>A0b w.heap.size [.slice B0 n0 c0,.slice B1 n1 c1] wr 0 b (by have:=(HS.o.nw b hb).1;omega)),B1k HS.o.gr (((Below.refl w.heap.size wr).setCell (p:=⟨w.heap.size,0,none⟩) (Nat.le_refl _) _).setCell (p:=⟨w.heap.size,1,none⟩) (Nat.le_refl _) _),fun b hb=>by have:=(HS.o.nw b hb).1;omega⟩
end Go.Proofs.YtbhemnidcleaiaaGreat.X
