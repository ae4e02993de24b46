/- A part of the proof. -/
import Derived.Test.YtbhemnidcleaiaaGreatY33
import Derived.Test.YtbhemnidcleaiaaGreatY34
import Derived.Test.YtbhemnidcleaiaaGreatY17
import Derived.Test.YtbhemnidcleaiaaGreatY19
import Derived.Test.YtbhemnidcleaiaaGreatY22
set_option linter.constructorNameAsVariable false
set_option maxHeartbeats 16000000
set_option maxRecDepth 10000
namespace Go.Proofs.YtbhemnidcleaiaaGreat.X
open Go.RowKit Go.XB Go.XN
def trK (fs:List Bool) (n:Nat):List Int:=(List.range n).filterMap fun i=>bif fs.getD i false then some (i:Int) else none
theorem C2x {fs:List Bool} {k:Nat} {f:Bool} (h:fs[k]?=some f):trK fs (k+1)=bif f then trK fs k++[(k:Int)] else trK fs k:=by
 unfold trK
 rw[List.range_succ,List.filterMap_append]
 cases f<;>simp[List.getD_eq_getElem?_getD,h]
theorem D2f {fs:List Bool} {n:Nat} {x:Int} (h:x∈trK fs n):0≤x∧x<n:=by
 obtain ⟨i,hi,hx⟩:=List.mem_filterMap.1 h
 have:=List.mem_range.1 hi
 cases hb:fs.getD i false
 ·rw[hb] at hx;cases hx
 rw[hb] at hx;cases hx;omega
theorem D2l {n i:Nat} (h:i<n):trK ((List.replicate n false).set i true) n=[(i:Int)]:=by
 have K:∀ k,k≤n→trK ((List.replicate n false).set i true) k=if i<k then [(i:Int)] else []:=by
  intro k
  induction k with
  | zero=>intro _;rfl
  | succ k ih =>
   intro hk
   have hg:((List.replicate n false).set i true)[k]?=some (decide (i=k)):=by
    rw[List.getElem?_set]
    by_cases e:i=k
    ·subst e;simp[h]
    simp[e,List.getElem?_replicate];omega
   rw[C2x hg,ih (by omega)]
   by_cases e:i=k
   ·subst e;simp
   by_cases e2:i<k
   ·have:i<k+1:=by omega
    simp[e,e2,this]
   have:¬ i<k+1:=by omega
   simp[e,e2,this]
 rw[K n (Nat.le_refl _),if_pos h]
def C3z (n:Nat) (x:Int):Nat→List Bool
 | 0=>List.replicate n false
 | _=>(List.replicate n false).set x.toNat true
def C7n (w:World) (n:Nat) (fs:List Bool) (e:Ending) (w':World):Prop:=∃ g,e=.returned (.slice (some ⟨g,0,none⟩) n n)∧BRow w' w.heap.size g n fs∧Below w.heap.size w w'
theorem BRow.base {w:World} {base g n:Nat} {fs:List Bool} (h:BRow w base g n fs):base≤g:=(World.ownsRow.lt h _ rfl).1
theorem BRow.len {w:World} {base g n:Nat} {fs:List Bool} (h:BRow w base g n fs):fs.length=n:=by have:=h.1;simpa using this
attribute [local go_sem] O_ Go.XB.opAt P_ M_ Region.wanted yielded
attribute [local simp] P_ M_ MP.eq MP.agg MP.sl MP.box A0e
theorem C1t (n:Nat) (A:Option Addr) (c:Nat) (x:Int) (bs:List Nat) (w:World) (hx:Sl w A 1 c [x] bs) (hx0:0≤x) (hx1:x<n) (hn:n≤200) :
  Calls Tryz.prog 233 #[.int .i64 n,.slice A 1 c] w (C7n w n ((List.replicate n false).set x.toNat true)):=by
 have HX:=A_ hx
 have hni:(n:Int)≤200:=by omega
 obtain ⟨i0,hi,hz0,hz1,hz2⟩:=info_parts C5v
 have b2:=A_ (show i0.bytes*n≤281474976710656 by rw[hz2];omega)
 have b3:=A_ (show n≤maxLen by unfold maxLen;omega)
 have WX:=A_ (show inB 0 x ((n:Int) - 1)=true by unfold inB;simp;omega)
 have HXN:=A_ (show x.toNat<n by omega)
 clear hx
 go_enter Tryz.func233,Tryz.ntmps233
 go_upto_region 1 with fail
 go_upto_region 2 with (at_make;(refine wpList_make_full _ rfl _ _ 129 rfl w.heap.size 4 i0 (.bool false) 1 Tryz.underlying129 hi hz0 hz1 .i64 .i64 _ _ n rfl rfl rfl rfl b2.o b3.o (Nat.le_refl _) ?_);intro w1 hown1 hgrow1)
 rw[B5q] at hown1
 have BR1:=A_ (show BRow w1 w.heap.size w.heap.size n (C3z n x 0) from hown1)
 have HB1:=A_ (show Below w.heap.size w w1 from (Below.refl w.heap.size w).grown hgrow1 (Nat.le_refl _) (by intro k hk;cases hk))
 clear hown1 hgrow1
 go_wp2_with fail
 go_loopg [12] 1 (fun g s wr=>∃ k:Nat,k+g=1∧s=.int .i64 k∧Hid (BRow wr w.heap.size w.heap.size n (C3z n x k))∧Hid (Below w.heap.size w wr))
 case atStart=>exact ⟨0,rfl,rfl,BR1.o,HB1.o⟩
 case round =>
  clear BR1 HB1
  obtain ⟨k,hk,rfl,HR,HB⟩:=hrel
  rcases Nat.lt_or_ge k 1 with hk1 | hk1
  ·obtain rfl:k=0:=by omega
   obtain rfl:gk=0+1:=by omega
   obtain ⟨be,of,y,rfl,hbl,hy1,_,e0⟩:=Sl.getInt (HX.o.below HB.o) (show 0<1 by decide)
   obtain rfl:y=x:=by simp at hy1;exact hy1.symm
   have hgl:w.heap.size<wr.heap.size:=HR.o.lt
   simp at e0
   clear hk hk1 hy1
   go_wp2_with fail
   have C:=A4g y 0 ((n:Int) - 1) wr
   rw[WX.o] at C
   refine C.mono ?_
   clear C
   rintro _ w2 ⟨rfl,hb2⟩
   have R2:=A_ (HR.o.below hb2)
   have B2:=A_ (Below.next HB.o hb2)
   obtain ⟨u0,u0'⟩:=R2.o.cell (j:=y.toNat) (f:=false) (by show (List.replicate n false)[y.toNat]?=_;rw[List.getElem?_replicate,if_pos HXN.o])
   have lg2:w.heap.size<w2.heap.size:=R2.o.lt
   have RN:=A_ (show BRow (w2.setCell ⟨w.heap.size,y.toNat,none⟩ (.bool true)) w.heap.size w.heap.size n (C3z n y (0+1)) from R2.o.set _ _)
   have BN:=A_ (B2.o.setCell (p:=⟨w.heap.size,y.toNat,none⟩) (Nat.le_refl _) (.bool true))
   clear hb2
   go_wp2_with fail
   go_roundg 0
   case measure=>omega
   case rel=>exact ⟨0+1,rfl,by go_simp,RN.o,BN.o⟩
  obtain rfl:k=1:=by omega
  have RN:=A_ (show BRow wr w.heap.size w.heap.size n ((List.replicate n false).set x.toNat true) from HR.o)
  clear hk hk1
  go_wp2
  go_ret
  exact ⟨w.heap.size,rfl,RN.o,HB.o⟩
theorem C0i (g n:Nat) (fs:List Bool) (w:World) (hl:fs.length=n) (hn:n≤200) (hg:g<w.heap.size) (hc:∀ (i:Nat) (f:Bool),fs[i]?=some f→w.cell? ⟨g,i,none⟩=some (.bool f)) :
  Calls Tryz.prog 186 #[.slice (some ⟨g,0,none⟩) n n] w (B7j w (trK fs n)):=by
 have HC:=A_ hc;have HL:=A_ hl;have HG:=A_ hg
 have hni:(n:Int)≤200:=by omega
 obtain ⟨i0,hi,hz0,hz1,hz2⟩:=info_parts A5v
 have R0:=A_ (World.ownsRow_made (base:=w.heap.size) (e:=3) (size:=1) w #[] 0 (Nat.le_refl _) (Nat.zero_le _) rfl)
 have B0:=A_ (Below.box (w:=w) (.cells #[] 3))
 clear hc hl
 go_enter Tryz.func186,Tryz.ntmps186
 go_wp2_with fail
 go_loopg [3,9] n (fun gh v s wr=>∃ (k m gB cap:Nat),k+gh=n∧m≤k∧s=.int .i64 k∧v=.slice (some ⟨gB,0,none⟩) m cap∧Hid (wr.ownsRow w.heap.size 3 1 (.slice (some ⟨gB,0,none⟩) m cap) m ((trK fs k).map (.int .i64)))∧Hid (Below w.heap.size w wr))
 case atStart=>exact ⟨0,0,w.heap.size,0,by omega,by omega,rfl,rfl,R0.o,B0.o⟩
 case round =>
  clear R0 B0
  obtain ⟨k,m,gB,cap,hk,hm,rfl,rfl,hR,hb⟩:=hrel
  rcases Nat.lt_or_ge k n with hkn | hkn
  ·have hki:(k:Int)<n:=by omega
   obtain ⟨gh,rfl⟩:∃ g',gk=g'+1:=⟨gk - 1,by omega⟩
   have hk':=A_ (show k+1+gh=n by omega)
   have hm':=A_ (show m+1≤k+1 by omega)
   have hm2:=A_ (show m≤k+1 by omega)
   obtain ⟨f,hf⟩:∃ f,fs[k]?=some f:=⟨_,List.getElem?_eq_getElem (by rw[HL.o];exact hkn)⟩
   have c0:wr.cell? ⟨g,k,none⟩=some (.bool f):=(hb.o.cell (p:=⟨g,k,none⟩) HG.o).trans (HC.o k f hf)
   have T:=A_ (C2x hf)
   have C3:=A_ (show m+1≤maxLen by unfold maxLen;omega)
   have C4:=A_ (show (m+1)*8≤140737488355328 by omega)
   have lgr:g<wr.heap.size:=by have:=hb.o.size;omega
   clear hk hkn hf hm
   cases f
   ·have RZ:=A_ (show wr.ownsRow w.heap.size 3 1 (.slice (some ⟨gB,0,none⟩) m cap) m ((trK fs (k+1)).map (.int .i64)) by rw[T.o];exact hR.o)
    go_wp2_with fail
    go_roundg gh
    case measure=>omega
    case rel=>exact ⟨k+1,m,gB,cap,hk'.o,hm2.o,by go_num,rfl,RZ.o,hb.o⟩
   have hbase:=hb.o.size
   go_wp2_with (at_builtin;refine A1f rfl _ _ 31 rfl w.heap.size 3 i0 (.int .i64 0) 1 8 Tryz.underlying31 hi hz0 hz1 hz2 rfl (by decide) gB m cap _ (by go_simp;done) (hR.o.alloc _) ⟨wr.heap.size,0,none⟩ 1 1 [.int .i64 k] (by go_simp;done) rfl (A0k (heap_alloc_new wr _)) (fun u hu=>by simp at hu;subst hu;rfl) C3.o C4.o (A0p hbase _) ?_;intro g2 cap2 w3 hown hgr hor)
   have hgB:w.heap.size≤gB:=(World.ownsRow.lt hR.o _ rfl).1
   have B3:=A_ ((hb.o.alloc hb.o.size (.cells #[.int .i64 k] 3)).grown hgr (by simp;omega) (fun k2 hk2=>by injection hk2 with h;omega))
   have R3:=A_ (show w3.ownsRow w.heap.size 3 1 (.slice (some ⟨g2,0,none⟩) (m+1) cap2) (m+1) ((trK fs (k+1)).map (.int .i64)) by rw[T.o];simpa using hown)
   clear hown hgr hor hgB
   go_wp2_with fail
   go_roundg gh
   case measure=>omega
   case rel=>exact ⟨k+1,m+1,g2,cap2,hk'.o,hm'.o,by go_num,rfl,R3.o,B3.o⟩
  have hki:¬ ((k:Int)<n):=by omega
  obtain rfl:k=n:=by omega
  obtain ⟨bs,hs⟩:=A5a hR.o (fun x hx=>by have:=D2f hx;unfold I64;omega)
  have HS:=A_ hs
  have HGB:=A_ (show w.heap.size≤gB from (World.ownsRow.lt hR.o _ rfl).1)
  clear hk hkn hm hs
  go_wp2
  go_ret
  obtain ⟨h1,h2,h3,h4,h5⟩:=HS.o
  refine ⟨some ⟨gB,0,none⟩,m,cap,bs,rfl,HS.o,fun b hb2=>?_,hb.o⟩
  rcases Nat.eq_zero_or_pos m with h0 | h0
  ·rw[h4 h0] at hb2;cases hb2
  obtain ⟨b',off,bss,hA,rfl,hl5,hbl,he⟩:=h5 h0
  cases hA
  have hfl:bss.flatten=[]:=by
   rw[List.flatten_eq_nil_iff]
   intro l hl'
   obtain ⟨q,hq⟩:=List.mem_iff_getElem?.1 hl'
   have hql:q<(trK fs k).length:=by rw[← hl5];exact (List.getElem?_eq_some_iff.1 hq).1
   obtain ⟨cs,_,ha⟩:=he q _ l (List.getElem?_eq_getElem hql) hq
   exact ha.2.1
  rw[hfl] at hb2
  simp at hb2
  subst hb2
  exact HGB.o
end Go.Proofs.YtbhemnidcleaiaaGreat.X
namespace Go.Proofs.YtbhemnidcleaiaaGreat.X
open Go.RowKit Go.XB Go.XN
theorem B4a (ts:List TTri):∀ k,(A4e ts k).length≤3*k
 | 0=>Nat.le_refl _
 | k+1=>by
  have h:=B4a ts k
  unfold A4e put3
  generalize ts.getD k _=t
  have h1:=B5f (A4e ts k) t.a t.b k
  have h2:=B5f (A9x (A4e ts k) t.a t.b k) t.b t.c k
  have h3:=B5f (A9x (A9x (A4e ts k) t.a t.b k) t.b t.c k) t.c t.a k
  omega
def A5t (m:TMesh):List TEdge:=A4e m.triangles m.triangles.length
def InE (es:List TEdge) (a b:Int):Prop:=0≤A1i es a b∧A1i es a b<es.length
def A7z (on:List Bool):Nat:=on.countP (fun b=>!b)
theorem C8w (on:List Bool):A7z on≤on.length:=List.countP_le_length
theorem B7z:∀ {on:List Bool} {i:Nat},on[i]?=some false→A7z (on.set i true)+1=A7z on
 | [],i,h=>by simp at h
 | b::bs,0,h=>by simp at h;subst h;simp[A7z]
 | b::bs,i+1,h=>by
  have:=B7z (on:=bs) (i:=i) (by simpa using h)
  unfold A7z at this ⊢
  rw[List.set_cons_succ,List.countP_cons,List.countP_cons]
  omega
theorem C6f (es:List TEdge) (on:List Bool) (t:TTri):(A2n es on t).length=on.length:=by
 unfold A2n
 cases (!on.getD (A1i es t.b t.c).toNat false&&(on.getD (A1i es t.a t.b).toNat false || on.getD (A1i es t.c t.a).toNat false))<;>simp
theorem B9q (es:List TEdge):∀ (ts:List TTri) (on:List Bool),(ts.foldl (A2n es) on).length=on.length
 | [],_=>rfl
 | t::ts,on=>by rw[List.foldl_cons,B9q es ts,C6f]
theorem B9d (ts:List TTri) (es:List TEdge):∀ (n:Nat) (on:List Bool),(A1e ts es n on).length=on.length
 | 0,_=>rfl
 | n+1,on=>by rw[A1e,B9d ts es n,A6k,B9q]
theorem B6d (ts:List TTri) (es:List TEdge):∀ (n:Nat) (on:List Bool),A1e ts es (n+1) on=A6k ts es (A1e ts es n on)
 | 0,_=>rfl
 | n+1,on=>by rw[A1e,B6d ts es n];rfl
theorem B3h {ts:List TTri} {es:List TEdge} {on:List Bool}:∀ n,A6k ts es on=on→A1e ts es n on=on
 | 0,_=>rfl
 | n+1,h=>by rw[A1e,h,B3h n h]
theorem B3n (ts:List TTri) (es:List TEdge):∀ (a b:Nat) (on:List Bool),A1e ts es (a+b) on=A1e ts es b (A1e ts es a on)
 | 0,b,on=>by rw[Nat.zero_add];rfl
 | a+1,b,on=>by rw[Nat.add_right_comm,A1e,B3n ts es a b];rfl
theorem C4b {ts:List TTri} {es:List TEdge} {on:List Bool} {a b:Nat} (ha:A6k ts es (A1e ts es a on)=A1e ts es a on) (hb:A6k ts es (A1e ts es b on)=A1e ts es b on):A1e ts es a on=A1e ts es b on:=by
 rcases Nat.le_total a b with h | h
 ·obtain ⟨d,rfl⟩:=Nat.exists_eq_add_of_le h
  rw[B3n,B3h d ha]
 obtain ⟨d,rfl⟩:=Nat.exists_eq_add_of_le h
 rw[B3n ts es b d,B3h d hb]
theorem BRow.weak {w:World} {base base' g n:Nat} {fs:List Bool} (h:BRow w base g n fs) (hb:base'≤base):BRow w base' g n fs:=by
 obtain ⟨h1,h2⟩:=h
 refine ⟨h1,?_⟩
 rcases h2 with ⟨h3,_⟩ | ⟨g',cap,cur,hv,hbg,r⟩
 ·cases h3
 exact .inr ⟨g',cap,cur,hv,Nat.le_trans hb hbg,r⟩
attribute [local go_sem] O_ Go.XB.opAt P_ M_ Region.wanted yielded
attribute [local simp] P_ M_ MP.eq MP.agg MP.sl MP.box A0e
theorem B6x (v:Value) (m:TMesh) (b:List Nat) (A:Option Addr) (c:Nat) (k:Nat) (t:TTri) (bs:List Nat) (w:World) (hx:Agg w v m b) (hl:Sl w A 1 c [(k:Int)] bs) (hm:SMesh m) (hk:m.triangles[k]?=some t) (he:InE (A5t m) t.b t.c) :
  Calls Tryz.prog 120 #[v,.slice A 1 c] w (B7j w [A1i (A5t m) t.b t.c]):=by
 have HX:=A_ hx;have HL:=A_ hl;have HM:=A_ hm
 obtain ⟨A0,n0,c0,s0,A1,n1,c1,s1,rfl,rfl,hs0,hs1⟩:=TMesh.agg hx
 have HS:=A_ hs1
 have hkn:k<n1:=by rw[← hs1.1];exact (List.getElem?_eq_some_iff.1 hk).1
 have hn1:n1≤48:=by rw[← hs1.1];exact hm.t48
 have hki:(k:Int)<n1:=by omega
 have hki0:(0:Int)≤k:=by omega
 have hn1i:(n1:Int)≤48:=by omega
 have WK:=A_ (show inB 0 (k:Int) ((n1:Int) - 1)=true by unfold inB;simp;omega)
 have HK:=A_ hk
 have ELN:=A_ (show (A5t m).length≤144 by have:=B4a m.triangles m.triangles.length;have:=hm.t48;unfold A5t;omega)
 obtain ⟨i0,hi,hz0,hz1,hz2⟩:=info_parts C5v
 obtain ⟨es,hes⟩:∃ es,A5t m=es:=⟨_,rfl⟩
 rw[hes] at he ELN ⊢
 have HES:=A_ hes
 obtain ⟨q,hq⟩:∃ q:Nat,A1i es t.b t.c=q:=⟨(A1i es t.b t.c).toNat,by have:=he.1;omega⟩
 have HQ:=A_ hq
 have HQN:=A_ (show q<es.length by have:=he.2;rw[hq] at this;omega)
 clear hx hl hm hk he hs0 hs1 hes hq
 go_enter Tryz.func120,Tryz.ntmps120
 go_upto_region 1 with fail
 obtain ⟨W0,hW0⟩:∃ W,W=w.alloc (.cells #[.slice A0 n0 c0,.slice A1 n1 c1] 26):=⟨_,rfl⟩
 have K0:=A_ (show W0.heap[w.heap.size]?=some (.cells #[.slice A0 n0 c0,.slice A1 n1 c1] 26) by rw[hW0];exact heap_alloc_new w _)
 have B0:=A_ (show Below w.heap.size w W0 by rw[hW0];exact Below.box _)
 rw[← hW0]
 clear hW0
 obtain ⟨y0,-⟩:=B_ K0.o (j:=0) rfl
 obtain ⟨y1,-⟩:=B_ K0.o (j:=1) rfl
 simp at y0 y1
 have lw0:w.heap.size<W0.heap.size:=E_ K0.o
 go_wp2_with fail
 refine (C2t _ m _ W0 (HX.o.below B0.o) HM.o).mono ?_
 rintro _ w1 ⟨rfl,hb1⟩
 have K1:=A_ (A0d K0.o hb1)
 have B1:=A_ (Below.next B0.o hb1)
 clear hb1 y0 y1 lw0
 obtain ⟨y0,-⟩:=B_ K1.o (j:=0) rfl
 obtain ⟨y1,-⟩:=B_ K1.o (j:=1) rfl
 simp at y0 y1
 have lw1:w.heap.size<w1.heap.size:=E_ K1.o
 go_wp2_with fail
 refine (B2y _ m _ w1 (HX.o.below B1.o) HM.o.t48).mono ?_
 rintro _ w2 ⟨gE,nE,cE,rfl,hER,hb2⟩
 rw[show A4e m.triangles m.triangles.length=es from HES.o] at hER
 have HER:=A_ hER
 have hnE:nE≤144:=by rw[← hER.2.1];exact ELN.o
 have hnEi:(nE:Int)≤144:=by omega
 have HQE:=A_ (show q<nE by rw[← hER.2.1];exact HQN.o)
 have K2:=A_ (A0d K1.o hb2)
 have B2:=A_ (Below.next B1.o hb2)
 have b2:=A_ (show i0.bytes*nE≤281474976710656 by rw[hz2];omega)
 have b3:=A_ (show nE≤maxLen by unfold maxLen;omega)
 have hsW:=B2.o.size
 clear hER hb2 y0 y1 lw1
 go_upto_region 4 with fail
 go_upto_region 5 with (at_make;(refine wpList_make_full _ rfl _ _ 129 rfl w.heap.size 4 i0 (.bool false) 1 Tryz.underlying129 hi hz0 hz1 .i64 .i64 _ _ nE rfl rfl rfl rfl b2.o b3.o hsW ?_);intro w3 hown3 hgrow3)
 rw[B5q] at hown3
 have BR3:=A_ (show BRow w3 w.heap.size w2.heap.size nE (List.replicate nE false) from hown3)
 have HB23:=A_ (show Below w2.heap.size w2 w3 from (Below.refl w2.heap.size w2).grown hgrow3 (Nat.le_refl _) (by intro k hk;cases hk))
 have SE3:=A_ (HER.o.below HB23.o)
 have K3:=A_ (A0d K2.o HB23.o)
 have B3:=A_ (Below.next B2.o HB23.o)
 clear hown3 hgrow3
 go_wp2_with fail
 go_loopg [19] 1 (fun g s wr=>∃ j:Nat,j+g=1∧s=.int .i64 j∧Hid (BRow wr w.heap.size w2.heap.size nE (C3z nE q j))∧Hid (Below w2.heap.size w2 wr))
 case atStart=>exact ⟨0,rfl,rfl,BR3.o,HB23.o⟩
 case round =>
  clear BR3 HB23 SE3 K3 B3
  obtain ⟨j,hj,rfl,HR,HBr⟩:=hrel
  have NB:=A_ (Below.next B2.o HBr.o)
  rcases Nat.lt_or_ge j 1 with hj1 | hj1
  ·obtain rfl:j=0:=by omega
   obtain rfl:gk=0+1:=by omega
   obtain ⟨bl,ol,y,rfl,hbl,hy1,_,e0⟩:=Sl.getInt (HL.o.below NB.o) (show 0<1 by decide)
   obtain rfl:y=k:=by simp at hy1;exact hy1.symm
   simp at e0
   have KM:=A_ (A0d K2.o HBr.o)
   obtain ⟨y0,-⟩:=B_ KM.o (j:=0) rfl
   obtain ⟨y1,-⟩:=B_ KM.o (j:=1) rfl
   simp at y0 y1
   have lm:w.heap.size<wr.heap.size:=E_ KM.o
   clear hj hj1 hy1
   go_wp2_with fail
   have C:=A4g k 0 ((n1:Int) - 1) wr
   rw[WK.o] at C
   refine C.mono ?_
   clear C
   rintro _ w4 ⟨rfl,hb4⟩
   have KM4:=A_ (A0d KM.o hb4)
   have HB4:=A_ (Below.next HBr.o hb4)
   have NB4:=A_ (Below.next B2.o HB4.o)
   have BR4:=A_ (HR.o.below hb4)
   have SE4:=A_ (HER.o.below HB4.o)
   clear hb4 y0 y1 lm e0 hbl
   obtain ⟨y0,-⟩:=B_ KM4.o (j:=0) rfl
   obtain ⟨y1,-⟩:=B_ KM4.o (j:=1) rfl
   simp at y0 y1
   have lm4:w.heap.size<w4.heap.size:=E_ KM4.o
   obtain ⟨be,of,t',rfl,hbl2,hx1,f0,f1,f2,f3,f4,-⟩:=TTri.elemA (HS.o.below NB4.o) hkn
   obtain rfl:t=t':=by rw[HK.o] at hx1;exact Option.some.inj hx1
   obtain ⟨bsE,hsE,-⟩:=SE4.o.sl
   have HSE:=A_ hsE
   have hqi:(q:Int)<nE:=by have:=HQE.o;omega
   have hqi0:(0:Int)≤q:=by omega
   clear hx1 hsE
   go_wp2_with fail
   refine Z_ (by simp) ?_
   dsimp only [List.dropLast,List.getLast,List.length]
   iterate 14
    refine D_ _ ?_
   refine F_ (MP.eq (.int .i64 q)) ?_ ?_
   ·intro yq zq wq hC hd
    obtain ⟨hcq,hfq⟩:=C_ hC
    simp at hd
    refine H_ ?_
    have C:=A5j (some ⟨gE,0,none⟩) nE cE es bsE t.b t.c wq (HSE.o.below hC) (by omega)
    rw[HQ.o] at C
    exact A0t C
   refine D_ _ ?_
   intro yq zq wa hC hd (hdis:Hid _)
   simp at hd
   have q15:=hd.2.2.2.2.2.2.2.2.2.2.2.2.2.2.2
   have e15:=q15.1.1
   have BRa:=A_ (BR4.o.below hC)
   have HBa:=A_ (Below.next HB4.o hC)
   obtain ⟨u0,u0'⟩:=BRa.o.cell (j:=q) (f:=false) (by show (List.replicate nE false)[q]?=_;rw[List.getElem?_replicate,if_pos HQE.o])
   have la:w2.heap.size<wa.heap.size:=BRa.o.lt
   have RN:=A_ (show BRow (wa.setCell ⟨w2.heap.size,q,none⟩ (.bool true)) w.heap.size w2.heap.size nE (C3z nE q (0+1)) from BRa.o.set _ _)
   have BN:=A_ (HBa.o.setCell (p:=⟨w2.heap.size,q,none⟩) (Nat.le_refl _) (.bool true))
   clear hd hdis q15 hC y0 y1 f0 f1 f2 f3 f4
   go_wp2_with fail
   go_roundg 0
   case measure=>omega
   case rel=>exact ⟨0+1,rfl,by go_simp,RN.o,BN.o⟩
  obtain rfl:j=1:=by omega
  have RN:=A_ (show BRow wr w.heap.size w2.heap.size nE ((List.replicate nE false).set q true) from HR.o)
  clear hj hj1
  go_wp2_with fail
  have C:=C0i w2.heap.size nE _ wr RN.o.len (by omega) RN.o.lt (fun i f hf=>(RN.o.cell hf).1)
  rw[D2l HQE.o] at C
  refine C.mono ?_
  clear C
  rintro _ w5 ⟨AR,nR,cR,bR,rfl,hsR,hnR,hb5⟩
  have HSR:=A_ hsR
  have HNR:=A_ (show ∀ b∈bR,w.heap.size≤b from fun b hb=>by have:=hnR b hb;have:=NB.o.size;omega)
  have N5:=A_ (Below.next NB.o hb5)
  clear hsR hnR hb5
  go_wp2
  go_ret
  rw[HQ.o]
  exact ⟨AR,nR,cR,bR,rfl,HSR.o,HNR.o,N5.o⟩
end Go.Proofs.YtbhemnidcleaiaaGreat.X
namespace Go.Proofs.YtbhemnidcleaiaaGreat.X
open Go.RowKit Go.XB Go.XN
theorem getD_some {on:List Bool} {p:Nat} {f:Bool} (h:on[p]?=some f):on.getD p false=f:=by rw[List.getD_eq_getElem?_getD,h];rfl
theorem B8h {es:List TEdge} {on:List Bool} {t:TTri} {p1:Nat} (h1:A1i es t.b t.c=p1) (f1:on[p1]?=some true):A2n es on t=on:=by
 unfold A2n;rw[h1,Int.toNat_natCast,getD_some f1];rfl
theorem B7o {es:List TEdge} {on:List Bool} {t:TTri} {p1 p2 p3:Nat} (h1:A1i es t.b t.c=p1) (h2:A1i es t.a t.b=p2) (h3:A1i es t.c t.a=p3) (f2:on[p2]?=some false) (f3:on[p3]?=some false):A2n es on t=on:=by
 unfold A2n;rw[h1,h2,h3,Int.toNat_natCast,Int.toNat_natCast,Int.toNat_natCast,getD_some f2,getD_some f3];simp
theorem B6h {es:List TEdge} {on:List Bool} {t:TTri} {p1 p2:Nat} (h1:A1i es t.b t.c=p1) (h2:A1i es t.a t.b=p2) (f1:on[p1]?=some false) (f2:on[p2]?=some true):A2n es on t=on.set p1 true:=by
 unfold A2n;rw[h1,h2,Int.toNat_natCast,Int.toNat_natCast,getD_some f1,getD_some f2];rfl
theorem B6q {es:List TEdge} {on:List Bool} {t:TTri} {p1 p3:Nat} (h1:A1i es t.b t.c=p1) (h3:A1i es t.c t.a=p3) (f1:on[p1]?=some false) (f3:on[p3]?=some true):A2n es on t=on.set p1 true:=by
 unfold A2n;rw[h1,h3,Int.toNat_natCast,Int.toNat_natCast,getD_some f1,getD_some f3];simp
theorem B8u {es:List TEdge} {ts:List TTri} {on:List Bool} {i:Nat} {t:TTri} (h:ts[i]?=some t):(ts.take (i+1)).foldl (A2n es) on=A2n es ((ts.take i).foldl (A2n es) on) t:=by
 rw[take_step h,List.foldl_append];rfl
def IfT (mo:Bool) (P:Prop):Prop:=mo=true→P
def IfF (mo:Bool) (P:Prop):Prop:=mo=false→P
def Chg (mo:Bool) (a o:List Bool):Prop:=(mo=false→a=o)∧(mo=true→A7z a<A7z o)∧A7z a≤A7z o
theorem Chg.start (o:List Bool):Chg false o o:=⟨fun _=>rfl,(fun h=>by cases h),Nat.le_refl _⟩
theorem Chg.set {mo:Bool} {a o:List Bool} {p:Nat} (h:Chg mo a o) (hp:a[p]?=some false):Chg true (a.set p true) o:=by
 have:=B7z hp
 have h3:=h.2.2
 exact ⟨(fun h=>by cases h),fun _=>by omega,by omega⟩
attribute [local go_sem] O_ Go.XB.opAt P_ M_ Region.wanted yielded
attribute [local simp] P_ M_ MP.eq MP.agg MP.sl MP.box A0e
theorem B9v (v:Value) (m:TMesh) (b:List Nat) (E:Option Addr) (nE cE:Nat) (es:List TEdge) (bE:List Nat) (A:Option Addr) (c:Nat) (x:Int) (bs:List Nat) (w:World) (hx:Agg w v m b) (hE:Sl w E nE cE es bE) (hl:Sl w A 1 c [x] bs) (hx0:0≤x) (hx1:x<nE) (hn:nE≤144) (h48:m.triangles.length≤48)
  (hin:∀ t∈m.triangles,InE es t.b t.c∧InE es t.a t.b∧InE es t.c t.a) (on0:List Bool) (h0:on0=(List.replicate nE false).set x.toNat true) (hfix:A6k m.triangles es (A1e m.triangles es 3 on0)=A1e m.triangles es 3 on0) :
  Calls Tryz.prog 180 #[v,.slice E nE cE,.slice A 1 c] w (C7n w nE (A1e m.triangles es 3 on0)):=by
 have HX:=A_ hx;have HE:=A_ hE;have HL:=A_ hl;have HIN:=A_ hin;have HF:=A_ hfix;have H0:=A_ h0
 obtain ⟨A0,n0,c0,s0,A1,n1,c1,s1,rfl,rfl,hs0,hs1⟩:=TMesh.agg hx
 have HS:=A_ hs1
 have HLN:=A_ hs1.1
 have HEL:=A_ hE.1
 have hn1:n1≤48:=by rw[← hs1.1];exact h48
 have hn1i:(n1:Int)≤48:=by omega
 have hnEi:(nE:Int)≤144:=by omega
 obtain ⟨ts,hts⟩:∃ ts,m.triangles=ts:=⟨_,rfl⟩
 rw[hts] at HIN HF HS HLN ⊢
 clear hx hE hl hin hfix hs0 hs1 h48 h0 hts
 go_enter Tryz.func180,Tryz.ntmps180
 go_upto_region 1 with fail
 obtain ⟨W0,hW0⟩:∃ W,W=w.alloc (.cells #[.slice A0 n0 c0,.slice A1 n1 c1] 26):=⟨_,rfl⟩
 have K0:=A_ (show W0.heap[w.heap.size]?=some (.cells #[.slice A0 n0 c0,.slice A1 n1 c1] 26) by rw[hW0];exact heap_alloc_new w _)
 have B0:=A_ (show Below w.heap.size w W0 by rw[hW0];exact Below.box _)
 rw[← hW0]
 clear hW0
 go_wp2_with fail
 refine (C1t nE A c x bs W0 (HL.o.below B0.o) hx0 hx1 (by omega)).mono ?_
 rintro _ w1 ⟨gO,rfl,hBR,hb1⟩
 rw[← H0.o] at hBR
 have HBR:=A_ hBR;have HB1:=A_ hb1
 have hgO:=hBR.base
 have M0:=A_ (show IfT true (A7z (A1e ts es 0 on0)+1≤nE+1) from fun _=>by have:=C8w on0;rw[hBR.len] at this;exact Nat.succ_le_succ this)
 have M1:=A_ (show IfF true (A6k ts es (A1e ts es 0 on0)=A1e ts es 0 on0) from fun h=>by cases h)
 clear hBR hb1
 go_wp2_with fail
 go_loopg [8] (nE+1) (fun g s8 wr=>∃ (j:Nat) (mo:Bool),s8=.bool mo∧Hid (IfT mo (A7z (A1e ts es j on0)+1≤g))∧Hid (IfF mo (A6k ts es (A1e ts es j on0)=A1e ts es j on0))∧Hid (BRow wr W0.heap.size gO nE (A1e ts es j on0))∧Hid (Below W0.heap.size W0 wr))
 case atStart=>exact ⟨0,true,rfl,M0.o,M1.o,HBR.o,HB1.o⟩
 case round =>
  clear M0 M1 HBR HB1
  obtain ⟨j,mo,rfl,HM,HR,HB,HW⟩:=hrel
  cases mo
  ·have EQ:=A_ (show A1e ts es j on0=A1e ts es 3 on0 from C4b (HR.o rfl) HF.o)
   have BR9:=A_ (show BRow wr w.heap.size gO nE (A1e ts es 3 on0) by rw[← EQ.o];exact HB.o.weak B0.o.size)
   have N9:=A_ (Below.next B0.o HW.o)
   clear HM HR
   go_wp2
   go_ret
   exact ⟨gO,rfl,BR9.o,N9.o⟩
  obtain ⟨g1,rfl⟩:∃ g1,gk=g1+1:=⟨gk - 1,by have:=HM.o rfl;omega⟩
  obtain ⟨o,ho⟩:∃ o,A1e ts es j on0=o:=⟨_,rfl⟩
  have NXT:=A_ (show A1e ts es (j+1) on0=(ts.take n1).foldl (A2n es) o by
   rw[B6d,ho,List.take_of_length_le (by rw[HLN.o];exact Nat.le_refl _)];rfl)
  rw[ho] at HM HB
  have HM':=A_ (HM.o rfl)
  have KM:=A_ (A0d K0.o HW.o)
  obtain ⟨y1,-⟩:=B_ KM.o (j:=1) rfl
  simp at y1
  have lm:w.heap.size<wr.heap.size:=E_ KM.o
  have S0:=A_ (show Chg false ((ts.take 0).foldl (A2n es) o) o from Chg.start o)
  clear HM HR ho
  go_wp2_with fail
  go_loopg [8,20] n1 (fun g s8 s20 wi=>∃ (i:Nat) (mo:Bool),i+g=n1∧s20=.int .i64 i∧s8=.bool mo∧Hid (BRow wi W0.heap.size gO nE ((ts.take i).foldl (A2n es) o))∧Hid (Chg mo ((ts.take i).foldl (A2n es) o) o)∧Hid (Below W0.heap.size W0 wi))
  case atStart=>exact ⟨0,false,by omega,rfl,rfl,HB.o,S0.o,HW.o⟩
  case round =>
  clear S0 HB HW y1 lm KM
  obtain ⟨i,mo,hi,rfl,rfl,HB,HC,HW⟩:=hrel
  rename World=>wi
  have NW:=A_ (Below.next B0.o HW.o)
  rcases Nat.lt_or_ge i n1 with hin | hin
  ·obtain ⟨g,rfl⟩:∃ g,gk=g+1:=⟨gk - 1,by omega⟩
   have hi':=A_ (show i+1+g=n1 by omega)
   have hii:(i:Int)<n1:=by omega
   have hii0:(0:Int)≤i:=by omega
   obtain ⟨be,of,t,rfl,hbl,hx1,e0,e1,e2,e3,e4,-⟩:=TTri.elemA (HS.o.below NW.o) hin
   obtain ⟨⟨i10,i11⟩,⟨i20,i21⟩,⟨i30,i31⟩⟩:=HIN.o t (List.mem_of_getElem? hx1)
   rw[HEL.o] at i11 i21 i31
   obtain ⟨p1,hp1⟩:∃ p:Nat,A1i es t.b t.c=p:=⟨(A1i es t.b t.c).toNat,by omega⟩
   obtain ⟨p2,hp2⟩:∃ p:Nat,A1i es t.a t.b=p:=⟨(A1i es t.a t.b).toNat,by omega⟩
   obtain ⟨p3,hp3⟩:∃ p:Nat,A1i es t.c t.a=p:=⟨(A1i es t.c t.a).toNat,by omega⟩
   rw[hp1] at i11;rw[hp2] at i21;rw[hp3] at i31
   have P1:=A_ hp1;have P2:=A_ hp2;have P3:=A_ hp3
   have q10:(0:Int)≤p1:=by omega
   have q20:(0:Int)≤p2:=by omega
   have q30:(0:Int)≤p3:=by omega
   have FS:=A_ (B8u (es:=es) (on:=o) hx1)
   obtain ⟨a,ha⟩:∃ a,(ts.take i).foldl (A2n es) o=a:=⟨_,rfl⟩
   rw[ha] at HB HC FS
   have hal:=HB.o.len
   obtain ⟨f1,hf1⟩:∃ f,a[p1]?=some f:=⟨_,List.getElem?_eq_getElem (by omega)⟩
   obtain ⟨f2,hf2⟩:∃ f,a[p2]?=some f:=⟨_,List.getElem?_eq_getElem (by omega)⟩
   obtain ⟨f3,hf3⟩:∃ f,a[p3]?=some f:=⟨_,List.getElem?_eq_getElem (by omega)⟩
   have F1:=A_ hf1;have F2:=A_ hf2;have F3:=A_ hf3
   clear hi hin hx1 i10 i20 i30 hp1 hp2 hp3 ha hal hf1 hf2 hf3
   go_upto_region 8 with fail
   obtain ⟨X0,hX0⟩:∃ W,W=wi.alloc (.cells #[.int .i64 t.a,.int .i64 t.b,.int .i64 t.c,.int .i64 t.region,.int .i64 t.level] 93):=⟨_,rfl⟩
   have KX:=A_ (show X0.heap[wi.heap.size]?=some (.cells #[.int .i64 t.a,.int .i64 t.b,.int .i64 t.c,.int .i64 t.region,.int .i64 t.level] 93) by rw[hX0];exact heap_alloc_new wi _)
   have BX:=A_ (show Below wi.heap.size wi X0 by rw[hX0];exact Below.box _)
   rw[← hX0]
   clear hX0 e0 e1 e2 e3 e4
   have WX:=A_ (Below.next HW.o BX.o)
   have SE0:=A_ ((HE.o.below B0.o).below WX.o)
   have BR0:=A_ (HB.o.below BX.o)
   obtain ⟨x0,-⟩:=B_ KX.o (j:=0) rfl
   obtain ⟨x1,-⟩:=B_ KX.o (j:=1) rfl
   obtain ⟨x2,-⟩:=B_ KX.o (j:=2) rfl
   simp at x0 x1 x2
   have lx:wi.heap.size<X0.heap.size:=E_ KX.o
   go_wp2_with fail
   have C:=A5j E nE cE es bE t.b t.c X0 SE0.o (by omega)
   rw[P1.o] at C
   refine C.mono ?_
   clear C
   rintro _ U1 ⟨rfl,hb1⟩
   have WX1:=A_ (Below.next WX.o hb1)
   have SE1:=A_ (SE0.o.below hb1)
   have KX1:=A_ (A0d KX.o hb1)
   have BR1:=A_ (BR0.o.below hb1)
   clear hb1 x0 x1 x2 lx
   obtain ⟨x0,-⟩:=B_ KX1.o (j:=0) rfl
   obtain ⟨x1,-⟩:=B_ KX1.o (j:=1) rfl
   obtain ⟨x2,-⟩:=B_ KX1.o (j:=2) rfl
   simp at x0 x1 x2
   have lx:wi.heap.size<U1.heap.size:=E_ KX1.o
   obtain ⟨u1,u1'⟩:=BR1.o.cell F1.o
   have lo1:gO<U1.heap.size:=BR1.o.lt
   cases f1
   ·go_wp2_with fail
    have C:=A5j E nE cE es bE t.a t.b U1 SE1.o (by omega)
    rw[P2.o] at C
    refine C.mono ?_
    clear C
    rintro _ U2 ⟨rfl,hb2⟩
    have WX2:=A_ (Below.next WX1.o hb2)
    have SE2:=A_ (SE1.o.below hb2)
    have KX2:=A_ (A0d KX1.o hb2)
    have BR2:=A_ (BR1.o.below hb2)
    clear hb2 x0 x1 x2 lx u1 u1' lo1
    obtain ⟨x0,-⟩:=B_ KX2.o (j:=0) rfl
    obtain ⟨x1,-⟩:=B_ KX2.o (j:=1) rfl
    obtain ⟨x2,-⟩:=B_ KX2.o (j:=2) rfl
    simp at x0 x1 x2
    have lx:wi.heap.size<U2.heap.size:=E_ KX2.o
    obtain ⟨u2,u2'⟩:=BR2.o.cell F2.o
    have lo2:gO<U2.heap.size:=BR2.o.lt
    cases f2
    ·go_wp2_with fail
     have C:=A5j E nE cE es bE t.c t.a U2 SE2.o (by omega)
     rw[P3.o] at C
     refine C.mono ?_
     clear C
     rintro _ U3 ⟨rfl,hb3⟩
     have WX3:=A_ (Below.next WX2.o hb3)
     have SE3:=A_ (SE2.o.below hb3)
     have KX3:=A_ (A0d KX2.o hb3)
     have BR3:=A_ (BR2.o.below hb3)
     clear hb3 x0 x1 x2 lx u2 u2' lo2
     obtain ⟨u3,u3'⟩:=BR3.o.cell F3.o
     have lo3:gO<U3.heap.size:=BR3.o.lt
     cases f3
     ·have RN:=A_ (show BRow U3 W0.heap.size gO nE ((ts.take (i+1)).foldl (A2n es) o) by rw[FS.o,B7o P1.o P2.o P3.o F2.o F3.o];exact BR3.o)
      have CN:=A_ (show Chg mo ((ts.take (i+1)).foldl (A2n es) o) o by rw[FS.o,B7o P1.o P2.o P3.o F2.o F3.o];exact HC.o)
      go_wp2_with fail
      go_roundg g
      case measure=>omega
      case rel=>exact ⟨i+1,mo,hi'.o,by go_simp,rfl,RN.o,CN.o,WX3.o⟩
     obtain ⟨z1,z1'⟩:=BR3.o.cell F1.o
     have RN:=A_ (show BRow (U3.setCell ⟨gO,p1,none⟩ (.bool true)) W0.heap.size gO nE ((ts.take (i+1)).foldl (A2n es) o) by rw[FS.o,B6q P1.o P3.o F1.o F3.o];exact BR3.o.set _ _)
     have CN:=A_ (show Chg true ((ts.take (i+1)).foldl (A2n es) o) o by rw[FS.o,B6q P1.o P3.o F1.o F3.o];exact HC.o.set F1.o)
     have WN:=A_ (WX3.o.setCell (p:=⟨gO,p1,none⟩) hgO (.bool true))
     go_wp2_with fail
     go_roundg g
     case measure=>omega
     case rel=>exact ⟨i+1,true,hi'.o,by go_simp,rfl,RN.o,CN.o,WN.o⟩
    obtain ⟨z1,z1'⟩:=BR2.o.cell F1.o
    have RN:=A_ (show BRow (U2.setCell ⟨gO,p1,none⟩ (.bool true)) W0.heap.size gO nE ((ts.take (i+1)).foldl (A2n es) o) by rw[FS.o,B6h P1.o P2.o F1.o F2.o];exact BR2.o.set _ _)
    have CN:=A_ (show Chg true ((ts.take (i+1)).foldl (A2n es) o) o by rw[FS.o,B6h P1.o P2.o F1.o F2.o];exact HC.o.set F1.o)
    have WN:=A_ (WX2.o.setCell (p:=⟨gO,p1,none⟩) hgO (.bool true))
    go_wp2_with fail
    go_roundg g
    case measure=>omega
    case rel=>exact ⟨i+1,true,hi'.o,by go_simp,rfl,RN.o,CN.o,WN.o⟩
   have RN:=A_ (show BRow U1 W0.heap.size gO nE ((ts.take (i+1)).foldl (A2n es) o) by rw[FS.o,B8h P1.o F1.o];exact BR1.o)
   have CN:=A_ (show Chg mo ((ts.take (i+1)).foldl (A2n es) o) o by rw[FS.o,B8h P1.o F1.o];exact HC.o)
   go_wp2_with fail
   go_roundg g
   case measure=>omega
   case rel=>exact ⟨i+1,mo,hi'.o,by go_simp,rfl,RN.o,CN.o,WX1.o⟩
  obtain rfl:i=n1:=by omega
  have hii9:¬ ((i:Int)<i):=by omega
  have RN:=A_ (show BRow wi W0.heap.size gO nE (A1e ts es (j+1) on0) by rw[NXT.o];exact HB.o)
  have MT:=A_ (show IfT mo (A7z (A1e ts es (j+1) on0)+1≤g1) from fun h=>by rw[NXT.o];have:=HC.o.2.1 h;have:=HM'.o;omega)
  have MF:=A_ (show IfF mo (A6k ts es (A1e ts es (j+1) on0)=A1e ts es (j+1) on0) from fun h=>by
   have e1:A1e ts es (j+1) on0=o:=by rw[NXT.o];exact HC.o.1 h
   have e2:A6k ts es o=A1e ts es (j+1) on0:=by
    rw[NXT.o,List.take_of_length_le (by rw[HLN.o];exact Nat.le_refl _)];rfl
   rw[e1,e2,e1])
  clear hi hin HC HB
  go_wp2_with fail
  go_roundg g1
  case measure=>omega
  case rel=>exact ⟨j+1,mo,rfl,MT.o,MF.o,RN.o,HW.o⟩
end Go.Proofs.YtbhemnidcleaiaaGreat.X
namespace Go.Proofs.YtbhemnidcleaiaaGreat.X
open Go.RowKit Go.XB Go.XN
theorem C6s:(Tryz.prog.info? 93).map (fun i=>(i.zero,i.size,i.bytes))=some (some (.agg #[.int .i64 0,.int .i64 0,.int .i64 0,.int .i64 0,.int .i64 0]),5,40):=by kernel_rfl
def B2s (t:TTri):List Value:=[.int .i64 t.a,.int .i64 t.b,.int .i64 t.c,.int .i64 t.region,.int .i64 t.level]
def C1w (t:TTri):Prop:=I64 t.a∧I64 t.b∧I64 t.c∧I64 t.region∧I64 t.level
def TR (w:World) (base:Nat) (v:Value) (ts:List TTri):Prop:=w.ownsRow base 93 5 v ts.length (ts.flatMap B2s)∧∀ t∈ts,C1w t
theorem TR.below {w w':World} {base:Nat} {v:Value} {ts:List TTri} (h:TR w base v ts) (hb:Below w.heap.size w w'):TR w' base v ts:=⟨J_ h.1 hb,h.2⟩
def Kept (w:World) (r r':Option Nat):Prop:=r'=r∨∀ g,r'=some g→w.heap.size≤g
def C6q (base:Nat) (r:Option Nat) (ts:List TTri) (w:World) (e:Ending) (w':World):Prop:=∃ v',e=.returned v'∧TR w' base v' ts∧w.grownBy w' r∧Kept w r v'.ownBlock
theorem B8x {w:World} {base base':Nat} {e:TypeId} {size:Nat} {v:Value} {n:Nat} {xs:List Value} (h:w.ownsRow base e size v n xs) (hb:base'≤base):w.ownsRow base' e size v n xs:=by
 obtain ⟨h1,h2⟩:=h
 refine ⟨h1,?_⟩
 rcases h2 with h3 | ⟨g',cap,cur,hv,hbg,r⟩
 ·exact .inl h3
 exact .inr ⟨g',cap,cur,hv,Nat.le_trans hb hbg,r⟩
theorem C3q (a b:Int):∀ (es:List TEdge) (i:Int),A8v a b es i<i+es.length∨A8v a b es i = -1
 | [],i=>.inr rfl
 | e::es,i=>by
  unfold A8v
  cases ((decide (e.a=a)&&decide (e.b=b)) || (decide (e.a=b)&&decide (e.b=a)))
  ·have:=C3q a b es (i+1)
   simp only [cond_false,List.length_cons]
   omega
  simp only [cond_true,List.length_cons];omega
theorem C3e (es:List TEdge) (a b:Int):A1i es a b<es.length∨A1i es a b<0:=by
 have:=C3q a b es 0
 unfold A1i
 omega
def B1g (es:List TEdge) (ms:List Int) (t:TTri):Bool:=decide (A1i es t.b t.c<0) || decide (ms.getD (A1i es t.b t.c).toNat (-1)<0)
def D2q (es:List TEdge) (ms:List Int) (t:TTri):Int:=ms.getD (A1i es t.b t.c).toNat (-1)
def C2g (es:List TEdge) (ms:List Int) (t:TTri):TTri:=⟨D2q es ms t,t.a,t.b,t.region,t.level+1⟩
def C4x (es:List TEdge) (ms:List Int) (t:TTri):TTri:=⟨D2q es ms t,t.c,t.a,t.region,t.level+1⟩
def B4t (es:List TEdge) (ms:List Int):Nat→TTri→Bool
 | 0,t=>B1g es ms t
 | f+1,t=>B1g es ms t || (B4t es ms f (C2g es ms t)&&B4t es ms f (C4x es ms t))
theorem B1w {es:List TEdge} {ms:List Int} {t:TTri}:∀ f,B1g es ms t=true→A1v es ms f t=[t]
 | 0,_=>rfl
 | f+1,h=>by unfold A1v;unfold B1g at h;rw[h];rfl
theorem C1i {es:List TEdge} {ms:List Int} {t:TTri} {f:Nat} (h:B1g es ms t=false):A1v es ms (f+1) t=A1v es ms f (C2g es ms t)++A1v es ms f (C4x es ms t):=by
 rw[A1v];unfold B1g at h;rw[h];rfl
theorem B0v {es:List TEdge} {ms:List Int}:∀ (f:Nat) (t:TTri),(A1v es ms f t).length≤2 ^ f
 | 0,t=>Nat.le_refl _
 | f+1,t=>by
  cases h:B1g es ms t
  ·rw[C1i h,List.length_append]
   have h1:=B0v (es:=es) (ms:=ms) f (C2g es ms t)
   have h2:=B0v (es:=es) (ms:=ms) f (C4x es ms t)
   rw[Nat.pow_succ];omega
  rw[B1w _ h]
  exact Nat.one_le_two_pow
end Go.Proofs.YtbhemnidcleaiaaGreat.X
namespace Go
open Go.RowKit Go.XB Go.Proofs.YtbhemnidcleaiaaGreat.X
theorem B1s {P:Program} {w:World} {ops:Array Oper} {rest:List Oper} {o:Oper} {a:Act} {Q:Exit→Act→World→Prop} (hgd:o.guard=none) (s x:Operand) (t:TypeId)
  (ho:o.op=.call { callee:=.builtin .append,args:=#[s,x],argTypes:=#[t,t] })
  (base:Nat) (e:TypeId) (i:TypeInfo) (z:Value) (size bytes:Nat) (ht:P.underlying t=some (.slice e)) (hi:P.info? e=some i) (hz:i.zero=some z)
  (hsize:i.size=size) (hby:i.bytes=bytes) (hzs:z.cells.size=size) (hsz:0<size)
  (v:Value) (n:Nat) (xs:List Value) (hs:a.eval s=v) (hown:w.ownsRow base e size v n xs)
  (ad:Addr) (c:Nat) (news:List Value) (hx:a.eval x=.slice (some ad) 1 c) (hl:news.length=1*size) (hnews:∀ j u,news[j]?=some u→w.cell? (ad.add j)=some u) (h1:∀ u∈news,u.oneCell'=true)
  (h63:n+1≤maxLen) (hbytes:(n+1)*bytes≤140737488355328) (hbase:base≤w.heap.size)
  (h:∀ v' w',w'.ownsRow base e size v' (n+1) (xs++news)→w.grownBy w' v.ownBlock→Kept w v.ownBlock v'.ownBlock→wpList P ops Q rest (a.put o.dst v') w'):wpList P ops Q (o::rest) a w:=by
 have hown0:=hown
 rcases hown.2 with ⟨hv,hn⟩ | ⟨g,cap,cur,hv,hb,hg,hnc,hcm,hcs,htk⟩
 ·have hxs:xs=[]:=by
   have:=hown.1
   rw[hn,Nat.zero_mul] at this
   exact List.eq_nil_of_length_eq_zero this
  subst hn;subst hxs
  refine wpList_append_own w hgd s x t ho w.heap.size e i z size bytes ht hi hz hsize hby hzs hsz v 0 [] hs (by rw[hv];exact World.ownsRow_nil w _ e size) ad 1 c news hx hl hnews h1 h63 hbytes (Nat.le_refl _) ?_
  intro v' w' h2 h3 h4
  refine h v' w' (B8x h2 hbase) h3 (.inr fun g hg=>?_)
  rcases h2.2 with ⟨hv',hn'⟩ | ⟨g',cap',cur',hv',hb',_⟩
  ·exact absurd hn' (by omega)
  rw[hv'] at hg
  have:g'=g:=by simpa [Value.ownBlock] using hg
  omega
 ·subst hv
  refine A1f hgd s x t ho base e i z size bytes ht hi hz hsize hby hzs hsz g n cap xs hs hown ad 1 c news hx hl hnews h1 h63 hbytes hbase ?_
  intro g' cap' w' h2 h3 h4
  refine h _ w' h2 h3 ?_
  rcases h4 with rfl | rfl
  ·exact .inl rfl
  exact .inr fun g2 hg2=>by
   have:w.heap.size=g2:=by simpa [Value.ownBlock] using hg2
   omega
end Go
namespace Go.Proofs.YtbhemnidcleaiaaGreat.X
open Go.RowKit Go.XB Go.XN
theorem Kept.trans {w w1:World} {r r1 r2:Option Nat} (hs:w.heap.size≤w1.heap.size) (h1:Kept w r r1) (h2:Kept w1 r1 r2):Kept w r r2:=by
 rcases h2 with rfl | h2
 ·exact h1
 exact .inr fun g hg=>Nat.le_trans hs (h2 g hg)
theorem C5c {w w1 w2:World} {r r1:Option Nat} (h:w.grownBy w1 r) (hk:Kept w r r1) (h2:w1.grownBy w2 r1):w.grownBy w2 r:=by
 refine ⟨h2.os.trans h.os,h2.tape.trans h.tape,h2.output.trans h.output,Nat.le_trans h.size h2.size,fun k hlt hne=>(h2.block k (Nat.lt_of_lt_of_le hlt h.size) ?_).trans (h.block k hlt hne)⟩
 rcases hk with rfl | hk
 ·exact hne
 intro e;have:=hk k e.symm;omega
theorem C2l {α:Type} [Dat α] {w w':World} {A:Option Addr} {n c:Nat} {xs:List α} {bs:List Nat} {r:Option Nat} (h:Sl w A n c xs bs) (hg:w.grownBy w' r) (hn:∀ g,r=some g→g∉bs):Sl w' A n c xs bs :=
 h.keep fun b hb=>hg.block b (h.lt b hb) (by intro e;exact hn b e.symm hb)
attribute [local go_sem] O_ Go.XB.opAt P_ M_ Region.wanted yielded
attribute [local simp] P_ M_ MP.eq MP.agg MP.sl MP.box A0e
theorem B7p (f base:Nat) (v:Value) (ts:List TTri) (vt:Value) (t:TTri) (bt:List Nat) (E:Option Addr) (nE cE:Nat) (es:List TEdge) (bE:List Nat) (M:Option Addr) (cM:Nat) (ms:List Int) (bM:List Nat) (w:World) (hv:TR w base v ts) (ht:Agg w vt t bt) (hE:Sl w E nE cE es bE) (hM:Sl w M nE cM ms bM) (hbase:base≤w.heap.size) (hg:∀ g,v.ownBlock=some g→g∉bE∧g∉bM) (hn:nE≤144) (hlen:ts.length+1≤1000) (hst:B1g es ms t=true) :
  Calls Tryz.prog 182 #[v,vt,.slice E nE cE,.slice M nE cM] w (C6q base v.ownBlock (ts++A1v es ms f t) w):=by
  have ST:=A_ hst
  have HV:=A_ hv;have HE:=A_ hE;have HM:=A_ hM;have HG:=A_ hg;have HLEN:=A_ hlen
  obtain ⟨rfl,_,ta,tb,tc,tr,tl⟩:=TTri.agg ht
  have T64:=A_ (show C1w t from ⟨ta,tb,tc,tr,tl⟩)
  have hni:(nE:Int)≤144:=by omega
  obtain ⟨i0,hi,hz0,hz1,hz2⟩:=info_parts C6s
  have C3:=A_ (show ts.length+1≤maxLen by unfold maxLen;omega)
  have C4:=A_ (show (ts.length+1)*40≤140737488355328 by omega)
  clear hv ht hE hM hg hlen hst ta tb tc tr tl
  go_enter Tryz.func182,Tryz.ntmps182
  go_upto_region 1 with fail
  obtain ⟨W0,hW0⟩:∃ W,W=w.alloc (.cells #[.int .i64 t.a,.int .i64 t.b,.int .i64 t.c,.int .i64 t.region,.int .i64 t.level] 93):=⟨_,rfl⟩
  have K0:=A_ (show W0.heap[w.heap.size]?=some (.cells #[.int .i64 t.a,.int .i64 t.b,.int .i64 t.c,.int .i64 t.region,.int .i64 t.level] 93) by rw[hW0];exact heap_alloc_new w _)
  have B0:=A_ (show Below w.heap.size w W0 by rw[hW0];exact Below.box _)
  rw[← hW0]
  clear hW0
  obtain ⟨y1,-⟩:=B_ K0.o (j:=1) rfl
  obtain ⟨y2,-⟩:=B_ K0.o (j:=2) rfl
  simp at y1 y2
  have l0:w.heap.size<W0.heap.size:=E_ K0.o
  go_wp2_with fail
  refine (A5j E nE cE es bE t.b t.c W0 (HE.o.below B0.o) (by omega)).mono ?_
  rintro _ w1 ⟨rfl,hb1⟩
  have K1:=A_ (A0d K0.o hb1)
  have B1:=A_ (Below.next B0.o hb1)
  obtain ⟨e,he⟩:∃ e,A1i es t.b t.c=e:=⟨_,rfl⟩
  have EQ:=A_ he
  have ELT:=A_ (show e<nE∨e<0 by have:=C3e es t.b t.c;rw[he,HE.o.1] at this;exact this)
  rw[he]
  clear hb1 he y1 y2 l0
  obtain ⟨y0,-⟩:=B_ K1.o (j:=0) rfl
  obtain ⟨y1,-⟩:=B_ K1.o (j:=1) rfl
  obtain ⟨y2,-⟩:=B_ K1.o (j:=2) rfl
  obtain ⟨y3,-⟩:=B_ K1.o (j:=3) rfl
  obtain ⟨y4,-⟩:=B_ K1.o (j:=4) rfl
  simp at y0 y1 y2 y3 y4
  have l1:w.heap.size<w1.heap.size:=E_ K1.o
  have V1:=A_ (HV.o.below B1.o)
  have hb1:base≤w1.heap.size:=by have:=B1.o.size;omega
  by_cases hneg:e<0
  ·go_wp2_with (at_builtin;refine B1s rfl _ _ 24 rfl base 93 i0 (.agg #[.int .i64 0,.int .i64 0,.int .i64 0,.int .i64 0,.int .i64 0]) 5 40 Tryz.underlying24 hi hz0 hz1 hz2 rfl (by decide) v _ _ (by go_simp;done) (V1.o.1.alloc _) ⟨w1.heap.size,0,none⟩ 1 (B2s t) (by go_simp;done) rfl (A0k (heap_alloc_new w1 _)) (fun u hu=>by unfold B2s at hu;simp at hu;rcases hu with rfl | rfl | rfl | rfl | rfl<;>rfl) C3.o C4.o (A0p hb1 _) ?_;intro v' w3 hown hgr hkp)
   have R3:=A_ (show TR w3 base v' (ts++[t]) from ⟨by simpa [List.flatMap_append] using hown,fun x hx=>by
    rcases List.mem_append.1 hx with h | h
    ·exact HV.o.2 x h
    simp at h;subst h;exact T64.o⟩)
   have G3:=A_ (A3j (A2f (r:=v.ownBlock) (B1.o.alloc B1.o.size (.cells (B2s t).toArray 93))) hgr)
   have KP3:=A_ (show Kept w v.ownBlock v'.ownBlock from hkp.elim .inl (fun h=>.inr fun g hg=>by have:=h g hg;have:=B1.o.size;simp at *;omega))
   clear hown hgr hkp
   go_wp2
   go_ret
   rw[B1w f ST.o]
   exact ⟨v',rfl,R3.o,G3.o,KP3.o⟩
  have he0:0≤e:=by omega
  obtain ⟨q,rfl⟩:∃ q:Nat,e=q:=⟨e.toNat,by omega⟩
  have hqn:q<nE:=by have:=ELT.o;omega
  have hqi:(q:Int)<nE:=by omega
  obtain ⟨bm,om,x,rfl,hbm,hx1,_,x0⟩:=Sl.getInt (HM.o.below B1.o) hqn
  have XN:x<0:=by
   have:=ST.o
   unfold B1g at this
   rw[EQ.o,decide_eq_false hneg,Bool.false_or,decide_eq_true_eq,Int.toNat_natCast,List.getD_eq_getElem?_getD,hx1] at this
   exact this
  clear hx1
  go_wp2_with (at_builtin;refine B1s rfl _ _ 24 rfl base 93 i0 (.agg #[.int .i64 0,.int .i64 0,.int .i64 0,.int .i64 0,.int .i64 0]) 5 40 Tryz.underlying24 hi hz0 hz1 hz2 rfl (by decide) v _ _ (by go_simp;done) (V1.o.1.alloc _) ⟨w1.heap.size,0,none⟩ 1 (B2s t) (by go_simp;done) rfl (A0k (heap_alloc_new w1 _)) (fun u hu=>by unfold B2s at hu;simp at hu;rcases hu with rfl | rfl | rfl | rfl | rfl<;>rfl) C3.o C4.o (A0p hb1 _) ?_;intro v' w3 hown hgr hkp)
  have R3:=A_ (show TR w3 base v' (ts++[t]) from ⟨by simpa [List.flatMap_append] using hown,fun x hx=>by
   rcases List.mem_append.1 hx with h | h
   ·exact HV.o.2 x h
   simp at h;subst h;exact T64.o⟩)
  have G3:=A_ (A3j (A2f (r:=v.ownBlock) (B1.o.alloc B1.o.size (.cells (B2s t).toArray 93))) hgr)
  have KP3:=A_ (show Kept w v.ownBlock v'.ownBlock from hkp.elim .inl (fun h=>.inr fun g hg=>by have:=h g hg;have:=B1.o.size;simp at *;omega))
  clear hown hgr hkp
  go_wp2
  go_ret
  rw[B1w f ST.o]
  exact ⟨v',rfl,R3.o,G3.o,KP3.o⟩
theorem C0c:∀ (f base:Nat) (v:Value) (ts:List TTri) (vt:Value) (t:TTri) (bt:List Nat) (E:Option Addr) (nE cE:Nat) (es:List TEdge) (bE:List Nat) (M:Option Addr) (cM:Nat) (ms:List Int) (bM:List Nat) (w:World),TR w base v ts→Agg w vt t bt→Sl w E nE cE es bE→Sl w M nE cM ms bM→base≤w.heap.size→(∀ g,v.ownBlock=some g→g∉bE∧g∉bM)→nE≤144→ts.length+2 ^ f≤900→(0≤t.level∧t.level+f≤1000)→B4t es ms f t=true →
  Calls Tryz.prog 182 #[v,vt,.slice E nE cE,.slice M nE cM] w (C6q base v.ownBlock (ts++A1v es ms f t) w):=by
 intro f
 induction f with
 | zero =>
  intro base v ts vt t bt E nE cE es bE M cM ms bM w hv ht hE hM hbase hg hn hlen hlv hend
  exact B7p 0 base v ts vt t bt E nE cE es bE M cM ms bM w hv ht hE hM hbase hg hn (by simp at hlen;omega) hend
 | succ f ih =>
  intro base v ts vt t bt E nE cE es bE M cM ms bM w hv ht hE hM hbase hg hn hlen hlv hend
  cases hst:B1g es ms t
  case true=>exact B7p (f+1) base v ts vt t bt E nE cE es bE M cM ms bM w hv ht hE hM hbase hg hn (by have:=Nat.one_le_two_pow (n:=f+1);omega) hst
  have ST:=A_ hst
  obtain ⟨ea,eb⟩:B4t es ms f (C2g es ms t)=true∧B4t es ms f (C4x es ms t)=true:=by unfold B4t at hend;rw[hst] at hend;simpa using hend
  have EA:=A_ ea;have EB:=A_ eb
  have IH:=A_ ih
  obtain ⟨hl0,hl1⟩:=hlv
  have hlv1:t.level≤1000:=by omega
  have LVF:=A_ (show t.level+1+f≤1000 by omega)
  have P2:=A_ (show ts.length+2 ^ f+2 ^ f≤900 by rw[Nat.pow_succ] at hlen;omega)
  have h1p:=Nat.one_le_two_pow (n:=f)
  have hlen:ts.length+1≤1000:=by have:=P2.o;omega
  have HV:=A_ hv;have HE:=A_ hE;have HM:=A_ hM;have HG:=A_ hg;have HLEN:=A_ hlen
  obtain ⟨rfl,_,ta,tb,tc,tr,tl⟩:=TTri.agg ht
  have T64:=A_ (show C1w t from ⟨ta,tb,tc,tr,tl⟩)
  have hni:(nE:Int)≤144:=by omega
  obtain ⟨i0,hi,hz0,hz1,hz2⟩:=info_parts C6s
  have C3:=A_ (show ts.length+1≤maxLen by unfold maxLen;omega)
  have C4:=A_ (show (ts.length+1)*40≤140737488355328 by omega)
  clear hv ht hE hM hg hlen hend hst ih ea eb ta tb tc tr tl hl1 h1p
  go_enter Tryz.func182,Tryz.ntmps182
  go_upto_region 1 with fail
  obtain ⟨W0,hW0⟩:∃ W,W=w.alloc (.cells #[.int .i64 t.a,.int .i64 t.b,.int .i64 t.c,.int .i64 t.region,.int .i64 t.level] 93):=⟨_,rfl⟩
  have K0:=A_ (show W0.heap[w.heap.size]?=some (.cells #[.int .i64 t.a,.int .i64 t.b,.int .i64 t.c,.int .i64 t.region,.int .i64 t.level] 93) by rw[hW0];exact heap_alloc_new w _)
  have B0:=A_ (show Below w.heap.size w W0 by rw[hW0];exact Below.box _)
  rw[← hW0]
  clear hW0
  obtain ⟨y1,-⟩:=B_ K0.o (j:=1) rfl
  obtain ⟨y2,-⟩:=B_ K0.o (j:=2) rfl
  simp at y1 y2
  have l0:w.heap.size<W0.heap.size:=E_ K0.o
  go_wp2_with fail
  refine (A5j E nE cE es bE t.b t.c W0 (HE.o.below B0.o) (by omega)).mono ?_
  rintro _ w1 ⟨rfl,hb1⟩
  have K1:=A_ (A0d K0.o hb1)
  have B1:=A_ (Below.next B0.o hb1)
  obtain ⟨e,he⟩:∃ e,A1i es t.b t.c=e:=⟨_,rfl⟩
  have EQ:=A_ he
  have ELT:=A_ (show e<nE∨e<0 by have:=C3e es t.b t.c;rw[he,HE.o.1] at this;exact this)
  rw[he]
  clear hb1 he y1 y2 l0
  obtain ⟨y0,-⟩:=B_ K1.o (j:=0) rfl
  obtain ⟨y1,-⟩:=B_ K1.o (j:=1) rfl
  obtain ⟨y2,-⟩:=B_ K1.o (j:=2) rfl
  obtain ⟨y3,-⟩:=B_ K1.o (j:=3) rfl
  obtain ⟨y4,-⟩:=B_ K1.o (j:=4) rfl
  simp at y0 y1 y2 y3 y4
  have l1:w.heap.size<w1.heap.size:=E_ K1.o
  have V1:=A_ (HV.o.below B1.o)
  have hb1:base≤w1.heap.size:=by have:=B1.o.size;omega
  have hneg:¬ (e<0):=by
   intro h
   have:=ST.o
   unfold B1g at this
   rw[EQ.o,decide_eq_true h] at this
   cases this
  have he0:0≤e:=by omega
  obtain ⟨q,rfl⟩:∃ q:Nat,e=q:=⟨e.toNat,by omega⟩
  have hqn:q<nE:=by have:=ELT.o;omega
  have hqi:(q:Int)<nE:=by omega
  obtain ⟨bm,om,x,rfl,hbm,hx1,x64,x0⟩:=Sl.getInt (HM.o.below B1.o) hqn
  have MQ:=A_ (show D2q es ms t=x by unfold D2q;rw[EQ.o,Int.toNat_natCast,List.getD_eq_getElem?_getD,hx1];rfl)
  have XN:¬ (x<0):=by
   intro h
   have:=ST.o
   unfold B1g at this
   rw[show ms.getD (A1i es t.b t.c).toNat (-1)=x from MQ.o,decide_eq_true h,Bool.or_true] at this
   cases this
  have X64:=A_ x64
  have HX1:=A_ hx1
  have KA:=A_ (show C2g es ms t=⟨x,t.a,t.b,t.region,t.level+1⟩ by unfold C2g;rw[MQ.o])
  have KB:=A_ (show C4x es ms t=⟨x,t.c,t.a,t.region,t.level+1⟩ by unfold C4x;rw[MQ.o])
  have L64:=A_ (show I64 (t.level+1) by unfold I64;omega)
  clear hx1 x64
  go_upto_region 4 with fail
  refine A0m 17 (by kernel_rfl) (by kernel_rfl) (by kernel_rfl) (by kernel_rfl) (by kernel_rfl) ?_
  simp only [List.take_succ_cons,List.take_zero,List.drop_succ_cons,List.drop_zero]
  iterate 17
   refine D_ _ ?_
  intro yq zq wa hC hd (hdis:Hid _)
  simp at hd
  go_simp
  clear hd hdis
  have Ba:=A_ (Below.next B1.o hC)
  have Va:=A_ (V1.o.below hC)
  have Ka:=A_ (A0d K1.o hC)
  clear y0 y1 y2 y3 y4 x0 l1
  go_wp2_with fail
  refine (IH.o base v ts _ (C2g es ms t) _ E nE cE es bE (some ⟨bm,om,none⟩) cM ms bM wa Va.o (by rw[KA.o];exact TTri.mkAgg (x:=⟨x,t.a,t.b,t.region,t.level+1⟩) X64.o T64.o.1 T64.o.2.1 T64.o.2.2.2.1 L64.o) (HE.o.below Ba.o) (HM.o.below Ba.o) (by have:=Ba.o.size;omega) HG.o hn (by have:=P2.o;have:=Nat.one_le_two_pow (n:=f);omega) ⟨by rw[KA.o];show 0≤t.level+1;omega,by rw[KA.o];exact LVF.o⟩ EA.o).mono ?_
  rintro _ w2 ⟨v1,rfl,hR1,hG1,hK1⟩
  have V2:=A_ hR1
  have hbs:∀ g,v.ownBlock=some g→g<w.heap.size:=fun g hg=>(World.ownsRow.lt HV.o.1 g hg).2
  have K2:=A_ ((hG1.block w.heap.size (E_ Ka.o) (fun e=>by have:=hbs _ e.symm;omega)).trans Ka.o)
  have SE2:=A_ (C2l (HE.o.below Ba.o) hG1 (fun g hg=>(HG.o g hg).1))
  have SM2:=A_ (C2l (HM.o.below Ba.o) hG1 (fun g hg=>(HG.o g hg).2))
  have HG2:=A_ (show ∀ g,v1.ownBlock=some g→g∉bE∧g∉bM from fun g hg=>by
   rcases hK1 with h | h
   ·exact HG.o g (by rw[← h];exact hg)
   have h2:=h g hg
   have h3:=Ba.o.size
   exact ⟨fun hm=>by have:=HE.o.lt g hm;omega,fun hm=>by have:=HM.o.lt g hm;omega⟩)
  have G2:=A_ (A3j (A2f (r:=v.ownBlock) Ba.o) hG1)
  have KP2:=A_ (show Kept w v.ownBlock v1.ownBlock from hK1.elim .inl (fun h=>.inr fun g hg=>by have:=h g hg;have:=Ba.o.size;omega))
  have L2:=A_ (show (ts++A1v es ms f (C2g es ms t)).length+2 ^ f≤900 by
   rw[List.length_append];have:=B0v (es:=es) (ms:=ms) f (C2g es ms t);have:=P2.o;omega)
  have hb2:base≤w2.heap.size:=by have:=G2.o.size;omega
  clear hR1 hG1 hK1 hbs Va hC
  go_upto_region 5 with fail
  obtain ⟨bm',om',x',hA',hbm',hx1',-,x0⟩:=Sl.getInt SM2.o hqn
  injection hA' with hA';injection hA' with t1 t2 _;subst t1;subst t2
  obtain rfl:x'=x:=by rw[HX1.o] at hx1';exact (Option.some.inj hx1').symm
  obtain ⟨y0,-⟩:=B_ K2.o (j:=0) rfl
  obtain ⟨y1,-⟩:=B_ K2.o (j:=1) rfl
  obtain ⟨y2,-⟩:=B_ K2.o (j:=2) rfl
  obtain ⟨y3,-⟩:=B_ K2.o (j:=3) rfl
  obtain ⟨y4,-⟩:=B_ K2.o (j:=4) rfl
  simp at y0 y1 y2 y3 y4
  have l2:w.heap.size<w2.heap.size:=E_ K2.o
  clear hx1' hbm
  refine A0m 17 (by kernel_rfl) (by kernel_rfl) (by kernel_rfl) (by kernel_rfl) (by kernel_rfl) ?_
  simp only [List.take_succ_cons,List.take_zero,List.drop_succ_cons,List.drop_zero]
  iterate 17
   refine D_ _ ?_
  intro yq zq wb hC hd (hdis:Hid _)
  simp at hd
  go_simp
  clear hd hdis
  have Bb:=A_ hC
  clear hC y0 y1 y2 y3 y4 x0 l2
  go_wp2_with fail
  refine (IH.o base v1 _ _ (C4x es ms t) _ E nE cE es bE (some ⟨bm,om,none⟩) cM ms bM wb (V2.o.below Bb.o) (by rw[KB.o];exact TTri.mkAgg (x:=⟨x',t.c,t.a,t.region,t.level+1⟩) X64.o T64.o.2.2.1 T64.o.1 T64.o.2.2.2.1 L64.o) (SE2.o.below Bb.o) (SM2.o.below Bb.o) (by have:=Bb.o.size;omega) HG2.o hn L2.o ⟨by rw[KB.o];show 0≤t.level+1;omega,by rw[KB.o];exact LVF.o⟩ EB.o).mono ?_
  rintro _ w3 ⟨v2,rfl,hR2,hG3,hK3⟩
  have R9:=A_ (show TR w3 base v2 (ts++A1v es ms (f+1) t) by rw[C1i ST.o,← List.append_assoc];exact hR2)
  have Gb:=A_ (A3j (A2f (r:=v1.ownBlock) Bb.o) hG3)
  have G9:=A_ (C5c G2.o KP2.o Gb.o)
  have K9:=A_ (show Kept w v.ownBlock v2.ownBlock from KP2.o.trans G2.o.size (show Kept w2 v1.ownBlock v2.ownBlock from hK3.elim .inl (fun h=>.inr fun g hg=>by have:=h g hg;have:=Bb.o.size;omega)))
  clear hR2 hG3 hK3
  go_wp2
  go_ret
  exact ⟨v2,rfl,R9.o,G9.o,K9.o⟩
end Go.Proofs.YtbhemnidcleaiaaGreat.X
namespace Go.Proofs.YtbhemnidcleaiaaGreat.X
open Go.RowKit Go.XB Go.XN
def D1x (w:World) (ps:List TPoint) (e:Ending) (w':World):Prop:=∃ gB n cap zs,e=.returned (.slice (some ⟨gB,0,none⟩) n cap)∧PC w 38 w' gB n cap ps zs∧Below w.heap.size w w'
theorem D1u {α:Type} [Dat α] {w w0 wr:World} {e:TypeId} {gB i cap:Nat} {ps:List α} {zs:List Nat} (h:PC w e wr gB i cap ps zs) (hs:w0.heap.size≤w.heap.size):PC w0 e wr gB i cap ps zs:=by
 obtain ⟨cells,fss,h1,h2,h3,h4,h5,h6⟩:=h
 exact ⟨cells,fss,B8x h1 hs,h2,h3,h4,h5,fun b hb=>Nat.le_trans hs (h6 b hb)⟩
theorem ER.weak {w:World} {base base' g n c:Nat} {es:List TEdge} (h:ER w base g n c es) (hb:base'≤base):ER w base' g n c es:=⟨B8x h.1 hb,h.2⟩
theorem A2y {w w':World} {base:Nat} {e:TypeId} {size g n c:Nat} {xs:List Value} {x:Nat} (h:w.ownsRow base e size (.slice (some ⟨g,0,none⟩) n c) n xs) (hg:w.grownBy w' (some x)) (hne:g≠x):w'.ownsRow base e size (.slice (some ⟨g,0,none⟩) n c) n xs :=
 h.kept hg (by show some g=none∨some g≠some x;exact .inr (by simp;omega))
theorem TR.sl {w:World} {base:Nat} {v:Value} {ts:List TTri} (h:TR w base v ts):∃ A c bs,v=.slice A ts.length c∧Sl w A ts.length c ts bs∧∀ b∈bs,v.ownBlock=some b:=by
 have hlen:∀ l:List TTri,(l.flatMap B2s).length=l.length*5:=fun l=>by
  induction l with
  | nil=>rfl
  | cons x xs ih=>rw[List.flatMap_cons,List.length_append,ih];simp[B2s];omega
 have hdrop:∀ (l:List TTri) (k:Nat) (x:TTri),l[k]?=some x→((l.flatMap B2s).drop (k*5)).take 5=B2s x:=fun l=>by
  induction l with
  | nil=>intro k x hx;simp at hx
  | cons y ys ih =>
   intro k x hx
   cases k with
   | zero =>
    simp at hx;subst hx
    rw[List.flatMap_cons,Nat.zero_mul,List.drop_zero,List.take_append_of_le_length (by simp[B2s])]
    rfl
   | succ k =>
    rw[show (k+1)*5=(B2s y).length+k*5 by simp[B2s];omega,List.flatMap_cons,List.drop_length_add_append]
    exact ih k x (by simpa using hx)
 have hf:Filled w (ts.flatMap B2s) ts (List.replicate ts.length []):=by
  refine ⟨by simp,by rw[hlen];exact Nat.le_refl _,fun k x fs hx hfs=>?_⟩
  have hk:=(List.getElem?_eq_some_iff.1 hx).1
  have hfs':fs=[]:=by rw[List.getElem?_replicate,if_pos hk] at hfs;exact (Option.some.inj hfs).symm
  subst hfs'
  obtain ⟨h1,h2,h3,h4,h5⟩:=h.2 x (List.mem_of_getElem? hx)
  show Dat.at_ w (((ts.flatMap B2s).drop (k*5)).take 5) x []
  rw[hdrop ts k x hx]
  exact TTri.shut h1 h2 h3 h4 h5
 obtain ⟨A,c,bs,hv,hs,hor⟩:=hf.sl (α:=TTri) (base:=base) (n:=ts.length) h.1 rfl
 refine ⟨A,c,bs,hv,hs,fun b hb=>?_⟩
 rcases hor with ⟨_,rfl⟩ | ⟨g',hg',rfl,_⟩
 ·cases hb
 simp at hb
 subst hb
 exact hg'
def up2 (w:World):World:=(w.alloc (.cells #[] 3)).alloc (.cells #[] 3)
theorem B9s (w:World):(up2 w).heap.size=w.heap.size+2:=by unfold up2;simp
structure BiS (w U:World) (MC:Array Value) (gE nE cE:Nat) (es:List TEdge) (gO:Nat) (on:List Bool) (gX:Nat) (vT:Value) (gP nP cP:Nat) (qs:List TPoint) (zP:List Nat) (gM i cM:Nat) (ms:List Int):Prop where
 bl:Below w.heap.size w U
 k2:U.heap[w.heap.size]?=some (.cells MC 26)
 rs:U.heap[w.heap.size+1]?=some (.cells #[.slice none 0 0,.slice none 0 0] 26)
 kx:U.heap[gX]?=some (.cells #[.slice (some ⟨gP,0,none⟩) nP cP,vT] 26)
 pc:PC (up2 w) 38 U gP nP cP qs zP
 er:ER U w.heap.size gE nE cE es
 br:BRow U w.heap.size gO nE on
 mr:U.ownsRow w.heap.size 3 1 (.slice (some ⟨gM,0,none⟩) i cM) i (ms.map (.int .i64))
 dX:gX≠gP∧gX∉zP∧gX≠gM∧gX≠gE∧gX≠gO∧w.heap.size+1<gX
 dM:gM≠gP∧gM∉zP∧gM≠gE∧gM≠gO∧w.heap.size+1<gM
 dP:gP≠gE∧gP≠gO∧w.heap.size+1<gP
section
variable {w U U':World} {MC:Array Value} {gE nE cE:Nat} {es:List TEdge} {gO:Nat} {on:List Bool} {gX:Nat} {vT:Value} {gP nP cP:Nat} {qs:List TPoint} {zP:List Nat} {gM i cM:Nat} {ms:List Int}
theorem BiS.below (h:BiS w U MC gE nE cE es gO on gX vT gP nP cP qs zP gM i cM ms) (hb:Below U.heap.size U U'):BiS w U' MC gE nE cE es gO on gX vT gP nP cP qs zP gM i cM ms :=
 ⟨Below.next h.bl hb,A0d h.k2 hb,A0d h.rs hb,A0d h.kx hb,h.pc.below hb,h.er.below hb,h.br.below hb,J_ h.mr hb,h.dX,h.dM,h.dP⟩
theorem BiS.pushM (h:BiS w U MC gE nE cE es gO on gX vT gP nP cP qs zP gM i cM ms) {gM' cM':Nat} {k:Int} (hr:U'.ownsRow w.heap.size 3 1 (.slice (some ⟨gM',0,none⟩) (i+1) cM') (i+1) (ms.map (.int .i64)++[.int .i64 k])) (hg:U.grownBy U' (some gM)) (hor:gM'=gM∨gM'=U.heap.size) :
  BiS w U' MC gE nE cE es gO on gX vT gP nP cP qs zP gM' (i+1) cM' (ms++[k]):=by
 have lX:=E_ h.kx
 have lE:=h.er.lt
 have lO:=h.br.lt
 have lP:=h.pc.lt
 have lz:=h.pc.zlt
 obtain ⟨m1,m2,m3,m4,m5⟩:=h.dM
 obtain ⟨x1,x2,x3,x4,x5,x6⟩:=h.dX
 have hsz:=h.bl.size
 refine ⟨h.bl.grown hg hsz (fun k hk=>by injection hk with e;omega),(hg.block _ (E_ h.k2) (by intro e;injection e with e;omega)).trans h.k2,(hg.block _ (E_ h.rs) (by intro e;injection e with e;omega)).trans h.rs,(hg.block _ lX (by intro e;injection e with e;omega)).trans h.kx,h.pc.keep hg m1 m2,⟨A2y h.er.1 hg (by omega),h.er.2⟩,A2y h.br hg (by omega),by rw[List.map_append];exact hr,⟨x1,x2,by rcases hor with e | e<;>omega,x4,x5,x6⟩,⟨by rcases hor with e | e<;>omega,fun hm=>?_,by rcases hor with e | e<;>omega,by rcases hor with e | e<;>omega,by rcases hor with e | e<;>omega⟩,h.dP⟩
 rcases hor with e | e
 ·exact m2 (e ▸ hm)
 have:=(lz _ hm).2;omega
theorem BiS.pushP (h:BiS w U MC gE nE cE es gO on gX vT gP nP cP qs zP gM i cM ms) {gP' cP':Nat} {q:TPoint} {zq:List Nat} (hp:PC (up2 w) 38 U' gP' (nP+1) cP' (qs++[q]) (zP++zq)) (hg:U.grownBy U' (some gP)) (hor:gP'=gP∨gP'=U.heap.size) (hz:∀ b∈zq,b≠gX∧b≠gM) :
  BiS w (U'.setCell ⟨gX,0,none⟩ (.slice (some ⟨gP',0,none⟩) (nP+1) cP')) MC gE nE cE es gO on gX vT gP' (nP+1) cP' (qs++[q]) (zP++zq) gM i cM ms:=by
 have lX:=E_ h.kx
 have lE:=h.er.lt
 have lO:=h.br.lt
 have lM:=World.ownsRow.lt h.mr _ rfl
 have lM2:gM<U.heap.size:=lM.2
 obtain ⟨m1,m2,m3,m4,m5⟩:=h.dM
 obtain ⟨x1,x2,x3,x4,x5,x6⟩:=h.dX
 obtain ⟨p1,p2,p3⟩:=h.dP
 have hsz:=h.bl.size
 have hgX:gX≠gP':=by rcases hor with e | e<;>omega
 have hxz:gX∉zP++zq:=fun hm=>(List.mem_append.1 hm).elim x2 (fun hm=>(hz _ hm).1 rfl)
 have G2:U'.grownBy (U'.setCell ⟨gX,0,none⟩ (.slice (some ⟨gP',0,none⟩) (nP+1) cP')) (some gX):=⟨rfl,rfl,rfl,by simp[World.setCell],fun k _ hk=>Below.heap_setCell U' ⟨gX,0,none⟩ _ k (fun e=>hk (by rw[e]))⟩
 have KX:=(hg.block gX lX (by intro e;injection e with e;omega)).trans h.kx
 have sz2:=hg.size
 refine ⟨(h.bl.grown hg hsz (fun k hk=>by injection hk with e;omega)).setCell (p:=⟨gX,0,none⟩) (show w.heap.size≤gX by omega) _,
  (G2.block _ (Nat.lt_of_lt_of_le (E_ h.k2) sz2) (by intro e;injection e with e;omega)).trans ((hg.block _ (E_ h.k2) (by intro e;injection e with e;omega)).trans h.k2),
  (G2.block _ (Nat.lt_of_lt_of_le (E_ h.rs) sz2) (by intro e;injection e with e;omega)).trans ((hg.block _ (E_ h.rs) (by intro e;injection e with e;omega)).trans h.rs),
  A8w KX,hp.keep G2 hgX hxz,⟨A2y (A2y h.er.1 hg (by omega)) G2 (by omega),h.er.2⟩,A2y (A2y h.br hg (by omega)) G2 (by omega),A2y (A2y h.mr hg m1) G2 (by omega),
  ⟨hgX,hxz,x3,x4,x5,x6⟩,⟨by rcases hor with e | e<;>omega,fun hm=>(List.mem_append.1 hm).elim m2 (fun hm=>(hz _ hm).2 rfl),m3,m4,m5⟩,⟨by rcases hor with e | e<;>omega,by rcases hor with e | e<;>omega,by rcases hor with e | e<;>omega⟩⟩
end
attribute [local go_sem] O_ Go.XB.opAt P_ M_ Region.wanted yielded
attribute [local simp] P_ M_ MP.eq MP.agg MP.sl MP.box A0e
theorem C1x (A:Option Addr) (n c:Nat) (ps:List TPoint) (bs:List Nat) (w:World) (hx:Sl w A n c ps bs) (ok:ps.all A0r=true) (hn:n≤40) :
  Calls Tryz.prog 179 #[.slice A n c] w (D1x w ps):=by
 have HX:=A_ hx;have OK:=A_ ok
 obtain ⟨i0,hi,hz0,hz1,hz2⟩:=info_parts C2k
 have HL:=A_ hx.1
 have hn40:(n:Int)≤40:=by omega
 clear hx ok
 have P0:=A_ (show PC (α:=TPoint) w 38 (w.alloc (.cells #[] 38)) w.heap.size 0 0 (ps.take 0) [] from PC.start (Nat.le_refl _))
 have B0:=A_ (Below.box (w:=w) (.cells #[] 38))
 go_enter Tryz.func179,Tryz.ntmps179
 go_wp2_with fail
 go_loopg [3,9] n (fun g s3 s wr=>∃ (i gB cap:Nat) (zs:List Nat),i+g=n∧s=.int .i64 i∧s3=.slice (some ⟨gB,0,none⟩) i cap∧Hid (PC w 38 wr gB i cap (ps.take i) zs)∧Hid (Below w.heap.size w wr))
 case atStart=>exact ⟨0,w.heap.size,0,[],by omega,rfl,rfl,P0.o,B0.o⟩
 case round =>
  clear P0 B0
  obtain ⟨i,gB,cap,zs,hi3,rfl,rfl,HP,HB⟩:=hrel
  rcases Nat.lt_or_ge i n with hin | hin
  ·have hii:(i:Int)<n:=by omega
   have hi0:(0:Int)≤i:=by omega
   obtain ⟨g,rfl⟩:∃ g,gk=g+1:=⟨gk - 1,by omega⟩
   have hi':=A_ (show i+1+g=n by omega)
   have C3:=A_ (show i+1≤maxLen by unfold maxLen;omega)
   have C4:=A_ (show (i+1)*112≤140737488355328 by omega)
   obtain ⟨be,of,x,D1,nD1,cD1,d1,D2,nD2,cD2,d2,D4,nD4,cD4,d4,D5,nD5,cD5,d5,rfl,hbl,hx1,e0,e1,e2,e3,e4,e5,hag⟩:=TPoint.elemA (HX.o.below HB.o) hin
   have HAG:=A_ hag
   have OX:=A_ (List.all_eq_true.1 OK.o x (List.mem_of_getElem? hx1))
   have TK:=A_ (show ps.take (i+1)=ps.take i++[x] from take_step hx1)
   clear hi3 hin hag hx1
   go_upto_region 5 with fail
   obtain ⟨w1,hw1⟩:∃ y,y=wr.alloc (.cells #[.bool x.x.num.neg,.slice D1 nD1 cD1,.slice D2 nD2 cD2,.bool x.y.num.neg,.slice D4 nD4 cD4,.slice D5 nD5 cD5] 38):=⟨_,rfl⟩
   have hb1:Below wr.heap.size wr w1:=by rw[hw1];exact Below.box _
   have hbx:w1.heap[wr.heap.size]?=some (.cells #[.bool x.x.num.neg,.slice D1 nD1 cD1,.slice D2 nD2 cD2,.bool x.y.num.neg,.slice D4 nD4 cD4,.slice D5 nD5 cD5] 38):=by rw[hw1];exact heap_alloc_new wr _
   rw[← hw1]
   clear hw1
   have HB1:=A_ hb1
   have hl1:wr.heap.size<w1.heap.size:=E_ hbx
   obtain ⟨p0_,-⟩:=B_ hbx (j:=0) rfl
   obtain ⟨p1_,-⟩:=B_ hbx (j:=1) rfl
   obtain ⟨p2_,-⟩:=B_ hbx (j:=2) rfl
   obtain ⟨p3_,-⟩:=B_ hbx (j:=3) rfl
   obtain ⟨p4_,-⟩:=B_ hbx (j:=4) rfl
   obtain ⟨p5_,-⟩:=B_ hbx (j:=5) rfl
   clear hb1 hbx
   go_wp2_with fail
   refine (B4j _ x _ w1 (HAG.o.below HB1.o) OX.o).mono ?_
   rintro _ w2 ⟨v2,s2,rfl,ha2,hn2,hb2⟩
   obtain ⟨E1,nE1,cE1,u1,E2,nE2,cE2,u2,E4,nE4,cE4,u4,E5,nE5,cE5,u5,rfl,z2,k1,k2,k4,k5⟩:=TPoint.agg ha2
   have AT2:=A_ (show Dat.at_ (w2.alloc (.cells #[.bool x.x.num.neg,.slice E1 nE1 cE1,.slice E2 nE2 cE2,.bool x.y.num.neg,.slice E4 nE4 cE4,.slice E5 nE5 cE5] 38)) [.bool x.x.num.neg,.slice E1 nE1 cE1,.slice E2 nE2 cE2,.bool x.y.num.neg,.slice E4 nE4 cE4,.slice E5 nE5 cE5] x s2 by
    rw[z2]
    exact TPoint.shut (k1.below (Below.box _)) (k2.below (Below.box _)) (k4.below (Below.box _)) (k5.below (Below.box _)))
   have B2:=A_ (show Below wr.heap.size wr (w2.alloc (.cells #[.bool x.x.num.neg,.slice E1 nE1 cE1,.slice E2 nE2 cE2,.bool x.y.num.neg,.slice E4 nE4 cE4,.slice E5 nE5 cE5] 38)) from Below.next (Below.next HB1.o hb2) (Below.box _))
   have HP2:=A_ (HP.o.below B2.o)
   have HBN:=A_ (Below.next HB.o B2.o)
   have hgl:=HP.o.lt
   have HR2:=A_ (show ∀ b∈s2,w.heap.size≤b∧b≠gB from fun b hb=>by have:=hn2 b hb;have:=HB.o.size;omega)
   clear ha2 hn2 hb2 z2 k1 k2 k4 k5 HP
   go_wp2_with (at_builtin;refine A7f rfl _ _ 23 rfl 38 i0 (.agg #[.bool false,.slice none 0 0,.slice none 0 0,.bool false,.slice none 0 0,.slice none 0 0]) 112 Tryz.underlying23 hi hz0 hz1 hz2 rfl HP2.o HBN.o.size (by go_simp;done) ⟨w2.heap.size,0,none⟩ 1 [.bool x.x.num.neg,.slice E1 nE1 cE1,.slice E2 nE2 cE2,.bool x.y.num.neg,.slice E4 nE4 cE4,.slice E5 nE5 cE5] x s2 (by go_simp;done) (A0k (heap_alloc_new w2 _)) AT2.o HR2.o C3.o C4.o ?_;intro gB' cap' w3 hp3 hgr3 hor3)
   have HP3:=A_ (show PC w 38 w3 gB' (i+1) cap' (ps.take (i+1)) (zs++s2) by rw[TK.o];exact hp3)
   have HB3:=A_ (HBN.o.grown hgr3 HBN.o.size (fun k hk=>by injection hk with h;omega))
   clear hp3 hgr3 hor3 HP2 HBN B2 AT2 HR2 HB HAG
   go_wp2_with fail
   go_roundg g
   case measure=>omega
   case rel=>exact ⟨i+1,gB',cap',zs++s2,hi'.o,by go_simp,rfl,HP3,HB3⟩
  have h3:i=n:=by omega
  subst h3
  have hii:¬ ((i:Int)<i):=by omega
  go_wp2_with fail
  have HPF:=A_ (show PC w 38 wr gB i cap ps zs by
   have:=HP.o
   rwa [List.take_of_length_le (by rw[HL.o];exact Nat.le_refl _)] at this)
  refine bodyPost_ret (v:=.slice (some ⟨gB,0,none⟩) i cap) (by simp[results,Tryz.results179,go_sem, *]) rfl ?_
  exact ⟨gB,i,cap,zs,rfl,HPF.o,HB.o⟩
end Go.Proofs.YtbhemnidcleaiaaGreat.X
namespace Go.Proofs.YtbhemnidcleaiaaGreat.X
open Go.RowKit Go.XB Go.XN
def C1e (ps:List TPoint) (es:List TEdge) (i:Nat):TPoint:=A2q (mkR 1 2) (A9b (A0c ps (es.getD i A8r).a) (A0c ps (es.getD i A8r).b))
theorem B3v (ps:List TPoint) (es:List TEdge):∀ (bs:List Bool) (i:Nat) (qs:List TPoint) (ms:List Int) (b:Bool),A6f ps es (bs++[b]) i qs ms =
  bif b then ((A6f ps es bs i qs ms).1++[C1e ps es (i+bs.length)],(A6f ps es bs i qs ms).2++[((A6f ps es bs i qs ms).1.length:Int)]) else ((A6f ps es bs i qs ms).1,(A6f ps es bs i qs ms).2++[-1])
 | [],i,qs,ms,b=>by cases b<;>rfl
 | c::bs,i,qs,ms,b=>by
  rw[List.cons_append]
  cases c
  ·show A6f ps es (bs++[b]) (i+1) qs (ms++[-1])=_
   rw[B3v ps es bs (i+1)]
   rw[show i+(false::bs).length=i+1+bs.length by simp;omega]
   rfl
  show A6f ps es (bs++[b]) (i+1) (qs++[C1e ps es i]) (ms++[(qs.length:Int)])=_
  rw[B3v ps es bs (i+1)]
  rw[show i+(true::bs).length=i+1+bs.length by simp;omega]
  rfl
def A2o (ps:List TPoint) (es:List TEdge) (on:List Bool) (i:Nat):List TPoint×List Int:=A6f ps es (on.take i) 0 ps []
theorem B3x {ps:List TPoint} {es:List TEdge} {on:List Bool} {i:Nat} {b:Bool} (h:on[i]?=some b):A2o ps es on (i+1) =
  bif b then ((A2o ps es on i).1++[C1e ps es i],(A2o ps es on i).2++[((A2o ps es on i).1.length:Int)]) else ((A2o ps es on i).1,(A2o ps es on i).2++[-1]):=by
 unfold A2o
 rw[take_step h,B3v]
 have hi:=(List.getElem?_eq_some_iff.1 h).1
 rw[show 0+(on.take i).length=i by simp;omega]
theorem B8j (ps:List TPoint) (es:List TEdge) (on:List Bool):∀ d i,i+d≤on.length→(A2o ps es on i).1.length≤(A2o ps es on (i+d)).1.length
 | 0,_,_=>Nat.le_refl _
 | d+1,i,h=>by
  have h1:=B8j ps es on d i (by omega)
  obtain ⟨b,hb⟩:∃ b,on[i+d]?=some b:=⟨_,List.getElem?_eq_getElem (by omega)⟩
  rw[← Nat.add_assoc,B3x hb]
  cases b
  ·exact h1
  simp only [cond_true,List.length_append];omega
theorem C0n (ps:List TPoint) (es:List TEdge) (on:List Bool):∀ i,i≤on.length→∀ x∈(A2o ps es on i).2,x = -1∨(0≤x∧x<(A2o ps es on i).1.length)
 | 0,_,x,hx=>by simp[A2o,A6f] at hx
 | i+1,h,x,hx=>by
  obtain ⟨b,hb⟩:∃ b,on[i]?=some b:=⟨_,List.getElem?_eq_getElem (by omega)⟩
  have ih:=C0n ps es on i (by omega)
  rw[B3x hb] at hx ⊢
  cases b
  ·simp only [cond_false] at hx ⊢
   rcases List.mem_append.1 hx with hx | hx
   ·exact ih x hx
   simp at hx;exact .inl hx
  simp only [cond_true,List.length_append] at hx ⊢
  rcases List.mem_append.1 hx with hx | hx
  ·rcases ih x hx with h | h
   ·exact .inl h
   right;simp;omega
  simp at hx;right;simp;omega
def onF (m:TMesh) (x:Int):List Bool:=A1e m.triangles (A5t m) 3 ((List.replicate (A5t m).length false).set x.toNat true)
def msF (m:TMesh) (x:Int):List Int:=(A6f m.points (A5t m) (onF m x) 0 m.points []).2
def psF (m:TMesh) (x:Int):List TPoint:=(A6f m.points (A5t m) (onF m x) 0 m.points []).1
structure BisD (m:TMesh) (x:Int):Prop where
 t48:m.triangles.length≤48
 n40:m.points.length≤40
 ok:m.points.all A0r=true
 x0:0≤x
 x1:x<(A5t m).length
 inE:∀ t∈m.triangles,InE (A5t m) t.b t.c∧InE (A5t m) t.a t.b∧InE (A5t m) t.c t.a
 fix:A6k m.triangles (A5t m) (onF m x)=onF m x
 pin:∀ e∈A5t m,(0≤e.a∧e.a<m.points.length)∧(0≤e.b∧e.b<m.points.length)
 ends:∀ t∈m.triangles,B4t (A5t m) (msF m x) 3 t=true
 lev:∀ t∈m.triangles,0≤t.level∧t.level≤60
 pn:(psF m x).length≤200
theorem B9j {w w':World} {r:Option Nat} {x:Nat} (h:w.grownBy w' r) (hr:r=none∨r=some x):w.grownBy w' (some x) :=
 ⟨h.os,h.tape,h.output,h.size,fun k hk hne=>h.block k hk (by rcases hr with rfl | rfl;simp;exact hne)⟩
theorem BiS.pushT {w U U':World} {MC:Array Value} {gE nE cE:Nat} {es:List TEdge} {gO:Nat} {on:List Bool} {gX:Nat} {vT:Value} {gP nP cP:Nat} {qs:List TPoint} {zP:List Nat} {gM i cM:Nat} {ms:List Int}
  (h:BiS w U MC gE nE cE es gO on gX vT gP nP cP qs zP gM i cM ms) {x:Nat} (hg:U.grownBy U' (some x)) (hx:x≠gE∧x≠gO∧x≠gX∧x≠gP∧x∉zP∧x≠gM∧w.heap.size+1<x) (v':Value) :
  BiS w (U'.setCell ⟨gX,1,none⟩ v') MC gE nE cE es gO on gX v' gP nP cP qs zP gM i cM ms:=by
 have lX:=E_ h.kx
 obtain ⟨e1,e2,e3,e4,e5,e6,e7⟩:=hx
 obtain ⟨x1,x2,x3,x4,x5,x6⟩:=h.dX
 have hsz:=h.bl.size
 have sz2:=hg.size
 have G2:U'.grownBy (U'.setCell ⟨gX,1,none⟩ v') (some gX):=⟨rfl,rfl,rfl,by simp[World.setCell],fun k _ hk=>Below.heap_setCell U' ⟨gX,1,none⟩ _ k (fun e=>hk (by rw[e]))⟩
 have KX:=(hg.block gX lX (by intro e;injection e with e;omega)).trans h.kx
 exact ⟨(h.bl.grown hg hsz (fun k hk=>by injection hk with e;omega)).setCell (p:=⟨gX,1,none⟩) (show w.heap.size≤gX by omega) _,
  (G2.block _ (Nat.lt_of_lt_of_le (E_ h.k2) sz2) (by intro e;injection e with e;omega)).trans ((hg.block _ (E_ h.k2) (by intro e;injection e with e;omega)).trans h.k2),
  (G2.block _ (Nat.lt_of_lt_of_le (E_ h.rs) sz2) (by intro e;injection e with e;omega)).trans ((hg.block _ (E_ h.rs) (by intro e;injection e with e;omega)).trans h.rs),
  A8w KX,(h.pc.keep hg e4 e5).keep G2 x1 x2,⟨A2y (A2y h.er.1 hg (by omega)) G2 (by omega),h.er.2⟩,A2y (A2y h.br hg (by omega)) G2 (by omega),A2y (A2y h.mr hg (by omega)) G2 (by omega),h.dX,h.dM,h.dP⟩
def DC (vT:Value) (gE gO gX gP:Nat) (zP:List Nat) (gM:Nat) (w:World):Prop:=∀ g,vT.ownBlock=some g→g≠gE∧g≠gO∧g≠gX∧g≠gP∧g∉zP∧g≠gM∧w.heap.size+1<g
theorem D2c {w:World} {base g n c:Nat} {zs:List Int} (h:w.ownsRow base 3 1 (.slice (some ⟨g,0,none⟩) n c) n (zs.map (.int .i64))) (hi:∀ x∈zs,I64 x):∃ bs,Sl w (some ⟨g,0,none⟩) n c zs bs∧∀ b∈bs,b=g:=by
 obtain ⟨bs,hs⟩:=A5a h hi
 refine ⟨bs,hs,fun b hb=>?_⟩
 obtain ⟨h1,h2,h3,h4,h5⟩:=hs
 rcases Nat.eq_zero_or_pos n with h0 | h0
 ·rw[h4 h0] at hb;cases hb
 obtain ⟨b',off,bss,hA,rfl,hl5,hbl,he⟩:=h5 h0
 cases hA
 have hfl:bss.flatten=[]:=by
  rw[List.flatten_eq_nil_iff]
  intro l hl'
  obtain ⟨q,hq⟩:=List.mem_iff_getElem?.1 hl'
  have hql:q<zs.length:=by rw[← hl5];exact (List.getElem?_eq_some_iff.1 hq).1
  obtain ⟨cs,_,ha⟩:=he q _ l (List.getElem?_eq_getElem hql) hq
  exact ha.2.1
 rw[hfl] at hb
 simpa using hb
theorem BiS.lims {w U:World} {MC:Array Value} {gE nE cE:Nat} {es:List TEdge} {gO:Nat} {on:List Bool} {gX:Nat} {vT:Value} {gP nP cP:Nat} {qs:List TPoint} {zP:List Nat} {gM i cM:Nat} {ms:List Int} (h:BiS w U MC gE nE cE es gO on gX vT gP nP cP qs zP gM i cM ms) :
  gE<U.heap.size∧gO<U.heap.size∧gX<U.heap.size∧gP<U.heap.size∧gM<U.heap.size∧w.heap.size+1<U.heap.size :=
 ⟨h.er.lt.2,h.br.lt,E_ h.kx,h.pc.lt.2,(World.ownsRow.lt h.mr _ rfl).2,E_ h.rs⟩
attribute [local go_sem] O_ Go.XB.opAt P_ M_ Region.wanted yielded
attribute [local simp] P_ M_ MP.eq MP.agg MP.sl MP.box MP.slbox A0e
theorem B6v (v:Value) (m:TMesh) (b:List Nat) (A:Option Addr) (c:Nat) (x:Int) (bs:List Nat) (w:World) (hx:Agg w v m b) (hl:Sl w A 1 c [x] bs) (hd:BisD m x) :
  Calls Tryz.prog 119 #[v,.slice A 1 c] w (C2b w (C0k m (A5t m) (onF m x))):=by
 have HX:=A_ hx;have HL:=A_ hl;have HD:=A_ hd
 obtain ⟨A0,n0,c0,s0,A1,n1,c1,s1,rfl,hbb,hs0,hs1⟩:=TMesh.agg hx
 have HP:=A_ hs0;have HS:=A_ hs1
 have HN0:=A_ hs0.1;have HN1:=A_ hs1.1
 have hn0:n0≤40:=by rw[← hs0.1];exact hd.n40
 have hn1:n1≤48:=by rw[← hs1.1];exact hd.t48
 have hn0i:(n0:Int)≤40:=by omega
 have hn1i:(n1:Int)≤48:=by omega
 have ELN:=A_ (show (A5t m).length≤144 by have:=B4a m.triangles m.triangles.length;have:=hd.t48;unfold A5t;omega)
 obtain ⟨ip,ipi,ipz0,ipz1,ipz2⟩:=info_parts C2k
 obtain ⟨im,imi,imz0,imz1,imz2⟩:=info_parts A5v
 obtain ⟨es,hes⟩:∃ es,A5t m=es:=⟨_,rfl⟩
 obtain ⟨on,hon⟩:∃ on,onF m x=on:=⟨_,rfl⟩
 have HES:=A_ hes;have HON:=A_ hon
 have ONL:=A_ (show on.length=es.length by rw[← hon,← hes];unfold onF;rw[B9d];simp)
 have PN:=A_ (show (A6f m.points es on 0 m.points []).1.length≤200 by rw[← hes,← hon];exact hd.pn)
 rw[hes] at ELN
 rw[hes,hon]
 clear hx hl hd hbb hs0 hs1 hes hon
 go_enter Tryz.func119,Tryz.ntmps119
 go_upto_region 1 with fail
 obtain ⟨W0,hW0⟩:∃ W,W=(w.alloc (.cells #[.slice A0 n0 c0,.slice A1 n1 c1] 26)).alloc (.cells #[.slice none 0 0,.slice none 0 0] 26):=⟨_,rfl⟩
 have K0:=A_ (show W0.heap[w.heap.size]?=some (.cells #[.slice A0 n0 c0,.slice A1 n1 c1] 26) by rw[hW0];exact A0d (heap_alloc_new w _) (Below.box _))
 have KR:=A_ (show W0.heap[w.heap.size+1]?=some (.cells #[.slice none 0 0,.slice none 0 0] 26) by
  rw[hW0];have:=heap_alloc_new (w.alloc (.cells #[.slice A0 n0 c0,.slice A1 n1 c1] 26)) (.cells #[.slice none 0 0,.slice none 0 0] 26);rwa [World.size_alloc] at this)
 have B0:=A_ (show Below w.heap.size w W0 by rw[hW0];exact (Below.box _).alloc (by simp) _)
 have Z0:=A_ (show W0.heap.size=w.heap.size+2 by rw[hW0];simp)
 rw[← hW0]
 clear hW0
 obtain ⟨y0,-⟩:=B_ K0.o (j:=0) rfl
 obtain ⟨y1,-⟩:=B_ K0.o (j:=1) rfl
 simp at y0 y1
 have l0:w.heap.size<W0.heap.size:=E_ K0.o
 go_wp2_with fail
 refine (B2y _ m _ W0 (HX.o.below B0.o) HD.o.t48).mono ?_
 rintro _ w1 ⟨gE,nE,cE,rfl,hER,hb1⟩
 rw[show A4e m.triangles m.triangles.length=es from HES.o] at hER
 have HER:=A_ hER
 have GE0:=A_ (show W0.heap.size≤gE∧gE<w1.heap.size from hER.lt)
 have hnE:nE≤144:=by rw[← hER.2.1];exact ELN.o
 have hnEi:(nE:Int)≤144:=by omega
 have HNE:=A_ hER.2.1
 have K1:=A_ (A0d K0.o hb1);have KR1:=A_ (A0d KR.o hb1)
 have B1:=A_ (Below.next B0.o hb1)
 clear hER hb1 y0 y1 l0
 obtain ⟨y0,-⟩:=B_ K1.o (j:=0) rfl
 simp at y0
 have l1:w.heap.size<w1.heap.size:=E_ K1.o
 go_wp2_with fail
 refine (C1x A0 n0 c0 m.points s0 w1 (HP.o.below B1.o) HD.o.ok hn0).mono ?_
 rintro _ w2 ⟨gP,nP,cP,zP,rfl,hPC,hb2⟩
 obtain rfl:n0=nP:=by obtain ⟨_,_,_,_,h3,_⟩:=hPC;rw[← h3];exact HN0.o.symm
 have HPC:=A_ hPC
 have GP0:=A_ (show w1.heap.size≤gP∧gP<w2.heap.size from hPC.lt)
 have ZP0:=A_ (show ∀ b∈zP,w1.heap.size≤b∧b<w2.heap.size from hPC.zlt)
 have K2:=A_ (A0d K1.o hb2);have KR2:=A_ (A0d KR1.o hb2)
 have B2:=A_ (Below.next B1.o hb2)
 have ER2:=A_ (HER.o.below hb2)
 clear hPC hb2 y0 l1
 go_upto_region 4 with fail
 obtain ⟨W3,hW3⟩:∃ W,W=(w2.alloc (.cells #[.slice (some ⟨gP,0,none⟩) n0 cP,.slice none 0 0] 26)).alloc (.cells #[] 3):=⟨_,rfl⟩
 have KX3:=A_ (show W3.heap[w2.heap.size]?=some (.cells #[.slice (some ⟨gP,0,none⟩) n0 cP,.slice none 0 0] 26) by rw[hW3];exact A0d (heap_alloc_new w2 _) (Below.box _))
 have MR3:=A_ (show W3.ownsRow w.heap.size 3 1 (.slice (some ⟨w2.heap.size+1,0,none⟩) 0 0) 0 ([].map (.int .i64)) by
  rw[hW3]
  have:=World.ownsRow_made (base:=w.heap.size) (e:=3) (size:=1) (w2.alloc (.cells #[.slice (some ⟨gP,0,none⟩) n0 cP,.slice none 0 0] 26)) #[] 0 (by simp;have:=B2.o.size;omega) (Nat.zero_le _) rfl
  rw[World.size_alloc] at this
  exact this)
 have B23:=A_ (show Below w2.heap.size w2 W3 by rw[hW3];exact (Below.box _).alloc (by simp) _)
 have Z3:=A_ (show W3.heap.size=w2.heap.size+2 by rw[hW3];simp)
 rw[← hW3]
 clear hW3
 have K3:=A_ (A0d K2.o B23.o)
 have B3:=A_ (Below.next B2.o B23.o)
 obtain ⟨bE,hsE,-⟩:=(ER2.o.below B23.o).sl
 have HSE:=A_ hsE
 obtain ⟨y0,-⟩:=B_ K3.o (j:=0) rfl
 obtain ⟨y1,-⟩:=B_ K3.o (j:=1) rfl
 simp at y0 y1
 have l3:w.heap.size<W3.heap.size:=E_ K3.o
 have X1:=A_ (show x<nE by rw[← HNE.o,← HES.o];exact HD.o.x1)
 have FX:=A_ (show A6k m.triangles es on=on by rw[← HES.o,← HON.o];exact HD.o.fix)
 have OND:=A_ (show A1e m.triangles es 3 ((List.replicate nE false).set x.toNat true)=on by rw[← HNE.o,← HES.o,← HON.o];rfl)
 have IE:=A_ (show ∀ t∈m.triangles,InE es t.b t.c∧InE es t.a t.b∧InE es t.c t.a by rw[← HES.o];exact HD.o.inE)
 clear hsE
 go_wp2_with fail
 have C:=B9v _ m _ (some ⟨gE,0,none⟩) nE cE es bE A c x bs W3 (HX.o.below B3.o) HSE.o (HL.o.below B3.o) HD.o.x0 X1.o hnE HD.o.t48 IE.o _ rfl (by rw[OND.o];exact FX.o)
 rw[OND.o] at C
 refine C.mono ?_
 clear C
 rintro _ w4 ⟨gO,rfl,hBR,hb4⟩
 have GO0:=hBR.base
 have GO1:=hBR.lt
 have UP:=A_ (show (up2 w).heap.size≤w1.heap.size by rw[B9s];have:=GE0.o;have:=Z0.o;omega)
 have S4:=A_ (show BiS w w4 #[.slice A0 n0 c0,.slice A1 n1 c1] gE nE cE es gO on w2.heap.size (.slice none 0 0) gP n0 cP (A2o m.points es on 0).1 zP (w2.heap.size+1) 0 0 (A2o m.points es on 0).2 from by
  have e1:=GE0.o;have e2:=GP0.o;have e3:=ZP0.o;have e4:=Z0.o;have e5:=Z3.o
  refine ⟨Below.next B3.o hb4,A0d K3.o hb4,A0d (A0d KR2.o B23.o) hb4,A0d KX3.o hb4,(D1u (HPC.o.below B23.o) UP.o).below hb4,((ER2.o.below B23.o).weak (by omega)).below hb4,hBR.weak B3.o.size,J_ MR3.o hb4,⟨by omega,fun h=>by have:=e3 _ h;omega,by omega,by omega,by omega,by omega⟩,⟨by omega,fun h=>by have:=e3 _ h;omega,by omega,by omega,by omega⟩,⟨by omega,by omega,by omega⟩⟩)
 clear hBR hb4 y0 y1 l3 GO0 GO1 MR3
 go_wp2_with fail
 go_loopg [7,25] nE (fun g s7 s25 wr=>∃ (i gP nP cP gM cM:Nat) (zP:List Nat),i+g=nE∧s25=.int .i64 i∧s7=.slice (some ⟨gM,0,none⟩) i cM∧Hid (BiS w wr #[.slice A0 n0 c0,.slice A1 n1 c1] gE nE cE es gO on w2.heap.size (.slice none 0 0) gP nP cP (A2o m.points es on i).1 zP gM i cM (A2o m.points es on i).2))
 case atStart=>exact ⟨0,gP,n0,cP,w2.heap.size+1,0,zP,by omega,rfl,by go_simp,S4.o⟩
 case round =>
  clear S4 HPC GP0 ZP0 K0 KR Z0 K1 KR1 K2 KR2 KX3 B23 Z3 K3 ER2 HER GE0 HSE B0 B1 B2 B3
  obtain ⟨i,gP,nP,cP,gM,cM,zP,hi,rfl,rfl,HB⟩:=hrel
  rcases Nat.lt_or_ge i nE with hin | hin
  ·obtain ⟨g,rfl⟩:∃ g,gk=g+1:=⟨gk - 1,by omega⟩
   have hi':=A_ (show i+1+g=nE by omega)
   have hii:(i:Int)<nE:=by omega
   have hii0:(0:Int)≤i:=by omega
   have C3:=A_ (show i+1≤maxLen by unfold maxLen;omega)
   have C4:=A_ (show (i+1)*8≤140737488355328 by omega)
   have HIN:=A_ hin
   obtain ⟨f,hf⟩:∃ f,on[i]?=some f:=⟨_,List.getElem?_eq_getElem (by rw[ONL.o,HNE.o];exact hin)⟩
   obtain ⟨u0,-⟩:=HB.o.br.cell hf
   have lO:gO<wr.heap.size:=HB.o.br.lt
   have ST:=A_ (B3x (ps:=m.points) (es:=es) hf)
   have lX:w2.heap.size<wr.heap.size:=E_ HB.o.kx
   obtain ⟨v0,-⟩:=B_ HB.o.kx (j:=0) rfl
   simp at v0
   have ONI:=A_ hf
   clear hi hin hf
   cases f
   ·have Q1:=A_ (show (A2o m.points es on (i+1)).1=(A2o m.points es on i).1 by rw[ST.o];rfl)
    have Q2:=A_ (show (A2o m.points es on (i+1)).2=(A2o m.points es on i).2++[-1] by rw[ST.o];rfl)
    go_wp2_with (at_builtin;refine A1f rfl _ _ 31 rfl w.heap.size 3 im (.int .i64 0) 1 8 Tryz.underlying31 imi imz0 imz1 imz2 rfl (by decide) gM i cM _ (by go_simp;done) (HB.o.mr.alloc _) ⟨wr.heap.size,0,none⟩ 1 1 [.int .i64 (-1)] (by go_simp;done) rfl (A0k (heap_alloc_new wr _)) (fun u hu=>by simp at hu;subst hu;rfl) C3.o C4.o (A0p HB.o.bl.size _) ?_;intro gM' cM' w9 hown hgr hor)
    have S9:=A_ ((HB.o.below (Below.box (.cells #[.int .i64 (-1)] 3))).pushM (k:=(-1)) hown hgr hor)
    have SN:=A_ (show BiS w w9 #[.slice A0 n0 c0,.slice A1 n1 c1] gE nE cE es gO on w2.heap.size (.slice none 0 0) gP nP cP (A2o m.points es on (i+1)).1 zP gM' (i+1) cM' (A2o m.points es on (i+1)).2 by rw[Q1.o,Q2.o];exact S9.o)
    clear hown hgr hor S9
    go_wp2_with fail
    go_roundg g
    case measure=>omega
    case rel=>exact ⟨i+1,gP,nP,cP,gM',cM',zP,hi'.o,by go_simp,rfl,SN.o⟩
   have Q1:=A_ (show (A2o m.points es on (i+1)).1=(A2o m.points es on i).1++[C1e m.points es i] by rw[ST.o];rfl)
   have LQ:=A_ (show (A2o m.points es on i).1.length=nP by obtain ⟨_,_,_,_,h3,_⟩:=HB.o.pc;exact h3)
   have Q2:=A_ (show (A2o m.points es on (i+1)).2=(A2o m.points es on i).2++[(nP:Int)] by rw[ST.o,← LQ.o];rfl)
   have NPB:=A_ (show nP+1≤200 by
    have h1:=B8j m.points es on (on.length - (i+1)) (i+1) (by have:=HIN.o;have:=ONL.o;have:=HNE.o;omega)
    rw[show i+1+(on.length - (i+1))=on.length by have:=HIN.o;have:=ONL.o;have:=HNE.o;omega] at h1
    rw[Q1.o,List.length_append,LQ.o] at h1
    have h2:=PN.o
    have h3:(A2o m.points es on on.length).1.length=(A6f m.points es on 0 m.points []).1.length:=by unfold A2o;rw[List.take_length]
    simp at h1
    omega)
   have hnP:(nP:Int)≤200:=by have:=NPB.o;omega
   have D3:=A_ (show nP+1≤maxLen by unfold maxLen;have:=NPB.o;omega)
   have D4:=A_ (show (nP+1)*112≤140737488355328 by have:=NPB.o;omega)
   obtain ⟨e,he⟩:∃ e,es[i]?=some e:=⟨_,List.getElem?_eq_getElem (by rw[HNE.o];exact HIN.o)⟩
   obtain ⟨ex0,ex1,-,-⟩:=HB.o.er.at_ he
   have lE:gE<wr.heap.size:=HB.o.er.lt.2
   have hce:nE≤cE:=HB.o.er.cap
   have hcei:(i:Int)<cE:=by omega
   obtain ⟨⟨a0,a1⟩,⟨b0,b1⟩⟩:=HD.o.pin e (by rw[HES.o];exact List.mem_of_getElem? he)
   rw[HN0.o] at a1 b1
   obtain ⟨be,of,u,U1,nU1,cU1,sU1,U2,nU2,cU2,sU2,U4,nU4,cU4,sU4,U5,nU5,cU5,sU5,rfl,hbl,hu1,p0,p1,p2,p3,p4,p5,hug⟩:=TPoint.elemA (HP.o.below HB.o.bl) (show e.a.toNat<n0 by omega)
   obtain ⟨be',of',z,Z1,nZ1,cZ1,sZ1,Z2,nZ2,cZ2,sZ2,Z4,nZ4,cZ4,sZ4,Z5,nZ5,cZ5,sZ5,hA',hbl2,hz1,q0,q1,q2,q3,q4,q5,hzg⟩:=TPoint.elemA (HP.o.below HB.o.bl) (show e.b.toNat<n0 by omega)
   injection hA' with hA';injection hA' with t1 t2 _;subst t1;subst t2
   have HUG:=A_ hug;have HZG:=A_ hzg
   have MQ:=A_ (show C1e m.points es i=B4o u z by
    unfold C1e B4o A0c
    rw[List.getD_eq_getElem?_getD (l:=es),he,Option.getD_some,List.getD_eq_getElem?_getD,hu1,List.getD_eq_getElem?_getD,hz1];rfl)
   obtain ⟨y0,-⟩:=B_ HB.o.k2 (j:=0) rfl
   simp at y0
   have lm:w.heap.size<wr.heap.size:=E_ HB.o.k2
   clear he hu1 hz1 hug hzg hbl2
   go_upto_region 10 with fail
   refine A0m 22 (by kernel_rfl) (by kernel_rfl) (by kernel_rfl) (by kernel_rfl) (by kernel_rfl) ?_
   simp only [List.take_succ_cons,List.take_zero,List.drop_succ_cons,List.drop_zero]
   iterate 20
    refine D_ _ ?_
   refine F_ (MP.agg (B4o u z)) ?_ ?_
   ·intro yq zq wq hC hd
    obtain ⟨hcq,hfq⟩:=C_ hC
    simp at hd
    refine H_ ?_
    exact K_ (C2r _ _ u z _ _ wq (HUG.o.below hC) (HZG.o.below hC))
   refine B4c (fun y'=>MP.slbox (y' 20).cells 38) (by intro y y' h;simp[P_,M_] at h;simp[h]) ?_ ?_
   ·intro yq zq wq hC hd
    simp at hd
    obtain ⟨D1,nD1,cD1,d1,D2,nD2,cD2,d2,D4_,nD4,cD4,d4,D5,nD5,cD5,d5,e13,_,_,_,_,_⟩:=TPoint.agg hd.1
    refine ⟨by go_simp;done,.slice (some ⟨wq.heap.size,0,none⟩) 1 1,wq.alloc (.cells (yq 20).cells 38),?_,Below.box _,[wq.heap.size],⟨wq.heap.size,rfl,rfl,heap_alloc_new wq _⟩,by simp⟩
    rw[e13]
    go_simp
   intro yq zq wa hC hd (hdis:Hid _)
   simp at hd
   have f1:=hd.2.1
   have f20:=hd.2.2.2.2.2.2.2.2.2.2.2.2.2.2.2.2.2.2.2.2.1
   have f21:=hd.2.2.2.2.2.2.2.2.2.2.2.2.2.2.2.2.2.2.2.2.2
   obtain ⟨⟨ha,hf⟩,hr⟩:=f20
   obtain ⟨G1,nG1,cG1,g1,G2,nG2,cG2,g2,G4,nG4,cG4,g4,G5,nG5,cG5,g5,e20,z20,k1,k2,k4,k5⟩:=TPoint.agg ha
   obtain ⟨⟨gn,e21,z21,hgn⟩,hr21⟩:=f21
   rw[e20] at hgn
   have e1_:yq 1=.slice (some ⟨gP,0,none⟩) nP cP:=f1.1.1
   have AT:=A_ (TPoint.shut (x:=B4o u z) k1 k2 k4 k5)
   have ZR:=A_ (show ∀ b∈g1++(g2++(g4++g5)),wr.heap.size≤b from fun b hb=>(hr b (by rw[z20];exact hb)).1)
   have Sa:=A_ (HB.o.below hC)
   have SZ:=A_ (show w.heap.size≤wr.heap.size from HB.o.bl.size)
   have LPX:=A_ (show gP<wr.heap.size∧w2.heap.size<wr.heap.size∧gM<wr.heap.size from ⟨HB.o.pc.lt.2,E_ HB.o.kx,(World.ownsRow.lt HB.o.mr _ rfl).2⟩)
   have UPW:=A_ (show (up2 w).heap.size≤wr.heap.size by rw[B9s];have:=E_ HB.o.rs;omega)
   have ZR2:=A_ (show ∀ b∈g1++(g2++(g4++g5)),(up2 w).heap.size≤b∧b≠gP from fun b hb=>by have:=ZR.o b hb;have:=LPX.o;have:=UPW.o;omega)
   have ZR3:=A_ (show ∀ b∈g1++(g2++(g4++g5)),b≠w2.heap.size∧b≠gM from fun b hb=>by have:=ZR.o b hb;have:=LPX.o;omega)
   have HGN:=A_ hgn
   have hPX:gP≠w2.heap.size:=fun h=>Sa.o.dX.1 h.symm
   have hwsa:(up2 w).heap.size≤wa.heap.size:=by have:=UPW.o;have:=hC.size;omega
   clear hd hdis ha hf hr k1 k2 k4 k5 hgn hr21 z21 z20 f1 hC y0 p0 p1 p2 p3 p4 p5 q0 q1 q2 q3 q4 q5 ex0 ex1 v0 u0 lm lO lX lE
   go_upto_region 11 with (at_builtin;refine A7f rfl _ _ 23 rfl 38 ip (.agg #[.bool false,.slice none 0 0,.slice none 0 0,.bool false,.slice none 0 0,.slice none 0 0]) 112 Tryz.underlying23 ipi ipz0 ipz1 ipz2 rfl Sa.o.pc hwsa (by go_simp;done) ⟨gn,0,none⟩ 1 [.bool (B4o u z).x.num.neg,.slice G1 nG1 cG1,.slice G2 nG2 cG2,.bool (B4o u z).y.num.neg,.slice G4 nG4 cG4,.slice G5 nG5 cG5] (B4o u z) _ (by go_simp;done) (A0k HGN.o) AT.o ZR2.o D3.o D4.o ?_;intro gP' cP' w8 hp8 hgr8 hor8;have SP:=A_ (Sa.o.pushP hp8 hgr8 hor8 ZR3.o);have kx8:=(hgr8.block w2.heap.size (E_ Sa.o.kx) (by intro e;injection e with e;exact hPX e.symm)).trans Sa.o.kx;obtain ⟨x0,x0'⟩:=B_ kx8 (j:=0) rfl;simp at x0;have lx8:=E_ kx8;clear kx8 hp8 hgr8 hor8)
   obtain ⟨W9,hW9⟩:∃ W,W=w8.setCell ⟨w2.heap.size,0,none⟩ (.slice (some ⟨gP',0,none⟩) (nP+1) cP'):=⟨_,rfl⟩
   rw[← hW9] at SP
   rw[← hW9]
   clear hW9 x0 x0' lx8
   go_wp2_with (at_builtin;refine A1f rfl _ _ 31 rfl w.heap.size 3 im (.int .i64 0) 1 8 Tryz.underlying31 imi imz0 imz1 imz2 rfl (by decide) gM i cM _ (by go_simp;done) (SP.o.mr.alloc _) ⟨W9.heap.size,0,none⟩ 1 1 [.int .i64 (nP:Int)] (by go_simp;done) rfl (A0k (heap_alloc_new W9 _)) (fun u hu=>by simp at hu;subst hu;rfl) C3.o C4.o (A0p SP.o.bl.size _) ?_;intro gM' cM' w9 hown hgr hor)
   have S9:=A_ ((SP.o.below (Below.box (.cells #[.int .i64 (nP:Int)] 3))).pushM (k:=(nP:Int)) hown hgr hor)
   have SN:=A_ (show BiS w w9 #[.slice (some ⟨be,of,none⟩) n0 c0,.slice A1 n1 c1] gE nE cE es gO on w2.heap.size (.slice none 0 0) gP' (nP+1) cP' (A2o m.points es on (i+1)).1 _ gM' (i+1) cM' (A2o m.points es on (i+1)).2 by rw[Q1.o,Q2.o,MQ.o];exact S9.o)
   clear hown hgr hor S9 SP
   go_wp2_with fail
   go_roundg g
   case measure=>omega
   case rel=>exact ⟨i+1,gP',nP+1,cP',gM',cM',_,hi'.o,by go_simp,rfl,SN.o⟩
  obtain rfl:nE=i:=by omega
  have MF:=A_ (show A2o m.points es on nE=A6f m.points es on 0 m.points [] by unfold A2o;rw[List.take_of_length_le (by rw[ONL.o,HNE.o];exact Nat.le_refl _)])
  have MI:=A_ (show ∀ y∈(A2o m.points es on nE).2,I64 y from fun y hy=>by
   have h1:=C0n m.points es on nE (by rw[ONL.o,HNE.o];exact Nat.le_refl _) y hy
   have h2:=PN.o
   rw[← MF.o] at h2
   unfold I64;omega)
  obtain ⟨qs,hqs⟩:∃ qs,(A2o m.points es on nE).1=qs:=⟨_,rfl⟩
  obtain ⟨ms,hms⟩:∃ ms,(A2o m.points es on nE).2=ms:=⟨_,rfl⟩
  rw[hqs,hms] at HB
  rw[hms] at MI
  have EB:=A_ (show C0k m es on=⟨qs,m.triangles.flatMap (A1v es ms 3)⟩ by unfold C0k;rw[← MF.o,hqs,hms])
  have EN:=A_ (show ∀ t∈m.triangles,B4t es ms 3 t=true from fun t ht=>by
   have:=HD.o.ends t ht
   unfold msF at this
   rw[HES.o,HON.o,← MF.o,hms] at this
   exact this)
  have TR0:=A_ (show TR wr w.heap.size (.slice none 0 0) ((m.triangles.take 0).flatMap (A1v es ms 3)) from ⟨World.ownsRow_nil wr _ _ 5,by simp⟩)
  have D0:=A_ (show DC (.slice none 0 0) gE gO w2.heap.size gP zP gM w from fun g hg=>by cases hg)
  obtain ⟨y1,-⟩:=B_ HB.o.k2 (j:=1) rfl
  simp at y1
  have lm:w.heap.size<wr.heap.size:=E_ HB.o.k2
  have S0:=A_ HB.o
  clear hi hin hqs hms
  go_wp2_with fail
  go_loopg [66] n1 (fun g s66 wt=>∃ (k:Nat) (vT:Value),k+g=n1∧s66=.int .i64 k∧Hid (BiS w wt #[.slice A0 n0 c0,.slice A1 n1 c1] gE nE cE es gO on w2.heap.size vT gP nP cP qs zP gM nE cM ms)∧Hid (TR wt w.heap.size vT ((m.triangles.take k).flatMap (A1v es ms 3)))∧Hid (DC vT gE gO w2.heap.size gP zP gM w))
  case atStart=>exact ⟨0,.slice none 0 0,by omega,rfl,S0.o,TR0.o,D0.o⟩
  case round =>
  clear S0 TR0 D0 y1 lm HB
  obtain ⟨k,vT,hk,rfl,HB,HTR,HDC⟩:=hrel
  rename World=>wt
  rcases Nat.lt_or_ge k n1 with hkn | hkn
  ·obtain ⟨g,rfl⟩:∃ g,gk=g+1:=⟨gk - 1,by omega⟩
   have hk':=A_ (show k+1+g=n1 by omega)
   have hki:(k:Int)<n1:=by omega
   have hki0:(0:Int)≤k:=by omega
   obtain ⟨bt,ot,t,rfl,hbt,ht1,e0,e1,e2,e3,e4,htg⟩:=TTri.elemA (HS.o.below HB.o.bl) hkn
   have HTG:=A_ htg
   have htm:=List.mem_of_getElem? ht1
   have LV:=A_ (HD.o.lev t htm)
   have ENT:=A_ (EN.o t htm)
   have NX:=A_ (show (m.triangles.take (k+1)).flatMap (A1v es ms 3)=(m.triangles.take k).flatMap (A1v es ms 3)++A1v es ms 3 t by rw[take_step ht1,List.flatMap_append];simp)
   have FL:=A_ (show ((m.triangles.take k).flatMap (A1v es ms 3)).length+2 ^ 3≤900 by
    have:∀ l:List TTri,(l.flatMap (A1v es ms 3)).length≤8*l.length:=fun l=>by
     induction l with
     | nil=>exact Nat.le_refl _
     | cons x xs ih=>rw[List.flatMap_cons,List.length_append];have h3:(A1v es ms 3 x).length≤8:=B0v (es:=es) (ms:=ms) 3 x;rw[List.length_cons];omega
    have h1:=this (m.triangles.take k)
    rw[List.length_take] at h1
    omega)
   clear hk hkn ht1 htg htm
   go_upto_region 16 with fail
   obtain ⟨X0,hX0⟩:∃ W,W=wt.alloc (.cells #[.int .i64 t.a,.int .i64 t.b,.int .i64 t.c,.int .i64 t.region,.int .i64 t.level] 93):=⟨_,rfl⟩
   have KT:=A_ (show X0.heap[wt.heap.size]?=some (.cells #[.int .i64 t.a,.int .i64 t.b,.int .i64 t.c,.int .i64 t.region,.int .i64 t.level] 93) by rw[hX0];exact heap_alloc_new wt _)
   have BX:=A_ (show Below wt.heap.size wt X0 by rw[hX0];exact Below.box _)
   rw[← hX0]
   clear hX0 e0 e1 e2 e3 e4
   have HX0:=A_ (HB.o.below BX.o)
   have TX0:=A_ (HTR.o.below BX.o)
   obtain ⟨x0,-⟩:=B_ KT.o (j:=0) rfl
   obtain ⟨x1,-⟩:=B_ KT.o (j:=1) rfl
   obtain ⟨x2,-⟩:=B_ KT.o (j:=2) rfl
   obtain ⟨x3,-⟩:=B_ KT.o (j:=3) rfl
   obtain ⟨x4,-⟩:=B_ KT.o (j:=4) rfl
   obtain ⟨v1,-⟩:=B_ HX0.o.kx (j:=1) rfl
   simp at x0 x1 x2 x3 x4 v1
   have lx:wt.heap.size<X0.heap.size:=E_ KT.o
   have lX:w2.heap.size<X0.heap.size:=E_ HX0.o.kx
   obtain ⟨bE2,hsE2,hbE2⟩:=HX0.o.er.sl
   obtain ⟨bM2,hsM2,hbM2⟩:=D2c HX0.o.mr MI.o
   have SE:=A_ hsE2;have SM:=A_ hsM2
   have CB:=A_ (show ∀ g,vT.ownBlock=some g→g∉bE2∧g∉bM2 from fun g hg=>by
    have h:=HDC.o g hg
    exact ⟨fun hm=>h.1 (hbE2 g hm),fun hm=>h.2.2.2.2.2.1 (hbM2 g hm)⟩)
   have LM:=HX0.o.bl.size
   clear hsE2 hbE2 hsM2 hbM2
   go_wp2_with fail
   refine (C0c 3 w.heap.size vT _ _ t _ (some ⟨gE,0,none⟩) nE cE es bE2 (some ⟨gM,0,none⟩) cM ms bM2 X0 TX0.o (HTG.o.below BX.o) SE.o SM.o LM CB.o hnE FL.o ⟨LV.o.1,by have:=LV.o.2;omega⟩ ENT.o).mono ?_
   rintro _ w5 ⟨v',rfl,hR,hG,hK⟩
   obtain ⟨A9,c9,b9,hv9,-,-⟩:=hR.sl
   obtain ⟨n9,hn9⟩:∃ n9,((m.triangles.take k).flatMap (A1v es ms 3)++A1v es ms 3 t).length=n9:=⟨_,rfl⟩
   rw[hn9] at hv9
   subst hv9
   clear hn9
   have R5:=A_ (show TR w5 w.heap.size _ ((m.triangles.take (k+1)).flatMap (A1v es ms 3)) by rw[NX.o];exact hR)
   have lim:=HX0.o.lims
   obtain ⟨y,hy,hyc⟩:∃ y,(vT.ownBlock=none∨vT.ownBlock=some y)∧(y≠gE∧y≠gO∧y≠w2.heap.size∧y≠gP∧y∉zP∧y≠gM∧w.heap.size+1<y):=by
    cases hb:vT.ownBlock with
    | none=>exact ⟨X0.heap.size,.inl rfl,by omega,by omega,by omega,by omega,fun hm=>by have:=(HX0.o.pc.zlt _ hm).2;omega,by omega,by omega⟩
    | some y=>exact ⟨y,.inr rfl,HDC.o y hb⟩
   have S5:=A_ (HX0.o.pushT (B9j hG hy) hyc (.slice A9 n9 c9))
   have kx5:=((B9j hG hy).block w2.heap.size lX (by intro e;injection e with e;exact hyc.2.2.1 e.symm)).trans HX0.o.kx
   obtain ⟨z1,z1'⟩:=B_ kx5 (j:=1) rfl
   simp at z1
   have l5:w2.heap.size<w5.heap.size:=E_ kx5
   have R6:=A_ (show TR (w5.setCell ⟨w2.heap.size,1,none⟩ (.slice A9 n9 c9)) w.heap.size (.slice A9 n9 c9) ((m.triangles.take (k+1)).flatMap (A1v es ms 3)) from ⟨by
    refine R5.o.1.kept (row:=some w2.heap.size) ⟨rfl,rfl,rfl,by simp[World.setCell],fun k _ hk=>Below.heap_setCell w5 ⟨w2.heap.size,1,none⟩ _ k (fun e=>hk (by rw[e]))⟩ ?_
    rcases hK with h | h
    ·rw[h]
     rcases hy with h2 | h2
     ·exact .inl h2
     rw[h2];exact .inr (by intro e;injection e with e;exact hyc.2.2.1 e)
    right;intro e;have:=h _ e;omega,R5.o.2⟩)
   have D6:=A_ (show DC (.slice A9 n9 c9) gE gO w2.heap.size gP zP gM w from fun g hg=>by
    rcases hK with h | h
    ·exact HDC.o g (by rw[← h];exact hg)
    have h2:=h g hg
    exact ⟨by omega,by omega,by omega,by omega,fun hm=>by have:=(HX0.o.pc.zlt _ hm).2;omega,by omega,by omega⟩)
   clear hR hG hK hy hyc kx5 x0 x1 x2 x3 x4 v1 lx lim
   go_wp2_with fail
   go_roundg g
   case measure=>omega
   case rel=>exact ⟨k+1,_,hk'.o,by go_simp,S5.o,R6.o,D6.o⟩
  obtain rfl:n1=k:=by omega
  have hii9:¬ ((n1:Int)<n1):=by omega
  have TF:=A_ (show (m.triangles.take n1).flatMap (A1v es ms 3)=m.triangles.flatMap (A1v es ms 3) by rw[List.take_of_length_le (by rw[HN1.o];exact Nat.le_refl _)])
  rw[TF.o] at HTR
  obtain ⟨A9,c9,b9,hv9,hs9,hb9⟩:=HTR.o.sl
  obtain ⟨n9,hn9⟩:∃ n9,(m.triangles.flatMap (A1v es ms 3)).length=n9:=⟨_,rfl⟩
  rw[hn9] at hv9 hs9
  subst hv9
  clear hn9
  obtain ⟨bp,hsp,hbp⟩:=HB.o.pc.sl
  have hLP:qs.length=nP:=by obtain ⟨_,_,_,_,h3,_⟩:=HB.o.pc;exact h3
  have AG:=A_ (TMesh.mkAgg (x:=⟨qs,m.triangles.flatMap (A1v es ms 3)⟩) hsp hs9)
  have BN:=A_ (show ∀ b∈bp++b9,w.heap.size≤b∧b≠w.heap.size+1 from fun b hb=>by
   rcases List.mem_append.1 hb with h | h
   ·have h1:=hbp b h
    rw[B9s] at h1
    omega
   have:=HDC.o b (hb9 b h);omega)
  obtain ⟨v0,-⟩:=B_ HB.o.kx (j:=0) rfl
  obtain ⟨v1,-⟩:=B_ HB.o.kx (j:=1) rfl
  obtain ⟨r0,r0'⟩:=B_ HB.o.rs (j:=0) rfl
  obtain ⟨r1,r1'⟩:=B_ HB.o.rs (j:=1) rfl
  simp at v0 v1 r0 r1
  have lX:w2.heap.size<wt.heap.size:=E_ HB.o.kx
  have lr:w.heap.size+1<wt.heap.size:=E_ HB.o.rs
  clear hs9 hb9 hsp hbp hk hkn
  have HBL:=A_ HB.o.bl
  clear HB HTR HDC
  go_wp2
  refine bodyPost_ret (v:=.agg #[.slice (some ⟨gP,0,none⟩) nP cP,.slice A9 n9 c9]) (by simp[results,Tryz.results119,go_sem, *]) rfl ?_
  refine ⟨_,bp++b9,rfl,by rw[EB.o];exact AG.o.keep (fun b hb=>A0b (w.heap.size+1) [.slice (some ⟨gP,0,none⟩) nP cP,.slice A9 n9 c9] wt 0 b (BN.o b hb).2),fun b hb=>(BN.o b hb).1,?_⟩
  exact (HBL.o.setCell (p:=⟨w.heap.size+1,0,none⟩) (Nat.le_succ _) _).setCell (p:=⟨w.heap.size+1,1,none⟩) (Nat.le_succ _) _
end Go.Proofs.YtbhemnidcleaiaaGreat.X
namespace Go.Proofs.YtbhemnidcleaiaaGreat.X
open Go.RowKit Go.XB Go.XN
def D1g (es:List TEdge) (a b:Int):Bool:=decide (0≤A1i es a b)&&decide (A1i es a b<es.length)
def D5z (m:TMesh) (x:Int) (es:List TEdge) (on:List Bool) (q:List TPoint×List Int):Bool :=
 (decide (0≤x)&&decide (x<es.length))&&((m.triangles.all fun t=>D1g es t.b t.c&&(D1g es t.a t.b&&D1g es t.c t.a))&&(decide (A6k m.triangles es on=on) &&
 ((es.all fun e=>(decide (0≤e.a)&&decide (e.a<m.points.length))&&(decide (0≤e.b)&&decide (e.b<m.points.length)))&&((m.triangles.all fun t=>B4t es q.2 3 t)&&((m.triangles.all fun t=>decide (0≤t.level)&&decide (t.level≤60))&&(decide (q.1.length≤200)&&decide (m.triangles.length≤10)))))))
def A8b (m:TMesh) (k:Nat):Int:=A1i (A5t m) (m.triangles.getD k ⟨0,0,0,0,0⟩).b (m.triangles.getD k ⟨0,0,0,0,0⟩).c
def D3e (m:TMesh) (k:Nat):Bool:=D5z m (A8b m k) (A5t m) (onF m (A8b m k)) (A6f m.points (A5t m) (onF m (A8b m k)) 0 m.points [])
def D4l (m:TMesh):Bool:=(List.range m.triangles.length).all (D3e m)
theorem C4z:starts.all D4l=true:=by decide +kernel
theorem D0k:(A0h starts).all D4l=true:=by decide +kernel
theorem C7b {m:TMesh} {k:Nat} (hs:SMesh m) (hb:D3e m k=true):BisD m (A8b m k)∧m.triangles.length≤10:=by
 unfold D3e D5z at hb
 simp only [Bool.and_eq_true,decide_eq_true_eq,List.all_eq_true] at hb
 obtain ⟨⟨h1,h2⟩,h3,h4,h5,h6,h7,h8,h9⟩:=hb
 have ine:∀ a b:Int,D1g (A5t m) a b=true→InE (A5t m) a b:=fun a b h=>by
  unfold D1g at h
  simp only [Bool.and_eq_true,decide_eq_true_eq] at h
  exact h
 exact ⟨⟨hs.t48,hs.n40,hs.ok,h1,h2,fun t ht=>⟨ine _ _ (h3 t ht).1,ine _ _ (h3 t ht).2.1,ine _ _ (h3 t ht).2.2⟩,h4,fun e he=>⟨⟨(h5 e he).1.1,(h5 e he).1.2⟩,⟨(h5 e he).2.1,(h5 e he).2.2⟩⟩,h6,h7,h8⟩,h9⟩
structure StepD (m:TMesh):Prop where
 s:SMesh m
 b:∀ k,k<m.triangles.length→BisD m (A8b m k)
 t10:m.triangles.length≤10
theorem C4f {m:TMesh} (h:m∈starts∨m∈A0h starts):StepD m:=by
 have hs:SMesh m:=D1d (by
  rcases h with h | h
  ·exact List.all_eq_true.1 C8r m h
  exact List.all_eq_true.1 D3a m h)
 have hb:D4l m=true:=by
  rcases h with h | h
  ·exact List.all_eq_true.1 C4z m h
  exact List.all_eq_true.1 D0k m h
 have hk:∀ k,k<m.triangles.length→D3e m k=true:=fun k hk=>List.all_eq_true.1 hb k (List.mem_range.2 hk)
 exact ⟨hs,fun k hk2=>(C7b hs (hk k hk2)).1,(C7b hs (hk 0 hs.t1)).2⟩
theorem D1s (m:TMesh) (k:Nat):C0k m (A5t m) (onF m (A8b m k))=A4k m k:=rfl
theorem C3v {ms:List TMesh} {m:TMesh} {k:Nat} (h:m∈ms) (hk:k<m.triangles.length):C0k m (A5t m) (onF m (A8b m k))∈A0h ms :=
 List.mem_flatMap.2 ⟨m,h,List.mem_map.2 ⟨k,List.mem_range.2 hk,D1s m k⟩⟩
def Lev:Nat→TMesh→Prop
 | 0,m=>m∈starts
 | 1,m=>m∈A0h starts
 | _,m=>m∈A0h (A0h starts)
theorem C9z {j:Nat} {m:TMesh} {k:Nat} (hj:j≤1) (h:Lev j m) (hk:k<m.triangles.length):Lev (j+1) (C0k m (A5t m) (onF m (A8b m k))):=by
 obtain rfl | rfl:j=0∨j=1:=by omega
 ·exact C3v (ms:=starts) h hk
 exact C3v (ms:=A0h starts) h hk
theorem C9v {j:Nat} {m:TMesh} (hj:j≤1) (h:Lev j m):StepD m:=by
 obtain rfl | rfl:j=0∨j=1:=by omega
 ·exact C4f (.inl h)
 exact C4f (.inr h)
theorem C7r {j:Nat} {m:TMesh} (h:Lev j m):m∈starts∨m∈A0h starts∨m∈A0h (A0h starts):=by
 match j,h with
 | 0,h=>exact .inl h
 | 1,h=>exact .inr (.inl h)
 | _+2,h=>exact .inr (.inr h)
end Go.Proofs.YtbhemnidcleaiaaGreat.X
