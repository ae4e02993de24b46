/- A part of the proof. -/
import Derived.Test.YtbhemnidcleaiaaGreatY12
import Derived.Laws.CopyRow
import Derived.Laws.CopyOwn
import Derived.Lib.AppendZeros
import Derived.Lib.Overlaps
import Derived.Lib.Walk
import Derived.Lib.SliceRun
import Derived.Laws.Externs
import Derived.Laws.IdiomCopy
import Derived.Shelf.RegionOpenPlain
import Derived.Shelf.Spec.SlicesInsertGrow
import Derived.Test.YtbhemnidcleaiaaGreatY7
set_option linter.constructorNameAsVariable false
set_option maxHeartbeats 16000000
set_option maxRecDepth 10000
namespace Go
section
variable {P:Program}
theorem B7t (w:World) (dT sT ty elem:TypeId) (k g o dLen dCap:Nat) (a:Addr) (sLen sCap:Nat) (cur:Array Value) (t:TypeId) (cs:List Value)
  (hu:P.underlying dT=some (.slice elem)) (hs:(P.info? elem).map (·.size)=some k)
  (hg:w.heap[g]?=some (.cells cur t (0,0))) (hn:cs.length=Nat.min sLen dLen*k)
  (hsrc:∀ j v,cs[j]?=some v→w.cell? (a.add j)=some v) (hfit:o+cs.length≤cur.size) (h1:∀ v∈cs,v.oneCell'=true) :
  (Builtin.copy_ #[dT,sT] ty #[.slice (some ⟨g,o,none⟩) dLen dCap,.slice (some a) sLen sCap]).run P w =
   .ok (goInt (Nat.min sLen dLen)) (w.setRow g (cur.toList.take o++cs++cur.toList.drop (o+cs.length)).toArray):=by
 have hl:=run_loadCells_list (P:=P) w a cs hsrc
 have hst:=run_storeCells_at P g o t cs 0 cur w hg (by simpa using hfit) h1
 cases hq:P.info? elem with
 | none=>simp[hq] at hs
 | some i =>
  have hi:i.size=k:=by simpa [hq] using hs
  simp[Builtin.copy_,run_underlying hu,Builtin.lenOf,Builtin.firstCells,sizeOf,typeInfo,hq,hi,← hn,hl,hst]
end
def A7t (l:List Value) (o:Nat) (cs:List Value):List Value:=l.take o++cs++l.drop (o+cs.length)
theorem A9f {l cs:List Value} {o:Nat} (h:o+cs.length≤l.length):(A7t l o cs).length=l.length:=by
 unfold A7t;simp;omega
theorem D0b {l xs ys:List Value} {a:Nat} (h:a+xs.length+ys.length≤l.length):(A7t (A7t l a xs) (a+xs.length) ys).take (a+xs.length+ys.length)=l.take a++xs++ys:=by
 have ha:(l.take a).length=a:=by simp;omega
 have h1:(A7t l a xs).take (a+xs.length)=l.take a++xs:=by
  unfold A7t
  rw[List.take_append_of_le_length (by simp;omega)]
  rw[List.take_of_length_le (by simp;omega)]
 unfold A7t at h1 ⊢
 rw[h1,List.take_append_of_le_length (by simp;omega)]
 rw[List.take_of_length_le (by simp;omega)]
theorem C7t {l xs ys:List Value} {a:Nat} (h:a+xs.length+ys.length≤l.length):(A7t (A7t l (a+xs.length) ys) a xs).take (a+xs.length+ys.length)=l.take a++xs++ys:=by
 have h1:(A7t l (a+xs.length) ys).take a=l.take a:=by
  unfold A7t
  rw[List.append_assoc,List.take_append_of_le_length (by simp;omega),List.take_take]
  congr 1;omega
 have h2:(A7t l (a+xs.length) ys).drop (a+xs.length)=ys++l.drop (a+xs.length+ys.length):=by
  unfold A7t
  rw[List.append_assoc,List.drop_append_of_le_length (by simp;omega),List.drop_take]
  simp
 show (List.take a (A7t l (a+xs.length) ys)++xs++List.drop (a+xs.length) (A7t l (a+xs.length) ys)).take _=_
 rw[h1,h2,← List.append_assoc]
 rw[List.take_append_of_le_length (by simp;omega)]
 rw[List.take_of_length_le (by simp;omega)]
theorem B1x (w:World) (g:Nat) (cs:Array Value):w.grownBy (w.setRow g cs) (some g) :=
 ⟨rfl,rfl,rfl,by simp,fun k _ hk=>setRow_other w g k cs (fun e=>hk (by rw[e]))⟩
end Go
namespace Go.Proofs.YtbhemnidcleaiaaGreat.X
open Go.RowKit Go.XB Go.XN Go.Lib Go.Shelf
attribute [local go_sem] O_ opAt P_ M_ Region.wanted yielded
attribute [local simp] P_ M_ MP.eq MP.agg MP.sl A0e
theorem B9m:(Tryz.prog.info? 70).map (fun i=>(i.zero,i.size,i.bytes))=some (some (.agg #[.int .i64 0,.int .i64 0,.int .i64 0,.int .i64 0]),4,32):=by kernel_rfl

def B4h (w:World) (base g n i:Nat) (cells xs:List Value) (e:Ending) (w':World):Prop :=
 ∃ g' cap',e=.returned (.slice (some ⟨g',0,none⟩) (n+1) cap')∧w'.ownsRow base 70 4 (.slice (some ⟨g',0,none⟩) (n+1) cap') (n+1) (cells.take (i*4)++xs++cells.drop (i*4))∧w.grownBy w' (some g)∧(g'=g∨w.heap.size≤g')

set_option maxRecDepth 100000 in
theorem C5i (base g n cap vb:Nat) (cells xs:List Value) (w:World) (h:w.ownsRow base 70 4 (.slice (some ⟨g,0,none⟩) n cap) n cells) (hb:base≤w.heap.size) (hn:n≤65536)
  (hv:w.heap[vb]?=some (.cells xs.toArray 70)) (hx:xs.length=4) (h1:∀ v∈xs,v.oneCell'=true) :
  Calls Tryz.prog 76 #[.slice (some ⟨g,0,none⟩) n cap,.int .i64 n,.slice (some ⟨vb,0,none⟩) 1 1] w (B4h w base g n n cells xs):=by
 obtain ⟨i0,hi,hz0,hz1,hz2⟩:=info_parts B9m
 have hcl:cells.length=n*4:=h.1
 have hnc:n≤cap∧cap≤maxLen:=by
  rcases h.2 with ⟨h',_⟩ | ⟨g',cap',cur,hvv,_,_,h3,h4,_⟩
  ·cases h'
  cases hvv;exact ⟨h3,h4⟩
 have hm:=hnc.2
 unfold maxLen at hm
 have hcap:(n:Int)≤cap:=by omega
 have hn64:(n:Int)≤65536:=by omega
 have hnews:=A0k hv
 have H:=A_ h
 have HN:=A_ hnc
 clear h hnc
 go_enter Tryz.func76,Tryz.ntmps76
 go_wp2_with (at_builtin;refine A1f rfl _ _ 42 rfl base 70 i0 _ 4 32 Tryz.underlying42 hi hz0 hz1 hz2 rfl (by decide) g n cap cells rfl H.o ⟨vb,0,none⟩ 1 1 xs rfl (by rw[hx]) hnews h1 (by unfold maxLen;omega) (by omega) hb ?_;intro g' cap' w' hown' hgrow hor)
 all_goals
  refine bodyPost_ret (results_tmp rfl _ _ _) rfl ?_
  refine ⟨g',cap',rfl,?_,hgrow,hor.imp id (fun e=>by omega)⟩
  rw[List.take_of_length_le (by omega),List.drop_eq_nil_of_le (by omega),List.append_nil]
  exact hown'

theorem A9d {P:Program} {w:World} {k g o dLen dCap sLen sCap:Nat} {a:Addr} {T E ty:TypeId} {cur:Array Value} {cs:List Value} (hu:P.underlying T=some (.slice E)) (hs:(P.info? E).map (·.size)=some k)
  (hg:w.heap[g]?=some (.cells cur E (0,0))) (hn:cs.length=Nat.min sLen dLen*k) (hsrc:∀ j v,cs[j]?=some v→w.cell? (a.add j)=some v) (hfit:o+cs.length≤cur.size) (h1:∀ v∈cs,v.oneCell'=true) :
  (Builtin.copy_ #[T,T] ty #[.slice (some ⟨g,o,none⟩) dLen dCap,.slice (some a) sLen sCap]).run P w=.ok (goInt (Nat.min sLen dLen)) (w.setRow g (A7t cur.toList o cs).toArray) :=
 B7t w T T ty E k g o dLen dCap a sLen sCap cur E cs hu hs hg hn hsrc hfit h1
theorem C0u {w:World} {g:Nat} {cur:Array Value} {t:TypeId} (hg:w.heap[g]?=some (.cells cur t (0,0))) (o:Nat):∀ j v,(cur.toList.drop o)[j]?=some v→w.cell? ((⟨g,o,none⟩:Addr).add j)=some v:=by
 intro j v hv
 have e:(⟨g,o,none⟩:Addr).add j=⟨g,o+j,none⟩:=by unfold Addr.add;split<;>simp_all
 rw[e]
 have:cur[o+j]?=some v:=by simpa using hv
 simp[World.cell?,hg,this]

set_option maxRecDepth 100000 in
theorem C1o (base g n cap vb i:Nat) (cells xs:List Value) (w:World) (h:w.ownsRow base 70 4 (.slice (some ⟨g,0,none⟩) n cap) n cells) (hn:n≤65536) (hi:i<n) (hroom:n+1≤cap)
  (hv:w.heap[vb]?=some (.cells xs.toArray 70)) (hx:xs.length=4) (h1:∀ v∈xs,v.oneCell'=true) (h2:∀ v∈cells,v.oneCell'=true) (hvg:vb≠g) :
  Calls Tryz.prog 76 #[.slice (some ⟨g,0,none⟩) n cap,.int .i64 i,.slice (some ⟨vb,0,none⟩) 1 1] w (B4h w base g n i cells xs):=by
 obtain ⟨i0,hii,hz0,hz1,hz2⟩:=info_parts B9m
 have hcl:cells.length=n*4:=h.1
 obtain ⟨cur,hbg,hg,hnc,hcm,hcs,htk⟩:∃ cur,base≤g∧w.heap[g]?=some (.cells cur 70 (0,0))∧n≤cap∧cap≤maxLen∧cur.size=cap*4∧cur.toList.take (n*4)=cells:=by
  rcases h.2 with ⟨h',_⟩ | ⟨g',cap',cur,hvv,k1,k2,k3,k4,k5,k6⟩
  ·cases h'
  cases hvv;exact ⟨cur,k1,k2,k3,k4,k5,k6⟩
 have hm:=hcm
 unfold maxLen at hm
 have hsz:(Tryz.prog.info? 70).map (·.size)=some 4:=by rw[hii];simp[hz1]
 have hcurl:cur.toList.length=cap*4:=by simp[hcs]
 obtain ⟨c1,hc1⟩:∃ c1,c1=A7t cur.toList ((i+1)*4) (cells.drop (i*4)):=⟨_,rfl⟩
 have hdl:(cells.drop (i*4)).length=(n - i)*4:=by rw[List.length_drop,hcl,← Nat.sub_mul]
 have hc1l:c1.length=cap*4:=by rw[hc1,A9f (by rw[hdl,hcurl];omega),hcurl]
 have hdrop:∀ (j:Nat) (v:Value),(cells.drop (i*4))[j]?=some v→(cur.toList.drop (i*4))[j]?=some v:=by
  intro j v hj
  rw[← htk,List.drop_take,List.getElem?_take] at hj
  split at hj
  ·exact hj
  cases hj
 have hcp1:∀ (W:World),W.heap[g]?=some (.cells cur 70 (0,0))→∀ ty dc sc,(Builtin.copy_ #[42,42] ty #[.slice (some ⟨g,(i+1)*4,none⟩) (n+1 - (i+1)) dc,.slice (some ⟨g,i*4,none⟩) (n+1 - i) sc]).run Tryz.prog W=.ok (goInt (n - i:Nat)) (W.setRow g c1.toArray):=fun W hW ty dc sc=>by
  have e:Nat.min (n+1 - i) (n+1 - (i+1))=n - i:=by simp only [Nat.min_def];split<;>omega
  have:=A9d (P:=Tryz.prog) (w:=W) (k:=4) (g:=g) (o:=(i+1)*4) (dLen:=n+1 - (i+1)) (dCap:=dc) (sLen:=n+1 - i) (sCap:=sc) (a:=⟨g,i*4,none⟩) (ty:=ty) Tryz.underlying42 hsz hW (cs:=cells.drop (i*4)) (by rw[e];exact hdl)
   (fun j v hj=>C0u hW _ j v (hdrop j v hj)) (by rw[hdl,hcs];omega) (fun v hv=>h2 v (List.mem_of_mem_drop hv))
  rw[e] at this
  rw[hc1];exact this
 have hcp2:∀ (W:World),W.heap[g]?=some (.cells c1.toArray 70 (0,0))→W.heap[vb]?=some (.cells xs.toArray 70)→∀ ty dc sc,(Builtin.copy_ #[42,42] ty #[.slice (some ⟨g,i*4,none⟩) (n+1 - i) dc,.slice (some ⟨vb,0,none⟩) 1 sc]).run Tryz.prog W=.ok (goInt (1:Nat)) (W.setRow g (A7t c1 (i*4) xs).toArray):=fun W hgW hvW ty dc sc=>by
  have e:Nat.min 1 (n+1 - i)=1:=by simp only [Nat.min_def];split<;>omega
  have:=A9d (P:=Tryz.prog) (w:=W) (k:=4) (g:=g) (o:=i*4) (dLen:=n+1 - i) (dCap:=dc) (sLen:=1) (sCap:=sc) (a:=⟨vb,0,none⟩) (ty:=ty) Tryz.underlying42 hsz hgW (cs:=xs) (by rw[e];omega)
   (A0k hvW) (by rw[hx];show _≤c1.length;rw[hc1l];omega) h1
  rw[e] at this
  simpa using this
 have hov:∀ lb cb,(callFunc 132 #[.slice (some ⟨vb,0,none⟩) 1 1,.slice (some ⟨g,(i+1)*4,none⟩) lb cb]).run Tryz.prog w=.ok (.value (.bool false)) w:=fun lb cb=>by
  rw[run_callFunc_extern Tryz.func132 (by kernel_rfl) (by kernel_rfl) (by kernel_rfl) (e:=Extern.SlicesOverlaps.overlaps #[42,42] #[4]) (by kernel_rfl),
   Lib.run_overlaps_apart w 42 4 70 Tryz.underlying42 4 Tryz.sizeOf70 ⟨vb,0,none⟩ ⟨g,(i+1)*4,none⟩ 1 1 lb cb hvg 70 70 4 (cap*4) (by simp[World.shape?,hv,hx]) (by simp[World.shape?,hg,hcs]) (by omega) (by simp[World.frozen?,hv]) (by simp[World.frozen?,hv])]
  rfl
 have hb2:¬ (cap=i+1):=by omega
 have hb4:¬ (cap=i):=by omega
 have hcap:(n:Int)+1≤cap:=by omega
 have hin:(i:Int)<n:=by omega
 have hn64:(n:Int)≤65536:=by omega
 have HC1:=A_ hc1;have HTK:=A_ htk;have HCS:=A_ hcs
 clear h hnc htk hcs hc1
 go_enter Tryz.func76,Tryz.ntmps76
 go_wp2_with fail
 refine Z_ (by simp) ?_
 dsimp only [List.dropLast,List.getLast,List.length]
 iterate 8
  refine D_ _ ?_
 intro yq zq wa hC hd (hdis:Hid _)
 simp at hd
 have hga:wa.heap[g]?=some (.cells cur 70 (0,0)):=by rw[hC.block g (E_ hg)];exact hg
 have hva:wa.heap[vb]?=some (.cells xs.toArray 70):=by rw[hC.block vb (E_ hv)];exact hv
 have hgs:(wa.setRow g c1.toArray).heap[g]?=some (.cells c1.toArray 70 (0,0)):=setRow_heap wa g cur _ _ _ hga
 have hvs:(wa.setRow g c1.toArray).heap[vb]?=some (.cells xs.toArray 70):=by rw[setRow_other wa g vb _ hvg];exact hva
 have hr1:=fun ty dc sc=>hcp1 wa hga ty dc sc
 rw[show n+1 - (i+1)=n - i by omega] at hr1
 have hr2:=fun ty dc sc=>hcp2 _ hgs hvs ty dc sc
 have HGS:=A_ hgs;have HVA:=A_ hva
 clear hga hva hov hcp1 hcp2 hgs hvs
 go_simp
 clear hd hdis
 go_wp2
 refine bodyPost_ret (results_tmp rfl _ _ _) rfl ?_
 have hc2l:(A7t c1 (i*4) xs).length=cap*4:=by rw[A9f (by rw[hc1l,hx];omega),hc1l]
 refine ⟨g,cap,rfl,⟨?_,.inr ⟨g,cap,(A7t c1 (i*4) xs).toArray,rfl,hbg,setRow_heap _ g _ _ _ _ HGS.o,hroom,hcm,by simpa using hc2l,?_⟩⟩,?_,.inl rfl⟩
 ·simp only [List.length_append,List.length_take,List.length_drop];omega
 ·have h5:=C7t (l:=cur.toList) (xs:=xs) (ys:=cells.drop (i*4)) (a:=i*4) (by rw[hdl,hx,hcurl];omega)
  rw[hx,hdl] at h5
  rw[show i*4+4=(i+1)*4 by omega,← HC1.o,show (i+1)*4+(n - i)*4=(n+1)*4 by omega] at h5
  rw[h5,← HTK.o,List.take_take,Nat.min_eq_left (by omega)]
 exact (World.grownBy.trans ⟨hC.os,hC.tape,hC.output,hC.size,fun k hk _=>hC.block k hk⟩ (B1x wa g _)).trans (B1x _ g _)

set_option maxRecDepth 100000 in
theorem C2z (base g n cap vb i:Nat) (cells xs:List Value) (w:World) (h:w.ownsRow base 70 4 (.slice (some ⟨g,0,none⟩) n cap) n cells) (hb:base≤w.heap.size) (hn:n≤65536) (hi:i<n) (hroom:cap<n+1)
  (hv:w.heap[vb]?=some (.cells xs.toArray 70)) (hx:xs.length=4) (h1:∀ v∈xs,v.oneCell'=true) (h2:∀ v∈cells,v.oneCell'=true) :
  Calls Tryz.prog 76 #[.slice (some ⟨g,0,none⟩) n cap,.int .i64 i,.slice (some ⟨vb,0,none⟩) 1 1] w (B4h w base g n i cells xs):=by
 obtain ⟨i0,hii,hz0,hz1,hz2⟩:=info_parts B9m
 have hcl:cells.length=n*4:=h.1
 obtain ⟨cur,hbg,hg,hnc,hcm,hcs,htk⟩:∃ cur,base≤g∧w.heap[g]?=some (.cells cur 70 (0,0))∧n≤cap∧cap≤maxLen∧cur.size=cap*4∧cur.toList.take (n*4)=cells:=by
  rcases h.2 with ⟨h',_⟩ | ⟨g',cap',cur,hvv,k1,k2,k3,k4,k5,k6⟩
  ·cases h'
  cases hvv;exact ⟨cur,k1,k2,k3,k4,k5,k6⟩
 have hm:=hcm
 unfold maxLen at hm
 have hsz:(Tryz.prog.info? 70).map (·.size)=some 4:=by rw[hii];simp[hz1]
 have hcurl:cur.toList.length=cap*4:=by simp[hcs]
 have hcells:∀ j v,cells[j]?=some v→w.cell? ((⟨g,0,none⟩:Addr).add j)=some v:=h.cells (g:=g) rfl
 have hold:(Builtin.firstCells i0.size i (.slice (some ⟨g,0,none⟩) i cap)).run Tryz.prog w.drew=.ok (cells.take (i*4)).toArray w.drew:=by
  rw[hz1]
  exact run_firstCells_some w.drew 4 i ⟨g,0,none⟩ i cap (cells.take (i*4)) (by rw[List.length_take];omega) (fun j v hj=>by
   rw[List.getElem?_take] at hj
   split at hj
   ·exact hcells j v hj
   cases hj)
 have hcast:(n:Int)+1 - (i:Int)=((n+1 - i:Nat):Int):=by omega
 have hik:i+(n+1 - i)=n+1:=by omega
 obtain ⟨G,hG⟩:∃ G,G=grownCap w (n+1) cap 70:=⟨_,rfl⟩
 obtain ⟨ROW,hROW⟩:∃ ROW:Array Value,ROW=(cells.take (i*4)).toArray++Builtin.zeroCells (Value.agg #[.int .i64 0,.int .i64 0,.int .i64 0,.int .i64 0]).cells (n+1 - i)++Builtin.zeroCells (Value.agg #[.int .i64 0,.int .i64 0,.int .i64 0,.int .i64 0]).cells (G - (n+1)):=⟨_,rfl⟩
 have hrz:∀ ty,(Builtin.append_ #[42,3] ty #[.slice (some ⟨g,0,none⟩) i cap,.int .i64 ((n:Int)+1 - (i:Int))]).run Tryz.prog w =
   .ok (.slice (some ⟨w.heap.size,0,none⟩) (n+1) G) (w.drew.alloc (.cells ROW 70)):=fun ty=>by
  have h:=Lib.run_append_grow_zeros w 42 3 ty 70 i0 _ .i64 .i64 Tryz.underlying42 Tryz.underlying3 hii hz0 (some ⟨g,0,none⟩) i cap (cells.take (i*4)) hold (n+1 - i) (by omega) (by rw[hz1];decide) (by omega) (by omega) (by rw[hz2];omega) (by rw[hz2,hik];exact growslice_fits hroom (by omega))
  rw[hik] at h
  rw[hcast,hROW,hG]
  exact h
 have hGn:n+1≤G:=by rw[hG];exact grownCap_ge w _ _ _
 have hG63:G≤maxLen:=by rw[hG];exact grownCap_le_maxLen w (n+1) cap _ (by unfold maxLen;omega)
 have hROWl:ROW.toList.length=G*4:=by
  rw[hROW]
  simp[Builtin.zeroCells,Value.cells]
  omega
 have hRt:ROW.toList.take (i*4)=cells.take (i*4):=by
  rw[hROW]
  rw[Array.append_assoc,Array.toList_append,List.take_append_of_le_length (by simp;omega)]
  rw[show ((cells.take (i*4)).toArray).toList=cells.take (i*4) from rfl,List.take_take,Nat.min_self]
 obtain ⟨W1,hW1⟩:∃ W1,W1=w.drew.alloc (.cells ROW 70):=⟨_,rfl⟩
 have hgl:g<w.heap.size:=E_ hg
 have hvl:vb<w.heap.size:=E_ hv
 have hW1n:W1.heap[w.heap.size]?=some (.cells ROW 70 (0,0)):=by rw[hW1];exact heap_alloc_new w.drew _
 have hW1o:∀ k,k<w.heap.size→W1.heap[k]?=w.heap[k]?:=fun k hk=>by rw[hW1];exact Below.heap_alloc w.drew _ k hk
 have hW1B:Below w.heap.size w W1:=by rw[hW1];exact ⟨rfl,rfl,rfl,by simp,fun k hk=>Below.heap_alloc w.drew _ k hk⟩
 obtain ⟨c1,hc1⟩:∃ c1,c1=A7t ROW.toList (i*4) xs:=⟨_,rfl⟩
 have hc1l:c1.length=G*4:=by rw[hc1,A9f (by rw[hx,hROWl];omega),hROWl]
 have hdl:(cells.drop (i*4)).length=(n - i)*4:=by rw[List.length_drop,hcl,← Nat.sub_mul]
 have hcpA:∀ (W:World),W.heap=W1.heap→∀ ty dc sc,(Builtin.copy_ #[42,42] ty #[.slice (some ⟨w.heap.size,i*4,none⟩) (n+1 - i) dc,.slice (some ⟨vb,0,none⟩) 1 sc]).run Tryz.prog W=.ok (goInt (1:Nat)) (W.setRow w.heap.size c1.toArray):=fun W hW ty dc sc=>by
  have e:Nat.min 1 (n+1 - i)=1:=by simp only [Nat.min_def];split<;>omega
  have hvW:W.heap[vb]?=some (.cells xs.toArray 70):=by rw[hW,hW1o vb hvl];exact hv
  have:=A9d (P:=Tryz.prog) (w:=W) (k:=4) (g:=w.heap.size) (o:=i*4) (dLen:=n+1 - i) (dCap:=dc) (sLen:=1) (sCap:=sc) (a:=⟨vb,0,none⟩) (ty:=ty) Tryz.underlying42 hsz (by rw[hW];exact hW1n) (cs:=xs) (by rw[e];omega)
   (A0k hvW) (by rw[hx,← Array.length_toList,hROWl];omega) h1
  rw[e] at this
  rw[hc1];exact this
 have hcpB:∀ (W:World),W.heap[w.heap.size]?=some (.cells c1.toArray 70 (0,0))→W.heap[g]?=some (.cells cur 70 (0,0))→∀ ty dc sc,(Builtin.copy_ #[42,42] ty #[.slice (some ⟨w.heap.size,(i+1)*4,none⟩) (n - i) dc,.slice (some ⟨g,i*4,none⟩) (n - i) sc]).run Tryz.prog W=.ok (goInt (n - i:Nat)) (W.setRow w.heap.size (A7t c1 ((i+1)*4) (cells.drop (i*4))).toArray):=fun W hW hgW ty dc sc=>by
  have e:Nat.min (n - i) (n - i)=n - i:=by simp
  have:=A9d (P:=Tryz.prog) (w:=W) (k:=4) (g:=w.heap.size) (o:=(i+1)*4) (dLen:=n - i) (dCap:=dc) (sLen:=n - i) (sCap:=sc) (a:=⟨g,i*4,none⟩) (ty:=ty) Tryz.underlying42 hsz hW (cs:=cells.drop (i*4)) (by rw[e];exact hdl)
   (fun j v hj=>C0u hgW _ j v (by
    rw[← htk,List.drop_take,List.getElem?_take] at hj
    split at hj
    ·exact hj
    cases hj)) (by rw[hdl];show _≤c1.length;rw[hc1l];omega) (fun v hv=>h2 v (List.mem_of_mem_drop hv))
  rw[e] at this
  simpa using this
 have hin:(i:Int)<n:=by omega
 have hn64:(n:Int)≤65536:=by omega
 have hcapn:(cap:Int)<(n:Int)+1:=by omega
 have hcap0:(n:Int)≤cap:=by omega
 have hGi:¬ (G=i):=by omega
 have hGi1:¬ (G=i+1):=by omega
 have hci:¬ (cap=i):=by omega
 have hG64:(G:Int)≤9223372036854775807:=by unfold maxLen at hG63;omega
 have hGnI:(n:Int)+1≤G:=by omega
 have HC1:=A_ hc1;have HTK:=A_ htk;have HROWT:=A_ hRt
 subst hW1
 have HW1n:=A_ hW1n;have HW1o:=A_ hW1o;have HW1B:=A_ hW1B
 clear hW1n hW1o hW1B
 have HRZ:=A_ hrz;have HCA:=A_ hcpA
 clear hcast hik hold hROW hG hcells hc1 htk hRt hcs hrz hcpA
 have hA:=fun ty dc sc=>HCA.o (w.alloc (.cells ROW 70)).drew rfl ty dc sc
 have hWn:((w.alloc (.cells ROW 70)).drew.setRow w.heap.size c1.toArray).heap[w.heap.size]?=some (.cells c1.toArray 70 (0,0)):=setRow_heap _ _ ROW _ _ _ HW1n.o
 have hWg:((w.alloc (.cells ROW 70)).drew.setRow w.heap.size c1.toArray).heap[g]?=some (.cells cur 70 (0,0)):=by rw[setRow_other _ _ g _ (by omega)];exact (HW1o.o g hgl).trans hg
 have hWB:Below w.heap.size w ((w.alloc (.cells ROW 70)).drew.setRow w.heap.size c1.toArray):=below_setRow HW1B.o (Nat.le_refl _) _
 have HWn:=A_ hWn;have HWg:=A_ hWg;have HWB:=A_ hWB;have HB:=A_ hcpB
 clear hWn hWg hWB hcpB
 go_enter Tryz.func76,Tryz.ntmps76
 go_wp2_with (at_builtin;refine Lib.wpList_append_run _ rfl _ _ _ _ rfl _ _ rfl rfl _ _ (HRZ.o _) ?_)
 refine Z_ (by simp) ?_
 dsimp only [List.dropLast,List.getLast,List.length]
 iterate 8
  refine D_ _ ?_
 intro yq zq wa hC hd (hdis:Hid _)
 simp at hd
 have hna:wa.heap[w.heap.size]?=some (.cells c1.toArray 70 (0,0)):=by rw[hC.block _ (E_ HWn.o)];exact HWn.o
 have hga:wa.heap[g]?=some (.cells cur 70 (0,0)):=by rw[hC.block g (E_ HWg.o)];exact HWg.o
 have hr1:=fun ty dc sc=>HB.o wa hna hga ty dc sc
 have HNA:=A_ hna
 clear hna hga hA
 go_simp
 clear hd hdis
 go_wp2
 refine bodyPost_ret (results_tmp rfl _ _ _) rfl ?_
 have hc2l:(A7t c1 ((i+1)*4) (cells.drop (i*4))).length=G*4:=by rw[A9f (by rw[hc1l,hdl];omega),hc1l]
 refine ⟨w.heap.size,G,rfl,⟨?_,.inr ⟨w.heap.size,G,(A7t c1 ((i+1)*4) (cells.drop (i*4))).toArray,rfl,hb,setRow_heap _ _ _ _ _ _ HNA.o,hGn,hG63,by simpa using hc2l,?_⟩⟩,?_,.inr (Nat.le_refl _)⟩
 ·simp only [List.length_append,List.length_take,List.length_drop];omega
 ·have h5:=D0b (l:=ROW.toList) (xs:=xs) (ys:=cells.drop (i*4)) (a:=i*4) (by rw[hdl,hx,hROWl];omega)
  rw[hx,hdl,← HC1.o] at h5
  rw[show i*4+4=(i+1)*4 by omega,show (i+1)*4+(n - i)*4=(n+1)*4 by omega,HROWT.o] at h5
  exact h5
 have hB2:Below w.heap.size w (wa.setRow w.heap.size (A7t c1 ((i+1)*4) (cells.drop (i*4))).toArray):=below_setRow (Below.next HWB.o hC) (Nat.le_refl _) _
 exact ⟨hB2.os,hB2.tape,hB2.output,hB2.size,fun k hk _=>hB2.block k hk⟩
end Go.Proofs.YtbhemnidcleaiaaGreat.X

namespace Go.XB
open Go.RowKit
def MP.slc (n:Nat) (cs:Array Value) (t:TypeId):MP:=⟨fun v bs w=>∃ g,v=.slice (some ⟨g,0,none⟩) n n∧bs=[g]∧w.heap[g]?=some (.cells cs t),fun v bs w w' hb h=>by
 obtain ⟨g,e,hz,hg⟩:=h;exact ⟨g,e,hz,(hb.block g (E_ hg)).trans hg⟩⟩
section
variable {P:Program} {l:List Oper} {a0:Act}
theorem C9a {w0:World} {F:List DP→Prop} {o:Oper} {os:List Oper} {acc:List DP} (n:Nat) (cs:Array Value) (t:TypeId)
  (h:∀ (y:Nat→Value) (z:Nat→List Nat) (w:World),Below w0.heap.size w0 w→(∀ k∈P_ o,(acc.getD k (fun _=>MP.eq undef) y).p (y k) (z k) w) →
   Region.wanted o (yielded l.toArray (O_ l y a0 (P_ o)).tmps)=true∧(execOp (O_ l y a0 (P_ o)).eval o).run P w=.ok (.value (.slice (some ⟨w.heap.size,0,none⟩) n n)) (w.alloc (.cells cs t)))
  (hr:A3y P l w0 a0 F os (acc++[fun _=>MP.slc n cs t])):A3y P l w0 a0 F (o::os) acc:=by
 refine ⟨fun _=>MP.slc n cs t,Cong.const _ _,fun y z w hC hd=>?_,hr⟩
 obtain ⟨h1,h2⟩:=h y z w hC hd
 rw[if_pos h1]
 unfold B0l
 rw[h2]
 refine ⟨(Below.refl _ _).alloc (Nat.le_refl _) _,[w.heap.size],⟨w.heap.size,rfl,rfl,by show (w.heap.push _)[w.heap.size]?=_;simp⟩,fun b hb=>?_⟩
 simp at hb;subst hb;simp
end
end Go.XB
namespace Go.XN
open Go.XB
def B7a (a b:TEdge):Int:=if a.a≠b.a then sgn (a.a - b.a) else sgn (a.b - b.b)
def A8r:TEdge:=⟨0,0,0,0⟩
def A4u (es:List TEdge) (e:TEdge):Nat→Nat→Nat→Nat
 | 0,i,_=>i
 | f+1,i,j=>if i<j then (if B7a (es.getD ((i+j) / 2) A8r) e<0 then A4u es e f ((i+j) / 2+1) j else A4u es e f i ((i+j) / 2)) else i
def B4z (es:List TEdge) (e:TEdge):Nat:=A4u es e es.length 0 es.length
def B3o (es:List TEdge) (e:TEdge):Bool:=decide (B4z es e<es.length)&&decide (B7a (es.getD (B4z es e) A8r) e=0)
end Go.XN
namespace Go.Proofs.YtbhemnidcleaiaaGreat.X
open Go.RowKit Go.XB Go.XN
attribute [local go_sem] O_ opAt P_ M_ Region.wanted yielded
attribute [local simp] P_ M_ MP.eq MP.agg MP.sl MP.slc A0e

theorem B5k (es:List TEdge) (e:TEdge):∀ (f i j:Nat),i≤j→A4u es e f i j≤j
 | 0,i,j,h=>h
 | f+1,i,j,h=>by
  unfold A4u
  split
  ·split
   ·exact B5k es e f _ j (by omega)
   exact Nat.le_trans (B5k es e f i _ (by omega)) (by omega)
  exact h
theorem A7n (es:List TEdge) (e:TEdge):∀ (f g i j:Nat),j≤i+f→j≤i+g→A4u es e f i j=A4u es e g i j
 | 0,0,i,j,_,_=>rfl
 | 0,g+1,i,j,h,_=>by unfold A4u;rw[if_neg (by omega)]
 | f+1,0,i,j,_,h=>by unfold A4u;rw[if_neg (by omega)]
 | f+1,g+1,i,j,h1,h2=>by
  unfold A4u
  split
  ·split
   ·exact A7n es e f g _ j (by omega) (by omega)
   exact A7n es e f g i _ (by omega) (by omega)
  rfl
theorem C3g {es:List TEdge} {e x:TEdge} {i j h r:Nat} (hq:∀ f,j≤i+f→A4u es e f i j=r) (hij:i<j) (hh:h=(i+j) / 2) (hx:es[h]?=some x) (hc:B7a x e<0):∀ f,j≤h+1+f→A4u es e f (h+1) j=r:=by
 intro f hf
 have h1:=hq (j+1) (by omega)
 unfold A4u at h1
 rw[if_pos hij,← hh,show es.getD h A8r=x by simp[List.getD,hx],if_pos hc] at h1
 rw[A7n es e f j (h+1) j hf (by omega),h1]
theorem C2y {es:List TEdge} {e x:TEdge} {i j h r:Nat} (hq:∀ f,j≤i+f→A4u es e f i j=r) (hij:i<j) (hh:h=(i+j) / 2) (hx:es[h]?=some x) (hc:¬ B7a x e<0):∀ f,h≤i+f→A4u es e f i h=r:=by
 intro f hf
 have h1:=hq (j+1) (by omega)
 unfold A4u at h1
 rw[if_pos hij,← hh,show es.getD h A8r=x by simp[List.getD,hx],if_neg hc] at h1
 rw[A7n es e f j i h hf (by omega),h1]
theorem C6d {es:List TEdge} {e:TEdge} {i j r:Nat} (hq:∀ f,j≤i+f→A4u es e f i j=r) (hij:i=j):i=r:=by
 have:=hq 0 (by omega)
 exact this
theorem B7g (es:List TEdge) (e:TEdge):B4z es e≤es.length:=B5k es e _ 0 _ (Nat.zero_le _)

theorem D2p (g:Nat) (a b:Int) (w:World) (h:w.heap[g]?=some (.cells #[.int .i64 a,.int .i64 b] 3)) :
  Calls Tryz.prog 130 #[.slice (some ⟨g,0,none⟩) 2 2] w (A0j w (.int .i64 (if a≠0 then a else b))):=by
 have c0:w.cell? ⟨g,0,none⟩=some (.int .i64 a):=(B_ h rfl).1
 have c1:w.cell? ⟨g,1,none⟩=some (.int .i64 b):=(B_ h rfl).1
 clear h
 by_cases ha:a=0
 ·subst ha
  by_cases hb:b=0
  ·subst hb
   go_enter Tryz.func130,Tryz.ntmps130
   go_wp2_with fail
   go_loopg [8] 2 (fun g s wr=>∃ k:Nat,k+g=2∧s=.int .i64 k∧wr=w)
   case atStart=>exact ⟨0,rfl,rfl,rfl⟩
   case round =>
    obtain ⟨k,hk,rfl,rfl⟩:=hrel
    obtain rfl | rfl | rfl:k=0∨k=1∨k=2:=by omega
    ·obtain rfl:gk=1+1:=by omega
     clear hk
     go_wp2_with fail
     go_roundg 1
     case measure=>omega
     case rel=>exact ⟨1,rfl,rfl,rfl⟩
    ·obtain rfl:gk=0+1:=by omega
     clear hk
     go_wp2_with fail
     go_roundg 0
     case measure=>omega
     case rel=>exact ⟨2,rfl,rfl,rfl⟩
    clear hk
    go_wp2
    go_ret
    exact ⟨rfl,Below.refl _ _⟩
  have hbb:(b==0)=false:=by simp[hb]
  go_enter Tryz.func130,Tryz.ntmps130
  go_wp2_with fail
  go_loopg [8] 2 (fun g s wr=>∃ k:Nat,k+g=2∧k≤1∧s=.int .i64 k∧wr=w)
  case atStart=>exact ⟨0,rfl,by omega,rfl,rfl⟩
  case round =>
   obtain ⟨k,hk,hk1,rfl,rfl⟩:=hrel
   obtain rfl | rfl:k=0∨k=1:=by omega
   ·obtain rfl:gk=1+1:=by omega
    clear hk hk1
    go_wp2_with fail
    go_roundg 1
    case measure=>omega
    case rel=>exact ⟨1,rfl,by omega,rfl,rfl⟩
   clear hk hk1
   go_wp2
   go_ret
   exact ⟨by simp,Below.refl _ _⟩
 have haa:(a==0)=false:=by simp[ha]
 go_enter Tryz.func130,Tryz.ntmps130
 go_wp2_with fail
 go_loopg [8] 2 (fun g s wr=>g=2∧s=.int .i64 0∧wr=w)
 case atStart=>exact ⟨rfl,rfl,rfl⟩
 case round =>
  obtain ⟨_,rfl,rfl⟩:=hrel
  go_wp2
  go_ret
  exact ⟨by simp,Below.refl _ _⟩

theorem sgn_ne {a:Int}:sgn a≠0↔a≠0:=by unfold sgn;split<;>(try split)<;>omega
theorem A6q (v1 v2:Value) (a b:TEdge) (b1 b2:List Nat) (w:World) (hx:Agg w v1 a b1) (hy:Agg w v2 b b2) :
  Calls Tryz.prog 75 #[v1,v2] w (A0j w (.int .i64 (B7a a b))):=by
 obtain ⟨rfl,_,_,_,_,_⟩:=TEdge.agg hx
 obtain ⟨rfl,_,_,_,_,_⟩:=TEdge.agg hy
 have E:=A_ (show (if sgn (a.a - b.a)≠0 then sgn (a.a - b.a) else sgn (a.b - b.b))=B7a a b by
  unfold B7a
  by_cases h:a.a=b.a
  ·rw[if_neg (by rw[h];simp[sgn]),if_neg (by simp[h])]
  rw[if_pos (sgn_ne.2 (by omega)),if_pos h])
 obtain ⟨r,hr⟩:∃ r,(if sgn (a.a - b.a)≠0 then sgn (a.a - b.a) else sgn (a.b - b.b))=r:=⟨_,rfl⟩
 have R:=A_ hr
 rw[hr] at E
 clear hx hy hr
 go_enter Tryz.func75,Tryz.ntmps75
 go_wp2_with fail
 refine Z_ (by simp) ?_
 dsimp only [List.dropLast,List.getLast,List.length]
 iterate 4
  refine D_ _ ?_
 refine F_ (MP.eq (.int .i64 (sgn (a.a - b.a)))) ?_ ?_
 ·intro yq zq wq hC hd
  obtain ⟨hcq,hfq⟩:=C_ hC
  simp at hd
  refine H_ ?_
  exact A0t (A9g _ _ _)
 iterate 4
  refine D_ _ ?_
 refine F_ (MP.eq (.int .i64 (sgn (a.b - b.b)))) ?_ ?_
 ·intro yq zq wq hC hd
  obtain ⟨hcq,hfq⟩:=C_ hC
  simp at hd
  refine H_ ?_
  exact A0t (A9g _ _ _)
 refine C9a 2 #[.int .i64 (sgn (a.a - b.a)),.int .i64 (sgn (a.b - b.b))] 3 ?_ ?_
 ·intro yq zq wq hC hd
  simp at hd
  refine ⟨by go_simp;done,?_⟩
  go_simp
 refine F_ (MP.eq (.int .i64 r)) ?_ ?_
 ·intro yq zq wq hC hd
  obtain ⟨hcq,hfq⟩:=C_ hC
  simp at hd
  obtain ⟨⟨g,e,hz,hg⟩,_⟩:=hd
  refine H_ ?_
  exact A0t (by have C:=D2p g _ _ wq hg;rw[R.o] at C;exact C)
 intro yq zq wa hC hd (hdis:Hid _)
 simp at hd
 go_simp
 go_wp2
 refine bodyPost_ret (results_tmp rfl _ _ _) rfl ⟨?_,Below.go⟩
 rw[← E.o];rfl

theorem B3z:A5r 75:=fun a w=>by kernel_rfl
theorem B0m (A:Option Addr) (n c:Nat) (es:List TEdge) (bs:List Nat) (v:Value) (e:TEdge) (b:List Nat) (w:World) (hx:Sl w A n c es bs) (hn:n≤65536) (hv:Agg w v e b) :
  Calls Tryz.prog 74 #[.slice A n c,v,.func (.func 75) #[] #[]] w (A0j w (.tuple #[.int .i64 (B4z es e),.bool (B3o es e)])):=by
 have HX:=A_ hx;have HV:=A_ hv
 have HL:=A_ hx.1
 obtain ⟨rfl,_,we0,we1,we2,we3⟩:=TEdge.agg hv
 clear hx hv we0 we1 we2 we3
 have KN:=B3z
 unfold A5r at KN
 have hn64:(n:Int)≤65536:=by omega
 go_enter Tryz.func74,Tryz.ntmps74
 go_wp2_with fail
 go_loopg [9,10] n (fun g s9 s10 wr=>∃ (i j:Nat),j≤i+g∧(i≤j∧j≤n)∧s9=.int .i64 i∧s10=.int .i64 j∧Hid (∀ f,j≤i+f→A4u es e f i j=B4z es e)∧Below (w.heap.size+1) (w.alloc (.cells #[.int .i64 e.a,.int .i64 e.b,.int .i64 e.left,.int .i64 e.right] 70)) wr)
 case atStart =>
  exact ⟨0,n,by omega,⟨Nat.zero_le _,Nat.le_refl _⟩,rfl,rfl,(show ∀ f,n≤0+f→A4u es e f 0 n=B4z es e from fun f hf=>by unfold B4z;rw[HL.o];exact A7n es e f n 0 n hf (by omega)),Below.refl _ _⟩
 case round =>
  obtain ⟨i,j,hg,⟨hij,hjn⟩,rfl,rfl,hq,hb⟩:=hrel
  have HBW:=A_ (show Below w.heap.size w wr from (Below.box (.cells #[.int .i64 e.a,.int .i64 e.b,.int .i64 e.left,.int .i64 e.right] 70)).trans (hb.mono (by omega)))
  have k0:wr.cell? ⟨w.heap.size,0,none⟩=some (.int .i64 e.a):=(hb.cell (p:=⟨w.heap.size,0,none⟩) (Nat.lt_succ_self _)).trans (by go_simp)
  have k1:wr.cell? ⟨w.heap.size,1,none⟩=some (.int .i64 e.b):=(hb.cell (p:=⟨w.heap.size,1,none⟩) (Nat.lt_succ_self _)).trans (by go_simp)
  have k2:wr.cell? ⟨w.heap.size,2,none⟩=some (.int .i64 e.left):=(hb.cell (p:=⟨w.heap.size,2,none⟩) (Nat.lt_succ_self _)).trans (by go_simp)
  have k3:wr.cell? ⟨w.heap.size,3,none⟩=some (.int .i64 e.right):=(hb.cell (p:=⟨w.heap.size,3,none⟩) (Nat.lt_succ_self _)).trans (by go_simp)
  have hwl:w.heap.size<wr.heap.size:=by have:=hb.size;simp at this;omega
  rcases Nat.lt_or_ge i j with hlt | hge
  ·have hlt':(i:Int)<j:=by omega
   obtain ⟨h,hh⟩:∃ h:Nat,h=(i+j) / 2:=⟨_,rfl⟩
   have hhi:((i:Int)+j) / 2=(h:Int):=by omega
   have hb1:i≤h∧h<j:=by omega
   have hhn:(h:Int)<n:=by omega
   have hj64:(j:Int)≤65536:=by omega
   obtain ⟨gh,rfl⟩:∃ gh',gk=gh'+1:=⟨gk - 1,by omega⟩
   obtain ⟨be,of,x,rfl,hbl,hx1,e0,e1,e2,e3,hag⟩:=TEdge.elemA (HX.o.below HBW.o) (show h<n by omega)
   have HX1:=A_ hx1;have HAG:=A_ hag
   have HH:=A_ hh;have HB:=A_ hb;have HG:=A_ hg;have HLT:=A_ hlt;have HB1:=A_ hb1;have HJN:=A_ hjn
   clear hh hb hg hlt hx1 hag hij hjn
   by_cases hc:B7a x e<0
   ·have HN:=A_ (C3g hq.o HLT.o HH.o HX1.o hc)
    obtain ⟨r,hr⟩:∃ r,B7a x e=r:=⟨_,rfl⟩
    rw[hr] at hc
    have R:=A_ hr
    clear hr
    go_wp2_with fail
    refine A0l ?_
    iterate 6
     refine D_ _ ?_
    refine F_ (MP.eq (.int .i64 r)) ?_ ?_
    ·intro yq zq wq hC hd
     obtain ⟨hcq,hfq⟩:=C_ hC
     simp at hd
     refine H_ ?_
     exact A0t (by have C:=A6q _ _ x e _ _ wq (HAG.o.below hC) (HV.o.below (HBW.o.trans (hC.mono HBW.o.size)));rw[R.o] at C;exact C)
    refine D_ _ ?_
    intro yq zq wa hC hd (hdis:Hid _)
    simp at hd
    go_simp
    clear hd hdis
    have HBA:=A_ (HB.o.trans (hC.mono (by have:=HB.o.size;simp at this;omega)))
    go_wp2_with fail
    go_roundg gh
    case measure=>omega
    case rel=>exact ⟨h+1,j,by have:=HG.o;have:=HB1.o;omega,⟨by have:=HB1.o;omega,HJN.o⟩,by go_num,rfl,HN,HBA.o⟩
   have HN:=A_ (C2y hq.o HLT.o HH.o HX1.o hc)
   obtain ⟨r,hr⟩:∃ r,B7a x e=r:=⟨_,rfl⟩
   rw[hr] at hc
   have R:=A_ hr
   clear hr
   go_wp2_with fail
   refine A0l ?_
   iterate 6
    refine D_ _ ?_
   refine F_ (MP.eq (.int .i64 r)) ?_ ?_
   ·intro yq zq wq hC hd
    obtain ⟨hcq,hfq⟩:=C_ hC
    simp at hd
    refine H_ ?_
    exact A0t (by have C:=A6q _ _ x e _ _ wq (HAG.o.below hC) (HV.o.below (HBW.o.trans (hC.mono HBW.o.size)));rw[R.o] at C;exact C)
   refine D_ _ ?_
   intro yq zq wa hC hd (hdis:Hid _)
   simp at hd
   go_simp
   clear hd hdis
   have HBA:=A_ (HB.o.trans (hC.mono (by have:=HB.o.size;simp at this;omega)))
   go_wp2_with fail
   go_roundg gh
   case measure=>omega
   case rel=>exact ⟨i,h,by have:=HG.o;have:=HB1.o;omega,⟨by have:=HB1.o;omega,by have:=HJN.o;have:=HB1.o;omega⟩,rfl,rfl,HN,HBA.o⟩
  obtain rfl:i=j:=by omega
  have HI:=A_ (C6d hq.o rfl)
  have hii:¬ ((i:Int)<i):=by omega
  have HB:=A_ hb
  clear hg hij hge hb hq
  rcases Nat.lt_or_ge i n with hin | hin
  ·have hin':(i:Int)<n:=by omega
   obtain ⟨be,of,x,rfl,hbl,hx1,e0,e1,e2,e3,hag⟩:=TEdge.elemA (HX.o.below HBW.o) hin
   have HAG:=A_ hag
   have E:=A_ (show decide (B7a x e=0)=B3o es e by
    unfold B3o
    rw[← HI.o,show es.getD i A8r=x by simp[List.getD,hx1],HL.o,decide_eq_true hin,Bool.true_and])
   clear hx1 hag hin hjn
   obtain ⟨r,hr⟩:∃ r,B7a x e=r:=⟨_,rfl⟩
   have R:=A_ hr
   rw[hr] at E
   clear hr
   go_wp2_with fail
   refine A0l ?_
   iterate 11
    refine D_ _ ?_
   refine F_ (MP.eq (.int .i64 r)) ?_ ?_
   ·intro yq zq wq hC hd
    obtain ⟨hcq,hfq⟩:=C_ hC
    simp at hd
    refine H_ ?_
    exact A0t (by have C:=A6q _ _ x e _ _ wq (HAG.o.below hC) (HV.o.below (HBW.o.trans (hC.mono HBW.o.size)));rw[R.o] at C;exact C)
   iterate 4
    refine D_ _ ?_
   intro yq zq wa hC hd (hdis:Hid _)
   simp at hd
   go_simp
   clear hd hdis
   go_wp2
   go_ret2
   rw[← HI.o,← E.o]
   exact ⟨by simp;rfl,HBW.o.trans (hC.mono HBW.o.size)⟩
  obtain rfl:i=n:=by omega
  have E:=A_ (show false=B3o es e by
   unfold B3o
   rw[← HI.o,HL.o,decide_eq_false (Nat.lt_irrefl _),Bool.false_and])
  clear hin hjn
  go_wp2_with fail
  refine A0l ?_
  iterate 5
   refine D_ _ ?_
  iterate 8
   apply A2g
   case h =>
    intro yq zq wq hC hd
    simp at hd
    go_simp
    first | done | (simp[undef];done)
  iterate 3
   refine D_ _ ?_
  intro yq zq wa hC hd (hdis:Hid _)
  simp at hd
  go_simp
  clear hd hdis
  go_wp2
  go_ret2
  rw[← HI.o,← E.o]
  exact ⟨rfl,HBW.o.trans (hC.mono HBW.o.size)⟩

def C8y (a b:Int):TEdge:=⟨min a b,max a b,0,0⟩
end Go.Proofs.YtbhemnidcleaiaaGreat.X

namespace Go.XN
open Go.XB
def A1h (e:TEdge):List Value:=[.int .i64 e.a,.int .i64 e.b,.int .i64 e.left,.int .i64 e.right]
def A3s (a b:Int):TEdge:=⟨min a b,max a b,-1,-1⟩
def A3p (es:List TEdge) (i:Nat) (e:TEdge):List TEdge:=es.take i++e::es.drop i
def A4s (k:Int) (lt:Bool) (e:TEdge):TEdge:=if lt then { e with left:=k } else { e with right:=k }
def A0w (es:List TEdge) (k a b:Int):List TEdge :=
 let i:=B4z es (A3s a b)
 let es':=if B3o es (A3s a b) then es else A3p es i (A3s a b)
 es'.modify i (A4s k (decide (a<b)))
def C9f (es:List TEdge) (k:Int) (t:TTri):List TEdge:=A0w (A0w (A0w es k t.a t.b) k t.b t.c) k t.c t.a
def A4a (ts:List TTri):Nat→List TEdge
 | 0=>[]
 | k+1=>C9f (A4a ts k) k (ts.getD k ⟨0,0,0,0,0⟩)
def A2m (ts:List TTri):List TEdge:=A4a ts ts.length
def A3f (e:TEdge):Prop:=I64 e.a∧I64 e.b∧I64 e.left∧I64 e.right
end Go.XN
namespace Go.Proofs.YtbhemnidcleaiaaGreat.X
open Go.RowKit Go.XB Go.XN
attribute [local go_sem] O_ opAt P_ M_ Region.wanted yielded
attribute [local simp] P_ M_ MP.eq MP.agg MP.sl MP.slc A0e

theorem A3d (es:List TEdge):(es.flatMap A1h).length=es.length*4:=by
 induction es with
 | nil=>rfl
 | cons e es ih=>rw[List.flatMap_cons,List.length_append,ih];simp[A1h];omega
theorem A6w {es:List TEdge}:∀ v∈es.flatMap A1h,v.oneCell'=true:=by
 intro v hv
 obtain ⟨e,_,h⟩:=List.mem_flatMap.1 hv
 simp[A1h] at h
 rcases h with rfl | rfl | rfl | rfl<;>rfl
theorem A7c (es:List TEdge):∀ i,i≤es.length→(es.flatMap A1h).take (i*4)=(es.take i).flatMap A1h∧(es.flatMap A1h).drop (i*4)=(es.drop i).flatMap A1h:=by
 induction es with
 | nil=>intro i hi;simp at hi;subst hi;simp
 | cons e es ih =>
  intro i hi
  cases i with
  | zero=>simp
  | succ i =>
   obtain ⟨h1,h2⟩:=ih i (by simpa using hi)
   rw[show (i+1)*4=(A1h e).length+i*4 by simp[A1h];omega,List.flatMap_cons,List.take_succ_cons,List.drop_succ_cons,List.flatMap_cons,List.take_length_add_append,List.drop_length_add_append,h1,h2]
   exact ⟨rfl,rfl⟩
theorem A8z {es:List TEdge} {i:Nat} (hi:i≤es.length) (e:TEdge):(A3p es i e).flatMap A1h=(es.flatMap A1h).take (i*4)++A1h e++(es.flatMap A1h).drop (i*4):=by
 obtain ⟨h1,h2⟩:=A7c es i hi
 unfold A3p
 rw[List.flatMap_append,List.flatMap_cons,h1,h2,List.append_assoc]
theorem A3q (k:Int) (lt:Bool) (es:List TEdge):∀ i,i<es.length→(es.modify i (A4s k lt)).flatMap A1h=(es.flatMap A1h).set (i*4+(if lt then 2 else 3)) (.int .i64 k):=by
 induction es with
 | nil=>intro i hi;simp at hi
 | cons e es ih =>
  intro i hi
  cases i with
  | zero=>cases lt<;>simp[A4s,A1h]
  | succ i =>
   have h:=ih i (by simpa using hi)
   rw[List.modify_succ_cons,List.flatMap_cons,List.flatMap_cons,h]
   rw[List.set_append_right _ _ (by simp[A1h];omega)]
   congr 2
   simp[A1h];omega
theorem A6l {es:List TEdge} {i:Nat} (hi:i≤es.length) (e:TEdge):(A3p es i e).length=es.length+1:=by unfold A3p;simp;omega
theorem C4e {es:List TEdge} {i:Nat} {e x:TEdge} (h:x∈A3p es i e):x=e∨x∈es:=by
 unfold A3p at h
 rcases List.mem_append.1 h with h | h
 ·exact .inr (List.mem_of_mem_take h)
 rcases List.mem_cons.1 h with h | h
 ·exact .inl h
 exact .inr (List.mem_of_mem_drop h)
theorem B7l {a b:Int} (ha:I64 a) (hb:I64 b):A3f (A3s a b):=by
 unfold A3f A3s I64 at *
 refine ⟨?_,?_,?_,?_⟩<;>(dsimp only;omega)
theorem C7m {k:Int} {lt:Bool} {es:List TEdge} {i:Nat} (hk:I64 k) (h:∀ e∈es,A3f e):∀ e∈es.modify i (A4s k lt),A3f e:=by
 intro e he
 obtain ⟨j,hj⟩:=List.mem_iff_getElem?.1 he
 rw[List.getElem?_modify] at hj
 split at hj
 ·obtain ⟨x,hx,rfl⟩:=Option.map_eq_some_iff.1 hj
  obtain ⟨h1,h2,h3,h4⟩:=h x (List.mem_of_getElem? hx)
  unfold A4s
  split
  ·exact ⟨h1,h2,hk,h4⟩
  exact ⟨h1,h2,h3,hk⟩
 exact h e (List.mem_of_getElem? (by simpa using hj))
theorem B8p {es:List TEdge} {k a b:Int} (hk:I64 k) (ha:I64 a) (hb:I64 b) (h:∀ e∈es,A3f e):∀ e∈A0w es k a b,A3f e:=by
 unfold A0w
 apply C7m hk
 split
 ·exact h
 intro e he
 rcases C4e he with rfl | he
 ·exact B7l ha hb
 exact h e he
theorem A8k (es:List TEdge) (k a b:Int):(A0w es k a b).length≤es.length+1:=by
 unfold A0w
 simp only [List.length_modify]
 split
 ·omega
 rw[A6l (B7g _ _)];exact Nat.le_refl _
theorem A9n (ts:List TTri):∀ k,(A4a ts k).length≤3*k
 | 0=>Nat.le_refl _
 | k+1=>by
  have h:=A9n ts k
  unfold A4a C9f
  generalize ts.getD k _=t
  have h1:=A8k (A4a ts k) k t.a t.b
  have h2:=A8k (A0w (A4a ts k) k t.a t.b) k t.b t.c
  have h3:=A8k (A0w (A0w (A4a ts k) k t.a t.b) k t.b t.c) k t.c t.a
  omega
theorem row_set {w:World} {base g n cap size:Nat} {e:TypeId} {cells:List Value} (h:w.ownsRow base e size (.slice (some ⟨g,0,none⟩) n cap) n cells) {i:Nat} (hi:i<cells.length) (v:Value) :
  (w.setCell ⟨g,i,none⟩ v).ownsRow base e size (.slice (some ⟨g,0,none⟩) n cap) n (cells.set i v)∧w.grownBy (w.setCell ⟨g,i,none⟩ v) (some g)∧(∃ u,w.cell? ⟨g,i,none⟩=some u)∧w.frozen? ⟨g,i,none⟩=false:=by
 obtain ⟨h1,h2⟩:=h
 rcases h2 with ⟨h',_⟩ | ⟨g',cap',cur,hv,hb,hg,hnc,hcm,hcs,htk⟩
 ·cases h'
 cases hv
 have hlen:cells.length=n*size:=h1
 have hle:n*size≤cap*size:=Nat.mul_le_mul_right _ hnc
 have hic:i<cur.size:=by omega
 refine ⟨⟨by simpa using h1,.inr ⟨g,cap,cur.setIfInBounds i v,rfl,hb,?_,hnc,hcm,by simpa using hcs,?_⟩⟩,⟨rfl,rfl,rfl,by simp[World.setCell],fun k _ hk=>Below.heap_setCell w ⟨g,i,none⟩ v k (fun e=>hk (by rw[e]))⟩,⟨cur[i],by simp[World.cell?,hg,hic]⟩,by simp[World.frozen?,hg]⟩
 ·rw[setCell_eq_setRow w g i cur _ _ v hg];exact setRow_heap w g cur _ _ _ hg
 rw[Array.toList_setIfInBounds,List.take_set,htk]
theorem B0g {w:World} {base g n cap:Nat} {es:List TEdge} (h:w.ownsRow base 70 4 (.slice (some ⟨g,0,none⟩) n cap) n (es.flatMap A1h)) (hn:es.length=n) (ho:∀ e∈es,A3f e):∃ bs,Sl w (some ⟨g,0,none⟩) n cap es bs∧(∀ b∈bs,b=g):=by
 have hf:Filled w (es.flatMap A1h) es (List.replicate es.length []):=by
  refine ⟨by simp,by rw[A3d];exact Nat.le_refl _,fun k x fs hx hfs=>?_⟩
  have hk:=(List.getElem?_eq_some_iff.1 hx).1
  have hfs':fs=[]:=by rw[List.getElem?_replicate,if_pos hk] at hfs;exact (Option.some.inj hfs).symm
  subst hfs'
  obtain ⟨h1,h2,h3,h4⟩:=ho x (List.mem_of_getElem? hx)
  show Dat.at_ w (((es.flatMap A1h).drop (k*4)).take 4) x []
  rw[(A7c es k (by omega)).2,List.drop_eq_getElem_cons hk,List.flatMap_cons,List.take_append_of_le_length (by simp[A1h])]
  have:es[k]=x:=(List.getElem?_eq_some_iff.1 hx).2
  rw[this]
  exact TEdge.shut h1 h2 h3 h4
 obtain ⟨A,c,bs,hv,hs,hor⟩:=hf.sl (α:=TEdge) (base:=base) (n:=n) h hn
 cases hv
 refine ⟨bs,hs,fun b hb=>?_⟩
 rcases hor with ⟨_,rfl⟩ | ⟨g',hg',rfl,_⟩
 ·cases hb
 simp[Value.ownBlock] at hg'
 simp at hb
 all_goals omega
theorem A7e (base g n cap vb i:Nat) (cells xs:List Value) (w:World) (h:w.ownsRow base 70 4 (.slice (some ⟨g,0,none⟩) n cap) n cells) (hb:base≤w.heap.size) (hn:n≤65536) (hi:i≤n)
  (hv:w.heap[vb]?=some (.cells xs.toArray 70)) (hx:xs.length=4) (h1:∀ v∈xs,v.oneCell'=true) (h2:∀ v∈cells,v.oneCell'=true) (hvg:vb≠g) :
  Calls Tryz.prog 76 #[.slice (some ⟨g,0,none⟩) n cap,.int .i64 i,.slice (some ⟨vb,0,none⟩) 1 1] w (B4h w base g n i cells xs):=by
 rcases Nat.lt_or_ge i n with hin | hin
 ·rcases Nat.lt_or_ge cap (n+1) with hr | hr
  ·exact C2z base g n cap vb i cells xs w h hb hn hin hr hv hx h1 h2
  exact C1o base g n cap vb i cells xs w h hn hin hr hv hx h1 h2 hvg
 obtain rfl:i=n:=by omega
 exact C5i base g i cap vb cells xs w h hb hn hv hx h1
theorem A4c (v:Value) (t:TTri) (b:List Nat) (w:World) (hx:Agg w v t b) :
  Calls Tryz.prog 73 #[v] w (A0j w (.agg #[.int .i64 t.a,.int .i64 t.b,.int .i64 t.c])):=by
 obtain ⟨rfl,_,_,_,_,_,_⟩:=TTri.agg hx
 clear hx
 go_enter Tryz.func73,Tryz.ntmps73
 go_wp2
 refine bodyPost_ret (v:=.agg #[.int .i64 t.a,.int .i64 t.b,.int .i64 t.c]) (by simp[results,Tryz.results73,go_sem, *]) rfl ⟨rfl,Below.go⟩
end Go.Proofs.YtbhemnidcleaiaaGreat.X
namespace Go.Proofs.YtbhemnidcleaiaaGreat.X
open Go.RowKit Go.XB Go.XN
def A1q (xs ys:List Int) (t:TTri) (a b:Int):Bool:=decide (A5e xs ys a b t.a≤0)&&(decide (A5e xs ys a b t.b≤0)&&decide (A5e xs ys a b t.c≤0))
def A8a (xs ys:List Int) (s t:TTri):Nat→Bool
 | 0=>A1q xs ys t s.a s.b
 | 1=>A1q xs ys t s.b s.c
 | _=>A1q xs ys t s.c s.a
def B4m (xs ys:List Int) (s t:TTri):Bool:=(List.range 3).any (A8a xs ys s t)
def A8c (n:Nat) (t:TTri):Prop:=(0≤t.a∧t.a<n)∧(0≤t.b∧t.b<n)∧(0≤t.c∧t.c<n)
theorem A4x {xs ys:List Int} {s t:TTri} {k:Nat} (h:∀ j,j<k→A8a xs ys s t j=false) (h2:A8a xs ys s t k=false):∀ j,j<k+1→A8a xs ys s t j=false:=by
 intro j hj
 rcases Nat.lt_or_ge j k with h3 | h3
 ·exact h j h3
 obtain rfl:j=k:=by omega
 exact h2
theorem B8d {xs ys:List Int} {s t:TTri} {j:Nat} (hj:j<3) (h:A8a xs ys s t j=true):B4m xs ys s t=true:=List.any_eq_true.2 ⟨j,List.mem_range.2 hj,h⟩
theorem C8o {xs ys:List Int} {s t:TTri} (h:∀ j,j<3→A8a xs ys s t j=false):B4m xs ys s t=false:=by
 unfold B4m
 rw[List.any_eq_false]
 intro j hj
 rw[h j (List.mem_range.1 hj)];simp
end Go.Proofs.YtbhemnidcleaiaaGreat.X
namespace Go.Proofs.YtbhemnidcleaiaaGreat.X
open Go.RowKit Go.XB Go.XN
attribute [local go_sem] O_ opAt P_ M_ Region.wanted yielded
attribute [local simp] P_ M_ MP.eq MP.agg MP.sl A0e
attribute [local go_sem] ix0 ix1 ix2

theorem B2d (v:Value) (n:Nat) (xs ys:List Int) (vs vt:Value) (s t:TTri) (bs bt:List Nat) (w:World) (hp:Plc w v n xs ys) (hsx:A5g xs) (hsy:A5g ys) (hS:Agg w vs s bs) (hT:Agg w vt t bt) (is:A8c n s) (it:A8c n t) :
  Calls Tryz.prog 95 #[v,vs,vt] w (A0j w (.bool (B4m xs ys s t))):=by
 have HP:=A_ hp;have HSX:=A_ hsx;have HSY:=A_ hsy;have HIS:=A_ is;have HIT:=A_ it
 obtain ⟨A,cA,X,oX,cX,Y,oY,cY,bX,bY,rfl,hX,hY⟩:=hp
 have HSa:=A_ hS;have HTa:=A_ hT
 obtain ⟨rfl,_,_,_,_,_,_⟩:=TTri.agg hS
 obtain ⟨rfl,_,_,_,_,_,_⟩:=TTri.agg hT
 clear hS hT hX hY hsx hsy is it
 go_enter Tryz.func95,Tryz.ntmps95
 go_wp2_with fail
 refine A0m 6 (by kernel_rfl) (by kernel_rfl) (by kernel_rfl) (by kernel_rfl) (by kernel_rfl) ?_
 simp only [List.take_succ_cons,List.take_zero,List.drop_succ_cons,List.drop_zero]
 refine D_ _ ?_
 refine F_ (MP.eq (.agg #[.int .i64 s.a,.int .i64 s.b,.int .i64 s.c])) ?_ ?_
 ·intro yq zq wq hC hd
  obtain ⟨hcq,hfq⟩:=C_ hC
  simp at hd
  refine H_ ?_
  exact A0t (A4c _ s _ wq (HSa.o.below Below.go))
 refine D_ _ ?_
 refine F_ (MP.eq (.agg #[.int .i64 t.a,.int .i64 t.b,.int .i64 t.c])) ?_ ?_
 ·intro yq zq wq hC hd
  obtain ⟨hcq,hfq⟩:=C_ hC
  simp at hd
  refine H_ ?_
  exact A0t (A4c _ t _ wq (HTa.o.below Below.go))
 refine A1z #[.int .i64 0,.int .i64 0,.int .i64 0] 111 ?_ ?_
 ·intro yq zq wq hC hd
  refine ⟨by go_simp;done,?_⟩
  go_simp
 refine A1z #[.int .i64 0,.int .i64 0,.int .i64 0] 111 ?_ ?_
 ·intro yq zq wq hC hd
  refine ⟨by go_simp;done,?_⟩
  go_simp
 intro yq zq wa hC hd (hdis:Hid _)
 simp at hd
 have q4:=hd.2.2.2.2.1
 have q5:=hd.2.2.2.2.2
 obtain ⟨⟨ga,y4,z4,hga⟩,hr4⟩:=q4
 obtain ⟨⟨gb,y5,z5,hgb⟩,hr5⟩:=q5
 rw[z4] at hr4
 rw[z5] at hr5
 have hgr4:=hr4 ga (by simp)
 have hgr5:=hr5 gb (by simp)
 have hab:ga≠gb:=by intro e;have:=hdis.o 4 5 (by decide) (by decide) (by decide) ga (by rw[z4];simp);rw[z5] at this;simp[e] at this
 have hba:=hab.symm
 obtain ⟨a0,a0f⟩:=B_ hga (j:=0) rfl
 obtain ⟨a1,a1f⟩:=B_ hga (j:=1) rfl
 obtain ⟨a2,a2f⟩:=B_ hga (j:=2) rfl
 obtain ⟨b0,b0f⟩:=B_ hgb (j:=0) rfl
 obtain ⟨b1,b1f⟩:=B_ hgb (j:=1) rfl
 obtain ⟨b2,b2f⟩:=B_ hgb (j:=2) rfl
 have HBa:=A_ (show Below w.heap.size w wa from Below.go)
 obtain ⟨hc_wa,hf_wa⟩:=C_ hC
 have hz0_wa:w.heap.size<wa.heap.size:=N_ hC
 have hga1:w.heap.size≤ga:=by (try simp at hgr4);omega
 have hgb1:w.heap.size≤gb:=by (try simp at hgr5);omega
 have hga2:ga<wa.heap.size:=hgr4.2
 have hgb2:gb<wa.heap.size:=hgr5.2
 have n1:w.heap.size≠ga:=by (try simp at hgr4);omega
 have n2:w.heap.size≠gb:=by (try simp at hgr5);omega
 have n3:=n1.symm
 have n4:=n2.symm
 have HBs:=A_ (show Below w.heap.size w ((((((wa.setCell ⟨ga,0,none⟩ (.int .i64 s.a)).setCell ⟨ga,1,none⟩ (.int .i64 s.b)).setCell ⟨ga,2,none⟩ (.int .i64 s.c)).setCell ⟨gb,0,none⟩ (.int .i64 t.a)).setCell ⟨gb,1,none⟩ (.int .i64 t.b)).setCell ⟨gb,2,none⟩ (.int .i64 t.c)) from (((((HBa.o.setCell (p:=⟨ga,0,none⟩) hga1 _).setCell (p:=⟨ga,1,none⟩) hga1 _).setCell (p:=⟨ga,2,none⟩) hga1 _).setCell (p:=⟨gb,0,none⟩) hgb1 _).setCell (p:=⟨gb,1,none⟩) hgb1 _).setCell (p:=⟨gb,2,none⟩) hgb1 _)
 clear hdis hr4 hr5 hga hgb z4 z5 hgr4 hgr5
 go_wp2_with fail
 go_loopg [17] 3 (fun g s17 wr=>∃ k:Nat,k+g=3∧s17=.int .i64 k∧Hid (∀ j,j<k→A8a xs ys s t j=false)∧Below w.heap.size w wr∧(w.heap.size<wr.heap.size∧ga<wr.heap.size∧gb<wr.heap.size)∧(wr.cell? ⟨w.heap.size,0,none⟩=some (.slice A n cA)∧wr.cell? ⟨w.heap.size,1,none⟩=some (.slice (some ⟨X,oX,none⟩) n cX)∧wr.cell? ⟨w.heap.size,2,none⟩=some (.slice (some ⟨Y,oY,none⟩) n cY)∧wr.cell? ⟨ga,0,none⟩=some (.int .i64 s.a)∧wr.cell? ⟨ga,1,none⟩=some (.int .i64 s.b)∧wr.cell? ⟨ga,2,none⟩=some (.int .i64 s.c)∧wr.cell? ⟨gb,0,none⟩=some (.int .i64 t.a)∧wr.cell? ⟨gb,1,none⟩=some (.int .i64 t.b)∧wr.cell? ⟨gb,2,none⟩=some (.int .i64 t.c)))
 case atStart =>
  exact ⟨0,rfl,rfl,(show ∀ j,j<0→_ from fun j hj=>absurd hj (Nat.not_lt_zero j)),HBs.o,⟨by simp;omega,by simp;omega,by simp;omega⟩,⟨by go_simp,by go_simp,by go_simp,by go_simp,by go_simp,by go_simp,by go_simp,by go_simp,by go_simp⟩⟩
 case round =>
 clear hc_wa hf_wa a0 a1 a2 b0 b1 b2 a0f a1f a2f b0f b1f b2f
 obtain ⟨k,hk,rfl,NO,hbr,⟨hl1,hl2,hl3⟩,⟨c0,c1,c2,c3,c4,c5,c6,c7,c8⟩⟩:=hrel
 have HBr:=A_ hbr
 obtain rfl | rfl | rfl | rfl:k=0∨k=1∨k=2∨k=3:=by omega
 ·obtain rfl:gk=2+1:=by omega
  clear hk
  go_wp2_with fail
  obtain ⟨r0,hr0⟩:∃ r,A5e xs ys s.a s.b t.a=r:=⟨_,rfl⟩
  have C:=A3n _ n xs ys s.a s.b t.a wr (HP.o.below HBr.o) HSX.o HSY.o HIS.o.1 HIS.o.2.1 HIT.o.1
  rw[hr0] at C
  have R0:=A_ hr0
  clear hr0
  refine C.mono ?_
  clear C
  rintro _ w1 ⟨rfl,hb0⟩
  obtain ⟨hc_w1,hf_w1⟩:=C_ hb0
  have HB0:=A_ (Below.next HBr.o hb0)
  have hl00:w.heap.size<w1.heap.size:=by have:=hb0.size;omega
  have hl01:ga<w1.heap.size:=by have:=hb0.size;omega
  have hl02:gb<w1.heap.size:=by have:=hb0.size;omega
  by_cases h0:r0≤0
  ·go_wp2_with fail
   obtain ⟨r1,hr1⟩:∃ r,A5e xs ys s.a s.b t.b=r:=⟨_,rfl⟩
   have C:=A3n _ n xs ys s.a s.b t.b w1 (HP.o.below HB0.o) HSX.o HSY.o HIS.o.1 HIS.o.2.1 HIT.o.2.1
   rw[hr1] at C
   have R1:=A_ hr1
   clear hr1
   refine C.mono ?_
   clear C
   rintro _ w2 ⟨rfl,hb1⟩
   obtain ⟨hc_w2,hf_w2⟩:=C_ hb1
   have HB1:=A_ (Below.next HB0.o hb1)
   have hl10:w.heap.size<w2.heap.size:=by have:=hb1.size;omega
   have hl11:ga<w2.heap.size:=by have:=hb1.size;omega
   have hl12:gb<w2.heap.size:=by have:=hb1.size;omega
   by_cases h1:r1≤0
   ·go_wp2_with fail
    obtain ⟨r2,hr2⟩:∃ r,A5e xs ys s.a s.b t.c=r:=⟨_,rfl⟩
    have C:=A3n _ n xs ys s.a s.b t.c w2 (HP.o.below HB1.o) HSX.o HSY.o HIS.o.1 HIS.o.2.1 HIT.o.2.2
    rw[hr2] at C
    have R2:=A_ hr2
    clear hr2
    refine C.mono ?_
    clear C
    rintro _ w3 ⟨rfl,hb2⟩
    obtain ⟨hc_w3,hf_w3⟩:=C_ hb2
    have HB2:=A_ (Below.next HB1.o hb2)
    have hl20:w.heap.size<w3.heap.size:=by have:=hb2.size;omega
    have hl21:ga<w3.heap.size:=by have:=hb2.size;omega
    have hl22:gb<w3.heap.size:=by have:=hb2.size;omega
    by_cases h2:r2≤0
    ·have E:=A_ (show B4m xs ys s t=true from B8d (j:=0) (by decide) (by show A1q xs ys t s.a s.b=true;unfold A1q;rw[R0.o,R1.o,R2.o];simp[h0,h1,h2]))
     go_wp2
     go_ret
     exact ⟨by rw[E.o];rfl,HB2.o⟩
    have NX:=A_ (show ∀ j,j<0+1→A8a xs ys s t j=false from A4x NO.o (by show A1q xs ys t s.a s.b=false;unfold A1q;rw[R0.o,R1.o,R2.o];simp[h0,h1,h2]))
    go_wp2_with fail
    go_roundg 2
    case measure=>omega
    case rel=>exact ⟨0+1,rfl,by go_num,NX.o,HB2.o,⟨hl20,hl21,hl22⟩,⟨by go_simp,by go_simp,by go_simp,by go_simp,by go_simp,by go_simp,by go_simp,by go_simp,by go_simp⟩⟩
   have NX:=A_ (show ∀ j,j<0+1→A8a xs ys s t j=false from A4x NO.o (by show A1q xs ys t s.a s.b=false;unfold A1q;rw[R0.o,R1.o];simp[h0,h1]))
   go_wp2_with fail
   go_roundg 2
   case measure=>omega
   case rel=>exact ⟨0+1,rfl,by go_num,NX.o,HB1.o,⟨hl10,hl11,hl12⟩,⟨by go_simp,by go_simp,by go_simp,by go_simp,by go_simp,by go_simp,by go_simp,by go_simp,by go_simp⟩⟩
  have NX:=A_ (show ∀ j,j<0+1→A8a xs ys s t j=false from A4x NO.o (by show A1q xs ys t s.a s.b=false;unfold A1q;rw[R0.o];simp[h0]))
  go_wp2_with fail
  go_roundg 2
  case measure=>omega
  case rel=>exact ⟨0+1,rfl,by go_num,NX.o,HB0.o,⟨hl00,hl01,hl02⟩,⟨by go_simp,by go_simp,by go_simp,by go_simp,by go_simp,by go_simp,by go_simp,by go_simp,by go_simp⟩⟩
 ·obtain rfl:gk=1+1:=by omega
  clear hk
  go_wp2_with fail
  obtain ⟨r0,hr0⟩:∃ r,A5e xs ys s.b s.c t.a=r:=⟨_,rfl⟩
  have C:=A3n _ n xs ys s.b s.c t.a wr (HP.o.below HBr.o) HSX.o HSY.o HIS.o.2.1 HIS.o.2.2 HIT.o.1
  rw[hr0] at C
  have R0:=A_ hr0
  clear hr0
  refine C.mono ?_
  clear C
  rintro _ w1 ⟨rfl,hb0⟩
  obtain ⟨hc_w1,hf_w1⟩:=C_ hb0
  have HB0:=A_ (Below.next HBr.o hb0)
  have hl00:w.heap.size<w1.heap.size:=by have:=hb0.size;omega
  have hl01:ga<w1.heap.size:=by have:=hb0.size;omega
  have hl02:gb<w1.heap.size:=by have:=hb0.size;omega
  by_cases h0:r0≤0
  ·go_wp2_with fail
   obtain ⟨r1,hr1⟩:∃ r,A5e xs ys s.b s.c t.b=r:=⟨_,rfl⟩
   have C:=A3n _ n xs ys s.b s.c t.b w1 (HP.o.below HB0.o) HSX.o HSY.o HIS.o.2.1 HIS.o.2.2 HIT.o.2.1
   rw[hr1] at C
   have R1:=A_ hr1
   clear hr1
   refine C.mono ?_
   clear C
   rintro _ w2 ⟨rfl,hb1⟩
   obtain ⟨hc_w2,hf_w2⟩:=C_ hb1
   have HB1:=A_ (Below.next HB0.o hb1)
   have hl10:w.heap.size<w2.heap.size:=by have:=hb1.size;omega
   have hl11:ga<w2.heap.size:=by have:=hb1.size;omega
   have hl12:gb<w2.heap.size:=by have:=hb1.size;omega
   by_cases h1:r1≤0
   ·go_wp2_with fail
    obtain ⟨r2,hr2⟩:∃ r,A5e xs ys s.b s.c t.c=r:=⟨_,rfl⟩
    have C:=A3n _ n xs ys s.b s.c t.c w2 (HP.o.below HB1.o) HSX.o HSY.o HIS.o.2.1 HIS.o.2.2 HIT.o.2.2
    rw[hr2] at C
    have R2:=A_ hr2
    clear hr2
    refine C.mono ?_
    clear C
    rintro _ w3 ⟨rfl,hb2⟩
    obtain ⟨hc_w3,hf_w3⟩:=C_ hb2
    have HB2:=A_ (Below.next HB1.o hb2)
    have hl20:w.heap.size<w3.heap.size:=by have:=hb2.size;omega
    have hl21:ga<w3.heap.size:=by have:=hb2.size;omega
    have hl22:gb<w3.heap.size:=by have:=hb2.size;omega
    by_cases h2:r2≤0
    ·have E:=A_ (show B4m xs ys s t=true from B8d (j:=1) (by decide) (by show A1q xs ys t s.b s.c=true;unfold A1q;rw[R0.o,R1.o,R2.o];simp[h0,h1,h2]))
     go_wp2
     go_ret
     exact ⟨by rw[E.o];rfl,HB2.o⟩
    have NX:=A_ (show ∀ j,j<1+1→A8a xs ys s t j=false from A4x NO.o (by show A1q xs ys t s.b s.c=false;unfold A1q;rw[R0.o,R1.o,R2.o];simp[h0,h1,h2]))
    go_wp2_with fail
    go_roundg 1
    case measure=>omega
    case rel=>exact ⟨1+1,rfl,by go_num,NX.o,HB2.o,⟨hl20,hl21,hl22⟩,⟨by go_simp,by go_simp,by go_simp,by go_simp,by go_simp,by go_simp,by go_simp,by go_simp,by go_simp⟩⟩
   have NX:=A_ (show ∀ j,j<1+1→A8a xs ys s t j=false from A4x NO.o (by show A1q xs ys t s.b s.c=false;unfold A1q;rw[R0.o,R1.o];simp[h0,h1]))
   go_wp2_with fail
   go_roundg 1
   case measure=>omega
   case rel=>exact ⟨1+1,rfl,by go_num,NX.o,HB1.o,⟨hl10,hl11,hl12⟩,⟨by go_simp,by go_simp,by go_simp,by go_simp,by go_simp,by go_simp,by go_simp,by go_simp,by go_simp⟩⟩
  have NX:=A_ (show ∀ j,j<1+1→A8a xs ys s t j=false from A4x NO.o (by show A1q xs ys t s.b s.c=false;unfold A1q;rw[R0.o];simp[h0]))
  go_wp2_with fail
  go_roundg 1
  case measure=>omega
  case rel=>exact ⟨1+1,rfl,by go_num,NX.o,HB0.o,⟨hl00,hl01,hl02⟩,⟨by go_simp,by go_simp,by go_simp,by go_simp,by go_simp,by go_simp,by go_simp,by go_simp,by go_simp⟩⟩
 ·obtain rfl:gk=0+1:=by omega
  clear hk
  go_wp2_with fail
  obtain ⟨r0,hr0⟩:∃ r,A5e xs ys s.c s.a t.a=r:=⟨_,rfl⟩
  have C:=A3n _ n xs ys s.c s.a t.a wr (HP.o.below HBr.o) HSX.o HSY.o HIS.o.2.2 HIS.o.1 HIT.o.1
  rw[hr0] at C
  have R0:=A_ hr0
  clear hr0
  refine C.mono ?_
  clear C
  rintro _ w1 ⟨rfl,hb0⟩
  obtain ⟨hc_w1,hf_w1⟩:=C_ hb0
  have HB0:=A_ (Below.next HBr.o hb0)
  have hl00:w.heap.size<w1.heap.size:=by have:=hb0.size;omega
  have hl01:ga<w1.heap.size:=by have:=hb0.size;omega
  have hl02:gb<w1.heap.size:=by have:=hb0.size;omega
  by_cases h0:r0≤0
  ·go_wp2_with fail
   obtain ⟨r1,hr1⟩:∃ r,A5e xs ys s.c s.a t.b=r:=⟨_,rfl⟩
   have C:=A3n _ n xs ys s.c s.a t.b w1 (HP.o.below HB0.o) HSX.o HSY.o HIS.o.2.2 HIS.o.1 HIT.o.2.1
   rw[hr1] at C
   have R1:=A_ hr1
   clear hr1
   refine C.mono ?_
   clear C
   rintro _ w2 ⟨rfl,hb1⟩
   obtain ⟨hc_w2,hf_w2⟩:=C_ hb1
   have HB1:=A_ (Below.next HB0.o hb1)
   have hl10:w.heap.size<w2.heap.size:=by have:=hb1.size;omega
   have hl11:ga<w2.heap.size:=by have:=hb1.size;omega
   have hl12:gb<w2.heap.size:=by have:=hb1.size;omega
   by_cases h1:r1≤0
   ·go_wp2_with fail
    obtain ⟨r2,hr2⟩:∃ r,A5e xs ys s.c s.a t.c=r:=⟨_,rfl⟩
    have C:=A3n _ n xs ys s.c s.a t.c w2 (HP.o.below HB1.o) HSX.o HSY.o HIS.o.2.2 HIS.o.1 HIT.o.2.2
    rw[hr2] at C
    have R2:=A_ hr2
    clear hr2
    refine C.mono ?_
    clear C
    rintro _ w3 ⟨rfl,hb2⟩
    obtain ⟨hc_w3,hf_w3⟩:=C_ hb2
    have HB2:=A_ (Below.next HB1.o hb2)
    have hl20:w.heap.size<w3.heap.size:=by have:=hb2.size;omega
    have hl21:ga<w3.heap.size:=by have:=hb2.size;omega
    have hl22:gb<w3.heap.size:=by have:=hb2.size;omega
    by_cases h2:r2≤0
    ·have E:=A_ (show B4m xs ys s t=true from B8d (j:=2) (by decide) (by show A1q xs ys t s.c s.a=true;unfold A1q;rw[R0.o,R1.o,R2.o];simp[h0,h1,h2]))
     go_wp2
     go_ret
     exact ⟨by rw[E.o];rfl,HB2.o⟩
    have NX:=A_ (show ∀ j,j<2+1→A8a xs ys s t j=false from A4x NO.o (by show A1q xs ys t s.c s.a=false;unfold A1q;rw[R0.o,R1.o,R2.o];simp[h0,h1,h2]))
    go_wp2_with fail
    go_roundg 0
    case measure=>omega
    case rel=>exact ⟨2+1,rfl,by go_num,NX.o,HB2.o,⟨hl20,hl21,hl22⟩,⟨by go_simp,by go_simp,by go_simp,by go_simp,by go_simp,by go_simp,by go_simp,by go_simp,by go_simp⟩⟩
   have NX:=A_ (show ∀ j,j<2+1→A8a xs ys s t j=false from A4x NO.o (by show A1q xs ys t s.c s.a=false;unfold A1q;rw[R0.o,R1.o];simp[h0,h1]))
   go_wp2_with fail
   go_roundg 0
   case measure=>omega
   case rel=>exact ⟨2+1,rfl,by go_num,NX.o,HB1.o,⟨hl10,hl11,hl12⟩,⟨by go_simp,by go_simp,by go_simp,by go_simp,by go_simp,by go_simp,by go_simp,by go_simp,by go_simp⟩⟩
  have NX:=A_ (show ∀ j,j<2+1→A8a xs ys s t j=false from A4x NO.o (by show A1q xs ys t s.c s.a=false;unfold A1q;rw[R0.o];simp[h0]))
  go_wp2_with fail
  go_roundg 0
  case measure=>omega
  case rel=>exact ⟨2+1,rfl,by go_num,NX.o,HB0.o,⟨hl00,hl01,hl02⟩,⟨by go_simp,by go_simp,by go_simp,by go_simp,by go_simp,by go_simp,by go_simp,by go_simp,by go_simp⟩⟩
 have E:=A_ (show B4m xs ys s t=false from C8o NO.o)
 clear hk
 go_wp2
 go_ret
 exact ⟨by rw[E.o];rfl,HBr.o⟩

theorem B6s (v:Value) (n:Nat) (xs ys:List Int) (vt:Value) (t:TTri) (bt:List Nat) (w:World) (hp:Plc w v n xs ys) (hsx:A5g xs) (hsy:A5g ys) (hn:n≤40) (hT:Agg w vt t bt) (it:A8c n t)
  (hr:inB 0 t.region 2=true) (hlv:inB 0 t.level 60=true) (hpos:0<A5e xs ys t.a t.b t.c) :
  Calls Tryz.prog 94 #[v,vt] w (A0j w (.bool true)):=by
 have HP:=A_ hp;have HSX:=A_ hsx;have HSY:=A_ hsy;have HIT:=A_ it
 have IN0:=A_ (show inB 0 t.a ((n:Int) - 1)=true by unfold inB;have:=it.1;simp;omega)
 have IN1:=A_ (show inB 0 t.b ((n:Int) - 1)=true by unfold inB;have:=it.2.1;simp;omega)
 have IN2:=A_ (show inB 0 t.c ((n:Int) - 1)=true by unfold inB;have:=it.2.2;simp;omega)
 have HR:=A_ hr;have HLV:=A_ hlv
 obtain ⟨r,hrr⟩:∃ r,A5e xs ys t.a t.b t.c=r:=⟨_,rfl⟩
 rw[hrr] at hpos
 have R:=A_ hrr
 have hni:(n:Int)≤40:=by omega
 obtain ⟨A,cA,X,oX,cX,Y,oY,cY,bX,bY,rfl,hX,hY⟩:=hp
 have HTa:=A_ hT
 obtain ⟨rfl,_,_,_,_,_,_⟩:=TTri.agg hT
 clear hT hX hY hsx hsy it hr hlv hrr
 go_enter Tryz.func94,Tryz.ntmps94
 go_wp2_with fail
 refine (A4c _ t _ _ (HTa.o.below Below.go)).mono ?_
 rintro _ w1 ⟨rfl,hb1⟩
 have HB1:=A_ (show Below w.heap.size w w1 from Below.go)
 obtain ⟨hc_w1,hf_w1⟩:=C_ hb1
 have hz0_w1:w.heap.size<w1.heap.size:=N_ hb1
 have hz1_w1:w.heap.size+1<w1.heap.size:=N_ hb1
 go_wp2_with fail
 go_loopg [9] 3 (fun g s wr=>∃ k:Nat,k+g=3∧s=.int .i64 k∧Below w1.heap.size w1 wr)
 case atStart=>exact ⟨0,rfl,rfl,Below.refl _ _⟩
 case round =>
  obtain ⟨k,hk,rfl,hb⟩:=hrel
  have HB:=A_ hb
  obtain ⟨hc_wr,hf_wr⟩:=C_ hb
  have hz0_wr:w.heap.size<wr.heap.size:=by have:=hb.size;omega
  have hz1_wr:w.heap.size+1<wr.heap.size:=by have:=hb.size;omega
  obtain rfl | rfl | rfl | rfl:k=0∨k=1∨k=2∨k=3:=by omega
  ·obtain rfl:gk=2+1:=by omega
   clear hk
   go_wp2_with fail
   have C:=A0z t.a 0 ((n:Int) - 1) wr
   rw[IN0.o] at C
   refine C.mono ?_
   clear C
   rintro _ w2 ⟨rfl,hb2⟩
   go_wp2_with fail
   go_roundg 2
   case measure=>omega
   case rel=>exact ⟨0+1,rfl,by go_num,Below.next HB.o hb2⟩
  ·obtain rfl:gk=1+1:=by omega
   clear hk
   go_wp2_with fail
   have C:=A0z t.b 0 ((n:Int) - 1) wr
   rw[IN1.o] at C
   refine C.mono ?_
   clear C
   rintro _ w2 ⟨rfl,hb2⟩
   go_wp2_with fail
   go_roundg 1
   case measure=>omega
   case rel=>exact ⟨1+1,rfl,by go_num,Below.next HB.o hb2⟩
  ·obtain rfl:gk=0+1:=by omega
   clear hk
   go_wp2_with fail
   have C:=A0z t.c 0 ((n:Int) - 1) wr
   rw[IN2.o] at C
   refine C.mono ?_
   clear C
   rintro _ w2 ⟨rfl,hb2⟩
   go_wp2_with fail
   go_roundg 0
   case measure=>omega
   case rel=>exact ⟨2+1,rfl,by go_num,Below.next HB.o hb2⟩
  clear hk
  go_wp2_with fail
  have C:=A0z t.region 0 2 wr
  rw[HR.o] at C
  refine C.mono ?_
  clear C
  rintro _ w2 ⟨rfl,hb2⟩
  obtain ⟨hc_w2,hf_w2⟩:=C_ hb2
  have hz0_w2:w.heap.size<w2.heap.size:=by have:=hb2.size;omega
  have hz1_w2:w.heap.size+1<w2.heap.size:=by have:=hb2.size;omega
  go_wp2_with fail
  have C:=A0z t.level 0 60 w2
  rw[HLV.o] at C
  refine C.mono ?_
  clear C
  rintro _ w3 ⟨rfl,hb3⟩
  obtain ⟨hc_w3,hf_w3⟩:=C_ hb3
  have hz0_w3:w.heap.size<w3.heap.size:=by have:=hb3.size;omega
  have hz1_w3:w.heap.size+1<w3.heap.size:=by have:=hb3.size;omega
  have HB3:=A_ (Below.next (Below.next (Below.next HB1.o HB.o) hb2) hb3)
  go_wp2_with fail
  have C:=A3n _ n xs ys t.a t.b t.c w3 (HP.o.below HB3.o) HSX.o HSY.o HIT.o.1 HIT.o.2.1 HIT.o.2.2
  rw[R.o] at C
  refine C.mono ?_
  clear C
  rintro _ w4 ⟨rfl,hb4⟩
  go_wp2
  go_ret
  exact ⟨rfl,Below.next HB3.o hb4⟩
end Go.Proofs.YtbhemnidcleaiaaGreat.X
namespace Go.Proofs.YtbhemnidcleaiaaGreat.X
open Go.RowKit Go.XB Go.XN
def C7c (xs ys:List Int) (a b:Int) (n:Nat):Prop:=∀ c:Nat,c<n→(c:Int)=a∨(c:Int)=b∨A5d xs ys a b c=false
def D5v (xs ys:List Int) (n:Nat) (t:TTri):Prop:=C7c xs ys t.a t.b n∧C7c xs ys t.b t.c n∧C7c xs ys t.c t.a n
end Go.Proofs.YtbhemnidcleaiaaGreat.X
namespace Go.Proofs.YtbhemnidcleaiaaGreat.X
open Go.RowKit Go.XB Go.XN
attribute [local go_sem] O_ opAt P_ M_ Region.wanted yielded
attribute [local simp] P_ M_ MP.eq MP.agg MP.sl A0e
attribute [local go_sem] ix0 ix1 ix2

theorem B9c (v:Value) (n:Nat) (xs ys:List Int) (B:Option Addr) (m d:Nat) (ts:List TTri) (ds:List Nat) (w:World) (hp:Plc w v n xs ys) (hsx:A5g xs) (hsy:A5g ys) (hn:n≤40) (hx:Sl w B m d ts ds) (hm:m≤48)
  (hin:∀ t∈ts,A8c n t) (hno:∀ t∈ts,D5v xs ys n t) :
  Calls Tryz.prog 97 #[v,.slice B m d] w (A0j w (.bool false)):=by
 have HP:=A_ hp;have HSX:=A_ hsx;have HSY:=A_ hsy;have HIN:=A_ hin;have HNOA:=A_ hno
 obtain ⟨A,cA,X,oX,cX,Y,oY,cY,bX,bY,rfl,hX,hY⟩:=hp
 have HX:=A_ hx
 clear hX hY hsx hsy hin hno hx
 go_enter Tryz.func97,Tryz.ntmps97
 go_wp2_with fail
 go_loopg [14] m (fun g s wr=>∃ k:Nat,k+g=m∧s=.int .i64 k∧Below w.heap.size w wr∧w.heap.size<wr.heap.size∧(wr.cell? ⟨w.heap.size,0,none⟩=some (.slice A n cA)∧wr.cell? ⟨w.heap.size,1,none⟩=some (.slice (some ⟨X,oX,none⟩) n cX)∧wr.cell? ⟨w.heap.size,2,none⟩=some (.slice (some ⟨Y,oY,none⟩) n cY)))
 case atStart=>exact ⟨0,by omega,rfl,Below.box _,by simp,⟨by go_simp,by go_simp,by go_simp⟩⟩
 case round =>
  obtain ⟨k,hk,rfl,hb,hzr,⟨k0,k1,k2⟩⟩:=hrel
  have HBW:=A_ hb
  rcases Nat.lt_or_ge k m with hkn | hkn
  ·have hki:(k:Int)<m:=by omega
   have hk48:(k:Int)≤48:=by omega
   obtain ⟨be,of,t,rfl,hbl,hx1,e0,e1,e2,e3,e4,hag⟩:=TTri.elemA (HX.o.below HBW.o) hkn
   have HAG:=A_ hag
   have HIT:=A_ (HIN.o t (List.mem_of_getElem? hx1))
   have HNO:=A_ (HNOA.o t (List.mem_of_getElem? hx1))
   obtain ⟨g,rfl⟩:∃ g,gk=g+1:=⟨gk - 1,by omega⟩
   have hk':=A_ (show k+1+g=m by omega)
   have HB:=A_ hb
   clear hk hkn hx1 hag hb
   go_wp2_with fail
   refine (A4c _ t _ (wr.alloc (.cells #[.int .i64 t.a,.int .i64 t.b,.int .i64 t.c,.int .i64 t.region,.int .i64 t.level] 93)) (HAG.o.below (Below.box _))).mono ?_
   rintro _ w1 ⟨rfl,hb1⟩
   obtain ⟨hc_w1,hf_w1⟩:=C_ hb1
   have hz1:w.heap.size<w1.heap.size:=by have:=hb1.size;simp at this;omega
   have HB1:=A_ (show Below w.heap.size w w1 from Below.next HBW.o (Below.trans (Below.box _) (hb1.mono (by simp))))
   go_wp2_with fail
   go_loopg [21] 3 (fun g s wr=>∃ i:Nat,i+g=3∧s=.int .i64 i∧Below w.heap.size w wr∧w1.heap.size<wr.heap.size∧(wr.cell? ⟨w.heap.size,0,none⟩=some (.slice A n cA)∧wr.cell? ⟨w.heap.size,1,none⟩=some (.slice (some ⟨X,oX,none⟩) n cX)∧wr.cell? ⟨w.heap.size,2,none⟩=some (.slice (some ⟨Y,oY,none⟩) n cY)∧wr.cell? ⟨w1.heap.size,0,none⟩=some (.int .i64 t.a)∧wr.cell? ⟨w1.heap.size,1,none⟩=some (.int .i64 t.b)∧wr.cell? ⟨w1.heap.size,2,none⟩=some (.int .i64 t.c)))
   case atStart=>exact ⟨0,rfl,rfl,HB1.o.alloc (by omega) _,by simp,⟨by go_simp,by go_simp,by go_simp,by go_simp,by go_simp,by go_simp⟩⟩
   case round =>
   clear hc_w1 hf_w1 k0 k1 k2
   obtain ⟨i,hi,rfl,hb2,hs2,⟨c0,c1,c2,c3,c4,c5⟩⟩:=hrel
   have HB2:=A_ hb2
   clear hb2
   obtain rfl | rfl | rfl | rfl:i=0∨i=1∨i=2∨i=3:=by omega
   ·obtain rfl:gk=2+1:=by omega
    clear hi
    go_wp2_with fail
    go_loopg [33] n (fun g s wr=>∃ c:Nat,c+g=n∧s=.int .i64 c∧Below w.heap.size w wr∧w1.heap.size<wr.heap.size∧(wr.cell? ⟨w.heap.size,0,none⟩=some (.slice A n cA)∧wr.cell? ⟨w.heap.size,1,none⟩=some (.slice (some ⟨X,oX,none⟩) n cX)∧wr.cell? ⟨w.heap.size,2,none⟩=some (.slice (some ⟨Y,oY,none⟩) n cY)∧wr.cell? ⟨w1.heap.size,0,none⟩=some (.int .i64 t.a)∧wr.cell? ⟨w1.heap.size,1,none⟩=some (.int .i64 t.b)∧wr.cell? ⟨w1.heap.size,2,none⟩=some (.int .i64 t.c)))
    case atStart=>exact ⟨0,by omega,rfl,HB2.o,by omega,⟨c0,c1,c2,c3,c4,c5⟩⟩
    case round =>
     clear c0 c1 c2 c3 c4 c5 hs2
     obtain ⟨c,hc,rfl,hb3,hs3,⟨c0,c1,c2,c3,c4,c5⟩⟩:=hrel
     have HB3:=A_ hb3
     have hl0:w.heap.size<wr.heap.size:=by omega
     rcases Nat.lt_or_ge c n with hcn | hcn
     ·have hci:(c:Int)<n:=by omega
      have hc40:(c:Int)≤40:=by omega
      have CL:=A_ (HNO.o.1 c hcn)
      have CI:=A_ (show 0≤(c:Int)∧(c:Int)<n from ⟨by omega,hci⟩)
      obtain ⟨g,rfl⟩:∃ g,gk=g+1:=⟨gk - 1,by omega⟩
      have hc':=A_ (show c+1+g=n by omega)
      clear hc hcn
      by_cases ha:(c:Int)=t.a
      ·have hab:((c:Int)==t.a)=true:=by simp[ha]
       have HA:=A_ ha
       clear ha
       go_wp2_with fail
       go_roundg g
       case measure=>omega
       case rel=>exact ⟨c+1,hc'.o,by go_num,HB3.o,hs3,⟨c0,c1,c2,c3,c4,c5⟩⟩
      by_cases hb:(c:Int)=t.b
      ·have hab:((c:Int)==t.a)=false:=by simp[ha]
       have hbb:((c:Int)==t.b)=true:=by simp[hb]
       have HBq:=A_ hb
       clear hb
       go_wp2_with fail
       go_roundg g
       case measure=>omega
       case rel=>exact ⟨c+1,hc'.o,by go_num,HB3.o,hs3,⟨c0,c1,c2,c3,c4,c5⟩⟩
      have hab:((c:Int)==t.a)=false:=by simp[ha]
      have hbb:((c:Int)==t.b)=false:=by simp[hb]
      have F:=A_ (show A5d xs ys t.a t.b c=false by
       rcases CL.o with h | h | h
       ·exact absurd h ha
       ·exact absurd h hb
       exact h)
      go_wp2_with fail
      have C:=A9w _ n xs ys t.a t.b c wr (HP.o.below HB3.o) HSX.o HSY.o HIT.o.1 HIT.o.2.1 CI.o
      rw[F.o] at C
      refine C.mono ?_
      clear C
      rintro _ w4 ⟨rfl,hb4⟩
      obtain ⟨hc_w4,hf_w4⟩:=C_ hb4
      have hsz4:=hb4.size
      go_wp2_with fail
      go_roundg g
      case measure=>omega
      case rel=>exact ⟨c+1,hc'.o,by go_num,Below.next HB3.o hb4,by omega,⟨by go_simp,by go_simp,by go_simp,by go_simp,by go_simp,by go_simp⟩⟩
     obtain rfl:c=n:=by omega
     have hci:¬ ((c:Int)<c):=by omega
     clear hc hcn
     go_wp2_with fail
     go_roundg 2
     case measure=>omega
     case rel=>exact ⟨0+1,rfl,by go_num,HB3.o,by omega,⟨c0,c1,c2,c3,c4,c5⟩⟩
   ·obtain rfl:gk=1+1:=by omega
    clear hi
    go_wp2_with fail
    go_loopg [33] n (fun g s wr=>∃ c:Nat,c+g=n∧s=.int .i64 c∧Below w.heap.size w wr∧w1.heap.size<wr.heap.size∧(wr.cell? ⟨w.heap.size,0,none⟩=some (.slice A n cA)∧wr.cell? ⟨w.heap.size,1,none⟩=some (.slice (some ⟨X,oX,none⟩) n cX)∧wr.cell? ⟨w.heap.size,2,none⟩=some (.slice (some ⟨Y,oY,none⟩) n cY)∧wr.cell? ⟨w1.heap.size,0,none⟩=some (.int .i64 t.a)∧wr.cell? ⟨w1.heap.size,1,none⟩=some (.int .i64 t.b)∧wr.cell? ⟨w1.heap.size,2,none⟩=some (.int .i64 t.c)))
    case atStart=>exact ⟨0,by omega,rfl,HB2.o,by omega,⟨c0,c1,c2,c3,c4,c5⟩⟩
    case round =>
     clear c0 c1 c2 c3 c4 c5 hs2
     obtain ⟨c,hc,rfl,hb3,hs3,⟨c0,c1,c2,c3,c4,c5⟩⟩:=hrel
     have HB3:=A_ hb3
     have hl0:w.heap.size<wr.heap.size:=by omega
     rcases Nat.lt_or_ge c n with hcn | hcn
     ·have hci:(c:Int)<n:=by omega
      have hc40:(c:Int)≤40:=by omega
      have CL:=A_ (HNO.o.2.1 c hcn)
      have CI:=A_ (show 0≤(c:Int)∧(c:Int)<n from ⟨by omega,hci⟩)
      obtain ⟨g,rfl⟩:∃ g,gk=g+1:=⟨gk - 1,by omega⟩
      have hc':=A_ (show c+1+g=n by omega)
      clear hc hcn
      by_cases ha:(c:Int)=t.b
      ·have hab:((c:Int)==t.b)=true:=by simp[ha]
       have HA:=A_ ha
       clear ha
       go_wp2_with fail
       go_roundg g
       case measure=>omega
       case rel=>exact ⟨c+1,hc'.o,by go_num,HB3.o,hs3,⟨c0,c1,c2,c3,c4,c5⟩⟩
      by_cases hb:(c:Int)=t.c
      ·have hab:((c:Int)==t.b)=false:=by simp[ha]
       have hbb:((c:Int)==t.c)=true:=by simp[hb]
       have HBq:=A_ hb
       clear hb
       go_wp2_with fail
       go_roundg g
       case measure=>omega
       case rel=>exact ⟨c+1,hc'.o,by go_num,HB3.o,hs3,⟨c0,c1,c2,c3,c4,c5⟩⟩
      have hab:((c:Int)==t.b)=false:=by simp[ha]
      have hbb:((c:Int)==t.c)=false:=by simp[hb]
      have F:=A_ (show A5d xs ys t.b t.c c=false by
       rcases CL.o with h | h | h
       ·exact absurd h ha
       ·exact absurd h hb
       exact h)
      go_wp2_with fail
      have C:=A9w _ n xs ys t.b t.c c wr (HP.o.below HB3.o) HSX.o HSY.o HIT.o.2.1 HIT.o.2.2 CI.o
      rw[F.o] at C
      refine C.mono ?_
      clear C
      rintro _ w4 ⟨rfl,hb4⟩
      obtain ⟨hc_w4,hf_w4⟩:=C_ hb4
      have hsz4:=hb4.size
      go_wp2_with fail
      go_roundg g
      case measure=>omega
      case rel=>exact ⟨c+1,hc'.o,by go_num,Below.next HB3.o hb4,by omega,⟨by go_simp,by go_simp,by go_simp,by go_simp,by go_simp,by go_simp⟩⟩
     obtain rfl:c=n:=by omega
     have hci:¬ ((c:Int)<c):=by omega
     clear hc hcn
     go_wp2_with fail
     go_roundg 1
     case measure=>omega
     case rel=>exact ⟨1+1,rfl,by go_num,HB3.o,by omega,⟨c0,c1,c2,c3,c4,c5⟩⟩
   ·obtain rfl:gk=0+1:=by omega
    clear hi
    go_wp2_with fail
    go_loopg [33] n (fun g s wr=>∃ c:Nat,c+g=n∧s=.int .i64 c∧Below w.heap.size w wr∧w1.heap.size<wr.heap.size∧(wr.cell? ⟨w.heap.size,0,none⟩=some (.slice A n cA)∧wr.cell? ⟨w.heap.size,1,none⟩=some (.slice (some ⟨X,oX,none⟩) n cX)∧wr.cell? ⟨w.heap.size,2,none⟩=some (.slice (some ⟨Y,oY,none⟩) n cY)∧wr.cell? ⟨w1.heap.size,0,none⟩=some (.int .i64 t.a)∧wr.cell? ⟨w1.heap.size,1,none⟩=some (.int .i64 t.b)∧wr.cell? ⟨w1.heap.size,2,none⟩=some (.int .i64 t.c)))
    case atStart=>exact ⟨0,by omega,rfl,HB2.o,by omega,⟨c0,c1,c2,c3,c4,c5⟩⟩
    case round =>
     clear c0 c1 c2 c3 c4 c5 hs2
     obtain ⟨c,hc,rfl,hb3,hs3,⟨c0,c1,c2,c3,c4,c5⟩⟩:=hrel
     have HB3:=A_ hb3
     have hl0:w.heap.size<wr.heap.size:=by omega
     rcases Nat.lt_or_ge c n with hcn | hcn
     ·have hci:(c:Int)<n:=by omega
      have hc40:(c:Int)≤40:=by omega
      have CL:=A_ (HNO.o.2.2 c hcn)
      have CI:=A_ (show 0≤(c:Int)∧(c:Int)<n from ⟨by omega,hci⟩)
      obtain ⟨g,rfl⟩:∃ g,gk=g+1:=⟨gk - 1,by omega⟩
      have hc':=A_ (show c+1+g=n by omega)
      clear hc hcn
      by_cases ha:(c:Int)=t.c
      ·have hab:((c:Int)==t.c)=true:=by simp[ha]
       have HA:=A_ ha
       clear ha
       go_wp2_with fail
       go_roundg g
       case measure=>omega
       case rel=>exact ⟨c+1,hc'.o,by go_num,HB3.o,hs3,⟨c0,c1,c2,c3,c4,c5⟩⟩
      by_cases hb:(c:Int)=t.a
      ·have hab:((c:Int)==t.c)=false:=by simp[ha]
       have hbb:((c:Int)==t.a)=true:=by simp[hb]
       have HBq:=A_ hb
       clear hb
       go_wp2_with fail
       go_roundg g
       case measure=>omega
       case rel=>exact ⟨c+1,hc'.o,by go_num,HB3.o,hs3,⟨c0,c1,c2,c3,c4,c5⟩⟩
      have hab:((c:Int)==t.c)=false:=by simp[ha]
      have hbb:((c:Int)==t.a)=false:=by simp[hb]
      have F:=A_ (show A5d xs ys t.c t.a c=false by
       rcases CL.o with h | h | h
       ·exact absurd h ha
       ·exact absurd h hb
       exact h)
      go_wp2_with fail
      have C:=A9w _ n xs ys t.c t.a c wr (HP.o.below HB3.o) HSX.o HSY.o HIT.o.2.2 HIT.o.1 CI.o
      rw[F.o] at C
      refine C.mono ?_
      clear C
      rintro _ w4 ⟨rfl,hb4⟩
      obtain ⟨hc_w4,hf_w4⟩:=C_ hb4
      have hsz4:=hb4.size
      go_wp2_with fail
      go_roundg g
      case measure=>omega
      case rel=>exact ⟨c+1,hc'.o,by go_num,Below.next HB3.o hb4,by omega,⟨by go_simp,by go_simp,by go_simp,by go_simp,by go_simp,by go_simp⟩⟩
     obtain rfl:c=n:=by omega
     have hci:¬ ((c:Int)<c):=by omega
     clear hc hcn
     go_wp2_with fail
     go_roundg 0
     case measure=>omega
     case rel=>exact ⟨2+1,rfl,by go_num,HB3.o,by omega,⟨c0,c1,c2,c3,c4,c5⟩⟩
   clear hi
   go_wp2_with fail
   go_roundg g
   case measure=>omega
   case rel=>exact ⟨k+1,hk'.o,by go_num,HB2.o,by omega,⟨c0,c1,c2⟩⟩
  obtain rfl:k=m:=by omega
  have hki:¬ ((k:Int)<k):=by omega
  clear hk hkn
  go_wp2
  go_ret
  exact ⟨rfl,HBW.o⟩
end Go.Proofs.YtbhemnidcleaiaaGreat.X
