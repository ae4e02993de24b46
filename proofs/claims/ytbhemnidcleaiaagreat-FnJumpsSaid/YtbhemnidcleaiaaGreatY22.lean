/- A part of the proof. -/
import Derived.Test.YtbhemnidcleaiaaGreatY21
import Derived.Test.YtbhemnidcleaiaaGreatY17
import Derived.Test.YtbhemnidcleaiaaGreatY16
import Derived.Test.YtbhemnidcleaiaaGreatY19
import Derived.Test.YtbhemnidcleaiaaGreatY12
import Derived.Test.YtbhemnidcleaiaaGreatY18
import Derived.Test.YtbhemnidcleaiaaGreatY11
set_option linter.constructorNameAsVariable false
set_option maxHeartbeats 16000000
set_option maxRecDepth 10000
namespace Go.Proofs.YtbhemnidcleaiaaGreat.X
open Go.RowKit Go.XB Go.XN
def A5w (r:Int):TMesh:=⟨[V_ 0 0,V_ 2 0,V_ 2 2,V_ 0 2,V_ 1 1],[⟨4,0,1,0,0⟩,⟨4,1,2,0,0⟩,⟨4,2,3,1,0⟩,⟨4,3,0,r,0⟩]⟩
def A6y (r:Int):TMesh:=⟨[V_ 0 0,V_ 2 0,V_ 2 1,V_ 0 2],[⟨1,2,0,0,0⟩,⟨3,0,2,r,0⟩]⟩
def A8d (_r:Int):TMesh:=⟨[V_ 0 0,V_ 1 0,V_ 2 0,V_ 2 1,V_ 1 1,V_ 1 2,V_ 0 2,V_ 0 1],[⟨1,4,0,0,0⟩,⟨7,0,4,0,0⟩,⟨3,4,2,0,0⟩,⟨1,2,4,1,0⟩,⟨7,4,6,0,0⟩,⟨5,6,4,2,0⟩]⟩
def B8k (m:TMesh):Prop:=(∃ r,(0≤r∧r<2)∧m=A5w r)∨(∃ r,(0≤r∧r<3)∧m=A6y r)∨m=A8d 0
def D5u (w:World) (g:Nat) (e:Ending) (w':World):Prop:=∃ (m:TMesh) (v:Value) (s:List Nat),e=.returned v∧B8k m∧Agg w' v m s∧w.grownBy w' (some g)∧∀ b∈s,w.heap.size≤b
theorem C5o (v:World) (o1 o2:Obj) (g:Nat) (x0 x1:Value) (b:Nat) (hb:b≠g):((((v.setCell ⟨g,0,none⟩ x0).setCell ⟨g,1,none⟩ x1).alloc o1).alloc o2).heap[b]?=((v.alloc o1).alloc o2).heap[b]?:=by
 have hS:((v.setCell ⟨g,0,none⟩ x0).setCell ⟨g,1,none⟩ x1).heap.size=v.heap.size:=by simp
 have he:((v.setCell ⟨g,0,none⟩ x0).setCell ⟨g,1,none⟩ x1).heap[b]?=v.heap[b]?:=A0b g [x0,x1] v 0 b hb
 show ((((v.setCell ⟨g,0,none⟩ x0).setCell ⟨g,1,none⟩ x1).heap.push o1).push o2)[b]?=((v.heap.push o1).push o2)[b]?
 rw[Array.getElem?_push,Array.getElem?_push,Array.getElem?_push,Array.getElem?_push,Array.size_push,Array.size_push,hS,he]
theorem C9j {F:World→Prop} (W:World) (G:World→Prop) (hG:G W) (h:∀ W,G W→F W):F W:=h W hG
theorem A5f {w w':World} {b:Nat} {o:Obj} (h:w.heap[b]?=some o) (hb:Below w.heap.size w w'):w'.heap[b]?=some o:=(hb.block b (E_ h)).trans h
theorem A2j {w w1 w2:World} {r:Option Nat} (h:w.grownBy w1 r) (h2:w1.grownBy w2 r):w.grownBy w2 r :=
 ⟨h2.os.trans h.os,h2.tape.trans h.tape,h2.output.trans h.output,Nat.le_trans h.size h2.size,fun k hk hne=>(h2.block k (Nat.lt_of_lt_of_le hk h.size) hne).trans (h.block k hk hne)⟩
theorem B0p {w w4 w':World} {o:Obj} {g:Nat} (h:(w.alloc o).grownBy w4 (some g)) (hb:Below w.heap.size w4 w'):w.grownBy w' (some g) :=
 ⟨hb.os.trans h.os,hb.tape.trans h.tape,hb.output.trans h.output,by have:=h.size;have:=hb.size;simp at *;omega,fun k hk2 hne=>(hb.block k hk2).trans ((h.block k (by simp;omega) hne).trans (Below.heap_alloc _ _ _ hk2))⟩
theorem D3f {w:World} {g n size:Nat} {e:TypeId} {cells:List Value} (h:w.heap[g]?=some (.cells cells.toArray e)) (hl:cells.length=n*size) (hn:n≤maxLen):w.ownsRow 0 e size (.slice (some ⟨g,0,none⟩) n n) n cells :=
 ⟨hl,.inr ⟨g,n,cells.toArray,rfl,Nat.zero_le _,h,Nat.le_refl _,hn,by simpa using hl,by rw[← hl];simp⟩⟩
theorem B2l {α:Type} [Dat α] {w:World} {g n:Nat} {e:TypeId} {cells:List Value} {xs:List α} {fss:List (List Nat)} (h:w.heap[g]?=some (.cells cells.toArray e)) (hl:cells.length=n*Dat.sz α) (hn:n≤maxLen) (hf:Filled w cells xs fss) (hx:xs.length=n):∃ bs,Sl w (some ⟨g,0,none⟩) n n xs bs∧∀ b∈bs,b=g∨b∈fss.flatten:=by
 obtain ⟨A,c,bs,hv,hs,ho⟩:=hf.sl (D3f h hl hn) hx
 cases hv
 refine ⟨bs,hs,fun b hb=>?_⟩
 rcases ho with ⟨_,rfl⟩ | ⟨g',h1,rfl,_⟩
 ·cases hb
 have e:g=g':=by simpa [Value.ownBlock] using h1
 rcases List.mem_cons.1 hb with h2 | h2
 ·exact .inl (h2.trans e.symm)
 exact .inr h2
theorem A5z (w:World) (a b c r l:Int) (ha:I64 a) (hb:I64 b) (hc:I64 c) (hr:I64 r) (hl:I64 l):Dat.at_ w [.int .i64 a,.int .i64 b,.int .i64 c,.int .i64 r,.int .i64 l] (⟨a,b,c,r,l⟩:TTri) []:=TTri.shut (x:=⟨a,b,c,r,l⟩) ha hb hc hr hl
theorem U_ {a:Int} (h:-1000≤a∧a≤1000):I64 a:=by constructor<;>omega
theorem A5i {w:World} {y:TPoint} {u0 u1 u2 u3 u4 u5:Value} {b:List Nat} (h:Agg w (.agg #[u0,u1,u2,u3,u4,u5]) y b):Dat.at_ w [u0,u1,u2,u3,u4,u5] y b:=by
 obtain ⟨cs,he,hd⟩:=h
 have e2:cs=[u0,u1,u2,u3,u4,u5]:=by have:=congrArg (fun v=>match v with | .agg c=>c.toList | _=>[]) he;simpa using this.symm
 rw[← e2];exact hd
end Go.Proofs.YtbhemnidcleaiaaGreat.X
namespace Go.Proofs.YtbhemnidcleaiaaGreat.X
open Go.RowKit Go.XB Go.XN
def A6f (ps:List TPoint) (es:List TEdge):List Bool→Nat→List TPoint→List Int→List TPoint×List Int
 | [],_,qs,ms=>(qs,ms)
 | b::bs,i,qs,ms=>bif b then A6f ps es bs (i+1) (qs++[A2q (mkR 1 2) (A9b (A0c ps (es.getD i A8r).a) (A0c ps (es.getD i A8r).b))]) (ms++[(qs.length:Int)]) else A6f ps es bs (i+1) qs (ms++[-1])
def A1v (es:List TEdge) (ms:List Int):Nat→TTri→List TTri
 | 0,t=>[t]
 | f+1,t=>bif decide (A1i es t.b t.c<0) || decide (ms.getD (A1i es t.b t.c).toNat (-1)<0) then [t] else
  A1v es ms f ⟨ms.getD (A1i es t.b t.c).toNat (-1),t.a,t.b,t.region,t.level+1⟩++A1v es ms f ⟨ms.getD (A1i es t.b t.c).toNat (-1),t.c,t.a,t.region,t.level+1⟩
def onS (m:TMesh) (es:List TEdge) (k:Nat):List Bool:=(List.replicate es.length false).set (A1i es (m.triangles.getD k ⟨0,0,0,0,0⟩).b (m.triangles.getD k ⟨0,0,0,0,0⟩).c).toNat true
def C0k (m:TMesh) (es:List TEdge) (on:List Bool):TMesh :=
 ⟨(A6f m.points es on 0 m.points []).1,m.triangles.flatMap (A1v es (A6f m.points es on 0 m.points []).2 3)⟩
def A4k (m:TMesh) (k:Nat):TMesh:=C0k m (A4e m.triangles m.triangles.length) (A1e m.triangles (A4e m.triangles m.triangles.length) 3 (onS m (A4e m.triangles m.triangles.length) k))
def starts:List TMesh:=[A5w 0,A5w 1,A6y 0,A6y 1,A6y 2,A8d 0]
def A0h (ms:List TMesh):List TMesh:=ms.flatMap fun m=>(List.range m.triangles.length).map fun k=>A4k m k
example:(A0h starts).length=20:=by decide +kernel
example:(A0h starts).map (fun m=>m.triangles.length)=[5,5,5,5,5,5,5,5,4,4,4,4,4,4,8,8,8,8,8,8]:=by decide +kernel
example:(A0h (A0h starts)).length=112:=by decide +kernel
end Go.Proofs.YtbhemnidcleaiaaGreat.X
namespace Go.Proofs.YtbhemnidcleaiaaGreat.X
open Go.RowKit Go.XB Go.XN
def A5b (m:TMesh):List TRat:=m.points.map fun q=>A0u q.x q.y
def C0s (m:TMesh) (us:List TRat) (t:TTri):TPoint :=
 A9b (A9b (A9b (V_ 0 0) (A2q (us.getD t.a.toNat A1j) (A3i (A0c m.points t.a) (A0c m.points t.b) (A0c m.points t.c) 0))) (A2q (us.getD t.b.toNat A1j) (A3i (A0c m.points t.a) (A0c m.points t.b) (A0c m.points t.c) 1))) (A2q (us.getD t.c.toNat A1j) (A3i (A0c m.points t.a) (A0c m.points t.b) (A0c m.points t.c) 2))
def D5k (a b c:TPoint):Bool:=A3v [a,b,c]&&(S_ (A0i a b c)&&(!(A0i a b c).num.mag.isEmpty&&((List.range 3).all fun i=>A0r (B8n a b c i)&&A0r (A3i a b c i))))
def D6r (m:TMesh) (us:List TRat) (t:TTri):TRat:=A1c (A1c (A1y 2) (B1z (A0c m.points t.a) (A0c m.points t.b) (A0c m.points t.c))) (A9c (C0s m us t) (C0s m us t))
def D6q (m:TMesh) (us:List TRat) (t:TTri) (d:TPoint):TRat:=B2t (A2q (A1y 2) (C0s m us t)) d
def coB (r:TRat):Bool:=A1t r&&((decide (I_ r=1) || (decide (I_ r=2) || decide (I_ r=4)))&&(decide (-100≤L_ r)&&decide (L_ r≤100)))
def shS (m:TMesh):Int:=B6w m.points m.points.length
def xsS (m:TMesh):List Int:=m.points.map fun p=>L_ p.x*(shS m / I_ p.x)
def ysS (m:TMesh):List Int:=m.points.map fun p=>L_ p.y*(shS m / I_ p.y)
def A4j (m:TMesh):Bool:=(m.points.all fun p=>A0r p&&(coB p.x&&coB p.y))&&(decide m.points.Nodup&&(((A5b m).all S_) &&
 ((m.triangles.all fun t=>D5k (A0c m.points t.a) (A0c m.points t.b) (A0c m.points t.c)&&(decide (C0s m (A5b m) t=V_ 1 (-1))&&S_ (D6r m (A5b m) t))) &&
 ((A2m m.triangles).all fun e=>A0r (A2h (A0c m.points e.b) (A0c m.points e.a))&&S_ (D6q m (A5b m) (m.triangles.getD 0 ⟨0,0,0,0,0⟩) (A2h (A0c m.points e.b) (A0c m.points e.a)))))))
theorem C4c:starts.all A4j=true:=by decide +kernel
theorem C8x:(A0h starts).all A4j=true:=by decide +kernel
theorem D2t:(A0h [A4k (A5w 0) 0]).all A4j=true:=by decide +kernel
theorem D2o:(A0h [A4k (A5w 0) 1]).all A4j=true:=by decide +kernel
theorem D2n:(A0h [A4k (A5w 0) 2]).all A4j=true:=by decide +kernel
theorem D2z:(A0h [A4k (A5w 0) 3]).all A4j=true:=by decide +kernel
theorem D1t:(A0h [A4k (A5w 1) 0]).all A4j=true:=by decide +kernel
theorem D3n:(A0h [A4k (A5w 1) 1]).all A4j=true:=by decide +kernel
theorem D3c:(A0h [A4k (A5w 1) 2]).all A4j=true:=by decide +kernel
theorem D3s:(A0h [A4k (A5w 1) 3]).all A4j=true:=by decide +kernel
theorem D1l:(A0h [A4k (A6y 0) 0]).all A4j=true:=by decide +kernel
theorem D2k:(A0h [A4k (A6y 0) 1]).all A4j=true:=by decide +kernel
theorem D0w:(A0h [A4k (A6y 1) 0]).all A4j=true:=by decide +kernel
theorem C9y:(A0h [A4k (A6y 1) 1]).all A4j=true:=by decide +kernel
theorem D1c:(A0h [A4k (A6y 2) 0]).all A4j=true:=by decide +kernel
theorem D0h:(A0h [A4k (A6y 2) 1]).all A4j=true:=by decide +kernel
theorem D0o:(A0h [A4k (A8d 0) 0]).all A4j=true:=by decide +kernel
theorem D0i:(A0h [A4k (A8d 0) 1]).all A4j=true:=by decide +kernel
theorem C9u:(A0h [A4k (A8d 0) 2]).all A4j=true:=by decide +kernel
theorem D0r:(A0h [A4k (A8d 0) 3]).all A4j=true:=by decide +kernel
theorem D0n:(A0h [A4k (A8d 0) 4]).all A4j=true:=by decide +kernel
theorem D0g:(A0h [A4k (A8d 0) 5]).all A4j=true:=by decide +kernel
end Go.Proofs.YtbhemnidcleaiaaGreat.X
namespace Go.Proofs.YtbhemnidcleaiaaGreat.X
open Go.RowKit Go.XB Go.XN
theorem A2z {m1 m:TMesh} (h:(A0h [m1]).all A4j=true) (hm:m∈A0h [m1]):A4j m=true:=List.all_eq_true.1 h m hm
theorem B7n {m:TMesh} (h:m∈starts∨m∈A0h starts∨m∈A0h (A0h starts)):A4j m=true:=by
 rcases h with h | h | h
 ·exact List.all_eq_true.1 C4c m h
 ·exact List.all_eq_true.1 C8x m h
 obtain ⟨m1,h1,h2⟩:=List.mem_flatMap.1 h
 have h3:m∈A0h [m1]:=List.mem_flatMap.2 ⟨m1,by simp,h2⟩
 obtain ⟨m0,h4,h5⟩:=List.mem_flatMap.1 h1
 obtain ⟨k,hk,rfl⟩:=List.mem_map.1 h5
 have hk':=List.mem_range.1 hk
 simp only [starts,List.mem_cons,List.not_mem_nil,or_false] at h4
 rcases h4 with rfl | rfl | rfl | rfl | rfl | rfl
 ·have hk2:k<4:=hk'
  clear hk hk' h1 h2 h5
  obtain rfl | rfl | rfl | rfl:k=0∨k=1∨k=2∨k=3:=by omega
  ·exact A2z D2t h3
  ·exact A2z D2o h3
  ·exact A2z D2n h3
  exact A2z D2z h3
 ·have hk2:k<4:=hk'
  clear hk hk' h1 h2 h5
  obtain rfl | rfl | rfl | rfl:k=0∨k=1∨k=2∨k=3:=by omega
  ·exact A2z D1t h3
  ·exact A2z D3n h3
  ·exact A2z D3c h3
  exact A2z D3s h3
 ·have hk2:k<2:=hk'
  clear hk hk' h1 h2 h5
  obtain rfl | rfl:k=0∨k=1:=by omega
  ·exact A2z D1l h3
  exact A2z D2k h3
 ·have hk2:k<2:=hk'
  clear hk hk' h1 h2 h5
  obtain rfl | rfl:k=0∨k=1:=by omega
  ·exact A2z D0w h3
  exact A2z C9y h3
 ·have hk2:k<2:=hk'
  clear hk hk' h1 h2 h5
  obtain rfl | rfl:k=0∨k=1:=by omega
  ·exact A2z D1c h3
  exact A2z D0h h3
 have hk2:k<6:=hk'
 clear hk hk' h1 h2 h5
 obtain rfl | rfl | rfl | rfl | rfl | rfl:k=0∨k=1∨k=2∨k=3∨k=4∨k=5:=by omega
 ·exact A2z D0o h3
 ·exact A2z D0i h3
 ·exact A2z C9u h3
 ·exact A2z D0r h3
 ·exact A2z D0n h3
 exact A2z D0g h3
end Go.Proofs.YtbhemnidcleaiaaGreat.X
namespace Go.Proofs.YtbhemnidcleaiaaGreat.X
open Go.RowKit Go.XB Go.XN
theorem D3u {m:TMesh} (h:m.points.all (fun p=>A0r p&&(coB p.x&&coB p.y))=true):D2s m.points (xsS m) (ysS m):=by
 refine ⟨by simp[xsS],by simp[ysS],fun k p hk=>?_⟩
 have hp:=List.all_eq_true.1 h p (List.mem_of_getElem? hk)
 simp only [Bool.and_eq_true] at hp
 obtain ⟨ho,hx,hy⟩:=hp
 unfold A0r at ho
 simp only [Bool.and_eq_true] at ho
 have co:∀ (r:TRat) (a S:Int),S_ r=true→coB r=true→a=L_ r*(S / I_ r)→CoS r a S:=fun r a S h1 h2 h3=>by
  unfold coB at h2
  simp only [Bool.and_eq_true,Bool.or_eq_true,decide_eq_true_eq] at h2
  have V:=ratOkB_iff.1 h1
  have hb:=V.num
  unfold A1x at hb
  simp only [Bool.and_eq_true,natOkB_iff,Bool.or_eq_true,Bool.not_eq_true',List.isEmpty_eq_false_iff] at hb
  have hne:NegOk r.num:=fun hn=>by
   rcases hb.2 with h | h
   ·rw[h] at hn;cases hn
   exact h
  have hd:D124 (I_ r):=by
   rcases h2.2.1 with h | h | h
   ·exact .inl h
   ·exact .inr (.inl h)
   exact .inr (.inr h)
  exact ⟨h2.1,hb.1.2.1,hne,hd,by omega,h3⟩
 refine ⟨co _ _ _ ho.1 hx ?_,co _ _ _ ho.2 hy ?_⟩
 ·show at0 (xsS m) k=_
  unfold at0 xsS
  simp[List.getD_eq_getElem?_getD,List.getElem?_map,hk,shS]
 show at0 (ysS m) k=_
 unfold at0 ysS
 simp[List.getD_eq_getElem?_getD,List.getElem?_map,hk,shS]
def C6p (m:TMesh):Bool:=D0y (xsS m) (ysS m) m.points.length m.triangles
theorem C4h:starts.all C6p=true:=by decide +kernel
theorem C8g:(A0h starts).all C6p=true:=by decide +kernel
theorem C6c:(A0h (A0h starts)).all C6p=true:=by decide +kernel
def A6x (m:TMesh):Prop:=m∈starts∨m∈A0h starts∨m∈A0h (A0h starts)
theorem C9r {m:TMesh} (h:A6x m):C6p m=true:=by
 rcases h with h | h | h
 ·exact List.all_eq_true.1 C4h m h
 ·exact List.all_eq_true.1 C8g m h
 exact List.all_eq_true.1 C6c m h
theorem B4w {m:TMesh} (h:A6x m):MeshI m (xsS m) (ysS m)∧D4p m:=by
 have hj:=B7n h
 unfold A4j at hj
 simp only [Bool.and_eq_true,decide_eq_true_eq] at hj
 refine C6i rfl (fun _ _=>D3u hj.1) ?_ hj.2.1 (C9r h)
 rw[List.all_eq_true]
 intro p hp
 have:=List.all_eq_true.1 hj.1 p hp
 simp only [Bool.and_eq_true] at this
 exact this.1
theorem C6j {m:TMesh} (h:B8k m):m∈starts:=by
 rcases h with ⟨r,hr,rfl⟩ | ⟨r,hr,rfl⟩ | rfl
 ·obtain rfl | rfl:r=0∨r=1:=by omega
  ·simp[starts]
  simp[starts]
 ·obtain rfl | rfl | rfl:r=0∨r=1∨r=2:=by omega
  ·simp[starts]
  ·simp[starts]
  simp[starts]
 simp[starts]
end Go.Proofs.YtbhemnidcleaiaaGreat.X
namespace Go.Proofs.YtbhemnidcleaiaaGreat.X
open Go.RowKit Go.XB Go.XN
def ow0 (m:TMesh) (e:TEdge):TRat:=B2t (A2q (A1y 2) (V_ 1 (-1))) (A2h (A0c m.points e.b) (A0c m.points e.a))
def jm0 (m:TMesh) (e:TEdge):TRat:=if 0≤e.left∧0≤e.right then A0u (ow0 m e) (ow0 m e) else A1y 0
def le0 (m:TMesh) (t:TTri):TRat:=A1c (A1c (A1y 2) (B1z (A0c m.points t.a) (A0c m.points t.b) (A0c m.points t.c))) (A9c (V_ 1 (-1)) (V_ 1 (-1)))
def A6n (m:TMesh):Bool:=((A2m m.triangles).all fun e=>decide (e.left<m.triangles.length)&&(decide (e.right<m.triangles.length)&&(!(jm0 m e).den.isEmpty&&((jm0 m e).num.mag.isEmpty&&!(jm0 m e).num.neg))))&&(!(A2m m.triangles).isEmpty &&
 ((m.triangles.all fun t=>!(le0 m t).den.isEmpty)&&S_ ((m.triangles.map (le0 m)).foldl A2d (A1y 0))))
theorem C6l:starts.all A6n=true:=by decide +kernel
theorem D1f:(A0h starts).all A6n=true:=by decide +kernel
theorem D4k:(A0h [A4k (A5w 0) 0]).all A6n=true:=by decide +kernel
theorem D5f:(A0h [A4k (A5w 0) 1]).all A6n=true:=by decide +kernel
theorem D5c:(A0h [A4k (A5w 0) 2]).all A6n=true:=by decide +kernel
theorem D5q:(A0h [A4k (A5w 0) 3]).all A6n=true:=by decide +kernel
theorem D5r:(A0h [A4k (A5w 1) 0]).all A6n=true:=by decide +kernel
theorem D5g:(A0h [A4k (A5w 1) 1]).all A6n=true:=by decide +kernel
theorem D5o:(A0h [A4k (A5w 1) 2]).all A6n=true:=by decide +kernel
theorem D4s:(A0h [A4k (A5w 1) 3]).all A6n=true:=by decide +kernel
theorem D5e:(A0h [A4k (A6y 0) 0]).all A6n=true:=by decide +kernel
theorem D5p:(A0h [A4k (A6y 0) 1]).all A6n=true:=by decide +kernel
theorem D3d:(A0h [A4k (A6y 1) 0]).all A6n=true:=by decide +kernel
theorem D1w:(A0h [A4k (A6y 1) 1]).all A6n=true:=by decide +kernel
theorem D2r:(A0h [A4k (A6y 2) 0]).all A6n=true:=by decide +kernel
theorem D3m:(A0h [A4k (A6y 2) 1]).all A6n=true:=by decide +kernel
theorem D3h:(A0h [A4k (A8d 0) 0]).all A6n=true:=by decide +kernel
theorem D1o:(A0h [A4k (A8d 0) 1]).all A6n=true:=by decide +kernel
theorem D3j:(A0h [A4k (A8d 0) 2]).all A6n=true:=by decide +kernel
theorem D2y:(A0h [A4k (A8d 0) 3]).all A6n=true:=by decide +kernel
theorem D2i:(A0h [A4k (A8d 0) 4]).all A6n=true:=by decide +kernel
theorem D1z:(A0h [A4k (A8d 0) 5]).all A6n=true:=by decide +kernel
theorem A4n {m1 m:TMesh} (h:(A0h [m1]).all A6n=true) (hm:m∈A0h [m1]):A6n m=true:=List.all_eq_true.1 h m hm
theorem B7k {m:TMesh} (h:A6x m):A6n m=true:=by
 rcases h with h | h | h
 ·exact List.all_eq_true.1 C6l m h
 ·exact List.all_eq_true.1 D1f m h
 obtain ⟨m1,h1,h2⟩:=List.mem_flatMap.1 h
 have h3:m∈A0h [m1]:=List.mem_flatMap.2 ⟨m1,by simp,h2⟩
 obtain ⟨m0,h4,h5⟩:=List.mem_flatMap.1 h1
 obtain ⟨k,hk,rfl⟩:=List.mem_map.1 h5
 have hk':=List.mem_range.1 hk
 simp only [starts,List.mem_cons,List.not_mem_nil,or_false] at h4
 rcases h4 with rfl | rfl | rfl | rfl | rfl | rfl
 ·have hk2:k<4:=hk'
  clear hk hk' h1 h2 h5
  obtain rfl | rfl | rfl | rfl:k=0∨k=1∨k=2∨k=3:=by omega
  ·exact A4n D4k h3
  ·exact A4n D5f h3
  ·exact A4n D5c h3
  exact A4n D5q h3
 ·have hk2:k<4:=hk'
  clear hk hk' h1 h2 h5
  obtain rfl | rfl | rfl | rfl:k=0∨k=1∨k=2∨k=3:=by omega
  ·exact A4n D5r h3
  ·exact A4n D5g h3
  ·exact A4n D5o h3
  exact A4n D4s h3
 ·have hk2:k<2:=hk'
  clear hk hk' h1 h2 h5
  obtain rfl | rfl:k=0∨k=1:=by omega
  ·exact A4n D5e h3
  exact A4n D5p h3
 ·have hk2:k<2:=hk'
  clear hk hk' h1 h2 h5
  obtain rfl | rfl:k=0∨k=1:=by omega
  ·exact A4n D3d h3
  exact A4n D1w h3
 ·have hk2:k<2:=hk'
  clear hk hk' h1 h2 h5
  obtain rfl | rfl:k=0∨k=1:=by omega
  ·exact A4n D2r h3
  exact A4n D3m h3
 have hk2:k<6:=hk'
 clear hk hk' h1 h2 h5
 obtain rfl | rfl | rfl | rfl | rfl | rfl:k=0∨k=1∨k=2∨k=3∨k=4∨k=5:=by omega
 ·exact A4n D3h h3
 ·exact A4n D1o h3
 ·exact A4n D3j h3
 ·exact A4n D2y h3
 ·exact A4n D2i h3
 exact A4n D1z h3
end Go.Proofs.YtbhemnidcleaiaaGreat.X
namespace Go.Proofs.YtbhemnidcleaiaaGreat.X
open Go.RowKit Go.XB Go.XN
def dif2:List TRat:=[A1y 2,A1y 2,A1y 2]
theorem C7s (p:TProblem) (us:List TRat):∀ k,B3l (B5h p us k)=B5r p us k
 | 0=>rfl
 | k+1=>by
  have h:=C7s p us k
  unfold B3l at h ⊢
  rw[B5h,List.foldl_append,h];rfl
theorem D2u (p:TProblem) (us:List TRat):B3l (leL p us)=enL p us:=C7s p us _
theorem B1c {m:TMesh} (h:A6x m) {t:TTri} (ht:t∈m.triangles):A8c m.points.length t∧(0≤t.region∧t.region<3)∧GradOk (A0c m.points t.a) (A0c m.points t.b) (A0c m.points t.c)∧C0s m (A5b m) t=V_ 1 (-1):=by
 have hm:=(B4w h).1.tri t ht
 have hj:=B7n h
 unfold A4j at hj
 simp only [Bool.and_eq_true,List.all_eq_true,decide_eq_true_eq] at hj
 have h2:=hj.2.2.2.1 t ht
 refine ⟨hm.1,?_,C8n h2.1,h2.2.1⟩
 have:=hm.2.1
 unfold inB at this
 simp at this
 omega
theorem B7i {m:TMesh} (h:A6x m) (fs:List TRat):LinD ⟨m,dif2,fs⟩ (A5b m):=by
 have hm:=(B4w h).1
 have hj:=B7n h
 unfold A4j at hj
 simp only [Bool.and_eq_true] at hj
 exact ⟨fun t ht=>⟨(B1c h ht).1,(B1c h ht).2.1,(B1c h ht).2.2.1⟩,hm.ok,hm.n40,hm.t48,rfl,by simp[A5b],hj.2.2.1⟩
theorem C7i {m:TMesh} (fs:List TRat) {t:TTri} (h:0≤t.region∧t.region<3):B6y ⟨m,dif2,fs⟩ t=A1y 2:=by
 unfold B6y
 show dif2.getD t.region.toNat A1j=A1y 2
 obtain e | e | e:t.region.toNat=0∨t.region.toNat=1∨t.region.toNat=2:=by omega
 all_goals rw[e];rfl
theorem C4s {m:TMesh} (h:A6x m) (fs:List TRat) {t:TTri} (ht:t∈m.triangles):grT ⟨m,dif2,fs⟩ (A5b m) t=V_ 1 (-1):=(show grT ⟨m,dif2,fs⟩ (A5b m) t=C0s m (A5b m) t from rfl).trans (B1c h ht).2.2.2
theorem D4f {m:TMesh} (h:A6x m) (fs:List TRat) {t:TTri} (ht:t∈m.triangles):leT ⟨m,dif2,fs⟩ (A5b m) t=le0 m t:=by
 rw[leT,C4s h fs ht,C7i fs (B1c h ht).2.1];rfl
theorem C9l {m:TMesh} (h:A6x m) (fs:List TRat) {t:TTri} (ht:t∈m.triangles) (d:TPoint):owT ⟨m,dif2,fs⟩ (A5b m) t d=B2t (A2q (A1y 2) (V_ 1 (-1))) d:=by
 rw[owT,C4s h fs ht,C7i fs (B1c h ht).2.1]
theorem C7a {m:TMesh} {k:Int} (h0:0≤k) (h1:k<m.triangles.length):m.triangles.getD k.toNat ⟨0,0,0,0,0⟩∈m.triangles:=by
 have hk:k.toNat<m.triangles.length:=by omega
 rw[List.getD_eq_getElem?_getD,List.getElem?_eq_getElem hk]
 exact List.getElem_mem hk
theorem D4j {m:TMesh} (h:A6x m) (fs:List TRat) {e:TEdge} (hl:e.left<m.triangles.length) (hr:e.right<m.triangles.length):jmT ⟨m,dif2,fs⟩ (A5b m) e=jm0 m e:=by
 unfold jmT jm0
 split
 ·rename_i hc
  rw[C0y,C0y,C9l h fs (C7a hc.1 hl),C9l h fs (C7a hc.2 hr)];rfl
 rfl
end Go.Proofs.YtbhemnidcleaiaaGreat.X
namespace Go.Proofs.YtbhemnidcleaiaaGreat.X
open Go.RowKit Go.XB Go.XN
attribute [local go_sem] O_ opAt P_ M_ Region.wanted yielded
attribute [local simp] P_ M_ MP.eq MP.agg MP.sl A0e
end Go.Proofs.YtbhemnidcleaiaaGreat.X
namespace Go.Proofs.YtbhemnidcleaiaaGreat.X
open Go.RowKit Go.XB Go.XN
def B5o (p:TPoint) (x:SBox):Bool:=decide (A3a p.x x.left<0) || (decide (0<A3a p.x x.right) || (decide (A3a p.y x.low<0) || decide (0<A3a p.y x.high)))
def D3o (p a b:TPoint):Bool:=!S_ (A0i a b p) || (decide (A2s (A0i a b p)=0)&&(!S_ (A9c (A2h a p) (A2h b p)) || decide (A2s (A9c (A2h a p) (A2h b p))<0)))
def A6a (p a b:TPoint):Bool:=bif B5o p (C1v a [a,b]) then false else D3o p a b
def A3e (a b:TPoint) (m:List TPoint):Bool:=m.all fun c=>decide (A2s (A0i a b c)≤0)
def A5c (a b c:TPoint) (m:List TPoint):Bool:=A3e a b m || (A3e b c m || A3e c a m)
def A8g (m:TMesh) (t:TTri):List TPoint:=[A0c m.points t.a,A0c m.points t.b,A0c m.points t.c]
def B5t (m:TMesh) (t:TTri):SBox:=C1v (A0c m.points t.a) (A8g m t)
def C7f (m:TMesh) (s t:TTri):Bool:=B3i (B5t m t) (B5t m s) || (A5c (A0c m.points t.a) (A0c m.points t.b) (A0c m.points t.c) (A8g m s) || A5c (A0c m.points s.a) (A0c m.points s.b) (A0c m.points s.c) (A8g m t))
def B7q (m:TMesh) (a b:Int):Bool:=m.points.all fun p=>!A6a p (A0c m.points a) (A0c m.points b)
def C1c (m:TMesh):List Int:=m.triangles.flatMap fun t=>[t.a,t.b,t.c]
def C9d (m:TMesh) (k:Nat) (t:TTri):Bool:=inB 0 t.a (m.points.length - 1)&&(inB 0 t.b (m.points.length - 1)&&(inB 0 t.c (m.points.length - 1)&&(A3v (A8g m t)&&(inB 0 t.region 2&&(inB 0 t.level 60 &&
 (((m.triangles.take k).all fun s=>C7f m s t)&&(B7q m t.a t.b&&(B7q m t.b t.c&&B7q m t.c t.a))))))))
def C2d (m:TMesh):Bool:=(decide (1≤m.triangles.length)&&decide (m.triangles.length≤48))&&((decide (3≤m.points.length)&&decide (m.points.length≤40))&&(m.points.all A0r&&(((List.range m.points.length).all fun i=>(C1c m).contains (i:Int)) &&
 (decide m.points.Nodup&&(m.triangles.zipIdx.all fun q=>C9d m q.2 q.1)))))
theorem C8r:starts.all C2d=true:=by decide +kernel
theorem D3a:(A0h starts).all C2d=true:=by decide +kernel
end Go.Proofs.YtbhemnidcleaiaaGreat.X
namespace Go.Proofs.YtbhemnidcleaiaaGreat.X
open Go.RowKit Go.XB Go.XN
def C5y (w:World) (g:Nat) (A:Option Addr) (n c:Nat) (e:Ending) (w':World):Prop:=∃ (m:TMesh) (v:Value) (s:List Nat),e=.returned v∧B8k m∧Agg w' v m s∧w.grownBy w' (some g)∧Cur w' g A n c∧∀ b∈s,w.heap.size≤b
theorem D1m {w w':World} {g:Nat} {A:Option Addr} {n c:Nat} (h:Cur w g A n c) (hk:w'.heap[g]?=w.heap[g]?) (hs:g<w'.heap.size):Cur w' g A n c:=by
 obtain ⟨i,x,h1,h2,h3,h4,h5,h6,h7⟩:=h
 exact ⟨i,x,h1,hs,(World.cell?_of_block hk).trans h3,(World.cell?_of_block hk).trans h4,(World.cell?_of_block hk).trans h5,(World.frozen?_of_block hk).trans h6,(World.frozen?_of_block hk).trans h7⟩
attribute [local go_sem] O_ Go.XB.opAt P_ M_ Region.wanted yielded
attribute [local simp] P_ M_ MP.eq MP.agg MP.sl A0e
set_option maxRecDepth 100000 in
theorem B9o (g:Nat) (A:Option Addr) (nn c:Nat) (xs:List TByte) (bs:List Nat) (w:World) (hx:Sl w A nn c xs bs) (hn:nn≤1048576) (hc:Cur w g A nn c) (hg:g∉bs) :
  Calls Tryz.prog 101 #[.pointer (some ⟨g,0,none⟩)] w (C5y w g A nn c):=by
 have HX:=A_ hx;have HC:=A_ hc;have HG:=A_ hg
 have hgl:g<w.heap.size:=hc.lt'
 have HN:=A_ hn
 clear hx hc hg hn
 go_enter Tryz.func101,Tryz.ntmps101
 go_wp2_with fail
 have HB0:=A_ (Below.box (w:=w) (.cells #[.slice none 0 0,.slice none 0 0] 26))
 refine (A3m 3 (by decide) (by decide) g A nn c xs bs _ (HX.o.below HB0.o) HN.o (HC.o.below' HB0.o) HG.o).mono ?_
 rintro _ wi ⟨x,rfl,hx1,hc1,hg1⟩
 have CI:=A_ hc1;have G1:=A_ hg1
 have XI:=A_ ((HX.o.below HB0.o).keep (fun b hb=>hg1.block b ((HX.o.below HB0.o).lt b hb) (by intro e;injection e with e;exact HG.o (e ▸ hb))))
 have RI:=A_ (show wi.heap[w.heap.size]?=some (.cells #[.slice none 0 0,.slice none 0 0] 26) from (hg1.block _ (by simp) (by intro e;injection e with e;omega)).trans (heap_alloc_new w _))
 have BW0:=A_ (Below.refl wi.heap.size wi)
 have hwi:w.heap.size+1≤wi.heap.size:=by have:=hg1.size;simp at this;omega
 clear hc1 hg1
 obtain rfl | rfl | rfl:x=0∨x=1∨x=2:=by omega
 ·go_wp2_with fail
  refine (A1b 0 0 _ (by constructor<;>decide) (by constructor<;>decide)).mono ?_
  rintro _ v1 ⟨u0,s0,rfl,ha0,ho0,hb0⟩
  obtain ⟨D0_1,n0_1,c0_1,e0_1,D0_2,n0_2,c0_2,e0_2,D0_4,n0_4,c0_4,e0_4,D0_5,n0_5,c0_5,e0_5,rfl,z0,_,_,_,_⟩:=TPoint.agg ha0
  have A0:=A_ ha0;have HB0:=A_ hb0
  have S0:=A_ (show ∀ b∈s0,wi.heap.size≤b from fun b hb=>Nat.le_trans BW0.o.size (ho0.2 b hb).1)
  have BW1:=A_ (Below.next BW0.o hb0)
  clear ha0 ho0 hb0 z0
  go_wp2_with fail
  refine (A1b 2 0 _ (by constructor<;>decide) (by constructor<;>decide)).mono ?_
  rintro _ v2 ⟨u1,s1,rfl,ha1,ho1,hb1⟩
  obtain ⟨D1_1,n1_1,c1_1,e1_1,D1_2,n1_2,c1_2,e1_2,D1_4,n1_4,c1_4,e1_4,D1_5,n1_5,c1_5,e1_5,rfl,z1,_,_,_,_⟩:=TPoint.agg ha1
  have A1:=A_ ha1;have HB1:=A_ hb1
  have S1:=A_ (show ∀ b∈s1,wi.heap.size≤b from fun b hb=>Nat.le_trans BW1.o.size (ho1.2 b hb).1)
  have BW2:=A_ (Below.next BW1.o hb1)
  clear ha1 ho1 hb1 z1
  go_wp2_with fail
  refine (A1b 2 2 _ (by constructor<;>decide) (by constructor<;>decide)).mono ?_
  rintro _ v3 ⟨u2,s2,rfl,ha2,ho2,hb2⟩
  obtain ⟨D2_1,n2_1,c2_1,e2_1,D2_2,n2_2,c2_2,e2_2,D2_4,n2_4,c2_4,e2_4,D2_5,n2_5,c2_5,e2_5,rfl,z2,_,_,_,_⟩:=TPoint.agg ha2
  have A2:=A_ ha2;have HB2:=A_ hb2
  have S2:=A_ (show ∀ b∈s2,wi.heap.size≤b from fun b hb=>Nat.le_trans BW2.o.size (ho2.2 b hb).1)
  have BW3:=A_ (Below.next BW2.o hb2)
  clear ha2 ho2 hb2 z2
  go_wp2_with fail
  refine (A1b 0 2 _ (by constructor<;>decide) (by constructor<;>decide)).mono ?_
  rintro _ v4 ⟨u3,s3,rfl,ha3,ho3,hb3⟩
  obtain ⟨D3_1,n3_1,c3_1,e3_1,D3_2,n3_2,c3_2,e3_2,D3_4,n3_4,c3_4,e3_4,D3_5,n3_5,c3_5,e3_5,rfl,z3,_,_,_,_⟩:=TPoint.agg ha3
  have A3:=A_ ha3;have HB3:=A_ hb3
  have S3:=A_ (show ∀ b∈s3,wi.heap.size≤b from fun b hb=>Nat.le_trans BW3.o.size (ho3.2 b hb).1)
  have BW4:=A_ (Below.next BW3.o hb3)
  clear ha3 ho3 hb3 z3
  go_wp2_with fail
  refine (A1b 1 1 _ (by constructor<;>decide) (by constructor<;>decide)).mono ?_
  rintro _ v5 ⟨u4,s4,rfl,ha4,ho4,hb4⟩
  obtain ⟨D4_1,n4_1,c4_1,e4_1,D4_2,n4_2,c4_2,e4_2,D4_4,n4_4,c4_4,e4_4,D4_5,n4_5,c4_5,e4_5,rfl,z4,_,_,_,_⟩:=TPoint.agg ha4
  have A4:=A_ ha4;have HB4:=A_ hb4
  have S4:=A_ (show ∀ b∈s4,wi.heap.size≤b from fun b hb=>Nat.le_trans BW4.o.size (ho4.2 b hb).1)
  have BW5:=A_ (Below.next BW4.o hb4)
  clear ha4 ho4 hb4 z4
  go_wp2_with fail
  have BP:=A_ (Below.box (w:=v5) (.cells #[.bool (V_ 0 0).x.num.neg,.slice D0_1 n0_1 c0_1,.slice D0_2 n0_2 c0_2,.bool (V_ 0 0).y.num.neg,.slice D0_4 n0_4 c0_4,.slice D0_5 n0_5 c0_5,.bool (V_ 2 0).x.num.neg,.slice D1_1 n1_1 c1_1,.slice D1_2 n1_2 c1_2,.bool (V_ 2 0).y.num.neg,.slice D1_4 n1_4 c1_4,.slice D1_5 n1_5 c1_5,.bool (V_ 2 2).x.num.neg,.slice D2_1 n2_1 c2_1,.slice D2_2 n2_2 c2_2,.bool (V_ 2 2).y.num.neg,.slice D2_4 n2_4 c2_4,.slice D2_5 n2_5 c2_5,.bool (V_ 0 2).x.num.neg,.slice D3_1 n3_1 c3_1,.slice D3_2 n3_2 c3_2,.bool (V_ 0 2).y.num.neg,.slice D3_4 n3_4 c3_4,.slice D3_5 n3_5 c3_5,.bool (V_ 1 1).x.num.neg,.slice D4_1 n4_1 c4_1,.slice D4_2 n4_2 c4_2,.bool (V_ 1 1).y.num.neg,.slice D4_4 n4_4 c4_4,.slice D4_5 n4_5 c4_5] 38))
  have HP0:=A_ (show (v5.alloc (.cells #[.bool (V_ 0 0).x.num.neg,.slice D0_1 n0_1 c0_1,.slice D0_2 n0_2 c0_2,.bool (V_ 0 0).y.num.neg,.slice D0_4 n0_4 c0_4,.slice D0_5 n0_5 c0_5,.bool (V_ 2 0).x.num.neg,.slice D1_1 n1_1 c1_1,.slice D1_2 n1_2 c1_2,.bool (V_ 2 0).y.num.neg,.slice D1_4 n1_4 c1_4,.slice D1_5 n1_5 c1_5,.bool (V_ 2 2).x.num.neg,.slice D2_1 n2_1 c2_1,.slice D2_2 n2_2 c2_2,.bool (V_ 2 2).y.num.neg,.slice D2_4 n2_4 c2_4,.slice D2_5 n2_5 c2_5,.bool (V_ 0 2).x.num.neg,.slice D3_1 n3_1 c3_1,.slice D3_2 n3_2 c3_2,.bool (V_ 0 2).y.num.neg,.slice D3_4 n3_4 c3_4,.slice D3_5 n3_5 c3_5,.bool (V_ 1 1).x.num.neg,.slice D4_1 n4_1 c4_1,.slice D4_2 n4_2 c4_2,.bool (V_ 1 1).y.num.neg,.slice D4_4 n4_4 c4_4,.slice D4_5 n4_5 c4_5] 38)).heap[v5.heap.size]?=some (.cells #[.bool (V_ 0 0).x.num.neg,.slice D0_1 n0_1 c0_1,.slice D0_2 n0_2 c0_2,.bool (V_ 0 0).y.num.neg,.slice D0_4 n0_4 c0_4,.slice D0_5 n0_5 c0_5,.bool (V_ 2 0).x.num.neg,.slice D1_1 n1_1 c1_1,.slice D1_2 n1_2 c1_2,.bool (V_ 2 0).y.num.neg,.slice D1_4 n1_4 c1_4,.slice D1_5 n1_5 c1_5,.bool (V_ 2 2).x.num.neg,.slice D2_1 n2_1 c2_1,.slice D2_2 n2_2 c2_2,.bool (V_ 2 2).y.num.neg,.slice D2_4 n2_4 c2_4,.slice D2_5 n2_5 c2_5,.bool (V_ 0 2).x.num.neg,.slice D3_1 n3_1 c3_1,.slice D3_2 n3_2 c3_2,.bool (V_ 0 2).y.num.neg,.slice D3_4 n3_4 c3_4,.slice D3_5 n3_5 c3_5,.bool (V_ 1 1).x.num.neg,.slice D4_1 n4_1 c4_1,.slice D4_2 n4_2 c4_2,.bool (V_ 1 1).y.num.neg,.slice D4_4 n4_4 c4_4,.slice D4_5 n4_5 c4_5] 38) from heap_alloc_new v5 _)
  have HGw:=A_ (show g<wi.heap.size by omega)
  refine (A3m 2 (by decide) (by decide) g A nn c xs bs (v5.alloc (.cells #[.bool (V_ 0 0).x.num.neg,.slice D0_1 n0_1 c0_1,.slice D0_2 n0_2 c0_2,.bool (V_ 0 0).y.num.neg,.slice D0_4 n0_4 c0_4,.slice D0_5 n0_5 c0_5,.bool (V_ 2 0).x.num.neg,.slice D1_1 n1_1 c1_1,.slice D1_2 n1_2 c1_2,.bool (V_ 2 0).y.num.neg,.slice D1_4 n1_4 c1_4,.slice D1_5 n1_5 c1_5,.bool (V_ 2 2).x.num.neg,.slice D2_1 n2_1 c2_1,.slice D2_2 n2_2 c2_2,.bool (V_ 2 2).y.num.neg,.slice D2_4 n2_4 c2_4,.slice D2_5 n2_5 c2_5,.bool (V_ 0 2).x.num.neg,.slice D3_1 n3_1 c3_1,.slice D3_2 n3_2 c3_2,.bool (V_ 0 2).y.num.neg,.slice D3_4 n3_4 c3_4,.slice D3_5 n3_5 c3_5,.bool (V_ 1 1).x.num.neg,.slice D4_1 n4_1 c4_1,.slice D4_2 n4_2 c4_2,.bool (V_ 1 1).y.num.neg,.slice D4_4 n4_4 c4_4,.slice D4_5 n4_5 c4_5] 38)) ((XI.o.below BW5.o).below BP.o) HN.o ((CI.o.below' BW5.o).below' BP.o) HG.o).mono ?_
  rintro _ y1 ⟨r,rfl,hr,hcy,hgy⟩
  have GY:=A_ hgy
  have CY:=A_ hcy
  clear hcy hgy
  have HT9:=A_ (show (y1.alloc (.cells #[.int .i64 4,.int .i64 0,.int .i64 1,.int .i64 0,.int .i64 0,.int .i64 4,.int .i64 1,.int .i64 2,.int .i64 0,.int .i64 0,.int .i64 4,.int .i64 2,.int .i64 3,.int .i64 1,.int .i64 0,.int .i64 4,.int .i64 3,.int .i64 0,.int .i64 r,.int .i64 0] 93)).heap[y1.heap.size]?=some (.cells #[.int .i64 4,.int .i64 0,.int .i64 1,.int .i64 0,.int .i64 0,.int .i64 4,.int .i64 1,.int .i64 2,.int .i64 0,.int .i64 0,.int .i64 4,.int .i64 2,.int .i64 3,.int .i64 1,.int .i64 0,.int .i64 4,.int .i64 3,.int .i64 0,.int .i64 r,.int .i64 0] 93) from by have:=heap_alloc_new y1 (.cells #[.int .i64 4,.int .i64 0,.int .i64 1,.int .i64 0,.int .i64 0,.int .i64 4,.int .i64 1,.int .i64 2,.int .i64 0,.int .i64 0,.int .i64 4,.int .i64 2,.int .i64 3,.int .i64 1,.int .i64 0,.int .i64 4,.int .i64 3,.int .i64 0,.int .i64 r,.int .i64 0] 93);exact this)
  have BT:=A_ (Below.box (w:=y1) (.cells #[.int .i64 4,.int .i64 0,.int .i64 1,.int .i64 0,.int .i64 0,.int .i64 4,.int .i64 1,.int .i64 2,.int .i64 0,.int .i64 0,.int .i64 4,.int .i64 2,.int .i64 3,.int .i64 1,.int .i64 0,.int .i64 4,.int .i64 3,.int .i64 0,.int .i64 r,.int .i64 0] 93))
  have hsz:v5.heap.size<y1.heap.size:=by have:=GY.o.size;simp at this;omega
  have hwn:w.heap.size+1≤v5.heap.size:=by have:=BW5.o.size;omega
  have HP9:=A_ (show (y1.alloc (.cells #[.int .i64 4,.int .i64 0,.int .i64 1,.int .i64 0,.int .i64 0,.int .i64 4,.int .i64 1,.int .i64 2,.int .i64 0,.int .i64 0,.int .i64 4,.int .i64 2,.int .i64 3,.int .i64 1,.int .i64 0,.int .i64 4,.int .i64 3,.int .i64 0,.int .i64 r,.int .i64 0] 93)).heap[v5.heap.size]?=some (.cells #[.bool (V_ 0 0).x.num.neg,.slice D0_1 n0_1 c0_1,.slice D0_2 n0_2 c0_2,.bool (V_ 0 0).y.num.neg,.slice D0_4 n0_4 c0_4,.slice D0_5 n0_5 c0_5,.bool (V_ 2 0).x.num.neg,.slice D1_1 n1_1 c1_1,.slice D1_2 n1_2 c1_2,.bool (V_ 2 0).y.num.neg,.slice D1_4 n1_4 c1_4,.slice D1_5 n1_5 c1_5,.bool (V_ 2 2).x.num.neg,.slice D2_1 n2_1 c2_1,.slice D2_2 n2_2 c2_2,.bool (V_ 2 2).y.num.neg,.slice D2_4 n2_4 c2_4,.slice D2_5 n2_5 c2_5,.bool (V_ 0 2).x.num.neg,.slice D3_1 n3_1 c3_1,.slice D3_2 n3_2 c3_2,.bool (V_ 0 2).y.num.neg,.slice D3_4 n3_4 c3_4,.slice D3_5 n3_5 c3_5,.bool (V_ 1 1).x.num.neg,.slice D4_1 n4_1 c4_1,.slice D4_2 n4_2 c4_2,.bool (V_ 1 1).y.num.neg,.slice D4_4 n4_4 c4_4,.slice D4_5 n4_5 c4_5] 38) from A5f ((GY.o.block _ (by simp) (by intro e;injection e with e;omega)).trans HP0.o) BT.o)
  have RR:=A_ (show y1.heap[w.heap.size]?=some (.cells #[.slice none 0 0,.slice none 0 0] 26) from (GY.o.block _ (by simp;omega) (by intro e;injection e with e;omega)).trans (A5f (A5f RI.o BW5.o) BP.o))
  have Q0:=A_ (((((((A0.o.below HB1.o).below HB2.o).below HB3.o).below HB4.o).below BP.o).keep (fun b hb=>GY.o.block b ((((((A0.o.below HB1.o).below HB2.o).below HB3.o).below HB4.o).below BP.o).lt b hb) (by intro e;injection e with e;have:=S0.o b hb;omega))).below BT.o)
  have Q1:=A_ ((((((A1.o.below HB2.o).below HB3.o).below HB4.o).below BP.o).keep (fun b hb=>GY.o.block b (((((A1.o.below HB2.o).below HB3.o).below HB4.o).below BP.o).lt b hb) (by intro e;injection e with e;have:=S1.o b hb;omega))).below BT.o)
  have Q2:=A_ (((((A2.o.below HB3.o).below HB4.o).below BP.o).keep (fun b hb=>GY.o.block b ((((A2.o.below HB3.o).below HB4.o).below BP.o).lt b hb) (by intro e;injection e with e;have:=S2.o b hb;omega))).below BT.o)
  have Q3:=A_ ((((A3.o.below HB4.o).below BP.o).keep (fun b hb=>GY.o.block b (((A3.o.below HB4.o).below BP.o).lt b hb) (by intro e;injection e with e;have:=S3.o b hb;omega))).below BT.o)
  have Q4:=A_ (((A4.o.below BP.o).keep (fun b hb=>GY.o.block b ((A4.o.below BP.o).lt b hb) (by intro e;injection e with e;have:=S4.o b hb;omega))).below BT.o)
  obtain ⟨r0,e0⟩:=B_ RR.o (j:=0) rfl
  obtain ⟨r1,e1⟩:=B_ RR.o (j:=1) rfl
  have hz9:w.heap.size<y1.heap.size:=by omega
  go_wp2
  refine bodyPost_ret (v:=.agg #[.slice (some ⟨v5.heap.size,0,none⟩) 5 5,.slice (some ⟨y1.heap.size,0,none⟩) 4 4]) (by simp[results,Tryz.results101,go_sem, *]) rfl ?_
  have hk:∀ b,b≠w.heap.size→(((y1.alloc (.cells #[.int .i64 4,.int .i64 0,.int .i64 1,.int .i64 0,.int .i64 0,.int .i64 4,.int .i64 1,.int .i64 2,.int .i64 0,.int .i64 0,.int .i64 4,.int .i64 2,.int .i64 3,.int .i64 1,.int .i64 0,.int .i64 4,.int .i64 3,.int .i64 0,.int .i64 r,.int .i64 0] 93)).setCell ⟨w.heap.size,0,none⟩ (.slice (some ⟨v5.heap.size,0,none⟩) 5 5)).setCell ⟨w.heap.size,1,none⟩ (.slice (some ⟨y1.heap.size,0,none⟩) 4 4)).heap[b]?=(y1.alloc (.cells #[.int .i64 4,.int .i64 0,.int .i64 1,.int .i64 0,.int .i64 0,.int .i64 4,.int .i64 1,.int .i64 2,.int .i64 0,.int .i64 0,.int .i64 4,.int .i64 2,.int .i64 3,.int .i64 1,.int .i64 0,.int .i64 4,.int .i64 3,.int .i64 0,.int .i64 r,.int .i64 0] 93)).heap[b]?:=fun b hb=>A0b w.heap.size [.slice (some ⟨v5.heap.size,0,none⟩) 5 5,.slice (some ⟨y1.heap.size,0,none⟩) 4 4] (y1.alloc (.cells #[.int .i64 4,.int .i64 0,.int .i64 1,.int .i64 0,.int .i64 0,.int .i64 4,.int .i64 1,.int .i64 2,.int .i64 0,.int .i64 0,.int .i64 4,.int .i64 2,.int .i64 3,.int .i64 1,.int .i64 0,.int .i64 4,.int .i64 3,.int .i64 0,.int .i64 r,.int .i64 0] 93)) 0 b hb
  have hv:(((y1.alloc (.cells #[.int .i64 4,.int .i64 0,.int .i64 1,.int .i64 0,.int .i64 0,.int .i64 4,.int .i64 1,.int .i64 2,.int .i64 0,.int .i64 0,.int .i64 4,.int .i64 2,.int .i64 3,.int .i64 1,.int .i64 0,.int .i64 4,.int .i64 3,.int .i64 0,.int .i64 r,.int .i64 0] 93)).setCell ⟨w.heap.size,0,none⟩ (.slice (some ⟨v5.heap.size,0,none⟩) 5 5)).setCell ⟨w.heap.size,1,none⟩ (.slice (some ⟨y1.heap.size,0,none⟩) 4 4))=(((y1.setCell ⟨w.heap.size,0,none⟩ (.slice (some ⟨v5.heap.size,0,none⟩) 5 5)).setCell ⟨w.heap.size,1,none⟩ (.slice (some ⟨y1.heap.size,0,none⟩) 4 4)).alloc (.cells #[.int .i64 4,.int .i64 0,.int .i64 1,.int .i64 0,.int .i64 0,.int .i64 4,.int .i64 1,.int .i64 2,.int .i64 0,.int .i64 0,.int .i64 4,.int .i64 2,.int .i64 3,.int .i64 1,.int .i64 0,.int .i64 4,.int .i64 3,.int .i64 0,.int .i64 r,.int .i64 0] 93)):=by go_simp
  rw[hv] at hk
  have HBN:=A_ (show Below w.heap.size y1 (((y1.setCell ⟨w.heap.size,0,none⟩ (.slice (some ⟨v5.heap.size,0,none⟩) 5 5)).setCell ⟨w.heap.size,1,none⟩ (.slice (some ⟨y1.heap.size,0,none⟩) 4 4)).alloc (.cells #[.int .i64 4,.int .i64 0,.int .i64 1,.int .i64 0,.int .i64 0,.int .i64 4,.int .i64 1,.int .i64 2,.int .i64 0,.int .i64 0,.int .i64 4,.int .i64 2,.int .i64 3,.int .i64 1,.int .i64 0,.int .i64 4,.int .i64 3,.int .i64 0,.int .i64 r,.int .i64 0] 93)) from (((Below.refl w.heap.size y1).setCell (p:=⟨w.heap.size,0,none⟩) (Nat.le_refl _) _).setCell (p:=⟨w.heap.size,1,none⟩) (Nat.le_refl _) _).alloc (by simp;omega) _)
  obtain ⟨W,hW⟩:∃ W,(((y1.setCell ⟨w.heap.size,0,none⟩ (.slice (some ⟨v5.heap.size,0,none⟩) 5 5)).setCell ⟨w.heap.size,1,none⟩ (.slice (some ⟨y1.heap.size,0,none⟩) 4 4)).alloc (.cells #[.int .i64 4,.int .i64 0,.int .i64 1,.int .i64 0,.int .i64 0,.int .i64 4,.int .i64 1,.int .i64 2,.int .i64 0,.int .i64 0,.int .i64 4,.int .i64 2,.int .i64 3,.int .i64 1,.int .i64 0,.int .i64 4,.int .i64 3,.int .i64 0,.int .i64 r,.int .i64 0] 93))=W:=⟨_,rfl⟩
  rw[hW] at hk HBN ⊢
  clear hv hW
  have D0:=A5i (Q0.o.keep (fun b hb=>hk b (by have:=S0.o b hb;omega)))
  have D1:=A5i (Q1.o.keep (fun b hb=>hk b (by have:=S1.o b hb;omega)))
  have D2:=A5i (Q2.o.keep (fun b hb=>hk b (by have:=S2.o b hb;omega)))
  have D3:=A5i (Q3.o.keep (fun b hb=>hk b (by have:=S3.o b hb;omega)))
  have D4:=A5i (Q4.o.keep (fun b hb=>hk b (by have:=S4.o b hb;omega)))
  obtain ⟨b1,hsl1,hr1⟩:=B2l (α:=TPoint) (n:=5) ((hk _ (by omega)).trans HP9.o) (by rfl) (by decide) (Filled.push (Filled.push (Filled.push (Filled.push (Filled.push (Filled.nil (α:=TPoint) W []) (by rfl) D0) (by rfl) D1) (by rfl) D2) (by rfl) D3) (by rfl) D4) (by rfl)
  obtain ⟨b2,hsl2,hr2⟩:=B2l (α:=TTri) (n:=4) ((hk _ (by omega)).trans HT9.o) (by rfl) (by decide) (Filled.push (Filled.push (Filled.push (Filled.push (Filled.nil (α:=TTri) W []) (by rfl) (A5z W 4 0 1 0 0 (U_ (by decide)) (U_ (by decide)) (U_ (by decide)) (U_ (by decide)) (U_ (by decide)))) (by rfl) (A5z W 4 1 2 0 0 (U_ (by decide)) (U_ (by decide)) (U_ (by decide)) (U_ (by decide)) (U_ (by decide)))) (by rfl) (A5z W 4 2 3 1 0 (U_ (by decide)) (U_ (by decide)) (U_ (by decide)) (U_ (by decide)) (U_ (by decide)))) (by rfl) (A5z W 4 3 0 r 0 (U_ (by decide)) (U_ (by decide)) (U_ (by decide)) (U_ (by omega)) (U_ (by decide)))) (by rfl)
  refine ⟨A5w r,_,_,rfl,.inl ⟨r,hr,rfl⟩,TMesh.mkAgg (x:=A5w r) hsl1 hsl2,B0p (A2j (A2j (A2j G1.o (A1u BW5.o _)) (A1u BP.o _)) GY.o) HBN.o,D1m (CY.o.below' BT.o) (hk g (by omega)) (by have h1:=HBN.o.size;have h2:=GY.o.size;(try simp at h2);omega),fun b hb=>?_⟩
  rcases List.mem_append.1 hb with hb | hb
  ·rcases hr1 b hb with rfl | hb
   ·omega
   obtain ⟨l,hl,hb2⟩:=List.mem_flatten.1 hb
   simp at hl
   rcases hl with rfl | rfl | rfl | rfl | rfl
   ·have:=S0.o b hb2;omega
   ·have:=S1.o b hb2;omega
   ·have:=S2.o b hb2;omega
   ·have:=S3.o b hb2;omega
   have:=S4.o b hb2;omega
  rcases hr2 b hb with rfl | hb
  ·omega
  obtain ⟨l,hl,hb2⟩:=List.mem_flatten.1 hb
  simp at hl
  subst hl
  cases hb2
 ·go_wp2_with fail
  refine (A1b 0 0 _ (by constructor<;>decide) (by constructor<;>decide)).mono ?_
  rintro _ v1 ⟨u0,s0,rfl,ha0,ho0,hb0⟩
  obtain ⟨D0_1,n0_1,c0_1,e0_1,D0_2,n0_2,c0_2,e0_2,D0_4,n0_4,c0_4,e0_4,D0_5,n0_5,c0_5,e0_5,rfl,z0,_,_,_,_⟩:=TPoint.agg ha0
  have A0:=A_ ha0;have HB0:=A_ hb0
  have S0:=A_ (show ∀ b∈s0,wi.heap.size≤b from fun b hb=>Nat.le_trans BW0.o.size (ho0.2 b hb).1)
  have BW1:=A_ (Below.next BW0.o hb0)
  clear ha0 ho0 hb0 z0
  go_wp2_with fail
  refine (A1b 2 0 _ (by constructor<;>decide) (by constructor<;>decide)).mono ?_
  rintro _ v2 ⟨u1,s1,rfl,ha1,ho1,hb1⟩
  obtain ⟨D1_1,n1_1,c1_1,e1_1,D1_2,n1_2,c1_2,e1_2,D1_4,n1_4,c1_4,e1_4,D1_5,n1_5,c1_5,e1_5,rfl,z1,_,_,_,_⟩:=TPoint.agg ha1
  have A1:=A_ ha1;have HB1:=A_ hb1
  have S1:=A_ (show ∀ b∈s1,wi.heap.size≤b from fun b hb=>Nat.le_trans BW1.o.size (ho1.2 b hb).1)
  have BW2:=A_ (Below.next BW1.o hb1)
  clear ha1 ho1 hb1 z1
  go_wp2_with fail
  refine (A1b 2 1 _ (by constructor<;>decide) (by constructor<;>decide)).mono ?_
  rintro _ v3 ⟨u2,s2,rfl,ha2,ho2,hb2⟩
  obtain ⟨D2_1,n2_1,c2_1,e2_1,D2_2,n2_2,c2_2,e2_2,D2_4,n2_4,c2_4,e2_4,D2_5,n2_5,c2_5,e2_5,rfl,z2,_,_,_,_⟩:=TPoint.agg ha2
  have A2:=A_ ha2;have HB2:=A_ hb2
  have S2:=A_ (show ∀ b∈s2,wi.heap.size≤b from fun b hb=>Nat.le_trans BW2.o.size (ho2.2 b hb).1)
  have BW3:=A_ (Below.next BW2.o hb2)
  clear ha2 ho2 hb2 z2
  go_wp2_with fail
  refine (A1b 0 2 _ (by constructor<;>decide) (by constructor<;>decide)).mono ?_
  rintro _ v4 ⟨u3,s3,rfl,ha3,ho3,hb3⟩
  obtain ⟨D3_1,n3_1,c3_1,e3_1,D3_2,n3_2,c3_2,e3_2,D3_4,n3_4,c3_4,e3_4,D3_5,n3_5,c3_5,e3_5,rfl,z3,_,_,_,_⟩:=TPoint.agg ha3
  have A3:=A_ ha3;have HB3:=A_ hb3
  have S3:=A_ (show ∀ b∈s3,wi.heap.size≤b from fun b hb=>Nat.le_trans BW3.o.size (ho3.2 b hb).1)
  have BW4:=A_ (Below.next BW3.o hb3)
  clear ha3 ho3 hb3 z3
  go_wp2_with fail
  have BP:=A_ (Below.box (w:=v4) (.cells #[.bool (V_ 0 0).x.num.neg,.slice D0_1 n0_1 c0_1,.slice D0_2 n0_2 c0_2,.bool (V_ 0 0).y.num.neg,.slice D0_4 n0_4 c0_4,.slice D0_5 n0_5 c0_5,.bool (V_ 2 0).x.num.neg,.slice D1_1 n1_1 c1_1,.slice D1_2 n1_2 c1_2,.bool (V_ 2 0).y.num.neg,.slice D1_4 n1_4 c1_4,.slice D1_5 n1_5 c1_5,.bool (V_ 2 1).x.num.neg,.slice D2_1 n2_1 c2_1,.slice D2_2 n2_2 c2_2,.bool (V_ 2 1).y.num.neg,.slice D2_4 n2_4 c2_4,.slice D2_5 n2_5 c2_5,.bool (V_ 0 2).x.num.neg,.slice D3_1 n3_1 c3_1,.slice D3_2 n3_2 c3_2,.bool (V_ 0 2).y.num.neg,.slice D3_4 n3_4 c3_4,.slice D3_5 n3_5 c3_5] 38))
  have HP0:=A_ (show (v4.alloc (.cells #[.bool (V_ 0 0).x.num.neg,.slice D0_1 n0_1 c0_1,.slice D0_2 n0_2 c0_2,.bool (V_ 0 0).y.num.neg,.slice D0_4 n0_4 c0_4,.slice D0_5 n0_5 c0_5,.bool (V_ 2 0).x.num.neg,.slice D1_1 n1_1 c1_1,.slice D1_2 n1_2 c1_2,.bool (V_ 2 0).y.num.neg,.slice D1_4 n1_4 c1_4,.slice D1_5 n1_5 c1_5,.bool (V_ 2 1).x.num.neg,.slice D2_1 n2_1 c2_1,.slice D2_2 n2_2 c2_2,.bool (V_ 2 1).y.num.neg,.slice D2_4 n2_4 c2_4,.slice D2_5 n2_5 c2_5,.bool (V_ 0 2).x.num.neg,.slice D3_1 n3_1 c3_1,.slice D3_2 n3_2 c3_2,.bool (V_ 0 2).y.num.neg,.slice D3_4 n3_4 c3_4,.slice D3_5 n3_5 c3_5] 38)).heap[v4.heap.size]?=some (.cells #[.bool (V_ 0 0).x.num.neg,.slice D0_1 n0_1 c0_1,.slice D0_2 n0_2 c0_2,.bool (V_ 0 0).y.num.neg,.slice D0_4 n0_4 c0_4,.slice D0_5 n0_5 c0_5,.bool (V_ 2 0).x.num.neg,.slice D1_1 n1_1 c1_1,.slice D1_2 n1_2 c1_2,.bool (V_ 2 0).y.num.neg,.slice D1_4 n1_4 c1_4,.slice D1_5 n1_5 c1_5,.bool (V_ 2 1).x.num.neg,.slice D2_1 n2_1 c2_1,.slice D2_2 n2_2 c2_2,.bool (V_ 2 1).y.num.neg,.slice D2_4 n2_4 c2_4,.slice D2_5 n2_5 c2_5,.bool (V_ 0 2).x.num.neg,.slice D3_1 n3_1 c3_1,.slice D3_2 n3_2 c3_2,.bool (V_ 0 2).y.num.neg,.slice D3_4 n3_4 c3_4,.slice D3_5 n3_5 c3_5] 38) from heap_alloc_new v4 _)
  have HGw:=A_ (show g<wi.heap.size by omega)
  refine (A3m 3 (by decide) (by decide) g A nn c xs bs (v4.alloc (.cells #[.bool (V_ 0 0).x.num.neg,.slice D0_1 n0_1 c0_1,.slice D0_2 n0_2 c0_2,.bool (V_ 0 0).y.num.neg,.slice D0_4 n0_4 c0_4,.slice D0_5 n0_5 c0_5,.bool (V_ 2 0).x.num.neg,.slice D1_1 n1_1 c1_1,.slice D1_2 n1_2 c1_2,.bool (V_ 2 0).y.num.neg,.slice D1_4 n1_4 c1_4,.slice D1_5 n1_5 c1_5,.bool (V_ 2 1).x.num.neg,.slice D2_1 n2_1 c2_1,.slice D2_2 n2_2 c2_2,.bool (V_ 2 1).y.num.neg,.slice D2_4 n2_4 c2_4,.slice D2_5 n2_5 c2_5,.bool (V_ 0 2).x.num.neg,.slice D3_1 n3_1 c3_1,.slice D3_2 n3_2 c3_2,.bool (V_ 0 2).y.num.neg,.slice D3_4 n3_4 c3_4,.slice D3_5 n3_5 c3_5] 38)) ((XI.o.below BW4.o).below BP.o) HN.o ((CI.o.below' BW4.o).below' BP.o) HG.o).mono ?_
  rintro _ y1 ⟨r,rfl,hr,hcy,hgy⟩
  have GY:=A_ hgy
  have CY:=A_ hcy
  clear hcy hgy
  have HT9:=A_ (show (y1.alloc (.cells #[.int .i64 1,.int .i64 2,.int .i64 0,.int .i64 0,.int .i64 0,.int .i64 3,.int .i64 0,.int .i64 2,.int .i64 r,.int .i64 0] 93)).heap[y1.heap.size]?=some (.cells #[.int .i64 1,.int .i64 2,.int .i64 0,.int .i64 0,.int .i64 0,.int .i64 3,.int .i64 0,.int .i64 2,.int .i64 r,.int .i64 0] 93) from by have:=heap_alloc_new y1 (.cells #[.int .i64 1,.int .i64 2,.int .i64 0,.int .i64 0,.int .i64 0,.int .i64 3,.int .i64 0,.int .i64 2,.int .i64 r,.int .i64 0] 93);exact this)
  have BT:=A_ (Below.box (w:=y1) (.cells #[.int .i64 1,.int .i64 2,.int .i64 0,.int .i64 0,.int .i64 0,.int .i64 3,.int .i64 0,.int .i64 2,.int .i64 r,.int .i64 0] 93))
  have hsz:v4.heap.size<y1.heap.size:=by have:=GY.o.size;simp at this;omega
  have hwn:w.heap.size+1≤v4.heap.size:=by have:=BW4.o.size;omega
  have HP9:=A_ (show (y1.alloc (.cells #[.int .i64 1,.int .i64 2,.int .i64 0,.int .i64 0,.int .i64 0,.int .i64 3,.int .i64 0,.int .i64 2,.int .i64 r,.int .i64 0] 93)).heap[v4.heap.size]?=some (.cells #[.bool (V_ 0 0).x.num.neg,.slice D0_1 n0_1 c0_1,.slice D0_2 n0_2 c0_2,.bool (V_ 0 0).y.num.neg,.slice D0_4 n0_4 c0_4,.slice D0_5 n0_5 c0_5,.bool (V_ 2 0).x.num.neg,.slice D1_1 n1_1 c1_1,.slice D1_2 n1_2 c1_2,.bool (V_ 2 0).y.num.neg,.slice D1_4 n1_4 c1_4,.slice D1_5 n1_5 c1_5,.bool (V_ 2 1).x.num.neg,.slice D2_1 n2_1 c2_1,.slice D2_2 n2_2 c2_2,.bool (V_ 2 1).y.num.neg,.slice D2_4 n2_4 c2_4,.slice D2_5 n2_5 c2_5,.bool (V_ 0 2).x.num.neg,.slice D3_1 n3_1 c3_1,.slice D3_2 n3_2 c3_2,.bool (V_ 0 2).y.num.neg,.slice D3_4 n3_4 c3_4,.slice D3_5 n3_5 c3_5] 38) from A5f ((GY.o.block _ (by simp) (by intro e;injection e with e;omega)).trans HP0.o) BT.o)
  have RR:=A_ (show y1.heap[w.heap.size]?=some (.cells #[.slice none 0 0,.slice none 0 0] 26) from (GY.o.block _ (by simp;omega) (by intro e;injection e with e;omega)).trans (A5f (A5f RI.o BW4.o) BP.o))
  have Q0:=A_ ((((((A0.o.below HB1.o).below HB2.o).below HB3.o).below BP.o).keep (fun b hb=>GY.o.block b (((((A0.o.below HB1.o).below HB2.o).below HB3.o).below BP.o).lt b hb) (by intro e;injection e with e;have:=S0.o b hb;omega))).below BT.o)
  have Q1:=A_ (((((A1.o.below HB2.o).below HB3.o).below BP.o).keep (fun b hb=>GY.o.block b ((((A1.o.below HB2.o).below HB3.o).below BP.o).lt b hb) (by intro e;injection e with e;have:=S1.o b hb;omega))).below BT.o)
  have Q2:=A_ ((((A2.o.below HB3.o).below BP.o).keep (fun b hb=>GY.o.block b (((A2.o.below HB3.o).below BP.o).lt b hb) (by intro e;injection e with e;have:=S2.o b hb;omega))).below BT.o)
  have Q3:=A_ (((A3.o.below BP.o).keep (fun b hb=>GY.o.block b ((A3.o.below BP.o).lt b hb) (by intro e;injection e with e;have:=S3.o b hb;omega))).below BT.o)
  obtain ⟨r0,e0⟩:=B_ RR.o (j:=0) rfl
  obtain ⟨r1,e1⟩:=B_ RR.o (j:=1) rfl
  have hz9:w.heap.size<y1.heap.size:=by omega
  go_wp2
  refine bodyPost_ret (v:=.agg #[.slice (some ⟨v4.heap.size,0,none⟩) 4 4,.slice (some ⟨y1.heap.size,0,none⟩) 2 2]) (by simp[results,Tryz.results101,go_sem, *]) rfl ?_
  have hk:∀ b,b≠w.heap.size→(((y1.alloc (.cells #[.int .i64 1,.int .i64 2,.int .i64 0,.int .i64 0,.int .i64 0,.int .i64 3,.int .i64 0,.int .i64 2,.int .i64 r,.int .i64 0] 93)).setCell ⟨w.heap.size,0,none⟩ (.slice (some ⟨v4.heap.size,0,none⟩) 4 4)).setCell ⟨w.heap.size,1,none⟩ (.slice (some ⟨y1.heap.size,0,none⟩) 2 2)).heap[b]?=(y1.alloc (.cells #[.int .i64 1,.int .i64 2,.int .i64 0,.int .i64 0,.int .i64 0,.int .i64 3,.int .i64 0,.int .i64 2,.int .i64 r,.int .i64 0] 93)).heap[b]?:=fun b hb=>A0b w.heap.size [.slice (some ⟨v4.heap.size,0,none⟩) 4 4,.slice (some ⟨y1.heap.size,0,none⟩) 2 2] (y1.alloc (.cells #[.int .i64 1,.int .i64 2,.int .i64 0,.int .i64 0,.int .i64 0,.int .i64 3,.int .i64 0,.int .i64 2,.int .i64 r,.int .i64 0] 93)) 0 b hb
  have hv:(((y1.alloc (.cells #[.int .i64 1,.int .i64 2,.int .i64 0,.int .i64 0,.int .i64 0,.int .i64 3,.int .i64 0,.int .i64 2,.int .i64 r,.int .i64 0] 93)).setCell ⟨w.heap.size,0,none⟩ (.slice (some ⟨v4.heap.size,0,none⟩) 4 4)).setCell ⟨w.heap.size,1,none⟩ (.slice (some ⟨y1.heap.size,0,none⟩) 2 2))=(((y1.setCell ⟨w.heap.size,0,none⟩ (.slice (some ⟨v4.heap.size,0,none⟩) 4 4)).setCell ⟨w.heap.size,1,none⟩ (.slice (some ⟨y1.heap.size,0,none⟩) 2 2)).alloc (.cells #[.int .i64 1,.int .i64 2,.int .i64 0,.int .i64 0,.int .i64 0,.int .i64 3,.int .i64 0,.int .i64 2,.int .i64 r,.int .i64 0] 93)):=by go_simp
  rw[hv] at hk
  have HBN:=A_ (show Below w.heap.size y1 (((y1.setCell ⟨w.heap.size,0,none⟩ (.slice (some ⟨v4.heap.size,0,none⟩) 4 4)).setCell ⟨w.heap.size,1,none⟩ (.slice (some ⟨y1.heap.size,0,none⟩) 2 2)).alloc (.cells #[.int .i64 1,.int .i64 2,.int .i64 0,.int .i64 0,.int .i64 0,.int .i64 3,.int .i64 0,.int .i64 2,.int .i64 r,.int .i64 0] 93)) from (((Below.refl w.heap.size y1).setCell (p:=⟨w.heap.size,0,none⟩) (Nat.le_refl _) _).setCell (p:=⟨w.heap.size,1,none⟩) (Nat.le_refl _) _).alloc (by simp;omega) _)
  obtain ⟨W,hW⟩:∃ W,(((y1.setCell ⟨w.heap.size,0,none⟩ (.slice (some ⟨v4.heap.size,0,none⟩) 4 4)).setCell ⟨w.heap.size,1,none⟩ (.slice (some ⟨y1.heap.size,0,none⟩) 2 2)).alloc (.cells #[.int .i64 1,.int .i64 2,.int .i64 0,.int .i64 0,.int .i64 0,.int .i64 3,.int .i64 0,.int .i64 2,.int .i64 r,.int .i64 0] 93))=W:=⟨_,rfl⟩
  rw[hW] at hk HBN ⊢
  clear hv hW
  have D0:=A5i (Q0.o.keep (fun b hb=>hk b (by have:=S0.o b hb;omega)))
  have D1:=A5i (Q1.o.keep (fun b hb=>hk b (by have:=S1.o b hb;omega)))
  have D2:=A5i (Q2.o.keep (fun b hb=>hk b (by have:=S2.o b hb;omega)))
  have D3:=A5i (Q3.o.keep (fun b hb=>hk b (by have:=S3.o b hb;omega)))
  obtain ⟨b1,hsl1,hr1⟩:=B2l (α:=TPoint) (n:=4) ((hk _ (by omega)).trans HP9.o) (by rfl) (by decide) (Filled.push (Filled.push (Filled.push (Filled.push (Filled.nil (α:=TPoint) W []) (by rfl) D0) (by rfl) D1) (by rfl) D2) (by rfl) D3) (by rfl)
  obtain ⟨b2,hsl2,hr2⟩:=B2l (α:=TTri) (n:=2) ((hk _ (by omega)).trans HT9.o) (by rfl) (by decide) (Filled.push (Filled.push (Filled.nil (α:=TTri) W []) (by rfl) (A5z W 1 2 0 0 0 (U_ (by decide)) (U_ (by decide)) (U_ (by decide)) (U_ (by decide)) (U_ (by decide)))) (by rfl) (A5z W 3 0 2 r 0 (U_ (by decide)) (U_ (by decide)) (U_ (by decide)) (U_ (by omega)) (U_ (by decide)))) (by rfl)
  refine ⟨A6y r,_,_,rfl,.inr (.inl ⟨r,hr,rfl⟩),TMesh.mkAgg (x:=A6y r) hsl1 hsl2,B0p (A2j (A2j (A2j G1.o (A1u BW4.o _)) (A1u BP.o _)) GY.o) HBN.o,D1m (CY.o.below' BT.o) (hk g (by omega)) (by have h1:=HBN.o.size;have h2:=GY.o.size;(try simp at h2);omega),fun b hb=>?_⟩
  rcases List.mem_append.1 hb with hb | hb
  ·rcases hr1 b hb with rfl | hb
   ·omega
   obtain ⟨l,hl,hb2⟩:=List.mem_flatten.1 hb
   simp at hl
   rcases hl with rfl | rfl | rfl | rfl
   ·have:=S0.o b hb2;omega
   ·have:=S1.o b hb2;omega
   ·have:=S2.o b hb2;omega
   have:=S3.o b hb2;omega
  rcases hr2 b hb with rfl | hb
  ·omega
  obtain ⟨l,hl,hb2⟩:=List.mem_flatten.1 hb
  simp at hl
  subst hl
  cases hb2
 go_wp2_with fail
 refine (A1b 0 0 _ (by constructor<;>decide) (by constructor<;>decide)).mono ?_
 rintro _ v1 ⟨u0,s0,rfl,ha0,ho0,hb0⟩
 obtain ⟨D0_1,n0_1,c0_1,e0_1,D0_2,n0_2,c0_2,e0_2,D0_4,n0_4,c0_4,e0_4,D0_5,n0_5,c0_5,e0_5,rfl,z0,_,_,_,_⟩:=TPoint.agg ha0
 have A0:=A_ ha0;have HB0:=A_ hb0
 have S0:=A_ (show ∀ b∈s0,wi.heap.size≤b from fun b hb=>Nat.le_trans BW0.o.size (ho0.2 b hb).1)
 have BW1:=A_ (Below.next BW0.o hb0)
 clear ha0 ho0 hb0 z0
 go_wp2_with fail
 refine (A1b 1 0 _ (by constructor<;>decide) (by constructor<;>decide)).mono ?_
 rintro _ v2 ⟨u1,s1,rfl,ha1,ho1,hb1⟩
 obtain ⟨D1_1,n1_1,c1_1,e1_1,D1_2,n1_2,c1_2,e1_2,D1_4,n1_4,c1_4,e1_4,D1_5,n1_5,c1_5,e1_5,rfl,z1,_,_,_,_⟩:=TPoint.agg ha1
 have A1:=A_ ha1;have HB1:=A_ hb1
 have S1:=A_ (show ∀ b∈s1,wi.heap.size≤b from fun b hb=>Nat.le_trans BW1.o.size (ho1.2 b hb).1)
 have BW2:=A_ (Below.next BW1.o hb1)
 clear ha1 ho1 hb1 z1
 go_wp2_with fail
 refine (A1b 2 0 _ (by constructor<;>decide) (by constructor<;>decide)).mono ?_
 rintro _ v3 ⟨u2,s2,rfl,ha2,ho2,hb2⟩
 obtain ⟨D2_1,n2_1,c2_1,e2_1,D2_2,n2_2,c2_2,e2_2,D2_4,n2_4,c2_4,e2_4,D2_5,n2_5,c2_5,e2_5,rfl,z2,_,_,_,_⟩:=TPoint.agg ha2
 have A2:=A_ ha2;have HB2:=A_ hb2
 have S2:=A_ (show ∀ b∈s2,wi.heap.size≤b from fun b hb=>Nat.le_trans BW2.o.size (ho2.2 b hb).1)
 have BW3:=A_ (Below.next BW2.o hb2)
 clear ha2 ho2 hb2 z2
 go_wp2_with fail
 refine (A1b 2 1 _ (by constructor<;>decide) (by constructor<;>decide)).mono ?_
 rintro _ v4 ⟨u3,s3,rfl,ha3,ho3,hb3⟩
 obtain ⟨D3_1,n3_1,c3_1,e3_1,D3_2,n3_2,c3_2,e3_2,D3_4,n3_4,c3_4,e3_4,D3_5,n3_5,c3_5,e3_5,rfl,z3,_,_,_,_⟩:=TPoint.agg ha3
 have A3:=A_ ha3;have HB3:=A_ hb3
 have S3:=A_ (show ∀ b∈s3,wi.heap.size≤b from fun b hb=>Nat.le_trans BW3.o.size (ho3.2 b hb).1)
 have BW4:=A_ (Below.next BW3.o hb3)
 clear ha3 ho3 hb3 z3
 go_wp2_with fail
 refine (A1b 1 1 _ (by constructor<;>decide) (by constructor<;>decide)).mono ?_
 rintro _ v5 ⟨u4,s4,rfl,ha4,ho4,hb4⟩
 obtain ⟨D4_1,n4_1,c4_1,e4_1,D4_2,n4_2,c4_2,e4_2,D4_4,n4_4,c4_4,e4_4,D4_5,n4_5,c4_5,e4_5,rfl,z4,_,_,_,_⟩:=TPoint.agg ha4
 have A4:=A_ ha4;have HB4:=A_ hb4
 have S4:=A_ (show ∀ b∈s4,wi.heap.size≤b from fun b hb=>Nat.le_trans BW4.o.size (ho4.2 b hb).1)
 have BW5:=A_ (Below.next BW4.o hb4)
 clear ha4 ho4 hb4 z4
 go_wp2_with fail
 refine (A1b 1 2 _ (by constructor<;>decide) (by constructor<;>decide)).mono ?_
 rintro _ v6 ⟨u5,s5,rfl,ha5,ho5,hb5⟩
 obtain ⟨D5_1,n5_1,c5_1,e5_1,D5_2,n5_2,c5_2,e5_2,D5_4,n5_4,c5_4,e5_4,D5_5,n5_5,c5_5,e5_5,rfl,z5,_,_,_,_⟩:=TPoint.agg ha5
 have A5:=A_ ha5;have HB5:=A_ hb5
 have S5:=A_ (show ∀ b∈s5,wi.heap.size≤b from fun b hb=>Nat.le_trans BW5.o.size (ho5.2 b hb).1)
 have BW6:=A_ (Below.next BW5.o hb5)
 clear ha5 ho5 hb5 z5
 go_wp2_with fail
 refine (A1b 0 2 _ (by constructor<;>decide) (by constructor<;>decide)).mono ?_
 rintro _ v7 ⟨u6,s6,rfl,ha6,ho6,hb6⟩
 obtain ⟨D6_1,n6_1,c6_1,e6_1,D6_2,n6_2,c6_2,e6_2,D6_4,n6_4,c6_4,e6_4,D6_5,n6_5,c6_5,e6_5,rfl,z6,_,_,_,_⟩:=TPoint.agg ha6
 have A6:=A_ ha6;have HB6:=A_ hb6
 have S6:=A_ (show ∀ b∈s6,wi.heap.size≤b from fun b hb=>Nat.le_trans BW6.o.size (ho6.2 b hb).1)
 have BW7:=A_ (Below.next BW6.o hb6)
 clear ha6 ho6 hb6 z6
 go_wp2_with fail
 refine (A1b 0 1 _ (by constructor<;>decide) (by constructor<;>decide)).mono ?_
 rintro _ v8 ⟨u7,s7,rfl,ha7,ho7,hb7⟩
 obtain ⟨D7_1,n7_1,c7_1,e7_1,D7_2,n7_2,c7_2,e7_2,D7_4,n7_4,c7_4,e7_4,D7_5,n7_5,c7_5,e7_5,rfl,z7,_,_,_,_⟩:=TPoint.agg ha7
 have A7:=A_ ha7;have HB7:=A_ hb7
 have S7:=A_ (show ∀ b∈s7,wi.heap.size≤b from fun b hb=>Nat.le_trans BW7.o.size (ho7.2 b hb).1)
 have BW8:=A_ (Below.next BW7.o hb7)
 clear ha7 ho7 hb7 z7
 have BP:=A_ (Below.box (w:=v8) (.cells #[.bool (V_ 0 0).x.num.neg,.slice D0_1 n0_1 c0_1,.slice D0_2 n0_2 c0_2,.bool (V_ 0 0).y.num.neg,.slice D0_4 n0_4 c0_4,.slice D0_5 n0_5 c0_5,.bool (V_ 1 0).x.num.neg,.slice D1_1 n1_1 c1_1,.slice D1_2 n1_2 c1_2,.bool (V_ 1 0).y.num.neg,.slice D1_4 n1_4 c1_4,.slice D1_5 n1_5 c1_5,.bool (V_ 2 0).x.num.neg,.slice D2_1 n2_1 c2_1,.slice D2_2 n2_2 c2_2,.bool (V_ 2 0).y.num.neg,.slice D2_4 n2_4 c2_4,.slice D2_5 n2_5 c2_5,.bool (V_ 2 1).x.num.neg,.slice D3_1 n3_1 c3_1,.slice D3_2 n3_2 c3_2,.bool (V_ 2 1).y.num.neg,.slice D3_4 n3_4 c3_4,.slice D3_5 n3_5 c3_5,.bool (V_ 1 1).x.num.neg,.slice D4_1 n4_1 c4_1,.slice D4_2 n4_2 c4_2,.bool (V_ 1 1).y.num.neg,.slice D4_4 n4_4 c4_4,.slice D4_5 n4_5 c4_5,.bool (V_ 1 2).x.num.neg,.slice D5_1 n5_1 c5_1,.slice D5_2 n5_2 c5_2,.bool (V_ 1 2).y.num.neg,.slice D5_4 n5_4 c5_4,.slice D5_5 n5_5 c5_5,.bool (V_ 0 2).x.num.neg,.slice D6_1 n6_1 c6_1,.slice D6_2 n6_2 c6_2,.bool (V_ 0 2).y.num.neg,.slice D6_4 n6_4 c6_4,.slice D6_5 n6_5 c6_5,.bool (V_ 0 1).x.num.neg,.slice D7_1 n7_1 c7_1,.slice D7_2 n7_2 c7_2,.bool (V_ 0 1).y.num.neg,.slice D7_4 n7_4 c7_4,.slice D7_5 n7_5 c7_5] 38))
 have HP0:=A_ (show (v8.alloc (.cells #[.bool (V_ 0 0).x.num.neg,.slice D0_1 n0_1 c0_1,.slice D0_2 n0_2 c0_2,.bool (V_ 0 0).y.num.neg,.slice D0_4 n0_4 c0_4,.slice D0_5 n0_5 c0_5,.bool (V_ 1 0).x.num.neg,.slice D1_1 n1_1 c1_1,.slice D1_2 n1_2 c1_2,.bool (V_ 1 0).y.num.neg,.slice D1_4 n1_4 c1_4,.slice D1_5 n1_5 c1_5,.bool (V_ 2 0).x.num.neg,.slice D2_1 n2_1 c2_1,.slice D2_2 n2_2 c2_2,.bool (V_ 2 0).y.num.neg,.slice D2_4 n2_4 c2_4,.slice D2_5 n2_5 c2_5,.bool (V_ 2 1).x.num.neg,.slice D3_1 n3_1 c3_1,.slice D3_2 n3_2 c3_2,.bool (V_ 2 1).y.num.neg,.slice D3_4 n3_4 c3_4,.slice D3_5 n3_5 c3_5,.bool (V_ 1 1).x.num.neg,.slice D4_1 n4_1 c4_1,.slice D4_2 n4_2 c4_2,.bool (V_ 1 1).y.num.neg,.slice D4_4 n4_4 c4_4,.slice D4_5 n4_5 c4_5,.bool (V_ 1 2).x.num.neg,.slice D5_1 n5_1 c5_1,.slice D5_2 n5_2 c5_2,.bool (V_ 1 2).y.num.neg,.slice D5_4 n5_4 c5_4,.slice D5_5 n5_5 c5_5,.bool (V_ 0 2).x.num.neg,.slice D6_1 n6_1 c6_1,.slice D6_2 n6_2 c6_2,.bool (V_ 0 2).y.num.neg,.slice D6_4 n6_4 c6_4,.slice D6_5 n6_5 c6_5,.bool (V_ 0 1).x.num.neg,.slice D7_1 n7_1 c7_1,.slice D7_2 n7_2 c7_2,.bool (V_ 0 1).y.num.neg,.slice D7_4 n7_4 c7_4,.slice D7_5 n7_5 c7_5] 38)).heap[v8.heap.size]?=some (.cells #[.bool (V_ 0 0).x.num.neg,.slice D0_1 n0_1 c0_1,.slice D0_2 n0_2 c0_2,.bool (V_ 0 0).y.num.neg,.slice D0_4 n0_4 c0_4,.slice D0_5 n0_5 c0_5,.bool (V_ 1 0).x.num.neg,.slice D1_1 n1_1 c1_1,.slice D1_2 n1_2 c1_2,.bool (V_ 1 0).y.num.neg,.slice D1_4 n1_4 c1_4,.slice D1_5 n1_5 c1_5,.bool (V_ 2 0).x.num.neg,.slice D2_1 n2_1 c2_1,.slice D2_2 n2_2 c2_2,.bool (V_ 2 0).y.num.neg,.slice D2_4 n2_4 c2_4,.slice D2_5 n2_5 c2_5,.bool (V_ 2 1).x.num.neg,.slice D3_1 n3_1 c3_1,.slice D3_2 n3_2 c3_2,.bool (V_ 2 1).y.num.neg,.slice D3_4 n3_4 c3_4,.slice D3_5 n3_5 c3_5,.bool (V_ 1 1).x.num.neg,.slice D4_1 n4_1 c4_1,.slice D4_2 n4_2 c4_2,.bool (V_ 1 1).y.num.neg,.slice D4_4 n4_4 c4_4,.slice D4_5 n4_5 c4_5,.bool (V_ 1 2).x.num.neg,.slice D5_1 n5_1 c5_1,.slice D5_2 n5_2 c5_2,.bool (V_ 1 2).y.num.neg,.slice D5_4 n5_4 c5_4,.slice D5_5 n5_5 c5_5,.bool (V_ 0 2).x.num.neg,.slice D6_1 n6_1 c6_1,.slice D6_2 n6_2 c6_2,.bool (V_ 0 2).y.num.neg,.slice D6_4 n6_4 c6_4,.slice D6_5 n6_5 c6_5,.bool (V_ 0 1).x.num.neg,.slice D7_1 n7_1 c7_1,.slice D7_2 n7_2 c7_2,.bool (V_ 0 1).y.num.neg,.slice D7_4 n7_4 c7_4,.slice D7_5 n7_5 c7_5] 38) from heap_alloc_new v8 _)
 have GY:=A_ (show (v8.alloc (.cells #[.bool (V_ 0 0).x.num.neg,.slice D0_1 n0_1 c0_1,.slice D0_2 n0_2 c0_2,.bool (V_ 0 0).y.num.neg,.slice D0_4 n0_4 c0_4,.slice D0_5 n0_5 c0_5,.bool (V_ 1 0).x.num.neg,.slice D1_1 n1_1 c1_1,.slice D1_2 n1_2 c1_2,.bool (V_ 1 0).y.num.neg,.slice D1_4 n1_4 c1_4,.slice D1_5 n1_5 c1_5,.bool (V_ 2 0).x.num.neg,.slice D2_1 n2_1 c2_1,.slice D2_2 n2_2 c2_2,.bool (V_ 2 0).y.num.neg,.slice D2_4 n2_4 c2_4,.slice D2_5 n2_5 c2_5,.bool (V_ 2 1).x.num.neg,.slice D3_1 n3_1 c3_1,.slice D3_2 n3_2 c3_2,.bool (V_ 2 1).y.num.neg,.slice D3_4 n3_4 c3_4,.slice D3_5 n3_5 c3_5,.bool (V_ 1 1).x.num.neg,.slice D4_1 n4_1 c4_1,.slice D4_2 n4_2 c4_2,.bool (V_ 1 1).y.num.neg,.slice D4_4 n4_4 c4_4,.slice D4_5 n4_5 c4_5,.bool (V_ 1 2).x.num.neg,.slice D5_1 n5_1 c5_1,.slice D5_2 n5_2 c5_2,.bool (V_ 1 2).y.num.neg,.slice D5_4 n5_4 c5_4,.slice D5_5 n5_5 c5_5,.bool (V_ 0 2).x.num.neg,.slice D6_1 n6_1 c6_1,.slice D6_2 n6_2 c6_2,.bool (V_ 0 2).y.num.neg,.slice D6_4 n6_4 c6_4,.slice D6_5 n6_5 c6_5,.bool (V_ 0 1).x.num.neg,.slice D7_1 n7_1 c7_1,.slice D7_2 n7_2 c7_2,.bool (V_ 0 1).y.num.neg,.slice D7_4 n7_4 c7_4,.slice D7_5 n7_5 c7_5] 38)).grownBy (v8.alloc (.cells #[.bool (V_ 0 0).x.num.neg,.slice D0_1 n0_1 c0_1,.slice D0_2 n0_2 c0_2,.bool (V_ 0 0).y.num.neg,.slice D0_4 n0_4 c0_4,.slice D0_5 n0_5 c0_5,.bool (V_ 1 0).x.num.neg,.slice D1_1 n1_1 c1_1,.slice D1_2 n1_2 c1_2,.bool (V_ 1 0).y.num.neg,.slice D1_4 n1_4 c1_4,.slice D1_5 n1_5 c1_5,.bool (V_ 2 0).x.num.neg,.slice D2_1 n2_1 c2_1,.slice D2_2 n2_2 c2_2,.bool (V_ 2 0).y.num.neg,.slice D2_4 n2_4 c2_4,.slice D2_5 n2_5 c2_5,.bool (V_ 2 1).x.num.neg,.slice D3_1 n3_1 c3_1,.slice D3_2 n3_2 c3_2,.bool (V_ 2 1).y.num.neg,.slice D3_4 n3_4 c3_4,.slice D3_5 n3_5 c3_5,.bool (V_ 1 1).x.num.neg,.slice D4_1 n4_1 c4_1,.slice D4_2 n4_2 c4_2,.bool (V_ 1 1).y.num.neg,.slice D4_4 n4_4 c4_4,.slice D4_5 n4_5 c4_5,.bool (V_ 1 2).x.num.neg,.slice D5_1 n5_1 c5_1,.slice D5_2 n5_2 c5_2,.bool (V_ 1 2).y.num.neg,.slice D5_4 n5_4 c5_4,.slice D5_5 n5_5 c5_5,.bool (V_ 0 2).x.num.neg,.slice D6_1 n6_1 c6_1,.slice D6_2 n6_2 c6_2,.bool (V_ 0 2).y.num.neg,.slice D6_4 n6_4 c6_4,.slice D6_5 n6_5 c6_5,.bool (V_ 0 1).x.num.neg,.slice D7_1 n7_1 c7_1,.slice D7_2 n7_2 c7_2,.bool (V_ 0 1).y.num.neg,.slice D7_4 n7_4 c7_4,.slice D7_5 n7_5 c7_5] 38)) (some g) from A1u (Below.refl _ _) _)
 have CY:=A_ ((CI.o.below' BW8.o).below' BP.o)
 have HT9:=A_ (show ((v8.alloc (.cells #[.bool (V_ 0 0).x.num.neg,.slice D0_1 n0_1 c0_1,.slice D0_2 n0_2 c0_2,.bool (V_ 0 0).y.num.neg,.slice D0_4 n0_4 c0_4,.slice D0_5 n0_5 c0_5,.bool (V_ 1 0).x.num.neg,.slice D1_1 n1_1 c1_1,.slice D1_2 n1_2 c1_2,.bool (V_ 1 0).y.num.neg,.slice D1_4 n1_4 c1_4,.slice D1_5 n1_5 c1_5,.bool (V_ 2 0).x.num.neg,.slice D2_1 n2_1 c2_1,.slice D2_2 n2_2 c2_2,.bool (V_ 2 0).y.num.neg,.slice D2_4 n2_4 c2_4,.slice D2_5 n2_5 c2_5,.bool (V_ 2 1).x.num.neg,.slice D3_1 n3_1 c3_1,.slice D3_2 n3_2 c3_2,.bool (V_ 2 1).y.num.neg,.slice D3_4 n3_4 c3_4,.slice D3_5 n3_5 c3_5,.bool (V_ 1 1).x.num.neg,.slice D4_1 n4_1 c4_1,.slice D4_2 n4_2 c4_2,.bool (V_ 1 1).y.num.neg,.slice D4_4 n4_4 c4_4,.slice D4_5 n4_5 c4_5,.bool (V_ 1 2).x.num.neg,.slice D5_1 n5_1 c5_1,.slice D5_2 n5_2 c5_2,.bool (V_ 1 2).y.num.neg,.slice D5_4 n5_4 c5_4,.slice D5_5 n5_5 c5_5,.bool (V_ 0 2).x.num.neg,.slice D6_1 n6_1 c6_1,.slice D6_2 n6_2 c6_2,.bool (V_ 0 2).y.num.neg,.slice D6_4 n6_4 c6_4,.slice D6_5 n6_5 c6_5,.bool (V_ 0 1).x.num.neg,.slice D7_1 n7_1 c7_1,.slice D7_2 n7_2 c7_2,.bool (V_ 0 1).y.num.neg,.slice D7_4 n7_4 c7_4,.slice D7_5 n7_5 c7_5] 38)).alloc (.cells #[.int .i64 1,.int .i64 4,.int .i64 0,.int .i64 0,.int .i64 0,.int .i64 7,.int .i64 0,.int .i64 4,.int .i64 0,.int .i64 0,.int .i64 3,.int .i64 4,.int .i64 2,.int .i64 0,.int .i64 0,.int .i64 1,.int .i64 2,.int .i64 4,.int .i64 1,.int .i64 0,.int .i64 7,.int .i64 4,.int .i64 6,.int .i64 0,.int .i64 0,.int .i64 5,.int .i64 6,.int .i64 4,.int .i64 2,.int .i64 0] 93)).heap[v8.heap.size+1]?=some (.cells #[.int .i64 1,.int .i64 4,.int .i64 0,.int .i64 0,.int .i64 0,.int .i64 7,.int .i64 0,.int .i64 4,.int .i64 0,.int .i64 0,.int .i64 3,.int .i64 4,.int .i64 2,.int .i64 0,.int .i64 0,.int .i64 1,.int .i64 2,.int .i64 4,.int .i64 1,.int .i64 0,.int .i64 7,.int .i64 4,.int .i64 6,.int .i64 0,.int .i64 0,.int .i64 5,.int .i64 6,.int .i64 4,.int .i64 2,.int .i64 0] 93) from by have:=heap_alloc_new (v8.alloc (.cells #[.bool (V_ 0 0).x.num.neg,.slice D0_1 n0_1 c0_1,.slice D0_2 n0_2 c0_2,.bool (V_ 0 0).y.num.neg,.slice D0_4 n0_4 c0_4,.slice D0_5 n0_5 c0_5,.bool (V_ 1 0).x.num.neg,.slice D1_1 n1_1 c1_1,.slice D1_2 n1_2 c1_2,.bool (V_ 1 0).y.num.neg,.slice D1_4 n1_4 c1_4,.slice D1_5 n1_5 c1_5,.bool (V_ 2 0).x.num.neg,.slice D2_1 n2_1 c2_1,.slice D2_2 n2_2 c2_2,.bool (V_ 2 0).y.num.neg,.slice D2_4 n2_4 c2_4,.slice D2_5 n2_5 c2_5,.bool (V_ 2 1).x.num.neg,.slice D3_1 n3_1 c3_1,.slice D3_2 n3_2 c3_2,.bool (V_ 2 1).y.num.neg,.slice D3_4 n3_4 c3_4,.slice D3_5 n3_5 c3_5,.bool (V_ 1 1).x.num.neg,.slice D4_1 n4_1 c4_1,.slice D4_2 n4_2 c4_2,.bool (V_ 1 1).y.num.neg,.slice D4_4 n4_4 c4_4,.slice D4_5 n4_5 c4_5,.bool (V_ 1 2).x.num.neg,.slice D5_1 n5_1 c5_1,.slice D5_2 n5_2 c5_2,.bool (V_ 1 2).y.num.neg,.slice D5_4 n5_4 c5_4,.slice D5_5 n5_5 c5_5,.bool (V_ 0 2).x.num.neg,.slice D6_1 n6_1 c6_1,.slice D6_2 n6_2 c6_2,.bool (V_ 0 2).y.num.neg,.slice D6_4 n6_4 c6_4,.slice D6_5 n6_5 c6_5,.bool (V_ 0 1).x.num.neg,.slice D7_1 n7_1 c7_1,.slice D7_2 n7_2 c7_2,.bool (V_ 0 1).y.num.neg,.slice D7_4 n7_4 c7_4,.slice D7_5 n7_5 c7_5] 38)) (.cells #[.int .i64 1,.int .i64 4,.int .i64 0,.int .i64 0,.int .i64 0,.int .i64 7,.int .i64 0,.int .i64 4,.int .i64 0,.int .i64 0,.int .i64 3,.int .i64 4,.int .i64 2,.int .i64 0,.int .i64 0,.int .i64 1,.int .i64 2,.int .i64 4,.int .i64 1,.int .i64 0,.int .i64 7,.int .i64 4,.int .i64 6,.int .i64 0,.int .i64 0,.int .i64 5,.int .i64 6,.int .i64 4,.int .i64 2,.int .i64 0] 93);rw[World.size_alloc] at this;exact this)
 have BT:=A_ (Below.box (w:=(v8.alloc (.cells #[.bool (V_ 0 0).x.num.neg,.slice D0_1 n0_1 c0_1,.slice D0_2 n0_2 c0_2,.bool (V_ 0 0).y.num.neg,.slice D0_4 n0_4 c0_4,.slice D0_5 n0_5 c0_5,.bool (V_ 1 0).x.num.neg,.slice D1_1 n1_1 c1_1,.slice D1_2 n1_2 c1_2,.bool (V_ 1 0).y.num.neg,.slice D1_4 n1_4 c1_4,.slice D1_5 n1_5 c1_5,.bool (V_ 2 0).x.num.neg,.slice D2_1 n2_1 c2_1,.slice D2_2 n2_2 c2_2,.bool (V_ 2 0).y.num.neg,.slice D2_4 n2_4 c2_4,.slice D2_5 n2_5 c2_5,.bool (V_ 2 1).x.num.neg,.slice D3_1 n3_1 c3_1,.slice D3_2 n3_2 c3_2,.bool (V_ 2 1).y.num.neg,.slice D3_4 n3_4 c3_4,.slice D3_5 n3_5 c3_5,.bool (V_ 1 1).x.num.neg,.slice D4_1 n4_1 c4_1,.slice D4_2 n4_2 c4_2,.bool (V_ 1 1).y.num.neg,.slice D4_4 n4_4 c4_4,.slice D4_5 n4_5 c4_5,.bool (V_ 1 2).x.num.neg,.slice D5_1 n5_1 c5_1,.slice D5_2 n5_2 c5_2,.bool (V_ 1 2).y.num.neg,.slice D5_4 n5_4 c5_4,.slice D5_5 n5_5 c5_5,.bool (V_ 0 2).x.num.neg,.slice D6_1 n6_1 c6_1,.slice D6_2 n6_2 c6_2,.bool (V_ 0 2).y.num.neg,.slice D6_4 n6_4 c6_4,.slice D6_5 n6_5 c6_5,.bool (V_ 0 1).x.num.neg,.slice D7_1 n7_1 c7_1,.slice D7_2 n7_2 c7_2,.bool (V_ 0 1).y.num.neg,.slice D7_4 n7_4 c7_4,.slice D7_5 n7_5 c7_5] 38))) (.cells #[.int .i64 1,.int .i64 4,.int .i64 0,.int .i64 0,.int .i64 0,.int .i64 7,.int .i64 0,.int .i64 4,.int .i64 0,.int .i64 0,.int .i64 3,.int .i64 4,.int .i64 2,.int .i64 0,.int .i64 0,.int .i64 1,.int .i64 2,.int .i64 4,.int .i64 1,.int .i64 0,.int .i64 7,.int .i64 4,.int .i64 6,.int .i64 0,.int .i64 0,.int .i64 5,.int .i64 6,.int .i64 4,.int .i64 2,.int .i64 0] 93))
 have hsz:v8.heap.size<(v8.alloc (.cells #[.bool (V_ 0 0).x.num.neg,.slice D0_1 n0_1 c0_1,.slice D0_2 n0_2 c0_2,.bool (V_ 0 0).y.num.neg,.slice D0_4 n0_4 c0_4,.slice D0_5 n0_5 c0_5,.bool (V_ 1 0).x.num.neg,.slice D1_1 n1_1 c1_1,.slice D1_2 n1_2 c1_2,.bool (V_ 1 0).y.num.neg,.slice D1_4 n1_4 c1_4,.slice D1_5 n1_5 c1_5,.bool (V_ 2 0).x.num.neg,.slice D2_1 n2_1 c2_1,.slice D2_2 n2_2 c2_2,.bool (V_ 2 0).y.num.neg,.slice D2_4 n2_4 c2_4,.slice D2_5 n2_5 c2_5,.bool (V_ 2 1).x.num.neg,.slice D3_1 n3_1 c3_1,.slice D3_2 n3_2 c3_2,.bool (V_ 2 1).y.num.neg,.slice D3_4 n3_4 c3_4,.slice D3_5 n3_5 c3_5,.bool (V_ 1 1).x.num.neg,.slice D4_1 n4_1 c4_1,.slice D4_2 n4_2 c4_2,.bool (V_ 1 1).y.num.neg,.slice D4_4 n4_4 c4_4,.slice D4_5 n4_5 c4_5,.bool (V_ 1 2).x.num.neg,.slice D5_1 n5_1 c5_1,.slice D5_2 n5_2 c5_2,.bool (V_ 1 2).y.num.neg,.slice D5_4 n5_4 c5_4,.slice D5_5 n5_5 c5_5,.bool (V_ 0 2).x.num.neg,.slice D6_1 n6_1 c6_1,.slice D6_2 n6_2 c6_2,.bool (V_ 0 2).y.num.neg,.slice D6_4 n6_4 c6_4,.slice D6_5 n6_5 c6_5,.bool (V_ 0 1).x.num.neg,.slice D7_1 n7_1 c7_1,.slice D7_2 n7_2 c7_2,.bool (V_ 0 1).y.num.neg,.slice D7_4 n7_4 c7_4,.slice D7_5 n7_5 c7_5] 38)).heap.size:=by simp
 have hwn:w.heap.size+1≤v8.heap.size:=by have:=BW8.o.size;omega
 have HP9:=A_ (show ((v8.alloc (.cells #[.bool (V_ 0 0).x.num.neg,.slice D0_1 n0_1 c0_1,.slice D0_2 n0_2 c0_2,.bool (V_ 0 0).y.num.neg,.slice D0_4 n0_4 c0_4,.slice D0_5 n0_5 c0_5,.bool (V_ 1 0).x.num.neg,.slice D1_1 n1_1 c1_1,.slice D1_2 n1_2 c1_2,.bool (V_ 1 0).y.num.neg,.slice D1_4 n1_4 c1_4,.slice D1_5 n1_5 c1_5,.bool (V_ 2 0).x.num.neg,.slice D2_1 n2_1 c2_1,.slice D2_2 n2_2 c2_2,.bool (V_ 2 0).y.num.neg,.slice D2_4 n2_4 c2_4,.slice D2_5 n2_5 c2_5,.bool (V_ 2 1).x.num.neg,.slice D3_1 n3_1 c3_1,.slice D3_2 n3_2 c3_2,.bool (V_ 2 1).y.num.neg,.slice D3_4 n3_4 c3_4,.slice D3_5 n3_5 c3_5,.bool (V_ 1 1).x.num.neg,.slice D4_1 n4_1 c4_1,.slice D4_2 n4_2 c4_2,.bool (V_ 1 1).y.num.neg,.slice D4_4 n4_4 c4_4,.slice D4_5 n4_5 c4_5,.bool (V_ 1 2).x.num.neg,.slice D5_1 n5_1 c5_1,.slice D5_2 n5_2 c5_2,.bool (V_ 1 2).y.num.neg,.slice D5_4 n5_4 c5_4,.slice D5_5 n5_5 c5_5,.bool (V_ 0 2).x.num.neg,.slice D6_1 n6_1 c6_1,.slice D6_2 n6_2 c6_2,.bool (V_ 0 2).y.num.neg,.slice D6_4 n6_4 c6_4,.slice D6_5 n6_5 c6_5,.bool (V_ 0 1).x.num.neg,.slice D7_1 n7_1 c7_1,.slice D7_2 n7_2 c7_2,.bool (V_ 0 1).y.num.neg,.slice D7_4 n7_4 c7_4,.slice D7_5 n7_5 c7_5] 38)).alloc (.cells #[.int .i64 1,.int .i64 4,.int .i64 0,.int .i64 0,.int .i64 0,.int .i64 7,.int .i64 0,.int .i64 4,.int .i64 0,.int .i64 0,.int .i64 3,.int .i64 4,.int .i64 2,.int .i64 0,.int .i64 0,.int .i64 1,.int .i64 2,.int .i64 4,.int .i64 1,.int .i64 0,.int .i64 7,.int .i64 4,.int .i64 6,.int .i64 0,.int .i64 0,.int .i64 5,.int .i64 6,.int .i64 4,.int .i64 2,.int .i64 0] 93)).heap[v8.heap.size]?=some (.cells #[.bool (V_ 0 0).x.num.neg,.slice D0_1 n0_1 c0_1,.slice D0_2 n0_2 c0_2,.bool (V_ 0 0).y.num.neg,.slice D0_4 n0_4 c0_4,.slice D0_5 n0_5 c0_5,.bool (V_ 1 0).x.num.neg,.slice D1_1 n1_1 c1_1,.slice D1_2 n1_2 c1_2,.bool (V_ 1 0).y.num.neg,.slice D1_4 n1_4 c1_4,.slice D1_5 n1_5 c1_5,.bool (V_ 2 0).x.num.neg,.slice D2_1 n2_1 c2_1,.slice D2_2 n2_2 c2_2,.bool (V_ 2 0).y.num.neg,.slice D2_4 n2_4 c2_4,.slice D2_5 n2_5 c2_5,.bool (V_ 2 1).x.num.neg,.slice D3_1 n3_1 c3_1,.slice D3_2 n3_2 c3_2,.bool (V_ 2 1).y.num.neg,.slice D3_4 n3_4 c3_4,.slice D3_5 n3_5 c3_5,.bool (V_ 1 1).x.num.neg,.slice D4_1 n4_1 c4_1,.slice D4_2 n4_2 c4_2,.bool (V_ 1 1).y.num.neg,.slice D4_4 n4_4 c4_4,.slice D4_5 n4_5 c4_5,.bool (V_ 1 2).x.num.neg,.slice D5_1 n5_1 c5_1,.slice D5_2 n5_2 c5_2,.bool (V_ 1 2).y.num.neg,.slice D5_4 n5_4 c5_4,.slice D5_5 n5_5 c5_5,.bool (V_ 0 2).x.num.neg,.slice D6_1 n6_1 c6_1,.slice D6_2 n6_2 c6_2,.bool (V_ 0 2).y.num.neg,.slice D6_4 n6_4 c6_4,.slice D6_5 n6_5 c6_5,.bool (V_ 0 1).x.num.neg,.slice D7_1 n7_1 c7_1,.slice D7_2 n7_2 c7_2,.bool (V_ 0 1).y.num.neg,.slice D7_4 n7_4 c7_4,.slice D7_5 n7_5 c7_5] 38) from A5f ((GY.o.block _ (by simp) (by intro e;injection e with e;omega)).trans HP0.o) BT.o)
 have RR:=A_ (show v8.heap[w.heap.size]?=some (.cells #[.slice none 0 0,.slice none 0 0] 26) from A5f RI.o BW8.o)
 have Q0:=A_ ((((((((((A0.o.below HB1.o).below HB2.o).below HB3.o).below HB4.o).below HB5.o).below HB6.o).below HB7.o).below BP.o).keep (fun b hb=>GY.o.block b (((((((((A0.o.below HB1.o).below HB2.o).below HB3.o).below HB4.o).below HB5.o).below HB6.o).below HB7.o).below BP.o).lt b hb) (by intro e;injection e with e;have:=S0.o b hb;omega))).below BT.o)
 have Q1:=A_ (((((((((A1.o.below HB2.o).below HB3.o).below HB4.o).below HB5.o).below HB6.o).below HB7.o).below BP.o).keep (fun b hb=>GY.o.block b ((((((((A1.o.below HB2.o).below HB3.o).below HB4.o).below HB5.o).below HB6.o).below HB7.o).below BP.o).lt b hb) (by intro e;injection e with e;have:=S1.o b hb;omega))).below BT.o)
 have Q2:=A_ ((((((((A2.o.below HB3.o).below HB4.o).below HB5.o).below HB6.o).below HB7.o).below BP.o).keep (fun b hb=>GY.o.block b (((((((A2.o.below HB3.o).below HB4.o).below HB5.o).below HB6.o).below HB7.o).below BP.o).lt b hb) (by intro e;injection e with e;have:=S2.o b hb;omega))).below BT.o)
 have Q3:=A_ (((((((A3.o.below HB4.o).below HB5.o).below HB6.o).below HB7.o).below BP.o).keep (fun b hb=>GY.o.block b ((((((A3.o.below HB4.o).below HB5.o).below HB6.o).below HB7.o).below BP.o).lt b hb) (by intro e;injection e with e;have:=S3.o b hb;omega))).below BT.o)
 have Q4:=A_ ((((((A4.o.below HB5.o).below HB6.o).below HB7.o).below BP.o).keep (fun b hb=>GY.o.block b (((((A4.o.below HB5.o).below HB6.o).below HB7.o).below BP.o).lt b hb) (by intro e;injection e with e;have:=S4.o b hb;omega))).below BT.o)
 have Q5:=A_ (((((A5.o.below HB6.o).below HB7.o).below BP.o).keep (fun b hb=>GY.o.block b ((((A5.o.below HB6.o).below HB7.o).below BP.o).lt b hb) (by intro e;injection e with e;have:=S5.o b hb;omega))).below BT.o)
 have Q6:=A_ ((((A6.o.below HB7.o).below BP.o).keep (fun b hb=>GY.o.block b (((A6.o.below HB7.o).below BP.o).lt b hb) (by intro e;injection e with e;have:=S6.o b hb;omega))).below BT.o)
 have Q7:=A_ (((A7.o.below BP.o).keep (fun b hb=>GY.o.block b ((A7.o.below BP.o).lt b hb) (by intro e;injection e with e;have:=S7.o b hb;omega))).below BT.o)
 obtain ⟨r0,e0⟩:=B_ RR.o (j:=0) rfl
 obtain ⟨r1,e1⟩:=B_ RR.o (j:=1) rfl
 have hz9:w.heap.size<v8.heap.size:=by omega
 go_wp2
 have hk:∀ b,b≠w.heap.size→((((v8.setCell ⟨w.heap.size,0,none⟩ (.slice (some ⟨v8.heap.size,0,none⟩) 8 8)).setCell ⟨w.heap.size,1,none⟩ (.slice (some ⟨v8.heap.size+1,0,none⟩) 6 6)).alloc (.cells #[.bool (V_ 0 0).x.num.neg,.slice D0_1 n0_1 c0_1,.slice D0_2 n0_2 c0_2,.bool (V_ 0 0).y.num.neg,.slice D0_4 n0_4 c0_4,.slice D0_5 n0_5 c0_5,.bool (V_ 1 0).x.num.neg,.slice D1_1 n1_1 c1_1,.slice D1_2 n1_2 c1_2,.bool (V_ 1 0).y.num.neg,.slice D1_4 n1_4 c1_4,.slice D1_5 n1_5 c1_5,.bool (V_ 2 0).x.num.neg,.slice D2_1 n2_1 c2_1,.slice D2_2 n2_2 c2_2,.bool (V_ 2 0).y.num.neg,.slice D2_4 n2_4 c2_4,.slice D2_5 n2_5 c2_5,.bool (V_ 2 1).x.num.neg,.slice D3_1 n3_1 c3_1,.slice D3_2 n3_2 c3_2,.bool (V_ 2 1).y.num.neg,.slice D3_4 n3_4 c3_4,.slice D3_5 n3_5 c3_5,.bool (V_ 1 1).x.num.neg,.slice D4_1 n4_1 c4_1,.slice D4_2 n4_2 c4_2,.bool (V_ 1 1).y.num.neg,.slice D4_4 n4_4 c4_4,.slice D4_5 n4_5 c4_5,.bool (V_ 1 2).x.num.neg,.slice D5_1 n5_1 c5_1,.slice D5_2 n5_2 c5_2,.bool (V_ 1 2).y.num.neg,.slice D5_4 n5_4 c5_4,.slice D5_5 n5_5 c5_5,.bool (V_ 0 2).x.num.neg,.slice D6_1 n6_1 c6_1,.slice D6_2 n6_2 c6_2,.bool (V_ 0 2).y.num.neg,.slice D6_4 n6_4 c6_4,.slice D6_5 n6_5 c6_5,.bool (V_ 0 1).x.num.neg,.slice D7_1 n7_1 c7_1,.slice D7_2 n7_2 c7_2,.bool (V_ 0 1).y.num.neg,.slice D7_4 n7_4 c7_4,.slice D7_5 n7_5 c7_5] 38)).alloc (.cells #[.int .i64 1,.int .i64 4,.int .i64 0,.int .i64 0,.int .i64 0,.int .i64 7,.int .i64 0,.int .i64 4,.int .i64 0,.int .i64 0,.int .i64 3,.int .i64 4,.int .i64 2,.int .i64 0,.int .i64 0,.int .i64 1,.int .i64 2,.int .i64 4,.int .i64 1,.int .i64 0,.int .i64 7,.int .i64 4,.int .i64 6,.int .i64 0,.int .i64 0,.int .i64 5,.int .i64 6,.int .i64 4,.int .i64 2,.int .i64 0] 93)).heap[b]?=((v8.alloc (.cells #[.bool (V_ 0 0).x.num.neg,.slice D0_1 n0_1 c0_1,.slice D0_2 n0_2 c0_2,.bool (V_ 0 0).y.num.neg,.slice D0_4 n0_4 c0_4,.slice D0_5 n0_5 c0_5,.bool (V_ 1 0).x.num.neg,.slice D1_1 n1_1 c1_1,.slice D1_2 n1_2 c1_2,.bool (V_ 1 0).y.num.neg,.slice D1_4 n1_4 c1_4,.slice D1_5 n1_5 c1_5,.bool (V_ 2 0).x.num.neg,.slice D2_1 n2_1 c2_1,.slice D2_2 n2_2 c2_2,.bool (V_ 2 0).y.num.neg,.slice D2_4 n2_4 c2_4,.slice D2_5 n2_5 c2_5,.bool (V_ 2 1).x.num.neg,.slice D3_1 n3_1 c3_1,.slice D3_2 n3_2 c3_2,.bool (V_ 2 1).y.num.neg,.slice D3_4 n3_4 c3_4,.slice D3_5 n3_5 c3_5,.bool (V_ 1 1).x.num.neg,.slice D4_1 n4_1 c4_1,.slice D4_2 n4_2 c4_2,.bool (V_ 1 1).y.num.neg,.slice D4_4 n4_4 c4_4,.slice D4_5 n4_5 c4_5,.bool (V_ 1 2).x.num.neg,.slice D5_1 n5_1 c5_1,.slice D5_2 n5_2 c5_2,.bool (V_ 1 2).y.num.neg,.slice D5_4 n5_4 c5_4,.slice D5_5 n5_5 c5_5,.bool (V_ 0 2).x.num.neg,.slice D6_1 n6_1 c6_1,.slice D6_2 n6_2 c6_2,.bool (V_ 0 2).y.num.neg,.slice D6_4 n6_4 c6_4,.slice D6_5 n6_5 c6_5,.bool (V_ 0 1).x.num.neg,.slice D7_1 n7_1 c7_1,.slice D7_2 n7_2 c7_2,.bool (V_ 0 1).y.num.neg,.slice D7_4 n7_4 c7_4,.slice D7_5 n7_5 c7_5] 38)).alloc (.cells #[.int .i64 1,.int .i64 4,.int .i64 0,.int .i64 0,.int .i64 0,.int .i64 7,.int .i64 0,.int .i64 4,.int .i64 0,.int .i64 0,.int .i64 3,.int .i64 4,.int .i64 2,.int .i64 0,.int .i64 0,.int .i64 1,.int .i64 2,.int .i64 4,.int .i64 1,.int .i64 0,.int .i64 7,.int .i64 4,.int .i64 6,.int .i64 0,.int .i64 0,.int .i64 5,.int .i64 6,.int .i64 4,.int .i64 2,.int .i64 0] 93)).heap[b]?:=fun b hb=>C5o v8 _ _ w.heap.size _ _ b hb
 have HBN:=A_ (show Below w.heap.size v8 ((((v8.setCell ⟨w.heap.size,0,none⟩ (.slice (some ⟨v8.heap.size,0,none⟩) 8 8)).setCell ⟨w.heap.size,1,none⟩ (.slice (some ⟨v8.heap.size+1,0,none⟩) 6 6)).alloc (.cells #[.bool (V_ 0 0).x.num.neg,.slice D0_1 n0_1 c0_1,.slice D0_2 n0_2 c0_2,.bool (V_ 0 0).y.num.neg,.slice D0_4 n0_4 c0_4,.slice D0_5 n0_5 c0_5,.bool (V_ 1 0).x.num.neg,.slice D1_1 n1_1 c1_1,.slice D1_2 n1_2 c1_2,.bool (V_ 1 0).y.num.neg,.slice D1_4 n1_4 c1_4,.slice D1_5 n1_5 c1_5,.bool (V_ 2 0).x.num.neg,.slice D2_1 n2_1 c2_1,.slice D2_2 n2_2 c2_2,.bool (V_ 2 0).y.num.neg,.slice D2_4 n2_4 c2_4,.slice D2_5 n2_5 c2_5,.bool (V_ 2 1).x.num.neg,.slice D3_1 n3_1 c3_1,.slice D3_2 n3_2 c3_2,.bool (V_ 2 1).y.num.neg,.slice D3_4 n3_4 c3_4,.slice D3_5 n3_5 c3_5,.bool (V_ 1 1).x.num.neg,.slice D4_1 n4_1 c4_1,.slice D4_2 n4_2 c4_2,.bool (V_ 1 1).y.num.neg,.slice D4_4 n4_4 c4_4,.slice D4_5 n4_5 c4_5,.bool (V_ 1 2).x.num.neg,.slice D5_1 n5_1 c5_1,.slice D5_2 n5_2 c5_2,.bool (V_ 1 2).y.num.neg,.slice D5_4 n5_4 c5_4,.slice D5_5 n5_5 c5_5,.bool (V_ 0 2).x.num.neg,.slice D6_1 n6_1 c6_1,.slice D6_2 n6_2 c6_2,.bool (V_ 0 2).y.num.neg,.slice D6_4 n6_4 c6_4,.slice D6_5 n6_5 c6_5,.bool (V_ 0 1).x.num.neg,.slice D7_1 n7_1 c7_1,.slice D7_2 n7_2 c7_2,.bool (V_ 0 1).y.num.neg,.slice D7_4 n7_4 c7_4,.slice D7_5 n7_5 c7_5] 38)).alloc (.cells #[.int .i64 1,.int .i64 4,.int .i64 0,.int .i64 0,.int .i64 0,.int .i64 7,.int .i64 0,.int .i64 4,.int .i64 0,.int .i64 0,.int .i64 3,.int .i64 4,.int .i64 2,.int .i64 0,.int .i64 0,.int .i64 1,.int .i64 2,.int .i64 4,.int .i64 1,.int .i64 0,.int .i64 7,.int .i64 4,.int .i64 6,.int .i64 0,.int .i64 0,.int .i64 5,.int .i64 6,.int .i64 4,.int .i64 2,.int .i64 0] 93)) from ((((Below.refl w.heap.size v8).setCell (p:=⟨w.heap.size,0,none⟩) (Nat.le_refl _) _).setCell (p:=⟨w.heap.size,1,none⟩) (Nat.le_refl _) _).alloc (by simp;omega) _).alloc (by simp;omega) _)
 have q0:((((v8.setCell ⟨w.heap.size,0,none⟩ (.slice (some ⟨v8.heap.size,0,none⟩) 8 8)).setCell ⟨w.heap.size,1,none⟩ (.slice (some ⟨v8.heap.size+1,0,none⟩) 6 6)).alloc (.cells #[.bool (V_ 0 0).x.num.neg,.slice D0_1 n0_1 c0_1,.slice D0_2 n0_2 c0_2,.bool (V_ 0 0).y.num.neg,.slice D0_4 n0_4 c0_4,.slice D0_5 n0_5 c0_5,.bool (V_ 1 0).x.num.neg,.slice D1_1 n1_1 c1_1,.slice D1_2 n1_2 c1_2,.bool (V_ 1 0).y.num.neg,.slice D1_4 n1_4 c1_4,.slice D1_5 n1_5 c1_5,.bool (V_ 2 0).x.num.neg,.slice D2_1 n2_1 c2_1,.slice D2_2 n2_2 c2_2,.bool (V_ 2 0).y.num.neg,.slice D2_4 n2_4 c2_4,.slice D2_5 n2_5 c2_5,.bool (V_ 2 1).x.num.neg,.slice D3_1 n3_1 c3_1,.slice D3_2 n3_2 c3_2,.bool (V_ 2 1).y.num.neg,.slice D3_4 n3_4 c3_4,.slice D3_5 n3_5 c3_5,.bool (V_ 1 1).x.num.neg,.slice D4_1 n4_1 c4_1,.slice D4_2 n4_2 c4_2,.bool (V_ 1 1).y.num.neg,.slice D4_4 n4_4 c4_4,.slice D4_5 n4_5 c4_5,.bool (V_ 1 2).x.num.neg,.slice D5_1 n5_1 c5_1,.slice D5_2 n5_2 c5_2,.bool (V_ 1 2).y.num.neg,.slice D5_4 n5_4 c5_4,.slice D5_5 n5_5 c5_5,.bool (V_ 0 2).x.num.neg,.slice D6_1 n6_1 c6_1,.slice D6_2 n6_2 c6_2,.bool (V_ 0 2).y.num.neg,.slice D6_4 n6_4 c6_4,.slice D6_5 n6_5 c6_5,.bool (V_ 0 1).x.num.neg,.slice D7_1 n7_1 c7_1,.slice D7_2 n7_2 c7_2,.bool (V_ 0 1).y.num.neg,.slice D7_4 n7_4 c7_4,.slice D7_5 n7_5 c7_5] 38)).alloc (.cells #[.int .i64 1,.int .i64 4,.int .i64 0,.int .i64 0,.int .i64 0,.int .i64 7,.int .i64 0,.int .i64 4,.int .i64 0,.int .i64 0,.int .i64 3,.int .i64 4,.int .i64 2,.int .i64 0,.int .i64 0,.int .i64 1,.int .i64 2,.int .i64 4,.int .i64 1,.int .i64 0,.int .i64 7,.int .i64 4,.int .i64 6,.int .i64 0,.int .i64 0,.int .i64 5,.int .i64 6,.int .i64 4,.int .i64 2,.int .i64 0] 93)).cell? ⟨w.heap.size,0,none⟩=some (.slice (some ⟨v8.heap.size,0,none⟩) 8 8):=by go_simp
 have q1:((((v8.setCell ⟨w.heap.size,0,none⟩ (.slice (some ⟨v8.heap.size,0,none⟩) 8 8)).setCell ⟨w.heap.size,1,none⟩ (.slice (some ⟨v8.heap.size+1,0,none⟩) 6 6)).alloc (.cells #[.bool (V_ 0 0).x.num.neg,.slice D0_1 n0_1 c0_1,.slice D0_2 n0_2 c0_2,.bool (V_ 0 0).y.num.neg,.slice D0_4 n0_4 c0_4,.slice D0_5 n0_5 c0_5,.bool (V_ 1 0).x.num.neg,.slice D1_1 n1_1 c1_1,.slice D1_2 n1_2 c1_2,.bool (V_ 1 0).y.num.neg,.slice D1_4 n1_4 c1_4,.slice D1_5 n1_5 c1_5,.bool (V_ 2 0).x.num.neg,.slice D2_1 n2_1 c2_1,.slice D2_2 n2_2 c2_2,.bool (V_ 2 0).y.num.neg,.slice D2_4 n2_4 c2_4,.slice D2_5 n2_5 c2_5,.bool (V_ 2 1).x.num.neg,.slice D3_1 n3_1 c3_1,.slice D3_2 n3_2 c3_2,.bool (V_ 2 1).y.num.neg,.slice D3_4 n3_4 c3_4,.slice D3_5 n3_5 c3_5,.bool (V_ 1 1).x.num.neg,.slice D4_1 n4_1 c4_1,.slice D4_2 n4_2 c4_2,.bool (V_ 1 1).y.num.neg,.slice D4_4 n4_4 c4_4,.slice D4_5 n4_5 c4_5,.bool (V_ 1 2).x.num.neg,.slice D5_1 n5_1 c5_1,.slice D5_2 n5_2 c5_2,.bool (V_ 1 2).y.num.neg,.slice D5_4 n5_4 c5_4,.slice D5_5 n5_5 c5_5,.bool (V_ 0 2).x.num.neg,.slice D6_1 n6_1 c6_1,.slice D6_2 n6_2 c6_2,.bool (V_ 0 2).y.num.neg,.slice D6_4 n6_4 c6_4,.slice D6_5 n6_5 c6_5,.bool (V_ 0 1).x.num.neg,.slice D7_1 n7_1 c7_1,.slice D7_2 n7_2 c7_2,.bool (V_ 0 1).y.num.neg,.slice D7_4 n7_4 c7_4,.slice D7_5 n7_5 c7_5] 38)).alloc (.cells #[.int .i64 1,.int .i64 4,.int .i64 0,.int .i64 0,.int .i64 0,.int .i64 7,.int .i64 0,.int .i64 4,.int .i64 0,.int .i64 0,.int .i64 3,.int .i64 4,.int .i64 2,.int .i64 0,.int .i64 0,.int .i64 1,.int .i64 2,.int .i64 4,.int .i64 1,.int .i64 0,.int .i64 7,.int .i64 4,.int .i64 6,.int .i64 0,.int .i64 0,.int .i64 5,.int .i64 6,.int .i64 4,.int .i64 2,.int .i64 0] 93)).cell? ⟨w.heap.size,1,none⟩=some (.slice (some ⟨v8.heap.size+1,0,none⟩) 6 6):=by go_simp
 have hqs:w.heap.size<((((v8.setCell ⟨w.heap.size,0,none⟩ (.slice (some ⟨v8.heap.size,0,none⟩) 8 8)).setCell ⟨w.heap.size,1,none⟩ (.slice (some ⟨v8.heap.size+1,0,none⟩) 6 6)).alloc (.cells #[.bool (V_ 0 0).x.num.neg,.slice D0_1 n0_1 c0_1,.slice D0_2 n0_2 c0_2,.bool (V_ 0 0).y.num.neg,.slice D0_4 n0_4 c0_4,.slice D0_5 n0_5 c0_5,.bool (V_ 1 0).x.num.neg,.slice D1_1 n1_1 c1_1,.slice D1_2 n1_2 c1_2,.bool (V_ 1 0).y.num.neg,.slice D1_4 n1_4 c1_4,.slice D1_5 n1_5 c1_5,.bool (V_ 2 0).x.num.neg,.slice D2_1 n2_1 c2_1,.slice D2_2 n2_2 c2_2,.bool (V_ 2 0).y.num.neg,.slice D2_4 n2_4 c2_4,.slice D2_5 n2_5 c2_5,.bool (V_ 2 1).x.num.neg,.slice D3_1 n3_1 c3_1,.slice D3_2 n3_2 c3_2,.bool (V_ 2 1).y.num.neg,.slice D3_4 n3_4 c3_4,.slice D3_5 n3_5 c3_5,.bool (V_ 1 1).x.num.neg,.slice D4_1 n4_1 c4_1,.slice D4_2 n4_2 c4_2,.bool (V_ 1 1).y.num.neg,.slice D4_4 n4_4 c4_4,.slice D4_5 n4_5 c4_5,.bool (V_ 1 2).x.num.neg,.slice D5_1 n5_1 c5_1,.slice D5_2 n5_2 c5_2,.bool (V_ 1 2).y.num.neg,.slice D5_4 n5_4 c5_4,.slice D5_5 n5_5 c5_5,.bool (V_ 0 2).x.num.neg,.slice D6_1 n6_1 c6_1,.slice D6_2 n6_2 c6_2,.bool (V_ 0 2).y.num.neg,.slice D6_4 n6_4 c6_4,.slice D6_5 n6_5 c6_5,.bool (V_ 0 1).x.num.neg,.slice D7_1 n7_1 c7_1,.slice D7_2 n7_2 c7_2,.bool (V_ 0 1).y.num.neg,.slice D7_4 n7_4 c7_4,.slice D7_5 n7_5 c7_5] 38)).alloc (.cells #[.int .i64 1,.int .i64 4,.int .i64 0,.int .i64 0,.int .i64 0,.int .i64 7,.int .i64 0,.int .i64 4,.int .i64 0,.int .i64 0,.int .i64 3,.int .i64 4,.int .i64 2,.int .i64 0,.int .i64 0,.int .i64 1,.int .i64 2,.int .i64 4,.int .i64 1,.int .i64 0,.int .i64 7,.int .i64 4,.int .i64 6,.int .i64 0,.int .i64 0,.int .i64 5,.int .i64 6,.int .i64 4,.int .i64 2,.int .i64 0] 93)).heap.size:=by simp;omega
 clear r0 e0 r1 e1 hz9
 refine C9j _ (fun W=>(∀ b,b≠w.heap.size→W.heap[b]?=((v8.alloc (.cells #[.bool (V_ 0 0).x.num.neg,.slice D0_1 n0_1 c0_1,.slice D0_2 n0_2 c0_2,.bool (V_ 0 0).y.num.neg,.slice D0_4 n0_4 c0_4,.slice D0_5 n0_5 c0_5,.bool (V_ 1 0).x.num.neg,.slice D1_1 n1_1 c1_1,.slice D1_2 n1_2 c1_2,.bool (V_ 1 0).y.num.neg,.slice D1_4 n1_4 c1_4,.slice D1_5 n1_5 c1_5,.bool (V_ 2 0).x.num.neg,.slice D2_1 n2_1 c2_1,.slice D2_2 n2_2 c2_2,.bool (V_ 2 0).y.num.neg,.slice D2_4 n2_4 c2_4,.slice D2_5 n2_5 c2_5,.bool (V_ 2 1).x.num.neg,.slice D3_1 n3_1 c3_1,.slice D3_2 n3_2 c3_2,.bool (V_ 2 1).y.num.neg,.slice D3_4 n3_4 c3_4,.slice D3_5 n3_5 c3_5,.bool (V_ 1 1).x.num.neg,.slice D4_1 n4_1 c4_1,.slice D4_2 n4_2 c4_2,.bool (V_ 1 1).y.num.neg,.slice D4_4 n4_4 c4_4,.slice D4_5 n4_5 c4_5,.bool (V_ 1 2).x.num.neg,.slice D5_1 n5_1 c5_1,.slice D5_2 n5_2 c5_2,.bool (V_ 1 2).y.num.neg,.slice D5_4 n5_4 c5_4,.slice D5_5 n5_5 c5_5,.bool (V_ 0 2).x.num.neg,.slice D6_1 n6_1 c6_1,.slice D6_2 n6_2 c6_2,.bool (V_ 0 2).y.num.neg,.slice D6_4 n6_4 c6_4,.slice D6_5 n6_5 c6_5,.bool (V_ 0 1).x.num.neg,.slice D7_1 n7_1 c7_1,.slice D7_2 n7_2 c7_2,.bool (V_ 0 1).y.num.neg,.slice D7_4 n7_4 c7_4,.slice D7_5 n7_5 c7_5] 38)).alloc (.cells #[.int .i64 1,.int .i64 4,.int .i64 0,.int .i64 0,.int .i64 0,.int .i64 7,.int .i64 0,.int .i64 4,.int .i64 0,.int .i64 0,.int .i64 3,.int .i64 4,.int .i64 2,.int .i64 0,.int .i64 0,.int .i64 1,.int .i64 2,.int .i64 4,.int .i64 1,.int .i64 0,.int .i64 7,.int .i64 4,.int .i64 6,.int .i64 0,.int .i64 0,.int .i64 5,.int .i64 6,.int .i64 4,.int .i64 2,.int .i64 0] 93)).heap[b]?)∧(Hid (Below w.heap.size v8 W)∧(W.cell? ⟨w.heap.size,0,none⟩=some (.slice (some ⟨v8.heap.size,0,none⟩) 8 8)∧(W.cell? ⟨w.heap.size,1,none⟩=some (.slice (some ⟨v8.heap.size+1,0,none⟩) 6 6)∧w.heap.size<W.heap.size)))) ⟨hk,HBN,q0,q1,hqs⟩ ?_
 clear hk HBN q0 q1 hqs
 rintro W ⟨hk,HBN,q0,q1,hqs⟩
 refine bodyPost_ret (v:=.agg #[.slice (some ⟨v8.heap.size,0,none⟩) 8 8,.slice (some ⟨v8.heap.size+1,0,none⟩) 6 6]) (by simp[results,Tryz.results101,go_sem, *]) rfl ?_
 have D0:=A5i (Q0.o.keep (fun b hb=>hk b (by have:=S0.o b hb;omega)))
 have D1:=A5i (Q1.o.keep (fun b hb=>hk b (by have:=S1.o b hb;omega)))
 have D2:=A5i (Q2.o.keep (fun b hb=>hk b (by have:=S2.o b hb;omega)))
 have D3:=A5i (Q3.o.keep (fun b hb=>hk b (by have:=S3.o b hb;omega)))
 have D4:=A5i (Q4.o.keep (fun b hb=>hk b (by have:=S4.o b hb;omega)))
 have D5:=A5i (Q5.o.keep (fun b hb=>hk b (by have:=S5.o b hb;omega)))
 have D6:=A5i (Q6.o.keep (fun b hb=>hk b (by have:=S6.o b hb;omega)))
 have D7:=A5i (Q7.o.keep (fun b hb=>hk b (by have:=S7.o b hb;omega)))
 obtain ⟨b1,hsl1,hr1⟩:=B2l (α:=TPoint) (n:=8) ((hk _ (by omega)).trans HP9.o) (by rfl) (by decide) (Filled.push (Filled.push (Filled.push (Filled.push (Filled.push (Filled.push (Filled.push (Filled.push (Filled.nil (α:=TPoint) W []) (by rfl) D0) (by rfl) D1) (by rfl) D2) (by rfl) D3) (by rfl) D4) (by rfl) D5) (by rfl) D6) (by rfl) D7) (by rfl)
 obtain ⟨b2,hsl2,hr2⟩:=B2l (α:=TTri) (n:=6) ((hk _ (by omega)).trans HT9.o) (by rfl) (by decide) (Filled.push (Filled.push (Filled.push (Filled.push (Filled.push (Filled.push (Filled.nil (α:=TTri) W []) (by rfl) (A5z W 1 4 0 0 0 (U_ (by decide)) (U_ (by decide)) (U_ (by decide)) (U_ (by decide)) (U_ (by decide)))) (by rfl) (A5z W 7 0 4 0 0 (U_ (by decide)) (U_ (by decide)) (U_ (by decide)) (U_ (by decide)) (U_ (by decide)))) (by rfl) (A5z W 3 4 2 0 0 (U_ (by decide)) (U_ (by decide)) (U_ (by decide)) (U_ (by decide)) (U_ (by decide)))) (by rfl) (A5z W 1 2 4 1 0 (U_ (by decide)) (U_ (by decide)) (U_ (by decide)) (U_ (by decide)) (U_ (by decide)))) (by rfl) (A5z W 7 4 6 0 0 (U_ (by decide)) (U_ (by decide)) (U_ (by decide)) (U_ (by decide)) (U_ (by decide)))) (by rfl) (A5z W 5 6 4 2 0 (U_ (by decide)) (U_ (by decide)) (U_ (by decide)) (U_ (by decide)) (U_ (by decide)))) (by rfl)
 refine ⟨A8d 0,_,_,rfl,.inr (.inr rfl),TMesh.mkAgg (x:=A8d 0) hsl1 hsl2,B0p (A2j G1.o (A1u BW8.o _)) HBN.o,D1m (CY.o.below' BT.o) (hk g (by omega)) (by have h1:=HBN.o.size;have h2:=GY.o.size;(try simp at h2);omega),fun b hb=>?_⟩
 rcases List.mem_append.1 hb with hb | hb
 ·rcases hr1 b hb with rfl | hb
  ·omega
  obtain ⟨l,hl,hb2⟩:=List.mem_flatten.1 hb
  simp at hl
  rcases hl with rfl | rfl | rfl | rfl | rfl | rfl | rfl | rfl
  ·have:=S0.o b hb2;omega
  ·have:=S1.o b hb2;omega
  ·have:=S2.o b hb2;omega
  ·have:=S3.o b hb2;omega
  ·have:=S4.o b hb2;omega
  ·have:=S5.o b hb2;omega
  ·have:=S6.o b hb2;omega
  have:=S7.o b hb2;omega
 rcases hr2 b hb with rfl | hb
 ·omega
 obtain ⟨l,hl,hb2⟩:=List.mem_flatten.1 hb
 simp at hl
 subst hl
 cases hb2
end Go.Proofs.YtbhemnidcleaiaaGreat.X
namespace Go.Proofs.YtbhemnidcleaiaaGreat.X
open Go.RowKit Go.XB Go.XN
theorem C2u (p:TProblem) (us:List TRat) (es:List TEdge):∀ k,k≤es.length→B1j p us es k=(es.take k).map (jmT p us)
 | 0,_=>by simp[B1j]
 | k+1,h=>by
  have hg:=List.getElem?_eq_getElem (show k<es.length from h)
  rw[B1j,C2u p us es k (by omega),take_step hg,List.map_append,A5l hg];rfl
theorem C7d (p:TProblem) (us:List TRat):jmL p us=(A2m p.mesh.triangles).map (jmT p us):=by
 rw[jmL,C2u _ _ _ _ (Nat.le_refl _),List.take_length]
theorem C4j (p:TProblem) (us:List TRat):∀ k,k≤p.mesh.triangles.length→B5h p us k=(p.mesh.triangles.take k).map (leT p us)
 | 0,_=>by simp[B5h]
 | k+1,h=>by
  have hg:=List.getElem?_eq_getElem (show k<p.mesh.triangles.length from h)
  rw[B5h,C4j p us k (by omega),take_step hg,List.map_append,A5l hg];rfl
theorem C6y (p:TProblem) (us:List TRat):leL p us=p.mesh.triangles.map (leT p us):=by
 rw[leL,C4j _ _ _ (Nat.le_refl _),List.take_length]
theorem D0e {m:TMesh} (h:A6x m):D3y m:=fun e he=>by
 have hl:=B7k h
 unfold A6n at hl
 simp only [Bool.and_eq_true,List.all_eq_true,decide_eq_true_eq] at hl
 exact ⟨(B4w h).2 e he,(hl.1 e he).1,(hl.1 e he).2.1⟩
theorem C1p {m:TMesh} (h:A6x m) (fs:List TRat):∀ r∈jmL ⟨m,dif2,fs⟩ (A5b m),A9u r=false∧r.num.mag=[]∧r.num.neg=false:=fun r hr=>by
 rw[C7d] at hr
 obtain ⟨e,he,rfl⟩:=List.mem_map.1 hr
 have hl:=B7k h
 unfold A6n at hl
 simp only [Bool.and_eq_true,List.all_eq_true,decide_eq_true_eq,Bool.not_eq_true',List.isEmpty_iff] at hl
 have q:=hl.1 e he
 rw[D4j h fs q.1 q.2.1]
 exact ⟨q.2.2.1,q.2.2.2.1,q.2.2.2.2⟩
theorem D5l {m:TMesh} (h:A6x m) (fs:List TRat):(jmL ⟨m,dif2,fs⟩ (A5b m)).any A9u=false:=by
 rw[List.any_eq_false]
 intro r hr
 rw[(C1p h fs r hr).1];decide
theorem D4i (m:TMesh) (fs us:List TRat):(jmL ⟨m,dif2,fs⟩ us).length=(A2m m.triangles).length:=by rw[C7d,List.length_map]
theorem D5j (m:TMesh) (fs us:List TRat):(leL ⟨m,dif2,fs⟩ us).length=m.triangles.length:=by rw[C6y,List.length_map]
theorem D1i {m:TMesh} (h:A6x m):0<(A2m m.triangles).length:=by
 have hl:=B7k h
 unfold A6n at hl
 simp only [Bool.and_eq_true,Bool.not_eq_true'] at hl
 have q:=hl.2.1
 cases hq:A2m m.triangles with
 | nil=>rw[hq] at q;cases q
 | cons=>simp
theorem D3t {m:TMesh} (h:A6x m) (fs:List TRat):leL ⟨m,dif2,fs⟩ (A5b m)=m.triangles.map (le0 m):=by
 rw[C6y]
 exact List.map_congr_left fun t ht=>D4f h fs ht
theorem D5b {m:TMesh} (h:A6x m) (fs:List TRat):(leL ⟨m,dif2,fs⟩ (A5b m)).any A9u=false:=by
 rw[D3t h fs,List.any_eq_false]
 intro r hr
 obtain ⟨t,ht,rfl⟩:=List.mem_map.1 hr
 have hl:=B7k h
 unfold A6n at hl
 simp only [Bool.and_eq_true,List.all_eq_true,Bool.not_eq_true'] at hl
 rw[show A9u (le0 m t)=false from hl.2.2.1 t ht];decide
end Go.Proofs.YtbhemnidcleaiaaGreat.X
