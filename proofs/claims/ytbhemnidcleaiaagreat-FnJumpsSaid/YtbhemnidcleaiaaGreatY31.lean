/- A part of the proof. -/
import Derived.Test.YtbhemnidcleaiaaGreatY12
import Derived.Deep.DeepCutAuto
import Derived.Deep.CutBlock
import Derived.Deep.CutRange
set_option linter.constructorNameAsVariable false
set_option maxHeartbeats 16000000
set_option maxRecDepth 10000
namespace Go.Proofs.YtbhemnidcleaiaaGreat.X
open Go.RowKit Go.XB Go.XN
theorem A0d {w w':World} {b:Nat} {o:Obj} (h:w.heap[b]?=some o) (hb:Below w.heap.size w w'):w'.heap[b]?=some o:=(hb.block b (E_ h)).trans h
theorem A8w {w:World} {b j:Nat} {cs:Array Value} {t:TypeId} {v:Value} (h:w.heap[b]?=some (.cells cs t)):(w.setCell ⟨b,j,none⟩ v).heap[b]?=some (.cells (cs.setIfInBounds j v) t):=by
 have hlt:=lt_of_block h
 have h':w.heap[b]=.cells cs t (0,0):=by simpa [Array.getElem?_eq_getElem hlt] using h
 show (w.heap.modify b _)[b]?=_
 rw[Array.getElem?_eq_getElem (by simpa using hlt),Array.getElem_modify_self,h']
 rfl
theorem B9h (g:Nat) (t:TypeId):∀ (vs:List Value) (w:World) (i:Nat) (cs:List Value),w.heap[g]?=some (.cells cs.toArray t)→i+vs.length≤cs.length→(A8s w g i vs).heap[g]?=some (.cells (cs.take i++vs++cs.drop (i+vs.length)).toArray t)
 | [],w,i,cs,h,_=>by simpa [A8s] using h
 | v::vs,w,i,cs,h,hl=>by
  have h1:=A8w (j:=i) (v:=v) h
  have hi:i<cs.length:=by simp at hl;omega
  have h2:=B9h g t vs (w.setCell ⟨g,i,none⟩ v) (i+1) (cs.set i v) (by simpa using h1) (by simp at hl ⊢;omega)
  rw[A8s,h2]
  congr 2
  rw[List.take_succ_eq_append_getElem (by simpa using hi)]
  simp only [List.take_set_of_le (Nat.le_refl i),List.getElem_set_self,List.append_assoc,List.cons_append,List.nil_append,List.length_cons]
  rw[List.drop_set_of_lt (by omega)]
  simp[Nat.add_assoc,Nat.add_comm 1]
def BoxAt (U:World) (g:Nat) (x:SBox) (bs:List Nat):Prop:=∃ cs s,U.heap[g]?=some (.cells cs.toArray 237)∧Dat.at_ U cs x s∧∀ b∈s,b∈bs
def C9b (w:World) (x:SBox) (bs:List Nat) (e:Ending) (w':World):Prop:=∃ v s,e=.returned v∧Agg w' v x s∧(∀ b∈s,b∈bs)∧Below w.heap.size w w'
theorem BoxAt.below {U U':World} {g:Nat} {x:SBox} {bs:List Nat} (h:BoxAt U g x bs) (hb:Below U.heap.size U U'):BoxAt U' g x bs:=by
 obtain ⟨cs,s,h1,h2,h3⟩:=h
 exact ⟨cs,s,A0d h1 hb,Dat.keep h2 (fun b hb2=>hb.block b (Dat.lt h2 b hb2)),h3⟩
theorem B4p {U:World} {g j:Nat} {cs:List Value} {t:TypeId} {v0 v1 v2:Value} (h:U.heap[g]?=some (.cells cs.toArray t)) :
  (((U.setCell ⟨g,j,none⟩ v0).setCell ⟨g,j+1,none⟩ v1).setCell ⟨g,j+2,none⟩ v2).heap[g]?=some (.cells (((cs.set j v0).set (j+1) v1).set (j+2) v2).toArray t):=by
 have h1:=A8w (j:=j) (v:=v0) h
 have h2:=A8w (j:=j+1) (v:=v1) h1
 have h3:=A8w (j:=j+2) (v:=v2) h2
 simpa using h3
theorem A3b {U:World} {g j:Nat} {v0 v1 v2:Value} (b:Nat) (h:b≠g):(((U.setCell ⟨g,j,none⟩ v0).setCell ⟨g,j+1,none⟩ v1).setCell ⟨g,j+2,none⟩ v2).heap[b]?=U.heap[b]? :=
 (A0b g [v0,v1,v2] U j b h)
def D6c (p:TPoint):SBox:=⟨p.x,p.x,p.y,p.y⟩
theorem BoxAt.set0 {U:World} {g:Nat} {B:SBox} {p:TPoint} {bs:List Nat} {A1:Option Addr} {n1 c1:Nat} {s1:List Nat} {A2:Option Addr} {n2 c2:Nat} {s2:List Nat} {A4:Option Addr} {n4 c4:Nat} {s4:List Nat} {A5:Option Addr} {n5 c5:Nat} {s5:List Nat} {A7:Option Addr} {n7 c7:Nat} {s7:List Nat} {A8:Option Addr} {n8 c8:Nat} {s8:List Nat} {A10:Option Addr} {n10 c10:Nat} {s10:List Nat} {A11:Option Addr} {n11 c11:Nat} {s11:List Nat} {D1 D2:Option Addr} {nD1 cD1 nD2 cD2:Nat} {d1 d2:List Nat}
  (h:U.heap[g]?=some (.cells #[.bool B.left.num.neg,.slice A1 n1 c1,.slice A2 n2 c2,.bool B.right.num.neg,.slice A4 n4 c4,.slice A5 n5 c5,.bool B.low.num.neg,.slice A7 n7 c7,.slice A8 n8 c8,.bool B.high.num.neg,.slice A10 n10 c10,.slice A11 n11 c11] 237)) (h4:Sl U A4 n4 c4 B.right.num.mag s4) (h5:Sl U A5 n5 c5 B.right.den s5) (h7:Sl U A7 n7 c7 B.low.num.mag s7) (h8:Sl U A8 n8 c8 B.low.den s8) (h10:Sl U A10 n10 c10 B.high.num.mag s10) (h11:Sl U A11 n11 c11 B.high.den s11)
  (hp1:Sl U D1 nD1 cD1 p.x.num.mag d1) (hp2:Sl U D2 nD2 cD2 p.x.den d2) (hs:∀ b∈s1++(s2++(s4++(s5++(s7++(s8++(s10++(s11))))))),b∈bs) (hd:∀ b∈d1++d2,b∈bs) (hg:∀ b∈bs,b≠g) :
  BoxAt (((U.setCell ⟨g,0,none⟩ (.bool p.x.num.neg)).setCell ⟨g,1,none⟩ (.slice D1 nD1 cD1)).setCell ⟨g,2,none⟩ (.slice D2 nD2 cD2)) g { B with left:=p.x } bs:=by
 have K:∀ {α:Type} [Dat α] {A:Option Addr} {n c:Nat} {xs:List α} {s:List Nat},Sl U A n c xs s→(∀ b∈s,b∈bs)→Sl (((U.setCell ⟨g,0,none⟩ (.bool p.x.num.neg)).setCell ⟨g,1,none⟩ (.slice D1 nD1 cD1)).setCell ⟨g,2,none⟩ (.slice D2 nD2 cD2)) A n c xs s :=
  fun h hb=>h.keep (fun b hm=>A3b (j:=0) b (hg b (hb b hm)))
 refine ⟨_,_,B4p (j:=0) h,SBox.shut (x:={ B with left:=p.x }) (K hp1 (fun b hb=>hd b (List.mem_append_left _ hb))) (K hp2 (fun b hb=>hd b (List.mem_append_right _ hb))) (K h4 (fun b hb=>hs b (by simp[hb]))) (K h5 (fun b hb=>hs b (by simp[hb]))) (K h7 (fun b hb=>hs b (by simp[hb]))) (K h8 (fun b hb=>hs b (by simp[hb]))) (K h10 (fun b hb=>hs b (by simp[hb]))) (K h11 (fun b hb=>hs b (by simp[hb]))),fun b hb=>?_⟩
 all_goals (simp only [List.mem_append] at hs hd ⊢;try simp only [List.mem_append] at hb)
 all_goals grind
theorem BoxAt.set1 {U:World} {g:Nat} {B:SBox} {p:TPoint} {bs:List Nat} {A1:Option Addr} {n1 c1:Nat} {s1:List Nat} {A2:Option Addr} {n2 c2:Nat} {s2:List Nat} {A4:Option Addr} {n4 c4:Nat} {s4:List Nat} {A5:Option Addr} {n5 c5:Nat} {s5:List Nat} {A7:Option Addr} {n7 c7:Nat} {s7:List Nat} {A8:Option Addr} {n8 c8:Nat} {s8:List Nat} {A10:Option Addr} {n10 c10:Nat} {s10:List Nat} {A11:Option Addr} {n11 c11:Nat} {s11:List Nat} {D1 D2:Option Addr} {nD1 cD1 nD2 cD2:Nat} {d1 d2:List Nat}
  (h:U.heap[g]?=some (.cells #[.bool B.left.num.neg,.slice A1 n1 c1,.slice A2 n2 c2,.bool B.right.num.neg,.slice A4 n4 c4,.slice A5 n5 c5,.bool B.low.num.neg,.slice A7 n7 c7,.slice A8 n8 c8,.bool B.high.num.neg,.slice A10 n10 c10,.slice A11 n11 c11] 237)) (h1:Sl U A1 n1 c1 B.left.num.mag s1) (h2:Sl U A2 n2 c2 B.left.den s2) (h7:Sl U A7 n7 c7 B.low.num.mag s7) (h8:Sl U A8 n8 c8 B.low.den s8) (h10:Sl U A10 n10 c10 B.high.num.mag s10) (h11:Sl U A11 n11 c11 B.high.den s11)
  (hp1:Sl U D1 nD1 cD1 p.x.num.mag d1) (hp2:Sl U D2 nD2 cD2 p.x.den d2) (hs:∀ b∈s1++(s2++(s4++(s5++(s7++(s8++(s10++(s11))))))),b∈bs) (hd:∀ b∈d1++d2,b∈bs) (hg:∀ b∈bs,b≠g) :
  BoxAt (((U.setCell ⟨g,3,none⟩ (.bool p.x.num.neg)).setCell ⟨g,4,none⟩ (.slice D1 nD1 cD1)).setCell ⟨g,5,none⟩ (.slice D2 nD2 cD2)) g { B with right:=p.x } bs:=by
 have K:∀ {α:Type} [Dat α] {A:Option Addr} {n c:Nat} {xs:List α} {s:List Nat},Sl U A n c xs s→(∀ b∈s,b∈bs)→Sl (((U.setCell ⟨g,3,none⟩ (.bool p.x.num.neg)).setCell ⟨g,4,none⟩ (.slice D1 nD1 cD1)).setCell ⟨g,5,none⟩ (.slice D2 nD2 cD2)) A n c xs s :=
  fun h hb=>h.keep (fun b hm=>A3b (j:=3) b (hg b (hb b hm)))
 refine ⟨_,_,B4p (j:=3) h,SBox.shut (x:={ B with right:=p.x }) (K h1 (fun b hb=>hs b (by simp[hb]))) (K h2 (fun b hb=>hs b (by simp[hb]))) (K hp1 (fun b hb=>hd b (List.mem_append_left _ hb))) (K hp2 (fun b hb=>hd b (List.mem_append_right _ hb))) (K h7 (fun b hb=>hs b (by simp[hb]))) (K h8 (fun b hb=>hs b (by simp[hb]))) (K h10 (fun b hb=>hs b (by simp[hb]))) (K h11 (fun b hb=>hs b (by simp[hb]))),fun b hb=>?_⟩
 all_goals (simp only [List.mem_append] at hs hd ⊢;try simp only [List.mem_append] at hb)
 all_goals grind
theorem BoxAt.set2 {U:World} {g:Nat} {B:SBox} {p:TPoint} {bs:List Nat} {A1:Option Addr} {n1 c1:Nat} {s1:List Nat} {A2:Option Addr} {n2 c2:Nat} {s2:List Nat} {A4:Option Addr} {n4 c4:Nat} {s4:List Nat} {A5:Option Addr} {n5 c5:Nat} {s5:List Nat} {A7:Option Addr} {n7 c7:Nat} {s7:List Nat} {A8:Option Addr} {n8 c8:Nat} {s8:List Nat} {A10:Option Addr} {n10 c10:Nat} {s10:List Nat} {A11:Option Addr} {n11 c11:Nat} {s11:List Nat} {D1 D2:Option Addr} {nD1 cD1 nD2 cD2:Nat} {d1 d2:List Nat}
  (h:U.heap[g]?=some (.cells #[.bool B.left.num.neg,.slice A1 n1 c1,.slice A2 n2 c2,.bool B.right.num.neg,.slice A4 n4 c4,.slice A5 n5 c5,.bool B.low.num.neg,.slice A7 n7 c7,.slice A8 n8 c8,.bool B.high.num.neg,.slice A10 n10 c10,.slice A11 n11 c11] 237)) (h1:Sl U A1 n1 c1 B.left.num.mag s1) (h2:Sl U A2 n2 c2 B.left.den s2) (h4:Sl U A4 n4 c4 B.right.num.mag s4) (h5:Sl U A5 n5 c5 B.right.den s5) (h10:Sl U A10 n10 c10 B.high.num.mag s10) (h11:Sl U A11 n11 c11 B.high.den s11)
  (hp1:Sl U D1 nD1 cD1 p.y.num.mag d1) (hp2:Sl U D2 nD2 cD2 p.y.den d2) (hs:∀ b∈s1++(s2++(s4++(s5++(s7++(s8++(s10++(s11))))))),b∈bs) (hd:∀ b∈d1++d2,b∈bs) (hg:∀ b∈bs,b≠g) :
  BoxAt (((U.setCell ⟨g,6,none⟩ (.bool p.y.num.neg)).setCell ⟨g,7,none⟩ (.slice D1 nD1 cD1)).setCell ⟨g,8,none⟩ (.slice D2 nD2 cD2)) g { B with low:=p.y } bs:=by
 have K:∀ {α:Type} [Dat α] {A:Option Addr} {n c:Nat} {xs:List α} {s:List Nat},Sl U A n c xs s→(∀ b∈s,b∈bs)→Sl (((U.setCell ⟨g,6,none⟩ (.bool p.y.num.neg)).setCell ⟨g,7,none⟩ (.slice D1 nD1 cD1)).setCell ⟨g,8,none⟩ (.slice D2 nD2 cD2)) A n c xs s :=
  fun h hb=>h.keep (fun b hm=>A3b (j:=6) b (hg b (hb b hm)))
 refine ⟨_,_,B4p (j:=6) h,SBox.shut (x:={ B with low:=p.y }) (K h1 (fun b hb=>hs b (by simp[hb]))) (K h2 (fun b hb=>hs b (by simp[hb]))) (K h4 (fun b hb=>hs b (by simp[hb]))) (K h5 (fun b hb=>hs b (by simp[hb]))) (K hp1 (fun b hb=>hd b (List.mem_append_left _ hb))) (K hp2 (fun b hb=>hd b (List.mem_append_right _ hb))) (K h10 (fun b hb=>hs b (by simp[hb]))) (K h11 (fun b hb=>hs b (by simp[hb]))),fun b hb=>?_⟩
 all_goals (simp only [List.mem_append] at hs hd ⊢;try simp only [List.mem_append] at hb)
 all_goals grind
theorem BoxAt.set3 {U:World} {g:Nat} {B:SBox} {p:TPoint} {bs:List Nat} {A1:Option Addr} {n1 c1:Nat} {s1:List Nat} {A2:Option Addr} {n2 c2:Nat} {s2:List Nat} {A4:Option Addr} {n4 c4:Nat} {s4:List Nat} {A5:Option Addr} {n5 c5:Nat} {s5:List Nat} {A7:Option Addr} {n7 c7:Nat} {s7:List Nat} {A8:Option Addr} {n8 c8:Nat} {s8:List Nat} {A10:Option Addr} {n10 c10:Nat} {s10:List Nat} {A11:Option Addr} {n11 c11:Nat} {s11:List Nat} {D1 D2:Option Addr} {nD1 cD1 nD2 cD2:Nat} {d1 d2:List Nat}
  (h:U.heap[g]?=some (.cells #[.bool B.left.num.neg,.slice A1 n1 c1,.slice A2 n2 c2,.bool B.right.num.neg,.slice A4 n4 c4,.slice A5 n5 c5,.bool B.low.num.neg,.slice A7 n7 c7,.slice A8 n8 c8,.bool B.high.num.neg,.slice A10 n10 c10,.slice A11 n11 c11] 237)) (h1:Sl U A1 n1 c1 B.left.num.mag s1) (h2:Sl U A2 n2 c2 B.left.den s2) (h4:Sl U A4 n4 c4 B.right.num.mag s4) (h5:Sl U A5 n5 c5 B.right.den s5) (h7:Sl U A7 n7 c7 B.low.num.mag s7) (h8:Sl U A8 n8 c8 B.low.den s8)
  (hp1:Sl U D1 nD1 cD1 p.y.num.mag d1) (hp2:Sl U D2 nD2 cD2 p.y.den d2) (hs:∀ b∈s1++(s2++(s4++(s5++(s7++(s8++(s10++(s11))))))),b∈bs) (hd:∀ b∈d1++d2,b∈bs) (hg:∀ b∈bs,b≠g) :
  BoxAt (((U.setCell ⟨g,9,none⟩ (.bool p.y.num.neg)).setCell ⟨g,10,none⟩ (.slice D1 nD1 cD1)).setCell ⟨g,11,none⟩ (.slice D2 nD2 cD2)) g { B with high:=p.y } bs:=by
 have K:∀ {α:Type} [Dat α] {A:Option Addr} {n c:Nat} {xs:List α} {s:List Nat},Sl U A n c xs s→(∀ b∈s,b∈bs)→Sl (((U.setCell ⟨g,9,none⟩ (.bool p.y.num.neg)).setCell ⟨g,10,none⟩ (.slice D1 nD1 cD1)).setCell ⟨g,11,none⟩ (.slice D2 nD2 cD2)) A n c xs s :=
  fun h hb=>h.keep (fun b hm=>A3b (j:=9) b (hg b (hb b hm)))
 refine ⟨_,_,B4p (j:=9) h,SBox.shut (x:={ B with high:=p.y }) (K h1 (fun b hb=>hs b (by simp[hb]))) (K h2 (fun b hb=>hs b (by simp[hb]))) (K h4 (fun b hb=>hs b (by simp[hb]))) (K h5 (fun b hb=>hs b (by simp[hb]))) (K h7 (fun b hb=>hs b (by simp[hb]))) (K h8 (fun b hb=>hs b (by simp[hb]))) (K hp1 (fun b hb=>hd b (List.mem_append_left _ hb))) (K hp2 (fun b hb=>hd b (List.mem_append_right _ hb))),fun b hb=>?_⟩
 all_goals (simp only [List.mem_append] at hs hd ⊢;try simp only [List.mem_append] at hb)
 all_goals grind
structure BSt (w U:World) (gd gp:Nat) (B:SBox) (pc:List Value) (bs:List Nat):Prop where
 bx:BoxAt U gd B bs
 bl:Below w.heap.size w U
 pt:U.heap[gp]?=some (.cells pc.toArray 38)
 rs:U.heap[w.heap.size]?=some (.cells #[.bool false,.slice none 0 0,.slice none 0 0,.bool false,.slice none 0 0,.slice none 0 0,.bool false,.slice none 0 0,.slice none 0 0,.bool false,.slice none 0 0,.slice none 0 0] 237)
theorem BSt.below {w U U':World} {gd gp:Nat} {B:SBox} {pc:List Value} {bs:List Nat} (h:BSt w U gd gp B pc bs) (hb:Below U.heap.size U U'):BSt w U' gd gp B pc bs :=
 ⟨h.bx.below hb,Below.next h.bl hb,A0d h.pt hb,A0d h.rs hb⟩
theorem BSt.put0 {w U:World} {gd gp:Nat} {B:SBox} {p:TPoint} {pc:List Value} {bs:List Nat} {D1 D2:Option Addr} {nD1 cD1 nD2 cD2:Nat} {d1 d2:List Nat} (h:BSt w U gd gp B pc bs)
  (hp1:Sl U D1 nD1 cD1 p.x.num.mag d1) (hp2:Sl U D2 nD2 cD2 p.x.den d2) (hd:∀ b∈d1++d2,b∈bs) (hl:∀ b∈bs,b<w.heap.size) (hg:w.heap.size<gd) (hgp:gp≠gd) :
  BSt w (((U.setCell ⟨gd,0,none⟩ (.bool p.x.num.neg)).setCell ⟨gd,1,none⟩ (.slice D1 nD1 cD1)).setCell ⟨gd,2,none⟩ (.slice D2 nD2 cD2)) gd gp { B with left:=p.x } pc bs:=by
 obtain ⟨cs,s,hb,hdd,hs⟩:=h.bx
 obtain ⟨A1,n1,c1,s1,A2,n2,c2,s2,A4,n4,c4,s4,A5,n5,c5,s5,A7,n7,c7,s7,A8,n8,c8,s8,A10,n10,c10,s10,A11,n11,c11,s11,rfl,rfl,_,_,h4,h5,h7,h8,h10,h11⟩:=SBox.open_ hdd
 refine ⟨BoxAt.set0 (p:=p) hb h4 h5 h7 h8 h10 h11 hp1 hp2 hs hd (fun b hb=>by have:=hl b hb;omega),?_,(A3b (j:=0) gp hgp).trans h.pt,(A3b (j:=0) _ (by omega)).trans h.rs⟩
 exact ((h.bl.setCell (p:=⟨gd,0,none⟩) (Nat.le_of_lt hg) _).setCell (p:=⟨gd,1,none⟩) (Nat.le_of_lt hg) _).setCell (p:=⟨gd,2,none⟩) (Nat.le_of_lt hg) _
theorem BSt.put1 {w U:World} {gd gp:Nat} {B:SBox} {p:TPoint} {pc:List Value} {bs:List Nat} {D1 D2:Option Addr} {nD1 cD1 nD2 cD2:Nat} {d1 d2:List Nat} (h:BSt w U gd gp B pc bs)
  (hp1:Sl U D1 nD1 cD1 p.x.num.mag d1) (hp2:Sl U D2 nD2 cD2 p.x.den d2) (hd:∀ b∈d1++d2,b∈bs) (hl:∀ b∈bs,b<w.heap.size) (hg:w.heap.size<gd) (hgp:gp≠gd) :
  BSt w (((U.setCell ⟨gd,3,none⟩ (.bool p.x.num.neg)).setCell ⟨gd,4,none⟩ (.slice D1 nD1 cD1)).setCell ⟨gd,5,none⟩ (.slice D2 nD2 cD2)) gd gp { B with right:=p.x } pc bs:=by
 obtain ⟨cs,s,hb,hdd,hs⟩:=h.bx
 obtain ⟨A1,n1,c1,s1,A2,n2,c2,s2,A4,n4,c4,s4,A5,n5,c5,s5,A7,n7,c7,s7,A8,n8,c8,s8,A10,n10,c10,s10,A11,n11,c11,s11,rfl,rfl,h1,h2,_,_,h7,h8,h10,h11⟩:=SBox.open_ hdd
 refine ⟨BoxAt.set1 (p:=p) hb h1 h2 h7 h8 h10 h11 hp1 hp2 hs hd (fun b hb=>by have:=hl b hb;omega),?_,(A3b (j:=3) gp hgp).trans h.pt,(A3b (j:=3) _ (by omega)).trans h.rs⟩
 exact ((h.bl.setCell (p:=⟨gd,3,none⟩) (Nat.le_of_lt hg) _).setCell (p:=⟨gd,4,none⟩) (Nat.le_of_lt hg) _).setCell (p:=⟨gd,5,none⟩) (Nat.le_of_lt hg) _
theorem BSt.put2 {w U:World} {gd gp:Nat} {B:SBox} {p:TPoint} {pc:List Value} {bs:List Nat} {D1 D2:Option Addr} {nD1 cD1 nD2 cD2:Nat} {d1 d2:List Nat} (h:BSt w U gd gp B pc bs)
  (hp1:Sl U D1 nD1 cD1 p.y.num.mag d1) (hp2:Sl U D2 nD2 cD2 p.y.den d2) (hd:∀ b∈d1++d2,b∈bs) (hl:∀ b∈bs,b<w.heap.size) (hg:w.heap.size<gd) (hgp:gp≠gd) :
  BSt w (((U.setCell ⟨gd,6,none⟩ (.bool p.y.num.neg)).setCell ⟨gd,7,none⟩ (.slice D1 nD1 cD1)).setCell ⟨gd,8,none⟩ (.slice D2 nD2 cD2)) gd gp { B with low:=p.y } pc bs:=by
 obtain ⟨cs,s,hb,hdd,hs⟩:=h.bx
 obtain ⟨A1,n1,c1,s1,A2,n2,c2,s2,A4,n4,c4,s4,A5,n5,c5,s5,A7,n7,c7,s7,A8,n8,c8,s8,A10,n10,c10,s10,A11,n11,c11,s11,rfl,rfl,h1,h2,h4,h5,_,_,h10,h11⟩:=SBox.open_ hdd
 refine ⟨BoxAt.set2 (p:=p) hb h1 h2 h4 h5 h10 h11 hp1 hp2 hs hd (fun b hb=>by have:=hl b hb;omega),?_,(A3b (j:=6) gp hgp).trans h.pt,(A3b (j:=6) _ (by omega)).trans h.rs⟩
 exact ((h.bl.setCell (p:=⟨gd,6,none⟩) (Nat.le_of_lt hg) _).setCell (p:=⟨gd,7,none⟩) (Nat.le_of_lt hg) _).setCell (p:=⟨gd,8,none⟩) (Nat.le_of_lt hg) _
theorem BSt.put3 {w U:World} {gd gp:Nat} {B:SBox} {p:TPoint} {pc:List Value} {bs:List Nat} {D1 D2:Option Addr} {nD1 cD1 nD2 cD2:Nat} {d1 d2:List Nat} (h:BSt w U gd gp B pc bs)
  (hp1:Sl U D1 nD1 cD1 p.y.num.mag d1) (hp2:Sl U D2 nD2 cD2 p.y.den d2) (hd:∀ b∈d1++d2,b∈bs) (hl:∀ b∈bs,b<w.heap.size) (hg:w.heap.size<gd) (hgp:gp≠gd) :
  BSt w (((U.setCell ⟨gd,9,none⟩ (.bool p.y.num.neg)).setCell ⟨gd,10,none⟩ (.slice D1 nD1 cD1)).setCell ⟨gd,11,none⟩ (.slice D2 nD2 cD2)) gd gp { B with high:=p.y } pc bs:=by
 obtain ⟨cs,s,hb,hdd,hs⟩:=h.bx
 obtain ⟨A1,n1,c1,s1,A2,n2,c2,s2,A4,n4,c4,s4,A5,n5,c5,s5,A7,n7,c7,s7,A8,n8,c8,s8,A10,n10,c10,s10,A11,n11,c11,s11,rfl,rfl,h1,h2,h4,h5,h7,h8,_,_⟩:=SBox.open_ hdd
 refine ⟨BoxAt.set3 (p:=p) hb h1 h2 h4 h5 h7 h8 hp1 hp2 hs hd (fun b hb=>by have:=hl b hb;omega),?_,(A3b (j:=9) gp hgp).trans h.pt,(A3b (j:=9) _ (by omega)).trans h.rs⟩
 exact ((h.bl.setCell (p:=⟨gd,9,none⟩) (Nat.le_of_lt hg) _).setCell (p:=⟨gd,10,none⟩) (Nat.le_of_lt hg) _).setCell (p:=⟨gd,11,none⟩) (Nat.le_of_lt hg) _
def b1L (B:SBox) (p:TPoint):SBox:={ B with left:=bif decide (A3a p.x B.left<0) then p.x else B.left }
def b1R (B:SBox) (p:TPoint):SBox:={ B with right:=bif decide (0<A3a p.x B.right) then p.x else B.right }
def b1D (B:SBox) (p:TPoint):SBox:={ B with low:=bif decide (A3a p.y B.low<0) then p.y else B.low }
def b1U (B:SBox) (p:TPoint):SBox:={ B with high:=bif decide (0<A3a p.y B.high) then p.y else B.high }
theorem B7w (B:SBox) (p:TPoint):b1U (b1D (b1R (b1L B p) p) p) p=D3r B p:=rfl
def B1u (p0:TPoint) (ps:List TPoint) (k:Nat):SBox:=(ps.take k).foldl D3r (D6c p0)
theorem C4t {p0 x:TPoint} {ps:List TPoint} {k:Nat} (h:ps[k]?=some x):B1u p0 ps (k+1)=D3r (B1u p0 ps k) x:=by
 unfold B1u
 rw[take_step h,List.foldl_append];rfl
attribute [local go_sem] O_ opAt P_ M_ Region.wanted yielded
attribute [local simp] P_ M_ MP.eq MP.agg MP.sl MP.box A0e
theorem B2w (A:Option Addr) (n c:Nat) (ps:List TPoint) (bs:List Nat) (w:World) (hx:Sl w A n c ps bs) (p0:TPoint) (h0:ps[0]?=some p0) (hn:n≤40) :
  Calls Tryz.prog 239 #[.slice A n c] w (C9b w (C1v p0 ps) bs):=by
 have HX:=A_ hx
 have h0n:0<n:=by rw[← hx.1];exact (List.getElem?_eq_some_iff.1 h0).1
 have hn40:(n:Int)≤40:=by omega
 have h0ni:(0:Int)<n:=by omega
 obtain ⟨be,of,q0,D1,nD1,cD1,d1,D2,nD2,cD2,d2,D4,nD4,cD4,d4,D5,nD5,cD5,d5,rfl,hbl,hx0,e0,e1,e2,e3,e4,e5,g1,g2,g4,g5,hgs⟩:=TPoint.elem hx h0n
 obtain rfl:q0=p0:=by rw[h0] at hx0;exact (Option.some.inj hx0).symm
 simp only [Nat.zero_mul,Nat.add_zero] at e0 e1 e2 e3 e4 e5
 have G1:=A_ g1;have G2:=A_ g2;have G4:=A_ g4;have G5:=A_ g5;have GS:=A_ hgs
 have BSL:=A_ (show ∀ b∈bs,b<w.heap.size from hx.lt)
 have hbl1:be<w.heap.size+1:=by omega
 clear hx h0 hx0 g1 g2 g4 g5 hgs
 go_enter Tryz.func239,Tryz.ntmps239
 go_wp2_with fail
 refine Z_ (by simp) ?_
 dsimp only [List.dropLast,List.getLast,List.length]
 iterate 17
  refine D_ _ ?_
 refine A1z #[.bool false,.slice none 0 0,.slice none 0 0,.bool false,.slice none 0 0,.slice none 0 0,.bool false,.slice none 0 0,.slice none 0 0,.bool false,.slice none 0 0,.slice none 0 0] 237 ?_ ?_
 ·intro yq zq wq hC hd
  refine ⟨by go_simp;done,?_⟩
  go_simp
 intro yq zq wa hC hd (hdis:Hid _)
 simp at hd
 have q16:=hd.2.2.2.2.2.2.2.2.2.2.2.2.2.2.2.2.1
 have q17:=hd.2.2.2.2.2.2.2.2.2.2.2.2.2.2.2.2.2
 have e16:=q16.1.1
 obtain ⟨⟨gd,e17,z17,hgd⟩,hr17⟩:=q17
 rw[z17] at hr17
 have hgdl:=E_ hgd
 have hgd1:w.heap.size<gd:=by have:=(hr17 gd (by simp)).1;(try simp at this);omega
 obtain ⟨W2,hW2⟩:∃ W2,W2=((((((((((((wa.setCell ⟨gd,0,none⟩ (.bool q0.x.num.neg)).setCell ⟨gd,1,none⟩ (.slice D1 nD1 cD1)).setCell ⟨gd,2,none⟩ (.slice D2 nD2 cD2)).setCell ⟨gd,3,none⟩ (.bool q0.x.num.neg)).setCell ⟨gd,4,none⟩ (.slice D1 nD1 cD1)).setCell ⟨gd,5,none⟩ (.slice D2 nD2 cD2)).setCell ⟨gd,6,none⟩ (.bool q0.y.num.neg)).setCell ⟨gd,7,none⟩ (.slice D4 nD4 cD4)).setCell ⟨gd,8,none⟩ (.slice D5 nD5 cD5)).setCell ⟨gd,9,none⟩ (.bool q0.y.num.neg)).setCell ⟨gd,10,none⟩ (.slice D4 nD4 cD4)).setCell ⟨gd,11,none⟩ (.slice D5 nD5 cD5)):=⟨_,rfl⟩
 have KE:∀ b,b≠gd→W2.heap[b]?=wa.heap[b]?:=fun b hb=>by rw[hW2];exact A0b gd [.bool q0.x.num.neg,.slice D1 nD1 cD1,.slice D2 nD2 cD2,.bool q0.x.num.neg,.slice D1 nD1 cD1,.slice D2 nD2 cD2,.bool q0.y.num.neg,.slice D4 nD4 cD4,.slice D5 nD5 cD5,.bool q0.y.num.neg,.slice D4 nD4 cD4,.slice D5 nD5 cD5] wa 0 b hb
 have BW2:Below w.heap.size w W2:=by rw[hW2];exact (((((((((((((Below.next (Below.box _) hC).setCell (p:=⟨gd,0,none⟩) (Nat.le_of_lt hgd1) _).setCell (p:=⟨gd,1,none⟩) (Nat.le_of_lt hgd1) _).setCell (p:=⟨gd,2,none⟩) (Nat.le_of_lt hgd1) _).setCell (p:=⟨gd,3,none⟩) (Nat.le_of_lt hgd1) _).setCell (p:=⟨gd,4,none⟩) (Nat.le_of_lt hgd1) _).setCell (p:=⟨gd,5,none⟩) (Nat.le_of_lt hgd1) _).setCell (p:=⟨gd,6,none⟩) (Nat.le_of_lt hgd1) _).setCell (p:=⟨gd,7,none⟩) (Nat.le_of_lt hgd1) _).setCell (p:=⟨gd,8,none⟩) (Nat.le_of_lt hgd1) _).setCell (p:=⟨gd,9,none⟩) (Nat.le_of_lt hgd1) _).setCell (p:=⟨gd,10,none⟩) (Nat.le_of_lt hgd1) _).setCell (p:=⟨gd,11,none⟩) (Nat.le_of_lt hgd1) _)
 have KP:∀ b∈bs,W2.heap[b]?=w.heap[b]?:=fun b hb=>BW2.block b (BSL.o b hb)
 have SF:=A_ (show W2.heap[gd]?=some (.cells #[.bool q0.x.num.neg,.slice D1 nD1 cD1,.slice D2 nD2 cD2,.bool q0.x.num.neg,.slice D1 nD1 cD1,.slice D2 nD2 cD2,.bool q0.y.num.neg,.slice D4 nD4 cD4,.slice D5 nD5 cD5,.bool q0.y.num.neg,.slice D4 nD4 cD4,.slice D5 nD5 cD5] 237) by rw[hW2];have:=B9h gd 237 [.bool q0.x.num.neg,.slice D1 nD1 cD1,.slice D2 nD2 cD2,.bool q0.x.num.neg,.slice D1 nD1 cD1,.slice D2 nD2 cD2,.bool q0.y.num.neg,.slice D4 nD4 cD4,.slice D5 nD5 cD5,.bool q0.y.num.neg,.slice D4 nD4 cD4,.slice D5 nD5 cD5] wa 0 [.bool false,.slice none 0 0,.slice none 0 0,.bool false,.slice none 0 0,.slice none 0 0,.bool false,.slice none 0 0,.slice none 0 0,.bool false,.slice none 0 0,.slice none 0 0] hgd (by simp);simpa [A8s] using this)
 have BX2:BoxAt W2 gd (B1u q0 ps 0) bs:=⟨[.bool q0.x.num.neg,.slice D1 nD1 cD1,.slice D2 nD2 cD2,.bool q0.x.num.neg,.slice D1 nD1 cD1,.slice D2 nD2 cD2,.bool q0.y.num.neg,.slice D4 nD4 cD4,.slice D5 nD5 cD5,.bool q0.y.num.neg,.slice D4 nD4 cD4,.slice D5 nD5 cD5],_,SF.o,SBox.shut (x:=D6c q0) (G1.o.below BW2) (G2.o.below BW2) (G1.o.below BW2) (G2.o.below BW2) (G4.o.below BW2) (G5.o.below BW2) (G4.o.below BW2) (G5.o.below BW2),fun b hb=>by
  have:=GS.o b
  simp only [List.mem_append] at hb this
  exact this (by grind)⟩
 have RS2:W2.heap[w.heap.size]?=some (.cells #[.bool false,.slice none 0 0,.slice none 0 0,.bool false,.slice none 0 0,.slice none 0 0,.bool false,.slice none 0 0,.slice none 0 0,.bool false,.slice none 0 0,.slice none 0 0] 237):=(KE _ (by omega)).trans ((hC.block _ (by simp)).trans (heap_alloc_new w _))
 have HW2:=A_ hW2
 have HB2:=A_ BW2;have HX2:=A_ BX2;have HR2:=A_ RS2
 have hgd2:gd<W2.heap.size:=E_ SF.o
 obtain ⟨d0,fz0⟩:=B_ hgd (j:=0) rfl
 obtain ⟨d1,fz1⟩:=B_ hgd (j:=1) rfl
 obtain ⟨d2,fz2⟩:=B_ hgd (j:=2) rfl
 obtain ⟨d3,fz3⟩:=B_ hgd (j:=3) rfl
 obtain ⟨d4,fz4⟩:=B_ hgd (j:=4) rfl
 obtain ⟨d5,fz5⟩:=B_ hgd (j:=5) rfl
 obtain ⟨d6,fz6⟩:=B_ hgd (j:=6) rfl
 obtain ⟨d7,fz7⟩:=B_ hgd (j:=7) rfl
 obtain ⟨d8,fz8⟩:=B_ hgd (j:=8) rfl
 obtain ⟨d9,fz9⟩:=B_ hgd (j:=9) rfl
 obtain ⟨d10,fz10⟩:=B_ hgd (j:=10) rfl
 obtain ⟨d11,fz11⟩:=B_ hgd (j:=11) rfl
 simp at d0 d1 d2 d3 d4 d5 d6 d7 d8 d9 d10 d11
 clear hd hdis hr17 z17 hgd hC KE KP BW2 BX2 RS2 SF q16 e0 e1 e2 e3 e4 e5
 go_upto_region 2 with fail
 rw[← hW2]
 clear hW2 HW2 hgdl e16 d0 fz0 d1 fz1 d2 fz2 d3 fz3 d4 fz4 d5 fz5 d6 fz6 d7 fz7 d8 fz8 d9 fz9 d10 fz10 d11 fz11
 go_wp2_with fail
 go_loopg [25] n (fun g s wr=>∃ k:Nat,k+g=n∧s=.int .i64 k∧Hid (BoxAt wr gd (B1u q0 ps k) bs)∧Hid (Below w.heap.size w wr)∧Hid (wr.heap[w.heap.size]?=some (.cells #[.bool false,.slice none 0 0,.slice none 0 0,.bool false,.slice none 0 0,.slice none 0 0,.bool false,.slice none 0 0,.slice none 0 0,.bool false,.slice none 0 0,.slice none 0 0] 237))∧gd<wr.heap.size)
 case atStart=>exact ⟨0,by omega,rfl,HX2.o,HB2.o,HR2.o,hgd2⟩
 case round =>
  clear HX2 HB2 HR2 hgd2
  obtain ⟨k,hk,rfl,HXr,HBr,HRr,hgr⟩:=hrel
  rcases Nat.lt_or_ge k n with hkn | hkn
  ·have hki:(k:Int)<n:=by omega
   have hki0:(0:Int)≤k:=by omega
   obtain ⟨g,rfl⟩:∃ g,gk=g+1:=⟨gk - 1,by omega⟩
   have hk':=A_ (show k+1+g=n by omega)
   obtain ⟨be2,of2,p,P1,nP1,cP1,p1,P2,nP2,cP2,p2,P4,nP4,cP4,p4,P5,nP5,cP5,p5,hAe,hbl2,hx2,f0,f1,f2,f3,f4,f5,l1,l2,l4,l5,hgs2⟩:=TPoint.elem (HX.o.below HBr.o) hkn
   injection hAe with hAe;injection hAe with t1 t2 _;subst t1;subst t2
   have NX:=A_ (C4t (p0:=q0) hx2)
   have GP:=A_ hgs2
   have LS:=A_ (show Sl wr P1 nP1 cP1 p.x.num.mag p1∧Sl wr P2 nP2 cP2 p.x.den p2∧Sl wr P4 nP4 cP4 p.y.num.mag p4∧Sl wr P5 nP5 cP5 p.y.den p5 from ⟨l1,l2,l4,l5⟩)
   have KW:=A_ (show ∀ (U:World),Below w.heap.size w U→Sl U P1 nP1 cP1 p.x.num.mag p1∧Sl U P2 nP2 cP2 p.x.den p2∧Sl U P4 nP4 cP4 p.y.num.mag p4∧Sl U P5 nP5 cP5 p.y.den p5 from fun U hU=>by
    have K:∀ b∈bs,U.heap[b]?=wr.heap[b]?:=fun b hb=>(hU.block b (BSL.o b hb)).trans (HBr.o.block b (BSL.o b hb)).symm
    exact ⟨l1.keep (fun b hb=>K b (GP.o b (by simp[hb]))),l2.keep (fun b hb=>K b (GP.o b (by simp[hb]))),l4.keep (fun b hb=>K b (GP.o b (by simp[hb]))),l5.keep (fun b hb=>K b (GP.o b (by simp[hb])))⟩)
   have GX:=A_ (show ∀ b∈p1++p2,b∈bs from fun b hb=>GP.o b (by rcases List.mem_append.1 hb with h | h<;>simp[h]))
   have GY:=A_ (show ∀ b∈p4++p5,b∈bs from fun b hb=>GP.o b (by rcases List.mem_append.1 hb with h | h<;>simp[h]))
   obtain ⟨B,hB⟩:∃ B,B1u q0 ps k=B:=⟨_,rfl⟩
   rw[hB] at HXr NX
   have hnw:wr.heap.size≠gd:=by omega
   have hwr:w.heap.size<wr.heap.size:=by omega
   clear hk hkn hx2 hgs2 l1 l2 l4 l5 hB LS
   go_upto_region 5 with fail
   obtain ⟨W0,hW0⟩:∃ W,W=wr.alloc (.cells #[.bool p.x.num.neg,.slice P1 nP1 cP1,.slice P2 nP2 cP2,.bool p.y.num.neg,.slice P4 nP4 cP4,.slice P5 nP5 cP5] 38):=⟨_,rfl⟩
   have S0:=A_ (show BSt w W0 gd wr.heap.size B [.bool p.x.num.neg,.slice P1 nP1 cP1,.slice P2 nP2 cP2,.bool p.y.num.neg,.slice P4 nP4 cP4,.slice P5 nP5 cP5] bs by
    rw[hW0]
    exact ⟨HXr.o.below (Below.box _),Below.next HBr.o (Below.box _),heap_alloc_new wr _,(A0d HRr.o (Below.box _))⟩)
   rw[← hW0]
   clear hW0 f0 f1 f2 f3 f4 f5 HXr HRr
   obtain ⟨cs0,ss0,hb0,hdd0,hs0⟩:=S0.o.bx
   obtain ⟨A1,n1,c1,s1,A2,n2,c2,s2,A4,n4,c4,s4,A5,n5,c5,s5,A7,n7,c7,s7,A8,n8,c8,s8,A10,n10,c10,s10,A11,n11,c11,s11,rfl,rfl,h1,h2,h4,h5,h7,h8,h10,h11⟩:=SBox.open_ hdd0
   have AF0:=A_ (TRat.mkAgg (x:=B.left) h1 h2)
   have AP0:=A_ (TRat.mkAgg (x:=p.x) (KW.o _ S0.o.bl).1 (KW.o _ S0.o.bl).2.1)
   obtain ⟨r0,t0⟩:=B_ hb0 (j:=0) rfl
   obtain ⟨r1,t1⟩:=B_ hb0 (j:=1) rfl
   obtain ⟨r2,t2⟩:=B_ hb0 (j:=2) rfl
   obtain ⟨v0,_⟩:=B_ S0.o.pt (j:=0) rfl
   obtain ⟨v1,_⟩:=B_ S0.o.pt (j:=1) rfl
   obtain ⟨v2,_⟩:=B_ S0.o.pt (j:=2) rfl
   simp at r0 r1 r2 v0 v1 v2
   have hgw0:gd<W0.heap.size:=E_ hb0
   have hpw0:wr.heap.size<W0.heap.size:=E_ S0.o.pt
   clear hb0 hdd0 hs0 h1 h2 h4 h5 h7 h8 h10 h11
   go_wp2_with fail
   refine (A2i _ _ p.x B.left _ _ W0 AP0.o AF0.o).mono ?_
   rintro _ U0 ⟨rfl,hbU⟩
   have T0:=A_ (S0.o.below hbU)
   obtain ⟨x0,z0⟩:U0.cell? ⟨gd,0,none⟩=some (.bool B.left.num.neg)∧U0.frozen? ⟨gd,0,none⟩=false:=⟨(hbU.cell (p:=⟨gd,0,none⟩) hgw0).trans r0,(hbU.frozen (p:=⟨gd,0,none⟩) hgw0).trans t0⟩
   obtain ⟨x1,z1⟩:U0.cell? ⟨gd,1,none⟩=some (.slice A1 n1 c1)∧U0.frozen? ⟨gd,1,none⟩=false:=⟨(hbU.cell (p:=⟨gd,1,none⟩) hgw0).trans r1,(hbU.frozen (p:=⟨gd,1,none⟩) hgw0).trans t1⟩
   obtain ⟨x2,z2⟩:U0.cell? ⟨gd,2,none⟩=some (.slice A2 n2 c2)∧U0.frozen? ⟨gd,2,none⟩=false:=⟨(hbU.cell (p:=⟨gd,2,none⟩) hgw0).trans r2,(hbU.frozen (p:=⟨gd,2,none⟩) hgw0).trans t2⟩
   have w0_:U0.cell? ⟨wr.heap.size,0,none⟩=some (.bool p.x.num.neg):=(hbU.cell (p:=⟨wr.heap.size,0,none⟩) hpw0).trans v0
   have w1_:U0.cell? ⟨wr.heap.size,1,none⟩=some (.slice P1 nP1 cP1):=(hbU.cell (p:=⟨wr.heap.size,1,none⟩) hpw0).trans v1
   have w2_:U0.cell? ⟨wr.heap.size,2,none⟩=some (.slice P2 nP2 cP2):=(hbU.cell (p:=⟨wr.heap.size,2,none⟩) hpw0).trans v2
   have hgu0:gd<U0.heap.size:=by have:=hbU.size;omega
   have hpu0:wr.heap.size<U0.heap.size:=by have:=hbU.size;omega
   clear hbU r0 r1 r2 t0 t1 t2 v0 v1 v2 hgw0 hpw0 AF0 AP0 S0
   go_upto_if 34 with fail
   go_cut [] (fun wx=>Hid (BSt w wx gd wr.heap.size (b1L B p) [.bool p.x.num.neg,.slice P1 nP1 cP1,.slice P2 nP2 cP2,.bool p.y.num.neg,.slice P4 nP4 cP4,.slice P5 nP5 cP5] bs))
   case first =>
    by_cases hlt:A3a p.x B.left<0
    ·have PT:=A_ (T0.o.put0 (p:=p) (KW.o _ T0.o.bl).1 (KW.o _ T0.o.bl).2.1 GX.o BSL.o hgd1 hnw)
     rw[show ({ B with left:=p.x }:SBox)=b1L B p by unfold b1L;rw[decide_eq_true hlt];rfl] at PT
     go_wp2_with fail
     go_meet
     exact PT
    have PT:=A_ T0.o
    rw[show B=b1L B p by unfold b1L;rw[decide_eq_false hlt];rfl] at PT
    go_wp2_with fail
    go_meet
    exact PT
   case rest =>
   have S1:=A_ hcut.o
   rename World=>W1
   obtain ⟨B1,hB1⟩:∃ X,b1L B p=X:=⟨_,rfl⟩
   rw[hB1] at S1
   have HB1:=A_ hB1
   clear hcut T0 x0 x1 x2 z0 z1 z2 w0_ w1_ w2_ hgu0 hpu0 hB1
   rename (∀ (a:Act) (w:World),Code.wp _ _ _ a w→_)=>hK
   refine hK _ _ ?_
   clear hK
   obtain ⟨cs1,ss1,hb1,hdd1,hs1⟩:=S1.o.bx
   obtain ⟨A1,n1,c1,s1,A2,n2,c2,s2,A4,n4,c4,s4,A5,n5,c5,s5,A7,n7,c7,s7,A8,n8,c8,s8,A10,n10,c10,s10,A11,n11,c11,s11,rfl,rfl,h1,h2,h4,h5,h7,h8,h10,h11⟩:=SBox.open_ hdd1
   have AF1:=A_ (TRat.mkAgg (x:=B1.right) h4 h5)
   have AP1:=A_ (TRat.mkAgg (x:=p.x) (KW.o _ S1.o.bl).1 (KW.o _ S1.o.bl).2.1)
   obtain ⟨r0,t0⟩:=B_ hb1 (j:=3) rfl
   obtain ⟨r1,t1⟩:=B_ hb1 (j:=4) rfl
   obtain ⟨r2,t2⟩:=B_ hb1 (j:=5) rfl
   obtain ⟨v0,_⟩:=B_ S1.o.pt (j:=0) rfl
   obtain ⟨v1,_⟩:=B_ S1.o.pt (j:=1) rfl
   obtain ⟨v2,_⟩:=B_ S1.o.pt (j:=2) rfl
   simp at r0 r1 r2 v0 v1 v2
   have hgw1:gd<W1.heap.size:=E_ hb1
   have hpw1:wr.heap.size<W1.heap.size:=E_ S1.o.pt
   clear hb1 hdd1 hs1 h1 h2 h4 h5 h7 h8 h10 h11
   go_wp2_with fail
   refine (A2i _ _ p.x B1.right _ _ W1 AP1.o AF1.o).mono ?_
   rintro _ U1 ⟨rfl,hbU⟩
   have T1:=A_ (S1.o.below hbU)
   obtain ⟨x0,z0⟩:U1.cell? ⟨gd,3,none⟩=some (.bool B1.right.num.neg)∧U1.frozen? ⟨gd,3,none⟩=false:=⟨(hbU.cell (p:=⟨gd,3,none⟩) hgw1).trans r0,(hbU.frozen (p:=⟨gd,3,none⟩) hgw1).trans t0⟩
   obtain ⟨x1,z1⟩:U1.cell? ⟨gd,4,none⟩=some (.slice A4 n4 c4)∧U1.frozen? ⟨gd,4,none⟩=false:=⟨(hbU.cell (p:=⟨gd,4,none⟩) hgw1).trans r1,(hbU.frozen (p:=⟨gd,4,none⟩) hgw1).trans t1⟩
   obtain ⟨x2,z2⟩:U1.cell? ⟨gd,5,none⟩=some (.slice A5 n5 c5)∧U1.frozen? ⟨gd,5,none⟩=false:=⟨(hbU.cell (p:=⟨gd,5,none⟩) hgw1).trans r2,(hbU.frozen (p:=⟨gd,5,none⟩) hgw1).trans t2⟩
   have w0_:U1.cell? ⟨wr.heap.size,0,none⟩=some (.bool p.x.num.neg):=(hbU.cell (p:=⟨wr.heap.size,0,none⟩) hpw1).trans v0
   have w1_:U1.cell? ⟨wr.heap.size,1,none⟩=some (.slice P1 nP1 cP1):=(hbU.cell (p:=⟨wr.heap.size,1,none⟩) hpw1).trans v1
   have w2_:U1.cell? ⟨wr.heap.size,2,none⟩=some (.slice P2 nP2 cP2):=(hbU.cell (p:=⟨wr.heap.size,2,none⟩) hpw1).trans v2
   have hgu1:gd<U1.heap.size:=by have:=hbU.size;omega
   have hpu1:wr.heap.size<U1.heap.size:=by have:=hbU.size;omega
   clear hbU r0 r1 r2 t0 t1 t2 v0 v1 v2 hgw1 hpw1 AF1 AP1 S1
   go_upto_if 43 with fail
   go_cut [] (fun wx=>Hid (BSt w wx gd wr.heap.size (b1R B1 p) [.bool p.x.num.neg,.slice P1 nP1 cP1,.slice P2 nP2 cP2,.bool p.y.num.neg,.slice P4 nP4 cP4,.slice P5 nP5 cP5] bs))
   case first =>
    by_cases hlt:0<A3a p.x B1.right
    ·have PT:=A_ (T1.o.put1 (p:=p) (KW.o _ T1.o.bl).1 (KW.o _ T1.o.bl).2.1 GX.o BSL.o hgd1 hnw)
     rw[show ({ B1 with right:=p.x }:SBox)=b1R B1 p by unfold b1R;rw[decide_eq_true hlt];rfl] at PT
     have hlt':A3a p.x B1.right > 0:=hlt
     go_wp2_with fail
     go_meet
     exact PT
    have PT:=A_ T1.o
    rw[show B1=b1R B1 p by unfold b1R;rw[decide_eq_false hlt];rfl] at PT
    have hlt':¬ (A3a p.x B1.right > 0):=hlt
    go_wp2_with fail
    go_meet
    exact PT
   case rest =>
   have S2:=A_ hcut.o
   rename World=>W2
   obtain ⟨B2,hB2⟩:∃ X,b1R B1 p=X:=⟨_,rfl⟩
   rw[hB2] at S2
   have HB2:=A_ hB2
   clear hcut T1 x0 x1 x2 z0 z1 z2 w0_ w1_ w2_ hgu1 hpu1 hB2
   rename (∀ (a:Act) (w:World),Code.wp _ _ _ a w→_)=>hK
   refine hK _ _ ?_
   clear hK
   obtain ⟨cs2,ss2,hb2,hdd2,hs2⟩:=S2.o.bx
   obtain ⟨A1,n1,c1,s1,A2,n2,c2,s2,A4,n4,c4,s4,A5,n5,c5,s5,A7,n7,c7,s7,A8,n8,c8,s8,A10,n10,c10,s10,A11,n11,c11,s11,rfl,rfl,h1,h2,h4,h5,h7,h8,h10,h11⟩:=SBox.open_ hdd2
   have AF2:=A_ (TRat.mkAgg (x:=B2.low) h7 h8)
   have AP2:=A_ (TRat.mkAgg (x:=p.y) (KW.o _ S2.o.bl).2.2.1 (KW.o _ S2.o.bl).2.2.2)
   obtain ⟨r0,t0⟩:=B_ hb2 (j:=6) rfl
   obtain ⟨r1,t1⟩:=B_ hb2 (j:=7) rfl
   obtain ⟨r2,t2⟩:=B_ hb2 (j:=8) rfl
   obtain ⟨v0,_⟩:=B_ S2.o.pt (j:=3) rfl
   obtain ⟨v1,_⟩:=B_ S2.o.pt (j:=4) rfl
   obtain ⟨v2,_⟩:=B_ S2.o.pt (j:=5) rfl
   simp at r0 r1 r2 v0 v1 v2
   have hgw2:gd<W2.heap.size:=E_ hb2
   have hpw2:wr.heap.size<W2.heap.size:=E_ S2.o.pt
   clear hb2 hdd2 hs2 h1 h2 h4 h5 h7 h8 h10 h11
   go_wp2_with fail
   refine (A2i _ _ p.y B2.low _ _ W2 AP2.o AF2.o).mono ?_
   rintro _ U2 ⟨rfl,hbU⟩
   have T2:=A_ (S2.o.below hbU)
   obtain ⟨x0,z0⟩:U2.cell? ⟨gd,6,none⟩=some (.bool B2.low.num.neg)∧U2.frozen? ⟨gd,6,none⟩=false:=⟨(hbU.cell (p:=⟨gd,6,none⟩) hgw2).trans r0,(hbU.frozen (p:=⟨gd,6,none⟩) hgw2).trans t0⟩
   obtain ⟨x1,z1⟩:U2.cell? ⟨gd,7,none⟩=some (.slice A7 n7 c7)∧U2.frozen? ⟨gd,7,none⟩=false:=⟨(hbU.cell (p:=⟨gd,7,none⟩) hgw2).trans r1,(hbU.frozen (p:=⟨gd,7,none⟩) hgw2).trans t1⟩
   obtain ⟨x2,z2⟩:U2.cell? ⟨gd,8,none⟩=some (.slice A8 n8 c8)∧U2.frozen? ⟨gd,8,none⟩=false:=⟨(hbU.cell (p:=⟨gd,8,none⟩) hgw2).trans r2,(hbU.frozen (p:=⟨gd,8,none⟩) hgw2).trans t2⟩
   have w0_:U2.cell? ⟨wr.heap.size,3,none⟩=some (.bool p.y.num.neg):=(hbU.cell (p:=⟨wr.heap.size,3,none⟩) hpw2).trans v0
   have w1_:U2.cell? ⟨wr.heap.size,4,none⟩=some (.slice P4 nP4 cP4):=(hbU.cell (p:=⟨wr.heap.size,4,none⟩) hpw2).trans v1
   have w2_:U2.cell? ⟨wr.heap.size,5,none⟩=some (.slice P5 nP5 cP5):=(hbU.cell (p:=⟨wr.heap.size,5,none⟩) hpw2).trans v2
   have hgu2:gd<U2.heap.size:=by have:=hbU.size;omega
   have hpu2:wr.heap.size<U2.heap.size:=by have:=hbU.size;omega
   clear hbU r0 r1 r2 t0 t1 t2 v0 v1 v2 hgw2 hpw2 AF2 AP2 S2
   go_upto_if 52 with fail
   go_cut [] (fun wx=>Hid (BSt w wx gd wr.heap.size (b1D B2 p) [.bool p.x.num.neg,.slice P1 nP1 cP1,.slice P2 nP2 cP2,.bool p.y.num.neg,.slice P4 nP4 cP4,.slice P5 nP5 cP5] bs))
   case first =>
    by_cases hlt:A3a p.y B2.low<0
    ·have PT:=A_ (T2.o.put2 (p:=p) (KW.o _ T2.o.bl).2.2.1 (KW.o _ T2.o.bl).2.2.2 GY.o BSL.o hgd1 hnw)
     rw[show ({ B2 with low:=p.y }:SBox)=b1D B2 p by unfold b1D;rw[decide_eq_true hlt];rfl] at PT
     go_wp2_with fail
     go_meet
     exact PT
    have PT:=A_ T2.o
    rw[show B2=b1D B2 p by unfold b1D;rw[decide_eq_false hlt];rfl] at PT
    go_wp2_with fail
    go_meet
    exact PT
   case rest =>
   have S3:=A_ hcut.o
   rename World=>W3
   obtain ⟨B3,hB3⟩:∃ X,b1D B2 p=X:=⟨_,rfl⟩
   rw[hB3] at S3
   have HB3:=A_ hB3
   clear hcut T2 x0 x1 x2 z0 z1 z2 w0_ w1_ w2_ hgu2 hpu2 hB3
   rename (∀ (a:Act) (w:World),Code.wp _ _ _ a w→_)=>hK
   refine hK _ _ ?_
   clear hK
   obtain ⟨cs3,ss3,hb3,hdd3,hs3⟩:=S3.o.bx
   obtain ⟨A1,n1,c1,s1,A2,n2,c2,s2,A4,n4,c4,s4,A5,n5,c5,s5,A7,n7,c7,s7,A8,n8,c8,s8,A10,n10,c10,s10,A11,n11,c11,s11,rfl,rfl,h1,h2,h4,h5,h7,h8,h10,h11⟩:=SBox.open_ hdd3
   have AF3:=A_ (TRat.mkAgg (x:=B3.high) h10 h11)
   have AP3:=A_ (TRat.mkAgg (x:=p.y) (KW.o _ S3.o.bl).2.2.1 (KW.o _ S3.o.bl).2.2.2)
   obtain ⟨r0,t0⟩:=B_ hb3 (j:=9) rfl
   obtain ⟨r1,t1⟩:=B_ hb3 (j:=10) rfl
   obtain ⟨r2,t2⟩:=B_ hb3 (j:=11) rfl
   obtain ⟨v0,_⟩:=B_ S3.o.pt (j:=3) rfl
   obtain ⟨v1,_⟩:=B_ S3.o.pt (j:=4) rfl
   obtain ⟨v2,_⟩:=B_ S3.o.pt (j:=5) rfl
   simp at r0 r1 r2 v0 v1 v2
   have hgw3:gd<W3.heap.size:=E_ hb3
   have hpw3:wr.heap.size<W3.heap.size:=E_ S3.o.pt
   clear hb3 hdd3 hs3 h1 h2 h4 h5 h7 h8 h10 h11
   go_wp2_with fail
   refine (A2i _ _ p.y B3.high _ _ W3 AP3.o AF3.o).mono ?_
   rintro _ U3 ⟨rfl,hbU⟩
   have T3:=A_ (S3.o.below hbU)
   obtain ⟨x0,z0⟩:U3.cell? ⟨gd,9,none⟩=some (.bool B3.high.num.neg)∧U3.frozen? ⟨gd,9,none⟩=false:=⟨(hbU.cell (p:=⟨gd,9,none⟩) hgw3).trans r0,(hbU.frozen (p:=⟨gd,9,none⟩) hgw3).trans t0⟩
   obtain ⟨x1,z1⟩:U3.cell? ⟨gd,10,none⟩=some (.slice A10 n10 c10)∧U3.frozen? ⟨gd,10,none⟩=false:=⟨(hbU.cell (p:=⟨gd,10,none⟩) hgw3).trans r1,(hbU.frozen (p:=⟨gd,10,none⟩) hgw3).trans t1⟩
   obtain ⟨x2,z2⟩:U3.cell? ⟨gd,11,none⟩=some (.slice A11 n11 c11)∧U3.frozen? ⟨gd,11,none⟩=false:=⟨(hbU.cell (p:=⟨gd,11,none⟩) hgw3).trans r2,(hbU.frozen (p:=⟨gd,11,none⟩) hgw3).trans t2⟩
   have w0_:U3.cell? ⟨wr.heap.size,3,none⟩=some (.bool p.y.num.neg):=(hbU.cell (p:=⟨wr.heap.size,3,none⟩) hpw3).trans v0
   have w1_:U3.cell? ⟨wr.heap.size,4,none⟩=some (.slice P4 nP4 cP4):=(hbU.cell (p:=⟨wr.heap.size,4,none⟩) hpw3).trans v1
   have w2_:U3.cell? ⟨wr.heap.size,5,none⟩=some (.slice P5 nP5 cP5):=(hbU.cell (p:=⟨wr.heap.size,5,none⟩) hpw3).trans v2
   have hgu3:gd<U3.heap.size:=by have:=hbU.size;omega
   have hpu3:wr.heap.size<U3.heap.size:=by have:=hbU.size;omega
   clear hbU r0 r1 r2 t0 t1 t2 v0 v1 v2 hgw3 hpw3 AF3 AP3 S3
   by_cases hlt:0<A3a p.y B3.high
   ·have hlt':A3a p.y B3.high > 0:=hlt
    have PT:=T3.o.put3 (p:=p) (KW.o _ T3.o.bl).2.2.1 (KW.o _ T3.o.bl).2.2.2 GY.o BSL.o hgd1 hnw
    rw[show ({ B3 with high:=p.y }:SBox)=B1u q0 ps (k+1) by rw[NX.o,← B7w,HB1.o,HB2.o,HB3.o];unfold b1U;rw[decide_eq_true hlt];rfl] at PT
    have QX:=A_ PT.bx;have QL:=A_ PT.bl;have QR:=A_ PT.rs
    clear PT
    go_wp2_with fail
    go_roundg g
    case measure=>omega
    case rel=>exact ⟨k+1,hk'.o,by go_simp,QX.o,QL.o,QR.o,by simp[World.setCell];exact hgu3⟩
   have hlt':¬ (A3a p.y B3.high > 0):=hlt
   have PT:=T3.o
   rw[show B3=B1u q0 ps (k+1) by rw[NX.o,← B7w,HB1.o,HB2.o,HB3.o];unfold b1U;rw[decide_eq_false hlt];rfl] at PT
   have QX:=A_ PT.bx;have QL:=A_ PT.bl;have QR:=A_ PT.rs
   clear PT
   go_wp2_with fail
   go_roundg g
   case measure=>omega
   case rel=>exact ⟨k+1,hk'.o,by go_simp,QX.o,QL.o,QR.o,hgu3⟩
  obtain rfl:k=n:=by omega
  have hii:¬ ((k:Int)<k):=by omega
  have EQ:=A_ (show B1u q0 ps k=C1v q0 ps by unfold B1u C1v;rw[List.take_of_length_le (by rw[HX.o.1];exact Nat.le_refl _)];rfl)
  obtain ⟨cs,s,hb,hdd,hs⟩:=HXr.o
  obtain ⟨A1,n1,c1,s1,A2,n2,c2,s2,A4,n4,c4,s4,A5,n5,c5,s5,A7,n7,c7,s7,A8,n8,c8,s8,A10,n10,c10,s10,A11,n11,c11,s11,rfl,rfl,h1,h2,h4,h5,h7,h8,h10,h11⟩:=SBox.open_ hdd
  obtain ⟨B,hB⟩:∃ B,B1u q0 ps k=B:=⟨_,rfl⟩
  rw[hB] at hb h1 h2 h4 h5 h7 h8 h10 h11 EQ
  obtain ⟨d0,_⟩:=B_ hb (j:=0) rfl
  obtain ⟨q0,_⟩:=B_ HRr.o (j:=0) rfl
  obtain ⟨d1,_⟩:=B_ hb (j:=1) rfl
  obtain ⟨q1,_⟩:=B_ HRr.o (j:=1) rfl
  obtain ⟨d2,_⟩:=B_ hb (j:=2) rfl
  obtain ⟨q2,_⟩:=B_ HRr.o (j:=2) rfl
  obtain ⟨d3,_⟩:=B_ hb (j:=3) rfl
  obtain ⟨q3,_⟩:=B_ HRr.o (j:=3) rfl
  obtain ⟨d4,_⟩:=B_ hb (j:=4) rfl
  obtain ⟨q4,_⟩:=B_ HRr.o (j:=4) rfl
  obtain ⟨d5,_⟩:=B_ hb (j:=5) rfl
  obtain ⟨q5,_⟩:=B_ HRr.o (j:=5) rfl
  obtain ⟨d6,_⟩:=B_ hb (j:=6) rfl
  obtain ⟨q6,_⟩:=B_ HRr.o (j:=6) rfl
  obtain ⟨d7,_⟩:=B_ hb (j:=7) rfl
  obtain ⟨q7,_⟩:=B_ HRr.o (j:=7) rfl
  obtain ⟨d8,_⟩:=B_ hb (j:=8) rfl
  obtain ⟨q8,_⟩:=B_ HRr.o (j:=8) rfl
  obtain ⟨d9,_⟩:=B_ hb (j:=9) rfl
  obtain ⟨q9,_⟩:=B_ HRr.o (j:=9) rfl
  obtain ⟨d10,_⟩:=B_ hb (j:=10) rfl
  obtain ⟨q10,_⟩:=B_ HRr.o (j:=10) rfl
  obtain ⟨d11,_⟩:=B_ hb (j:=11) rfl
  obtain ⟨q11,_⟩:=B_ HRr.o (j:=11) rfl
  simp at d0 d1 d2 d3 d4 d5 d6 d7 d8 d9 d10 d11
  have HDD:=A_ (SBox.shut (x:=B) h1 h2 h4 h5 h7 h8 h10 h11)
  have HSS:=A_ hs
  have hwr:w.heap.size<wr.heap.size:=E_ HRr.o
  clear hdd hb hs h1 h2 h4 h5 h7 h8 h10 h11 hk hkn hB
  go_wp2
  refine bodyPost_ret (v:=.agg #[.bool B.left.num.neg,.slice A1 n1 c1,.slice A2 n2 c2,.bool B.right.num.neg,.slice A4 n4 c4,.slice A5 n5 c5,.bool B.low.num.neg,.slice A7 n7 c7,.slice A8 n8 c8,.bool B.high.num.neg,.slice A10 n10 c10,.slice A11 n11 c11]) (by simp[results,Tryz.results239,go_sem, *]) rfl ?_
  rw[← EQ.o]
  refine ⟨_,_,rfl,⟨_,rfl,Dat.keep HDD.o (fun b hb=>A0b w.heap.size [.bool B.left.num.neg,.slice A1 n1 c1,.slice A2 n2 c2,.bool B.right.num.neg,.slice A4 n4 c4,.slice A5 n5 c5,.bool B.low.num.neg,.slice A7 n7 c7,.slice A8 n8 c8,.bool B.high.num.neg,.slice A10 n10 c10,.slice A11 n11 c11] wr 0 b (by have:=BSL.o b (HSS.o b hb);omega))⟩,HSS.o,?_⟩
  exact B1r HBr.o (Nat.le_refl _) [.bool B.left.num.neg,.slice A1 n1 c1,.slice A2 n2 c2,.bool B.right.num.neg,.slice A4 n4 c4,.slice A5 n5 c5,.bool B.low.num.neg,.slice A7 n7 c7,.slice A8 n8 c8,.bool B.high.num.neg,.slice A10 n10 c10,.slice A11 n11 c11] 0
end Go.Proofs.YtbhemnidcleaiaaGreat.X
