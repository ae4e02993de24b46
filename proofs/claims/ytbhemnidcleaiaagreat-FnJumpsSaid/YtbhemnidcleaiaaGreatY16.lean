/- A part of the proof. -/
import Derived.Test.YtbhemnidcleaiaaGreatY15
import Derived.Test.YtbhemnidcleaiaaGreatY12
import Derived.Test.YtbhemnidcleaiaaGreatY2
import Derived.Test.YtbhemnidcleaiaaGreatY8
set_option linter.constructorNameAsVariable false
set_option maxHeartbeats 16000000
set_option maxRecDepth 10000
namespace Go.Proofs.YtbhemnidcleaiaaGreat.X
open Go.RowKit Go.XB Go.XN
def A0g (es:List TEdge) (k:Int) (t:TTri):Nat→List TEdge
 | 0=>es
 | 1=>A0w es k t.a t.b
 | 2=>A0w (A0w es k t.a t.b) k t.b t.c
 | _=>C9f es k t
theorem B3p (es:List TEdge) (k:Int) (t:TTri) (i:Nat):(A0g es k t i).length≤es.length+3:=by
 have h1:=A8k es k t.a t.b
 have h2:=A8k (A0w es k t.a t.b) k t.b t.c
 have h3:=A8k (A0w (A0w es k t.a t.b) k t.b t.c) k t.c t.a
 unfold A0g
 split
 ·omega
 ·omega
 ·omega
 unfold C9f;omega
theorem C7u {w wr:World} {g n cap:Nat} {cells:List Value} {es:List TEdge} {bs:List Nat} (h:wr.ownsRow (w.heap.size+1) 70 4 (.slice (some ⟨g,0,none⟩) n cap) n cells) (hs:Sl wr (some ⟨g,0,none⟩) n cap es bs):Own w wr bs:=by
 obtain ⟨h1,h2,h3,h4,h5⟩:=hs
 rcases Nat.eq_zero_or_pos n with h0 | h0
 ·rw[h4 h0];exact Own.nil _ _
 obtain ⟨b,off,bss,hA,rfl,hl,hbl,he⟩:=h5 h0
 have hfl:bss.flatten=[]:=by
  rw[List.flatten_eq_nil_iff]
  intro l hl'
  obtain ⟨k,hk⟩:=List.mem_iff_getElem?.1 hl'
  have hkl:k<es.length:=by rw[← hl];exact (List.getElem?_eq_some_iff.1 hk).1
  obtain ⟨cs,_,ha⟩:=he k _ l (List.getElem?_eq_getElem hkl) hk
  exact (TEdge.open_ ha).2.1
 rw[hfl]
 cases hA
 rcases h.2 with ⟨h',_⟩ | ⟨g',cap',cur,hv,hb,hg,_⟩
 ·cases h'
 cases hv
 exact ⟨by simp,fun x hx=>by simp at hx;subst hx;exact ⟨by omega,_,_,hg⟩⟩
attribute [local go_sem] O_ opAt P_ M_ Region.wanted yielded
attribute [local simp] P_ M_ MP.eq MP.agg MP.sl MP.slc A0e
attribute [local go_sem] ix0 ix1 ix2

theorem B9f (v:Value) (m:TMesh) (b:List Nat) (w:World) (hx:Agg w v m b) (hm:m.triangles.length≤48) :
  Calls Tryz.prog 32 #[v] w (A2t w (A2m m.triangles)):=by
 obtain ⟨A0,n0,c0,s0,A1,n1,c1,s1,rfl,rfl,hs0,hs1⟩:=TMesh.agg hx
 have HS:=A_ hs1
 have HL:=A_ hs1.1
 have hn1:n1≤48:=by rw[← hs1.1];exact hm
 obtain ⟨i0,hi,hz0,hz1,hz2⟩:=info_parts B9m
 clear hx hs0 hs1 hm
 obtain ⟨ts,hts⟩:∃ ts,m.triangles=ts:=⟨_,rfl⟩
 rw[hts] at HS HL ⊢
 clear hts
 go_enter Tryz.func32,Tryz.ntmps32
 go_wp2_with fail
 go_loopg [3,17] n1 (fun g s3 s17 wr=>∃ (k gB cap L:Nat),k+g=n1∧s17=.int .i64 k∧s3=.slice (some ⟨gB,0,none⟩) L cap∧Hid ((A4a ts k).length=L)∧Hid (wr.ownsRow (w.heap.size+1) 70 4 (.slice (some ⟨gB,0,none⟩) L cap) L ((A4a ts k).flatMap A1h))∧Hid (∀ e∈A4a ts k,A3f e)∧Below (w.heap.size+1) (w.alloc (.cells #[.slice A0 n0 c0,.slice A1 n1 c1] 26)) wr)
 case atStart =>
  refine ⟨0,w.heap.size+1,0,0,by omega,rfl,rfl,?_,?_,?_,?_⟩
  ·show ([]:List TEdge).length=0;rfl
  ·have:=World.ownsRow_made (base:=w.heap.size+1) (e:=70) (size:=4) (w.alloc (.cells #[.slice A0 n0 c0,.slice A1 n1 c1] 26)) #[] 0 (by simp) (Nat.zero_le _) rfl
   rw[World.size_alloc] at this
   exact this
  ·show ∀ e∈([]:List TEdge),A3f e;intro e he;cases he
  exact (Below.refl _ _).alloc (by simp) _
 case round =>
  obtain ⟨k,gB,cap,L,hk,rfl,rfl,hL,hrow,hok,hb⟩:=hrel
  have HBW:=A_ (show Below w.heap.size w wr from (Below.box (.cells #[.slice A0 n0 c0,.slice A1 n1 c1] 26)).trans (hb.mono (by omega)))
  rcases Nat.lt_or_ge k n1 with hkn | hkn
  ·obtain ⟨g,rfl⟩:∃ g,gk=g+1:=⟨gk - 1,by omega⟩
   have hk':=A_ (show k+1+g=n1 by omega)
   have hki:(k:Int)<n1:=by omega
   have hk48:(k:Int)≤48:=by omega
   obtain ⟨be,of,t,rfl,hbl,hx1,e0,e1,e2,e3,e4,hag⟩:=TTri.elemA (HS.o.below HBW.o) hkn
   have HX1:=A_ hx1;have HAG:=A_ hag;have HB:=A_ hb
   clear hk hkn hx1 hag hb
   go_wp2_with fail
   refine (A4c _ t _ _ (HAG.o.below (Below.box _))).mono ?_
   rintro _ w1 ⟨rfl,hb1⟩
   obtain ⟨hc_w1,hf_w1⟩:=C_ hb1
   obtain ⟨es0,hes0⟩:∃ es,A4a ts k=es:=⟨_,rfl⟩
   rw[hes0] at hL hrow hok
   have NX:=A_ (show A4a ts (k+1)=C9f es0 k t by rw[A4a,List.getD_eq_getElem?_getD,HX1.o,hes0];rfl)
   have HE0:=A_ (show es0.length≤3*k by rw[← hes0];exact A9n ts k)
   have hk48':k≤48:=by omega
   have ITT:=A_ (show I64 t.a∧I64 t.b∧I64 t.c from by obtain ⟨_,_,i1,i2,i3,_,_⟩:=TTri.agg HAG.o;exact ⟨i1,i2,i3⟩)
   have IK:=A_ (show I64 (k:Int) by constructor<;>omega)
   have HBx1:=A_ (show Below wr.heap.size wr w1 from Below.trans (Below.box _) (hb1.mono (by simp)))
   have R1:=A_ (J_ hrow.o HBx1.o)
   have HB1:=A_ (HB.o.trans (HBx1.o.mono (by have:=HB.o.size;simp at this;omega)))
   have hne1:=(World.ownsRow.lt R1.o _ rfl).2
   clear hes0
   go_wp2_with fail
   go_loopg [3,25] 3 (fun g s3 s25 wr=>∃ (i gC cap2 L2:Nat),i+g=3∧s25=.int .i64 i∧s3=.slice (some ⟨gC,0,none⟩) L2 cap2∧Hid ((A0g es0 k t i).length=L2)∧Hid (wr.ownsRow (w.heap.size+1) 70 4 (.slice (some ⟨gC,0,none⟩) L2 cap2) L2 ((A0g es0 k t i).flatMap A1h))∧Hid (∀ e∈A0g es0 k t i,A3f e)∧gC≠w1.heap.size∧Below (w.heap.size+1) (w.alloc (.cells #[.slice A0 n0 c0,.slice (some ⟨be,of,none⟩) n1 c1] 26)) wr∧w1.heap.size<wr.heap.size∧(wr.cell? ⟨w1.heap.size,0,none⟩=some (.int .i64 t.a)∧wr.cell? ⟨w1.heap.size,1,none⟩=some (.int .i64 t.b)∧wr.cell? ⟨w1.heap.size,2,none⟩=some (.int .i64 t.c)))
   case atStart=>exact ⟨0,gB,cap,L,rfl,rfl,rfl,hL.o,J_ R1.o (Below.box _),hok.o,by omega,HB1.o.alloc (by have:=HB1.o.size;simp at this;omega) _,by simp,⟨by go_simp,by go_simp,by go_simp⟩⟩
   case round =>
   clear hc_w1 hf_w1 hL hrow hok R1 hne1
   obtain ⟨i,gC,cap2,L2,hi2,rfl,rfl,hL2,hr2,ho2,hne,hbi,hsi,⟨b0,b1,b2⟩⟩:=hrel
   have HBi:=A_ hbi
   clear hbi
   obtain rfl | rfl | rfl | rfl:i=0∨i=1∨i=2∨i=3:=by omega
   ·obtain rfl:gk=2+1:=by omega
    obtain ⟨es,hes⟩:∃ es,A0g es0 k t 0=es:=⟨_,rfl⟩
    rw[hes] at hL2 hr2 ho2
    have EES:=A_ hes
    have HL2:=A_ hL2.o
    have hid_ok0:=A_ (show ∀ e∈A0g es0 k t (0+1),A3f e from by show ∀ e∈A0w (A0g es0 k t 0) k (t.a) (t.b),A3f e;rw[hes];exact B8p IK.o ITT.o.1 ITT.o.2.1 ho2.o)
    obtain ⟨lo,hlo⟩:∃ l,min (t.a) (t.b)=l:=⟨_,rfl⟩
    obtain ⟨hi_,hhi⟩:∃ l,max (t.a) (t.b)=l:=⟨_,rfl⟩
    have HK:=A_ (show A3s (t.a) (t.b)=⟨lo,hi_,-1,-1⟩ by unfold A3s;rw[hlo,hhi])
    have EOK:=A_ (show A3f ⟨lo,hi_,-1,-1⟩ by rw[← HK.o];exact B7l ITT.o.1 ITT.o.2.1)
    obtain ⟨p,hp⟩:∃ p,B4z es (A3s (t.a) (t.b))=p:=⟨_,rfl⟩
    have P:=A_ hp
    have PLE:=A_ (show p≤L2 by rw[← hp,← HL2.o];exact B7g _ _)
    have hple:(p:Int)≤L2:=by have:=PLE.o;omega
    obtain ⟨bs2,hsl2,_⟩:=B0g hr2.o HL2.o ho2.o
    have SL2:=A_ hsl2
    have LB:=A_ (show L2≤65536 by have:=B3p es0 k t 0;rw[hes,HL2.o] at this;have:=HE0.o;have:=hk48';omega)
    have hL2i:(L2:Int)≤65536:=by have:=LB.o;omega
    have hgC:=(World.ownsRow.lt hr2.o _ rfl)
    have hgC1:gC<wr.heap.size:=hgC.2
    have C:=B0m (some ⟨gC,0,none⟩) L2 cap2 es bs2 (.agg #[.int .i64 lo,.int .i64 hi_,.int .i64 (-1),.int .i64 (-1)]) ⟨lo,hi_,-1,-1⟩ [] (wr.alloc (.cells #[.int .i64 lo,.int .i64 hi_,.int .i64 (-1),.int .i64 (-1)] 70)) (SL2.o.below (Below.box _)) LB.o (TEdge.mkAgg (x:=⟨lo,hi_,-1,-1⟩) EOK.o.1 EOK.o.2.1 EOK.o.2.2.1 EOK.o.2.2.2)
    rw[← HK.o,hp] at C
    have CC:=A_ C
    clear C hes hp hsl2 hL2 hgC hi2
    cases hF:B3o es (A3s (t.a) (t.b))
    ·have F:=A_ hF
     clear hF
     by_cases hab:t.a<t.b
     ·have AB:=A_ (show decide (t.a<t.b)=true by simp[hab])
      go_wp2_with fail
      have C:=CC.o
      rw[F.o] at C
      refine C.mono ?_
      clear C CC
      rintro _ w2 ⟨rfl,hb2⟩
      obtain ⟨hc_w2,hf_w2⟩:=C_ hb2
      have HBx:=A_ (show Below wr.heap.size wr w2 from Below.trans (Below.box _) (hb2.mono (by simp)))
      have hs2:wr.heap.size<w2.heap.size:=by have:=hb2.size;simp at this;omega
      have hs21:w1.heap.size<w2.heap.size:=by omega
      have hs2g:gC<w2.heap.size:=by omega
      have R2:=A_ (J_ hr2.o HBx.o)
      have HB2:=A_ (HBi.o.trans (HBx.o.mono (by have:=HBi.o.size;simp at this;omega)))
      go_wp2_with fail
      have VB:=A_ (heap_alloc_new w2 (.cells #[.int .i64 lo,.int .i64 hi_,.int .i64 (-1),.int .i64 (-1)] 70))
      refine (A7e (w.heap.size+1) gC L2 cap2 w2.heap.size p (es.flatMap A1h) [.int .i64 lo,.int .i64 hi_,.int .i64 (-1),.int .i64 (-1)] (w2.alloc (.cells #[.int .i64 lo,.int .i64 hi_,.int .i64 (-1),.int .i64 (-1)] 70)) (J_ R2.o (Below.box _)) (by have:=HB2.o.size;simp at this;simp;omega) LB.o PLE.o VB.o rfl (by intro v hv;simp at hv;rcases hv with rfl | rfl | rfl | rfl<;>rfl) A6w (by omega)).mono ?_
      rintro _ w3 ⟨g5,cap5,rfl,hr3,hg3,ho3⟩
      have R3:=A_ (show w3.ownsRow (w.heap.size+1) 70 4 (.slice (some ⟨g5,0,none⟩) (L2+1) cap5) (L2+1) ((A3p es p (A3s (t.a) (t.b))).flatMap A1h) by rw[A8z (by rw[HL2.o];exact PLE.o),HK.o];exact hr3)
      have HL3:=A_ (show (A3p es p (A3s (t.a) (t.b))).length=L2+1 by rw[A6l (by rw[HL2.o];exact PLE.o),HL2.o])
      have HB3:=A_ ((HB2.o.alloc (by have:=HB2.o.size;simp at this;omega) (.cells #[.int .i64 lo,.int .i64 hi_,.int .i64 (-1),.int .i64 (-1)] 70)).grown hg3 (by have:=HB2.o.size;simp at this;simp;omega) (fun k2 hk2=>by injection hk2 with h;subst h;exact (World.ownsRow.lt R2.o _ rfl).1))
      have hne5:g5≠w1.heap.size:=fun e=>ho3.elim (fun h=>hne (h ▸ e)) (fun h=>by simp at h;omega)
      have hs3:w2.heap.size+1≤w3.heap.size:=by have:=hg3.size;simp at this;exact this
      have hs31:w1.heap.size<w3.heap.size:=by omega
      have hblk:=hg3.block w1.heap.size (by simp;omega) (by intro e;injection e with e;exact hne e.symm)
      have d0:w3.cell? ⟨w1.heap.size,0,none⟩=some (.int .i64 t.a):=(World.cell?_of_block (a:=⟨w1.heap.size,0,none⟩) hblk).trans (by go_simp)
      have d1:w3.cell? ⟨w1.heap.size,1,none⟩=some (.int .i64 t.b):=(World.cell?_of_block (a:=⟨w1.heap.size,1,none⟩) hblk).trans (by go_simp)
      have d2:w3.cell? ⟨w1.heap.size,2,none⟩=some (.int .i64 t.c):=(World.cell?_of_block (a:=⟨w1.heap.size,2,none⟩) hblk).trans (by go_simp)
      clear hr3 hg3 ho3 hblk hc_w2 hf_w2 b0 b1 b2
      have PL:=A_ (show p<(A3p es p (A3s (t.a) (t.b))).length by rw[HL3.o];have:=PLE.o;omega)
      obtain ⟨row9,gr9,⟨u9,cu9⟩,fr9⟩:=row_set (n:=(L2+1)) R3.o (i:=p*4+2) (by rw[A3d];have:=PL.o;omega) (.int .i64 k)
      rw[show ((A3p es p (A3s (t.a) (t.b))).flatMap A1h).set (p*4+2) (.int .i64 (k:Int))=(A0g es0 k t (0+1)).flatMap A1h by
       rw[show A0g es0 k t (0+1)=(A3p es p (A3s (t.a) (t.b))).modify p (A4s k true) by
        show A0w (A0g es0 k t 0) k (t.a) (t.b)=_
        rw[EES.o];unfold A0w;simp only [P.o,F.o,AB.o];rfl]
       exact (A3q k true _ p PL.o).symm] at row9
      have R9:=A_ row9
      have L9:=A_ (show (A0g es0 k t (0+1)).length=(L2+1) by
       show (A0w (A0g es0 k t 0) k (t.a) (t.b)).length=_
       rw[EES.o];unfold A0w;simp only [P.o,F.o,List.length_modify];exact HL3.o)
      have HB9:=A_ (show Below (w.heap.size+1) (w.alloc (.cells #[.slice A0 n0 c0,.slice (some ⟨be,of,none⟩) n1 c1] 26)) (w3.setCell ⟨g5,p*4+2,none⟩ (.int .i64 k)) from HB3.o.setCell (p:=⟨g5,p*4+2,none⟩) (show w.heap.size+1≤g5 from (World.ownsRow.lt R3.o _ rfl).1) _)
      have hgs:g5<w3.heap.size:=(World.ownsRow.lt R3.o _ rfl).2
      have hpi:(p:Int)<L2+1:=by have:=PL.o;have:=HL3.o;omega
      clear row9 gr9
      go_wp2_with fail
      go_roundg 2
      case measure=>omega
      case rel=>exact ⟨0+1,g5,_,(L2+1),rfl,by go_num,rfl,L9.o,R9.o,hid_ok0,hne5,HB9.o,by simp;omega,⟨by go_simp,by go_simp,by go_simp⟩⟩
     have AB:=A_ (show decide (t.a<t.b)=false by simp;omega)
     go_wp2_with fail
     have C:=CC.o
     rw[F.o] at C
     refine C.mono ?_
     clear C CC
     rintro _ w2 ⟨rfl,hb2⟩
     obtain ⟨hc_w2,hf_w2⟩:=C_ hb2
     have HBx:=A_ (show Below wr.heap.size wr w2 from Below.trans (Below.box _) (hb2.mono (by simp)))
     have hs2:wr.heap.size<w2.heap.size:=by have:=hb2.size;simp at this;omega
     have hs21:w1.heap.size<w2.heap.size:=by omega
     have hs2g:gC<w2.heap.size:=by omega
     have R2:=A_ (J_ hr2.o HBx.o)
     have HB2:=A_ (HBi.o.trans (HBx.o.mono (by have:=HBi.o.size;simp at this;omega)))
     go_wp2_with fail
     have VB:=A_ (heap_alloc_new w2 (.cells #[.int .i64 lo,.int .i64 hi_,.int .i64 (-1),.int .i64 (-1)] 70))
     refine (A7e (w.heap.size+1) gC L2 cap2 w2.heap.size p (es.flatMap A1h) [.int .i64 lo,.int .i64 hi_,.int .i64 (-1),.int .i64 (-1)] (w2.alloc (.cells #[.int .i64 lo,.int .i64 hi_,.int .i64 (-1),.int .i64 (-1)] 70)) (J_ R2.o (Below.box _)) (by have:=HB2.o.size;simp at this;simp;omega) LB.o PLE.o VB.o rfl (by intro v hv;simp at hv;rcases hv with rfl | rfl | rfl | rfl<;>rfl) A6w (by omega)).mono ?_
     rintro _ w3 ⟨g5,cap5,rfl,hr3,hg3,ho3⟩
     have R3:=A_ (show w3.ownsRow (w.heap.size+1) 70 4 (.slice (some ⟨g5,0,none⟩) (L2+1) cap5) (L2+1) ((A3p es p (A3s (t.a) (t.b))).flatMap A1h) by rw[A8z (by rw[HL2.o];exact PLE.o),HK.o];exact hr3)
     have HL3:=A_ (show (A3p es p (A3s (t.a) (t.b))).length=L2+1 by rw[A6l (by rw[HL2.o];exact PLE.o),HL2.o])
     have HB3:=A_ ((HB2.o.alloc (by have:=HB2.o.size;simp at this;omega) (.cells #[.int .i64 lo,.int .i64 hi_,.int .i64 (-1),.int .i64 (-1)] 70)).grown hg3 (by have:=HB2.o.size;simp at this;simp;omega) (fun k2 hk2=>by injection hk2 with h;subst h;exact (World.ownsRow.lt R2.o _ rfl).1))
     have hne5:g5≠w1.heap.size:=fun e=>ho3.elim (fun h=>hne (h ▸ e)) (fun h=>by simp at h;omega)
     have hs3:w2.heap.size+1≤w3.heap.size:=by have:=hg3.size;simp at this;exact this
     have hs31:w1.heap.size<w3.heap.size:=by omega
     have hblk:=hg3.block w1.heap.size (by simp;omega) (by intro e;injection e with e;exact hne e.symm)
     have d0:w3.cell? ⟨w1.heap.size,0,none⟩=some (.int .i64 t.a):=(World.cell?_of_block (a:=⟨w1.heap.size,0,none⟩) hblk).trans (by go_simp)
     have d1:w3.cell? ⟨w1.heap.size,1,none⟩=some (.int .i64 t.b):=(World.cell?_of_block (a:=⟨w1.heap.size,1,none⟩) hblk).trans (by go_simp)
     have d2:w3.cell? ⟨w1.heap.size,2,none⟩=some (.int .i64 t.c):=(World.cell?_of_block (a:=⟨w1.heap.size,2,none⟩) hblk).trans (by go_simp)
     clear hr3 hg3 ho3 hblk hc_w2 hf_w2 b0 b1 b2
     have PL:=A_ (show p<(A3p es p (A3s (t.a) (t.b))).length by rw[HL3.o];have:=PLE.o;omega)
     obtain ⟨row9,gr9,⟨u9,cu9⟩,fr9⟩:=row_set (n:=(L2+1)) R3.o (i:=p*4+3) (by rw[A3d];have:=PL.o;omega) (.int .i64 k)
     rw[show ((A3p es p (A3s (t.a) (t.b))).flatMap A1h).set (p*4+3) (.int .i64 (k:Int))=(A0g es0 k t (0+1)).flatMap A1h by
      rw[show A0g es0 k t (0+1)=(A3p es p (A3s (t.a) (t.b))).modify p (A4s k false) by
       show A0w (A0g es0 k t 0) k (t.a) (t.b)=_
       rw[EES.o];unfold A0w;simp only [P.o,F.o,AB.o];rfl]
      exact (A3q k false _ p PL.o).symm] at row9
     have R9:=A_ row9
     have L9:=A_ (show (A0g es0 k t (0+1)).length=(L2+1) by
      show (A0w (A0g es0 k t 0) k (t.a) (t.b)).length=_
      rw[EES.o];unfold A0w;simp only [P.o,F.o,List.length_modify];exact HL3.o)
     have HB9:=A_ (show Below (w.heap.size+1) (w.alloc (.cells #[.slice A0 n0 c0,.slice (some ⟨be,of,none⟩) n1 c1] 26)) (w3.setCell ⟨g5,p*4+3,none⟩ (.int .i64 k)) from HB3.o.setCell (p:=⟨g5,p*4+3,none⟩) (show w.heap.size+1≤g5 from (World.ownsRow.lt R3.o _ rfl).1) _)
     have hgs:g5<w3.heap.size:=(World.ownsRow.lt R3.o _ rfl).2
     have hpi:(p:Int)<L2+1:=by have:=PL.o;have:=HL3.o;omega
     clear row9 gr9
     go_wp2_with fail
     go_roundg 2
     case measure=>omega
     case rel=>exact ⟨0+1,g5,_,(L2+1),rfl,by go_num,rfl,L9.o,R9.o,hid_ok0,hne5,HB9.o,by simp;omega,⟨by go_simp,by go_simp,by go_simp⟩⟩
    have F:=A_ hF
    have PLT:=A_ (show p<L2 by unfold B3o at hF;rw[P.o,HL2.o] at hF;simp at hF;exact hF.1)
    clear hF
    by_cases hab:t.a<t.b
    ·have AB:=A_ (show decide (t.a<t.b)=true by simp[hab])
     go_wp2_with fail
     have C:=CC.o
     rw[F.o] at C
     refine C.mono ?_
     clear C CC
     rintro _ w2 ⟨rfl,hb2⟩
     obtain ⟨hc_w2,hf_w2⟩:=C_ hb2
     have HBx:=A_ (show Below wr.heap.size wr w2 from Below.trans (Below.box _) (hb2.mono (by simp)))
     have hs2:wr.heap.size<w2.heap.size:=by have:=hb2.size;simp at this;omega
     have hs21:w1.heap.size<w2.heap.size:=by omega
     have hs2g:gC<w2.heap.size:=by omega
     have R2:=A_ (J_ hr2.o HBx.o)
     have HB2:=A_ (HBi.o.trans (HBx.o.mono (by have:=HBi.o.size;simp at this;omega)))
     have d0:w2.cell? ⟨w1.heap.size,0,none⟩=some (.int .i64 t.a):=by go_simp
     have d1:w2.cell? ⟨w1.heap.size,1,none⟩=some (.int .i64 t.b):=by go_simp
     have d2:w2.cell? ⟨w1.heap.size,2,none⟩=some (.int .i64 t.c):=by go_simp
     clear hc_w2 hf_w2 b0 b1 b2
     have PL:=A_ (show p<es.length by rw[HL2.o];exact PLT.o)
     obtain ⟨row9,gr9,⟨u9,cu9⟩,fr9⟩:=row_set (n:=L2) R2.o (i:=p*4+2) (by rw[A3d];have:=PL.o;omega) (.int .i64 k)
     rw[show (es.flatMap A1h).set (p*4+2) (.int .i64 (k:Int))=(A0g es0 k t (0+1)).flatMap A1h by
      rw[show A0g es0 k t (0+1)=es.modify p (A4s k true) by
       show A0w (A0g es0 k t 0) k (t.a) (t.b)=_
       rw[EES.o];unfold A0w;simp only [P.o,F.o,AB.o];rfl]
      exact (A3q k true _ p PL.o).symm] at row9
     have R9:=A_ row9
     have L9:=A_ (show (A0g es0 k t (0+1)).length=L2 by
      show (A0w (A0g es0 k t 0) k (t.a) (t.b)).length=_
      rw[EES.o];unfold A0w;simp only [P.o,F.o,List.length_modify];exact HL2.o)
     have HB9:=A_ (show Below (w.heap.size+1) (w.alloc (.cells #[.slice A0 n0 c0,.slice (some ⟨be,of,none⟩) n1 c1] 26)) (w2.setCell ⟨gC,p*4+2,none⟩ (.int .i64 k)) from HB2.o.setCell (p:=⟨gC,p*4+2,none⟩) (show w.heap.size+1≤gC from (World.ownsRow.lt R2.o _ rfl).1) _)
     have hgs:gC<w2.heap.size:=(World.ownsRow.lt R2.o _ rfl).2
     have hpi:(p:Int)<L2:=by have:=PL.o;have:=HL2.o;omega
     clear row9 gr9
     go_wp2_with fail
     go_roundg 2
     case measure=>omega
     case rel=>exact ⟨0+1,gC,_,L2,rfl,by go_num,rfl,L9.o,R9.o,hid_ok0,hne,HB9.o,by simp;omega,⟨by go_simp,by go_simp,by go_simp⟩⟩
    have AB:=A_ (show decide (t.a<t.b)=false by simp;omega)
    go_wp2_with fail
    have C:=CC.o
    rw[F.o] at C
    refine C.mono ?_
    clear C CC
    rintro _ w2 ⟨rfl,hb2⟩
    obtain ⟨hc_w2,hf_w2⟩:=C_ hb2
    have HBx:=A_ (show Below wr.heap.size wr w2 from Below.trans (Below.box _) (hb2.mono (by simp)))
    have hs2:wr.heap.size<w2.heap.size:=by have:=hb2.size;simp at this;omega
    have hs21:w1.heap.size<w2.heap.size:=by omega
    have hs2g:gC<w2.heap.size:=by omega
    have R2:=A_ (J_ hr2.o HBx.o)
    have HB2:=A_ (HBi.o.trans (HBx.o.mono (by have:=HBi.o.size;simp at this;omega)))
    have d0:w2.cell? ⟨w1.heap.size,0,none⟩=some (.int .i64 t.a):=by go_simp
    have d1:w2.cell? ⟨w1.heap.size,1,none⟩=some (.int .i64 t.b):=by go_simp
    have d2:w2.cell? ⟨w1.heap.size,2,none⟩=some (.int .i64 t.c):=by go_simp
    clear hc_w2 hf_w2 b0 b1 b2
    have PL:=A_ (show p<es.length by rw[HL2.o];exact PLT.o)
    obtain ⟨row9,gr9,⟨u9,cu9⟩,fr9⟩:=row_set (n:=L2) R2.o (i:=p*4+3) (by rw[A3d];have:=PL.o;omega) (.int .i64 k)
    rw[show (es.flatMap A1h).set (p*4+3) (.int .i64 (k:Int))=(A0g es0 k t (0+1)).flatMap A1h by
     rw[show A0g es0 k t (0+1)=es.modify p (A4s k false) by
      show A0w (A0g es0 k t 0) k (t.a) (t.b)=_
      rw[EES.o];unfold A0w;simp only [P.o,F.o,AB.o];rfl]
     exact (A3q k false _ p PL.o).symm] at row9
    have R9:=A_ row9
    have L9:=A_ (show (A0g es0 k t (0+1)).length=L2 by
     show (A0w (A0g es0 k t 0) k (t.a) (t.b)).length=_
     rw[EES.o];unfold A0w;simp only [P.o,F.o,List.length_modify];exact HL2.o)
    have HB9:=A_ (show Below (w.heap.size+1) (w.alloc (.cells #[.slice A0 n0 c0,.slice (some ⟨be,of,none⟩) n1 c1] 26)) (w2.setCell ⟨gC,p*4+3,none⟩ (.int .i64 k)) from HB2.o.setCell (p:=⟨gC,p*4+3,none⟩) (show w.heap.size+1≤gC from (World.ownsRow.lt R2.o _ rfl).1) _)
    have hgs:gC<w2.heap.size:=(World.ownsRow.lt R2.o _ rfl).2
    have hpi:(p:Int)<L2:=by have:=PL.o;have:=HL2.o;omega
    clear row9 gr9
    go_wp2_with fail
    go_roundg 2
    case measure=>omega
    case rel=>exact ⟨0+1,gC,_,L2,rfl,by go_num,rfl,L9.o,R9.o,hid_ok0,hne,HB9.o,by simp;omega,⟨by go_simp,by go_simp,by go_simp⟩⟩
   ·obtain rfl:gk=1+1:=by omega
    obtain ⟨es,hes⟩:∃ es,A0g es0 k t 1=es:=⟨_,rfl⟩
    rw[hes] at hL2 hr2 ho2
    have EES:=A_ hes
    have HL2:=A_ hL2.o
    have hid_ok1:=A_ (show ∀ e∈A0g es0 k t (1+1),A3f e from by show ∀ e∈A0w (A0g es0 k t 1) k (t.b) (t.c),A3f e;rw[hes];exact B8p IK.o ITT.o.2.1 ITT.o.2.2 ho2.o)
    obtain ⟨lo,hlo⟩:∃ l,min (t.b) (t.c)=l:=⟨_,rfl⟩
    obtain ⟨hi_,hhi⟩:∃ l,max (t.b) (t.c)=l:=⟨_,rfl⟩
    have HK:=A_ (show A3s (t.b) (t.c)=⟨lo,hi_,-1,-1⟩ by unfold A3s;rw[hlo,hhi])
    have EOK:=A_ (show A3f ⟨lo,hi_,-1,-1⟩ by rw[← HK.o];exact B7l ITT.o.2.1 ITT.o.2.2)
    obtain ⟨p,hp⟩:∃ p,B4z es (A3s (t.b) (t.c))=p:=⟨_,rfl⟩
    have P:=A_ hp
    have PLE:=A_ (show p≤L2 by rw[← hp,← HL2.o];exact B7g _ _)
    have hple:(p:Int)≤L2:=by have:=PLE.o;omega
    obtain ⟨bs2,hsl2,_⟩:=B0g hr2.o HL2.o ho2.o
    have SL2:=A_ hsl2
    have LB:=A_ (show L2≤65536 by have:=B3p es0 k t 1;rw[hes,HL2.o] at this;have:=HE0.o;have:=hk48';omega)
    have hL2i:(L2:Int)≤65536:=by have:=LB.o;omega
    have hgC:=(World.ownsRow.lt hr2.o _ rfl)
    have hgC1:gC<wr.heap.size:=hgC.2
    have C:=B0m (some ⟨gC,0,none⟩) L2 cap2 es bs2 (.agg #[.int .i64 lo,.int .i64 hi_,.int .i64 (-1),.int .i64 (-1)]) ⟨lo,hi_,-1,-1⟩ [] (wr.alloc (.cells #[.int .i64 lo,.int .i64 hi_,.int .i64 (-1),.int .i64 (-1)] 70)) (SL2.o.below (Below.box _)) LB.o (TEdge.mkAgg (x:=⟨lo,hi_,-1,-1⟩) EOK.o.1 EOK.o.2.1 EOK.o.2.2.1 EOK.o.2.2.2)
    rw[← HK.o,hp] at C
    have CC:=A_ C
    clear C hes hp hsl2 hL2 hgC hi2
    cases hF:B3o es (A3s (t.b) (t.c))
    ·have F:=A_ hF
     clear hF
     by_cases hab:t.b<t.c
     ·have AB:=A_ (show decide (t.b<t.c)=true by simp[hab])
      go_wp2_with fail
      have C:=CC.o
      rw[F.o] at C
      refine C.mono ?_
      clear C CC
      rintro _ w2 ⟨rfl,hb2⟩
      obtain ⟨hc_w2,hf_w2⟩:=C_ hb2
      have HBx:=A_ (show Below wr.heap.size wr w2 from Below.trans (Below.box _) (hb2.mono (by simp)))
      have hs2:wr.heap.size<w2.heap.size:=by have:=hb2.size;simp at this;omega
      have hs21:w1.heap.size<w2.heap.size:=by omega
      have hs2g:gC<w2.heap.size:=by omega
      have R2:=A_ (J_ hr2.o HBx.o)
      have HB2:=A_ (HBi.o.trans (HBx.o.mono (by have:=HBi.o.size;simp at this;omega)))
      go_wp2_with fail
      have VB:=A_ (heap_alloc_new w2 (.cells #[.int .i64 lo,.int .i64 hi_,.int .i64 (-1),.int .i64 (-1)] 70))
      refine (A7e (w.heap.size+1) gC L2 cap2 w2.heap.size p (es.flatMap A1h) [.int .i64 lo,.int .i64 hi_,.int .i64 (-1),.int .i64 (-1)] (w2.alloc (.cells #[.int .i64 lo,.int .i64 hi_,.int .i64 (-1),.int .i64 (-1)] 70)) (J_ R2.o (Below.box _)) (by have:=HB2.o.size;simp at this;simp;omega) LB.o PLE.o VB.o rfl (by intro v hv;simp at hv;rcases hv with rfl | rfl | rfl | rfl<;>rfl) A6w (by omega)).mono ?_
      rintro _ w3 ⟨g5,cap5,rfl,hr3,hg3,ho3⟩
      have R3:=A_ (show w3.ownsRow (w.heap.size+1) 70 4 (.slice (some ⟨g5,0,none⟩) (L2+1) cap5) (L2+1) ((A3p es p (A3s (t.b) (t.c))).flatMap A1h) by rw[A8z (by rw[HL2.o];exact PLE.o),HK.o];exact hr3)
      have HL3:=A_ (show (A3p es p (A3s (t.b) (t.c))).length=L2+1 by rw[A6l (by rw[HL2.o];exact PLE.o),HL2.o])
      have HB3:=A_ ((HB2.o.alloc (by have:=HB2.o.size;simp at this;omega) (.cells #[.int .i64 lo,.int .i64 hi_,.int .i64 (-1),.int .i64 (-1)] 70)).grown hg3 (by have:=HB2.o.size;simp at this;simp;omega) (fun k2 hk2=>by injection hk2 with h;subst h;exact (World.ownsRow.lt R2.o _ rfl).1))
      have hne5:g5≠w1.heap.size:=fun e=>ho3.elim (fun h=>hne (h ▸ e)) (fun h=>by simp at h;omega)
      have hs3:w2.heap.size+1≤w3.heap.size:=by have:=hg3.size;simp at this;exact this
      have hs31:w1.heap.size<w3.heap.size:=by omega
      have hblk:=hg3.block w1.heap.size (by simp;omega) (by intro e;injection e with e;exact hne e.symm)
      have d0:w3.cell? ⟨w1.heap.size,0,none⟩=some (.int .i64 t.a):=(World.cell?_of_block (a:=⟨w1.heap.size,0,none⟩) hblk).trans (by go_simp)
      have d1:w3.cell? ⟨w1.heap.size,1,none⟩=some (.int .i64 t.b):=(World.cell?_of_block (a:=⟨w1.heap.size,1,none⟩) hblk).trans (by go_simp)
      have d2:w3.cell? ⟨w1.heap.size,2,none⟩=some (.int .i64 t.c):=(World.cell?_of_block (a:=⟨w1.heap.size,2,none⟩) hblk).trans (by go_simp)
      clear hr3 hg3 ho3 hblk hc_w2 hf_w2 b0 b1 b2
      have PL:=A_ (show p<(A3p es p (A3s (t.b) (t.c))).length by rw[HL3.o];have:=PLE.o;omega)
      obtain ⟨row9,gr9,⟨u9,cu9⟩,fr9⟩:=row_set (n:=(L2+1)) R3.o (i:=p*4+2) (by rw[A3d];have:=PL.o;omega) (.int .i64 k)
      rw[show ((A3p es p (A3s (t.b) (t.c))).flatMap A1h).set (p*4+2) (.int .i64 (k:Int))=(A0g es0 k t (1+1)).flatMap A1h by
       rw[show A0g es0 k t (1+1)=(A3p es p (A3s (t.b) (t.c))).modify p (A4s k true) by
        show A0w (A0g es0 k t 1) k (t.b) (t.c)=_
        rw[EES.o];unfold A0w;simp only [P.o,F.o,AB.o];rfl]
       exact (A3q k true _ p PL.o).symm] at row9
      have R9:=A_ row9
      have L9:=A_ (show (A0g es0 k t (1+1)).length=(L2+1) by
       show (A0w (A0g es0 k t 1) k (t.b) (t.c)).length=_
       rw[EES.o];unfold A0w;simp only [P.o,F.o,List.length_modify];exact HL3.o)
      have HB9:=A_ (show Below (w.heap.size+1) (w.alloc (.cells #[.slice A0 n0 c0,.slice (some ⟨be,of,none⟩) n1 c1] 26)) (w3.setCell ⟨g5,p*4+2,none⟩ (.int .i64 k)) from HB3.o.setCell (p:=⟨g5,p*4+2,none⟩) (show w.heap.size+1≤g5 from (World.ownsRow.lt R3.o _ rfl).1) _)
      have hgs:g5<w3.heap.size:=(World.ownsRow.lt R3.o _ rfl).2
      have hpi:(p:Int)<L2+1:=by have:=PL.o;have:=HL3.o;omega
      clear row9 gr9
      go_wp2_with fail
      go_roundg 1
      case measure=>omega
      case rel=>exact ⟨1+1,g5,_,(L2+1),rfl,by go_num,rfl,L9.o,R9.o,hid_ok1,hne5,HB9.o,by simp;omega,⟨by go_simp,by go_simp,by go_simp⟩⟩
     have AB:=A_ (show decide (t.b<t.c)=false by simp;omega)
     go_wp2_with fail
     have C:=CC.o
     rw[F.o] at C
     refine C.mono ?_
     clear C CC
     rintro _ w2 ⟨rfl,hb2⟩
     obtain ⟨hc_w2,hf_w2⟩:=C_ hb2
     have HBx:=A_ (show Below wr.heap.size wr w2 from Below.trans (Below.box _) (hb2.mono (by simp)))
     have hs2:wr.heap.size<w2.heap.size:=by have:=hb2.size;simp at this;omega
     have hs21:w1.heap.size<w2.heap.size:=by omega
     have hs2g:gC<w2.heap.size:=by omega
     have R2:=A_ (J_ hr2.o HBx.o)
     have HB2:=A_ (HBi.o.trans (HBx.o.mono (by have:=HBi.o.size;simp at this;omega)))
     go_wp2_with fail
     have VB:=A_ (heap_alloc_new w2 (.cells #[.int .i64 lo,.int .i64 hi_,.int .i64 (-1),.int .i64 (-1)] 70))
     refine (A7e (w.heap.size+1) gC L2 cap2 w2.heap.size p (es.flatMap A1h) [.int .i64 lo,.int .i64 hi_,.int .i64 (-1),.int .i64 (-1)] (w2.alloc (.cells #[.int .i64 lo,.int .i64 hi_,.int .i64 (-1),.int .i64 (-1)] 70)) (J_ R2.o (Below.box _)) (by have:=HB2.o.size;simp at this;simp;omega) LB.o PLE.o VB.o rfl (by intro v hv;simp at hv;rcases hv with rfl | rfl | rfl | rfl<;>rfl) A6w (by omega)).mono ?_
     rintro _ w3 ⟨g5,cap5,rfl,hr3,hg3,ho3⟩
     have R3:=A_ (show w3.ownsRow (w.heap.size+1) 70 4 (.slice (some ⟨g5,0,none⟩) (L2+1) cap5) (L2+1) ((A3p es p (A3s (t.b) (t.c))).flatMap A1h) by rw[A8z (by rw[HL2.o];exact PLE.o),HK.o];exact hr3)
     have HL3:=A_ (show (A3p es p (A3s (t.b) (t.c))).length=L2+1 by rw[A6l (by rw[HL2.o];exact PLE.o),HL2.o])
     have HB3:=A_ ((HB2.o.alloc (by have:=HB2.o.size;simp at this;omega) (.cells #[.int .i64 lo,.int .i64 hi_,.int .i64 (-1),.int .i64 (-1)] 70)).grown hg3 (by have:=HB2.o.size;simp at this;simp;omega) (fun k2 hk2=>by injection hk2 with h;subst h;exact (World.ownsRow.lt R2.o _ rfl).1))
     have hne5:g5≠w1.heap.size:=fun e=>ho3.elim (fun h=>hne (h ▸ e)) (fun h=>by simp at h;omega)
     have hs3:w2.heap.size+1≤w3.heap.size:=by have:=hg3.size;simp at this;exact this
     have hs31:w1.heap.size<w3.heap.size:=by omega
     have hblk:=hg3.block w1.heap.size (by simp;omega) (by intro e;injection e with e;exact hne e.symm)
     have d0:w3.cell? ⟨w1.heap.size,0,none⟩=some (.int .i64 t.a):=(World.cell?_of_block (a:=⟨w1.heap.size,0,none⟩) hblk).trans (by go_simp)
     have d1:w3.cell? ⟨w1.heap.size,1,none⟩=some (.int .i64 t.b):=(World.cell?_of_block (a:=⟨w1.heap.size,1,none⟩) hblk).trans (by go_simp)
     have d2:w3.cell? ⟨w1.heap.size,2,none⟩=some (.int .i64 t.c):=(World.cell?_of_block (a:=⟨w1.heap.size,2,none⟩) hblk).trans (by go_simp)
     clear hr3 hg3 ho3 hblk hc_w2 hf_w2 b0 b1 b2
     have PL:=A_ (show p<(A3p es p (A3s (t.b) (t.c))).length by rw[HL3.o];have:=PLE.o;omega)
     obtain ⟨row9,gr9,⟨u9,cu9⟩,fr9⟩:=row_set (n:=(L2+1)) R3.o (i:=p*4+3) (by rw[A3d];have:=PL.o;omega) (.int .i64 k)
     rw[show ((A3p es p (A3s (t.b) (t.c))).flatMap A1h).set (p*4+3) (.int .i64 (k:Int))=(A0g es0 k t (1+1)).flatMap A1h by
      rw[show A0g es0 k t (1+1)=(A3p es p (A3s (t.b) (t.c))).modify p (A4s k false) by
       show A0w (A0g es0 k t 1) k (t.b) (t.c)=_
       rw[EES.o];unfold A0w;simp only [P.o,F.o,AB.o];rfl]
      exact (A3q k false _ p PL.o).symm] at row9
     have R9:=A_ row9
     have L9:=A_ (show (A0g es0 k t (1+1)).length=(L2+1) by
      show (A0w (A0g es0 k t 1) k (t.b) (t.c)).length=_
      rw[EES.o];unfold A0w;simp only [P.o,F.o,List.length_modify];exact HL3.o)
     have HB9:=A_ (show Below (w.heap.size+1) (w.alloc (.cells #[.slice A0 n0 c0,.slice (some ⟨be,of,none⟩) n1 c1] 26)) (w3.setCell ⟨g5,p*4+3,none⟩ (.int .i64 k)) from HB3.o.setCell (p:=⟨g5,p*4+3,none⟩) (show w.heap.size+1≤g5 from (World.ownsRow.lt R3.o _ rfl).1) _)
     have hgs:g5<w3.heap.size:=(World.ownsRow.lt R3.o _ rfl).2
     have hpi:(p:Int)<L2+1:=by have:=PL.o;have:=HL3.o;omega
     clear row9 gr9
     go_wp2_with fail
     go_roundg 1
     case measure=>omega
     case rel=>exact ⟨1+1,g5,_,(L2+1),rfl,by go_num,rfl,L9.o,R9.o,hid_ok1,hne5,HB9.o,by simp;omega,⟨by go_simp,by go_simp,by go_simp⟩⟩
    have F:=A_ hF
    have PLT:=A_ (show p<L2 by unfold B3o at hF;rw[P.o,HL2.o] at hF;simp at hF;exact hF.1)
    clear hF
    by_cases hab:t.b<t.c
    ·have AB:=A_ (show decide (t.b<t.c)=true by simp[hab])
     go_wp2_with fail
     have C:=CC.o
     rw[F.o] at C
     refine C.mono ?_
     clear C CC
     rintro _ w2 ⟨rfl,hb2⟩
     obtain ⟨hc_w2,hf_w2⟩:=C_ hb2
     have HBx:=A_ (show Below wr.heap.size wr w2 from Below.trans (Below.box _) (hb2.mono (by simp)))
     have hs2:wr.heap.size<w2.heap.size:=by have:=hb2.size;simp at this;omega
     have hs21:w1.heap.size<w2.heap.size:=by omega
     have hs2g:gC<w2.heap.size:=by omega
     have R2:=A_ (J_ hr2.o HBx.o)
     have HB2:=A_ (HBi.o.trans (HBx.o.mono (by have:=HBi.o.size;simp at this;omega)))
     have d0:w2.cell? ⟨w1.heap.size,0,none⟩=some (.int .i64 t.a):=by go_simp
     have d1:w2.cell? ⟨w1.heap.size,1,none⟩=some (.int .i64 t.b):=by go_simp
     have d2:w2.cell? ⟨w1.heap.size,2,none⟩=some (.int .i64 t.c):=by go_simp
     clear hc_w2 hf_w2 b0 b1 b2
     have PL:=A_ (show p<es.length by rw[HL2.o];exact PLT.o)
     obtain ⟨row9,gr9,⟨u9,cu9⟩,fr9⟩:=row_set (n:=L2) R2.o (i:=p*4+2) (by rw[A3d];have:=PL.o;omega) (.int .i64 k)
     rw[show (es.flatMap A1h).set (p*4+2) (.int .i64 (k:Int))=(A0g es0 k t (1+1)).flatMap A1h by
      rw[show A0g es0 k t (1+1)=es.modify p (A4s k true) by
       show A0w (A0g es0 k t 1) k (t.b) (t.c)=_
       rw[EES.o];unfold A0w;simp only [P.o,F.o,AB.o];rfl]
      exact (A3q k true _ p PL.o).symm] at row9
     have R9:=A_ row9
     have L9:=A_ (show (A0g es0 k t (1+1)).length=L2 by
      show (A0w (A0g es0 k t 1) k (t.b) (t.c)).length=_
      rw[EES.o];unfold A0w;simp only [P.o,F.o,List.length_modify];exact HL2.o)
     have HB9:=A_ (show Below (w.heap.size+1) (w.alloc (.cells #[.slice A0 n0 c0,.slice (some ⟨be,of,none⟩) n1 c1] 26)) (w2.setCell ⟨gC,p*4+2,none⟩ (.int .i64 k)) from HB2.o.setCell (p:=⟨gC,p*4+2,none⟩) (show w.heap.size+1≤gC from (World.ownsRow.lt R2.o _ rfl).1) _)
     have hgs:gC<w2.heap.size:=(World.ownsRow.lt R2.o _ rfl).2
     have hpi:(p:Int)<L2:=by have:=PL.o;have:=HL2.o;omega
     clear row9 gr9
     go_wp2_with fail
     go_roundg 1
     case measure=>omega
     case rel=>exact ⟨1+1,gC,_,L2,rfl,by go_num,rfl,L9.o,R9.o,hid_ok1,hne,HB9.o,by simp;omega,⟨by go_simp,by go_simp,by go_simp⟩⟩
    have AB:=A_ (show decide (t.b<t.c)=false by simp;omega)
    go_wp2_with fail
    have C:=CC.o
    rw[F.o] at C
    refine C.mono ?_
    clear C CC
    rintro _ w2 ⟨rfl,hb2⟩
    obtain ⟨hc_w2,hf_w2⟩:=C_ hb2
    have HBx:=A_ (show Below wr.heap.size wr w2 from Below.trans (Below.box _) (hb2.mono (by simp)))
    have hs2:wr.heap.size<w2.heap.size:=by have:=hb2.size;simp at this;omega
    have hs21:w1.heap.size<w2.heap.size:=by omega
    have hs2g:gC<w2.heap.size:=by omega
    have R2:=A_ (J_ hr2.o HBx.o)
    have HB2:=A_ (HBi.o.trans (HBx.o.mono (by have:=HBi.o.size;simp at this;omega)))
    have d0:w2.cell? ⟨w1.heap.size,0,none⟩=some (.int .i64 t.a):=by go_simp
    have d1:w2.cell? ⟨w1.heap.size,1,none⟩=some (.int .i64 t.b):=by go_simp
    have d2:w2.cell? ⟨w1.heap.size,2,none⟩=some (.int .i64 t.c):=by go_simp
    clear hc_w2 hf_w2 b0 b1 b2
    have PL:=A_ (show p<es.length by rw[HL2.o];exact PLT.o)
    obtain ⟨row9,gr9,⟨u9,cu9⟩,fr9⟩:=row_set (n:=L2) R2.o (i:=p*4+3) (by rw[A3d];have:=PL.o;omega) (.int .i64 k)
    rw[show (es.flatMap A1h).set (p*4+3) (.int .i64 (k:Int))=(A0g es0 k t (1+1)).flatMap A1h by
     rw[show A0g es0 k t (1+1)=es.modify p (A4s k false) by
      show A0w (A0g es0 k t 1) k (t.b) (t.c)=_
      rw[EES.o];unfold A0w;simp only [P.o,F.o,AB.o];rfl]
     exact (A3q k false _ p PL.o).symm] at row9
    have R9:=A_ row9
    have L9:=A_ (show (A0g es0 k t (1+1)).length=L2 by
     show (A0w (A0g es0 k t 1) k (t.b) (t.c)).length=_
     rw[EES.o];unfold A0w;simp only [P.o,F.o,List.length_modify];exact HL2.o)
    have HB9:=A_ (show Below (w.heap.size+1) (w.alloc (.cells #[.slice A0 n0 c0,.slice (some ⟨be,of,none⟩) n1 c1] 26)) (w2.setCell ⟨gC,p*4+3,none⟩ (.int .i64 k)) from HB2.o.setCell (p:=⟨gC,p*4+3,none⟩) (show w.heap.size+1≤gC from (World.ownsRow.lt R2.o _ rfl).1) _)
    have hgs:gC<w2.heap.size:=(World.ownsRow.lt R2.o _ rfl).2
    have hpi:(p:Int)<L2:=by have:=PL.o;have:=HL2.o;omega
    clear row9 gr9
    go_wp2_with fail
    go_roundg 1
    case measure=>omega
    case rel=>exact ⟨1+1,gC,_,L2,rfl,by go_num,rfl,L9.o,R9.o,hid_ok1,hne,HB9.o,by simp;omega,⟨by go_simp,by go_simp,by go_simp⟩⟩
   ·obtain rfl:gk=0+1:=by omega
    obtain ⟨es,hes⟩:∃ es,A0g es0 k t 2=es:=⟨_,rfl⟩
    rw[hes] at hL2 hr2 ho2
    have EES:=A_ hes
    have HL2:=A_ hL2.o
    have hid_ok2:=A_ (show ∀ e∈A0g es0 k t (2+1),A3f e from by show ∀ e∈A0w (A0g es0 k t 2) k (t.c) (t.a),A3f e;rw[hes];exact B8p IK.o ITT.o.2.2 ITT.o.1 ho2.o)
    obtain ⟨lo,hlo⟩:∃ l,min (t.c) (t.a)=l:=⟨_,rfl⟩
    obtain ⟨hi_,hhi⟩:∃ l,max (t.c) (t.a)=l:=⟨_,rfl⟩
    have HK:=A_ (show A3s (t.c) (t.a)=⟨lo,hi_,-1,-1⟩ by unfold A3s;rw[hlo,hhi])
    have EOK:=A_ (show A3f ⟨lo,hi_,-1,-1⟩ by rw[← HK.o];exact B7l ITT.o.2.2 ITT.o.1)
    obtain ⟨p,hp⟩:∃ p,B4z es (A3s (t.c) (t.a))=p:=⟨_,rfl⟩
    have P:=A_ hp
    have PLE:=A_ (show p≤L2 by rw[← hp,← HL2.o];exact B7g _ _)
    have hple:(p:Int)≤L2:=by have:=PLE.o;omega
    obtain ⟨bs2,hsl2,_⟩:=B0g hr2.o HL2.o ho2.o
    have SL2:=A_ hsl2
    have LB:=A_ (show L2≤65536 by have:=B3p es0 k t 2;rw[hes,HL2.o] at this;have:=HE0.o;have:=hk48';omega)
    have hL2i:(L2:Int)≤65536:=by have:=LB.o;omega
    have hgC:=(World.ownsRow.lt hr2.o _ rfl)
    have hgC1:gC<wr.heap.size:=hgC.2
    have C:=B0m (some ⟨gC,0,none⟩) L2 cap2 es bs2 (.agg #[.int .i64 lo,.int .i64 hi_,.int .i64 (-1),.int .i64 (-1)]) ⟨lo,hi_,-1,-1⟩ [] (wr.alloc (.cells #[.int .i64 lo,.int .i64 hi_,.int .i64 (-1),.int .i64 (-1)] 70)) (SL2.o.below (Below.box _)) LB.o (TEdge.mkAgg (x:=⟨lo,hi_,-1,-1⟩) EOK.o.1 EOK.o.2.1 EOK.o.2.2.1 EOK.o.2.2.2)
    rw[← HK.o,hp] at C
    have CC:=A_ C
    clear C hes hp hsl2 hL2 hgC hi2
    cases hF:B3o es (A3s (t.c) (t.a))
    ·have F:=A_ hF
     clear hF
     by_cases hab:t.c<t.a
     ·have AB:=A_ (show decide (t.c<t.a)=true by simp[hab])
      go_wp2_with fail
      have C:=CC.o
      rw[F.o] at C
      refine C.mono ?_
      clear C CC
      rintro _ w2 ⟨rfl,hb2⟩
      obtain ⟨hc_w2,hf_w2⟩:=C_ hb2
      have HBx:=A_ (show Below wr.heap.size wr w2 from Below.trans (Below.box _) (hb2.mono (by simp)))
      have hs2:wr.heap.size<w2.heap.size:=by have:=hb2.size;simp at this;omega
      have hs21:w1.heap.size<w2.heap.size:=by omega
      have hs2g:gC<w2.heap.size:=by omega
      have R2:=A_ (J_ hr2.o HBx.o)
      have HB2:=A_ (HBi.o.trans (HBx.o.mono (by have:=HBi.o.size;simp at this;omega)))
      go_wp2_with fail
      have VB:=A_ (heap_alloc_new w2 (.cells #[.int .i64 lo,.int .i64 hi_,.int .i64 (-1),.int .i64 (-1)] 70))
      refine (A7e (w.heap.size+1) gC L2 cap2 w2.heap.size p (es.flatMap A1h) [.int .i64 lo,.int .i64 hi_,.int .i64 (-1),.int .i64 (-1)] (w2.alloc (.cells #[.int .i64 lo,.int .i64 hi_,.int .i64 (-1),.int .i64 (-1)] 70)) (J_ R2.o (Below.box _)) (by have:=HB2.o.size;simp at this;simp;omega) LB.o PLE.o VB.o rfl (by intro v hv;simp at hv;rcases hv with rfl | rfl | rfl | rfl<;>rfl) A6w (by omega)).mono ?_
      rintro _ w3 ⟨g5,cap5,rfl,hr3,hg3,ho3⟩
      have R3:=A_ (show w3.ownsRow (w.heap.size+1) 70 4 (.slice (some ⟨g5,0,none⟩) (L2+1) cap5) (L2+1) ((A3p es p (A3s (t.c) (t.a))).flatMap A1h) by rw[A8z (by rw[HL2.o];exact PLE.o),HK.o];exact hr3)
      have HL3:=A_ (show (A3p es p (A3s (t.c) (t.a))).length=L2+1 by rw[A6l (by rw[HL2.o];exact PLE.o),HL2.o])
      have HB3:=A_ ((HB2.o.alloc (by have:=HB2.o.size;simp at this;omega) (.cells #[.int .i64 lo,.int .i64 hi_,.int .i64 (-1),.int .i64 (-1)] 70)).grown hg3 (by have:=HB2.o.size;simp at this;simp;omega) (fun k2 hk2=>by injection hk2 with h;subst h;exact (World.ownsRow.lt R2.o _ rfl).1))
      have hne5:g5≠w1.heap.size:=fun e=>ho3.elim (fun h=>hne (h ▸ e)) (fun h=>by simp at h;omega)
      have hs3:w2.heap.size+1≤w3.heap.size:=by have:=hg3.size;simp at this;exact this
      have hs31:w1.heap.size<w3.heap.size:=by omega
      have hblk:=hg3.block w1.heap.size (by simp;omega) (by intro e;injection e with e;exact hne e.symm)
      have d0:w3.cell? ⟨w1.heap.size,0,none⟩=some (.int .i64 t.a):=(World.cell?_of_block (a:=⟨w1.heap.size,0,none⟩) hblk).trans (by go_simp)
      have d1:w3.cell? ⟨w1.heap.size,1,none⟩=some (.int .i64 t.b):=(World.cell?_of_block (a:=⟨w1.heap.size,1,none⟩) hblk).trans (by go_simp)
      have d2:w3.cell? ⟨w1.heap.size,2,none⟩=some (.int .i64 t.c):=(World.cell?_of_block (a:=⟨w1.heap.size,2,none⟩) hblk).trans (by go_simp)
      clear hr3 hg3 ho3 hblk hc_w2 hf_w2 b0 b1 b2
      have PL:=A_ (show p<(A3p es p (A3s (t.c) (t.a))).length by rw[HL3.o];have:=PLE.o;omega)
      obtain ⟨row9,gr9,⟨u9,cu9⟩,fr9⟩:=row_set (n:=(L2+1)) R3.o (i:=p*4+2) (by rw[A3d];have:=PL.o;omega) (.int .i64 k)
      rw[show ((A3p es p (A3s (t.c) (t.a))).flatMap A1h).set (p*4+2) (.int .i64 (k:Int))=(A0g es0 k t (2+1)).flatMap A1h by
       rw[show A0g es0 k t (2+1)=(A3p es p (A3s (t.c) (t.a))).modify p (A4s k true) by
        show A0w (A0g es0 k t 2) k (t.c) (t.a)=_
        rw[EES.o];unfold A0w;simp only [P.o,F.o,AB.o];rfl]
       exact (A3q k true _ p PL.o).symm] at row9
      have R9:=A_ row9
      have L9:=A_ (show (A0g es0 k t (2+1)).length=(L2+1) by
       show (A0w (A0g es0 k t 2) k (t.c) (t.a)).length=_
       rw[EES.o];unfold A0w;simp only [P.o,F.o,List.length_modify];exact HL3.o)
      have HB9:=A_ (show Below (w.heap.size+1) (w.alloc (.cells #[.slice A0 n0 c0,.slice (some ⟨be,of,none⟩) n1 c1] 26)) (w3.setCell ⟨g5,p*4+2,none⟩ (.int .i64 k)) from HB3.o.setCell (p:=⟨g5,p*4+2,none⟩) (show w.heap.size+1≤g5 from (World.ownsRow.lt R3.o _ rfl).1) _)
      have hgs:g5<w3.heap.size:=(World.ownsRow.lt R3.o _ rfl).2
      have hpi:(p:Int)<L2+1:=by have:=PL.o;have:=HL3.o;omega
      clear row9 gr9
      go_wp2_with fail
      go_roundg 0
      case measure=>omega
      case rel=>exact ⟨2+1,g5,_,(L2+1),rfl,by go_num,rfl,L9.o,R9.o,hid_ok2,hne5,HB9.o,by simp;omega,⟨by go_simp,by go_simp,by go_simp⟩⟩
     have AB:=A_ (show decide (t.c<t.a)=false by simp;omega)
     go_wp2_with fail
     have C:=CC.o
     rw[F.o] at C
     refine C.mono ?_
     clear C CC
     rintro _ w2 ⟨rfl,hb2⟩
     obtain ⟨hc_w2,hf_w2⟩:=C_ hb2
     have HBx:=A_ (show Below wr.heap.size wr w2 from Below.trans (Below.box _) (hb2.mono (by simp)))
     have hs2:wr.heap.size<w2.heap.size:=by have:=hb2.size;simp at this;omega
     have hs21:w1.heap.size<w2.heap.size:=by omega
     have hs2g:gC<w2.heap.size:=by omega
     have R2:=A_ (J_ hr2.o HBx.o)
     have HB2:=A_ (HBi.o.trans (HBx.o.mono (by have:=HBi.o.size;simp at this;omega)))
     go_wp2_with fail
     have VB:=A_ (heap_alloc_new w2 (.cells #[.int .i64 lo,.int .i64 hi_,.int .i64 (-1),.int .i64 (-1)] 70))
     refine (A7e (w.heap.size+1) gC L2 cap2 w2.heap.size p (es.flatMap A1h) [.int .i64 lo,.int .i64 hi_,.int .i64 (-1),.int .i64 (-1)] (w2.alloc (.cells #[.int .i64 lo,.int .i64 hi_,.int .i64 (-1),.int .i64 (-1)] 70)) (J_ R2.o (Below.box _)) (by have:=HB2.o.size;simp at this;simp;omega) LB.o PLE.o VB.o rfl (by intro v hv;simp at hv;rcases hv with rfl | rfl | rfl | rfl<;>rfl) A6w (by omega)).mono ?_
     rintro _ w3 ⟨g5,cap5,rfl,hr3,hg3,ho3⟩
     have R3:=A_ (show w3.ownsRow (w.heap.size+1) 70 4 (.slice (some ⟨g5,0,none⟩) (L2+1) cap5) (L2+1) ((A3p es p (A3s (t.c) (t.a))).flatMap A1h) by rw[A8z (by rw[HL2.o];exact PLE.o),HK.o];exact hr3)
     have HL3:=A_ (show (A3p es p (A3s (t.c) (t.a))).length=L2+1 by rw[A6l (by rw[HL2.o];exact PLE.o),HL2.o])
     have HB3:=A_ ((HB2.o.alloc (by have:=HB2.o.size;simp at this;omega) (.cells #[.int .i64 lo,.int .i64 hi_,.int .i64 (-1),.int .i64 (-1)] 70)).grown hg3 (by have:=HB2.o.size;simp at this;simp;omega) (fun k2 hk2=>by injection hk2 with h;subst h;exact (World.ownsRow.lt R2.o _ rfl).1))
     have hne5:g5≠w1.heap.size:=fun e=>ho3.elim (fun h=>hne (h ▸ e)) (fun h=>by simp at h;omega)
     have hs3:w2.heap.size+1≤w3.heap.size:=by have:=hg3.size;simp at this;exact this
     have hs31:w1.heap.size<w3.heap.size:=by omega
     have hblk:=hg3.block w1.heap.size (by simp;omega) (by intro e;injection e with e;exact hne e.symm)
     have d0:w3.cell? ⟨w1.heap.size,0,none⟩=some (.int .i64 t.a):=(World.cell?_of_block (a:=⟨w1.heap.size,0,none⟩) hblk).trans (by go_simp)
     have d1:w3.cell? ⟨w1.heap.size,1,none⟩=some (.int .i64 t.b):=(World.cell?_of_block (a:=⟨w1.heap.size,1,none⟩) hblk).trans (by go_simp)
     have d2:w3.cell? ⟨w1.heap.size,2,none⟩=some (.int .i64 t.c):=(World.cell?_of_block (a:=⟨w1.heap.size,2,none⟩) hblk).trans (by go_simp)
     clear hr3 hg3 ho3 hblk hc_w2 hf_w2 b0 b1 b2
     have PL:=A_ (show p<(A3p es p (A3s (t.c) (t.a))).length by rw[HL3.o];have:=PLE.o;omega)
     obtain ⟨row9,gr9,⟨u9,cu9⟩,fr9⟩:=row_set (n:=(L2+1)) R3.o (i:=p*4+3) (by rw[A3d];have:=PL.o;omega) (.int .i64 k)
     rw[show ((A3p es p (A3s (t.c) (t.a))).flatMap A1h).set (p*4+3) (.int .i64 (k:Int))=(A0g es0 k t (2+1)).flatMap A1h by
      rw[show A0g es0 k t (2+1)=(A3p es p (A3s (t.c) (t.a))).modify p (A4s k false) by
       show A0w (A0g es0 k t 2) k (t.c) (t.a)=_
       rw[EES.o];unfold A0w;simp only [P.o,F.o,AB.o];rfl]
      exact (A3q k false _ p PL.o).symm] at row9
     have R9:=A_ row9
     have L9:=A_ (show (A0g es0 k t (2+1)).length=(L2+1) by
      show (A0w (A0g es0 k t 2) k (t.c) (t.a)).length=_
      rw[EES.o];unfold A0w;simp only [P.o,F.o,List.length_modify];exact HL3.o)
     have HB9:=A_ (show Below (w.heap.size+1) (w.alloc (.cells #[.slice A0 n0 c0,.slice (some ⟨be,of,none⟩) n1 c1] 26)) (w3.setCell ⟨g5,p*4+3,none⟩ (.int .i64 k)) from HB3.o.setCell (p:=⟨g5,p*4+3,none⟩) (show w.heap.size+1≤g5 from (World.ownsRow.lt R3.o _ rfl).1) _)
     have hgs:g5<w3.heap.size:=(World.ownsRow.lt R3.o _ rfl).2
     have hpi:(p:Int)<L2+1:=by have:=PL.o;have:=HL3.o;omega
     clear row9 gr9
     go_wp2_with fail
     go_roundg 0
     case measure=>omega
     case rel=>exact ⟨2+1,g5,_,(L2+1),rfl,by go_num,rfl,L9.o,R9.o,hid_ok2,hne5,HB9.o,by simp;omega,⟨by go_simp,by go_simp,by go_simp⟩⟩
    have F:=A_ hF
    have PLT:=A_ (show p<L2 by unfold B3o at hF;rw[P.o,HL2.o] at hF;simp at hF;exact hF.1)
    clear hF
    by_cases hab:t.c<t.a
    ·have AB:=A_ (show decide (t.c<t.a)=true by simp[hab])
     go_wp2_with fail
     have C:=CC.o
     rw[F.o] at C
     refine C.mono ?_
     clear C CC
     rintro _ w2 ⟨rfl,hb2⟩
     obtain ⟨hc_w2,hf_w2⟩:=C_ hb2
     have HBx:=A_ (show Below wr.heap.size wr w2 from Below.trans (Below.box _) (hb2.mono (by simp)))
     have hs2:wr.heap.size<w2.heap.size:=by have:=hb2.size;simp at this;omega
     have hs21:w1.heap.size<w2.heap.size:=by omega
     have hs2g:gC<w2.heap.size:=by omega
     have R2:=A_ (J_ hr2.o HBx.o)
     have HB2:=A_ (HBi.o.trans (HBx.o.mono (by have:=HBi.o.size;simp at this;omega)))
     have d0:w2.cell? ⟨w1.heap.size,0,none⟩=some (.int .i64 t.a):=by go_simp
     have d1:w2.cell? ⟨w1.heap.size,1,none⟩=some (.int .i64 t.b):=by go_simp
     have d2:w2.cell? ⟨w1.heap.size,2,none⟩=some (.int .i64 t.c):=by go_simp
     clear hc_w2 hf_w2 b0 b1 b2
     have PL:=A_ (show p<es.length by rw[HL2.o];exact PLT.o)
     obtain ⟨row9,gr9,⟨u9,cu9⟩,fr9⟩:=row_set (n:=L2) R2.o (i:=p*4+2) (by rw[A3d];have:=PL.o;omega) (.int .i64 k)
     rw[show (es.flatMap A1h).set (p*4+2) (.int .i64 (k:Int))=(A0g es0 k t (2+1)).flatMap A1h by
      rw[show A0g es0 k t (2+1)=es.modify p (A4s k true) by
       show A0w (A0g es0 k t 2) k (t.c) (t.a)=_
       rw[EES.o];unfold A0w;simp only [P.o,F.o,AB.o];rfl]
      exact (A3q k true _ p PL.o).symm] at row9
     have R9:=A_ row9
     have L9:=A_ (show (A0g es0 k t (2+1)).length=L2 by
      show (A0w (A0g es0 k t 2) k (t.c) (t.a)).length=_
      rw[EES.o];unfold A0w;simp only [P.o,F.o,List.length_modify];exact HL2.o)
     have HB9:=A_ (show Below (w.heap.size+1) (w.alloc (.cells #[.slice A0 n0 c0,.slice (some ⟨be,of,none⟩) n1 c1] 26)) (w2.setCell ⟨gC,p*4+2,none⟩ (.int .i64 k)) from HB2.o.setCell (p:=⟨gC,p*4+2,none⟩) (show w.heap.size+1≤gC from (World.ownsRow.lt R2.o _ rfl).1) _)
     have hgs:gC<w2.heap.size:=(World.ownsRow.lt R2.o _ rfl).2
     have hpi:(p:Int)<L2:=by have:=PL.o;have:=HL2.o;omega
     clear row9 gr9
     go_wp2_with fail
     go_roundg 0
     case measure=>omega
     case rel=>exact ⟨2+1,gC,_,L2,rfl,by go_num,rfl,L9.o,R9.o,hid_ok2,hne,HB9.o,by simp;omega,⟨by go_simp,by go_simp,by go_simp⟩⟩
    have AB:=A_ (show decide (t.c<t.a)=false by simp;omega)
    go_wp2_with fail
    have C:=CC.o
    rw[F.o] at C
    refine C.mono ?_
    clear C CC
    rintro _ w2 ⟨rfl,hb2⟩
    obtain ⟨hc_w2,hf_w2⟩:=C_ hb2
    have HBx:=A_ (show Below wr.heap.size wr w2 from Below.trans (Below.box _) (hb2.mono (by simp)))
    have hs2:wr.heap.size<w2.heap.size:=by have:=hb2.size;simp at this;omega
    have hs21:w1.heap.size<w2.heap.size:=by omega
    have hs2g:gC<w2.heap.size:=by omega
    have R2:=A_ (J_ hr2.o HBx.o)
    have HB2:=A_ (HBi.o.trans (HBx.o.mono (by have:=HBi.o.size;simp at this;omega)))
    have d0:w2.cell? ⟨w1.heap.size,0,none⟩=some (.int .i64 t.a):=by go_simp
    have d1:w2.cell? ⟨w1.heap.size,1,none⟩=some (.int .i64 t.b):=by go_simp
    have d2:w2.cell? ⟨w1.heap.size,2,none⟩=some (.int .i64 t.c):=by go_simp
    clear hc_w2 hf_w2 b0 b1 b2
    have PL:=A_ (show p<es.length by rw[HL2.o];exact PLT.o)
    obtain ⟨row9,gr9,⟨u9,cu9⟩,fr9⟩:=row_set (n:=L2) R2.o (i:=p*4+3) (by rw[A3d];have:=PL.o;omega) (.int .i64 k)
    rw[show (es.flatMap A1h).set (p*4+3) (.int .i64 (k:Int))=(A0g es0 k t (2+1)).flatMap A1h by
     rw[show A0g es0 k t (2+1)=es.modify p (A4s k false) by
      show A0w (A0g es0 k t 2) k (t.c) (t.a)=_
      rw[EES.o];unfold A0w;simp only [P.o,F.o,AB.o];rfl]
     exact (A3q k false _ p PL.o).symm] at row9
    have R9:=A_ row9
    have L9:=A_ (show (A0g es0 k t (2+1)).length=L2 by
     show (A0w (A0g es0 k t 2) k (t.c) (t.a)).length=_
     rw[EES.o];unfold A0w;simp only [P.o,F.o,List.length_modify];exact HL2.o)
    have HB9:=A_ (show Below (w.heap.size+1) (w.alloc (.cells #[.slice A0 n0 c0,.slice (some ⟨be,of,none⟩) n1 c1] 26)) (w2.setCell ⟨gC,p*4+3,none⟩ (.int .i64 k)) from HB2.o.setCell (p:=⟨gC,p*4+3,none⟩) (show w.heap.size+1≤gC from (World.ownsRow.lt R2.o _ rfl).1) _)
    have hgs:gC<w2.heap.size:=(World.ownsRow.lt R2.o _ rfl).2
    have hpi:(p:Int)<L2:=by have:=PL.o;have:=HL2.o;omega
    clear row9 gr9
    go_wp2_with fail
    go_roundg 0
    case measure=>omega
    case rel=>exact ⟨2+1,gC,_,L2,rfl,by go_num,rfl,L9.o,R9.o,hid_ok2,hne,HB9.o,by simp;omega,⟨by go_simp,by go_simp,by go_simp⟩⟩
   clear hi2
   go_wp2_with fail
   go_roundg g
   case measure=>omega
   case rel=>exact ⟨k+1,gC,cap2,L2,hk'.o,by go_num,rfl,(show (A4a ts (k+1)).length=L2 by rw[NX.o];exact hL2.o),(show wr.ownsRow _ _ _ _ _ ((A4a ts (k+1)).flatMap A1h) by rw[NX.o];exact hr2.o),(show ∀ e∈A4a ts (k+1),A3f e by rw[NX.o];exact ho2.o),HBi.o⟩
  obtain rfl:k=n1:=by omega
  have hki:¬ ((k:Int)<k):=by omega
  have E:=A_ (show A4a ts k=A2m ts by unfold A2m;rw[HL.o])
  clear hk hkn hb
  go_wp2
  go_ret
  rw[← E.o]
  obtain ⟨bs9,hs9,hb9⟩:=B0g hrow.o hL.o hok.o
  exact ⟨_,L,cap,bs9,rfl,hs9,C7u hrow.o hs9,HBW.o⟩
end Go.Proofs.YtbhemnidcleaiaaGreat.X
namespace Go.Proofs.YtbhemnidcleaiaaGreat.X
open Go.RowKit Go.XB Go.XN
def A9a (a b k:Int):TEdge:=if b<a then ⟨b,a,-1,k⟩ else ⟨a,b,k,-1⟩
def B6r (x e:TEdge):Bool:=decide (x.a<e.a) || (decide (x.a=e.a)&&decide (x.b<e.b))
def A3t (e:TEdge):List TEdge→Nat
 | []=>0
 | x::xs=>bif B6r x e then A3t e xs+1 else 0
def A9x (l:List TEdge) (a b k:Int):List TEdge :=
 match l[A3t (A9a a b k) l]? with
 | some x=>bif decide (x.a=(A9a a b k).a)&&decide (x.b=(A9a a b k).b) then l.modify (A3t (A9a a b k) l) (A4s k (!decide (b<a))) else A3p l (A3t (A9a a b k) l) (A9a a b k)
 | none=>A3p l (A3t (A9a a b k) l) (A9a a b k)
def put3 (l:List TEdge) (t:TTri) (k:Int):List TEdge:=A9x (A9x (A9x l t.a t.b k) t.b t.c k) t.c t.a k
def A4e (ts:List TTri):Nat→List TEdge
 | 0=>[]
 | k+1=>put3 (A4e ts k) (ts.getD k ⟨0,0,0,0,0⟩) k
def A8v (a b:Int):List TEdge→Int→Int
 | [],_=>-1
 | e::es,i=>bif (decide (e.a=a)&&decide (e.b=b)) || (decide (e.a=b)&&decide (e.b=a)) then i else A8v a b es (i+1)
def A1i (l:List TEdge) (a b:Int):Int:=A8v a b l 0
def A2n (es:List TEdge) (on:List Bool) (t:TTri):List Bool :=
 bif !on.getD (A1i es t.b t.c).toNat false&&(on.getD (A1i es t.a t.b).toNat false || on.getD (A1i es t.c t.a).toNat false) then on.set (A1i es t.b t.c).toNat true else on
def A6k (ts:List TTri) (es:List TEdge) (on:List Bool):List Bool:=ts.foldl (A2n es) on
def A1e (ts:List TTri) (es:List TEdge):Nat→List Bool→List Bool
 | 0,on=>on
 | n+1,on=>A1e ts es n (A6k ts es on)
end Go.Proofs.YtbhemnidcleaiaaGreat.X
namespace Go.Proofs.YtbhemnidcleaiaaGreat.X
open Go.RowKit Go.XB Go.XN
attribute [local go_sem] O_ opAt P_ M_ Region.wanted yielded
attribute [local simp] P_ M_ MP.eq MP.agg MP.sl A0e
theorem B7c {α:Type} {xs:List α} {k:Nat} {x:α} (h:xs[k]?=some x):xs.drop k=x::xs.drop (k+1):=by
 obtain ⟨hk,e⟩:=List.getElem?_eq_some_iff.1 h
 rw[List.drop_eq_getElem_cons hk,e]
theorem C0o {a b:Int} {e:TEdge} {es:List TEdge} {i:Int} (h:(e.a=a∧e.b=b)∨(e.a=b∧e.b=a)):A8v a b (e::es) i=i:=by
 unfold A8v
 rcases h with ⟨h1,h2⟩ | ⟨h1,h2⟩<;>simp[h1,h2]
theorem B0o {a b:Int} {e:TEdge} {es:List TEdge} {i:Int} (h:¬ ((e.a=a∧e.b=b)∨(e.a=b∧e.b=a))):A8v a b (e::es) i=A8v a b es (i+1):=by
 rw[A8v]
 cases hb:((decide (e.a=a)&&decide (e.b=b)) || (decide (e.a=b)&&decide (e.b=a)))
 ·rfl
 simp only [Bool.or_eq_true,Bool.and_eq_true,decide_eq_true_eq] at hb
 exact absurd hb h
theorem A5j (A:Option Addr) (n c:Nat) (es:List TEdge) (bs:List Nat) (a b:Int) (w:World) (hx:Sl w A n c es bs) (hn:n≤1000) :
  Calls Tryz.prog 185 #[.slice A n c,.int .i64 a,.int .i64 b] w (A0j w (.int .i64 (A1i es a b))):=by
 have HX:=A_ hx
 have HL:=A_ hx.1
 have hn':(n:Int)≤1000:=by omega
 clear hx
 go_enter Tryz.func185,Tryz.ntmps185
 go_wp2_with fail
 go_loopg [11] n (fun g s wr=>∃ i:Nat,i+g=n∧s=.int .i64 i∧Hid (A1i es a b=A8v a b (es.drop i) i)∧Hid (Below w.heap.size w wr))
 case atStart=>exact ⟨0,by omega,rfl,rfl,Below.refl _ _⟩
 case round =>
  obtain ⟨i,hi3,rfl,HF,HB⟩:=hrel
  rcases Nat.lt_or_ge i n with hin | hin
  ·have hii:(i:Int)<n:=by omega
   have hi0:(0:Int)≤i:=by omega
   obtain ⟨g,rfl⟩:∃ g,gk=g+1:=⟨gk - 1,by omega⟩
   have hi':=A_ (show i+1+g=n by omega)
   obtain ⟨be,of,x,rfl,hbl,hx1,e0,e1,e2,e3,_⟩:=TEdge.elemA (HX.o.below HB.o) hin
   have HD:=A_ (B7c hx1)
   clear hi3 hin hx1
   by_cases p1:x.a=a
   ·by_cases p2:x.b=b
    ·have HV:=A_ (show A1i es a b=i by rw[HF.o,HD.o];exact C0o (.inl ⟨p1,p2⟩))
     go_wp2
     go_ret
     exact ⟨A1d HV.o.symm,Below.box_ HB.o _⟩
    by_cases p3:x.a=b
    ·have hab:a=b:=p1.symm.trans p3
     subst hab
     clear p3
     have HV:=A_ (show A1i es a a=A8v a a (es.drop (i+1)) ((i+1:Nat):Int) by rw[HF.o,HD.o];exact B0o (fun h=>by rcases h with h | h;exact p2 h.2;exact p2 h.2))
     go_wp2_with fail
     go_roundg g
     case measure=>omega
     case rel=>exact ⟨i+1,hi'.o,by go_simp,HV,Below.box_ HB.o _⟩
    have HV:=A_ (show A1i es a b=A8v a b (es.drop (i+1)) ((i+1:Nat):Int) by rw[HF.o,HD.o];exact B0o (fun h=>by rcases h with h | h;exact p2 h.2;exact p3 h.1))
    go_wp2_with fail
    go_roundg g
    case measure=>omega
    case rel=>exact ⟨i+1,hi'.o,by go_simp,HV,Below.box_ HB.o _⟩
   by_cases p3:x.a=b
   ·by_cases p4:x.b=a
    ·have HV:=A_ (show A1i es a b=i by rw[HF.o,HD.o];exact C0o (.inr ⟨p3,p4⟩))
     go_wp2
     go_ret
     exact ⟨A1d HV.o.symm,Below.box_ HB.o _⟩
    have HV:=A_ (show A1i es a b=A8v a b (es.drop (i+1)) ((i+1:Nat):Int) by rw[HF.o,HD.o];exact B0o (fun h=>by rcases h with h | h;exact p1 h.1;exact p4 h.2))
    go_wp2_with fail
    go_roundg g
    case measure=>omega
    case rel=>exact ⟨i+1,hi'.o,by go_simp,HV,Below.box_ HB.o _⟩
   have HV:=A_ (show A1i es a b=A8v a b (es.drop (i+1)) ((i+1:Nat):Int) by rw[HF.o,HD.o];exact B0o (fun h=>by rcases h with h | h;exact p1 h.1;exact p3 h.1))
   go_wp2_with fail
   go_roundg g
   case measure=>omega
   case rel=>exact ⟨i+1,hi'.o,by go_simp,HV,Below.box_ HB.o _⟩
  have h3:i=n:=by omega
  subst h3
  have hii:¬ ((i:Int)<i):=by omega
  have HV:=A_ (show A1i es a b = -1 by rw[HF.o,List.drop_of_length_le (by rw[HL.o];exact Nat.le_refl _)];rfl)
  go_wp2
  go_ret
  exact ⟨A1d HV.o.symm,HB.o⟩
theorem C4m (A:Option Addr) (n c:Nat) (xs:List Int) (bs:List Nat) (a:Int) (w:World) (hx:Sl w A n c xs bs) (hn:n≤1000) :
  Calls Tryz.prog 281 #[.slice A n c,.int .i64 a] w (A0j w (.bool (xs.contains a))):=by
 have HX:=A_ hx
 have HL:=A_ hx.1
 have hn':(n:Int)≤1000:=by omega
 clear hx
 go_enter Tryz.func281,Tryz.ntmps281
 go_wp2_with fail
 go_loopg [9] n (fun g s wr=>∃ i:Nat,i+g=n∧s=.int .i64 i∧Hid (xs.contains a=(xs.drop i).contains a)∧Hid (Below w.heap.size w wr))
 case atStart=>exact ⟨0,by omega,rfl,rfl,Below.refl _ _⟩
 case round =>
  obtain ⟨i,hi3,rfl,HF,HB⟩:=hrel
  rcases Nat.lt_or_ge i n with hin | hin
  ·have hii:(i:Int)<n:=by omega
   have hi0:(0:Int)≤i:=by omega
   obtain ⟨g,rfl⟩:∃ g,gk=g+1:=⟨gk - 1,by omega⟩
   have hi':=A_ (show i+1+g=n by omega)
   obtain ⟨be,of,x,rfl,hbl,hx1,_,e0⟩:=Sl.getInt (HX.o.below HB.o) hin
   have HD:=A_ (B7c hx1)
   clear hi3 hin hx1
   by_cases p1:x=a
   ·have HV:=A_ (show xs.contains a=true by rw[HF.o,HD.o,p1];simp)
    go_wp2
    go_ret
    exact ⟨R_ HV.o.symm,HB.o⟩
   have HV:=A_ (show xs.contains a=(xs.drop (i+1)).contains a by rw[HF.o,HD.o,List.contains_cons];simp[Ne.symm p1])
   go_wp2_with fail
   go_roundg g
   case measure=>omega
   case rel=>exact ⟨i+1,hi'.o,by go_simp,HV,HB⟩
  have h3:i=n:=by omega
  subst h3
  have hii:¬ ((i:Int)<i):=by omega
  have HV:=A_ (show xs.contains a=false by rw[HF.o,List.drop_of_length_le (by rw[HL.o];exact Nat.le_refl _)];rfl)
  go_wp2
  go_ret
  exact ⟨R_ (by have h:=HV.o;simp at h;simp[h]),HB.o⟩
end Go.Proofs.YtbhemnidcleaiaaGreat.X
