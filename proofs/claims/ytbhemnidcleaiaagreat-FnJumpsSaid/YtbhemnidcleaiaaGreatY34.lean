/- A part of the proof. -/
import Derived.Test.YtbhemnidcleaiaaGreatY32
import Derived.Test.YtbhemnidcleaiaaGreatY17
set_option linter.constructorNameAsVariable false
set_option maxHeartbeats 16000000
set_option maxRecDepth 10000
namespace Go.Proofs.YtbhemnidcleaiaaGreat.X
open Go.RowKit Go.XB Go.XN
def B3r (es:List TEdge) (t:TTri) (k:Int):Nat→List TEdge
 | 0=>es
 | 1=>A9x es t.a t.b k
 | 2=>A9x (A9x es t.a t.b k) t.b t.c k
 | _=>put3 es t k
theorem C3j {es:List TEdge} {t:TTri} {k:Int} {i:Nat} {a b:Int} (h3:i<3) (ha:[t.a,t.b,t.c][i]?=some a) (hb:[t.a,t.b,t.c][(i+1) % 3]?=some b):B3r es t k (i+1)=A9x (B3r es t k i) a b k:=by
 obtain rfl | rfl | rfl:i=0∨i=1∨i=2:=by omega
 ·cases ha;cases hb;rfl
 ·cases ha;cases hb;rfl
 cases ha;cases hb;rfl
def D5a (w:World) (es:List TEdge) (e:Ending) (w':World):Prop:=∃ g n c,e=.returned (.slice (some ⟨g,0,none⟩) n c)∧ER w' w.heap.size g n c es∧Below w.heap.size w w'
theorem ER.sl {w:World} {base g n c:Nat} {es:List TEdge} (h:ER w base g n c es):∃ bs,Sl w (some ⟨g,0,none⟩) n c es bs∧∀ b∈bs,b=g:=B0g h.1 h.2.1 h.2.2
attribute [local go_sem] O_ Go.XB.opAt P_ M_ Region.wanted yielded
attribute [local simp] P_ M_ MP.eq MP.agg MP.sl A0e
theorem B2y (v:Value) (m:TMesh) (b:List Nat) (w:World) (hx:Agg w v m b) (hm:m.triangles.length≤48) :
  Calls Tryz.prog 178 #[v] w (D5a w (A4e m.triangles m.triangles.length)):=by
 obtain ⟨A0,n0,c0,s0,A1,n1,c1,s1,rfl,rfl,hs0,hs1⟩:=TMesh.agg hx
 have HS:=A_ hs1
 have HLN:=A_ hs1.1
 have hn1:n1≤48:=by rw[← hs1.1];exact hm
 have hn1i:(n1:Int)≤48:=by omega
 clear hx hs0 hs1 hm
 obtain ⟨ts,hts⟩:∃ ts,m.triangles=ts:=⟨_,rfl⟩
 rw[hts] at HS HLN ⊢
 clear hts
 have ST:=A_ (show ER ((w.alloc (.cells #[.slice A0 n0 c0,.slice A1 n1 c1] 26)).alloc (.cells #[] 70)) w.heap.size (w.heap.size+1) 0 0 (A4e ts 0) by
  refine ⟨?_,rfl,fun e he=>by cases he⟩
  have:=World.ownsRow_made (base:=w.heap.size) (e:=70) (size:=4) (w.alloc (.cells #[.slice A0 n0 c0,.slice A1 n1 c1] 26)) #[] 0 (by simp) (Nat.zero_le _) rfl
  rw[World.size_alloc] at this
  exact this)
 have B0:=A_ (show Below w.heap.size w ((w.alloc (.cells #[.slice A0 n0 c0,.slice A1 n1 c1] 26)).alloc (.cells #[] 70)) from (Below.box _).alloc (by simp) _)
 go_enter Tryz.func178,Tryz.ntmps178
 go_wp2_with fail
 go_loopg [3,13] n1 (fun g s3 s13 wr=>∃ (k gB cap L:Nat),k+g=n1∧s13=.int .i64 k∧s3=.slice (some ⟨gB,0,none⟩) L cap∧Hid (ER wr w.heap.size gB L cap (A4e ts k))∧Hid (L≤3*k)∧Hid (Below w.heap.size w wr))
 case atStart=>exact ⟨0,w.heap.size+1,0,0,by omega,rfl,rfl,ST.o,Nat.le_refl 0,B0.o⟩
 case round =>
  clear ST B0
  obtain ⟨k,gB,cap,L,hk,rfl,rfl,HR,HL,HB⟩:=hrel
  rcases Nat.lt_or_ge k n1 with hkn | hkn
  ·obtain ⟨g,rfl⟩:∃ g,gk=g+1:=⟨gk - 1,by omega⟩
   have hk':=A_ (show k+1+g=n1 by omega)
   have hki:(k:Int)<n1:=by omega
   have hki0:(0:Int)≤k:=by omega
   obtain ⟨be,of,t,rfl,hbl,hx1,e0,e1,e2,e3,e4,hag⟩:=TTri.elemA (HS.o.below HB.o) hkn
   have HAG:=A_ hag
   have ITT:=A_ (show I64 t.a∧I64 t.b∧I64 t.c from by obtain ⟨_,_,i1,i2,i3,_,_⟩:=TTri.agg hag;exact ⟨i1,i2,i3⟩)
   have NX:=A_ (show A4e ts (k+1)=put3 (A4e ts k) t k by rw[A4e,List.getD_eq_getElem?_getD,hx1];rfl)
   have IK:=A_ (show I64 (k:Int) by constructor<;>omega)
   have HKB:=A_ (show 3*k+3≤200 by omega)
   clear hk hkn hx1 hag
   go_wp2_with fail
   refine (B6c _ t _ (wr.alloc (.cells #[.int .i64 t.a,.int .i64 t.b,.int .i64 t.c,.int .i64 t.region,.int .i64 t.level] 93)) (HAG.o.below (Below.box _)) ITT.o).mono ?_
   rintro _ w2 ⟨rfl,⟨bT,hT⟩,hb2⟩
   rw[World.size_alloc] at hT
   have HB12:=A_ (show Below wr.heap.size wr w2 from Below.trans (Below.box _) (hb2.mono (by simp)))
   have HB2:=A_ (Below.next HB.o HB12.o)
   have R2:=A_ (HR.o.below HB12.o)
   have TC:=A_ (show ∀ (j:Nat) (x:Int),[t.a,t.b,t.c][j]?=some x→w2.cell? ⟨wr.heap.size+1+1,j,none⟩=some (.int .i64 x) from fun j x hj=>by
    obtain ⟨bq,oq,y,hAq,_,hj2,_,ej⟩:=Sl.getInt hT (k:=j) (by have:=(List.getElem?_eq_some_iff.1 hj).1;simpa using this)
    cases hAq
    rw[Nat.zero_add] at ej
    rw[hj] at hj2
    cases hj2
    exact ej)
   have TL:=A_ (show wr.heap.size+1+1<w2.heap.size by
    obtain ⟨bq,oq,y,hAq,hl,_⟩:=Sl.getInt hT (k:=0) (by decide)
    cases hAq
    exact hl)
   have GN:=A_ (show gB≠wr.heap.size+1+1 by have:=HR.o.lt;omega)
   obtain ⟨es0,hes0⟩:∃ es,A4e ts k=es:=⟨_,rfl⟩
   rw[hes0] at R2 NX
   clear hT hb2 hes0 HR
   go_wp2_with fail
   go_loopg [3,22] 3 (fun g s3 s22 wi=>∃ (i gC cap2 L2:Nat),i+g=3∧s22=.int .i64 i∧s3=.slice (some ⟨gC,0,none⟩) L2 cap2∧Hid (ER wi w.heap.size gC L2 cap2 (B3r es0 t k i))∧Hid (L2≤3*k+i)∧Hid (gC≠wr.heap.size+1+1)∧Hid (Below w.heap.size w wi)∧Hid (∀ (j:Nat) (x:Int),[t.a,t.b,t.c][j]?=some x→wi.cell? ⟨wr.heap.size+1+1,j,none⟩=some (.int .i64 x))∧Hid (wr.heap.size+1+1<wi.heap.size))
   case atStart=>exact ⟨0,gB,cap,L,rfl,rfl,rfl,R2.o,HL.o,GN.o,HB2.o,TC.o,TL.o⟩
   case round =>
   clear R2 TC TL GN HB2 HB12 HL
   obtain ⟨i,gC,cap2,L2,hi,rfl,rfl,HRi,HLi,HNi,HBi,HCi,HZi⟩:=hrel
   rename World=>wi
   rcases Nat.lt_or_ge i 3 with hi3 | hi3
   ·obtain ⟨gh,rfl⟩:∃ gh,gk=gh+1:=⟨gk - 1,by omega⟩
    have hi':=A_ (show i+1+gh=3 by omega)
    have hii:(i:Int)<3:=by omega
    have hii0:(0:Int)≤i:=by omega
    obtain ⟨j,hj⟩:∃ j,j=(i+1) % 3:=⟨_,rfl⟩
    have hj3:j<3:=by omega
    have hji:(j:Int)<3:=by omega
    have hj0:(0:Int)≤j:=by omega
    have hwi:IntKind.i64.wrap ((i:Int)+1)=(i:Int)+1:=by rw[IntKind.wrap_i64];omega
    have hwj:IntKind.i64.wrap (j:Int)=(j:Int):=by rw[IntKind.wrap_i64];omega
    have hm1:Int.tmod ((i:Int)+1) 3=j:=by rw[Int.tmod_eq_emod_of_nonneg (by omega)];omega
    obtain ⟨x,hx⟩:∃ x,[t.a,t.b,t.c][i]?=some x:=⟨_,List.getElem?_eq_getElem hi3⟩
    obtain ⟨y,hy⟩:∃ y,[t.a,t.b,t.c][j]?=some y:=⟨_,List.getElem?_eq_getElem hj3⟩
    have ex:=HCi.o i x hx
    have ey:=HCi.o j y hy
    have hz:=HZi.o
    have ok3:∀ z∈[t.a,t.b,t.c],I64 z:=fun z hz=>by
     have:=ITT.o
     simp at hz
     rcases hz with rfl | rfl | rfl
     ·exact this.1
     ·exact this.2.1
     exact this.2.2
    have IX:=A_ (ok3 x (List.mem_of_getElem? hx))
    have IY:=A_ (ok3 y (List.mem_of_getElem? hy))
    have ST:=A_ (show B3r es0 t k (i+1)=A9x (B3r es0 t k i) x y k from C3j hi3 hx (by rw[← hj];exact hy))
    have HL2:=A_ (show L2≤200 by have:=HLi.o;have:=HKB.o;omega)
    clear hi hi3 hx hy hj ok3
    go_wp2_with fail
    refine (C4d w.heap.size gC L2 cap2 (B3r es0 t k i) x y k wi HRi.o HL2.o IX.o IY.o IK.o).mono ?_
    rintro _ w3 ⟨g',n',c',rfl,hr3,hg3,hor3⟩
    have LN:=A_ (show n'≤3*k+(i+1) by have h1:=B5f (B3r es0 t k i) x y k;have h2:=hr3.2.1;have h3:=HRi.o.2.1;have h4:=HLi.o;omega)
    have GN:=A_ (show g'≠wr.heap.size+1+1 by have:=HNi.o;have:=HZi.o;rcases hor3 with h | h<;>omega)
    rw[← ST.o] at hr3
    have R3:=A_ hr3
    have BQ3:=A_ (HBi.o.grown hg3 HBi.o.size (fun k hk=>by injection hk with h;have:=HRi.o.lt;omega))
    have C3:=A_ (show ∀ (j:Nat) (x:Int),[t.a,t.b,t.c][j]?=some x→w3.cell? ⟨wr.heap.size+1+1,j,none⟩=some (.int .i64 x) from fun j x hj=>(World.cell?_of_block (a:=⟨wr.heap.size+1+1,j,none⟩) (hg3.block _ HZi.o (by intro e;injection e with e;exact HNi.o e.symm))).trans (HCi.o j x hj))
    have Z3:=A_ (show wr.heap.size+1+1<w3.heap.size from Nat.lt_of_lt_of_le HZi.o hg3.size)
    clear hr3 hg3 hor3 ex ey
    go_wp2_with fail
    go_roundg gh
    case measure=>omega
    case rel=>exact ⟨i+1,g',c',n',hi'.o,by go_simp,rfl,R3.o,LN.o,GN.o,BQ3.o,C3.o,Z3.o⟩
   obtain rfl:i=3:=by omega
   have R4:=A_ (show ER wi w.heap.size gC L2 cap2 (A4e ts (k+1)) by rw[NX.o];exact HRi.o)
   have L4:=A_ (show L2≤3*(k+1) by have:=HLi.o;omega)
   clear hi hi3
   go_wp2_with fail
   go_roundg g
   case measure=>omega
   case rel=>exact ⟨k+1,gC,cap2,L2,hk'.o,by go_simp,rfl,R4.o,L4.o,HBi.o⟩
  obtain rfl:k=n1:=by omega
  have hii:¬ ((k:Int)<k):=by omega
  have R4:=A_ (show ER wr w.heap.size gB L cap (A4e ts ts.length) by rw[HLN.o];exact HR.o)
  clear hk hkn
  go_wp2
  go_ret
  exact ⟨gB,L,cap,rfl,R4.o,HB.o⟩
end Go.Proofs.YtbhemnidcleaiaaGreat.X
