/- A part of the proof. -/
import Derived.Test.YtbhemnidcleaiaaGreatY24
import Derived.Test.YtbhemnidcleaiaaGreatY17
import Derived.Test.YtbhemnidcleaiaaGreatY29
import Derived.Test.YtbhemnidcleaiaaGreatY12
set_option linter.constructorNameAsVariable false
set_option maxHeartbeats 16000000
set_option maxRecDepth 10000
namespace Go.Proofs.YtbhemnidcleaiaaGreat.X
open Go.RowKit Go.XB Go.XN
def IsK (r:TRat):Prop:=∃ a d:Int,(1≤a∧a≤4)∧(1≤d∧d≤2)∧r=mkR a d
def IsF (r:TRat):Prop:=∃ a:Int,(-1≤a∧a≤3)∧r=A1y a
structure CoefI (ks fs:List TRat) (i:Nat):Prop where
 kl:ks.length=i
 fl:fs.length=i
 k:∀ r∈ks,IsK r
 f:∀ r∈fs,IsF r
structure TwoR (w wr:World) (g i gK cK gF cF:Nat) (ks fs:List TRat) (zK zF:List Nat):Prop where
 k:PC w 35 wr gK i cK ks zK
 f:PC w 35 wr gF i cF fs zF
 ne:gK≠gF
 kf:gK∉zF
 fk:gF∉zK
 gr:w.grownBy wr (some g)
def C8v (w:World) (g:Nat) (A:Option Addr) (n c:Nat) (e:Ending) (w':World):Prop:=∃ (ks fs:List TRat) (K:Option Addr) (cK:Nat) (F:Option Addr) (cF:Nat) (bK bF:List Nat),e=.returned (.tuple #[.slice K 3 cK,.slice F 3 cF])∧CoefI ks fs 3∧Sl w' K 3 cK ks bK∧Sl w' F 3 cF fs bF∧(∀ b∈bK++bF,w.heap.size≤b)∧Cur w' g A n c∧w.grownBy w' (some g)
attribute [local go_sem] O_ Go.XB.opAt P_ M_ Region.wanted yielded
attribute [local simp] P_ M_ MP.eq MP.agg MP.sl A0e
theorem B8z (g:Nat) (A:Option Addr) (n c:Nat) (xs:List TByte) (bs:List Nat) (w:World) (hx:Sl w A n c xs bs) (hn:n≤1048576) (hc:Cur w g A n c) (hg:g∉bs) :
  Calls Tryz.prog 58 #[.pointer (some ⟨g,0,none⟩)] w (C8v w g A n c):=by
 have HX:=A_ hx;have HC:=A_ hc;have HG:=A_ hg;have HN:=A_ hn
 have hgl:g<w.heap.size:=hc.lt'
 obtain ⟨i0,hi,hz0,hz1,hz2⟩:=info_parts B9z
 clear hx hc hg hn
 have T0:=A_ (show TwoR w ((w.alloc (.cells #[] 35)).alloc (.cells #[] 35)) g 0 w.heap.size 0 (w.heap.size+1) 0 [] [] [] [] from
  ⟨(PC.start (Nat.le_refl _)).below (Below.box _),by have h:=PC.start (α:=TRat) (e:=35) (w:=w) (w2:=w.alloc (.cells #[] 35)) (by simp);rwa [World.size_alloc] at h,by omega,by simp,by simp,A7p (A7p (World.grownBy.refl _ _) (Below.box _)) (Below.box _)⟩)
 have C0:=A_ (show Cur ((w.alloc (.cells #[] 35)).alloc (.cells #[] 35)) g A n c from (HC.o.below' (Below.box _)).below' (Below.box _))
 go_enter Tryz.func58,Tryz.ntmps58
 go_wp2_with fail
 go_loopg [4,5,6] 3 (fun gg s4 s5 s6 wr=>∃ (i gK cK gF cF:Nat) (ks fs:List TRat) (zK zF:List Nat),i+gg=3∧s6=.int .i64 i∧s4=.slice (some ⟨gK,0,none⟩) i cK∧s5=.slice (some ⟨gF,0,none⟩) i cF∧Hid (TwoR w wr g i gK cK gF cF ks fs zK zF)∧Hid (CoefI ks fs i)∧Hid (Cur wr g A n c))
 case atStart=>exact ⟨0,w.heap.size,0,w.heap.size+1,0,[],[],[],[],rfl,rfl,rfl,rfl,T0.o,⟨rfl,rfl,by simp,by simp⟩,C0.o⟩
 case round =>
  clear T0 C0
  obtain ⟨i,gK,cK,gF,cF,ks,fs,zK,zF,hi3,rfl,rfl,rfl,HT,HI,HC1⟩:=hrel
  rename World=>wr
  rcases Nat.lt_or_ge i 3 with hin | hin
  ·have hii:(i:Int)<3:=by omega
   have hii0:(0:Int)≤i:=by omega
   obtain ⟨gg,rfl⟩:∃ gg,gk=gg+1:=⟨gk - 1,by omega⟩
   have hi':=A_ (show i+1+gg=3 by omega)
   have C3:=A_ (show i+1≤maxLen by unfold maxLen;omega)
   have C4:=A_ (show (i+1)*56≤140737488355328 by omega)
   clear hi3 hin
   go_wp2_with fail
   refine (A3m 4 (by decide) (by decide) g A n c xs bs wr (HX.o.grown HT.o.gr HG.o) HN.o HC1.o HG.o).mono ?_
   rintro _ w3 ⟨x1,rfl,hx1,hc3,hg3⟩
   have HC3:=A_ hc3
   have G3:=A_ (A2j HT.o.gr hg3)
   have KR3:=A_ (HT.o.k.keepG hg3 hgl);have FR3:=A_ (HT.o.f.keepG hg3 hgl)
   obtain ⟨hx10,hx11⟩:=hx1
   clear hc3 hg3
   go_wp2_with fail
   refine (A3m 2 (by decide) (by decide) g A n c xs bs w3 (HX.o.grown G3.o HG.o) HN.o HC3.o HG.o).mono ?_
   rintro _ w4 ⟨x2,rfl,hx2,hc4,hg4⟩
   have HC4:=A_ hc4
   have G4:=A_ (A2j G3.o hg4)
   have KR4:=A_ (KR3.o.keepG hg4 hgl);have FR4:=A_ (FR3.o.keepG hg4 hgl)
   obtain ⟨hx20,hx21⟩:=hx2
   clear hc4 hg4 KR3 FR3
   go_wp2_with fail
   refine (B5l (1+x1) (1+x2) (by omega) (by omega) (by omega) (by omega) w4).mono ?_
   obtain ⟨r,hr⟩:∃ r,mkR (1+x1) (1+x2)=r:=⟨_,rfl⟩
   have IK:=A_ (show IsK r from ⟨1+x1,1+x2,by omega,by omega,hr.symm⟩)
   rw[hr]
   clear hr
   rintro _ w5 ⟨v5,z5,rfl,ha5,ho5,hb5⟩
   obtain ⟨D1,nD1,cD1,d1,D2,nD2,cD2,d2,rfl,hz5,_,_⟩:=TRat.agg ha5
   have B5:=A_ (show Below w4.heap.size w4 (w5.alloc (.cells #[.bool r.num.neg,.slice D1 nD1 cD1,.slice D2 nD2 cD2] 35)) from Below.next hb5 (Below.box _))
   have AT5:=A_ (A7i (ha5.below (Below.box (.cells #[.bool r.num.neg,.slice D1 nD1 cD1,.slice D2 nD2 cD2] 35))))
   have KR5:=A_ (KR4.o.below B5.o);have FR5:=A_ (FR4.o.below B5.o)
   have G5:=A_ (A7p G4.o B5.o)
   have CU5:=A_ (HC4.o.below' B5.o)
   have hgKl:=HT.o.k.lt;have hgFl:=HT.o.f.lt
   have hs4:=G4.o.size
   have hs34:=KR4.o.lt;have hs34f:=FR4.o.lt
   have NZ5:=A_ (show ∀ b∈z5,w4.heap.size≤b from fun b hb=>(ho5.2 b hb).1)
   have HR5:=A_ (show ∀ b∈z5,w.heap.size≤b∧b≠gK from fun b hb=>by have:=NZ5.o b hb;omega)
   have HS5:=A_ G5.o.size
   clear ha5 ho5 hb5 hz5 KR4 FR4
   go_wp2_with (at_builtin;refine A7f rfl _ _ 27 rfl 35 i0 (.agg #[.bool false,.slice none 0 0,.slice none 0 0]) 56 Tryz.underlying27 hi hz0 hz1 hz2 rfl KR5.o HS5.o (by go_simp;done) ⟨w5.heap.size,0,none⟩ 1 [.bool r.num.neg,.slice D1 nD1 cD1,.slice D2 nD2 cD2] r z5 (by go_simp;done) (A0k (heap_alloc_new w5 _)) AT5.o HR5.o C3.o C4.o ?_;intro gK' cK' w6 hp6 hgr6 hor6)
   have CU6:=A_ (CU5.o.keep' (hgr6.block g (by have:=CU5.o.lt';omega) (by intro e;injection e with e;omega)) hgr6.size)
   have G6:=A_ (B6f G5.o hgr6 hgKl.1)
   have FR6:=A_ (FR5.o.keep hgr6 HT.o.ne HT.o.kf)
   have NE6:=A_ (show gK'≠gF from by have h1:=FR5.o.lt;have h2:=HT.o.ne;rcases hor6 with h | h<;>omega)
   have KF6:=A_ (show gK'∉zF from by
    rcases hor6 with h | h
    ·rw[h];exact HT.o.kf
    intro hm;have h1:=FR5.o.zlt _ hm;omega)
   have FK6:=A_ (show gF∉zK++z5 from by
    intro hm
    rcases List.mem_append.1 hm with hm | hm
    ·exact HT.o.fk hm
    have:=NZ5.o _ hm;omega)
   have KR6:=A_ hp6
   have II6:=A_ (show (ks++[r]).length=i+1∧∀ r'∈ks++[r],IsK r' from ⟨by simp[HI.o.kl],fun r' hr'=>by
    rcases List.mem_append.1 hr' with h | h
    ·exact HI.o.k _ h
    rw[List.mem_singleton.1 h];exact IK.o⟩)
   have JI:=A_ (show fs.length=i∧∀ r∈fs,IsF r from ⟨HI.o.fl,HI.o.f⟩)
   clear hp6 hgr6 hor6 HT HI IK KR5 FR5 G5 CU5 B5 AT5 NZ5 HR5 HS5 G4 G3 HC3 HC4 hgKl hgFl hs4 hs34 hs34f HC1
   obtain ⟨ks',hks'⟩:∃ l,l=ks++[r]:=⟨_,rfl⟩
   obtain ⟨zK',hzK'⟩:∃ l,l=zK++z5:=⟨_,rfl⟩
   rw[← hks'] at KR6 II6
   rw[← hzK'] at KR6 FK6
   clear hks' hzK'
   refine (A3m 5 (by decide) (by decide) g A n c xs bs w6 (HX.o.grown G6.o HG.o) HN.o CU6.o HG.o).mono ?_
   rintro _ w7 ⟨x3,rfl,hx3,hc7,hg7⟩
   have HC7:=A_ hc7
   have G7:=A_ (A2j G6.o hg7)
   have KR7:=A_ (KR6.o.keepG hg7 hgl);have FR7:=A_ (FR6.o.keepG hg7 hgl)
   obtain ⟨hx30,hx31⟩:=hx3
   clear hc7 hg7 KR6 FR6 CU6 G6
   go_wp2_with fail
   refine (A7u (x3 - 1) w7 (by constructor<;>omega)).mono ?_
   obtain ⟨rf,hrf⟩:∃ r,A1y (x3 - 1)=r:=⟨_,rfl⟩
   have IF':=A_ (show IsF rf from ⟨x3 - 1,by omega,hrf.symm⟩)
   rw[hrf]
   clear hrf
   rintro _ w8 ⟨v8,z8,rfl,ha8,ho8,hb8⟩
   obtain ⟨E1,nE1,cE1,e1,E2,nE2,cE2,e2,rfl,hz8,_,_⟩:=TRat.agg ha8
   have B8:=A_ (show Below w7.heap.size w7 (w8.alloc (.cells #[.bool rf.num.neg,.slice E1 nE1 cE1,.slice E2 nE2 cE2] 35)) from Below.next hb8 (Below.box _))
   have AT8:=A_ (A7i (ha8.below (Below.box (.cells #[.bool rf.num.neg,.slice E1 nE1 cE1,.slice E2 nE2 cE2] 35))))
   have KR8:=A_ (KR7.o.below B8.o);have FR8:=A_ (FR7.o.below B8.o)
   have G8:=A_ (A7p G7.o B8.o)
   have CU8:=A_ (HC7.o.below' B8.o)
   have hgKl:=KR7.o.lt;have hgFl:=FR7.o.lt
   have hs7:=G7.o.size
   have NZ8:=A_ (show ∀ b∈z8,w7.heap.size≤b from fun b hb=>(ho8.2 b hb).1)
   have HR8:=A_ (show ∀ b∈z8,w.heap.size≤b∧b≠gF from fun b hb=>by have:=NZ8.o b hb;omega)
   have HS8:=A_ G8.o.size
   clear ha8 ho8 hb8 hz8 FR7 G7 HC7
   go_wp2_with (at_builtin;refine A7f rfl _ _ 27 rfl 35 i0 (.agg #[.bool false,.slice none 0 0,.slice none 0 0]) 56 Tryz.underlying27 hi hz0 hz1 hz2 rfl FR8.o HS8.o (by go_simp;done) ⟨w8.heap.size,0,none⟩ 1 [.bool rf.num.neg,.slice E1 nE1 cE1,.slice E2 nE2 cE2] rf z8 (by go_simp;done) (A0k (heap_alloc_new w8 _)) AT8.o HR8.o C3.o C4.o ?_;intro gF' cF' w9 hp9 hgr9 hor9)
   have CU9:=A_ (CU8.o.keep' (hgr9.block g (by have:=CU8.o.lt';omega) (by intro e;injection e with e;omega)) hgr9.size)
   have G9:=A_ (B6f G8.o hgr9 hgFl.1)
   have KR9:=A_ (KR8.o.keep hgr9 (Ne.symm NE6.o) FK6.o)
   have NE9:=A_ (show gK'≠gF' from by have h1:=KR8.o.lt;have h2:=NE6.o;rcases hor9 with h | h<;>omega)
   have FK9:=A_ (show gF'∉zK' from by
    rcases hor9 with h | h
    ·rw[h];exact FK6.o
    intro hm;have h1:=KR8.o.zlt _ hm;omega)
   have KF9:=A_ (show gK'∉zF++z8 from by
    intro hm
    rcases List.mem_append.1 hm with hm | hm
    ·exact KF6.o hm
    have:=NZ8.o _ hm;omega)
   have T9:=A_ (show TwoR w w9 g (i+1) gK' cK' gF' cF' ks' (fs++[rf]) zK' (zF++z8) from ⟨KR9.o,hp9,NE9.o,KF9.o,FK9.o,G9.o⟩)
   have I9:=A_ (show CoefI ks' (fs++[rf]) (i+1) from ⟨II6.o.1,by simp[JI.o.1],II6.o.2,fun r' hr'=>by
    rcases List.mem_append.1 hr' with h | h
    ·exact JI.o.2 _ h
    rw[List.mem_singleton.1 h];exact IF'.o⟩)
   clear hp9 hgr9 hor9 KR9 NE9 FK9 KF9 G9 II6 JI IF' AT8 B8 NZ8 HR8 HS8 G8 KR8 FR8 CU8 KR7 NE6 KF6 FK6
   go_wp2_with fail
   go_roundg gg
   case measure=>omega
   case rel=>exact ⟨i+1,gK',cK',gF',cF',ks',fs++[rf],zK',zF++z8,hi'.o,by go_simp,rfl,rfl,T9,I9,CU9⟩
  have h3:i=3:=by omega
  subst h3
  go_wp2_with fail
  have hT:=HT.o
  obtain ⟨bK,sK,oK⟩:=hT.k.sl
  obtain ⟨bF,sF,oF⟩:=hT.f.sl
  refine bodyPost_ret (v:=.tuple #[.slice (some ⟨gK,0,none⟩) 3 cK,.slice (some ⟨gF,0,none⟩) 3 cF]) (by simp[results,Tryz.results58,go_sem, *]) rfl ?_
  refine ⟨ks,fs,_,cK,_,cF,bK,bF,rfl,HI.o,sK,sF,?_,HC1.o,hT.gr⟩
  intro b hb
  rcases List.mem_append.1 hb with hb | hb
  ·exact oK b hb
  exact oF b hb
end Go.Proofs.YtbhemnidcleaiaaGreat.X
